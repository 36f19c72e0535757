import PyProof.Rows.All
import Open.Line
import Wide.FinOn
import Open.Head
import Open.Row
import PyProof.AssignAttr
import PyProof.CallI
import PyProof.CallType
import PyProof.Cells
import PyProof.CompFree
import PyProof.CompMap
import PyProof.Conv_int_bool
import PyProof.DefCall
import PyProof.EnumFor
import PyProof.EqKinds
import PyProof.ExcAttrAll.ValueError
import PyProof.ExcClass3
import PyProof.ExcClsAt2
import PyProof.FactsAll.list_3
import PyProof.InstStore
import PyProof.InstStoreFacts
import PyProof.IsInstanceT
import PyProof.IsRules
import PyProof.IsiHeapPairs
import PyProof.IsiNone
import PyProof.IsiPairs
import PyProof.ListCopy
import PyProof.ListIndex
import PyProof.ListIndexNeg
import PyProof.ListOps
import PyProof.ListRange
import PyProof.MeetsSeq
import PyProof.NeData
import PyProof.P3Eq
import PyProof.P3In
import PyProof.Raises
import PyProof.RangeFor
import PyProof.Rows.AttrNodeAny
import PyProof.Rows.CellsFrame
import PyProof.Rows.Chain
import PyProof.Rows.Frame
import PyProof.Rows.IntRules
import PyProof.Rows.ListMul
import PyProof.Rows.Lst
import PyProof.Rows.Nodes
import PyProof.Rows.PlainEq
import PyProof.Rows.PlainObj
import PyProof.Rows.RuleB_floordiv
import PyProof.Rows.RuleB_mod
import PyProof.Rows.RuleB_mul
import PyProof.Rows.RuleB_pow
import PyProof.Rows.RuleC_int
import PyProof.Rows.RuleU_int
import PyProof.Rows.SeqJoint
import PyProof.Rows.StrTemp
import PyProof.Rows.SumAny
import PyProof.Rows.Top
import PyProof.Rows.Tup
import PyProof.Rows.TupSub
import PyProof.RulesAs
import PyProof.RulesAssignMore
import PyProof.RulesMatch
import PyProof.RulesRaise
import PyProof.SliceList
import PyProof.StationsW
import PyProof.TupleIter
import PyProof.TupleOps
import PyProof.WalkInts
import PyProof.WalksMore
import PyProof.ZipIter
import Wide.BridgeG
import Wide.Well
import PySem.Challenge.RW_uf030039_10
set_option Elab.async false
set_option genSizeOf false
set_option compiler.extract_closed false
set_option maxHeartbeats 4000000
@[elab_as_elim] theorem Mini.rwE {α : Sort _} {a b : α} {p : α → Prop} (h : a = b) (m : p b) : p a := h ▸ m
namespace Mini
open PySem
/-- the exceptions' classes, by number: NoHall, NoGate, NoRow, Stranger, NoWalker, NoRest; HallError -/
noncomputable def excNums : List Nat := [0, 1, 2, 3, 4, 5, 100]

noncomputable def vmro : List Value := [.type "ValueError", .type "Exception", .type "BaseException", .type "object"]

noncomputable def exNm : Nat → Str
  | 0 => "NoHall"
  | 1 => "NoGate"
  | 2 => "NoRow"
  | 3 => "Stranger"
  | 4 => "NoWalker"
  | 5 => "NoRest"
  | _ => "HallError"

noncomputable def exA (mg : Str → Option Value) (k : Nat) : Addr := match mg (exNm k) with
  | some (.ref a) => a
  | _ => 0

noncomputable def q3 (h : Heap) (x : Str) : Bool := match h.clsAt mainGlobals x with
  | some (_, _, cd) => ([("__getattribute__" : Str), ("__getattr__" : Str), ("__class__" : Str)] : List Str).all fun n => (h.nsMap cd.ns n).isNone
  | none => false

noncomputable def chainOf (k : Nat) : List Str := if k = 100 then [] else ["HallError"]

noncomputable def excSeen (h : Heap) : Bool := h.isNs mainGlobals && excNums.all (fun k => h.ownExcOk (exNm k) (chainOf k) vmro "ValueError.__new__" && q3 h (exNm k)) && decide ((excNums.map fun k => exA (h.nsMap mainGlobals) k).Nodup)
end Mini
open PySem PySem.W PyProof.Rows in
noncomputable def Mini.isNm0 : Stmt → Bool
  | .Assign [.Name x _] _ _ => x == ("__name__" : Str)
  | _ => false
open PySem PySem.W PyProof.Rows in
noncomputable def Mini.pv : Program := PySem.Challenge.rw_uf030039_10.row.toRowW.prog
open PySem PySem.W PyProof.Rows in
noncomputable def Mini.qv : Program := { Mini.pv with main := { Mini.pv.main with body := Mini.pv.main.body.filter fun s => !Mini.isNm0 s } }
open PySem PySem.W PyProof.Rows in
noncomputable def Mini.xv : Shared → Bool := fun s => xlAt Mini.qv [] s && recOk (RowW.records PySem.Challenge.rw_uf030039_10.row.toRowW) s
open PySem PySem.W PyProof.Rows in
set_option maxRecDepth 100000 in
set_option maxHeartbeats 8000000 in
theorem Mini.left0 : LeftO Mini.pv Mini.qv [] Mini.xv (fun s : Shared => Mini.excSeen s.heap) (fun _ : World => true) 20000 := fun w => by kernel_rfl
set_option autoImplicit false
namespace Mini
set_option genInjectivity false
set_option genSizeOfSpec false
inductive Cj2 (A1 A2 : Prop) : Prop | mk (h1 : A1) (h2 : A2)
inductive Cj3 (A1 A2 A3 : Prop) : Prop | mk (h1 : A1) (h2 : A2) (h3 : A3)
inductive Cj4 (A1 A2 A3 A4 : Prop) : Prop | mk (h1 : A1) (h2 : A2) (h3 : A3) (h4 : A4)
inductive Cj5 (A1 A2 A3 A4 A5 : Prop) : Prop | mk (h1 : A1) (h2 : A2) (h3 : A3) (h4 : A4) (h5 : A5)
inductive Cj6 (A1 A2 A3 A4 A5 A6 : Prop) : Prop | mk (h1 : A1) (h2 : A2) (h3 : A3) (h4 : A4) (h5 : A5) (h6 : A6)
inductive Cj7 (A1 A2 A3 A4 A5 A6 A7 : Prop) : Prop | mk (h1 : A1) (h2 : A2) (h3 : A3) (h4 : A4) (h5 : A5) (h6 : A6) (h7 : A7)
inductive Cj8 (A1 A2 A3 A4 A5 A6 A7 A8 : Prop) : Prop | mk (h1 : A1) (h2 : A2) (h3 : A3) (h4 : A4) (h5 : A5) (h6 : A6) (h7 : A7) (h8 : A8)
inductive Ek1 {A1 : Type} (P : A1 → Prop) : Prop | mk (x1 : A1) (h : P x1)
inductive Ek2 {A1 A2 : Type} (P : A1 → A2 → Prop) : Prop | mk (x1 : A1) (x2 : A2) (h : P x1 x2)
inductive Ek3 {A1 A2 A3 : Type} (P : A1 → A2 → A3 → Prop) : Prop | mk (x1 : A1) (x2 : A2) (x3 : A3) (h : P x1 x2 x3)
inductive Ek4 {A1 A2 A3 A4 : Type} (P : A1 → A2 → A3 → A4 → Prop) : Prop | mk (x1 : A1) (x2 : A2) (x3 : A3) (x4 : A4) (h : P x1 x2 x3 x4)
inductive Ek5 {A1 A2 A3 A4 A5 : Type} (P : A1 → A2 → A3 → A4 → A5 → Prop) : Prop | mk (x1 : A1) (x2 : A2) (x3 : A3) (x4 : A4) (x5 : A5) (h : P x1 x2 x3 x4 x5)
inductive Ek7 {A1 A2 A3 A4 A5 A6 A7 : Type} (P : A1 → A2 → A3 → A4 → A5 → A6 → A7 → Prop) : Prop | mk (x1 : A1) (x2 : A2) (x3 : A3) (x4 : A4) (x5 : A5) (x6 : A6) (x7 : A7) (h : P x1 x2 x3 x4 x5 x6 x7)
set_option genInjectivity true
set_option genSizeOfSpec true

/-- abstract values: tuples, instances of Hall and exceptions are plain values; lists live in the heap -/
inductive V where
  | none
  | bool (b : Bool)
  | int (i : Int)
  | str (k : Nat)
  | ref (a : Nat)
  | tup (xs : List V)
  | inst (xs : List V)
  | exc (c : Nat)

/-- the abstract heap: the lists; 0 is the script, never changed -/
abbrev H := List (List V)
/-- the locals -/
abbrev M := List (Option V)
/-- pure data, a bool being the int that it equals -/
inductive D where
  | none
  | int (i : Int)
  | str (k : Nat)
  | list (xs : List D)
  | tup (xs : List D)

noncomputable def lim : Nat := 16777216

inductive Bin where
  | add | sub | mul | fdiv | mod
inductive Cmp where
  | eq | ne | lt | le | gt | ge | is | isNot | inn | notIn
inductive Kd where
  | int | bool | list
inductive B1 where
  | len | list | intOf | sum
inductive M0 where
  | reverse
inductive M1 where
  | append | pop | count | index

set_option genInjectivity false
set_option genSizeOfSpec false
mutual
inductive E where
  | none
  | bool (b : Bool)
  | int (i : Int)
  | str (k : Nat)
  | var (x : Nat)
  | bin (o : Bin) (a b : E)
  | neg (a : E)
  | not (a : E)
  | and (a b : E)
  | or (a b : E)
  | cmp (o : Cmp) (a b : E)
  | cmp2 (o : Cmp) (a b : E) (p : Cmp) (c : E)
  | ite (t a b : E)
  | call (f : Nat) (as : List E)
  | hall (as : List E)
  | b1 (f : B1) (a : E)
  | isinst (a : E) (k : Kd)
  | isexc (a : E) (ks : List Nat)
  | attr (a : E) (k : Nat)
  | idx (a b : E)
  | from_ (a b : E)
  | upto (a b : E)
  | disp (as : List E)
  | tup (as : List E)
  | m0 (f : M0) (a : E)
  | m1 (f : M1) (a b : E)
  | comp (elt : E) (x : Nat) (src : Src)
  | compIf (elt : E) (x : Nat) (src : Src) (test : E)
inductive Src where
  | list (a : E)
  | range (a : E)
  | enum (a : E)
end

inductive S where
  | set (x : Nat) (e : E)
  | unpack (xs : List Nat) (e : E)
  | put (a i e : E)
  | expr (e : E)
  | ite (t : E) (a b : List S)
  | while (t : E) (b : List S)
  | for (xs : List Nat) (src : Src) (b : List S)
  | ret (e : E)
  | raise (c : Nat)
  | call (f : Nat) (as : List E)
  | setC (y f : Nat) (as : List E)
  | unpC (ys : List Nat) (f : Nat) (as : List E)
  | try (b : List S) (hs : List (Nat × Option Nat × List S))

set_option genInjectivity true
set_option genSizeOfSpec true
structure Fn where
  np : Nat
  ns : Nat
  body : List S

noncomputable def get : M → Nat → Option V
  | [], _ => .none
  | v :: _, 0 => v
  | _ :: m, n + 1 => get m n
noncomputable def put : M → Nat → V → M
  | [], _, _ => []
  | _ :: m, 0, v => some v :: m
  | w :: m, n + 1, v => w :: put m n v
noncomputable def puts : M → List Nat → List V → Option M
  | m, [], [] => some m
  | m, x :: xs, v :: vs => puts (put m x v) xs vs
  | _, _, _ => .none

noncomputable def mapO {α β : Type} (f : α → Option β) : List α → Option (List β)
  | [] => some []
  | v :: vs => match f v, mapO f vs with
    | some d, some ds => some (d :: ds)
    | _, _ => .none

noncomputable def snap : Nat → H → V → Option D
  | n, σ, v => match v with
    | .none => some .none
    | .bool b => some (.int (if b then 1 else 0))
    | .int i => some (.int i)
    | .str k => some (.str k)
    | .ref a => match n with
      | 0 => .none
      | n + 1 => match σ[a]? with
        | some xs => (mapO (snap n σ) xs).map .list
        | .none => .none
    | .tup xs => match n with
      | 0 => .none
      | n + 1 => (mapO (snap n σ) xs).map .tup
    | .inst _ => .none
    | .exc _ => .none

abbrev P := V → H → Prop
abbrev X := Nat → H → Prop
abbrev Cal := Nat → List V → H → P → X → Prop

noncomputable def alloc (xs : List V) (σ : H) (Q : P) : Prop := xs.length ≤ lim ∧ Q (.ref σ.length) (σ ++ [xs])

noncomputable def onI (a b : V) (f : Int → Int → Prop) : Prop := match a with
  | .int i => (match b with
    | .int j => f i j
    | _ => False)
  | _ => False
noncomputable def binI (o : Bin) (a b : Int) (σ : H) (Q : P) : Prop := match o with
  | .add => Q (.int (a + b)) σ
  | .sub => Q (.int (a - b)) σ
  | .mul => (-(2 ^ 63) < b ∧ b < 2 ^ 63) ∧ Q (.int (a * b)) σ
  | .fdiv => (0 < b ∧ b < 1073741824) ∧ Q (.int (a / b)) σ
  | .mod => 0 < b ∧ Q (.int (a % b)) σ
noncomputable def binop (o : Bin) (a b : V) (σ : H) (Q : P) : Prop := match a with
  | .int i => (match b with
    | .int j => binI o i j σ Q
    | _ => False)
  | .ref r => (match b with
    | .ref t => o = .add ∧ ∃ xs ys, σ[r]? = some xs ∧ σ[t]? = some ys ∧ alloc (xs ++ ys) σ Q
    | .int k => o = .mul ∧ ∃ xs, σ[r]? = some xs ∧ k < 2 ^ 24 ∧ -(2 ^ 24) < k ∧ alloc (List.replicate k.toNat xs).flatten σ Q
    | _ => False)
  | _ => False

noncomputable def truthy (K : Bool → H → Prop) : V → H → Prop
  | .bool b, σ => K b σ
  | _, _ => False

noncomputable def inL (a b : V) (σ : H) (f : D → List D → Prop) : Prop := match b with
  | .ref r => ∃ d xs ds, snap 12 σ a = some d ∧ σ[r]? = some xs ∧ mapO (snap 11 σ) xs = some ds ∧ f d ds
  | .tup xs => ∃ d ds, snap 12 σ a = some d ∧ mapO (snap 11 σ) xs = some ds ∧ f d ds
  | _ => False
noncomputable def cmpop (o : Cmp) (a b : V) (σ : H) (Q : P) : Prop := match o with
  | .eq => ∃ d e, snap 12 σ a = some d ∧ snap 12 σ b = some e ∧ ∀ c : Bool, (c = true ↔ d = e) → Q (.bool c) σ
  | .ne => ∃ d e, snap 12 σ a = some d ∧ snap 12 σ b = some e ∧ ∀ c : Bool, (c = true ↔ ¬ d = e) → Q (.bool c) σ
  | .lt => onI a b fun i j => Q (.bool (decide (i < j))) σ
  | .le => onI a b fun i j => Q (.bool (decide (i ≤ j))) σ
  | .gt => onI a b fun i j => Q (.bool (decide (j < i))) σ
  | .ge => onI a b fun i j => Q (.bool (decide (j ≤ i))) σ
  | .is => (match b with
    | .none => ∀ c : Bool, (c = true ↔ a = .none) → Q (.bool c) σ
    | _ => False)
  | .isNot => (match b with
    | .none => ∀ c : Bool, (c = true ↔ ¬ a = .none) → Q (.bool c) σ
    | .bool y => (match a with
      | .bool x => Q (.bool (x != y)) σ
      | _ => False)
    | _ => False)
  | .inn => inL a b σ fun d ds => ∀ c : Bool, (c = true ↔ d ∈ ds) → Q (.bool c) σ
  | .notIn => inL a b σ fun d ds => ∀ c : Bool, (c = true ↔ ¬ d ∈ ds) → Q (.bool c) σ

/-- isinstance, as far as it is asked -/
noncomputable def isKd : Kd → V → Option Bool
  | .int, .int _ => some true
  | .bool, .int _ => some false
  | .bool, .none => some false
  | .bool, .bool _ => some true
  | .list, .ref _ => some true
  | .list, .int _ => some false
  | _, _ => .none
/-- an exception's class is this one, or one above: 100 HallError, 101 ValueError -/
noncomputable def excSub (c d : Nat) : Bool := c == d || d == 100 || d == 101

noncomputable def bi1 : B1 → V → H → P → Prop
  | .len, .ref a, σ, Q => ∃ xs, σ[a]? = some xs ∧ Q (.int xs.length) σ
  | .len, .tup xs, σ, Q => xs.length ≤ lim ∧ Q (.int xs.length) σ
  | .list, .ref a, σ, Q => ∃ xs, σ[a]? = some xs ∧ alloc xs σ Q
  | .intOf, .bool b, σ, Q => Q (.int (if b then 1 else 0)) σ
  | .sum, .ref a, σ, Q => ∃ (xs : List V) (is : List Int), σ[a]? = some xs ∧ xs = is.map V.int ∧ Q (.int is.sum) σ
  | _, _, _, _ => False

noncomputable def me0 : M0 → V → H → P → Prop
  | .reverse, .ref a, σ, Q => ∃ xs, a ≠ 0 ∧ σ[a]? = some xs ∧ Q .none (σ.set a xs.reverse)
  | _, _, _, _ => False

noncomputable def me1 : M1 → V → V → H → P → Prop
  | .append, .ref a, v, σ, Q => ∃ xs, a ≠ 0 ∧ σ[a]? = some xs ∧ xs.length < lim ∧ Q .none (σ.set a (xs ++ [v]))
  | .pop, .ref a, .int k, σ, Q => ∃ xs v, a ≠ 0 ∧ σ[a]? = some xs ∧ 0 ≤ k ∧ xs[k.toNat]? = some v ∧ Q v (σ.set a (xs.eraseIdx k.toNat))
  | .count, .ref a, .int i, σ, Q => ∃ (xs : List V) (is : List Int), σ[a]? = some xs ∧ xs = is.map V.int ∧ Q (.int (is.count i)) σ
  | .index, .ref a, .int i, σ, Q => ∃ (xs : List V) (is : List Int), σ[a]? = some xs ∧ xs = is.map V.int ∧ i ∈ is ∧ Q (.int (is.idxOf i)) σ
  | _, _, _, _, _ => False

noncomputable def isRef : V → Prop
  | .ref _ => True
  | _ => False

noncomputable def item : V → V → H → P → Prop
  | .ref a, .int k, σ, Q => ∃ xs v, σ[a]? = some xs ∧ ((0 ≤ k ∧ xs[k.toNat]? = some v) ∨ (k < 0 ∧ 0 ≤ k + xs.length ∧ xs[(k + xs.length).toNat]? = some v)) ∧ Q v σ
  | .tup xs, .int k, σ, Q => (0 ≤ k ∧ k < 2 ^ 62) ∧ ∃ v, xs[k.toNat]? = some v ∧ Q v σ
  | _, _, _, _ => False

noncomputable def sliceFrom : V → V → H → P → Prop
  | .ref a, .int k, σ, Q => ∃ xs, σ[a]? = some xs ∧ 0 ≤ k ∧ alloc (xs.drop k.toNat) σ Q
  | _, _, _, _ => False
noncomputable def sliceTo : V → V → H → P → Prop
  | .ref a, .int k, σ, Q => ∃ xs, σ[a]? = some xs ∧ 0 ≤ k ∧ alloc (xs.take k.toNat) σ Q
  | _, _, _, _ => False

noncomputable def field : V → Nat → H → P → Prop
  | .inst xs, k, σ, Q => ∃ v, xs[k]? = some v ∧ Q v σ
  | _, _, _, _ => False

noncomputable def rangeV (n : Int) : List V := (List.range n.toNat).map fun (i : Nat) => V.int (i : Int)
noncomputable def enumV (k : Nat) : List V → List V
  | [] => []
  | v :: vs => .tup [.int k, v] :: enumV (k + 1) vs
noncomputable def compL (T : V → H → (Bool → H → Prop) → Prop) (F : V → H → P → Prop) (ok : H → Prop) : List V → List V → H → P → Prop
  | [], acc, σ, Q => ok σ ∧ alloc acc σ Q
  | v :: vs, acc, σ, Q => ok σ ∧ T v σ fun b σ => if b then F v σ fun r σ => acc.length < lim ∧ compL T F ok vs (acc ++ [r]) σ Q else compL T F ok vs acc σ Q

mutual
noncomputable def WE (c : Cal) (x : X) : E → M → H → P → Prop
  | .none, _, σ, Q => Q .none σ
  | .bool b, _, σ, Q => Q (.bool b) σ
  | .int i, _, σ, Q => Q (.int i) σ
  | .str k, _, σ, Q => Q (.str k) σ
  | .var y, m, σ, Q => ∃ v, get m y = some v ∧ Q v σ
  | .bin o a b, m, σ, Q => WE c x a m σ fun v σ => WE c x b m σ fun w σ => binop o v w σ Q
  | .neg a, m, σ, Q => WE c x a m σ fun v σ => match v with
    | .int i => Q (.int (-i)) σ
    | _ => False
  | .not a, m, σ, Q => WE c x a m σ (truthy fun b σ => Q (.bool (!b)) σ)
  | .and a b, m, σ, Q => WE c x a m σ (truthy fun t σ => if t then WE c x b m σ Q else Q (.bool false) σ)
  | .or a b, m, σ, Q => WE c x a m σ (truthy fun t σ => if t then Q (.bool true) σ else WE c x b m σ Q)
  | .cmp o a b, m, σ, Q => WE c x a m σ fun v σ => WE c x b m σ fun w σ => cmpop o v w σ Q
  | .cmp2 o a b p d, m, σ, Q => WE c x a m σ fun v σ => WE c x b m σ fun w σ => cmpop o v w σ (truthy fun t σ => if t then WE c x d m σ fun u σ => cmpop p w u σ Q else Q (.bool false) σ)
  | .ite t a b, m, σ, Q => WT c x t m σ fun q σ => if q then WE c x a m σ Q else WE c x b m σ Q
  | .call f as, m, σ, Q => WEs c x as m σ fun vs σ => c f vs σ Q x
  | .hall as, m, σ, Q => WEs c x as m σ fun vs σ => vs.length = 5 ∧ Q (.inst vs) σ
  | .b1 f a, m, σ, Q => WE c x a m σ fun v σ => bi1 f v σ Q
  | .isinst a k, m, σ, Q => WE c x a m σ fun v σ => ∃ b, isKd k v = some b ∧ Q (.bool b) σ
  | .isexc a ks, m, σ, Q => WE c x a m σ fun v σ => match v with
    | .exc c => Q (.bool (ks.any (excSub c))) σ
    | _ => False
  | .attr a k, m, σ, Q => WE c x a m σ fun v σ => field v k σ Q
  | .idx a b, m, σ, Q => WE c x a m σ fun v σ => WE c x b m σ fun w σ => item v w σ Q
  | .from_ a b, m, σ, Q => WE c x a m σ fun v σ => WE c x b m σ fun w σ => sliceFrom v w σ Q
  | .upto a b, m, σ, Q => WE c x a m σ fun v σ => WE c x b m σ fun w σ => sliceTo v w σ Q
  | .disp as, m, σ, Q => WEs c x as m σ fun vs σ => alloc vs σ Q
  | .tup as, m, σ, Q => WEs c x as m σ fun vs σ => Q (.tup vs) σ
  | .m0 f a, m, σ, Q => WE c x a m σ fun v σ => me0 f v σ Q
  | .m1 f a b, m, σ, Q => WE c x a m σ fun v σ => isRef v ∧ WE c x b m σ fun w σ => me1 f v w σ Q
  | .comp e y s, m, σ, Q => WSrc c x s m σ fun its ok σ => compL (fun _ σ K => K true σ) (fun v σ Q => WE c x e (put m y v) σ Q) ok its [] σ Q
  | .compIf e y s t, m, σ, Q => WSrc c x s m σ fun its ok σ => compL (fun v σ K => WT c x t (put m y v) σ K) (fun v σ Q => WE c x e (put m y v) σ Q) ok its [] σ Q
noncomputable def WT (c : Cal) (x : X) : E → M → H → (Bool → H → Prop) → Prop
  | .not a, m, σ, K => WT c x a m σ fun b σ => K (!b) σ
  | .and a b, m, σ, K => WT c x a m σ fun t σ => if t then WT c x b m σ K else K false σ
  | .or a b, m, σ, K => WT c x a m σ fun t σ => if t then K true σ else WT c x b m σ K
  | .cmp o a b, m, σ, K => WE c x a m σ fun v σ => WE c x b m σ fun w σ => cmpop o v w σ (truthy K)
  | .cmp2 o a b p d, m, σ, K => WE c x a m σ fun v σ => WE c x b m σ fun w σ => cmpop o v w σ (truthy fun t σ => if t then WE c x d m σ fun u σ => cmpop p w u σ (truthy K) else K false σ)
  | .bool b, _, σ, K => K b σ
  | .var y, m, σ, K => ∃ v, get m y = some v ∧ truthy K v σ
  | .call f as, m, σ, K => WEs c x as m σ fun vs σ => c f vs σ (truthy K) x
  | .isinst a k, m, σ, K => WE c x a m σ fun v σ => ∃ b, isKd k v = some b ∧ K b σ
  | .isexc a ks, m, σ, K => WE c x a m σ fun v σ => match v with
    | .exc c => K (ks.any (excSub c)) σ
    | _ => False
  | _, _, _, _ => False
noncomputable def WEs (c : Cal) (x : X) : List E → M → H → (List V → H → Prop) → Prop
  | [], _, σ, K => K [] σ
  | e :: es, m, σ, K => WE c x e m σ fun v σ => WEs c x es m σ fun vs σ => K (v :: vs) σ
noncomputable def WSrc (c : Cal) (x : X) : Src → M → H → (List V → (H → Prop) → H → Prop) → Prop
  | .list a, m, σ, K => WE c x a m σ fun v σ => match v with
    | .ref a => ∃ xs, σ[a]? = some xs ∧ K xs (fun σ => σ[a]? = some xs) σ
    | _ => False
  | .range a, m, σ, K => WE c x a m σ fun v σ => match v with
    | .int n => (0 ≤ n ∧ n < 2 ^ 24) ∧ K (rangeV n) (fun _ => True) σ
    | _ => False
  | .enum a, m, σ, K => WE c x a m σ fun v σ => match v with
    | .ref a => ∃ xs, σ[a]? = some xs ∧ K (enumV 0 xs) (fun σ => σ[a]? = some xs) σ
    | _ => False
end

noncomputable def whileN (T : M → H → (Bool → H → Prop) → Prop) (B : M → H → (M → H → Prop) → Prop) (N : M → H → Prop) : Nat → M → H → Prop
  | 0, _, _ => False
  | n + 1, m, σ => T m σ fun b σ => if b then B m σ (whileN T B N n) else N m σ
noncomputable def bindV : List Nat → M → V → Option M
  | [x], m, v => some (put m x v)
  | xs, m, .tup vs => puts m xs vs
  | _, _, _ => .none
noncomputable def forL (B : M → H → (M → H → Prop) → Prop) (xs : List Nat) (ok : H → Prop) (N : M → H → Prop) : List V → M → H → Prop
  | [], m, σ => ok σ ∧ N m σ
  | v :: vs, m, σ => ok σ ∧ ∃ m', bindV xs m v = some m' ∧ B m' σ (forL B xs ok N vs)

noncomputable def noX : X := fun _ _ => False
mutual
noncomputable def WS (c : Cal) : S → X → M → H → (M → H → Prop) → P → Prop
  | .set y e, _, m, σ, N, _ => WE c noX e m σ fun v σ => N (put m y v) σ
  | .unpack ys e, _, m, σ, N, _ => WE c noX e m σ fun v σ => match v with
    | .tup vs => ∃ m', puts m ys vs = some m' ∧ N m' σ
    | _ => False
  | .put a i e, _, m, σ, N, _ => WE c noX e m σ fun v σ => WE c noX a m σ fun w σ => WE c noX i m σ fun k σ => match w, k with
    | .ref a, .int k => ∃ xs, a ≠ 0 ∧ σ[a]? = some xs ∧ 0 ≤ k ∧ k < xs.length ∧ N m (σ.set a (xs.set k.toNat v))
    | _, _ => False
  | .expr e, _, m, σ, N, _ => WE c noX e m σ fun _ σ => N m σ
  | .ite t a b, x, m, σ, N, R => WT c noX t m σ fun q σ => if q then WSs c a x m σ N R else WSs c b x m σ N R
  | .while t b, x, m, σ, N, R => ∃ n, whileN (fun m σ K => WT c noX t m σ K) (fun m σ K => WSs c b x m σ K R) N n m σ
  | .for ys s b, x, m, σ, N, R => WSrc c noX s m σ fun its ok σ => forL (fun m σ K => WSs c b x m σ K R) ys ok N its m σ
  | .ret e, _, m, σ, _, R => WE c noX e m σ R
  | .raise k, x, _, σ, _, _ => x k σ
  | .call f as, x, m, σ, N, _ => WEs c noX as m σ fun vs σ => c f vs σ (fun _ σ => N m σ) x
  | .setC y f as, x, m, σ, N, _ => WEs c noX as m σ fun vs σ => c f vs σ (fun v σ => N (put m y v) σ) x
  | .unpC ys f as, x, m, σ, N, _ => WEs c noX as m σ fun vs σ => c f vs σ (fun v σ => match v with
    | .tup vs => ∃ m', puts m ys vs = some m' ∧ N m' σ
    | _ => False) x
  | .try b hs, x, m, σ, N, R => WSs c b (fun k σ => WH c hs k x m σ R) m σ (fun _ σ => N m σ) (fun _ _ => False)
noncomputable def WSs (c : Cal) : List S → X → M → H → (M → H → Prop) → P → Prop
  | [], _, m, σ, N, _ => N m σ
  | s :: ss, x, m, σ, N, R => WS c s x m σ (fun m σ => WSs c ss x m σ N R) R
noncomputable def WH (c : Cal) : List (Nat × Option Nat × List S) → Nat → X → M → H → P → Prop
  | [], _, _, _, _, _ => False
  | (k', y, b) :: hs, k, x, m, σ, R => if excSub k k' then WSs c b noX (match y with | some y => put m y (.exc k) | .none => m) σ (fun _ _ => False) R else WH c hs k x m σ R
end

noncomputable def start (f : Fn) (vs : List V) : M := vs.map some ++ List.replicate (f.ns - f.np) Option.none
noncomputable def callW (Φ : Nat → Option Fn) : Nat → Cal
  | 0 => fun _ _ _ _ _ => False
  | n + 1 => fun f vs σ Q x => ∃ fn, Φ f = some fn ∧ vs.length = fn.np ∧ WSs (callW Φ n) fn.body x (start fn vs) σ (fun _ σ => Q .none σ) Q

end Mini

set_option autoImplicit false
set_option linter.unusedVariables false
namespace Mini
open PySem
theorem dec1 {n i : Nat} (h : i < n) : n + 1 - (i + 1) < n + 1 - i := Nat.sub_lt_sub_left (Nat.lt_succ_of_lt h) (Nat.lt_succ_self i)

/-- the words of the programs -/
noncomputable def words : List Str := ["count", "row", "come", "fill", "turn", "look", "pass", "tell", "hear", "wait", "end",
  "", "rows", "Count", "count ", "ROW", "cou", "row7"]

/-- what is known of the run's ground -/
structure Ctx where
  prog : Program
  w : World
  hB : Heap
  mg : Str → Option Value
  mb : Str → Option Value
  Φ : Nat → Option Fn
  fa : Nat → Addr
  hallC : Addr
  fields : List Str
  chain : List Env
  exC : Nat → Addr
  q : Bool

/-- ghosts: the lists' addresses; the addresses of what never changes -/
structure G where
  ρ : List Addr
  ι : Addr → Prop
noncomputable def G.own (g : G) (a : Addr) : Prop := a ∈ g.ρ ∨ g.ι a

/-- an object of the class at C, its attributes at d -/
structure InO (h : Heap) (C b d : Addr) (mA : Str → Option Value) : Prop where
  obj : ∃ o, h.get? b = some o ∧ o.cls = .ref C ∧ o.dict = some d ∧ ∀ c, o.data ≠ .cls c
  ne : d ≠ b
  ns : h.Ns1 d mA
theorem InO.keep {h h' : Heap} {C b d : Addr} {mA : Str → Option Value} (I : InO h C b d mA) (kb : ∀ o, h.get? b = some o → h'.get? b = some o) (kd : ∀ o, h.get? d = some o → h'.get? d = some o) : InO h' C b d mA :=
  ⟨let ⟨o, e, r⟩ := I.obj; ⟨o, kb o e, r⟩, I.ne, I.ns.at kd⟩
noncomputable def hasF (fs : List Str) (mA : Str → Option Value) (vs : List Value) : Prop := fs.length = vs.length ∧ ∀ (i : Nat) (f : Str) (v : Value), fs[i]? = some f → vs[i]? = some v → mA f = some v

mutual
noncomputable def VRel (K : Ctx) (g : G) (h : Heap) : V → Value → Prop
  | .none, w => w = .none
  | .bool b, w => w = .bool b
  | .int i, w => ∃ t, w = .int i t
  | .str k, w => ∃ s t, words[k]? = some s ∧ w = .str s t
  | .ref a, w => ∃ b, g.ρ[a]? = some b ∧ w = .ref b
  | .tup xs, w => ∃ b vs n, w = .ref b ∧ g.ι b ∧ h.get? b = some { cls := .type "tuple", data := .seq vs n } ∧ VRels K g h xs vs.toList
  | .inst xs, w => ∃ b d mA vs, w = .ref b ∧ g.ι b ∧ g.ι d ∧ InO h K.hallC b d mA ∧ hasF K.fields mA vs ∧ VRels K g h xs vs
  | .exc c, w => ∃ e o, w = .ref e ∧ g.ι e ∧ h.get? e = some o ∧ o.cls = .ref (K.exC c) ∧ c ∈ excNums
noncomputable def VRels (K : Ctx) (g : G) (h : Heap) : List V → List Value → Prop
  | [], [] => True
  | x :: xs, v :: vs => VRel K g h x v ∧ VRels K g h xs vs
  | _, _ => False
end

structure St (K : Ctx) (g : G) (σ : H) (h : Heap) : Prop where
  base : ∀ b o, K.hB.get? b = some o → h.get? b = some o
  len : g.ρ.length = σ.length
  lists : ∀ (i : Nat) (b : Addr) (xs : List V), g.ρ[i]? = some b → σ[i]? = some xs → ∃ vs n, h.get? b = some { cls := .type "list", data := .seq vs n } ∧ VRels K g h xs vs.toList
  nodup : g.ρ.Nodup
  small : ∀ xs ∈ σ, xs.length ≤ lim
  fresh : ∀ (i : Nat) (b : Addr), g.ρ[i]? = some b → i ≠ 0 → K.hB.get? b = none
  imm : ∀ b, g.ι b → K.hB.get? b = none ∧ b ∉ g.ρ ∧ ∃ o, h.get? b = some o

noncomputable def isD (o : Obj) : Prop := ∃ es ep, o.data = .dict es ep
/-- the same; a dictionary's slots may differ -/
noncomputable def Sm (o o' : Obj) : Prop := o' = o ∨ (isD o ∧ o'.data = o.data ∧ o'.cls = o.cls ∧ o'.dict = o.dict)
theorem Sm.refl {o : Obj} : Sm o o := .inl rfl
theorem Sm.data {o o' : Obj} (p : Sm o o') : o'.data = o.data := by
  rcases p with rfl | p
  · rfl
  · exact p.2.1
theorem Sm.isD {o o' : Obj} (p : Sm o o') (d : isD o) : Mini.isD o' := let ⟨es, ep, e⟩ := d; ⟨es, ep, p.data.trans e⟩
theorem Sm.trans {a b c : Obj} (p : Sm a b) (q : Sm b c) : Sm a c := by
  rcases p with rfl | p
  · exact q
  · rcases q with rfl | q
    · exact .inr p
    · exact .inr ⟨p.1, q.2.1.trans p.2.1, q.2.2.1.trans p.2.2.1, q.2.2.2.trans p.2.2.2⟩
noncomputable def Kp (h h' : Heap) (b : Addr) : Prop := ∀ o, h.get? b = some o → ∃ o', h'.get? b = some o' ∧ Sm o o'
theorem Kp.of {h h' : Heap} {b : Addr} (k : ∀ o, h.get? b = some o → h'.get? b = some o) : Kp h h' b := fun o e => ⟨o, k o e, .refl⟩
theorem Kp.trans {h h₁ h₂ : Heap} {b : Addr} (p : Kp h h₁ b) (q : Kp h₁ h₂ b) : Kp h h₂ b := fun o e => let ⟨o₁, e₁, s₁⟩ := p o e; let ⟨o₂, e₂, s₂⟩ := q o₁ e₁; ⟨o₂, e₂, s₁.trans s₂⟩
/-- what is no dictionary is wholly the same -/
theorem Kp.nd {h h' : Heap} {b : Addr} (p : Kp h h' b) {o : Obj} (e : h.get? b = some o) (nd : ¬ isD o) : h'.get? b = some o := by
  obtain ⟨o', e', s⟩ := p o e
  rcases s with rfl | s
  · exact e'
  · exact absurd s.1 nd
theorem Kp.ns {h h' : Heap} {b : Addr} (p : Kp h h' b) {m : Str → Option Value} (n : h.Ns b m) : h'.Ns b m := by
  obtain ⟨o, es, ep, ho, hd, r⟩ := n
  obtain ⟨o', e', s⟩ := p o ho
  exact ⟨o', es, ep, e', s.data.trans hd, r⟩
structure Go (K : Ctx) (g : G) (h : Heap) (g' : G) (σ' : H) (h' : Heap) : Prop where
  st : St K g' σ' h'
  pre : g.ρ <+: g'.ρ
  imm : ∀ b, g.ι b → g'.ι b
  new : ∀ b, g'.own b → g.own b ∨ h.get? b = none
  keep : ∀ b, b ∉ g.ρ → Kp h h' b
  ex : ∀ b o, g.ι b → h.get? b = some o → h'.get? b = some o

section
variable {K : Ctx} {g g' g₁ g₂ : G} {σ σ' σ₁ σ₂ : H} {h h' h₁ h₂ : Heap}

mutual
theorem VRel.mono (hp : ∀ (i : Nat) (b : Addr), g.ρ[i]? = some b → g'.ρ[i]? = some b) (hi : ∀ b, g.ι b → g'.ι b) (hk : ∀ b o, g.ι b → h.get? b = some o → h'.get? b = some o) :
    ∀ (v : V) (w : Value), VRel K g h v w → VRel K g' h' v w
  | .none, _, q => q
  | .bool _, _, q => q
  | .int _, _, q => q
  | .str _, _, q => q
  | .ref _, _, ⟨b, e, q⟩ => ⟨b, hp _ _ e, q⟩
  | .tup xs, _, ⟨b, vs, n, e, i, o, q⟩ => ⟨b, vs, n, e, hi b i, hk _ _ i o, VRels.mono hp hi hk xs _ q⟩
  | .inst xs, _, ⟨b, d, mA, vs, e, ib, id, I, dd, q⟩ => ⟨b, d, mA, vs, e, hi b ib, hi d id, I.keep (fun o => hk b o ib) (fun o => hk d o id), dd, VRels.mono hp hi hk xs _ q⟩
  | .exc _, _, ⟨e, o, q, i, ho, c⟩ => ⟨e, o, q, hi e i, hk _ _ i ho, c⟩
theorem VRels.mono (hp : ∀ (i : Nat) (b : Addr), g.ρ[i]? = some b → g'.ρ[i]? = some b) (hi : ∀ b, g.ι b → g'.ι b) (hk : ∀ b o, g.ι b → h.get? b = some o → h'.get? b = some o) :
    ∀ (vs : List V) (ws : List Value), VRels K g h vs ws → VRels K g' h' vs ws
  | [], [], _ => trivial
  | v :: vs, w :: ws, ⟨a, b⟩ => ⟨VRel.mono hp hi hk v w a, VRels.mono hp hi hk vs ws b⟩
  | [], _ :: _, q => q.elim
  | _ :: _, [], q => q.elim
end

theorem VRels.length : ∀ {vs : List V} {ws : List Value}, VRels K g h vs ws → vs.length = ws.length
  | [], [], _ => rfl
  | _ :: _, _ :: _, q => congrArg (· + 1) (VRels.length q.2)
  | [], _ :: _, q => q.elim
  | _ :: _, [], q => q.elim
theorem VRels.get : ∀ {vs : List V} {ws : List Value} {i : Nat} {v : V}, VRels K g h vs ws → vs[i]? = some v → ∃ w, ws[i]? = some w ∧ VRel K g h v w
  | _ :: _, w :: _, 0, _, q, e => by cases e; exact ⟨w, rfl, q.1⟩
  | _ :: vs, _ :: ws, i + 1, _, q, e => VRels.get (vs := vs) (ws := ws) (i := i) q.2 (by simpa using e)
  | [], [], _, _, _, e => by simp at e
  | [], _ :: _, _, _, q, _ => q.elim
  | _ :: _, [], _, _, q, _ => q.elim
theorem VRels.append : ∀ {vs vs' : List V} {ws ws' : List Value}, VRels K g h vs ws → VRels K g h vs' ws' → VRels K g h (vs ++ vs') (ws ++ ws')
  | [], _, [], _, _, q => q
  | _ :: _, _, _ :: _, _, p, q => ⟨p.1, VRels.append p.2 q⟩
  | [], _, _ :: _, _, p, _ => p.elim
  | _ :: _, _, [], _, p, _ => p.elim
theorem VRels.take : ∀ {vs : List V} {ws : List Value} (n : Nat), VRels K g h vs ws → VRels K g h (vs.take n) (ws.take n)
  | [], [], n, _ => by (refine rwE List.take_nil ?_; refine rwE List.take_nil ?_); trivial
  | _ :: _, _ :: _, 0, _ => trivial
  | _ :: _, _ :: _, n + 1, p => ⟨p.1, VRels.take n p.2⟩
  | [], _ :: _, _, p => p.elim
  | _ :: _, [], _, p => p.elim
theorem VRels.drop : ∀ {vs : List V} {ws : List Value} (n : Nat), VRels K g h vs ws → VRels K g h (vs.drop n) (ws.drop n)
  | [], [], n, _ => by (refine rwE List.drop_nil ?_; refine rwE List.drop_nil ?_); trivial
  | _ :: _, _ :: _, 0, p => p
  | _ :: _, _ :: _, n + 1, p => VRels.drop n p.2
  | [], _ :: _, _, p => p.elim
  | _ :: _, [], _, p => p.elim
theorem VRels.set : ∀ {vs : List V} {ws : List Value} (n : Nat) {v : V} {w : Value}, VRels K g h vs ws → VRel K g h v w → VRels K g h (vs.set n v) (ws.set n w)
  | [], [], _, _, _, p, _ => by simpa using p
  | _ :: _, _ :: _, 0, _, _, p, q => ⟨q, p.2⟩
  | _ :: _, _ :: _, n + 1, _, _, p, q => ⟨p.1, VRels.set n p.2 q⟩
  | [], _ :: _, _, _, _, p, _ => p.elim
  | _ :: _, [], _, _, _, p, _ => p.elim
theorem VRels.eraseIdx : ∀ {vs : List V} {ws : List Value} (n : Nat), VRels K g h vs ws → VRels K g h (vs.eraseIdx n) (ws.eraseIdx n)
  | [], [], _, p => by simpa using p
  | _ :: _, _ :: _, 0, p => p.2
  | _ :: _, _ :: _, n + 1, p => ⟨p.1, VRels.eraseIdx n p.2⟩
  | [], _ :: _, _, p => p.elim
  | _ :: _, [], _, p => p.elim
theorem VRels.reverse : ∀ {vs : List V} {ws : List Value}, VRels K g h vs ws → VRels K g h vs.reverse ws.reverse
  | [], [], _ => trivial
  | _ :: _, _ :: _, p => by (refine rwE List.reverse_cons ?_; refine rwE List.reverse_cons ?_); exact VRels.append (VRels.reverse p.2) ⟨p.1, trivial⟩
  | [], _ :: _, p => p.elim
  | _ :: _, [], p => p.elim

theorem nodup_inj {l : List Addr} (h : l.Nodup) {i j : Nat} {a : Addr} (hi : l[i]? = some a) (hj : l[j]? = some a) : i = j := by
  obtain ⟨li, ei⟩ := List.getElem?_eq_some_iff.mp hi
  obtain ⟨lj, ej⟩ := List.getElem?_eq_some_iff.mp hj
  have q := List.pairwise_iff_getElem.mp h
  rcases Nat.lt_trichotomy i j with z | z | z
  · exact absurd (ei.trans ej.symm) (q i j li lj z)
  · exact z
  · exact absurd (ej.trans ei.symm) (q j i lj li z)
theorem pre_get {l l' : List Addr} (hp : l <+: l') {i : Nat} {b : Addr} (e : l[i]? = some b) : l'[i]? = some b := by
  obtain ⟨t, rfl⟩ := hp
  rw [List.getElem?_append_left (by
    obtain ⟨hl, _⟩ := List.getElem?_eq_some_iff.mp e; exact hl)]
  exact e

theorem Go.refl (q : St K g σ h) : Go K g h g σ h := ⟨q, List.prefix_refl _, fun _ i => i, fun _ o => .inl o, fun _ _ => .of fun _ e => e, fun _ _ _ e => e⟩
theorem Go.rel (q : Go K g h g' σ' h') (s : St K g σ h) {v : V} {w : Value} (r : VRel K g h v w) : VRel K g' h' v w :=
  VRel.mono (fun _ _ e => pre_get q.pre e) q.imm q.ex v w r
theorem Go.rels (q : Go K g h g' σ' h') (s : St K g σ h) {v : List V} {w : List Value} (r : VRels K g h v w) : VRels K g' h' v w :=
  VRels.mono (fun _ _ e => pre_get q.pre e) q.imm q.ex v w r
theorem Go.priv (q : Go K g h g' σ' h') {b : Addr} {o : Obj} (e : h.get? b = some o) (n : ¬ g.own b) : ¬ g'.own b := fun x => by
  rcases q.new b x with y | y
  · exact n y
  · rw [e] at y; cases y
theorem Go.trans (q : Go K g h g₁ σ₁ h₁) (r : Go K g₁ h₁ g₂ σ₂ h₂) : Go K g h g₂ σ₂ h₂ where
  st := r.st
  pre := q.pre.trans r.pre
  imm := fun b i => r.imm b (q.imm b i)
  new := fun b o => by
    rcases r.new b o with x | x
    · exact q.new b x
    · cases e : h.get? b with
      | none => exact .inr rfl
      | some ob =>
        by_cases hb : b ∈ g.ρ
        · exact .inl (.inl hb)
        · obtain ⟨o', e', _⟩ := q.keep b hb ob e
          rw [e'] at x; cases x
  keep := fun b n o e => by
    refine (q.keep b n).trans (r.keep b fun hb => ?_) o e
    rcases q.new b (.inl hb) with x | x
    · rcases x with x | x
      · exact n x
      · exact (q.st.imm b (q.imm b x)).2.1 hb
    · rw [e] at x; cases x
  ex := fun b o i e => r.ex b o (q.imm b i) (q.ex b o i e)

/-- a private object changed, or things added: nothing of ours is touched -/
theorem St.change (q : St K g σ h) (hk : ∀ b o, h.get? b = some o → g.own b ∨ (∃ o', K.hB.get? b = some o') → h'.get? b = some o) : St K g σ h' where
  base := fun b o e => hk b o (q.base b o e) (.inr ⟨o, e⟩)
  len := q.len
  lists := fun i b xs e1 e2 => by
    obtain ⟨vs, n, e, r⟩ := q.lists i b xs e1 e2
    exact ⟨vs, n, hk b _ e (.inl (.inl (List.mem_of_getElem? e1))), VRels.mono (fun _ _ e => e) (fun _ e => e) (fun b o i e => hk b o e (.inl (.inr i))) _ _ r⟩
  nodup := q.nodup
  small := q.small
  fresh := q.fresh
  imm := fun b i => by
    obtain ⟨a1, a2, o, e⟩ := q.imm b i
    exact ⟨a1, a2, o, hk b o e (.inl (.inr i))⟩
theorem Go.change (q : St K g σ h) (hk : ∀ b o, h.get? b = some o → h'.get? b = some o) : Go K g h g σ h' :=
  ⟨q.change fun b o e _ => hk b o e, List.prefix_refl _, fun _ i => i, fun _ o => .inl o, fun b _ => .of (hk b), fun b o _ e => hk b o e⟩
/-- a list is made -/
theorem Go.list (q : St K g σ h) {b : Addr} {xs : List V} {vs : Array Value} {n : Nat} (e0 : h.get? b = none) (hk : ∀ b o, h.get? b = some o → h'.get? b = some o)
    (e : h'.get? b = some { cls := .type "list", data := .seq vs n }) (r : VRels K g h xs vs.toList) (hl : xs.length ≤ lim) : Go K g h ⟨g.ρ ++ [b], g.ι⟩ (σ ++ [xs]) h' := by
  have nb : b ∉ g.ρ := fun hb => by
    obtain ⟨i, hi, rfl⟩ := List.getElem_of_mem hb
    have hl : i < σ.length := q.len ▸ hi
    obtain ⟨vs, n, e', _⟩ := q.lists i _ σ[i] (List.getElem?_eq_getElem hi) (List.getElem?_eq_getElem hl)
    rw [e0] at e'; cases e'
  have mono : ∀ {xs : List V} {ws : List Value}, VRels K g h xs ws → VRels K ⟨g.ρ ++ [b], g.ι⟩ h' xs ws := fun {xs ws} r => VRels.mono (g := g) (g' := ⟨g.ρ ++ [b], g.ι⟩) (fun _ _ e => pre_get (List.prefix_append _ _) e) (fun _ i => i) (fun b o _ e => hk b o e) _ _ r
  refine ⟨⟨fun b o x => hk b o (q.base b o x), by simp [q.len], fun i a ys h1 h2 => ?_, ?_, fun ys hy => ?_, fun i a h1 h2 => ?_, fun a i => ?_⟩, List.prefix_append _ _, fun _ i => i, fun a x => ?_, fun a _ => .of (hk a), fun a o _ x => hk a o x⟩
  · by_cases hi : i < σ.length
    · rw [List.getElem?_append_left (by refine rwE q.len ?_; exact hi)] at h1
      rw [List.getElem?_append_left hi] at h2
      obtain ⟨vs, n, e', r'⟩ := q.lists i a ys h1 h2
      exact ⟨vs, n, hk _ _ e', mono r'⟩
    · have hi' : i = σ.length := by
        have := (List.getElem?_eq_some_iff.mp h2).1
        simp at this; lia
      subst hi'
      rw [List.getElem?_append_right (by refine rwE q.len ?_; exact Nat.le_refl _)] at h1
      rw [List.getElem?_append_right (Nat.le_refl _)] at h2
      simp [q.len] at h1 h2
      subst h1 h2
      exact ⟨vs, n, e, mono r⟩
  · refine List.nodup_append.mpr ⟨q.nodup, by simp, ?_⟩
    intro a ha c hc
    simp at hc; subst hc
    exact fun z => nb (z ▸ ha)
  · rcases List.mem_append.mp hy with z | z
    · exact q.small ys z
    · simp at z; subst z; exact hl
  · by_cases hi : i < g.ρ.length
    · rw [List.getElem?_append_left hi] at h1
      exact q.fresh i a h1 h2
    · rw [List.getElem?_append_right (Nat.le_of_not_lt hi)] at h1
      have : a = b := by
        have := List.mem_of_getElem? h1
        simpa using this
      subst this
      cases z : K.hB.get? a with
      | none => rfl
      | some o => rw [q.base a o z] at e0; cases e0
  · obtain ⟨a1, a2, o, a3⟩ := q.imm a i
    refine ⟨a1, fun hb => ?_, o, hk _ _ a3⟩
    rcases List.mem_append.mp hb with x | x
    · exact a2 x
    · simp at x; subst x; rw [e0] at a3; cases a3
  · rcases x with x | x
    · rcases List.mem_append.mp x with x | x
      · exact .inl (.inl x)
      · simp at x; subst x; exact .inr e0
    · exact .inl (.inr x)
/-- something that never changes is made -/
theorem Go.imms (q : St K g σ h) (N : Addr → Prop) (e0 : ∀ b, N b → h.get? b = none) (e1 : ∀ b, N b → ∃ o, h'.get? b = some o) (hk : ∀ b o, h.get? b = some o → h'.get? b = some o) :
    Go K g h ⟨g.ρ, fun b => g.ι b ∨ N b⟩ σ h' := by
  have mono : ∀ {xs : List V} {ws : List Value}, VRels K g h xs ws → VRels K ⟨g.ρ, fun b => g.ι b ∨ N b⟩ h' xs ws := fun {xs ws} r => VRels.mono (g := g) (g' := ⟨g.ρ, fun b => g.ι b ∨ N b⟩) (fun _ _ e => e) (fun _ i => .inl i) (fun b o _ e => hk b o e) _ _ r
  refine ⟨⟨fun b o x => hk b o (q.base b o x), q.len, fun i a ys h1 h2 => ?_, q.nodup, q.small, q.fresh, fun a i => ?_⟩, List.prefix_refl _, fun _ i => .inl i, fun a x => ?_, fun a _ => .of (hk a), fun a o _ x => hk a o x⟩
  · obtain ⟨vs, n, e', r'⟩ := q.lists i a ys h1 h2
    exact ⟨vs, n, hk _ _ e', mono r'⟩
  · rcases i with i | i
    · obtain ⟨a1, a2, o, a3⟩ := q.imm a i
      exact ⟨a1, a2, o, hk _ _ a3⟩
    · have n0 := e0 a i
      refine ⟨?_, fun hb => ?_, e1 a i⟩
      · cases z : K.hB.get? a with
        | none => rfl
        | some o => rw [q.base a o z] at n0; cases n0
      · obtain ⟨j, hj, hja⟩ := List.getElem_of_mem (l := g.ρ) hb
        have hl : j < σ.length := q.len ▸ hj
        obtain ⟨vs, n, e', _⟩ := q.lists j _ σ[j] (List.getElem?_eq_getElem hj) (List.getElem?_eq_getElem hl)
        rw [hja, n0] at e'; cases e'
  · rcases x with x | x
    · exact .inl (.inl x)
    · rcases x with x | x
      · exact .inl (.inr x)
      · exact .inr (e0 a x)
/-- a list is changed -/
theorem Go.put (q : St K g σ h) {i : Nat} {b : Addr} {xs ys : List V} {vs : Array Value} {n : Nat} (hb : g.ρ[i]? = some b) (hx : σ[i]? = some xs) (h0 : i ≠ 0) (hk : ∀ c, c ≠ b → h'.get? c = h.get? c)
    (e : h'.get? b = some { cls := .type "list", data := .seq vs n }) (r : VRels K g h ys vs.toList) (hl : ys.length ≤ lim) : Go K g h g (σ.set i ys) h' := by
  have mem := List.mem_of_getElem? hb
  have mono : ∀ {xs : List V} {ws : List Value}, VRels K g h xs ws → VRels K g h' xs ws := fun {xs ws} r => VRels.mono (fun _ _ e => e) (fun _ i => i) (fun c o i e => by
    refine rwE (hk c (fun z => (q.imm c i).2.1 (z ▸ mem))) ?_; exact e) _ _ r
  refine ⟨⟨fun c o x => ?_, by simp [q.len], fun j a zs h1 h2 => ?_, q.nodup, fun zs hz => ?_, q.fresh, fun a i => ?_⟩, List.prefix_refl _, fun _ i => i, fun _ o => .inl o, fun c nc => .of fun o x => ?_, fun c o i x => ?_⟩
  · rewrite [hk c]
    · exact q.base c o x
    · rintro rfl
      rw [q.fresh i c hb h0] at x; cases x
  · by_cases hj : j = i
    · subst hj
      rw [hb] at h1; cases h1
      have hl := (List.getElem?_eq_some_iff.mp hx).1
      rw [List.getElem?_set_self hl] at h2
      cases h2
      exact ⟨vs, n, e, mono r⟩
    · rw [List.getElem?_set_ne (Ne.symm hj)] at h2
      obtain ⟨vs, n, e', r'⟩ := q.lists j a zs h1 h2
      refine ⟨vs, n, ?_, mono r'⟩
      rewrite [hk a]
      · exact e'
      · rintro rfl
        exact hj (nodup_inj q.nodup h1 hb)
  · rcases List.mem_or_eq_of_mem_set hz with z | z
    · exact q.small zs z
    · exact z ▸ hl
  · obtain ⟨a1, a2, o, a3⟩ := q.imm a i
    exact ⟨a1, a2, o, by refine rwE (hk a (fun z => a2 (z ▸ mem))) ?_; exact a3⟩
  · refine rwE (hk c (fun z => nc (z ▸ mem))) ?_; exact x
  · refine rwE (hk c (fun z => (q.imm c i).2.1 (z ▸ mem))) ?_; exact x
end
end Mini

set_option autoImplicit false
namespace Mini
open PySem

theorem Kp.cell {h h' : Heap} {b : Addr} (p : Kp h h' b) {v : Option Value} (n : h.IsCell b v) : h'.IsCell b v := by
  obtain ⟨o, ho, hd⟩ := n
  exact ⟨o, p.nd ho (fun ⟨_, _, z⟩ => by rw [hd] at z; cases z), hd⟩

/-- the frames of the calls that stand -/
noncomputable def Frs (K : Ctx) (g : G) (h : Heap) : Prop := ∀ env ∈ K.chain, env.scope.kind ≠ .module ∧ ∃ L o, env.frame = some L ∧ K.hB.get? L = none ∧ ¬ g.own L ∧ h.get? L = some o ∧ isD o
theorem Frs.go {K : Ctx} {g g' : G} {σ' : H} {h h' : Heap} (F : Frs K g h) (q : Go K g h g' σ' h') : Frs K g' h' := fun env he => by
  obtain ⟨k, L, o, h1, h2, h3, h4, h5⟩ := F env he
  obtain ⟨o', e', s⟩ := q.keep L (fun z => h3 (.inl z)) o h4
  exact ⟨k, L, o', h1, h2, q.priv h4 h3, e', s.isD h5⟩

structure Cx where
  names : List (Str × NameKind)
  slots : List (Str × Nat)

structure Fr (K : Ctx) (env : Env) (cx : Cx) (m : M) (g : G) (h : Heap) : Prop where
  kind : env.scope.kind = .function
  names : env.scope.names = cx.names
  glob : env.globals = mainGlobals
  blt : env.builtins = builtinsNs
  loc : ∃ ns, h.Ns env.locals ns ∧ ∀ x k v, cx.slots.lookup x = some k → cx.names.lookup x = some .local → get m k = some v → ∃ w, ns x = some w ∧ VRel K g h v w
  cell : ∀ x k, cx.slots.lookup x = some k → cx.names.lookup x = some .cell → ∃ c o, env.cells.lookup x = some c ∧ h.IsCell c o ∧ ∀ v, get m k = some v → ∃ w, o = some w ∧ VRel K g h v w
  priv : ¬ g.own env.locals ∧ K.hB.get? env.locals = none
  privC : ∀ x c, env.cells.lookup x = some c → ¬ g.own c ∧ K.hB.get? c = none ∧ ∃ o, h.IsCell c o
  apart : ∀ x y c, env.cells.lookup x = some c → env.cells.lookup y = some c → x = y
  inj : ∀ x y k, cx.slots.lookup x = some k → cx.slots.lookup y = some k → x = y
  bnd : ∀ x k, cx.slots.lookup x = some k → k < cx.slots.length
  hi : ∀ j, cx.slots.length ≤ j → get m j = none
  frs : Frs K g h

noncomputable def Sx (s s' : Shared) : Prop := s'.os = s.os ∧ s'.gens = s.gens
theorem Sx.refl (s : Shared) : Sx s s := ⟨rfl, rfl⟩
theorem Sx.trans {a b c : Shared} (p : Sx a b) (q : Sx b c) : Sx a c := ⟨q.1.trans p.1, q.2.trans p.2⟩

abbrev Qt (K : Ctx) : Prop := Nonempty (K.q = true)
theorem Qt.q {K : Ctx} [i : Qt K] : K.q = true := i.elim id
structure Room (K : Ctx) (A : Around) (n : Nat) : Prop where
  handled : K.q = true → A.handled = none
  frames : A.frames = some K.chain
  depth : A.depth + 3 * n + 10 < recursionLimit
  units : A.units + 10 * n + 300 < cLine

set_option genInjectivity false
set_option genSizeOfSpec false
inductive EndE (K : Ctx) (g : G) (s : Shared) (Q : P) (v : Value) (s' : Shared) : Prop
  | mk (r : V) (g' : G) (σ' : H) (go : Go K g s.heap g' σ' s'.heap) (sx : Sx s s') (rel : VRel K g' s'.heap r v) (q : Q r σ')
inductive EndB (K : Ctx) (g : G) (s : Shared) (Q : Bool → H → Prop) (b : Bool) (s' : Shared) : Prop
  | mk (g' : G) (σ' : H) (go : Go K g s.heap g' σ' s'.heap) (sx : Sx s s') (q : Q b σ')
inductive EndL (K : Ctx) (g : G) (s : Shared) (Q : List V → H → Prop) (vs : List Value) (s' : Shared) : Prop
  | mk (rs : List V) (g' : G) (σ' : H) (go : Go K g s.heap g' σ' s'.heap) (sx : Sx s s') (rel : VRels K g' s'.heap rs vs) (q : Q rs σ')
abbrev noE : Value → Shared → Prop := fun _ _ => False

section
variable {K : Ctx} {g g₁ : G} {σ σ₁ : H} {s s₁ s' : Shared} {cx : Cx} {env : Env} {m : M} {A : Around} {n : Nat}

theorem EndE.trans {Q : P} {v : Value} (p : Go K g s.heap g₁ σ₁ s₁.heap) (x : Sx s s₁) (q : EndE K g₁ s₁ Q v s') : EndE K g s Q v s' := by
  obtain ⟨r, g', σ', a, b, c, d⟩ := q
  exact ⟨r, g', σ', p.trans a, x.trans b, c, d⟩
theorem EndB.trans {Q : Bool → H → Prop} {v : Bool} (p : Go K g s.heap g₁ σ₁ s₁.heap) (x : Sx s s₁) (q : EndB K g₁ s₁ Q v s') : EndB K g s Q v s' := by
  obtain ⟨g', σ', a, b, d⟩ := q
  exact ⟨g', σ', p.trans a, x.trans b, d⟩
theorem Fr.go {h h' : Heap} {g' : G} {σ' : H} (F : Fr K env cx m g h) (S : St K g σ h) (q : Go K g h g' σ' h') : Fr K env cx m g' h' where
  kind := F.kind
  names := F.names
  glob := F.glob
  blt := F.blt
  loc := by
    obtain ⟨ns, hn, hv⟩ := F.loc
    refine ⟨ns, (q.keep _ fun z => F.priv.1 (.inl z)).ns hn, fun x k v h1 h2 h3 => ?_⟩
    obtain ⟨w, e, r⟩ := hv x k v h1 h2 h3
    exact ⟨w, e, q.rel S r⟩
  cell := fun x k h1 h2 => by
    obtain ⟨c, o, e, hc, hv⟩ := F.cell x k h1 h2
    refine ⟨c, o, e, ?_, fun v h3 => ?_⟩
    · exact (q.keep _ fun z => (F.privC x c e).1 (.inl z)).cell hc
    · obtain ⟨w, e, r⟩ := hv v h3
      exact ⟨w, e, q.rel S r⟩
  priv := ⟨by
    obtain ⟨ns, ⟨o, es, ep, ho, _⟩, _⟩ := F.loc
    exact q.priv ho F.priv.1, F.priv.2⟩
  privC := fun x c e => by
    obtain ⟨h1, h2, o, hc⟩ := F.privC x c e
    obtain ⟨ob, ho, hd⟩ := id hc
    exact ⟨q.priv ho h1, h2, o, (q.keep _ fun z => h1 (.inl z)).cell hc⟩
  apart := F.apart
  inj := F.inj
  bnd := F.bnd
  hi := F.hi
  frs := F.frs.go q
end
end Mini

set_option autoImplicit false
namespace Mini
open PySem

theorem words_nodup : words.Nodup := by decide +kernel
theorem words_ok : words.all PyData.strOk = true := by decide +kernel
theorem words_inj {k l : Nat} {x y : Str} (h : words[k]? = some x) (h' : words[l]? = some y) : x = y ↔ k = l := by
  constructor
  · rintro rfl
    obtain ⟨li, ei⟩ := List.getElem?_eq_some_iff.mp h
    obtain ⟨lj, ej⟩ := List.getElem?_eq_some_iff.mp h'
    have q := List.pairwise_iff_getElem.mp words_nodup
    rcases Nat.lt_trichotomy k l with z | z | z
    · exact absurd (ei.trans ej.symm) (q k l li lj z)
    · exact z
    · exact absurd (ej.trans ei.symm) (q l k lj li z)
  · rintro rfl
    exact Option.some.inj (h.symm.trans h')

mutual
inductive DR : PyData → D → Prop where
  | none : DR .none .none
  | bool {b : Bool} : DR (.bool b) (.int (if b then 1 else 0))
  | int {i : Int} : DR (.int i) (.int i)
  | str {x : Str} {k : Nat} (h : words[k]? = some x) : DR (.str x) (.str k)
  | list {xs : List PyData} {ds : List D} (h : DRs xs ds) : DR (.list xs) (.list ds)
  | tup {xs : List PyData} {ds : List D} (h : DRs xs ds) : DR (.tuple xs) (.tup ds)
inductive DRs : List PyData → List D → Prop where
  | nil : DRs [] []
  | cons {x : PyData} {d : D} {xs : List PyData} {ds : List D} (h : DR x d) (t : DRs xs ds) : DRs (x :: xs) (d :: ds)
end

theorem b2i {a b : Bool} : (a = b) ↔ ((if a then 1 else 0 : Int) = if b then 1 else 0) := by cases a <;> cases b <;> decide
mutual
theorem DR.eqv : ∀ (p q : PyData) (d e : D), DR p d → DR q e → (PyData.eqv p q = true ↔ d = e)
  | .none, q, d, e, h1, h2 => by cases h1; cases h2 <;> simp [PyData.eqv]
  | .bool a, q, d, e, h1, h2 => by cases h1; cases h2 <;> simp [PyData.eqv] <;> (try exact b2i) <;> (try (cases a <;> simp <;> (first | lia | omega)))
  | .int a, q, d, e, h1, h2 => by cases h1; cases h2 <;> simp [PyData.eqv]
  | .str x, q, d, e, h1, h2 => by
    cases h1 with
    | str h => cases h2 with
      | str h' => simp only [PyData.eqv, beq_iff_eq, D.str.injEq]; exact words_inj h h'
      | _ => simp [PyData.eqv]
  | .list xs, q, d, e, h1, h2 => by
    cases h1 with
    | list h => cases h2 with
      | list h' => simp only [PyData.eqv, D.list.injEq]; exact DRs.eqv _ _ _ _ h h'
      | _ => simp [PyData.eqv]
  | .tuple xs, q, d, e, h1, h2 => by
    cases h1 with
    | tup h => cases h2 with
      | tup h' => simp only [PyData.eqv, D.tup.injEq]; exact DRs.eqv _ _ _ _ h h'
      | _ => simp [PyData.eqv]
  | .dict _, _, d, _, h1, _ => by cases h1
theorem DRs.eqv : ∀ (p q : List PyData) (d e : List D), DRs p d → DRs q e → (PyData.eqvAll p q = true ↔ d = e)
  | [], q, d, e, h1, h2 => by cases h1; cases h2 <;> simp [PyData.eqvAll]
  | x :: xs, q, d, e, h1, h2 => by
    cases h1 with
    | cons a b => cases h2 with
      | nil => simp [PyData.eqvAll]
      | cons a' b' => simp only [PyData.eqvAll, Bool.and_eq_true, DR.eqv _ _ _ _ a a', DRs.eqv _ _ _ _ b b', List.cons.injEq]
end
theorem DRs.any {q : PyData} {e : D} (h : DR q e) : ∀ {xs : List PyData} {ds : List D}, DRs xs ds → ((xs.any fun y => PyData.eqv y q) = true ↔ e ∈ ds)
  | [], ds, p => by cases p; simp
  | x :: xs, ds, p => by
    cases p with
    | cons a b =>
      simp only [List.any_cons, Bool.or_eq_true, List.mem_cons, DR.eqv _ _ _ _ a h, DRs.any h b]
      constructor <;> rintro (z | z) <;> simp [z]

section
variable {K : Ctx} {g : G} {σ : H} {h : Heap}

theorem mapO_cons {α β : Type} {f : α → Option β} {v : α} {vs : List α} {ds : List β} (e : mapO f (v :: vs) = some ds) : ∃ d ds', f v = some d ∧ mapO f vs = some ds' ∧ ds = d :: ds' := by
  unfold mapO at e
  cases h1 : f v with
  | none => simp [h1] at e
  | some d =>
    cases h2 : mapO f vs with
    | none => simp [h1, h2] at e
    | some ds' => simp [h1, h2] at e; exact ⟨d, ds', rfl, rfl, e.symm⟩

set_option genInjectivity false
set_option genSizeOfSpec false
inductive RdAt (h : Heap) (w : Value) (d : D) (n : Nat) : Prop
  | mk (p : PyData) (as : List Addr) (r : Reads h w p as) (e : DR p d) (c : p.canLay0 = true) (z : p.depth ≤ n)
inductive RdsAt (h : Heap) (ws : List Value) (ds : List D) (n : Nat) : Prop
  | mk (ps : List PyData) (as : List Addr) (r : ReadsAll h ws ps as) (e : DRs ps ds) (c : PyData.canLayAll0 ps = true) (z : PyData.depthAll ps ≤ n)
theorem reads_all {n : Nat} (ih : ∀ v d w, snap n σ v = some d → VRel K g h v w → RdAt h w d n) :
    ∀ (vs : List V) (ds : List D) (ws : List Value), mapO (snap n σ) vs = some ds → VRels K g h vs ws → RdsAt h ws ds n
  | [], ds, [], e, _ => by cases e; exact ⟨[], [], .nil, .nil, by simp [PyData.canLayAll0], by simp [PyData.depthAll]⟩
  | v :: vs, ds, w :: ws, e, r => by
    obtain ⟨d, ds', e1, e2, rfl⟩ := mapO_cons e
    obtain ⟨p, as, a1, a2, a3, a4⟩ := ih v d w e1 r.1
    obtain ⟨ps, bs, b1, b2, b3, b4⟩ := reads_all ih vs ds' ws e2 r.2
    exact ⟨p :: ps, as ++ bs, .cons a1 b1, .cons a2 b2, by simp [PyData.canLayAll0, a3, b3], by simp only [PyData.depthAll]; lia⟩
  | [], _, _ :: _, _, r => r.elim
  | _ :: _, _, [], _, r => r.elim

theorem reads_of (S : St K g σ h) : ∀ (n : Nat) (v : V) (d : D) (w : Value), snap n σ v = some d → VRel K g h v w → RdAt h w d n := by
  intro n
  induction n with
  | zero =>
    intro v d w e r
    cases v with
    | none => cases e; cases r; exact ⟨_, _, .none, .none, rfl, by simp [PyData.depth]⟩
    | bool b => cases e; cases r; exact ⟨_, _, .bool b, .bool, rfl, by simp [PyData.depth]⟩
    | int i => cases e; obtain ⟨t, rfl⟩ := r; exact ⟨_, _, .int i t, .int, rfl, by simp [PyData.depth]⟩
    | str k =>
      cases e; obtain ⟨s, t, hk, rfl⟩ := r
      exact ⟨_, _, .str s t, .str hk, by simp only [PyData.canLay0]; exact List.all_eq_true.mp words_ok s (List.mem_of_getElem? hk), by simp [PyData.depth]⟩
    | ref a => cases e
    | tup xs => cases e
    | inst xs => cases e
    | exc c => cases e
  | succ n ih =>
    intro v d w e r
    cases v with
    | none => cases e; cases r; exact ⟨_, _, .none, .none, rfl, by simp [PyData.depth]⟩
    | bool b => cases e; cases r; exact ⟨_, _, .bool b, .bool, rfl, by simp [PyData.depth]⟩
    | int i => cases e; obtain ⟨t, rfl⟩ := r; exact ⟨_, _, .int i t, .int, rfl, by simp [PyData.depth]⟩
    | str k =>
      cases e; obtain ⟨s, t, hk, rfl⟩ := r
      exact ⟨_, _, .str s t, .str hk, by simp only [PyData.canLay0]; exact List.all_eq_true.mp words_ok s (List.mem_of_getElem? hk), by simp [PyData.depth]⟩
    | ref a =>
      obtain ⟨b, hb, rfl⟩ := r
      have e : (match σ[a]? with
        | some xs => (mapO (snap n σ) xs).map D.list
        | none => none) = some d := e
      cases hx : σ[a]? with
      | none => rw [hx] at e; cases e
      | some xs =>
        rw [hx] at e
        obtain ⟨ds, e1, rfl⟩ := Option.map_eq_some_iff.mp e
        obtain ⟨vs, k, ho, hr⟩ := S.lists a b xs hb hx
        obtain ⟨ps, as, a1, a2, a3, a4⟩ := reads_all ih xs ds _ e1 hr
        exact ⟨.list ps, _, .list ho rfl rfl a1, .list a2, by simpa only [PyData.canLay0] using a3, by simp only [PyData.depth]; lia⟩
    | tup xs =>
      obtain ⟨b, vs, k, rfl, hi, ho, hr⟩ := r
      obtain ⟨ds, e1, rfl⟩ := Option.map_eq_some_iff.mp (show (mapO (snap n σ) xs).map D.tup = some d from e)
      obtain ⟨ps, as, a1, a2, a3, a4⟩ := reads_all ih xs ds _ e1 hr
      exact ⟨.tuple ps, _, .tuple ho rfl rfl a1, .tup a2, by simpa only [PyData.canLay0] using a3, by simp only [PyData.depth]; lia⟩
    | inst xs => cases e
    | exc c => cases e
end
end Mini

set_option autoImplicit false
namespace Mini
open PySem PySem.SeqAt

section
variable {K : Ctx} {g : G} {σ : H} {s : Shared} {A : Around} {n : Nat} {Q : P}

theorem lim_eq : lim = sizeLine := rfl
theorem sizeLine_is : sizeLine = 16777216 := rfl

set_option genInjectivity false
set_option genSizeOfSpec false
inductive LAt (K : Ctx) (g : G) (h : Heap) (a : Nat) (xs : List V) (w : Value) : Prop
  | mk (b : Addr) (vs : Array Value) (k : Nat) (e : w = .ref b) (hb : g.ρ[a]? = some b) (l : IsL h b vs k) (r : VRels K g h xs vs.toList) (z : vs.size = xs.length) (zl : vs.size ≤ sizeLine)
theorem St.list (S : St K g σ s.heap) {a : Nat} {w : Value} {xs : List V} (r : VRel K g s.heap (.ref a) w) (hx : σ[a]? = some xs) : LAt K g s.heap a xs w := by
  obtain ⟨b, hb, rfl⟩ := r
  obtain ⟨vs, k, ho, hr⟩ := S.lists a b xs hb hx
  have e : vs.size = xs.length := by (refine rwE hr.length ?_; (refine rwE Array.length_toList ?_; with_reducible rfl))
  exact ⟨b, vs, k, rfl, hb, ho, hr, e, by refine rwE e ?_; exact S.small xs (List.mem_of_getElem? hx)⟩

theorem end_same (S : St K g σ s.heap) {r : V} {v : Value} {tk : Nat} (e : VRel K g s.heap r v) (q : Q r σ) : EndE K g s Q v { s with toks := tk } := ⟨r, g, σ, Go.refl S, ⟨rfl, rfl⟩, e, q⟩
theorem end_kept (S : St K g σ s.heap) {h' : Heap} {tk : Nat} (hk : ∀ b o, s.heap.get? b = some o → h'.get? b = some o) {r : V} {v : Value} (e : VRel K g s.heap r v) (q : Q r σ) : EndE K g s Q v { s with heap := h', toks := tk } :=
  ⟨r, g, σ, Go.change S hk, ⟨rfl, rfl⟩, (Go.change S hk).rel S e, q⟩

/-- a new list at the end of the heap, or later -/
theorem end_list (S : St K g σ s.heap) {h' : Heap} {tk : Nat} {b : Addr} {xs : List V} {vs : Array Value} {k : Nat} (hb : s.heap.get? b = none) (hk : ∀ b o, s.heap.get? b = some o → h'.get? b = some o)
    (e : h'.get? b = some { cls := .type "list", data := .seq vs k }) (r : VRels K g s.heap xs vs.toList) (q : alloc xs σ Q) : EndE K g s Q (.ref b) { s with heap := h', toks := tk } := by
  refine ⟨.ref σ.length, _, _, Go.list S hb hk e r q.1, ⟨rfl, rfl⟩, ⟨b, ?_, rfl⟩, q.2⟩
  show (g.ρ ++ [b])[σ.length]? = some b
  refine rwE (Eq.symm (S.len)) ?_; simp
theorem none_at_size (h : Heap) : h.get? h.objs.size = none := by
  cases e : h.get? h.objs.size with
  | none => rfl
  | some o => exact absurd (Heap.lt_size e) (Nat.lt_irrefl _)
theorem none_above {h : Heap} {a : Addr} (ha : h.objs.size ≤ a) : h.get? a = none := by
  cases e : h.get? a with
  | none => rfl
  | some o => exact absurd (Heap.lt_size e) (Nat.not_lt.mpr ha)
theorem end_listP (S : St K g σ s.heap) {xs : List V} {vs : Array Value} (r : VRels K g s.heap xs vs.toList) (q : alloc xs σ Q) :
    EndE K g s Q (.ref s.heap.objs.size) { s with heap := s.heap.push { cls := .type "list", data := .seq vs } } :=
  end_list S (none_at_size _) (fun _ _ e => Heap.get?_push_of_some _ e) (Heap.get?_push_size _ rfl) r q
theorem end_tup (S : St K g σ s.heap) {xs : List V} {vs : List Value} (r : VRels K g s.heap xs vs) (q : Q (.tup xs) σ) :
    EndE K g s Q (.ref s.heap.objs.size) { s with heap := s.heap.push { cls := .type "tuple", data := .seq vs.toArray } } := by
  have go : Go K g s.heap _ σ (s.heap.push { cls := .type "tuple", data := .seq vs.toArray }) := Go.imms S (fun b => b = s.heap.objs.size) (fun b e => e ▸ none_at_size _) (fun b e => e ▸ ⟨_, Heap.get?_push_size _ rfl⟩) (fun _ _ e => Heap.get?_push_of_some _ e)
  exact ⟨.tup xs, _, σ, go, ⟨rfl, rfl⟩, ⟨_, vs.toArray, 0, rfl, .inr rfl, Heap.get?_push_size _ rfl, go.rels S r⟩, q⟩

noncomputable def opOf : Operator → Option Bin
  | .Add => some .add
  | .Sub => some .sub
  | .Mult => some .mul
  | .FloorDiv => some .fdiv
  | .Mod => some .mod
  | _ => none

theorem flat_rep (vs : Array Value) : ∀ (k : Nat) (acc : Array Value), (List.foldl (fun x1 x2 => x1 ++ x2) acc (List.replicate k vs)).toList = acc.toList ++ (List.replicate k vs.toList).flatten
  | 0, acc => by simp
  | k + 1, acc => by simp [List.replicate_succ, flat_rep vs k, List.append_assoc]
theorem VRels.rep {h : Heap} {xs : List V} {vs : List Value} (r : VRels K g h xs vs) : ∀ k : Nat, VRels K g h (List.replicate k xs).flatten (List.replicate k vs).flatten
  | 0 => trivial
  | k + 1 => by simpa [List.replicate_succ] using r.append (VRels.rep r k)

theorem vint (K : Ctx) (g : G) (h : Heap) (i : Int) (t : Tok) : VRel K g h (.int i) (.int i t) := ⟨t, rfl⟩
theorem vbool (K : Ctx) (g : G) (h : Heap) (b : Bool) : VRel K g h (.bool b) (.bool b) := rfl

theorem mul_sound (S : St K g σ s.heap) {a : Nat} {v : Value} {k : Int} {u : Tok} {xs : List V} (ra : VRel K g s.heap (.ref a) v) (hx : σ[a]? = some xs) (h1 : k < 2 ^ 24) (h2 : -(2 ^ 24) < k)
    (q : alloc (List.replicate k.toNat xs).flatten σ Q) : wpAny (model K.prog K.w) A (binaryOp .Mult v (.int k u)) (EndE K g s Q) noE s := by
  obtain ⟨b₁, vs, n₁, rfl, _, hl, r1, e1, z1⟩ := S.list ra hx
  have hlen : vs.size * k.toNat ≤ 2 ^ 24 := by
    have := q.1
    rw [List.length_flatten, List.map_replicate, List.sum_replicate_nat, ← e1] at this
    rewrite [Nat.mul_comm]; exact this
  refine wpAny_binaryOp_repeat_ref (T := "list") (U := "int") (by decide) ⟨_, hl, rfl⟩ (fun s' => typeIs_int s' k u) noFill_list_mul F.fills_int_mul F.slot_int_rmul repeat_list F.slot_int_index.lookup
    (call_meets F.slot_int_rmul (typeIs_int s k u) F.entry_int_rmul (F.args_int_rmul_2 _ _) (int___rmul___int_list k u b₁ vs n₁)
      ⟨hl, rfl, ⟨_, hl, rfl⟩, call_meets F.slot_list_mul ⟨_, hl, rfl⟩ F.entry_list_mul (F.args_list_mul_2 _ _)
        (AutoListH.list___mul___list_int_3 b₁ vs n₁ k u (by simp [Builtin.List.listFitsIndex]; lia) (by lia) (by simp [Builtin.List.listTooLong, sizeLine]; assumption))
        ⟨hl, end_listP S ?_ q⟩⟩)
  by_cases he : vs.isEmpty = true
  · have e0 : vs = #[] := by simpa using he
    subst e0
    have ex : xs = [] := by simpa using e1.symm
    subst ex
    have : (List.replicate k.toNat ([] : List V)).flatten = [] := by simp
    refine rwE this ?_
    trivial
  · (refine rwE (if_neg he) ?_; rewrite [flat_rep])
    exact r1.rep _

theorem onI_ok {f : Int → Int → Prop} {a b : V} {v w : Value} {h : Heap} {G : Value → Value → Prop} (ra : VRel K g h a v) (rb : VRel K g h b w) (W : onI a b f) (H : ∀ i t j u, f i j → G (.int i t) (.int j u)) : G v w := by
  cases a <;> try exact False.elim W
  cases b <;> try exact False.elim W
  obtain ⟨t, rfl⟩ := ra; obtain ⟨u, rfl⟩ := rb
  exact H _ t _ u W
theorem binI_sound (S : St K g σ s.heap) {op : Operator} {o : Bin} (ho : opOf op = some o) {i j : Int} {t u : Tok} (W : binI o i j σ Q) : wpAny (model K.prog K.w) A (binaryOp op (.int i t) (.int j u)) (EndE K g s Q) noE s := by
  cases op <;> cases ho
  · exact PyProof.Rows.add_int (end_same S (vint ..) W)
  · exact PyProof.Rows.sub_int (end_same S (vint ..) W)
  · refine PyProof.Rows.mul_int (end_same S (vint ..) W.2) ?_
    have := intBits_le_64 (k := j) (by have := W.1.1; lia) (by have := W.1.2; lia)
    unfold IntMulOk
    have h2 : ¬ (Builtin.Int.intBits j > shortFactorBits) := by
      show ¬ (Builtin.Int.intBits j > 64)
      exact Nat.not_lt.mpr this
    simp [h2]
  · refine PyProof.Rows.mod_int' (by have := W.1; lia) (end_same S (vint ..) ?_)
    refine rwE (Int.fmod_eq_emod_of_nonneg _ (by have := W.1; lia)) ?_; exact W.2
  · refine PyProof.Rows.floordiv_int (by have := W.1; lia) (end_same S (vint ..) ?_) (.inl (PyProof.noPylong_small (by have := W.1; lia)))
    refine rwE (Int.fdiv_eq_ediv_of_nonneg _ (by have := W.1; lia)) ?_; exact W.2
theorem op_add {op : Operator} (h : opOf op = some .add) : op = .Add := by cases op <;> first | rfl | cases h
theorem op_mul {op : Operator} (h : opOf op = some .mul) : op = .Mult := by cases op <;> first | rfl | cases h
theorem binop_sound (S : St K g σ s.heap) {op : Operator} {o : Bin} (ho : opOf op = some o) {a b : V} {v w : Value} (ra : VRel K g s.heap a v) (rb : VRel K g s.heap b w)
    (W : binop o a b σ Q) : wpAny (model K.prog K.w) A (binaryOp op v w) (EndE K g s Q) noE s := by
  cases a <;> try exact False.elim W
  · cases b <;> try exact False.elim W
    obtain ⟨t, rfl⟩ := ra; obtain ⟨u, rfl⟩ := rb
    exact binI_sound S ho W
  · cases b <;> try exact False.elim W
    · obtain ⟨rfl, xs, hx, h1, h2, q⟩ := W
      obtain ⟨u, rfl⟩ := rb
      refine rwE (op_mul ho) ?_
      exact mul_sound S ra hx h1 h2 q
    · obtain ⟨rfl, xs, ys, hx, hy, q⟩ := W
      obtain ⟨b₁, vs, k, rfl, _, h1, r1, e1, z1⟩ := S.list ra hx
      obtain ⟨b₂, ws, k₂, rfl, _, h2, r2, e2, z2⟩ := S.list rb hy
      refine rwE (op_add ho) ?_
      refine P.add_list h1 h2 (end_listP S (by refine rwE Array.toList_append ?_; exact r1.append r2) q) ?_
      have := q.1
      rw [List.length_append] at this
      (refine rwE e1 ?_; refine rwE e2 ?_); exact this

noncomputable def cmpOf : CmpOp → Option Cmp
  | .Eq => some .eq
  | .NotEq => some .ne
  | .Lt => some .lt
  | .LtE => some .le
  | .Gt => some .gt
  | .GtE => some .ge
  | .Is => some .is
  | .IsNot => some .isNot
  | .In => some .inn
  | .NotIn => some .notIn

theorem cmp_none (a : V) {v : Value} (ra : VRel K g s.heap a v) : plainIs v .none = true ∧ ((v == .none) = true ↔ a = .none) := by
  cases a with
  | none => cases ra; exact ⟨rfl, by simp⟩
  | bool b => cases ra; exact ⟨rfl, by simp⟩
  | int i => obtain ⟨t, rfl⟩ := ra; exact ⟨rfl, by simp⟩
  | str k => obtain ⟨x, t, _, rfl⟩ := ra; exact ⟨rfl, by simp⟩
  | ref a => obtain ⟨b, _, rfl⟩ := ra; exact ⟨rfl, by simp⟩
  | tup xs => obtain ⟨b, _, _, rfl, _⟩ := ra; exact ⟨rfl, by simp⟩
  | inst xs => obtain ⟨b, _, _, _, rfl, _⟩ := ra; exact ⟨rfl, by simp⟩
  | exc c => obtain ⟨b, _, rfl, _⟩ := ra; exact ⟨rfl, by simp⟩

theorem cmpop_sound (R : Room K A n) (S : St K g σ s.heap) {op : CmpOp} {o : Cmp} (ho : cmpOf op = some o) {a b : V} {v w : Value} (ra : VRel K g s.heap a v) (rb : VRel K g s.heap b w)
    (W : cmpop o a b σ Q) : wpAny (model K.prog K.w) A (compareOp op v w) (EndE K g s Q) noE s := by
  have hu := R.units
  cases op <;> cases ho
  · obtain ⟨d, e, h1, h2, q⟩ := W
    obtain ⟨p, as, r1, d1, c1, z1⟩ := reads_of S _ _ _ _ h1 ra
    obtain ⟨p', bs, r2, d2, c2, z2⟩ := reads_of S _ _ _ _ h2 rb
    exact compareEq_reads r1 r2 c1 c2 (by lia) (end_same S (vbool ..) (q _ (DR.eqv _ _ _ _ d1 d2)))
  · obtain ⟨d, e, h1, h2, q⟩ := W
    obtain ⟨p, as, r1, d1, c1, z1⟩ := reads_of S _ _ _ _ h1 ra
    obtain ⟨p', bs, r2, d2, c2, z2⟩ := reads_of S _ _ _ _ h2 rb
    refine compareNe_reads r1 r2 c1 c2 (by lia) (end_same S (vbool ..) (q _ ?_))
    rewrite [← DR.eqv _ _ _ _ d1 d2]; simp
  · exact onI_ok (G := fun v w => wpAny (model K.prog K.w) A (compareOp .Lt v w) (EndE K g s Q) noE s) ra rb W fun i t j u h => PyProof.Rows.lt_int (end_same S (vbool ..) h)
  · exact onI_ok (G := fun v w => wpAny (model K.prog K.w) A (compareOp .LtE v w) (EndE K g s Q) noE s) ra rb W fun i t j u h => PyProof.Rows.le_int (end_same S (vbool ..) h)
  · exact onI_ok (G := fun v w => wpAny (model K.prog K.w) A (compareOp .Gt v w) (EndE K g s Q) noE s) ra rb W fun i t j u h => PyProof.Rows.gt_int (end_same S (vbool ..) h)
  · exact onI_ok (G := fun v w => wpAny (model K.prog K.w) A (compareOp .GtE v w) (EndE K g s Q) noE s) ra rb W fun i t j u h => PyProof.Rows.ge_int (end_same S (vbool ..) h)
  · cases b <;> try exact False.elim W
    cases rb
    obtain ⟨p1, p2⟩ := cmp_none a ra
    exact wpAny_is_plain p1 (end_same S (vbool ..) (W _ p2))
  · cases b with
    | none =>
      cases rb
      obtain ⟨p1, p2⟩ := cmp_none a ra
      exact wpAny_isNot_plain p1 (end_same S (vbool ..) (W _ (by rewrite [← p2]; simp)))
    | bool b =>
      cases a <;> try exact False.elim W
      cases ra; cases rb
      refine wpAny_isNot_plain rfl (end_same S (vbool ..) ?_)
      rename_i a
      have : (!(Value.bool a == Value.bool b)) = (a != b) := by cases a <;> cases b <;> rfl
      refine rwE this ?_; exact W
    | _ => exact False.elim W
  · cases b <;> try exact False.elim W
    · obtain ⟨d, xs, ds, h1, hx, h2, q⟩ := W
      obtain ⟨p, as, r1, d1, c1, z1⟩ := reads_of S _ _ _ _ h1 ra
      obtain ⟨b₁, vs, k, rfl, _, hl, r2, e1, _⟩ := S.list rb hx
      obtain ⟨ps, bs, p1, p2, p3, p4⟩ := reads_all (fun v d w => reads_of S _ v d w) _ _ _ h2 r2
      exact in_list_reads (.list hl rfl rfl p1) r1 p3 c1 (by lia) (end_same S (vbool ..) (q _ (DRs.any d1 p2)))
    · obtain ⟨d, ds, h1, h2, q⟩ := W
      obtain ⟨p, as, r1, d1, c1, z1⟩ := reads_of S _ _ _ _ h1 ra
      obtain ⟨b₁, vs, k, rfl, _, hl, r2⟩ := rb
      obtain ⟨ps, bs, p1, p2, p3, p4⟩ := reads_all (fun v d w => reads_of S _ v d w) _ _ _ h2 r2
      exact in_tuple_reads (.tuple hl rfl rfl p1) r1 p3 c1 (by lia) (end_same S (vbool ..) (q _ (DRs.any d1 p2)))
  · cases b <;> try exact False.elim W
    · obtain ⟨d, xs, ds, h1, hx, h2, q⟩ := W
      obtain ⟨p, as, r1, d1, c1, z1⟩ := reads_of S _ _ _ _ h1 ra
      obtain ⟨b₁, vs, k, rfl, _, hl, r2, e1, _⟩ := S.list rb hx
      obtain ⟨ps, bs, p1, p2, p3, p4⟩ := reads_all (fun v d w => reads_of S _ v d w) _ _ _ h2 r2
      exact notIn_list_reads (.list hl rfl rfl p1) r1 p3 c1 (by lia) (end_same S (vbool ..) (q _ (by rewrite [← DRs.any d1 p2]; simp)))
    · obtain ⟨d, ds, h1, h2, q⟩ := W
      obtain ⟨p, as, r1, d1, c1, z1⟩ := reads_of S _ _ _ _ h1 ra
      obtain ⟨b₁, vs, k, rfl, _, hl, r2⟩ := rb
      obtain ⟨ps, bs, p1, p2, p3, p4⟩ := reads_all (fun v d w => reads_of S _ v d w) _ _ _ h2 r2
      exact notIn_tuple_reads (.tuple hl rfl rfl p1) r1 p3 c1 (by lia) (end_same S (vbool ..) (q _ (by rewrite [← DRs.any d1 p2]; simp)))

theorem truthy_sound (S : St K g σ s.heap) {a : V} {v : Value} {k : Bool → H → Prop} (ra : VRel K g s.heap a v) (W : truthy k a σ) : wpAny (model K.prog K.w) A (PySem.truthy v) (EndB K g s k) noE s := by
  cases a <;> try exact False.elim W
  cases ra
  exact wpAny_truthy_bool ⟨g, σ, Go.refl S, Sx.refl s, W⟩
end
end Mini

set_option autoImplicit false
set_option linter.unusedVariables false
namespace Mini
open PySem

structure GoX (K : Ctx) (X : Addr → Prop) (g : G) (h : Heap) (g' : G) (σ' : H) (h' : Heap) : Prop where
  st : St K g' σ' h'
  pre : g.ρ <+: g'.ρ
  imm : ∀ b, g.ι b → g'.ι b
  new : ∀ b, g'.own b → g.own b ∨ h.get? b = none
  keep : ∀ b, b ∉ g.ρ → ¬ X b → Kp h h' b
  there : ∀ b o, h.get? b = some o → ∃ o', h'.get? b = some o'
  ex : ∀ b o, g.ι b → h.get? b = some o → h'.get? b = some o
  dic : ∀ b o, b ∉ g.ρ → h.get? b = some o → isD o → ∃ o', h'.get? b = some o' ∧ isD o'

section
variable {K : Ctx} {X Y : Addr → Prop} {g g' g₁ g₂ : G} {σ σ' σ₁ σ₂ : H} {h h' h₁ h₂ : Heap}

theorem St.there (s : St K g' σ' h') (hp : g.ρ <+: g'.ρ) {b : Addr} (hb : b ∈ g.ρ) : ∃ o', h'.get? b = some o' := by
  have hb' : b ∈ g'.ρ := hp.subset hb
  obtain ⟨j, hj, hja⟩ := List.getElem_of_mem hb'
  have hl : j < σ'.length := s.len ▸ hj
  obtain ⟨vs, n, e', _⟩ := s.lists j _ σ'[j] (List.getElem?_eq_getElem hj) (List.getElem?_eq_getElem hl)
  exact ⟨_, hja ▸ e'⟩
theorem Go.dic (q : Go K g h g' σ' h') : ∀ b o, b ∉ g.ρ → h.get? b = some o → isD o → ∃ o', h'.get? b = some o' ∧ isD o' := fun b o n e d =>
  let ⟨o', e', s⟩ := q.keep b n o e; ⟨o', e', s.isD d⟩
theorem Go.toX (q : Go K g h g' σ' h') : GoX K X g h g' σ' h' := ⟨q.st, q.pre, q.imm, q.new, fun b n _ => q.keep b n, fun b o e => by
  by_cases hb : b ∈ g.ρ
  · exact q.st.there q.pre hb
  · obtain ⟨o', e', _⟩ := q.keep b hb o e; exact ⟨o', e'⟩, q.ex, q.dic⟩
theorem GoX.toGo (q : GoX K X g h g' σ' h') (hx : ∀ b, X b → h.get? b = none) : Go K g h g' σ' h' := ⟨q.st, q.pre, q.imm, q.new, fun b n o e => q.keep b n (fun z => by rw [hx b z] at e; cases e) o e, q.ex⟩
theorem GoX.shrink (q : GoX K X g h g' σ' h') (hx : ∀ b, X b → Y b ∨ h.get? b = none) : GoX K Y g h g' σ' h' := by
  refine ⟨q.st, q.pre, q.imm, q.new, fun b n ny o e => q.keep b n (fun z => ?_) o e, q.there, q.ex, q.dic⟩
  rcases hx b z with y | y
  · exact ny y
  · rw [y] at e; cases e
theorem GoX.rel (q : GoX K X g h g' σ' h') (s : St K g σ h) (hx : ∀ b, X b → ¬ g.own b) {v : V} {w : Value} (r : VRel K g h v w) : VRel K g' h' v w :=
  VRel.mono (fun _ _ e => pre_get q.pre e) q.imm q.ex v w r
theorem GoX.rels (q : GoX K X g h g' σ' h') (s : St K g σ h) (hx : ∀ b, X b → ¬ g.own b) {v : List V} {w : List Value} (r : VRels K g h v w) : VRels K g' h' v w :=
  VRels.mono (fun _ _ e => pre_get q.pre e) q.imm q.ex v w r
theorem GoX.priv (q : GoX K X g h g' σ' h') {b : Addr} {o : Obj} (e : h.get? b = some o) (n : ¬ g.own b) : ¬ g'.own b := fun x => by
  rcases q.new b x with y | y
  · exact n y
  · rw [e] at y; cases y
theorem Frs.goX (F : Frs K g h) (q : GoX K X g h g' σ' h') : Frs K g' h' := fun env he => by
  obtain ⟨k, L, o, h1, h2, h3, h4, h5⟩ := F env he
  obtain ⟨o', e', d⟩ := q.dic L o (fun z => h3 (.inl z)) h4 h5
  exact ⟨k, L, o', h1, h2, q.priv h4 h3, e', d⟩
/-- a private address stays out of the lists -/
theorem GoX.out (q : GoX K X g h g₁ σ₁ h₁) {b : Addr} {o : Obj} (e : h.get? b = some o) (n : b ∉ g.ρ) : b ∉ g₁.ρ := fun hb => by
  rcases q.new b (.inl hb) with x | x
  · rcases x with x | x
    · exact n x
    · exact (q.st.imm b (q.imm b x)).2.1 hb
  · rw [e] at x; cases x
theorem GoX.trans (q : GoX K X g h g₁ σ₁ h₁) (r : GoX K X g₁ h₁ g₂ σ₂ h₂) : GoX K X g h g₂ σ₂ h₂ where
  st := r.st
  pre := q.pre.trans r.pre
  imm := fun b i => r.imm b (q.imm b i)
  new := fun b o => by
    rcases r.new b o with x | x
    · exact q.new b x
    · cases e : h.get? b with
      | none => exact .inr rfl
      | some ob => obtain ⟨o', e'⟩ := q.there b ob e; rw [e'] at x; cases x
  keep := fun b n nx o e => (q.keep b n nx).trans (r.keep b (q.out e n) nx) o e
  there := fun b o e => by
    obtain ⟨o', e'⟩ := q.there b o e
    exact r.there b o' e'
  ex := fun b o i e => r.ex b o (q.imm b i) (q.ex b o i e)
  dic := fun b o n e d => by
    obtain ⟨o', e', d'⟩ := q.dic b o n e d
    exact r.dic b o' (q.out e n) e' d'
/-- private things are changed, new private things made -/
theorem GoX.of (q : St K g σ h) (hk : ∀ b o, h.get? b = some o → ¬ X b → h'.get? b = some o) (ht : ∀ b, X b → ∃ o', h'.get? b = some o' ∧ ∀ o, h.get? b = some o → isD o → isD o') (hp : ∀ b, X b → ¬ g.own b ∧ K.hB.get? b = none) : GoX K X g h g σ h' := by
  have hex : ∀ b o, g.ι b → h.get? b = some o → h'.get? b = some o := fun b o i e => hk b o e fun x => (hp b x).1 (.inr i)
  refine ⟨q.change fun b o e z => hk b o e fun x => ?_, List.prefix_refl _, fun _ i => i, fun _ o => .inl o, fun b _ nx => .of fun o e => hk b o e nx, fun b o e => ?_, hex, fun b o _ e d => ?_⟩
  · rcases z with z | ⟨o', z⟩
    · exact (hp b x).1 z
    · rw [(hp b x).2] at z; cases z
  · by_cases x : X b
    · obtain ⟨o', e', _⟩ := ht b x; exact ⟨o', e'⟩
    · exact ⟨o, hk b o e x⟩
  · by_cases x : X b
    · obtain ⟨o', e', d'⟩ := ht b x; exact ⟨o', e', d' o e d⟩
    · exact ⟨o, hk b o e x, d⟩
theorem GoX.sameBut (q : St K g σ h) {a : Addr} {o' : Obj} (hp : ¬ g.own a ∧ K.hB.get? a = none) (e' : h'.get? a = some o') (hs : Heap.ExtBut a h h') (hd : ∀ o, h.get? a = some o → isD o → isD o') : GoX K (· = a) g h g σ h' :=
  GoX.of q (fun b o e n => hs b o n e) (fun b e => e ▸ ⟨o', e', hd⟩) (fun b e => e ▸ hp)
end

/-- what a frame may change of its own -/
noncomputable def fpOf (env : Env) (b : Addr) : Prop := b = env.locals ∨ ∃ x, env.cells.lookup x = some b

section
variable {K : Ctx} {X : Addr → Prop} {g g₁ g' : G} {σ σ₁ σ' : H} {h h' : Heap} {s s₁ s' : Shared} {cx : Cx} {env : Env} {m : M} {A : Around} {n : Nat}

theorem Fr.fp (F : Fr K env cx m g h) : ∀ b, fpOf env b → ¬ g.own b ∧ K.hB.get? b = none ∧ ∃ o, h.get? b = some o ∧ ((∃ es ep, o.data = .dict es ep) ∨ ∃ v, o.data = .cell v) := by
  rintro b (rfl | ⟨x, e⟩)
  · obtain ⟨ns, ⟨o, es, ep, ho, hd, _⟩, _⟩ := F.loc
    exact ⟨F.priv.1, F.priv.2, o, ho, .inl ⟨es, ep, hd⟩⟩
  · obtain ⟨h1, h2, v, o, ho, hd⟩ := F.privC x b e
    exact ⟨h1, h2, o, ho, .inr ⟨v, hd⟩⟩
theorem Fr.goX (F : Fr K env cx m g h) (S : St K g σ h) (q : GoX K X g h g' σ' h') (hx : ∀ b, X b → ¬ fpOf env b) (hp : ∀ b, X b → ¬ g.own b) : Fr K env cx m g' h' where
  kind := F.kind
  names := F.names
  glob := F.glob
  blt := F.blt
  loc := by
    obtain ⟨ns, hn, hv⟩ := F.loc
    refine ⟨ns, (q.keep _ (fun z => F.priv.1 (.inl z)) fun z => hx _ z (.inl rfl)).ns hn, fun x k v h1 h2 h3 => ?_⟩
    obtain ⟨w, e, r⟩ := hv x k v h1 h2 h3
    exact ⟨w, e, q.rel S hp r⟩
  cell := fun x k h1 h2 => by
    obtain ⟨c, o, e, hc, hv⟩ := F.cell x k h1 h2
    refine ⟨c, o, e, ?_, fun v h3 => ?_⟩
    · exact (q.keep _ (fun z => (F.privC x c e).1 (.inl z)) fun z => hx _ z (.inr ⟨x, e⟩)).cell hc
    · obtain ⟨w, e, r⟩ := hv v h3
      exact ⟨w, e, q.rel S hp r⟩
  priv := ⟨by
    obtain ⟨ns, ⟨o, es, ep, ho, _⟩, _⟩ := F.loc
    exact q.priv ho F.priv.1, F.priv.2⟩
  privC := fun x c e => by
    obtain ⟨h1, h2, o, hc⟩ := F.privC x c e
    obtain ⟨ob, ho, hd⟩ := id hc
    exact ⟨q.priv ho h1, h2, o, (q.keep _ (fun z => h1 (.inl z)) fun z => hx _ z (.inr ⟨x, e⟩)).cell hc⟩
  apart := F.apart
  inj := F.inj
  bnd := F.bnd
  hi := F.hi
  frs := F.frs.goX q

theorem get_put : ∀ (m : M) (k j : Nat) (v w : V), get (put m k v) j = some w → (j = k ∧ w = v) ∨ (j ≠ k ∧ get m j = some w)
  | [], _, _, _, _, e => by simp [put, get] at e
  | u :: m, 0, 0, v, w, e => by simp [put, get] at e; exact .inl ⟨rfl, e.symm⟩
  | u :: m, 0, j + 1, v, w, e => by simp [put, get] at e; exact .inr ⟨by lia, by simpa [get] using e⟩
  | u :: m, k + 1, 0, v, w, e => by simp [put, get] at e; exact .inr ⟨by lia, by simpa [get] using e⟩
  | u :: m, k + 1, j + 1, v, w, e => by
    simp only [put, get] at e
    rcases get_put m k j v w e with ⟨a, b⟩ | ⟨a, b⟩
    · exact .inl ⟨by lia, b⟩
    · exact .inr ⟨by lia, b⟩

theorem Fr.hi_put (F : Fr K env cx m g h) {k : Nat} {v : V} {x : Str} (hx : cx.slots.lookup x = some k) : ∀ j, cx.slots.length ≤ j → get (put m k v) j = none := fun j hj => by
  cases e : get (put m k v) j with
  | none => rfl
  | some w =>
    rcases get_put _ _ _ _ _ e with ⟨a, _⟩ | ⟨_, b⟩
    · have := F.bnd x k hx; lia
    · rw [F.hi j hj] at b; cases b

/-- where a name may be stored -/
noncomputable def slotOf (cx : Cx) (x : Str) : Option Nat := match cx.names.lookup x with
  | some .local => cx.slots.lookup x
  | some .cell => cx.slots.lookup x
  | _ => none

theorem store_local (F : Fr K env cx m g s.heap) (S : St K g σ s.heap) {x : Str} {k : Nat} (hl : cx.names.lookup x = some .local) (hx : cx.slots.lookup x = some k) {v : V} {w : Value} (r : VRel K g s.heap v w) {Q : Unit → Shared → Prop} {E : Value → Shared → Prop}
    (hQ : ∀ s', GoX K (· = env.locals) g s.heap g σ s'.heap → Sx s s' → Fr K env cx (put m k v) g s'.heap → Q () s') : wpAny (model K.prog K.w) A (storeName env x w) Q E s := by
  have hkind : env.kindOf x = cx.names.lookup x := by unfold Env.kindOf; (refine rwE F.names ?_; with_reducible rfl)
  obtain ⟨ns, hn, hv⟩ := F.loc
  refine wpAny_storeName_local (hkind.trans hl) hn (fun h' hn' hs' => ?_) (by refine rwE F.kind ?_; rfl)
  have go : GoX K (· = env.locals) g s.heap g σ h' := by
    obtain ⟨o', es, ep, e', hd', _⟩ := id hn'
    exact GoX.sameBut S F.priv e' hs'.extBut fun _ _ _ => ⟨es, ep, hd'⟩
  have rr : ∀ {v : V} {w : Value}, VRel K g s.heap v w → VRel K g h' v w := fun {v w} r => go.rel S (fun b e => e ▸ F.priv.1) r
  refine hQ _ go ⟨rfl, rfl⟩ ⟨F.kind, F.names, F.glob, F.blt, ⟨_, hn', fun y j u h1 h2 h3 => ?_⟩, fun y j h1 h2 => ?_, ⟨F.priv.1, F.priv.2⟩, fun y c e => ?_, F.apart, F.inj, F.bnd, F.hi_put hx, F.frs.goX go⟩
  · rcases get_put _ _ _ _ _ h3 with ⟨e1, e2⟩ | ⟨e1, e2⟩
    · subst e1 e2
      have : y = x := F.inj _ _ _ h1 hx
      subst this
      exact ⟨w, by simp, rr r⟩
    · have : y ≠ x := fun z => e1 (by subst z; rw [h1] at hx; exact Option.some.inj hx)
      obtain ⟨w', e3, r'⟩ := hv y j u h1 h2 e2
      exact ⟨w', by refine rwE (if_neg this) ?_; exact e3, rr r'⟩
  · obtain ⟨c, o, e, hc, hv⟩ := F.cell y j h1 h2
    have hcL : c ≠ env.locals := by
      rintro rfl
      obtain ⟨_, _, _, ho, hd, _⟩ := hn
      obtain ⟨ob, ho', hd'⟩ := hc
      rw [ho] at ho'; cases ho'; rw [hd] at hd'; cases hd'
    refine ⟨c, o, e, hc.sameBut hs' hcL, fun u h3 => ?_⟩
    rcases get_put _ _ _ _ _ h3 with ⟨e1, e2⟩ | ⟨e1, e2⟩
    · subst e1
      have : y = x := F.inj _ _ _ h1 hx
      subst this
      rw [hl] at h2; cases h2
    · obtain ⟨w', e3, r'⟩ := hv u e2
      exact ⟨w', e3, rr r'⟩
  · obtain ⟨a1, a2, o, a3⟩ := F.privC y c e
    have hcL : c ≠ env.locals := by
      rintro rfl
      obtain ⟨_, _, _, ho, hd, _⟩ := hn
      obtain ⟨ob, ho', hd'⟩ := a3
      rw [ho] at ho'; cases ho'; rw [hd] at hd'; cases hd'
    exact ⟨a1, a2, o, a3.sameBut hs' hcL⟩
theorem store_cell (F : Fr K env cx m g s.heap) (S : St K g σ s.heap) {x : Str} {k : Nat} (hl : cx.names.lookup x = some .cell) (hx : cx.slots.lookup x = some k) {v : V} {w : Value} (r : VRel K g s.heap v w) {Q : Unit → Shared → Prop} {E : Value → Shared → Prop}
    (hQ : ∀ s', GoX K (fpOf env) g s.heap g σ s'.heap → Sx s s' → Fr K env cx (put m k v) g s'.heap → Q () s') : wpAny (model K.prog K.w) A (storeName env x w) Q E s := by
  have hkind : env.kindOf x = cx.names.lookup x := by unfold Env.kindOf; (refine rwE F.names ?_; with_reducible rfl)
  obtain ⟨c, o, e, hc, hv⟩ := F.cell x k hx hl
  have pc := F.privC x c e
  refine wpAny_storeName_cell F.kind (hkind.trans hl) e hc fun h' hc' hs' => ?_
  have go : GoX K (· = c) g s.heap g σ h' := by
    obtain ⟨o', e', _⟩ := id hc'
    exact GoX.sameBut S ⟨pc.1, pc.2.1⟩ e' hs'.extBut fun o ho d => by
      obtain ⟨ob, ho', hd'⟩ := hc
      obtain ⟨_, _, d⟩ := d
      rw [ho] at ho'; cases ho'; rw [hd'] at d; cases d
  have rr : ∀ {v : V} {w : Value}, VRel K g s.heap v w → VRel K g h' v w := fun {v w} r => go.rel S (fun b e => e ▸ pc.1) r
  obtain ⟨ns, hn, hv'⟩ := F.loc
  have hcL : env.locals ≠ c := by
    rintro rfl
    obtain ⟨_, _, _, ho, hd, _⟩ := hn
    obtain ⟨ob, ho', hd'⟩ := hc
    rw [ho] at ho'; cases ho'; rw [hd] at hd'; cases hd'
  refine hQ _ (go.shrink fun b z => .inl (.inr ⟨x, z ▸ e⟩)) ⟨rfl, rfl⟩ ⟨F.kind, F.names, F.glob, F.blt, ⟨ns, hn.sameBut hs' hcL, fun y j u h1 h2 h3 => ?_⟩, fun y j h1 h2 => ?_, ⟨F.priv.1, F.priv.2⟩, fun y d ed => ?_, F.apart, F.inj, F.bnd, F.hi_put hx, F.frs.goX go⟩
  · rcases get_put _ _ _ _ _ h3 with ⟨e1, e2⟩ | ⟨e1, e2⟩
    · subst e1
      have : y = x := F.inj _ _ _ h1 hx
      subst this
      rw [hl] at h2; cases h2
    · obtain ⟨w', e3, r'⟩ := hv' y j u h1 h2 e2
      exact ⟨w', e3, rr r'⟩
  · by_cases hy : y = x
    · subst hy
      refine ⟨c, some w, e, hc', fun u h3 => ?_⟩
      rcases get_put _ _ _ _ _ h3 with ⟨e1, e2⟩ | ⟨e1, e2⟩
      · subst e2; exact ⟨w, rfl, rr r⟩
      · rw [h1] at hx; cases hx; exact absurd rfl e1
    · obtain ⟨d, o', ed, hd, hv''⟩ := F.cell y j h1 h2
      have : d ≠ c := fun z => hy (F.apart y x c (z ▸ ed) e)
      refine ⟨d, o', ed, hd.sameBut hs' this, fun u h3 => ?_⟩
      rcases get_put _ _ _ _ _ h3 with ⟨e1, e2⟩ | ⟨e1, e2⟩
      · subst e1; exact absurd (F.inj _ _ _ h1 hx) hy
      · obtain ⟨w', e3, r'⟩ := hv'' u e2
        exact ⟨w', e3, rr r'⟩
  · obtain ⟨a1, a2, o', a3⟩ := F.privC y d ed
    by_cases hy : d = c
    · subst hy; exact ⟨a1, a2, _, hc'⟩
    · exact ⟨a1, a2, o', a3.sameBut hs' hy⟩
theorem store_sound (F : Fr K env cx m g s.heap) (S : St K g σ s.heap) {x : Str} {k : Nat} (hx : slotOf cx x = some k) {v : V} {w : Value} (r : VRel K g s.heap v w) {Q : Unit → Shared → Prop} {E : Value → Shared → Prop}
    (hQ : ∀ s', GoX K (fpOf env) g s.heap g σ s'.heap → Sx s s' → Fr K env cx (put m k v) g s'.heap → Q () s') : wpAny (model K.prog K.w) A (storeName env x w) Q E s := by
  unfold slotOf at hx
  split at hx
  · rename_i hl
    exact store_local F S hl hx r fun s' go sx F' => hQ s' (go.shrink fun b e => .inl (.inl e)) sx F'
  · rename_i hl
    exact store_cell F S hl hx r hQ
  · cases hx
end
end Mini

set_option autoImplicit false
set_option linter.unusedVariables false
namespace Mini
open PySem

/-- an exception under way: new since the heap h₀, nobody's -/
inductive XEx (K : Ctx) (tr : Bool) (g : G) (h₀ h : Heap) (e : Addr) (c : Nat) : Prop
  | mk (o : Obj) (vs : Array Value) (hcn : c ∈ excNums) (new : h₀.get? e = none) (own : ¬ g.own e) (base : K.hB.get? e = none) (ho : h.get? e = some o) (hc : o.cls = .ref (K.exC c)) (hd : o.data = .fields vs)
    (h1 : (tr = false ∧ vs[1]? = some .none) ∨ ∃ T oT ts, vs[1]? = some (.ref T) ∧ T ≠ e ∧ h₀.get? T = none ∧ ¬ g.own T ∧ K.hB.get? T = none ∧ h.get? T = some oT ∧ oT.data = .fields ts ∧ 3 < ts.size)
theorem XEx.weak {K : Ctx} {tr : Bool} {g : G} {h₀ h : Heap} {e : Addr} {c : Nat} (x : XEx K tr g h₀ h e c) : XEx K false g h₀ h e c := by
  obtain ⟨o, vs, a0, a1, a2, a3, a4, a5, a6, a7⟩ := x
  refine ⟨o, vs, a0, a1, a2, a3, a4, a5, a6, ?_⟩
  rcases a7 with a7 | a7
  · exact .inl ⟨rfl, a7.2⟩
  · exact .inr a7
inductive EndX (K : Ctx) (tr : Bool) (Y : Addr → Prop) (g : G) (s : Shared) (x : X) (v : Value) (s' : Shared) : Prop
  | mk (e : Addr) (c : Nat) (g' : G) (σ' : H) (hv : v = .ref e) (go : GoX K Y g s.heap g' σ' s'.heap) (sx : Sx s s') (ex : XEx K tr g' s.heap s'.heap e c) (q : x c σ')

section
variable {K : Ctx} {tr : Bool} {X' Y : Addr → Prop} {g g₁ g' : G} {σ σ₁ σ' : H} {h h' : Heap} {s s₁ s' : Shared} {x : X} {v : Value} {A : Around} {env : Env}

theorem none_back (q : ∀ b o, h.get? b = some o → ∃ o', h'.get? b = some o') {b : Addr} (e : h'.get? b = none) : h.get? b = none := by
  cases z : h.get? b with
  | none => rfl
  | some o => obtain ⟨o', e'⟩ := q b o z; rw [e] at e'; cases e'
theorem EndX.trans (p : GoX K Y g s.heap g₁ σ₁ s₁.heap) (z : Sx s s₁) (q : EndX K tr Y g₁ s₁ x v s') : EndX K tr Y g s x v s' := by
  obtain ⟨e, c, g', σ', hv, go, sx, ⟨o, vs, a0, a1, a2, a3, a4, a5, a6, a7⟩, q⟩ := q
  refine ⟨e, c, g', σ', hv, p.trans go, z.trans sx, ⟨o, vs, a0, none_back p.there a1, a2, a3, a4, a5, a6, ?_⟩, q⟩
  rcases a7 with a7 | ⟨T, oT, ts, b1, b2, b3, b4⟩
  · exact .inl a7
  · exact .inr ⟨T, oT, ts, b1, b2, none_back p.there b3, b4⟩
theorem EndX.shrink (q : EndX K tr X' g s x v s') (hx : ∀ b, X' b → Y b ∨ s.heap.get? b = none) : EndX K tr Y g s x v s' := by
  obtain ⟨e, c, g', σ', hv, go, sx, ex, q⟩ := q
  exact ⟨e, c, g', σ', hv, go.shrink hx, sx, ex, q⟩
theorem EndX.weak (q : EndX K tr Y g s x v s') : EndX K false Y g s x v s' := by
  obtain ⟨e, c, g', σ', hv, go, sx, ex, q⟩ := q
  exact ⟨e, c, g', σ', hv, go, sx, ex.weak, q⟩
theorem EndX.none (q : EndX K tr Y g s noX v s') : False := by
  obtain ⟨_, _, _, _, _, _, _, _, q⟩ := q
  exact q
theorem GoX.stepN (q : GoX K Y g h g₁ σ₁ h') {h₂ : Heap} (r : GoX K X' g₁ h' g₁ σ₁ h₂) (hx : ∀ b, X' b → h.get? b = Option.none) : GoX K Y g h g₁ σ₁ h₂ where
  st := r.st
  pre := q.pre
  imm := q.imm
  new := q.new
  keep := fun b n nx o e => (q.keep b n nx).trans (r.keep b (q.out e n) fun z => by rw [hx b z] at e; cases e) o e
  there := fun b o e => by
    obtain ⟨o', e'⟩ := q.there b o e
    exact r.there b o' e'
  ex := fun b o i e => r.ex b o (q.imm b i) (q.ex b o i e)
  dic := fun b o n e d => by
    obtain ⟨o', e', d'⟩ := q.dic b o n e d
    exact r.dic b o' (q.out e n) e' d'

/-- the frames' slots are set -/
theorem GoX.slots (S : St K g σ h) (F : Frs K g h) (hs : Heap.SlotsOnly (K.chain.filterMap (·.frame)) h h') : GoX K Y g h g σ h' := by
  have out : ∀ b, b ∈ K.chain.filterMap (·.frame) → K.hB.get? b = none ∧ ¬ g.own b ∧ ∃ o, h.get? b = some o ∧ isD o := fun b hb => by
    obtain ⟨env, he, hf⟩ := List.mem_filterMap.mp hb
    obtain ⟨_, L, o, h1, h2, h3, h4, h5⟩ := F env he
    rw [h1] at hf; cases hf
    exact ⟨h2, h3, o, h4, h5⟩
  have ex : ∀ b o, g.own b ∨ (∃ o', K.hB.get? b = some o') → h.get? b = some o → h'.get? b = some o := fun b o z e => by
    (rewrite [hs.2.1 b fun m => ?_]); exact e
    obtain ⟨m1, m2, _⟩ := out b m
    rcases z with z | ⟨o', z⟩
    · exact m2 z
    · rw [m1] at z; cases z
  have kp : ∀ b, Kp h h' b := fun b o e => by
    by_cases hb : b ∈ K.chain.filterMap (·.frame)
    · obtain ⟨_, _, o', e', d⟩ := out b hb
      rw [e] at e'; cases e'
      obtain ⟨sl, e2⟩ := hs.2.2 b o e
      exact ⟨_, e2, .inr ⟨d, rfl, rfl, rfl⟩⟩
    · exact ⟨o, by refine rwE (hs.2.1 b hb) ?_; exact e, .refl⟩
  exact ⟨S.change fun b o e z => ex b o z e, List.prefix_refl _, fun _ i => i, fun _ o => .inl o, fun b _ _ => kp b, fun b o e => let ⟨o', e', _⟩ := kp b o e; ⟨o', e'⟩, fun b o i e => ex b o (.inl (.inr i)) e,
    fun b o _ e d => let ⟨o', e', s⟩ := kp b o e; ⟨o', e', s.isD d⟩⟩
theorem frs_fun : ∀ {l : List Env} {B h : Heap}, (∀ env ∈ l, env.scope.kind ≠ .module ∧ ∃ L o, env.frame = some L ∧ B.get? L = none ∧ h.get? L = some o ∧ isD o) → h.FunFrames B l
  | [], _, _, _ => trivial
  | env :: l, B, h, H => by
    obtain ⟨k, L, o, h1, h2, h4, es, ep, h5⟩ := H env (.head _)
    exact ⟨k, ⟨L, o, h1, h2, h4, fun vs z => by rw [h5] at z; cases z⟩, frs_fun fun e he => H e (.tail _ he)⟩

/-- the entry of a frame -/
theorem ex_entry {outer : List Env} {L e : Addr} {c : Nat} {o : Obj} {vs : Array Value} {head : Value} {hn : Bool} {Q : Unit → Shared → Prop} {E : Value → Shared → Prop} {h₀ : Heap} (hA : A.frames = some K.chain) (hK : K.chain = env :: outer) (hf : env.frame = some L)
    (go : GoX K Y g h₀ g' σ' s.heap) (F : Frs K g' s.heap) (hcn : c ∈ excNums) (new : h₀.get? e = none) (own : ¬ g'.own e) (base : K.hB.get? e = none) (ho : s.heap.get? e = some o) (hc : o.cls = .ref (K.exC c)) (hd : o.data = .fields vs) (hsz : 1 < vs.size)
    (hQ : ∀ h', GoX K Y g h₀ g' σ' h' → XEx K true g' h₀ h' e c → Q () { s with heap := h' }) :
    wpAny (model K.prog K.w) A (do let a ← frameOf env; let pl ← entryPlaceOf L hn; let b ← EntryCells.newEntry head a .none (rawInt L) .none pl; setField (.ref e) 1 b) Q E s := by
  have ff : s.heap.FunFrames K.hB (env :: outer) := by
    refine rwE (Eq.symm (hK)) ?_
    exact frs_fun fun ev he => by
      obtain ⟨k, L, o, h1, h2, h3, h4, h5⟩ := F ev he
      exact ⟨k, L, o, h1, h2, h4, h5⟩
  refine wpAny_bind (wpAny_frameOf_fun (hA.trans (congrArg some hK)) ff hf fun h₁ hs₁ => ?_)
  rw [← hK] at hs₁
  have g1 : GoX K Y g h₀ g' σ' h₁ := go.trans (GoX.slots go.st F hs₁)
  have he1 : h₁.get? e = some o := by
    obtain ⟨sl, e2⟩ := hs₁.2.2 e o ho
    (rewrite [hs₁.2.1 e fun m => ?_]); exact ho
    obtain ⟨ev, hev, hfe⟩ := List.mem_filterMap.mp m
    obtain ⟨_, L', o', h1, h2, h3, h4, es, ep, h5⟩ := F ev hev
    rw [h1] at hfe; cases hfe
    rw [ho] at h4; cases h4
    rw [hd] at h5; cases h5
  refine wpAny_bind (wpAny_entryPlaceOf fun pl hpl => ?_)
  unfold EntryCells.newEntry newFields
  refine wpAny_bind (wpAny_newObj_type ?_ (hpl.sizeOk5 _ _ _ _ _))
  have he₂ := Heap.get?_push_of_some (h := h₁) { cls := .type "traceback", dict := none, data := .fields ([head, .ref L, .none, rawInt L, .none] ++ (if pl.isEmpty then List.replicate 6 Value.none else pl)).toArray } he1
  refine wpAny_setField he₂ hd hsz (hQ _ ?_ ?_)
  · have old : ∀ b o', b ≠ e → h₁.get? b = some o' → ((h₁.push { cls := .type "traceback", dict := none, data := .fields ([head, .ref L, .none, rawInt L, .none] ++ (if pl.isEmpty then List.replicate 6 Value.none else pl)).toArray }).update e (Obj.mapFields (·.setIfInBounds 1 (Value.ref h₁.objs.size)))).get? b = some o' := fun b o' hbe hb => by
      refine rwE (Heap.get?_update_other _ _ (Ne.symm hbe)) ?_
      exact Heap.get?_push_of_some _ hb
    refine g1.stepN (X' := (· = e)) (GoX.of g1.st (fun b o' hb n => old b o' n hb) (fun b hb => ?_) fun b hb => hb ▸ ⟨own, base⟩) fun b hb => hb ▸ new
    subst hb
    exact ⟨_, Heap.get?_update_self _ he₂ (Obj.isFreed_of_fields (Obj.data_mapFields hd _)), fun o' e' d => by rw [he1] at e'; cases e'; obtain ⟨_, _, d⟩ := d; rw [hd] at d; cases d⟩
  · have hTe : h₁.objs.size ≠ e := Nat.ne_of_gt (Heap.lt_size he1)
    have nT : h₁.get? h₁.objs.size = none := none_at_size _
    have own' : ¬ g'.own h₁.objs.size := fun z => by
      rcases z with z | z
      · obtain ⟨o', e'⟩ := g1.st.there (List.prefix_refl _) z; rw [nT] at e'; cases e'
      · obtain ⟨_, _, o', e'⟩ := g1.st.imm _ z; rw [nT] at e'; cases e'
    have base' : K.hB.get? h₁.objs.size = none := by
      cases z : K.hB.get? h₁.objs.size with
      | none => rfl
      | some o' => rw [g1.st.base _ o' z] at nT; cases nT
    have hT := (Heap.get?_update_other (h₁.push { cls := .type "traceback", dict := none, data := .fields ([head, .ref L, .none, rawInt L, .none] ++ (if pl.isEmpty then List.replicate 6 Value.none else pl)).toArray })
      (Obj.mapFields (·.setIfInBounds 1 (Value.ref h₁.objs.size))) (Ne.symm hTe)).trans (Heap.get?_push_size h₁ rfl)
    refine ⟨_, _, hcn, new, own, base, Heap.get?_update_self _ he₂ (Obj.isFreed_of_fields (Obj.data_mapFields hd _)), (Obj.cls_mapFields _ _).trans hc, Obj.data_mapFields hd _, .inr ⟨h₁.objs.size, _, _, by simp [hsz], hTe, none_back g1.there nT, own', base', hT, rfl, ?_⟩⟩
    · simp only [List.size_toArray, List.length_append, List.length_cons, List.length_nil]; lia

/-- a frame notes the exception -/
theorem ex_note {outer : List Env} {L : Addr} {E : Value → Shared → Prop} (hA : A.frames = some K.chain) (hK : K.chain = env :: outer) (hf : env.frame = some L) (F : Frs K g s.heap) (q : EndX K tr Y g s x v s') :
    wpAny (model K.prog K.w) A (noteFrame v env) (fun _ s'' => EndX K true Y g s x v s'') E s' := by
  obtain ⟨e, c, g', σ', rfl, go, sx, ⟨o, vs, hcn, new, own, base, ho, hc, hd, h1⟩, q⟩ := q
  have F' : Frs K g' s'.heap := F.goX go
  unfold noteFrame
  simp only [hf]
  rcases h1 with ⟨_, h1⟩ | ⟨T, oT, ts, h1, b2, b3, b4, b5, b6, b7, b8⟩
  · refine wpAny_bind (wpAny_field ho hd h1 ?_)
    refine rwE (if_neg (by decide)) ?_
    exact ex_entry hA hK hf go F' hcn new own base ho hc hd (Array.getElem?_eq_some_iff.mp h1).1 fun h' g2 x2 => ⟨e, c, g', σ', rfl, g2, sx, x2, q⟩
  · refine wpAny_bind (wpAny_field ho hd h1 ?_)
    refine rwE (if_pos (show (Value.ref T != Value.none) = true from by simp)) ?_
    refine wpAny_bind (wpAny_field b6 b7 (Array.getElem?_eq_getElem b8) ?_)
    by_cases hx : (ts[3] == rawInt L) = true
    · refine rwE (if_pos hx) ?_
      exact wpAny_pure ⟨e, c, g', σ', rfl, go, sx, ⟨o, vs, hcn, new, own, base, ho, hc, hd, .inr ⟨T, oT, ts, h1, b2, b3, b4, b5, b6, b7, b8⟩⟩, q⟩
    · refine rwE (if_neg hx) ?_
      refine wpAny_bind (wpAny_setField b6 b7 b8 ?_)
      have g1 : GoX K (· = T) g' s'.heap g' σ' (s'.heap.update T (Obj.mapFields (·.setIfInBounds 3 Value.none))) := GoX.sameBut go.st ⟨b4, b5⟩ (Heap.get?_update_self _ b6 (Obj.isFreed_of_fields (Obj.data_mapFields b7 _)))
        (fun b o' hb e' => (Heap.get?_update_other _ _ (Ne.symm hb)).trans e') fun o' e' d => by rw [b6] at e'; cases e'; obtain ⟨_, _, d⟩ := d; rw [b7] at d; cases d
      exact ex_entry hA hK hf (go.stepN g1 fun b hb => hb ▸ b3) (F'.goX g1) hcn new own base ((Heap.get?_update_other _ _ b2).trans ho) hc hd (Array.getElem?_eq_some_iff.mp h1).1 fun h' g2 x2 => ⟨e, c, g', σ', rfl, g2, sx, x2, q⟩

theorem ex_flight {fr : Option Addr} {Q : Unit → Shared → Prop} {E : Value → Shared → Prop} (q : EndX K true Y g s x v s') (hQ : ∀ s'', EndX K true Y g s x v s'' → Q () s'') : wpAny (model K.prog K.w) A (setFlight v fr) Q E s' := by
  obtain ⟨e, c, g', σ', rfl, go, sx, ⟨o, vs, hcn, new, own, base, ho, hc, hd, h1⟩, q⟩ := q
  rcases h1 with ⟨z, _⟩ | ⟨T, oT, ts, h1, b2, b3, b4, b5, b6, b7, b8⟩
  · cases z
  unfold setFlight
  refine wpAny_bind (wpAny_field ho hd h1 ?_)
  refine rwE (if_pos (show (Value.ref T != Value.none) = true from by simp)) ?_
  refine wpAny_setField b6 b7 b8 (hQ _ ?_)
  have g1 : GoX K (· = T) g' s'.heap g' σ' (s'.heap.update T (Obj.mapFields (·.setIfInBounds 3 (fr.elim .none fun f => rawInt f)))) := GoX.sameBut go.st ⟨b4, b5⟩ (Heap.get?_update_self _ b6 (Obj.isFreed_of_fields (Obj.data_mapFields b7 _)))
    (fun b o' hb e' => (Heap.get?_update_other _ _ (Ne.symm hb)).trans e') fun o' e' d => by rw [b6] at e'; cases e'; obtain ⟨_, _, d⟩ := d; rw [b7] at d; cases d
  exact ⟨e, c, g', σ', rfl, go.stepN g1 fun b hb => hb ▸ b3, sx, ⟨o, vs, hcn, new, own, base, (Heap.get?_update_other _ _ b2).trans ho, hc, hd, .inr ⟨T, _, _, h1, b2, b3, b4, b5, Heap.get?_update_self _ b6 (Obj.isFreed_of_fields (Obj.data_mapFields b7 _)), Obj.data_mapFields b7 _, by simpa using b8⟩⟩, q⟩

theorem ex_traced (q : EndX K true Y g s x v s') {Q : Value → Shared → Prop} {E : Value → Shared → Prop} (hQ : ∀ T, Q (.ref T) s') : wpAny (model K.prog K.w) A (PySem.field v 1) Q E s' := by
  obtain ⟨e, c, g', σ', rfl, go, sx, ⟨o, vs, hcn, new, own, base, ho, hc, hd, h1⟩, q⟩ := q
  rcases h1 with ⟨z, _⟩ | ⟨T, oT, ts, h1, _⟩
  · cases z
  exact wpAny_field ho hd h1 (hQ T)
theorem ex_back {L : Addr} (q : EndX K true Y g s x v s') : cameBackBy (model K.prog K.w) A env (EndX K false Y g s x) v s' := by
  unfold cameBackBy
  refine wpAny_bind (ex_traced q fun T => ?_)
  refine rwE (if_neg (by simp)) ?_
  first
    | exact ex_flight q fun s'' q => q.weak
    | exact wpAny_bind (wpAny_pure (ex_flight q fun s'' q => q.weak))
theorem ex_noted {outer : List Env} {L : Addr} (hA : A.frames = some K.chain) (hK : K.chain = env :: outer) (hf : env.frame = some L) (F : Frs K g s.heap) (q : EndX K tr Y g s x v s') :
    notedBy (model K.prog K.w) A env (cameBackBy (model K.prog K.w) A env (EndX K false Y g s x)) v s' := by
  unfold notedBy
  exact wpAny_mono (ex_note (E := fun _ _ => False) hA hK hf F q) (fun _ s'' q => ex_back (L := L) q) fun _ _ z => z.elim
theorem ex_leaves {outer : List Env} {L : Addr} {E : Value → Shared → Prop} (hA : A.frames = some K.chain) (hK : K.chain = env :: outer) (hf : env.frame = some L) (F : Frs K g s.heap) (q : EndX K tr Y g s x v s') :
    wpAny (model K.prog K.w) A (leaving env v) (fun _ s'' => EndX K true Y g s x v s'') E s' := by
  unfold leaving
  exact wpAny_bind (wpAny_mono (ex_note (E := E) hA hK hf F q) (fun _ s'' q => ex_flight q fun _ q => q) fun _ _ z => z)
end
end Mini

set_option maxRecDepth 100000
set_option autoImplicit false
set_option linter.unusedVariables false
namespace Mini
open PySem
open Sem (wp)

theorem lk_ve_class : typeLookup (.type "ValueError") "__class__" = pure (some (.builtin "object.__class__")) := by (rewrite [typeLookup_type]; refine rwE builtinLookup_eq_fast ?_); kernel_rfl

/-- an own class of exceptions: its chain up to ValueError -/
inductive OwnC (h : Heap) (n : Str) : List Value → Prop
  | base : OwnC h n [.type "ValueError", .type "Exception", .type "BaseException", .type "object"]
  | own {A : Addr} {c0 : Value} {dd : Option Addr} {cd : ClassData} {sl : Array (Option Value)} {mA : Str → Option Value} {tl : List Value} :
      h.get? A = some { cls := c0, dict := dd, data := .cls cd, slots := sl } → h.Ns cd.ns mA → mA n = none → OwnC h n tl → OwnC h n (.ref A :: tl)
section
variable {M : Model} {A : Around} {E : Value → Shared → Prop} {h : Heap} {g : Array GenState} {d : Drawn} {t : Nat} {os : OsState}
theorem look_tail {n : Str} {tl : List Value} {y : Option Value} {Q : Option Value → Shared → Prop} (T : OwnC h n tl) (hy : typeLookup (.type "ValueError") n = pure y) (hq : Q y ⟨h, g, d, t, os⟩) : wpAny M A (lookupAlong tl n) Q E ⟨h, g, d, t, os⟩ := by
  induction T with
  | base =>
    have : lookupAlong [.type "ValueError", .type "Exception", .type "BaseException", .type "object"] n = pure y := by rw [typeLookup_eq, F.excBase_ValueError.mroIs] at hy; exact hy
    refine rwE this ?_; exact wpAny_pure hq
  | own hA hN hni _ ih =>
    rewrite [lookupAlong_cons]
    refine wpAny_bind (wpAny_classOwn_cls hA hN ?_)
    refine rwE hni ?_
    exact ih
variable {nm q : Str} {C N : Addr} {bs bm : List Value} {hdct : Bool} {sn : List Str} {sub : List Value} {ab : Bool} {col : Option Bool} {dd : Option Addr} {k0 k1 k2 k3 k5 : Option Value} {newId : String}
theorem look_own {mN : Str → Option Value} {n : Str} {y : Option Value} {Q : Option Value → Shared → Prop} (hC : h.get? C = some (excClassObj nm q C N bs bm hdct sn sub ab col dd k0 k1 k2 k3 k5 newId)) (hN : h.Ns N mN) (hm : mN n = none) (T : OwnC h n bm)
    (hy : typeLookup (.type "ValueError") n = pure y) (hq : Q y ⟨h, g, d, t, os⟩) : wpAny M A (typeLookup (.ref C) n) Q E ⟨h, g, d, t, os⟩ := by
  rewrite [typeLookup_eq]
  refine wpAny_bind (wpAny_mroOf_exc hC ?_)
  rewrite [lookupAlong_cons]
  refine wpAny_bind (wpAny_classOwn_exc hC hN ?_)
  refine rwE hm ?_
  exact look_tail T hy hq
end

/-- what is known of an own class of exceptions -/
inductive XCls (h : Heap) (C : Addr) (bm : List Value) : Prop
  | mk (nm q : Str) (N : Addr) (bs : List Value) (hdct : Bool) (sn : List Str) (sub : List Value) (ab : Bool) (col : Option Bool) (dd : Option Addr) (k0 k1 k2 k3 k5 : Option Value) (mN : Str → Option Value)
    (ho : h.get? C = some (excClassObj nm q C N bs bm hdct sn sub ab col dd k0 k1 k2 k3 k5 "ValueError.__new__")) (hn : h.Ns N mN)
    (h1 : mN "__getattribute__" = none) (h2 : mN "__getattr__" = none) (h3 : mN "__class__" = none) (t1 : OwnC h "__getattribute__" bm) (t2 : OwnC h "__getattr__" bm) (t3 : OwnC h "__class__" bm)
    (h0 : mN "__init__" = none) (t0 : OwnTail h [.type "ValueError", .type "Exception", .type "BaseException", .type "object"] bm)
theorem OwnC.keeps {h h' : Heap} {n : Str} {tl : List Value} (T : OwnC h n tl) (hk : ∀ b o, h.get? b = some o → h'.get? b = some o) : OwnC h' n tl := by
  induction T with
  | base => exact .base
  | own hA hN hni _ ih => exact .own (hk _ _ hA) (hN.keeps hk) hni ih
theorem XCls.keeps {h h' : Heap} {C : Addr} {bm : List Value} (X : XCls h C bm) (hk : ∀ b o, h.get? b = some o → h'.get? b = some o) : XCls h' C bm := by
  obtain ⟨nm, q, N, bs, hdct, sn, sub, ab, col, dd, k0, k1, k2, k3, k5, mN, hC, hN, h1, h2, h3, t1, t2, t3, h0, t0⟩ := X
  exact ⟨nm, q, N, bs, hdct, sn, sub, ab, col, dd, k0, k1, k2, k3, k5, mN, hk _ _ hC, hN.keeps hk, h1, h2, h3, t1.keeps hk, t2.keeps hk, t3.keeps hk, h0, t0.keeps hk⟩

section
variable {prog : Program} {w : World} {A : Around} {E : Value → Shared → Prop} {h : Heap} {g : Array GenState} {d : Drawn} {t : Nat} {os : OsState} {a C : Addr} {o : Obj} {bm : List Value}

theorem tail_has {n : Str} {tl : List Value} (T : OwnC h n tl) {X : String} {b : Bool} (hb : ([Value.type "ValueError", .type "Exception", .type "BaseException", .type "object"] : List Value).contains (.type X) = b) : tl.contains (.type X) = b := by
  induction T with
  | base => exact hb
  | own _ _ _ _ ih => (refine rwE List.contains_cons ?_; refine rwE ih ?_); rfl

theorem cls_get {R : Result → Shared → Prop} (X : XCls h C bm) (hx : h.get? a = some o) (hc : o.cls = .ref C) (hq : R (.ok (.ret (.ref C))) ⟨h, g, d, t, os⟩) :
    codeAny (model prog w) A (.call (.builtin "getset_descriptor.__get__") ⟨[.builtin "object.__class__", .ref a, .ref C], []⟩) R ⟨h, g, d, t, os⟩ := by
  obtain ⟨nm, q, N, bs, hdct, sn, sub, ab, col, dd, k0, k1, k2, k3, k5, mN, hC, hN, h1, h2, h3, t1, t2, t3⟩ := X
  have hT5 : (⟨h, g, d, t, os⟩ : Shared).TypeIs (.builtin "object.__class__") "getset_descriptor" := F.typeOf_object_class
  have hcB : (Value.ref C :: bm).contains (.type (".".intercalate ("object.__class__".cutAt '.').dropLast)) = true := by
    (refine rwE F.owner_object_class ?_; refine rwE List.contains_cons ?_; refine rwE (tail_has (b := true) t1 (by decide)) ?_); rfl
  refine codeAny_call_builtin F.slot_gs_get.plain F.entry_gs_get (F.slot_gs_get.check _ _ _ _ _ _ _ _ hT5 (F.args_gs_get _ _ _) ?_)
  repeat (any_goals (first | assumption | (with_reducible refine wpAny_loadPart_at hx ?_; refine rwE hc ?_) | (with_reducible refine wpAny_isSubtype_exc hC ?_; refine rwE hcB ?_) | wp_step))
  refine ⟨Code.quiet_builtin _ (by decide +kernel), codeAny_builtin F.entry_object_class ?_⟩
  repeat (any_goals (first | assumption | (with_reducible refine wpAny_loadPart_at hx ?_; refine rwE hc ?_) | wp_step))

theorem cls_check {M : Model} {nameV : Value} {Q : Unit → Shared → Prop} (X : XCls h C bm) (hx : h.get? a = some o) (hc : o.cls = .ref C) (hq : Q () ⟨h, g, d, t, os⟩) : wpAny M A (checkBuiltinCall "BaseException.__getattribute__" ⟨[.ref a, nameV], []⟩) Q E ⟨h, g, d, t, os⟩ := by
  obtain ⟨nm, q, N, bs, hdct, sn, sub, ab, col, dd, k0, k1, k2, k3, k5, mN, hC, hN, h1, h2, h3, t1, t2, t3⟩ := X
  have hk : builtinKind "BaseException.__getattribute__" = some .slot := by decide +kernel
  have hsplit : splitId "BaseException.__getattribute__" = some ("BaseException", "__getattribute__") := by decide +kernel
  have hcB : (Value.ref C :: bm).contains (.type "BaseException") = true := by (refine rwE List.contains_cons ?_; refine rwE (tail_has (b := true) t1 (by decide)) ?_); rfl
  have ha := F.args_bexc_ga (.ref a) nameV
  simp only [checkBuiltinCall, hk, hsplit]
  refine wpAny_bind ?_
  · unfold isInstance
    repeat (first | (with_reducible refine wpAny_loadPart_at hx ?_; refine rwE hc ?_) | (with_reducible refine wpAny_isSubtype_exc hC ?_; refine rwE hcB ?_) | wp_step)
    exact hq

theorem cls_entry {tk : Tok} {Q : Fin → Shared → Prop} (X : XCls h C bm) (hx : h.get? a = some o) (hc : o.cls = .ref C) (hq : Q (.done (.ret (.ref C))) ⟨h, g, d, t, os⟩) :
    wpAny (model prog w) A (Builtin.«object.__getattribute__» ⟨[.ref a, .str "__class__" tk], []⟩) Q E ⟨h, g, d, t, os⟩ := by
  obtain ⟨nm, q, N, bs, hdct, sn, sub, ab, col, dd, k0, k1, k2, k3, k5, mN, hC, hN, h1, h2, h3, t1, t2, t3⟩ := id X
  have hT5 : (⟨h, g, d, t, os⟩ : Shared).TypeIs (.builtin "object.__class__") "getset_descriptor" := F.typeOf_object_class
  have f5 := F.typeOf_object_class
  have f6 := F.slot_gs_get.lookup
  have f7 := F.slot_gs_set.lookup
  repeat (any_goals (first | assumption | (with_reducible refine wpAny_loadPart_at hx ?_; refine rwE hc ?_) | with_reducible refine look_own hC hN h3 t3 lk_ve_class ?_ | wp_step))
  refine cls_get X hx hc ?_
  repeat (any_goals (first | assumption | wp_step))

theorem cls_by {tk : Tok} {fill expr : Bool} {Q : Value → Shared → Prop} (X : XCls h C bm) (hx : h.get? a = some o) (hc : o.cls = .ref C) (hq : Q (.ref C) ⟨h, g, d, t, os⟩) :
    wpAny (model prog w) A (getAttrBy (.ref a) (.str "__class__" tk) fill expr) Q E ⟨h, g, d, t, os⟩ := by
  obtain ⟨nm, q, N, bs, hdct, sn, sub, ab, col, dd, k0, k1, k2, k3, k5, mN, hC, hN, h1, h2, h3, t1, t2, t3⟩ := id X
  have FB := F.attrBase_ValueError
  have f3 := FB.ga.bind (.ref a)
  have hx0 : (expr && onTheHeap (Value.builtin "BaseException.__getattribute__")) = false := by cases expr <;> rfl
  have hx2 : (Value.builtin "BaseException.__getattribute__" == Value.builtin "object.__getattribute__") = false := by decide +kernel
  have hx1 : (onTheHeap (Value.ref C) && Value.builtin "BaseException.__getattribute__" == Value.builtin "object.__getattribute__") = false := by refine rwE hx2 ?_; rfl
  repeat (any_goals (first | assumption | (with_reducible refine wpAny_loadPart_at hx ?_; refine rwE hc ?_) | with_reducible refine look_own hC hN h1 t1 FB.ga.lookup ?_ | with_reducible refine look_own hC hN h2 t2 FB.noGetattr ?_ | wp_step))
  refine codeAny_call_builtin FB.ga.plain F.entry_bexc_ga (cls_check X hx hc (cls_entry X hx hc ?_))
  repeat (any_goals (first | assumption | wp_step))

theorem cls_attr {Q : Option Value → Shared → Prop} (X : XCls h C bm) (hx : h.get? a = some o) (hc : o.cls = .ref C) (hq : Q (some (.ref C)) ⟨h, g, d, t + 1, os⟩) : wpAny (model prog w) A (getAttr? (.ref a) "__class__") Q E ⟨h, g, d, t, os⟩ := by
  unfold getAttr? getAttrBy?
  repeat (any_goals (first | assumption | with_reducible apply cls_by X hx hc | wp_step))

/-- isinstance of an exception, a class of the text's own -/
theorem isi_own {C' : Addr} {bm' : List Value} {dep : Int} {tk : Tok} {Q : Fin → Shared → Prop} (X : XCls h C bm) (X' : XCls h C' bm') (hx : h.get? a = some o) (hc : o.cls = .ref C) (hq : ∀ tk, Q (.done (.ret (.bool ((Value.ref C :: bm).contains (.ref C'))))) ⟨h, g, d, tk, os⟩) :
    wpAny (model prog w) A (Builtin.«isinstance.nested» ⟨[.ref a, .ref C', .int dep tk], []⟩) Q E ⟨h, g, d, t, os⟩ := by
  obtain ⟨nm, q, N, bs, hdct, sn, sub, ab, col, dd, k0, k1, k2, k3, k5, mN, hC, hN, h1, h2, h3, t1, t2, t3⟩ := id X
  obtain ⟨nm', q', N', bs', hdct', sn', sub', ab', col', dd', k0', k1', k2', k3', k5', mN', hC', _⟩ := id X'
  have tt := tc_notTuple
  have ts := tc_sub
  by_cases he : (Value.ref C == Value.ref C') = true
  · have hr : (Value.ref C :: bm).contains (.ref C') = true := by
      refine rwE List.contains_cons ?_; simp at he; simp [he]
    rw [hr] at hq
    have hq' := hq t
    repeat (any_goals (first | assumption | (with_reducible refine wpAny_loadPart_at hx ?_; refine rwE hc ?_) | with_reducible refine wpAny_loadPart_at hC' ?_ | wp_step))
  · have he' : (Value.ref C == Value.ref C') = false := by simpa using he
    cases hr : (Value.ref C :: bm).contains (.ref C') with
    | true =>
      rw [hr] at hq
      have hq' := hq t
      repeat (any_goals (first | assumption | (with_reducible refine wpAny_loadPart_at hx ?_; refine rwE hc ?_) | with_reducible refine wpAny_loadPart_at hC' ?_ | with_reducible refine wpAny_loadPart_at hC ?_ | (with_reducible refine wpAny_isSubtype_exc hC ?_; refine rwE hr ?_) | wp_step))
    | false =>
      rw [hr] at hq
      have hq' := hq (t + 1)
      repeat (any_goals (first | assumption | (with_reducible refine wpAny_loadPart_at hx ?_; refine rwE hc ?_) | with_reducible refine wpAny_loadPart_at hC' ?_ | with_reducible refine wpAny_loadPart_at hC ?_ | (with_reducible refine wpAny_isSubtype_exc hC ?_; refine rwE hr ?_) | with_reducible apply cls_attr X hx hc | wp_step))
/-- and ValueError -/
theorem isi_ve {dep : Int} {tk : Tok} {Q : Fin → Shared → Prop} (X : XCls h C bm) (hx : h.get? a = some o) (hc : o.cls = .ref C) (hq : Q (.done (.ret (.bool true))) ⟨h, g, d, t, os⟩) :
    wpAny (model prog w) A (Builtin.«isinstance.nested» ⟨[.ref a, .type "ValueError", .int dep tk], []⟩) Q E ⟨h, g, d, t, os⟩ := by
  obtain ⟨nm, q, N, bs, hdct, sn, sub, ab, col, dd, k0, k1, k2, k3, k5, mN, hC, hN, h1, h2, h3, t1, t2, t3⟩ := id X
  have hr : (Value.ref C :: bm).contains (.type "ValueError") = true := by (refine rwE List.contains_cons ?_; refine rwE (tail_has (b := true) t1 (by decide)) ?_); rfl
  have he' : (Value.ref C == Value.type "ValueError") = false := rfl
  have ht : typeOf (.type "ValueError") = pure (.type "type") := by kernel_rfl
  repeat (any_goals (first | assumption | (with_reducible refine wpAny_loadPart_at hx ?_; refine rwE hc ?_) | with_reducible refine wpAny_loadPart_at hC ?_ | (with_reducible refine wpAny_isSubtype_exc hC ?_; refine rwE hr ?_) | wp_step))

theorem isi_tup {tp : Addr} {cs : List Value} {vs : List Bool} {tk : Tok} {s : Shared} {Q : Fin → Shared → Prop} {P : Shared → Prop} (hP : ∀ s tk, P s → P { s with toks := tk })
    (hx : s.heap.get? a = some o) (hc : o.cls = .ref C) (hne : (Value.ref C == Value.ref tp) = false) (htp : s.heap.get? tp = some { cls := .type "tuple", data := .seq cs.toArray }) (ha : AnswersAll P (.ref a) cs vs) (hs : P s)
    (hq : ∀ tk', Q (.done (.ret (.bool (vs.any id)))) { s with toks := tk' }) : wpAny (model prog w) A (Builtin.«isinstance.nested» ⟨[.ref a, .ref tp, .int 0 tk], []⟩) Q E s := by
  obtain ⟨h, g, d, t, os⟩ := s
  have hT2 : (⟨h, g, d, t, os⟩ : Shared).TypeIs (.ref tp) "tuple" := ⟨_, htp, rfl⟩
  have f1 := F.isi_sub_tuple
  repeat (any_goals (first | assumption | (with_reducible refine wpAny_loadPart_at hx ?_; refine rwE hc ?_) | wp_step))
  refine wpAny_arrayLoop ?_
  simp only [Option.getD_some, List.toList_toArray]
  refine isinstance_items (dep := 0) hP cs vs _ _ ha hs fun tk' => ?_
  cases hv : vs.any id with
  | true =>
    simp only [if_true]
    repeat (any_goals (first | assumption | wp_step))
    exact hv ▸ hq tk'
  | false =>
    simp only [Bool.false_eq_true, if_false]
    repeat (any_goals (first | assumption | wp_step))
    exact hv ▸ hq tk'
theorem meets_own {C' : Addr} {bm' : List Value} : Meets (Builtin.«isinstance» ⟨[.ref a, .ref C'], []⟩) (fun _ R s => (XCls s.heap C bm ∧ XCls s.heap C' bm' ∧ s.heap.get? a = some o ∧ o.cls = .ref C) ∧ ∀ tk, R (.ok (.ret (.bool ((Value.ref C :: bm).contains (.ref C'))))) { s with toks := tk }) :=
  fun prog w A R s hs => by
    obtain ⟨h, g, d, t, os⟩ := s
    obtain ⟨⟨h1, h2, h3, h4⟩, h5⟩ := hs
    exact isinstance_outer (isi_own h1 h2 h3 h4 h5) (fun e => by cases e)
theorem meets_ve : Meets (Builtin.«isinstance» ⟨[.ref a, .type "ValueError"], []⟩) (fun _ R s => (XCls s.heap C bm ∧ s.heap.get? a = some o ∧ o.cls = .ref C) ∧ R (.ok (.ret (.bool true))) s) :=
  fun prog w A R s hs => by
    obtain ⟨h, g, d, t, os⟩ := s
    obtain ⟨⟨h1, h3, h4⟩, h5⟩ := hs
    exact isinstance_outer (isi_ve h1 h3 h4 h5) (fun e => by cases e)
theorem answers_own {C' : Addr} {bm' : List Value} (X : XCls h C bm) (X' : XCls h C' bm') (hx : h.get? a = some o) (hc : o.cls = .ref C) : Answers (fun s => s.heap = h) (.ref a) (.ref C') ((Value.ref C :: bm).contains (.ref C')) :=
  fun dep tk prog w A R s hs => by
    obtain ⟨h, g, d, t, os⟩ := s
    obtain ⟨rfl, h5⟩ := hs
    exact isi_own X X' hx hc h5
theorem meets_tup {tp : Addr} {cs : List Value} {vs : List Bool} (ha : AnswersAll (fun s => s.heap = h) (.ref a) cs vs) (hx : h.get? a = some o) (hc : o.cls = .ref C) (hne : (Value.ref C == Value.ref tp) = false) (htp : h.get? tp = some { cls := .type "tuple", data := .seq cs.toArray }) :
    Meets (Builtin.«isinstance» ⟨[.ref a, .ref tp], []⟩) (fun _ R s => s.heap = h ∧ ∀ tk, R (.ok (.ret (.bool (vs.any id)))) { s with toks := tk }) :=
  fun prog w A R s hs => by
    obtain ⟨e, h5⟩ := hs
    exact isinstance_outer (isi_tup (P := fun s => s.heap = h) (fun _ _ z => z) (e ▸ hx) hc hne (e ▸ htp) ha e h5) (fun e => by cases e)

/-- does the handler's class match -/
theorem match_own {C' e : Addr} {bm' : List Value} {Q : Bool → Shared → Prop} (X : XCls h C bm) (X' : XCls h C' bm') (hx : h.get? a = some o) (hc : o.cls = .ref C) (hq : Q ((Value.ref C :: bm).contains (.ref C')) ⟨h, g, d, t, os⟩) :
    wpAny (model prog w) A (excMatches (.ref a) (.ref C')) Q E ⟨h, g, d, t, os⟩ := by
  obtain ⟨nm, q, N, bs, hdct, sn, sub, ab, col, dd, k0, k1, k2, k3, k5, mN, hC, hN, h1, h2, h3, t1, t2, t3⟩ := id X
  obtain ⟨nm', q', N', bs', hdct', sn', sub', ab', col', dd', k0', k1', k2', k3', k5', mN', hC', _, _, _, _, t1', _, _⟩ := id X'
  have hcB : (Value.ref C' :: bm').contains (.type "BaseException") = true := by (refine rwE List.contains_cons ?_; refine rwE (tail_has (b := true) t1' (by decide)) ?_); rfl
  have f := tc_notTuple
  unfold excMatches
  cases hr : (Value.ref C :: bm).contains (.ref C') <;> rw [hr] at hq <;>
    repeat (any_goals (first | assumption | (with_reducible refine wpAny_loadPart_at hx ?_; refine rwE hc ?_) | with_reducible refine wpAny_loadPart_at hC' ?_ | (with_reducible refine wpAny_isSubtype_exc hC' ?_; refine rwE hcB ?_) | (with_reducible refine wpAny_isSubtype_exc hC ?_; refine rwE hr ?_) | wp_step))
end
end Mini

set_option autoImplicit false
set_option linter.unusedVariables false
namespace Mini
open PySem

/-- the same ground -/
structure Sg (K K' : Ctx) : Prop where
  hB : K'.hB = K.hB
  hallC : K'.hallC = K.hallC
  fields : K'.fields = K.fields
  exC : K'.exC = K.exC
theorem Sg.symm {K K' : Ctx} (e : Sg K K') : Sg K' K := ⟨e.hB.symm, e.hallC.symm, e.fields.symm, e.exC.symm⟩
section
variable {K K' : Ctx} {tr : Bool} {X Y : Addr → Prop} {g g' : G} {σ σ' : H} {h h' h₀ : Heap} {s s' : Shared}

mutual
theorem VRel.ctx (e : Sg K K') : ∀ (v : V) (w : Value), VRel K g h v w → VRel K' g h v w
  | .none, _, q => q
  | .bool _, _, q => q
  | .int _, _, q => q
  | .str _, _, q => q
  | .ref _, _, q => q
  | .tup xs, _, ⟨b, vs, n, e1, i, o, q⟩ => ⟨b, vs, n, e1, i, o, VRels.ctx e xs _ q⟩
  | .inst xs, _, ⟨b, d, mA, vs, e1, ib, id, I, dd, q⟩ => ⟨b, d, mA, vs, e1, ib, id, by refine rwE e.hallC ?_; exact I, by refine rwE e.fields ?_; exact dd, VRels.ctx e xs _ q⟩
  | .exc _, _, ⟨a, o, q, i, ho, c, n⟩ => ⟨a, o, q, i, ho, by refine rwE e.exC ?_; exact c, n⟩
theorem VRels.ctx (e : Sg K K') : ∀ (vs : List V) (ws : List Value), VRels K g h vs ws → VRels K' g h vs ws
  | [], [], _ => trivial
  | v :: vs, w :: ws, ⟨a, b⟩ => ⟨VRel.ctx e v w a, VRels.ctx e vs ws b⟩
  | [], _ :: _, q => q.elim
  | _ :: _, [], q => q.elim
end
theorem St.ctx (e : Sg K K') (S : St K g σ h) : St K' g σ h := by
  refine ⟨fun b o q => S.base b o (e.hB ▸ q), S.len, fun i b xs h1 h2 => ?_, S.nodup, S.small, fun i b h1 h2 => by refine rwE e.hB ?_; exact S.fresh i b h1 h2, fun b i => by refine rwE e.hB ?_; exact S.imm b i⟩
  obtain ⟨vs, n, o, r⟩ := S.lists i b xs h1 h2
  exact ⟨vs, n, o, VRels.ctx e _ _ r⟩
theorem GoX.ctx (e : Sg K K') (q : GoX K X g h g' σ' h') : GoX K' X g h g' σ' h' := ⟨q.st.ctx e, q.pre, q.imm, q.new, q.keep, q.there, q.ex, q.dic⟩
theorem EndX.ctx (e : Sg K K') {x : Mini.X} {v : Value} (q : EndX K tr Y g s x v s') : EndX K' tr Y g s x v s' := by
  obtain ⟨a, c, g', σ', hv, go, sx, ⟨o, vs, a0, a1, a2, a3, a4, a5, a6, a7⟩, q⟩ := q
  refine ⟨a, c, g', σ', hv, go.ctx e, sx, ⟨o, vs, a0, a1, a2, by refine rwE e.hB ?_; exact a3, a4, by refine rwE e.exC ?_; exact a5, a6, ?_⟩, q⟩
  refine rwE e.hB ?_; exact a7
theorem Fr.ctx {env : Env} {cx : Cx} {m : M} (e : Sg K K') (F : Fr K env cx m g h) (hf : Frs K' g h) : Fr K' env cx m g h where
  kind := F.kind
  names := F.names
  glob := F.glob
  blt := F.blt
  loc := by
    obtain ⟨ns, hn, hv⟩ := F.loc
    exact ⟨ns, hn, fun x k v h1 h2 h3 => let ⟨w, a, b⟩ := hv x k v h1 h2 h3; ⟨w, a, VRel.ctx e _ _ b⟩⟩
  cell := fun x k h1 h2 => by
    obtain ⟨c, o, a, b, hv⟩ := F.cell x k h1 h2
    exact ⟨c, o, a, b, fun v h3 => let ⟨w, a, b⟩ := hv v h3; ⟨w, a, VRel.ctx e _ _ b⟩⟩
  priv := by refine rwE e.hB ?_; exact F.priv
  privC := by refine rwE e.hB ?_; exact F.privC
  apart := F.apart
  inj := F.inj
  bnd := F.bnd
  hi := F.hi
  frs := hf
theorem Frs.ctx (e : Sg K K') (hc : K'.chain = K.chain) (F : Frs K g h) : Frs K' g h := fun env he => by
  rw [hc] at he
  refine rwE e.hB ?_
  exact F env he
end
end Mini

set_option autoImplicit false
set_option linter.unusedVariables false
namespace Mini
open PySem

/-- what the names of the builtins stand for -/
noncomputable def blts : List (Str × Value) := [("len", .builtin "len"), ("list", .type "list"), ("isinstance", .builtin "isinstance"), ("sum", .builtin "sum"), ("int", .type "int"),
  ("range", .type "range"), ("enumerate", .type "enumerate"), ("bool", .type "bool"), ("ValueError", .type "ValueError")]

structure Pg where
  fns : List (Str × Nat)
  consts : List (Str × Int)
  hall : Str
  fields : List Str

/-- a call of a function of the text's own, at a depth -/
noncomputable def SF (K : Ctx) (n : Nat) : Prop := ∀ (f : Nat) (A : Around) (g : G) (σ : H) (s : Shared) (vs : List V) (ws : List Value) (Q : P) (x : X), Room K A n → St K g σ s.heap → Frs K g s.heap → VRels K g s.heap vs ws → callW K.Φ n f vs σ Q x →
  codeAny (model K.prog K.w) A (.call (.ref (K.fa f)) ⟨ws, []⟩) (fun r s' => match r with | .ok (.ret v) => EndE K g s Q v s' | .ok _ => False | .error e => EndX K false (fun _ => False) g s x e s') s

/-- the exceptions' classes: their numbers -/
noncomputable def excNames : List (Str × Nat) := [("NoHall", 0), ("NoGate", 1), ("NoRow", 2), ("Stranger", 3), ("NoWalker", 4), ("NoRest", 5), ("HallError", 100)]
noncomputable def above (K : Ctx) (k : Nat) : List Value := if k = 100 then vmro else .ref (K.exC 100) :: vmro
theorem exc_num {x : Str} {k : Nat} (h : excNames.lookup x = some k) : k ∈ excNums := by
  have := PySem.mem_of_lookup h
  have e : excNums = excNames.map (·.2) := rfl
  refine rwE e ?_
  exact List.mem_map.mpr ⟨_, this, rfl⟩

structure Gr (K : Ctx) (pg : Pg) : Prop where
  g : K.hB.Ns mainGlobals K.mg
  b : K.hB.Ns builtinsNs K.mb
  nolimit : K.hB.NoLimit
  blt : ∀ x v, blts.lookup x = some v → K.mg x = none ∧ K.mb x = some v
  const : ∀ x i, pg.consts.lookup x = some i → ∃ t, K.mg x = some (.int i t)
  fn : ∀ x f, pg.fns.lookup x = some f → K.mg x = some (.ref (K.fa f)) ∧ ∃ o fd, K.hB.get? (K.fa f) = some o ∧ o.data = .func fd
  hall : ∀ (x : Str), x = pg.hall → x ≠ "" → K.mg x = some (.ref K.hallC) ∧ K.fields = pg.fields
  attr : ∀ (A : Around) (s : Shared) (Q : Value → Shared → Prop) (E : Value → Shared → Prop) (b d : Addr) (mA : Str → Option Value) (vs : List Value) (k : Nat) (f : Str) (w : Value), (∀ b o, K.hB.get? b = some o → s.heap.get? b = some o) →
    InO s.heap K.hallC b d mA → hasF K.fields mA vs → K.fields[k]? = some f → vs[k]? = some w → handedOut w = pure w → (∀ tk, Q w { s with toks := tk }) → wpAny (model K.prog K.w) A (getAttr (.ref b) f true) Q E s
  excN : ∀ x k, excNames.lookup x = some k → K.mg x = some (.ref (K.exC k))
  exc : ∀ k ∈ excNums, XCls K.hB (K.exC k) (above K k)
  excI : ∀ k ∈ excNums, ∀ j ∈ excNums, K.exC k = K.exC j → k = j
  cls : pg.hall ≠ "" → ∃ N mN, PyProof.Rows.ClsAt K.hB K.hallC N mN
  make : pg.hall ≠ "" → ∀ (A : Around) (s : Shared) (vs : List Value) (Q : Value → Shared → Prop) (E : Value → Shared → Prop), A.depth + 10 < recursionLimit → (∀ b o, K.hB.get? b = some o → s.heap.get? b = some o) → vs.length = 5 →
    (∀ b d mA h' tk, s.heap.get? b = none → s.heap.get? d = none → InO h' K.hallC b d mA → hasF K.fields mA vs → (∀ c o, s.heap.get? c = some o → h'.get? c = some o) → Q (.ref b) { s with heap := h', toks := tk }) →
    wpAny (model K.prog K.w) A (call (.ref K.hallC) vs) Q E s

noncomputable def SE (K : Ctx) (n : Nat) (cx : Cx) (e : Expr) (p : E) : Prop := ∀ (env : Env) (A : Around) (m : M) (g : G) (σ : H) (s : Shared) (Q : P), Room K A n → Fr K env cx m g s.heap → St K g σ s.heap →
  WE (callW K.Φ n) noX p m σ Q → wpAny (model K.prog K.w) A (eval e env) (EndE K g s Q) noE s
noncomputable def STr (K : Ctx) (n : Nat) (cx : Cx) (e : Expr) (p : E) : Prop := ∀ (env : Env) (A : Around) (m : M) (g : G) (σ : H) (s : Shared) (Q : Bool → H → Prop), Room K A n → Fr K env cx m g s.heap → St K g σ s.heap →
  WT (callW K.Φ n) noX p m σ Q → wpAny (model K.prog K.w) A (isTrue e env (eval e env)) (EndB K g s Q) noE s
noncomputable def SEs (K : Ctx) (n : Nat) (cx : Cx) (es : List Expr) (ps : List E) : Prop := ∀ (env : Env) (A : Around) (m : M) (g : G) (σ : H) (s : Shared) (pos : Pos) (Q : List V → H → Prop), Room K A n → Fr K env cx m g s.heap → St K g σ s.heap →
  WEs (callW K.Φ n) noX ps m σ Q → wpAny (model K.prog K.w) A (spliced (backTo pos (starEach es env))) (EndL K g s fun rs σ => rs.length = ps.length ∧ Q rs σ) noE s

section
variable {K : Ctx} {pg : Pg} {n : Nat} {cx : Cx}

theorem EndE.bind {A : Around} {g g₁ : G} {σ₁ : H} {s s₁ : Shared} {t : Sem Value} {Q : P} (p : Go K g s.heap g₁ σ₁ s₁.heap) (x : Sx s s₁) (h : wpAny (model K.prog K.w) A t (EndE K g₁ s₁ Q) noE s₁) :
    wpAny (model K.prog K.w) A t (EndE K g s Q) noE s₁ := wpAny_mono h (fun _ _ q => q.trans p x) fun _ _ f => f
theorem EndB.bind {A : Around} {g g₁ : G} {σ₁ : H} {s s₁ : Shared} {t : Sem Bool} {Q : Bool → H → Prop} (p : Go K g s.heap g₁ σ₁ s₁.heap) (x : Sx s s₁) (h : wpAny (model K.prog K.w) A t (EndB K g₁ s₁ Q) noE s₁) :
    wpAny (model K.prog K.w) A t (EndB K g s Q) noE s₁ := wpAny_mono h (fun _ _ q => q.trans p x) fun _ _ f => f

theorem se_none {k pos} : SE K n cx (.Constant .none k pos) .none := fun env A m g σ s Q R F S W => wpAny_Constant_none (end_same (r := .none) S rfl W)
theorem se_bool {b k pos} : SE K n cx (.Constant (.bool b) k pos) (.bool b) := fun env A m g σ s Q R F S W => wpAny_Constant_bool (end_same S (vbool ..) W)
theorem se_int {i k pos} : SE K n cx (.Constant (.int i) k pos) (.int i) := fun env A m g σ s Q R F S W => wpAny_Constant_int (end_same S (vint ..) W)
theorem se_str {x j k pos} (h : words[j]? = some x) : SE K n cx (.Constant (.str x) k pos) (.str j) := fun env A m g σ s Q R F S W => wpAny_Constant_str (end_same (r := .str j) S ⟨_, _, h, rfl⟩ W)

theorem load_var {env : Env} {A : Around} {m : M} {g : G} {s : Shared} {x : Str} {k : Nat} {v : V} {Q : Value → Shared → Prop} {E : Value → Shared → Prop} (F : Fr K env cx m g s.heap) (hx : slotOf cx x = some k) (hv : get m k = some v)
    (h : ∀ w, VRel K g s.heap v w → Q w s) : wpAny (model K.prog K.w) A (loadName env x) Q E s := by
  unfold slotOf at hx
  have hkind : env.kindOf x = cx.names.lookup x := by unfold Env.kindOf; (refine rwE F.names ?_; with_reducible rfl)
  split at hx
  · rename_i hl
    obtain ⟨ns, hn, hs⟩ := F.loc
    obtain ⟨w, e, r⟩ := hs x k v hx hl hv
    exact wpAny_loadName_local F.kind (hkind.trans hl) hn e (h w r)
  · rename_i hl
    obtain ⟨c, o, e, hc, hs⟩ := F.cell x k hx hl
    obtain ⟨w, rfl, r⟩ := hs v hv
    exact wpAny_loadName_cell F.kind (hkind.trans hl) e hc (h w r)
  · cases hx
theorem se_var {x : Str} {k : Nat} {pos : Pos} (hx : slotOf cx x = some k) (hd : (x == ("__debug__" : Str)) = false) : SE K n cx (.Name x pos) (.var k) := fun env A m g σ s Q R F S W => by
  obtain ⟨v, hv, q⟩ := W
  exact wpAny_Name (load_var F hx hv fun w r => ⟨v, g, σ, Go.refl S, Sx.refl s, r, q⟩) hd

theorem load_glob (G₀ : Gr K pg) {env : Env} {A : Around} {m : M} {g : G} {σ : H} {s : Shared} {x : Str} {pos : Pos} {v : Value} {Q : Value → Shared → Prop} {E : Value → Shared → Prop} (F : Fr K env cx m g s.heap) (S : St K g σ s.heap)
    (hx : cx.names.lookup x = some .globalImplicit) (hd : (x == ("__debug__" : Str)) = false) (hv : K.mg x = some v) (h : Q v s) : wpAny (model K.prog K.w) A (eval (.Name x pos) env) Q E s := by
  have hkind : env.kindOf x = cx.names.lookup x := by unfold Env.kindOf; (refine rwE F.names ?_; with_reducible rfl)
  exact Calls.Name_function_global F.kind (hkind.trans hx) (Calls.loadGlobal_global (mg := K.mg) (by refine rwE F.glob ?_; exact G₀.g.keeps S.base) hv h) hd
theorem load_blt (G₀ : Gr K pg) {env : Env} {A : Around} {m : M} {g : G} {σ : H} {s : Shared} {x : Str} {pos : Pos} {v : Value} {Q : Value → Shared → Prop} {E : Value → Shared → Prop} (F : Fr K env cx m g s.heap) (S : St K g σ s.heap)
    (hx : cx.names.lookup x = some .globalImplicit) (hd : (x == ("__debug__" : Str)) = false) (hv : blts.lookup x = some v) (h : Q v s) : wpAny (model K.prog K.w) A (eval (.Name x pos) env) Q E s := by
  have hkind : env.kindOf x = cx.names.lookup x := by unfold Env.kindOf; (refine rwE F.names ?_; with_reducible rfl)
  exact Calls.Name_function_global F.kind (hkind.trans hx) (Calls.loadGlobal_builtin (mg := K.mg) (mb := K.mb) (by refine rwE F.glob ?_; exact G₀.g.keeps S.base) (G₀.blt x v hv).1 (by refine rwE F.blt ?_; exact G₀.b.keeps S.base) (G₀.blt x v hv).2 h) hd

theorem se_const (G₀ : Gr K pg) {x : Str} {i : Int} {pos : Pos} (hx : cx.names.lookup x = some .globalImplicit) (hd : (x == ("__debug__" : Str)) = false) (hi : pg.consts.lookup x = some i) : SE K n cx (.Name x pos) (.int i) := fun env A m g σ s Q R F S W => by
  obtain ⟨t, ht⟩ := G₀.const x i hi
  exact load_glob G₀ F S hx hd ht (end_same S (vint ..) W)

theorem se_bin {l r : Expr} {op : Operator} {o : Bin} {a b : E} {pos : Pos} (ho : opOf op = some o) (hl : SE K n cx l a) (hr : SE K n cx r b) : SE K n cx (.BinOp l op r pos) (.bin o a b) := fun env A m g σ s Q R F S W => by
  refine wpAny_BinOp (wpAny_mono (hl env A m g σ s _ R F S W) (fun v s₁ q => ?_) fun _ _ f => f)
  obtain ⟨r₁, g₁, σ₁, go₁, sx₁, rel₁, W₁⟩ := q
  refine wpAny_mono (hr env A m g₁ σ₁ s₁ _ R (F.go S go₁) go₁.st W₁) (fun v₂ s₂ q => ?_) fun _ _ f => f
  obtain ⟨r₂, g₂, σ₂, go₂, sx₂, rel₂, W₂⟩ := q
  exact EndE.bind (go₁.trans go₂) (sx₁.trans sx₂) (binop_sound go₂.st ho (go₂.rel go₁.st rel₁) rel₂ W₂)

theorem se_neg {e : Expr} {a : E} {pos : Pos} (h : SE K n cx e a) : SE K n cx (.UnaryOp .USub e pos) (.neg a) := fun env A m g σ s Q R F S W => by
  refine wpAny_UnaryOp (wpAny_mono (h env A m g σ s _ R F S W) (fun v s₁ q => ?_) fun _ _ f => f)
  obtain ⟨r₁, g₁, σ₁, go₁, sx₁, rel₁, W₁⟩ := q
  cases r₁ <;> try exact W₁.elim
  obtain ⟨t, rfl⟩ := rel₁
  exact EndE.bind go₁ sx₁ (PyProof.Rows.neg_int (end_same go₁.st (vint ..) W₁))

theorem se_cmp {l r : Expr} {op : CmpOp} {o : Cmp} {a b : E} {pos : Pos} (ho : cmpOf op = some o) (hl : SE K n cx l a) (hr : SE K n cx r b) (hm : behindInMarks op r = false) : SE K n cx (.Compare l [op] [r] pos) (.cmp o a b) := fun env A m g σ s Q R F S W => by
  refine wpAny_Compare1 (wpAny_mono (hl env A m g σ s _ R F S W) (fun v s₁ q => ?_) fun _ _ f => f) hm
  obtain ⟨r₁, g₁, σ₁, go₁, sx₁, rel₁, W₁⟩ := q
  refine wpAny_mono (hr env A m g₁ σ₁ s₁ _ R (F.go S go₁) go₁.st W₁) (fun v₂ s₂ q => ?_) fun _ _ f => f
  obtain ⟨r₂, g₂, σ₂, go₂, sx₂, rel₂, W₂⟩ := q
  exact EndE.bind (go₁.trans go₂) (sx₁.trans sx₂) (cmpop_sound R go₂.st ho (go₂.rel go₁.st rel₁) rel₂ W₂)
theorem st_cmp {l r : Expr} {op : CmpOp} {o : Cmp} {a b : E} {pos : Pos} (ho : cmpOf op = some o) (hl : SE K n cx l a) (hr : SE K n cx r b) (hm : behindInMarks op r = false) : STr K n cx (.Compare l [op] [r] pos) (.cmp o a b) := fun env A m g σ s Q R F S W => by
  refine wpAny_isTrue_Compare1 (wpAny_mono (hl env A m g σ s _ R F S W) (fun v s₁ q => ?_) fun _ _ f => f) hm
  obtain ⟨r₁, g₁, σ₁, go₁, sx₁, rel₁, W₁⟩ := q
  refine wpAny_mono (hr env A m g₁ σ₁ s₁ _ R (F.go S go₁) go₁.st W₁) (fun v₂ s₂ q => ?_) fun _ _ f => f
  obtain ⟨r₂, g₂, σ₂, go₂, sx₂, rel₂, W₂⟩ := q
  refine wpAny_mono (cmpop_sound R go₂.st ho (go₂.rel go₁.st rel₁) rel₂ W₂) (fun v₃ s₃ q => ?_) fun _ _ f => f
  obtain ⟨r₃, g₃, σ₃, go₃, sx₃, rel₃, W₃⟩ := q
  exact EndB.bind ((go₁.trans go₂).trans go₃) ((sx₁.trans sx₂).trans sx₃) (truthy_sound go₃.st rel₃ W₃)

theorem st_not {e : Expr} {a : E} {pos : Pos} (h : STr K n cx e a) : STr K n cx (.UnaryOp .Not e pos) (.not a) := fun env A m g σ s Q R F S W =>
  wpAny_isTrue_Not (wpAny_mono (h env A m g σ s (fun b σ => Q (!b) σ) R F S W) (fun _ _ ⟨g', σ', go, sx, q⟩ => ⟨g', σ', go, sx, q⟩) fun _ _ f => f)
theorem st_val {e : Expr} {a : E} (h : SE K n cx e a) (he : ∀ env whole, isTrue e env whole = (do let v ← whole; standAt e.pos; holding [v] (PySem.truthy v)))
    (hw : ∀ c x m σ k, WT c x a m σ k → WE c x a m σ (truthy k)) : STr K n cx e a := fun env A m g σ s Q R F S W => by
  refine wpAny_isTrue_value (wpAny_mono (h env A m g σ s _ R F S (hw _ _ _ _ _ W)) (fun v s₁ q => ?_) fun _ _ f => f) (he env _)
  obtain ⟨r₁, g₁, σ₁, go₁, sx₁, rel₁, W₁⟩ := q
  exact EndB.bind go₁ sx₁ (truthy_sound go₁.st rel₁ W₁)

theorem se_not {e : Expr} {a : E} {pos : Pos} (h : SE K n cx e a) : SE K n cx (.UnaryOp .Not e pos) (.not a) := fun env A m g σ s Q R F S W => by
  refine wpAny_UnaryOp (wpAny_mono (h env A m g σ s _ R F S W) (fun v s₁ q => ?_) fun _ _ f => f)
  obtain ⟨r₁, g₁, σ₁, go₁, sx₁, rel₁, W₁⟩ := q
  refine PyProof.Rows.not_of (wpAny_mono (truthy_sound go₁.st rel₁ W₁) (fun b s₂ q => ?_) fun _ _ f => f)
  obtain ⟨g₂, σ₂, go₂, sx₂, W₂⟩ := q
  exact ⟨.bool !b, g₂, σ₂, go₁.trans go₂, sx₁.trans sx₂, rfl, W₂⟩

theorem st_and {x : Expr} {rest : List Expr} {a b : E} (h : STr K n cx x a) (hr : ∀ env A m g σ s (Q : Bool → H → Prop), Room K A n → Fr K env cx m g s.heap → St K g σ s.heap → WT (callW K.Φ n) noX b m σ Q → wpAny (model K.prog K.w) A (allTrue .And rest env) (EndB K g s Q) noE s) :
    ∀ env A m g σ s (Q : Bool → H → Prop), Room K A n → Fr K env cx m g s.heap → St K g σ s.heap → WT (callW K.Φ n) noX (.and a b) m σ Q → wpAny (model K.prog K.w) A (allTrue .And (x :: rest) env) (EndB K g s Q) noE s := fun env A m g σ s Q R F S W => by
  refine wpAny_allTrue_And_cons (wpAny_mono (h env A m g σ s _ R F S W) (fun t s₁ q => ?_) fun _ _ f => f)
  obtain ⟨g₁, σ₁, go₁, sx₁, W₁⟩ := q
  cases t with
  | false => exact ⟨g₁, σ₁, go₁, sx₁, W₁⟩
  | true => exact EndB.bind go₁ sx₁ (hr env A m g₁ σ₁ s₁ Q R (F.go S go₁) go₁.st W₁)
theorem st_or {x : Expr} {rest : List Expr} {a b : E} (h : STr K n cx x a) (hr : ∀ env A m g σ s (Q : Bool → H → Prop), Room K A n → Fr K env cx m g s.heap → St K g σ s.heap → WT (callW K.Φ n) noX b m σ Q → wpAny (model K.prog K.w) A (allTrue .Or rest env) (EndB K g s Q) noE s) :
    ∀ env A m g σ s (Q : Bool → H → Prop), Room K A n → Fr K env cx m g s.heap → St K g σ s.heap → WT (callW K.Φ n) noX (.or a b) m σ Q → wpAny (model K.prog K.w) A (allTrue .Or (x :: rest) env) (EndB K g s Q) noE s := fun env A m g σ s Q R F S W => by
  refine wpAny_allTrue_Or_cons (wpAny_mono (h env A m g σ s _ R F S W) (fun t s₁ q => ?_) fun _ _ f => f)
  obtain ⟨g₁, σ₁, go₁, sx₁, W₁⟩ := q
  cases t with
  | true => exact ⟨g₁, σ₁, go₁, sx₁, W₁⟩
  | false => exact EndB.bind go₁ sx₁ (hr env A m g₁ σ₁ s₁ Q R (F.go S go₁) go₁.st W₁)
theorem st_lastAnd {x : Expr} {a : E} (h : STr K n cx x a) :
    ∀ env A m g σ s (Q : Bool → H → Prop), Room K A n → Fr K env cx m g s.heap → St K g σ s.heap → WT (callW K.Φ n) noX a m σ Q → wpAny (model K.prog K.w) A (allTrue .And [x] env) (EndB K g s Q) noE s := fun env A m g σ s Q R F S W => by
  refine wpAny_allTrue_And_cons (wpAny_mono (h env A m g σ s _ R F S W) (fun t s₁ q => ?_) fun _ _ f => f)
  cases t with
  | false => exact q
  | true => exact wpAny_allTrue_And_nil q
theorem st_lastOr {x : Expr} {a : E} (h : STr K n cx x a) :
    ∀ env A m g σ s (Q : Bool → H → Prop), Room K A n → Fr K env cx m g s.heap → St K g σ s.heap → WT (callW K.Φ n) noX a m σ Q → wpAny (model K.prog K.w) A (allTrue .Or [x] env) (EndB K g s Q) noE s := fun env A m g σ s Q R F S W => by
  refine wpAny_allTrue_Or_cons (wpAny_mono (h env A m g σ s _ R F S W) (fun t s₁ q => ?_) fun _ _ f => f)
  cases t with
  | true => exact q
  | false => exact wpAny_allTrue_Or_nil q

theorem bool_step {op : BoolOp} {t : Sem Value} {x : Sem Value} {rest : List (Sem Value)} {pos : Pos} {A : Around} {g : G} {s : Shared} {Q : P} {k : Bool → H → Prop}
    (h : wpAny (model K.prog K.w) A t (EndE K g s (truthy k)) noE s)
    (hk : ∀ b g₁ σ₁ s₁, Go K g s.heap g₁ σ₁ s₁.heap → Sx s s₁ → k b σ₁ → wpAny (model K.prog K.w) A (match op, b with | .And, false | .Or, true => pure (.bool b) | _, _ => boolOp pos op (x :: rest)) (EndE K g s Q) noE s₁) :
    wpAny (model K.prog K.w) A (boolOp pos op (t :: x :: rest)) (EndE K g s Q) noE s := by
  rewrite [boolOp]
  · refine wpAny_bind (wpAny_mono h (fun v s₁ q => ?_) fun _ _ f => f)
    obtain ⟨r₁, g₁, σ₁, go₁, sx₁, rel₁, W₁⟩ := q
    cases r₁ <;> try exact W₁.elim
    cases rel₁
    exact wpAny_bind (wpAny_standAt (wpAny_bind (wpAny_holding (wpAny_truthy_bool (hk _ g₁ σ₁ s₁ go₁ sx₁ W₁)))))
  · simp

/-- a call of something that is no object of the heap, with its arguments -/
theorem call_plain {f : Value} {A : Around} {env : Env} {m : M} {g : G} {σ : H} {s : Shared} {pos : Pos} {es : List Expr} {ps : List E} {k : List V → H → Prop} {Q : Value → Shared → Prop} (R : Room K A n) (F : Fr K env cx m g s.heap) (S : St K g σ s.heap)
    (hf : (∃ id, f = .builtin id) ∨ (∃ T, f = .type T)) (he : SEs K n cx es ps) (hne : es ≠ []) (hst : (backTo pos (starEach es env)).any (·.1) = false) (hsh : ∃ x rest, backTo pos (starEach es env) = (false, x) :: rest) (W : WEs (callW K.Φ n) noX ps m σ k)
    (h : ∀ rs g₁ σ₁ s₁ vs, Go K g s.heap g₁ σ₁ s₁.heap → Sx s s₁ → VRels K g₁ s₁.heap rs vs → k rs σ₁ → wpAny (model K.prog K.w) A (call f vs []) Q noE s₁) :
    wpAny (model K.prog K.w) A (callWith pos f [] (backTo pos (starEach es env)) []) Q noE s := by
  obtain ⟨x, rest, hsh⟩ := hsh
  have main : wpAny (model K.prog K.w) A (evalArgs f true (backTo pos (starEach es env)) []) (fun a s₁ => wpAny (model K.prog K.w) A (call f ([] ++ a.pos) a.kw) Q noE s₁) noE s := by
    refine rwE hsh ?_
    refine Calls.evalArgs_plain ?_
    refine rwE (Eq.symm (hsh)) ?_
    refine wpAny_mono (he env A m g σ s pos _ R F S W) (fun vs s₁ q => ?_) fun _ _ f => f
    obtain ⟨rs, g₁, σ₁, go₁, sx₁, rel₁, _, W₁⟩ := q
    exact h rs g₁ σ₁ s₁ vs go₁ sx₁ rel₁ W₁
  rcases hf with ⟨id, rfl⟩ | ⟨T, rfl⟩
  · exact Calls.callWith_builtin hst main
  · exact callWith_type hst main
end
end Mini

set_option autoImplicit false
set_option linter.unusedVariables false
namespace Mini
open PySem

noncomputable def isStar : Expr → Bool
  | .Starred .. => true
  | _ => false
theorem star_cons {e : Expr} {es : List Expr} {env : Env} {pos : Pos} (h : isStar e = false) : backTo pos (starEach (e :: es) env) = (false, eval e env) :: backTo pos (starEach es env) := by
  cases e <;> first | rfl | cases h
theorem star_cons' {e : Expr} {es : List Expr} {env : Env} (h : isStar e = false) : starEach (e :: es) env = (false, eval e env) :: starEach es env := by
  cases e <;> first | rfl | cases h

section
variable {K : Ctx} {pg : Pg} {n : Nat} {cx : Cx}

theorem ses_nil : SEs K n cx [] [] := fun env A m g σ s pos Q R F S W => Calls.spliced_nil ⟨[], g, σ, Go.refl S, Sx.refl s, trivial, rfl, W⟩
theorem ses_cons {e : Expr} {es : List Expr} {a : E} {as : List E} (hs : isStar e = false) (h : SE K n cx e a) (hr : SEs K n cx es as) : SEs K n cx (e :: es) (a :: as) := fun env A m g σ s pos Q R F S W => by
  refine rwE (star_cons hs) ?_
  refine Calls.spliced_cons (wpAny_mono (h env A m g σ s _ R F S W) (fun v s₁ q => ?_) fun _ _ f => f)
  obtain ⟨r₁, g₁, σ₁, go₁, sx₁, rel₁, W₁⟩ := q
  refine wpAny_mono (hr env A m g₁ σ₁ s₁ pos _ R (F.go S go₁) go₁.st W₁) (fun vs s₂ q => ?_) fun _ _ f => f
  obtain ⟨rs, g₂, σ₂, go₂, sx₂, rel₂, hl, W₂⟩ := q
  exact ⟨r₁ :: rs, g₂, σ₂, go₁.trans go₂, sx₁.trans sx₂, ⟨go₂.rel go₁.st rel₁, rel₂⟩, congrArg (· + 1) hl, W₂⟩

theorem se_disp {es : List Expr} {as : List E} {pos : Pos} (h : SEs K n cx es as) : SE K n cx (.List es pos) (.disp as) := fun env A m g σ s Q R F S W => by
  refine wpAny_List_spliced (wpAny_mono (h env A m g σ s pos _ R F S W) (fun vs s₁ q => ?_) fun _ _ f => f)
  obtain ⟨rs, g₁, σ₁, go₁, sx₁, rel₁, _, W₁⟩ := q
  refine ⟨by refine rwE (Eq.symm (rel₁.length)) ?_; exact W₁.1, EndE.trans go₁ sx₁ ?_⟩
  exact end_listP go₁.st (by simpa using rel₁) W₁
theorem se_tup {es : List Expr} {as : List E} {k : Nat} {pos : Pos} (h : SEs K n cx es as) (hl : as.length ≤ 100) : SE K n cx (.Tuple es k pos) (.tup as) := fun env A m g σ s Q R F S W => by
  refine wpAny_Tuple_spliced (wpAny_mono (h env A m g σ s pos _ R F S W) (fun vs s₁ q => ?_) fun _ _ f => f)
  obtain ⟨rs, g₁, σ₁, go₁, sx₁, rel₁, hl₁, W₁⟩ := q
  refine ⟨by (refine rwE (Eq.symm (rel₁.length)) ?_; refine rwE hl₁ ?_; refine rwE sizeLine_is ?_); exact Nat.le_trans (by assumption) (by decide), EndE.trans go₁ sx₁ ?_⟩
  exact end_tup go₁.st rel₁ W₁

theorem se_ite {t a b : Expr} {pt pa pb : E} {pos : Pos} (ht : STr K n cx t pt) (ha : SE K n cx a pa) (hb : SE K n cx b pb) : SE K n cx (.IfExp t a b pos) (.ite pt pa pb) := fun env A m g σ s Q R F S W => by
  refine wpAny_IfExp (wpAny_mono (ht env A m g σ s _ R F S W) (fun c s₁ q => ?_) fun _ _ f => f)
  obtain ⟨g₁, σ₁, go₁, sx₁, W₁⟩ := q
  cases c with
  | true => exact EndE.bind go₁ sx₁ (ha env A m g₁ σ₁ s₁ Q R (F.go S go₁) go₁.st W₁)
  | false => exact EndE.bind go₁ sx₁ (hb env A m g₁ σ₁ s₁ Q R (F.go S go₁) go₁.st W₁)

theorem st_cmp2 {l r₁ r₂ : Expr} {o₁ o₂ : CmpOp} {p₁ p₂ : Cmp} {a b c : E} {pos : Pos} (h₁ : cmpOf o₁ = some p₁) (h₂ : cmpOf o₂ = some p₂) (hl : SE K n cx l a) (hr : SE K n cx r₁ b) (hr₂ : SE K n cx r₂ c) (hm : lastMarks [o₁, o₂] [r₁, r₂] = false) :
    STr K n cx (.Compare l [o₁, o₂] [r₁, r₂] pos) (.cmp2 p₁ a b p₂ c) := fun env A m g σ s Q R F S W => by
  refine PyProof.Rows.isTrue_chain (wpAny_mono (hl env A m g σ s _ R F S W) (fun v s₁ q => ?_) fun _ _ f => f) hm
  obtain ⟨x₁, g₁, σ₁, go₁, sx₁, rel₁, W₁⟩ := q
  show wpAny _ A (do
    let rv ← holding [v] (eval r₁ env)
    standAt pos
    let c ← holding [v, rv] (compareOp o₁ v rv)
    release [v, rv] [c]
    if ← holding [c, rv] (PySem.truthy c) then testChain pos rv [o₂] [eval r₂ env] else pure false) _ _ s₁
  refine wpAny_bind (wpAny_holding (wpAny_mono (hr env A m g₁ σ₁ s₁ _ R (F.go S go₁) go₁.st W₁) (fun v₂ s₂ q => ?_) fun _ _ f => f))
  obtain ⟨x₂, g₂, σ₂, go₂, sx₂, rel₂, W₂⟩ := q
  have go12 := go₁.trans go₂
  refine wpAny_bind (wpAny_standAt (wpAny_bind (wpAny_holding (wpAny_mono (cmpop_sound R go₂.st h₁ (go₂.rel go₁.st rel₁) rel₂ W₂) (fun v₃ s₃ q => ?_) fun _ _ f => f))))
  obtain ⟨x₃, g₃, σ₃, go₃, sx₃, rel₃, W₃⟩ := q
  refine wpAny_bind (PyProof.Rows.wpAny_release' (wpAny_bind (wpAny_holding (wpAny_mono (truthy_sound go₃.st rel₃ W₃) (fun t s₄ q => ?_) fun _ _ f => f))))
  obtain ⟨g₄, σ₄, go₄, sx₄, W₄⟩ := q
  have go4 := (go12.trans go₃).trans go₄
  have sx4 := ((sx₁.trans sx₂).trans sx₃).trans sx₄
  cases t with
  | false => exact wpAny_pure ⟨g₄, σ₄, go4, sx4, W₄⟩
  | true =>
    show wpAny _ A (do
      let rv ← holding [v₂] (eval r₂ env)
      standAt pos
      let c ← operate [v₂, rv] (compareOp o₂ v₂ rv)
      holding [c] (PySem.truthy c)) _ _ s₄
    refine wpAny_bind (wpAny_holding (wpAny_mono (hr₂ env A m g₄ σ₄ s₄ _ R (F.go S go4) go₄.st W₄) (fun v₅ s₅ q => ?_) fun _ _ f => f))
    obtain ⟨x₅, g₅, σ₅, go₅, sx₅, rel₅, W₅⟩ := q
    have r2 := go₅.rel go₄.st (go₄.rel go₃.st (go₃.rel go₂.st rel₂))
    refine wpAny_bind (wpAny_standAt (wpAny_bind (PyProof.Rows.wpAny_operate' (wpAny_mono (cmpop_sound R go₅.st h₂ r2 rel₅ W₅) (fun v₆ s₆ q => ?_) fun _ _ f => f))))
    obtain ⟨x₆, g₆, σ₆, go₆, sx₆, rel₆, W₆⟩ := q
    exact wpAny_holding (EndB.bind ((go4.trans go₅).trans go₆) ((sx4.trans sx₅).trans sx₆) (truthy_sound go₆.st rel₆ W₆))

/-- a function of the text's own is called -/
theorem ev_call (G₀ : Gr K pg) (hf : SF K n) {x : Str} {p pos : Pos} {f : Nat} {es : List Expr} {as : List E} (hx : cx.names.lookup x = some .globalImplicit) (hd : (x == ("__debug__" : Str)) = false) (hfn : pg.fns.lookup x = some f) (h : SEs K n cx es as)
    (hst : ∀ e ∈ es, isStar e = false) (hlen : es.length = as.length) {env : Env} {A : Around} {m : M} {g : G} {σ : H} {s : Shared} {Q : P} {y : X} (R : Room K A n) (F : Fr K env cx m g s.heap) (S : St K g σ s.heap)
    (W : WEs (callW K.Φ n) noX as m σ fun vs σ => callW K.Φ n f vs σ Q y) : wpAny (model K.prog K.w) A (eval (.Call (.Name x p) es [] pos) env) (EndE K g s Q) (EndX K false (fun _ => False) g s y) s := by
  obtain ⟨hg, o, fd, ho, hdata⟩ := G₀.fn x f hfn
  refine wpAny_Call_ofName (load_glob G₀ F S hx hd hg ?_)
  show wpAny _ A (callWith pos (.ref (K.fa f)) [] (backTo pos (starEach es env)) []) _ _ s
  refine Calls.callWith_function (o := o) (fd := fd) ?_
  have fin : ∀ rs g₁ σ₁ s₁ vs, Go K g s.heap g₁ σ₁ s₁.heap → Sx s s₁ → VRels K g₁ s₁.heap rs vs → callW K.Φ n f rs σ₁ Q y →
      (s₁.heap.get? (K.fa f) = some o ∧ o.data = .func fd) ∧ wpAny (model K.prog K.w) A (call (.ref (K.fa f)) ([] ++ vs) []) (EndE K g s Q) (EndX K false (fun _ => False) g s y) s₁ := fun rs g₁ σ₁ s₁ vs go₁ sx₁ rel₁ W₁ =>
    ⟨⟨go₁.st.base _ _ ho, hdata⟩, wpAny_mono (wpAny_call (codeAny_mono (hf f A g₁ σ₁ s₁ rs vs Q y R go₁.st (F.go S go₁).frs rel₁ W₁) fun r s' q => q)) (fun _ _ q => q.trans go₁ sx₁) fun _ _ q => q.trans go₁.toX sx₁⟩
  cases es with
  | nil =>
    cases as with
    | cons a as => cases hlen
    | nil => exact evalArgs_none (fin [] g σ s [] (Go.refl S) (Sx.refl s) trivial W)
  | cons e es =>
    refine rwE (star_cons (hst e (.head _))) ?_
    refine Calls.evalArgs_plain ?_
    refine rwE (Eq.symm (star_cons (hst e (.head _)))) ?_
    refine wpAny_mono (h env A m g σ s pos _ R F S W) (fun vs s₁ q => ?_) fun _ _ f => f.elim
    obtain ⟨rs, g₁, σ₁, go₁, sx₁, rel₁, _, W₁⟩ := q
    exact fin rs g₁ σ₁ s₁ vs go₁ sx₁ rel₁ W₁
theorem se_call (G₀ : Gr K pg) (hf : SF K n) {x : Str} {p pos : Pos} {f : Nat} {es : List Expr} {as : List E} (hx : cx.names.lookup x = some .globalImplicit) (hd : (x == ("__debug__" : Str)) = false) (hfn : pg.fns.lookup x = some f) (h : SEs K n cx es as)
    (hst : ∀ e ∈ es, isStar e = false) (hlen : es.length = as.length) : SE K n cx (.Call (.Name x p) es [] pos) (.call f as) := fun env A m g σ s Q R F S W =>
  wpAny_mono (ev_call G₀ hf hx hd hfn h hst hlen R F S W) (fun _ _ q => q) fun _ _ q => q.none

theorem any_back {es : List Expr} {env : Env} {pos : Pos} (hst : ∀ e ∈ es, isStar e = false) : (backTo pos (starEach es env)).any (·.1) = false := by
  induction es with
  | nil => rfl
  | cons e es ih =>
    (refine rwE (star_cons (hst e (.head _))) ?_; refine rwE List.any_cons ?_; refine rwE (ih fun e he => hst e (.tail _ he)) ?_)
    rfl

/-- a builtin of one argument -/
theorem se_blt1 (G₀ : Gr K pg) {x : Str} {v : Value} {p pos : Pos} {e : Expr} {a b : E} (hx : cx.names.lookup x = some .globalImplicit) (hd : (x == ("__debug__" : Str)) = false) (hv : blts.lookup x = some v) (hp : (∃ id, v = .builtin id) ∨ ∃ T, v = .type T)
    (h : SE K n cx e a) (hst : isStar e = false) {op : V → H → P → Prop} (hw : ∀ c x m σ Q, WE c x b m σ Q → WE c x a m σ fun u σ => op u σ Q)
    (ho : ∀ (A : Around) (g : G) (σ : H) (s : Shared) (u : V) (w : Value) (Q : P), Room K A n → St K g σ s.heap → VRel K g s.heap u w → op u σ Q → wpAny (model K.prog K.w) A (call v [w] []) (EndE K g s Q) noE s) :
    SE K n cx (.Call (.Name x p) [e] [] pos) b := fun env A m g σ s Q R F S W => by
  refine wpAny_Call_ofName (load_blt G₀ F S hx hd hv ?_)
  refine call_plain (ps := [a]) (k := fun vs σ => match vs with | [u] => op u σ Q | _ => False) R F S hp (ses_cons hst h ses_nil) (by simp) (any_back (by simpa using hst)) ⟨_, _, star_cons hst⟩ ?_ ?_
  · exact hw _ _ _ _ _ W
  · intro rs g₁ σ₁ s₁ vs go₁ sx₁ rel₁ W₁
    split at W₁
    · cases vs with
      | nil => exact rel₁.elim
      | cons w vs =>
        cases vs with
        | cons _ _ => exact rel₁.2.elim
        | nil => exact EndE.bind go₁ sx₁ (ho A g₁ σ₁ s₁ _ w Q R go₁.st rel₁.1 W₁)
    · exact W₁.elim
end
end Mini

set_option autoImplicit false
set_option linter.unusedVariables false
namespace Mini
open PySem

section
variable {K : Ctx} {pg : Pg} {n : Nat} {cx : Cx}

theorem len_sound {A : Around} {g : G} {σ : H} {s : Shared} {u : V} {w : Value} {Q : P} (S : St K g σ s.heap) (r : VRel K g s.heap u w) (W : bi1 .len u σ Q) : wpAny (model K.prog K.w) A (call (.builtin "len") [w] []) (EndE K g s Q) noE s := by
  cases u <;> try exact False.elim W
  · obtain ⟨xs, hx, q⟩ := W
    obtain ⟨b, vs, k, rfl, _, hl, _, e, z⟩ := S.list r hx
    refine Calls.call_len_list hl.isList (by rw [sizeLine_is] at z; lia) ?_
    refine rwE e ?_
    exact end_same S (vint ..) q
  · rename_i xs
    obtain ⟨b, vs, k, rfl, _, ho, rr⟩ := r
    have e : vs.size = xs.length := by refine rwE (Eq.symm (Array.length_toList)) ?_; exact rr.length.symm
    have hlim : lim = 16777216 := rfl
    refine PyProof.Rows.len_tuple ⟨_, ho, rfl, k, rfl⟩ (by refine rwE e ?_; have := W.1; lia) ?_
    refine rwE e ?_
    exact end_same S (vint ..) W.2
theorem list_sound {A : Around} {g : G} {σ : H} {s : Shared} {u : V} {w : Value} {Q : P} (S : St K g σ s.heap) (r : VRel K g s.heap u w) (W : bi1 .list u σ Q) : wpAny (model K.prog K.w) A (call (.type "list") [w] []) (EndE K g s Q) noE s := by
  cases u <;> try exact False.elim W
  obtain ⟨xs, hx, q⟩ := W
  obtain ⟨b, vs, k, rfl, _, hl, rr, e, z⟩ := S.list r hx
  exact call_list_seq b (.inl rfl) hl rfl rfl (fun h' c' hk e' => end_list S (none_at_size _) hk e' rr q) z
theorem int_sound {A : Around} {g : G} {σ : H} {s : Shared} {u : V} {w : Value} {Q : P} (S : St K g σ s.heap) (r : VRel K g s.heap u w) (W : bi1 .intOf u σ Q) : wpAny (model K.prog K.w) A (call (.type "int") [w] []) (EndE K g s Q) noE s := by
  cases u <;> try exact False.elim W
  cases r
  exact call_int_bool (end_same S (vint ..) W)

theorem se_len (G₀ : Gr K pg) {x : Str} {p pos : Pos} {e : Expr} {a : E} (hx : cx.names.lookup x = some .globalImplicit) (hd : (x == ("__debug__" : Str)) = false) (hv : blts.lookup x = some (.builtin "len")) (h : SE K n cx e a) (hst : isStar e = false) : SE K n cx (.Call (.Name x p) [e] [] pos) (.b1 .len a) :=
  se_blt1 G₀ hx hd hv (.inl ⟨_, rfl⟩) h hst (op := bi1 .len) (fun _ _ _ _ _ W => W) fun A g σ s u w Q R S r W => len_sound S r W
theorem se_list (G₀ : Gr K pg) {x : Str} {p pos : Pos} {e : Expr} {a : E} (hx : cx.names.lookup x = some .globalImplicit) (hd : (x == ("__debug__" : Str)) = false) (hv : blts.lookup x = some (.type "list")) (h : SE K n cx e a) (hst : isStar e = false) : SE K n cx (.Call (.Name x p) [e] [] pos) (.b1 .list a) :=
  se_blt1 G₀ hx hd hv (.inr ⟨_, rfl⟩) h hst (op := bi1 .list) (fun _ _ _ _ _ W => W) fun A g σ s u w Q R S r W => list_sound S r W
theorem ints_are {g : G} {h : Heap} : ∀ {is : List Int} {vs : List Value}, VRels K g h (is.map V.int) vs → PyProof.Rows.IntsAre vs is
  | [], [], _ => .nil
  | i :: is, v :: vs, r => by
    obtain ⟨⟨t, rfl⟩, r⟩ := r
    exact .cons _ _ (ints_are r)
  | [], _ :: _, r => r.elim
  | _ :: _, [], r => r.elim
theorem sum_sound [Qt K] {A : Around} {g : G} {σ : H} {s : Shared} {u : V} {w : Value} {Q : P} (R : Room K A n) (S : St K g σ s.heap) (r : VRel K g s.heap u w) (W : bi1 .sum u σ Q) : wpAny (model K.prog K.w) A (call (.builtin "sum") [w] []) (EndE K g s Q) noE s := by
  cases u <;> try exact False.elim W
  obtain ⟨xs, is, hx, rfl, q⟩ := W
  obtain ⟨b, vs, k, rfl, _, hl, rr, e, z⟩ := S.list r hx
  have ia := ints_are rr
  have nm := ia.numsOf
  obtain ⟨ys, rfl⟩ := AllInts.items (vs := vs) (by simpa using ia.allInts)
  rw [nums_intItems] at nm
  refine sum_intListG (R.handled Qt.q) hl.isList fun h' tk t' hk => ?_
  (rewrite [preSum_eq]; refine rwE (List.take_of_length_le (by simp)) ?_; refine rwE nm ?_)
  exact end_kept S hk (vint ..) q
theorem se_sum [Qt K] (G₀ : Gr K pg) {x : Str} {p pos : Pos} {e : Expr} {a : E} (hx : cx.names.lookup x = some .globalImplicit) (hd : (x == ("__debug__" : Str)) = false) (hv : blts.lookup x = some (.builtin "sum")) (h : SE K n cx e a) (hst : isStar e = false) : SE K n cx (.Call (.Name x p) [e] [] pos) (.b1 .sum a) :=
  se_blt1 G₀ hx hd hv (.inl ⟨_, rfl⟩) h hst (op := bi1 .sum) (fun _ _ _ _ _ W => W) fun A g σ s u w Q R S r W => sum_sound R S r W
theorem se_intOf (G₀ : Gr K pg) {x : Str} {p pos : Pos} {e : Expr} {a : E} (hx : cx.names.lookup x = some .globalImplicit) (hd : (x == ("__debug__" : Str)) = false) (hv : blts.lookup x = some (.type "int")) (h : SE K n cx e a) (hst : isStar e = false) : SE K n cx (.Call (.Name x p) [e] [] pos) (.b1 .intOf a) :=
  se_blt1 G₀ hx hd hv (.inr ⟨_, rfl⟩) h hst (op := bi1 .intOf) (fun _ _ _ _ _ W => W) fun A g σ s u w Q R S r W => int_sound S r W
theorem isi_sound {A : Around} {g : G} {σ : H} {s : Shared} {u : V} {w : Value} {Q : P} {k : Kd} {T : String} {b : Bool} (S : St K g σ s.heap) (hT : (k, T) ∈ [(Kd.int, "int"), (.bool, "bool"), (.list, "list")]) (r : VRel K g s.heap u w)
    (hb : isKd k u = some b) (W : Q (.bool b) σ) : wpAny (model K.prog K.w) A (call (.builtin "isinstance") [w, .type T] []) (EndE K g s Q) noE s := by
  simp only [List.mem_cons, Prod.mk.injEq, List.not_mem_nil, or_false] at hT
  rcases hT with ⟨rfl, rfl⟩ | ⟨rfl, rfl⟩ | ⟨rfl, rfl⟩ <;> cases u <;> cases hb
  · obtain ⟨t, rfl⟩ := r
    exact IsiPair.int_int (end_same S (vbool ..) W)
  · cases r
    exact IsiPair.NoneType_bool (end_same S (vbool ..) W)
  · cases r
    exact IsiPair.bool_bool (end_same S (vbool ..) W)
  · obtain ⟨t, rfl⟩ := r
    exact IsiPair.int_bool (end_same S (vbool ..) W)
  · obtain ⟨t, rfl⟩ := r
    exact IsiPair.int_list (end_same S (vbool ..) W)
  · obtain ⟨b, hb, rfl⟩ := r
    rename_i a
    have hl : a < σ.length := by refine rwE (Eq.symm (S.len)) ?_; exact (List.getElem?_eq_some_iff.mp hb).1
    obtain ⟨vs, k, ho, _⟩ := S.lists a b σ[a] hb (List.getElem?_eq_getElem hl)
    exact IsiPair.list_list ho rfl (end_same S (vbool ..) W)

theorem sub_plain {slice : Expr} {o i : Value} (h : ∀ a b c d, slice ≠ .Slice a b c d) : subscripted slice false o i = operate [o, i] (getItem o i) := by
  cases slice <;> first | rfl | exact absurd rfl (h _ _ _ _)

theorem se_idx {v i : Expr} {a b : E} {pos : Pos} (h : SE K n cx v a) (hi : SE K n cx i b) (hs : ∀ a b c d, i ≠ .Slice a b c d) : SE K n cx (.Subscript v i pos) (.idx a b) := fun env A m g σ s Q R F S W => by
  refine PyProof.Rows.Subscript_ (wpAny_mono (h env A m g σ s _ R F S W) (fun o s₁ q => ?_) fun _ _ f => f)
  obtain ⟨r₁, g₁, σ₁, go₁, sx₁, rel₁, W₁⟩ := q
  refine wpAny_mono (hi env A m g₁ σ₁ s₁ _ R (F.go S go₁) go₁.st W₁) (fun k s₂ q => ?_) fun _ _ f => f
  obtain ⟨r₂, g₂, σ₂, go₂, sx₂, rel₂, W₂⟩ := q
  have rel₁' := go₂.rel go₁.st rel₁
  refine EndE.bind (go₁.trans go₂) (sx₁.trans sx₂) ?_
  have S₂ := go₂.st
  cases r₁ <;> cases r₂ <;> try exact False.elim W₂
  · obtain ⟨xs, u, hx, hk, q⟩ := W₂
    obtain ⟨t, rfl⟩ := rel₂
    obtain ⟨b₁, vs, k₁, rfl, _, hl, rr, e, z⟩ := S₂.list rel₁' hx
    rw [sizeLine_is] at z
    rcases hk with ⟨h0, hk⟩ | ⟨h0, h1, hk⟩
    · obtain ⟨w, hw, rw'⟩ := rr.get hk
      have hlt := (List.getElem?_eq_some_iff.mp hk).1
      exact PyProof.Rows.tail_any hl.isList.typeIs slot_list_getitem.lookup (wpAny_getItem_list hl.isList h0 (by lia) (by simpa using hw) (end_same S₂ rw' q)) (sub_plain hs)
    · obtain ⟨w, hw, rw'⟩ := rr.get hk
      exact PyProof.Rows.tail_any hl.isList.typeIs slot_list_getitem.lookup (wpAny_getItem_list_neg hl.isList h0 (by lia) (by lia) (by refine rwE e ?_; simpa using hw) (end_same S₂ rw' q)) (sub_plain hs)
  · rename_i ys i
    obtain ⟨⟨h0, h1⟩, u, hk, q⟩ := W₂
    obtain ⟨t, rfl⟩ := rel₂
    obtain ⟨b₁, vs, k₁, rfl, _, ho, rr⟩ := rel₁'
    obtain ⟨w, hw, rw'⟩ := rr.get hk
    have hlt' : i.toNat < vs.size := by simpa using (List.getElem?_eq_some_iff.mp hw).1
    have hj : seqIndex? i vs.size = some i.toNat := by
      unfold seqIndex?
      have e1 : ¬ i < 0 := by lia
      have e2 : (0 ≤ i && i < (vs.size : Int)) = true := by simp; lia
      simp only [e1, if_false, e2, if_true]
    have ht : PyProof.Rows.IsTup s₂.heap b₁ vs := ⟨_, ho, rfl, k₁, rfl⟩
    exact PyProof.Rows.tail_any ht.typeIs PySem.F.slot_tuple_getitem.lookup (PyProof.Rows.getItem_tuple ht (by lia) (by lia) hj (by simpa using hw) (end_same S₂ rw' q)) (sub_plain hs)
end
end Mini

set_option autoImplicit false
set_option linter.unusedVariables false
namespace Mini
open PySem

noncomputable def plainBase : Expr → Bool
  | .Call (.Name _ _) [] [] _ => false
  | _ => true
theorem base_eq {o : Expr} {name : Str} {env : Env} {t : Sem Value} (h : plainBase o = true) : attributeBase o name env t = t := by
  cases o <;> try rfl
  rename_i f as ks p
  cases f <;> try rfl
  cases as <;> try rfl
  cases ks <;> try rfl
  cases h

section
variable {K : Ctx} {pg : Pg} {n : Nat} {cx : Cx}

theorem se_isinst (G₀ : Gr K pg) {x y : Str} {p p' pos : Pos} {e : Expr} {a : E} {k : Kd} {T : String} (hx : cx.names.lookup x = some .globalImplicit) (hd : (x == ("__debug__" : Str)) = false) (hv : blts.lookup x = some (.builtin "isinstance"))
    (hy : cx.names.lookup y = some .globalImplicit) (hdy : (y == ("__debug__" : Str)) = false) (hvy : blts.lookup y = some (.type T)) (hT : (k, T) ∈ [(Kd.int, "int"), (.bool, "bool"), (.list, "list")])
    (h : SE K n cx e a) (hst : isStar e = false) : SE K n cx (.Call (.Name x p) [e, .Name y p'] [] pos) (.isinst a k) := fun env A m g σ s Q R F S W => by
  refine wpAny_Call_ofName (load_blt G₀ F S hx hd hv ?_)
  show wpAny _ A (callWith pos (.builtin "isinstance") [] (backTo pos (starEach [e, .Name y p'] env)) []) _ _ s
  (refine rwE (star_cons hst) ?_; refine rwE (star_cons (e := .Name y p') rfl) ?_)
  refine Calls.callWith_builtin rfl (Calls.evalArgs_plain (Calls.spliced_cons (wpAny_mono (h env A m g σ s _ R F S W) (fun v s₁ q => ?_) fun _ _ f => f)))
  obtain ⟨r₁, g₁, σ₁, go₁, sx₁, rel₁, b, hb, W₁⟩ := q
  refine Calls.spliced_cons (load_blt G₀ (F.go S go₁) go₁.st hy hdy hvy (Calls.spliced_nil ?_))
  exact EndE.bind go₁ sx₁ (isi_sound go₁.st hT rel₁ hb W₁)

theorem VRel.out {g : G} {h : Heap} : ∀ {v : V} {w : Value}, VRel K g h v w → handedOut w = pure w
  | .none, _, q => by cases q; rfl
  | .bool _, _, q => by cases q; rfl
  | .int _, _, ⟨_, q⟩ => by cases q; rfl
  | .str _, _, ⟨_, _, _, q⟩ => by cases q; rfl
  | .ref _, _, ⟨_, _, q⟩ => by cases q; rfl
  | .tup _, _, ⟨_, _, _, q, _⟩ => by cases q; rfl
  | .inst _, _, ⟨_, _, _, _, q, _⟩ => by cases q; rfl
  | .exc _, _, ⟨_, _, q, _⟩ => by cases q; rfl
theorem se_hall (G₀ : Gr K pg) {x : Str} {p pos : Pos} {es : List Expr} {as : List E} (hx : cx.names.lookup x = some .globalImplicit) (hd : (x == ("__debug__" : Str)) = false) (hh : x = pg.hall) (h0 : x ≠ "") (h : SEs K n cx es as)
    (hst : ∀ e ∈ es, isStar e = false) (hne : es ≠ []) : SE K n cx (.Call (.Name x p) es [] pos) (.hall as) := fun env A m g σ s Q R F S W => by
  obtain ⟨hg, hf⟩ := G₀.hall x hh h0
  refine wpAny_Call_ofName (load_glob G₀ F S hx hd hg ?_)
  obtain ⟨N, mN, X⟩ := G₀.cls (hh ▸ h0)
  cases es with
  | nil => exact absurd rfl hne
  | cons e es =>
    refine PyProof.Rows.callWith_cls (h₀ := K.hB) X (wpAny_mono (h env A m g σ s pos _ R F S W) (fun vs s₁ q => ?_) fun _ _ f => f) (star_cons' (hst e (.head _))) (any_back fun e he => hst e (.tail _ he))
    obtain ⟨rs, g₁, σ₁, go₁, sx₁, rel₁, _, hl, W₁⟩ := q
    refine ⟨go₁.st.base, G₀.make (hh ▸ h0) A s₁ vs _ _ (by have := R.depth; lia) go₁.st.base (by refine rwE (Eq.symm (rel₁.length)) ?_; exact hl) fun b d mA h' tk hb hd' I hf hk => EndE.trans go₁ sx₁ ?_⟩
    have go : Go K g₁ s₁.heap _ σ₁ h' := Go.imms go₁.st (fun c => c = b ∨ c = d) (fun c e => by rcases e with rfl | rfl <;> assumption) (fun c e => by rcases e with rfl | rfl; exact let ⟨o, q, _⟩ := I.obj; ⟨o, q⟩; exact let ⟨o, _, _, q, _⟩ := I.ns; ⟨o, q⟩) hk
    exact ⟨.inst rs, _, σ₁, go, ⟨rfl, rfl⟩, ⟨b, d, mA, vs, rfl, .inr (.inl rfl), .inr (.inr rfl), I, hf, go.rels go₁.st rel₁⟩, W₁⟩

theorem se_attr (G₀ : Gr K pg) {v : Expr} {x : Str} {pos : Pos} {a : E} {k : Nat} (h : SE K n cx v a) (hb : plainBase v = true) (hk : K.fields[k]? = some x) : SE K n cx (.Attribute v x pos) (.attr a k) := fun env A m g σ s Q R F S W => by
  have he : eval (.Attribute v x pos) env = (do
      let o ← eval v env
      standAt pos.atName
      let r ← holding [o] (getAttr o x true)
      letTemporaryGo v o r
      pure r) := by
    show (do
      let o ← attributeBase v x env (eval v env)
      standAt pos.atName
      let r ← holding [o] (getAttr o x true)
      letTemporaryGo v o r
      pure r) = _
    (refine rwE (base_eq hb) ?_; with_reducible rfl)
  refine PyProof.Rows.Attribute_any_ (wpAny_mono (h env A m g σ s _ R F S W) (fun o s₁ q => ?_) fun _ _ f => f) he
  obtain ⟨r₁, g₁, σ₁, go₁, sx₁, rel₁, W₁⟩ := q
  cases r₁ <;> try exact False.elim W₁
  obtain ⟨u, hu, q⟩ := W₁
  obtain ⟨b, d, mA, vs, rfl, ib, id, I, hf, rr⟩ := rel₁
  obtain ⟨w, hw, rw'⟩ := rr.get hu
  exact G₀.attr A s₁ _ _ b d mA vs k x w go₁.st.base I hf hk hw rw'.out fun tk => EndE.trans go₁ sx₁ (end_same go₁.st rw' q)

theorem sliceFrom_eq (items : Array Value) (k : Int) (h : 0 ≤ k) : slicePick items (some k) none none = (items.toList.drop k.toNat).toArray := by
  by_cases hk : k.toNat ≤ items.size
  · have := slicePick_from items k.toNat hk
    rwa [Int.toNat_of_nonneg h] at this
  · have e : sliceBounds (some k) none none items.size = sliceBounds (some (items.size : Int)) none none items.size := by
      simp only [sliceBounds, Option.getD_none]
      have h1 : ¬ (k < 0) := by lia
      have h2 : ¬ ((items.size : Int) < 0) := by lia
      simp only [h1, h2, if_false, show (1 : Int) > 0 by decide, if_true]
      congr 1
      have hle : (items.size : Int) ≤ k := by lia
      show max 0 (min k (items.size : Int)) = max 0 (min (items.size : Int) (items.size : Int))
      (refine rwE (Int.min_eq_right hle) ?_; (rewrite [Int.min_self]; with_reducible rfl))
    unfold slicePick
    refine rwE e ?_
    have := slicePick_from items items.size (Nat.le_refl _)
    unfold slicePick at this
    (refine rwE this ?_; refine rwE (List.drop_of_length_le (by simp)) ?_; (refine rwE (List.drop_of_length_le (by simp; lia)) ?_; with_reducible rfl))
theorem sliceTo_eq (items : Array Value) (k : Int) (h : 0 ≤ k) : slicePick items none (some k) none = (items.toList.take k.toNat).toArray := by
  by_cases hk : k.toNat ≤ items.size
  · have := slicePick_upto items k.toNat hk
    rwa [Int.toNat_of_nonneg h] at this
  · have e : sliceBounds none (some k) none items.size = sliceBounds none (some (items.size : Int)) none items.size := by
      simp only [sliceBounds, Option.getD_none]
      have h1 : ¬ (k < 0) := by lia
      have h2 : ¬ ((items.size : Int) < 0) := by lia
      simp only [h1, h2, if_false, show (1 : Int) > 0 by decide, if_true]
      congr 1
      congr 1
      lia
    unfold slicePick
    refine rwE e ?_
    have := slicePick_upto items items.size (Nat.le_refl _)
    unfold slicePick at this
    (refine rwE this ?_; refine rwE (List.take_of_length_le (by simp)) ?_; (refine rwE (List.take_of_length_le (by simp; lia)) ?_; with_reducible rfl))

theorem push2 {h : Heap} {o o' : Obj} : ∀ b x, h.get? b = some x → ((h.push o).push o').get? b = some x := fun b x e => Heap.get?_push_of_some _ (Heap.get?_push_of_some _ e)

theorem se_from {v i : Expr} {a b : E} {p pos : Pos} (h : SE K n cx v a) (hi : SE K n cx i b) : SE K n cx (.Subscript v (.Slice (some i) none none p) pos) (.from_ a b) := fun env A m g σ s Q R F S W => by
  refine PyProof.Rows.Subscript_ (wpAny_mono (h env A m g σ s _ R F S W) (fun o s₁ q => ?_) fun _ _ f => f)
  obtain ⟨r₁, g₁, σ₁, go₁, sx₁, rel₁, W₁⟩ := q
  refine wpAny_Slice ?_
  show wpAny _ A (eval i env) _ _ s₁
  refine wpAny_mono (hi env A m g₁ σ₁ s₁ _ R (F.go S go₁) go₁.st W₁) (fun k s₂ q => ?_) fun _ _ f => f
  obtain ⟨r₂, g₂, σ₂, go₂, sx₂, rel₂, W₂⟩ := q
  have rel₁' := go₂.rel go₁.st rel₁
  refine wpAny_pure (wpAny_pure ?_)
  cases r₁ <;> cases r₂ <;> try exact False.elim W₂
  obtain ⟨xs, hx, hk, q⟩ := W₂
  obtain ⟨t, rfl⟩ := rel₂
  obtain ⟨b₁, vs, k₁, rfl, _, hl, rr, e, z⟩ := go₂.st.list rel₁' hx
  refine PyProof.Rows.tail_any (ops := _) (hl.push _).isList.typeIs slot_list_getitem.lookup (wpAny_getItem_list_slice (hl.push _).isList (Heap.IsSliceOf.new ..) (.int _ t) .none .none (by simp) ?_ z) rfl
  refine EndE.trans (go₁.trans go₂) (sx₁.trans sx₂) ?_
  refine end_list go₂.st (none_above (by rewrite [Heap.size_push]; exact Nat.le_succ _)) push2 (Heap.get?_push_size _ rfl) ?_ q
  refine rwE (sliceFrom_eq _ _ hk) ?_
  exact rr.drop _
theorem se_upto {v i : Expr} {a b : E} {p pos : Pos} (h : SE K n cx v a) (hi : SE K n cx i b) : SE K n cx (.Subscript v (.Slice none (some i) none p) pos) (.upto a b) := fun env A m g σ s Q R F S W => by
  refine PyProof.Rows.Subscript_ (wpAny_mono (h env A m g σ s _ R F S W) (fun o s₁ q => ?_) fun _ _ f => f)
  obtain ⟨r₁, g₁, σ₁, go₁, sx₁, rel₁, W₁⟩ := q
  refine wpAny_Slice (wpAny_pure ?_)
  show wpAny _ A (eval i env) _ _ s₁
  refine wpAny_mono (hi env A m g₁ σ₁ s₁ _ R (F.go S go₁) go₁.st W₁) (fun k s₂ q => ?_) fun _ _ f => f
  obtain ⟨r₂, g₂, σ₂, go₂, sx₂, rel₂, W₂⟩ := q
  have rel₁' := go₂.rel go₁.st rel₁
  refine wpAny_pure ?_
  cases r₁ <;> cases r₂ <;> try exact False.elim W₂
  obtain ⟨xs, hx, hk, q⟩ := W₂
  obtain ⟨t, rfl⟩ := rel₂
  obtain ⟨b₁, vs, k₁, rfl, _, hl, rr, e, z⟩ := go₂.st.list rel₁' hx
  refine PyProof.Rows.tail_any (ops := _) (hl.push _).isList.typeIs slot_list_getitem.lookup (wpAny_getItem_list_slice (hl.push _).isList (Heap.IsSliceOf.new ..) .none (.int _ t) .none (by simp) ?_ z) rfl
  refine EndE.trans (go₁.trans go₂) (sx₁.trans sx₂) ?_
  refine end_list go₂.st (none_above (by rewrite [Heap.size_push]; exact Nat.le_succ _)) push2 (Heap.get?_push_size _ rfl) ?_ q
  refine rwE (sliceTo_eq _ _ hk) ?_
  exact rr.take _
end
end Mini

set_option autoImplicit false
set_option linter.unusedVariables false
namespace Mini
open PySem

section
variable {K : Ctx} {pg : Pg} {n : Nat} {cx : Cx}

theorem upd_get {h : Heap} {b c : Addr} {f : Obj → Obj} (e : c ≠ b) : (h.update b f).get? c = h.get? c := Heap.get?_update_ne h c b f e

/-- a list of ours is changed -/
theorem end_put {g : G} {σ : H} {s : Shared} (S : St K g σ s.heap) {i : Nat} {b : Addr} {xs ys : List V} {vs ws : Array Value} {k : Nat} {Q : P} {u : V} {w : Value} {f : Array Value → Array Value} (hb : g.ρ[i]? = some b) (hx : σ[i]? = some xs) (h0 : i ≠ 0)
    (hl : IsL s.heap b vs k) (e : f vs = ws) (r : VRels K g s.heap ys ws.toList) (hz : ys.length ≤ lim) (ru : VRel K g s.heap u w) (q : Q u (σ.set i ys)) : EndE K g s Q w { s with heap := s.heap.update b (Obj.mapSeq f) } := by
  subst e
  have go : Go K g s.heap g (σ.set i ys) (s.heap.update b (Obj.mapSeq f)) := Go.put S hb hx h0 (fun c hc => upd_get hc) (hl.update f) r hz
  exact ⟨u, g, _, go, ⟨rfl, rfl⟩, go.rel S ru, q⟩

theorem few1 {e : Expr} {env : Env} {pos : Pos} (hst : isStar e = false) : ((backTo pos (starEach [e] env)).all (fun x => !x.1) && (backToKw pos (keywordEach [] env)).all (fun x => x.1.isSome)
      && decide (([e] : List Expr).length + ([] : List Keyword).length + (if ([] : List Keyword).isEmpty then 0 else 1) < 30)) = true := by
  refine rwE (star_cons hst) ?_; rfl

theorem meth_base {g : G} {σ : H} {s : Shared} (S : St K g σ s.heap) {a : Nat} {w : Value} (r : VRel K g s.heap (.ref a) w) : s.TypeIs w "list" ∧ ∀ a, w = .ref a → ∃ ob, s.heap.get? a = some ob ∧ ob.dict = none := by
  obtain ⟨b, hb, rfl⟩ := r
  have hl : a < σ.length := by refine rwE (Eq.symm (S.len)) ?_; exact (List.getElem?_eq_some_iff.mp hb).1
  obtain ⟨vs, k, ho, _⟩ := S.lists a b σ[a] hb (List.getElem?_eq_getElem hl)
  exact ⟨⟨_, ho, rfl⟩, fun c e => by cases e; exact ⟨_, ho, rfl⟩⟩

set_option genInjectivity false
set_option genSizeOfSpec false
inductive M1E (K : Ctx) (f : M1) (l : Addr) (R : Value → Shared → Prop) (w : Value) (s₂ : Shared) : Prop
  | mk (i : Nat) (g₂ : G) (σ₂ : H) (r₂ : V) (Q : P) (S : St K g₂ σ₂ s₂.heap) (rl : VRel K g₂ s₂.heap (.ref i) (.ref l)) (rel : VRel K g₂ s₂.heap r₂ w) (W : me1 f (.ref i) r₂ σ₂ Q) (hR : ∀ v s₃, EndE K g₂ s₂ Q v s₃ → R v s₃)
/-- a method of a list, of one argument -/
theorem se_meth1 {o e : Expr} {name : Str} {apos pos : Pos} {a b : E} {f : M1} {id : String} (ho : SE K n cx o a) (he : SE K n cx e b) (hb : plainBase o = true) (hst : isStar e = false) (hline : (apos.endLine == pos.line) = true) (slot : Slot "list" name id) (hty : typeOf (.builtin id) = pure (.type "method_descriptor"))
    (hm : ∀ (A : Around) (s : Shared) (x : Sem Value) (l : Addr) (R : Value → Shared → Prop), wpAny (model K.prog K.w) A x (M1E K f l R) noE s →
      wpAny (model K.prog K.w) A (callWith pos (.builtin id) [.ref l] [(false, x)] []) R noE s) :
    SE K n cx (.Call (.Attribute o name apos) [e] [] pos) (.m1 f a b) := fun env A m g σ s Q R F S W => by
  refine wpAny_Call_method (T := "list") (id := id) (base_eq hb) (few1 hst) hline PySem.F.plainAttrs_list slot hty (wpAny_mono (ho env A m g σ s _ R F S W) (fun v s₁ q => ?_) fun _ _ f => f)
  obtain ⟨r₁, g₁, σ₁, go₁, sx₁, rel₁, hr, W₁⟩ := q
  cases r₁ <;> try exact hr.elim
  rename_i i
  obtain ⟨t1, t2⟩ := meth_base go₁.st rel₁
  refine ⟨t1, t2, ?_⟩
  refine rwE (star_cons hst) ?_
  obtain ⟨b₁, hb₁, rfl⟩ := _root_.id rel₁
  refine hm A s₁ _ b₁ _ (wpAny_mono (he env A m g₁ σ₁ s₁ _ R (F.go S go₁) go₁.st W₁) (fun w s₂ q => ?_) fun _ _ f => f)
  obtain ⟨r₂, g₂, σ₂, go₂, sx₂, rel₂, W₂⟩ := q
  exact ⟨i, g₂, σ₂, r₂, Q, go₂.st, go₂.rel go₁.st rel₁, rel₂, W₂, fun v s₃ q => EndE.trans (go₁.trans go₂) (sx₁.trans sx₂) q⟩

theorem se_append {o e : Expr} {apos pos : Pos} {a b : E} (ho : SE K n cx o a) (he : SE K n cx e b) (hb : plainBase o = true) (hst : isStar e = false) (hline : (apos.endLine == pos.line) = true) :
    SE K n cx (.Call (.Attribute o "append" apos) [e] [] pos) (.m1 .append a b) := by
  refine se_meth1 ho he hb hst hline PySem.F.slot_list_append PySem.F.type_list_append fun A s x l R h => P.append_list (wpAny_mono h (fun w s₂ q => ?_) fun _ _ f => f)
  obtain ⟨i, g₂, σ₂, r₂, Q, S₂, rl, rel₂, ⟨xs, h0, hx, hz, q⟩, hR⟩ := q
  obtain ⟨b₂, vs, k, e1, hb₂, hl, rr, e, z⟩ := S₂.list rl hx
  cases e1
  exact ⟨vs, k, z, hl, hR _ _ (end_put (u := .none) S₂ hb₂ hx h0 hl rfl (by refine rwE Array.toList_push ?_; exact rr.append ⟨rel₂, trivial⟩) (by simp; assumption) rfl q)⟩

theorem se_pop {o e : Expr} {apos pos : Pos} {a b : E} (ho : SE K n cx o a) (he : SE K n cx e b) (hb : plainBase o = true) (hst : isStar e = false) (hline : (apos.endLine == pos.line) = true) :
    SE K n cx (.Call (.Attribute o "pop" apos) [e] [] pos) (.m1 .pop a b) := by
  refine se_meth1 ho he hb hst hline PySem.F.slot_list_pop PySem.F.type_list_pop fun A s x l R h => P.pop_at_list (wpAny_mono h (fun w s₂ q => ?_) fun _ _ f => f)
  obtain ⟨i, g₂, σ₂, r₂, Q, S₂, rl, rel₂, W, hR⟩ := q
  cases r₂ <;> try exact False.elim W
  rename_i j
  obtain ⟨xs, u, h0, hx, hj, hu, q⟩ := W
  obtain ⟨b₂, vs, k, e1, hb₂, hl, rr, e, z⟩ := S₂.list rl hx
  cases e1
  obtain ⟨t, rfl⟩ := rel₂
  obtain ⟨w, hw, rw'⟩ := rr.get hu
  have hlt : j.toNat < vs.size := by simpa using (List.getElem?_eq_some_iff.mp hw).1
  rw [sizeLine_is] at z
  have hk : seqIndex? j vs.size = some j.toNat := by
    unfold seqIndex?
    have e1 : ¬ j < 0 := by lia
    have e2 : (0 ≤ j && j < (vs.size : Int)) = true := by simp; lia
    simp only [e1, if_false, e2, if_true]
  refine ⟨vs, k, j, t, j.toNat, w, by refine rwE sizeLine_is ?_; exact z, rfl, hl, by simp [Builtin.List.listFitsIndex]; lia, hk, by simpa using hw, hR _ _ (end_put S₂ hb₂ hx h0 hl rfl ?_ ?_ rw' q)⟩
  · have : (vs.eraseIdxIfInBounds j.toNat).toList = vs.toList.eraseIdx j.toNat := by
      (rewrite [Array.eraseIdxIfInBounds]; refine rwE (dif_pos hlt) ?_; (refine rwE Array.toList_eraseIdx ?_; with_reducible rfl))
    refine rwE this ?_
    exact rr.eraseIdx _
  · have := S₂.small xs (List.mem_of_getElem? hx)
    have h2 := List.length_eraseIdx_le xs j.toNat
    exact Nat.le_trans (by assumption) (by assumption)

theorem ints_rel {g : G} {h : Heap} : ∀ {is : List Int} {vs : List Value}, VRels K g h (is.map V.int) vs → ∀ v ∈ vs, ∃ i t, v = .int i t
  | [], [], _, v, hv => nomatch hv
  | i :: is, w :: vs, r, v, hv => by
    rcases List.mem_cons.mp hv with rfl | hv
    · obtain ⟨t, e⟩ := r.1; exact ⟨i, t, e⟩
    · exact ints_rel (is := is) r.2 v hv
  | [], _ :: _, r, _, _ => r.elim
  | _ :: _, [], r, _, _ => r.elim
noncomputable def isInt (i : Int) : Value → Bool
  | .int j _ => j == i
  | _ => false
theorem ints_count {g : G} {h : Heap} (j : Int) : ∀ {is : List Int} {vs : List Value}, VRels K g h (is.map V.int) vs → vs.countP (isInt j) = is.count j
  | [], [], _ => rfl
  | i :: is, w :: vs, r => by
    obtain ⟨t, rfl⟩ := r.1
    (refine rwE List.countP_cons ?_; refine rwE List.count_cons ?_; refine rwE (ints_count j (is := is) r.2) ?_)
    rfl
  | [], _ :: _, r => r.elim
  | _ :: _, [], r => r.elim
theorem ints_get {g : G} {h : Heap} {is : List Int} {vs : List Value} (r : VRels K g h (is.map V.int) vs) {k : Nat} {v : Value} (hv : vs[k]? = some v) : ∃ i t, is[k]? = some i ∧ v = .int i t := by
  have hl := r.length
  have hk := (List.getElem?_eq_some_iff.mp hv).1
  simp at hl
  have hk' : k < is.length := by lia
  obtain ⟨w, hw, rw'⟩ := r.get (i := k) (v := .int is[k]) (by simp [hk'])
  rw [hv] at hw; cases hw
  obtain ⟨t, e⟩ := rw'
  exact ⟨is[k], t, by simp [hk'], e⟩

noncomputable def isBool (b : Bool) : Value → Bool
  | .bool j => j == b
  | _ => false
theorem se_count {o e : Expr} {apos pos : Pos} {a b : E} (ho : SE K n cx o a) (he : SE K n cx e b) (hb : plainBase o = true) (hst : isStar e = false) (hline : (apos.endLine == pos.line) = true) :
    SE K n cx (.Call (.Attribute o "count" apos) [e] [] pos) (.m1 .count a b) := by
  refine se_meth1 ho he hb hst hline PySem.F.slot_list_count PySem.F.type_list_count fun A s x l R h => P.count_list (wpAny_mono h (fun w s₂ q => ?_) fun _ _ f => f)
  obtain ⟨i, g₂, σ₂, r₂, Q, S₂, rl, rel₂, W, hR⟩ := q
  cases r₂ <;> try exact False.elim W
  · rename_i j
    obtain ⟨xs, is, hx, rfl, q⟩ := W
    obtain ⟨b₂, vs, k, e1, hb₂, hl, rr, e, z⟩ := S₂.list rl hx
    cases e1
    obtain ⟨t, rfl⟩ := rel₂
    refine ⟨vs, k, isInt j, hl, fun y hy => ?_, hR _ _ ?_⟩
    · obtain ⟨i, u, rfl⟩ := ints_rel rr y (by simpa using hy)
      exact MeetsSeq.EqGives.int i j u t
    · refine rwE (ints_count j rr) ?_
      exact end_same S₂ (vint ..) q
theorem se_index {o e : Expr} {apos pos : Pos} {a b : E} (ho : SE K n cx o a) (he : SE K n cx e b) (hb : plainBase o = true) (hst : isStar e = false) (hline : (apos.endLine == pos.line) = true) :
    SE K n cx (.Call (.Attribute o "index" apos) [e] [] pos) (.m1 .index a b) := by
  refine se_meth1 ho he hb hst hline PySem.F.slot_list_index PySem.F.type_list_index fun A s x l R h => P.index_list (wpAny_mono h (fun w s₂ q => ?_) fun _ _ f => f)
  obtain ⟨i, g₂, σ₂, r₂, Q, S₂, rl, rel₂, W, hR⟩ := q
  cases r₂ <;> try exact False.elim W
  rename_i j
  obtain ⟨xs, is, hx, rfl, hm, q⟩ := W
  obtain ⟨b₂, vs, k, e1, hb₂, hl, rr, e, z⟩ := S₂.list rl hx
  cases e1
  obtain ⟨t, rfl⟩ := rel₂
  have hlt := List.idxOf_lt_length_of_mem hm
  have hlt' : is.idxOf j < vs.size := by simpa [e] using hlt
  rw [sizeLine_is] at z
  refine ⟨vs, k, isInt j, is.idxOf j, hlt', hl, fun y hy => ?_, by lia, ?_, fun m hm' hlt2 => ?_, hR _ _ (end_same S₂ (vint ..) q)⟩
  · obtain ⟨i, u, rfl⟩ := ints_rel rr y (by simpa using hy)
    exact MeetsSeq.EqGives.int i j u t
  · obtain ⟨i, u, h1, h2⟩ := ints_get rr (k := is.idxOf j) (v := vs[is.idxOf j]) (by simp [hlt'])
    refine rwE h2 ?_
    have : is[is.idxOf j]? = some j := by refine rwE (List.getElem?_eq_getElem hlt) ?_; simp
    rw [this] at h1; cases h1
    simp [isInt]
  · obtain ⟨i, u, h1, h2⟩ := ints_get rr (k := m) (v := vs[m]) (by simp [hm'])
    refine rwE h2 ?_
    have hne := List.not_of_lt_findIdx (xs := is) (p := (· == j)) (i := m) (by simpa [List.idxOf] using hlt2)
    obtain ⟨hlm, hem⟩ := List.getElem?_eq_some_iff.mp h1
    simp [isInt]
    refine rwE (Eq.symm (hem)) ?_
    simpa using hne


theorem se_meth0 {o : Expr} {name : Str} {apos pos : Pos} {a : E} {f : M0} {id : String} (ho : SE K n cx o a) (hb : plainBase o = true) (hline : (apos.endLine == pos.line) = true) (slot : Slot "list" name id) (hty : typeOf (.builtin id) = pure (.type "method_descriptor"))
    (hm : ∀ (A : Around) (s : Shared) (i : Nat) (l : Addr) (g : G) (σ : H) (Q : P), St K g σ s.heap → VRel K g s.heap (.ref i) (.ref l) → me0 f (.ref i) σ Q → wpAny (model K.prog K.w) A (callWith pos (.builtin id) [.ref l] [] []) (EndE K g s Q) noE s) :
    SE K n cx (.Call (.Attribute o name apos) [] [] pos) (.m0 f a) := fun env A m g σ s Q R F S W => by
  refine wpAny_Call_method (T := "list") (id := id) (base_eq hb) rfl hline PySem.F.plainAttrs_list slot hty (wpAny_mono (ho env A m g σ s _ R F S W) (fun v s₁ q => ?_) fun _ _ f => f)
  obtain ⟨r₁, g₁, σ₁, go₁, sx₁, rel₁, W₁⟩ := q
  cases r₁ <;> try (cases f <;> exact W₁.elim)
  rename_i i
  obtain ⟨t1, t2⟩ := meth_base go₁.st rel₁
  refine ⟨t1, t2, ?_⟩
  obtain ⟨b₁, hb₁, rfl⟩ := _root_.id rel₁
  exact EndE.bind go₁ sx₁ (hm A s₁ i b₁ g₁ σ₁ Q go₁.st rel₁ W₁)
theorem se_reverse {o : Expr} {apos pos : Pos} {a : E} (ho : SE K n cx o a) (hb : plainBase o = true) (hline : (apos.endLine == pos.line) = true) : SE K n cx (.Call (.Attribute o "reverse" apos) [] [] pos) (.m0 .reverse a) := by
  refine se_meth0 ho hb hline PySem.F.slot_list_reverse PySem.F.type_list_reverse fun A s i l g σ Q S rl W => ?_
  obtain ⟨xs, h0, hx, q⟩ := W
  obtain ⟨b₂, vs, k, e1, hb₂, hl, rr, e, z⟩ := S.list rl hx
  cases e1
  refine P.reverse_list hl (end_put (u := .none) S hb₂ hx h0 hl rfl (by refine rwE Array.toList_reverse ?_; exact rr.reverse) ?_ rfl q) z
  refine rwE List.length_reverse ?_; exact S.small xs (List.mem_of_getElem? hx)
end
end Mini

set_option autoImplicit false
set_option linter.unusedVariables false
namespace Mini
open PySem

/-- an object that is no frame's and no cell -/
noncomputable def Apart (o : Obj) : Prop := (∀ es ep, o.data ≠ .dict es ep) ∧ ∀ v, o.data ≠ .cell v

set_option genInjectivity false
set_option genSizeOfSpec false
inductive Pv (K : Ctx) (g : G) (h : Heap) (b : Addr) : Prop
  | mk (n1 : ¬ g.own b) (n2 : K.hB.get? b = none) (o : Obj) (e : h.get? b = some o) (ap : Apart o)
theorem Pv.n1 {K : Ctx} {g : G} {h : Heap} {b : Addr} (p : Pv K g h b) : ¬ g.own b := by cases p; assumption
inductive Nx (K : Ctx) (X : Addr → Prop) (g : G) (s : Shared) (σ : H) (v : V) (w : Value) (J : G → Heap → Prop) (s' : Shared) : Prop
  | mk (g' : G) (go : GoX K X g s.heap g' σ s'.heap) (sx : Sx s s') (rel : VRel K g' s'.heap v w) (j : J g' s'.heap)
inductive NxS (K : Ctx) (X : Addr → Prop) (g : G) (s : Shared) (σ : H) (v : V) (J : G → Heap → Prop) (r : Option Value) (s' : Shared) : Prop
  | mk (w : Value) (g' : G) (hr : r = some w) (go : GoX K X g s.heap g' σ s'.heap) (sx : Sx s s') (rel : VRel K g' s'.heap v w) (j : J g' s'.heap)
inductive Sto (K : Ctx) (X : Addr → Prop) (g : G) (s : Shared) (σ : H) (r : Option Value) (s' : Shared) : Prop
  | mk (hr : r = none) (st : St K g σ s'.heap) (hk : ∀ b o, s.heap.get? b = some o → ¬ X b → s'.heap.get? b = some o) (sx : Sx s s')
structure Itr (K : Ctx) (A : Around) (tgt : Expr) (it : Value) (X : Addr → Prop) (vs : List V) (ok : H → Prop) (J : Nat → G → Heap → Prop) : Prop where
  priv : ∀ i g h, J i g h → ∀ b, X b → Pv K g h b
  stay : ∀ i (Y : Addr → Prop) g σ h g' σ' h', J i g h → St K g σ h → GoX K Y g h g' σ' h' → (∀ b, Y b → ¬ X b) → J i g' h'
  next : ∀ i g σ (s : Shared) v, J i g s.heap → St K g σ s.heap → ok σ → vs[i]? = some v →
    wpAny (model K.prog K.w) A (pyNext it) (fun r s' => ∃ w, r = some w ∧ wpAny (model K.prog K.w) A (letOwnedTupleGo tgt it w) (fun _ s'' => Nx K X g s σ v w (J (i + 1)) s'') noE s') noE s
  nextN : (∃ x p, tgt = .Name x p) → ∀ i g σ (s : Shared) v, J i g s.heap → St K g σ s.heap → ok σ → vs[i]? = some v →
    wpAny (model K.prog K.w) A (pyNext it) (NxS K X g s σ v (J (i + 1))) noE s
  self : ∀ i g (s : Shared) (Q : Value → Shared → Prop), J i g s.heap → Q it s → wpAny (model K.prog K.w) A (pyIter it) Q noE s
  stop : ∀ i g σ (s : Shared), J i g s.heap → St K g σ s.heap → ok σ → vs[i]? = none →
    wpAny (model K.prog K.w) A (pyNext it) (Sto K X g s σ) noE s
inductive JL (K : Ctx) (I b : Addr) (a : Nat) (i : Nat) (g : G) (h : Heap) : Prop
  | mk (hi : h.IsListIter I b i) (h2 : ¬ g.own I) (h3 : K.hB.get? I = none) (h4 : g.ρ[a]? = some b)
inductive JR (K : Ctx) (I : Addr) (N : Int) (i : Nat) (g : G) (h : Heap) : Prop
  | mk (hi : IsRangeIter h I i (N - i) 1) (h2 : ¬ g.own I) (h3 : K.hB.get? I = none)
inductive JE (K : Ctx) (e I b : Addr) (a : Nat) (i : Nat) (g : G) (h : Heap) : Prop
  | mk (old : Value) (he : IsEnum h e I i old) (hi : h.IsListIter I b i) (h2 : ¬ g.own I) (h3 : K.hB.get? I = none) (h4 : ¬ g.own e) (h5 : K.hB.get? e = none) (h6 : g.ρ[a]? = some b)
theorem nd_of {o : Obj} {vs : Array Value} (h : o.data = .fields vs) : ¬ isD o := fun ⟨_, _, z⟩ => by rw [h] at z; cases z
theorem no_d {h : Heap} {c : Addr} {o₀ o' : Obj} (he : h.get? c = some o₀) (nd : ¬ isD o₀) : ∀ o, h.get? c = some o → isD o → isD o' := fun o e d => by rw [he] at e; cases e; exact absurd d nd
theorem or2 {P : Addr → Prop} {a b : Addr} (h1 : P a) (h2 : P b) : ∀ x, (x = a ∨ x = b) → P x := by
  rintro x (rfl | rfl)
  · exact h1
  · exact h2
section
variable {K : Ctx} {pg : Pg} {n : Nat} {cx : Cx} {A : Around}

theorem GoX.step {X Y : Addr → Prop} {g g₁ g₂ : G} {σ₁ σ₂ : H} {h h₁ h₂ : Heap} (q : GoX K Y g h g₁ σ₁ h₁) (r : GoX K X g₁ h₁ g₂ σ₂ h₂) (hx : ∀ b, X b → Y b ∨ h.get? b = none) : GoX K Y g h g₂ σ₂ h₂ where
  st := r.st
  pre := q.pre.trans r.pre
  imm := fun b i => r.imm b (q.imm b i)
  new := fun b o => by
    rcases r.new b o with x | x
    · exact q.new b x
    · cases e : h.get? b with
      | none => exact .inr rfl
      | some ob => obtain ⟨o', e'⟩ := q.there b ob e; rw [e'] at x; cases x
  keep := fun b n nx o e => by
    refine (q.keep b n nx).trans (r.keep b (q.out e n) fun z => ?_) o e
    rcases hx b z with y | y
    · exact nx y
    · rw [y] at e; cases e
  there := fun b o e => by
    obtain ⟨o', e'⟩ := q.there b o e
    exact r.there b o' e'
  ex := fun b o i e => r.ex b o (q.imm b i) (q.ex b o i e)
  dic := fun b o n e d => by
    obtain ⟨o', e', d'⟩ := q.dic b o n e d
    exact r.dic b o' (q.out e n) e' d'
theorem GoX.halt {X Y : Addr → Prop} {g g₁ : G} {σ₁ : H} {h h₁ h₂ : Heap} (q : GoX K Y g h g₁ σ₁ h₁) (S : St K g₁ σ₁ h₂) (hk : ∀ b o, h₁.get? b = some o → ¬ X b → h₂.get? b = some o) (hx : ∀ b, X b → h.get? b = none) : GoX K Y g h g₁ σ₁ h₂ where
  st := S
  pre := q.pre
  imm := q.imm
  new := q.new
  keep := fun b n nx o e => by
    obtain ⟨o', e', sm⟩ := q.keep b n nx o e
    exact ⟨o', hk b o' e' (fun z => by rw [hx b z] at e; cases e), sm⟩
  ex := fun b o i e => hk b o (q.ex b o i e) fun z => by rw [hx b z] at e; cases e
  dic := fun b o n e d => by
    obtain ⟨o', e', d'⟩ := q.dic b o n e d
    exact ⟨o', hk b o' e' (fun z => by rw [hx b z] at e; cases e), d'⟩
  there := fun b o e => by
    obtain ⟨o', e'⟩ := q.there b o e
    exact ⟨o', hk b o' e' fun z => by rw [hx b z] at e; cases e⟩

/-- a walk over a list of ours -/
theorem itr_list {tgt : Expr} {I b : Addr} {a : Nat} {xs : List V} (hh : A.handled = none) (ht : ∀ it w, letOwnedTupleGo tgt it w = pure ()) :
    Itr K A tgt (.ref I) (· = I) xs (fun σ => σ[a]? = some xs) (JL K I b a) where
  priv := by
    rintro i g h ⟨⟨o, ho, _, hd⟩, h2, h3, _⟩ c e
    subst e
    exact ⟨h2, h3, o, ho, by (rewrite [Apart]; refine rwE hd ?_); exact ⟨fun _ _ e => (nomatch e), fun _ e => (nomatch e)⟩⟩
  stay := by
    rintro i Y g σ h g' σ' h' ⟨⟨o, ho, hc, hd⟩, h2, h3, h4⟩ S q hY
    refine ⟨⟨o, (q.keep I (fun z => h2 (.inl z)) fun z => hY I z rfl).nd ho (nd_of hd), hc, hd⟩, q.priv ho h2, h3, pre_get q.pre h4⟩
  next := by
    rintro i g σ s v ⟨hi, h2, h3, h4⟩ S ok hv
    obtain ⟨b₁, vs, k, e1, hb₁, hl, rr, e, z⟩ := S.list (w := .ref b) ⟨b, h4, rfl⟩ ok
    cases e1
    obtain ⟨w, hw, rw'⟩ := rr.get hv
    refine wpAny_pyNext_list_item hi hl.isList (by simpa using hw) fun h' hi' hs' => ⟨w, rfl, ?_⟩
    rewrite [ht]
    obtain ⟨o', ho', _⟩ := id hi'
    have go : GoX K (· = I) g s.heap g σ h' := GoX.sameBut S ⟨h2, h3⟩ ho' hs'.extBut (let ⟨o, ho, _, hd⟩ := hi; no_d ho (nd_of hd))
    exact wpAny_pure ⟨g, go, ⟨rfl, rfl⟩, go.rel S (fun c e => e ▸ h2) rw', hi', h2, h3, h4⟩
  nextN := by
    rintro _ i g σ s v ⟨hi, h2, h3, h4⟩ S ok hv
    obtain ⟨b₁, vs, k, e1, hb₁, hl, rr, e, z⟩ := S.list (w := .ref b) ⟨b, h4, rfl⟩ ok
    cases e1
    obtain ⟨w, hw, rw'⟩ := rr.get hv
    refine wpAny_pyNext_list_item hi hl.isList (by simpa using hw) fun h' hi' hs' => ?_
    obtain ⟨o', ho', _⟩ := id hi'
    have go : GoX K (· = I) g s.heap g σ h' := GoX.sameBut S ⟨h2, h3⟩ ho' hs'.extBut (let ⟨o, ho, _, hd⟩ := hi; no_d ho (nd_of hd))
    exact ⟨w, g, rfl, go, ⟨rfl, rfl⟩, go.rel S (fun c e => e ▸ h2) rw', hi', h2, h3, h4⟩
  self := by
    rintro i g s Q ⟨hi, _⟩ q
    exact wpAny_pyIter_listiter hi q
  stop := by
    rintro i g σ s ⟨hi, h2, h3, h4⟩ S ok hv
    obtain ⟨b₁, vs, k, e1, hb₁, hl, rr, e, z⟩ := S.list (w := .ref b) ⟨b, h4, rfl⟩ ok
    cases e1
    have hx : vs[i]? = none := by
      rw [List.getElem?_eq_none_iff] at hv
      rewrite [Array.getElem?_eq_none_iff]; lia
    refine wpAny_pyNext_list_end hh hi hl.isList hx fun h' he => ⟨rfl, ?_, fun c o e n => he c o n e, ⟨rfl, rfl⟩⟩
    exact S.change fun c o e z => he c o (by
      rintro rfl
      rcases z with z | ⟨o', z⟩
      · exact h2 z
      · rw [h3] at z; cases z) e

theorem itr_range {tgt : Expr} {I : Addr} {N : Int} (hh : A.handled = none) (ht : ∀ it w, letOwnedTupleGo tgt it w = pure ()) (h0 : 0 ≤ N) :
    Itr K A tgt (.ref I) (· = I) (rangeV N) (fun _ => True) (JR K I N) where
  priv := by
    rintro i g h ⟨ho, h2, h3⟩ c e
    subst e
    exact ⟨h2, h3, _, ho, ⟨fun _ _ e => (nomatch e), fun _ e => (nomatch e)⟩⟩
  stay := by
    rintro i Y g σ h g' σ' h' ⟨ho, h2, h3⟩ S q hY
    exact ⟨(q.keep I (fun z => h2 (.inl z)) fun z => hY I z rfl).nd ho (fun ⟨_, _, z⟩ => nomatch z), q.priv ho h2, h3⟩
  next := by
    rintro i g σ s v ⟨hi, h2, h3⟩ S ok hv
    have hv' : v = .int i ∧ (i : Int) < N := by
      simp only [rangeV, List.getElem?_map, Option.map_eq_some_iff] at hv
      obtain ⟨j, hj, rfl⟩ := hv
      obtain ⟨hl, he⟩ := List.getElem?_eq_some_iff.mp hj
      simp at hl he
      subst he
      exact ⟨rfl, by assumption⟩
    obtain ⟨rfl, hlt⟩ := hv'
    refine wpAny_pyNext_range_item hi (by lia) fun h' hi' hs' => ⟨_, rfl, ?_⟩
    rewrite [ht]
    have go : GoX K (· = I) g s.heap g σ h' := GoX.sameBut S ⟨h2, h3⟩ hi' hs'.extBut (no_d hi fun ⟨_, _, z⟩ => nomatch z)
    refine wpAny_pure ⟨g, go, ⟨rfl, rfl⟩, ⟨_, rfl⟩, ?_, h2, h3⟩
    have e1 : (((i + 1 : Nat) : Int)) = (i : Int) + 1 := by lia
    (refine rwE e1 ?_; refine rwE (show N - ((i : Int) + 1) = N - i - 1 by lia) ?_)
    exact hi'
  nextN := by
    rintro _ i g σ s v ⟨hi, h2, h3⟩ S ok hv
    have hv' : v = .int i ∧ (i : Int) < N := by
      simp only [rangeV, List.getElem?_map, Option.map_eq_some_iff] at hv
      obtain ⟨j, hj, rfl⟩ := hv
      obtain ⟨hl, he⟩ := List.getElem?_eq_some_iff.mp hj
      simp at hl he
      subst he
      exact ⟨rfl, by assumption⟩
    obtain ⟨rfl, hlt⟩ := hv'
    refine wpAny_pyNext_range_item hi (by lia) fun h' hi' hs' => ?_
    have go : GoX K (· = I) g s.heap g σ h' := GoX.sameBut S ⟨h2, h3⟩ hi' hs'.extBut (no_d hi fun ⟨_, _, z⟩ => nomatch z)
    refine ⟨_, g, rfl, go, ⟨rfl, rfl⟩, ⟨_, rfl⟩, ?_, h2, h3⟩
    have e1 : (((i + 1 : Nat) : Int)) = (i : Int) + 1 := by lia
    (refine rwE e1 ?_; refine rwE (show N - ((i : Int) + 1) = N - i - 1 by lia) ?_)
    exact hi'
  self := by
    rintro i g s Q ⟨hi, _⟩ q
    exact wpAny_pyIter_rangeiter hi q
  stop := by
    rintro i g σ s ⟨hi, h2, h3⟩ S ok hv
    have hlt : N ≤ i := by
      simp [rangeV] at hv
      assumption
    refine wpAny_pyNext_range_end hh hi (by lia) fun h' he => ⟨rfl, ?_, fun c o e n => he c o n e, ⟨rfl, rfl⟩⟩
    exact S.change fun c o e z => he c o (by
      rintro rfl
      rcases z with z | ⟨o', z⟩
      · exact h2 z
      · rw [h3] at z; cases z) e
theorem GoX.gain {X : Addr → Prop} {g g₁ : G} {σ₁ : H} {h h₁ : Heap} (q : GoX K X g h g₁ σ₁ h₁) (N : Addr → Prop) (hN : ∀ b, N b → h.get? b = none ∧ b ∉ g₁.ρ ∧ K.hB.get? b = none ∧ ∃ o, h₁.get? b = some o) : GoX K X g h ⟨g₁.ρ, fun b => g₁.ι b ∨ N b⟩ σ₁ h₁ := by
  have mono : ∀ {xs : List V} {ws : List Value}, VRels K g₁ h₁ xs ws → VRels K ⟨g₁.ρ, fun b => g₁.ι b ∨ N b⟩ h₁ xs ws := fun {xs ws} r => VRels.mono (g := g₁) (g' := ⟨g₁.ρ, fun b => g₁.ι b ∨ N b⟩) (fun _ _ e => e) (fun _ i => .inl i) (fun b o _ e => e) _ _ r
  refine ⟨⟨q.st.base, q.st.len, fun i a ys h1 h2 => ?_, q.st.nodup, q.st.small, q.st.fresh, fun a i => ?_⟩, q.pre, fun b i => .inl (q.imm b i), fun a x => ?_, q.keep, q.there, q.ex, q.dic⟩
  · obtain ⟨vs, n, e', r'⟩ := q.st.lists i a ys h1 h2
    exact ⟨vs, n, e', mono r'⟩
  · rcases i with i | i
    · exact q.st.imm a i
    · obtain ⟨_, h2, h3, h4⟩ := hN a i
      exact ⟨h3, h2, h4⟩
  · rcases x with x | x
    · exact q.new a (.inl x)
    · rcases x with x | x
      · exact q.new a (.inr x)
      · exact .inr (hN a x).1
theorem fresh_not {g : G} {σ : H} {h : Heap} (S : St K g σ h) {b : Addr} (e : h.get? b = none) : ¬ g.own b ∧ K.hB.get? b = none := by
  refine ⟨fun z => ?_, ?_⟩
  · rcases z with z | z
    · obtain ⟨o, e'⟩ := S.there (g := g) (List.prefix_refl _) z
      rw [e] at e'; cases e'
    · obtain ⟨_, _, o, e'⟩ := S.imm b z
      rw [e] at e'; cases e'
  · cases z : K.hB.get? b with
    | none => rfl
    | some o => rw [S.base b o z] at e; cases e

theorem enumV_get : ∀ (xs : List V) (k i : Nat) (v : V), (enumV k xs)[i]? = some v → ∃ x, xs[i]? = some x ∧ v = .tup [.int ((k + i : Nat) : Int), x]
  | [], k, i, v, h => by simp [enumV] at h
  | x :: xs, k, 0, v, h => by simp [enumV] at h; exact ⟨x, rfl, by simpa using h.symm⟩
  | x :: xs, k, i + 1, v, h => by
    obtain ⟨y, h1, h2⟩ := enumV_get xs (k + 1) i v (by simpa [enumV] using h)
    exact ⟨y, by simpa using h1, by (refine rwE h2 ?_; (refine rwE (show k + 1 + i = k + (i + 1) by lia) ?_; with_reducible rfl))⟩
theorem enumV_len : ∀ (xs : List V) (k : Nat), (enumV k xs).length = xs.length
  | [], _ => rfl
  | _ :: xs, k => congrArg (· + 1) (enumV_len xs (k + 1))

theorem itr_enum {elts : List Expr} {x1 : Nat} {pos : Pos} {e I b : Addr} {a : Nat} {xs : List V} (hh : A.handled = none) (hne : e ≠ I) :
    Itr K A (.Tuple elts x1 pos) (.ref e) (fun c => c = e ∨ c = I) (enumV 0 xs) (fun σ => σ[a]? = some xs) (JE K e I b a) where
  priv := by
    rintro i g h ⟨old, he, ⟨o, ho, _, hd⟩, h2, h3, h4, h5, _⟩ c ec
    exact or2 (P := Pv K g h) ⟨h4, h5, _, he, ⟨fun _ _ e => (nomatch e), fun _ e => (nomatch e)⟩⟩ ⟨h2, h3, o, ho, by (rewrite [Apart]; refine rwE hd ?_); exact ⟨fun _ _ e => (nomatch e), fun _ e => (nomatch e)⟩⟩ c ec
  stay := fun i Y g σ h g' σ' h' ⟨old, he, ⟨o, ho, hc, hd⟩, h2, h3, h4, h5, h6⟩ S q hY =>
    ⟨old, (q.keep e (fun z => h4 (.inl z)) fun z => hY e z (.inl rfl)).nd he (fun ⟨_, _, z⟩ => nomatch z), ⟨o, (q.keep I (fun z => h2 (.inl z)) fun z => hY I z (.inr rfl)).nd ho (nd_of hd), hc, hd⟩, q.priv ho h2, h3, q.priv he h4, h5, pre_get q.pre h6⟩
  next := by
    rintro i g σ s v ⟨old, he, hi, h2, h3, h4, h5, h6⟩ S ok hv
    obtain ⟨x, hx, rfl⟩ := enumV_get xs 0 i v hv
    obtain ⟨b₁, vs, k, e1, hb₁, hl, rr, _, z⟩ := S.list (w := .ref b) ⟨b, h6, rfl⟩ ok
    cases e1
    obtain ⟨w, hw, rw'⟩ := rr.get hx
    refine wpAny_pyNext_enum_item he hi hl.isList (by simpa using hw) hne fun h' heo hi' ht' hsz hk => ⟨_, rfl, wpAny_letOwnedTupleGo_enum heo fun h'' he'' hs'' => ?_⟩
    have nI : I ≠ e := Ne.symm hne
    have nn : s.heap.objs.size ≠ e := Nat.ne_of_gt (Heap.lt_size he)
    have hi'' : h''.IsListIter I b (i + 1) := hi'.extBut hs''.extBut nI
    obtain ⟨oI, hoI, _⟩ := id hi''
    have ht'' : h''.get? s.heap.objs.size = some { cls := .type "tuple", data := .seq #[.int i s.toks, w] } := (hs''.2 _ nn).trans ht'
    have go : GoX K (fun c => c = e ∨ c = I) g s.heap g σ h'' := GoX.of S (fun c o ec nc => by
        refine rwE (hs''.2 c fun z => nc (.inl z)) ?_
        exact hk c o (fun z => nc (.inl z)) (fun z => nc (.inr z)) ec)
      (or2 (P := fun c => ∃ o', h''.get? c = some o' ∧ ∀ o, s.heap.get? c = some o → isD o → isD o') ⟨_, he'', no_d he fun ⟨_, _, z⟩ => nomatch z⟩ ⟨_, hoI, let ⟨o, ho, _, hd⟩ := hi; no_d ho (nd_of hd)⟩) (or2 (P := fun c => ¬ g.own c ∧ K.hB.get? c = none) ⟨h4, h5⟩ ⟨h2, h3⟩)
    have hxp : ∀ c, (c = e ∨ c = I) → ¬ g.own c := or2 (P := fun c => ¬ g.own c) h4 h2
    have fn := fresh_not S (none_at_size s.heap)
    have go' := go.gain (fun c => c = s.heap.objs.size) fun c ec => by
      subst ec
      exact ⟨none_at_size _, fun z => fn.1 (.inl z), fn.2, _, ht''⟩
    refine ⟨_, go', ⟨rfl, rfl⟩, ⟨s.heap.objs.size, #[.int i s.toks, w], 0, rfl, .inr rfl, ht'', ?_⟩, w, ?_, hi'', ?_, h3, ?_, h5, h6⟩
    · refine ⟨⟨s.toks, by simp⟩, ?_, trivial⟩
      exact go'.rel S hxp rw'
    · have : (((i + 1 : Nat) : Int)) = (i : Int) + 1 := by lia
      refine rwE this ?_; exact he''
    · obtain ⟨o, ho, _⟩ := hi
      exact go'.priv ho h2
    · exact go'.priv he h4
  nextN := fun ⟨_, _, e⟩ => (nomatch e)
  self := by
    rintro i g s Q ⟨old, he, _⟩ q
    exact wpAny_pyIter_enum he q
  stop := by
    rintro i g σ s ⟨old, he, hi, h2, h3, h4, h5, h6⟩ S ok hv
    obtain ⟨b₁, vs, k, e1, hb₁, hl, rr, ez, z⟩ := S.list (w := .ref b) ⟨b, h6, rfl⟩ ok
    cases e1
    have hx : vs[i]? = none := by
      rw [List.getElem?_eq_none_iff, enumV_len] at hv
      rewrite [Array.getElem?_eq_none_iff]; lia
    refine wpAny_pyNext_enum_end hh he hi hl.isList hx fun h' hk => ⟨rfl, ?_, fun c o ec nc => hk c o (fun z => nc (.inr z)) ec, ⟨rfl, rfl⟩⟩
    exact S.change fun c o ec zc => hk c o (by
      rintro rfl
      rcases zc with z | ⟨o', z⟩
      · exact h2 z
      · rw [h3] at z; cases z) ec

end
end Mini

set_option autoImplicit false
set_option linter.unusedVariables false
namespace Mini
open PySem

noncomputable def m2 {α β γ : Type} (f : α → β → γ) (a : Option α) (b : Option β) : Option γ := a.bind fun x => b.map (f x)
theorem m2_some {α β γ : Type} {f : α → β → γ} {a : Option α} {b : Option β} {c : γ} (h : m2 f a b = some c) : ∃ x y, a = some x ∧ b = some y ∧ c = f x y := by
  cases a <;> cases b <;> first | cases h; done | exact ⟨_, _, rfl, rfl, (Option.some.inj h).symm⟩
noncomputable def cNames (cx : Cx) : List Expr → Option (List Nat)
  | [] => some []
  | e :: es => match e with
    | .Name x _ => m2 List.cons (slotOf cx x) (cNames cx es)
    | _ => none
noncomputable def two : Option (List Nat) → Option (List Nat)
  | some (a :: b :: r) => some (a :: b :: r)
  | _ => none
theorem two_some {o : Option (List Nat)} {ks : List Nat} (h : two o = some ks) : ∃ a b r, o = some (a :: b :: r) ∧ ks = a :: b :: r := by
  rcases o with _ | _ | ⟨a, _ | ⟨b, r⟩⟩
  · cases h
  · cases h
  · cases h
  · cases h; exact ⟨a, b, r, rfl, rfl⟩
noncomputable def cTgt (cx : Cx) : Expr → Option (List Nat)
  | .Name x _ => (slotOf cx x).map fun k => [k]
  | .Tuple es _ _ => two (cNames cx es)
  | _ => none
theorem no_l {l : List Nat} (h : (none : Option (List Nat)) = some l) : False := by cases h
theorem nm_of {cx : Cx} {e : Expr} {es : List Expr} {ks : List Nat} (h : cNames cx (e :: es) = some ks) : ∃ x p, e = .Name x p := by
  cases e with
  | Name x p => exact ⟨x, p, rfl⟩
  | _ => exact (no_l h).elim

set_option genInjectivity false
set_option genSizeOfSpec false
inductive EndN (K : Ctx) (env : Env) (cx : Cx) (g : G) (s : Shared) (N : M → H → Prop) (s' : Shared) : Prop
  | mk (m' : M) (g' : G) (σ' : H) (go : GoX K (fpOf env) g s.heap g' σ' s'.heap) (sx : Sx s s') (fr : Fr K env cx m' g' s'.heap) (n : N m' σ')
inductive EndR (K : Ctx) (env : Env) (g : G) (s : Shared) (Rt : P) (v : Value) (s' : Shared) : Prop
  | mk (r : V) (g' : G) (σ' : H) (go : GoX K (fpOf env) g s.heap g' σ' s'.heap) (sx : Sx s s') (rel : VRel K g' s'.heap r v) (q : Rt r σ')
noncomputable def EndS (K : Ctx) (env : Env) (cx : Cx) (g : G) (s : Shared) (N : M → H → Prop) (Rt : P) : Flow → Shared → Prop := fun f s' => match f with
  | .next => EndN K env cx g s N s'
  | .ret v => EndR K env g s Rt v s'
  | _ => False

section
variable {K : Ctx} {pg : Pg} {n : Nat} {cx : Cx} {A : Around}

theorem EndS.trans {env : Env} {g g₁ : G} {σ₁ : H} {s s₁ s' : Shared} {N : M → H → Prop} {Rt : P} {f : Flow} (p : GoX K (fpOf env) g s.heap g₁ σ₁ s₁.heap) (x : Sx s s₁) (q : EndS K env cx g₁ s₁ N Rt f s') : EndS K env cx g s N Rt f s' := by
  cases f with
  | next =>
    obtain ⟨m', g', σ', a, b, c, d⟩ := q
    exact ⟨m', g', σ', p.trans a, x.trans b, c, d⟩
  | ret v =>
    obtain ⟨r, g', σ', a, b, c, d⟩ := q
    exact ⟨r, g', σ', p.trans a, x.trans b, c, d⟩
  | brk => exact q
  | cont => exact q
theorem EndS.bind {env : Env} {g g₁ : G} {σ₁ : H} {s s₁ : Shared} {t : Sem Flow} {N : M → H → Prop} {Rt : P} {x : X} (p : GoX K (fpOf env) g s.heap g₁ σ₁ s₁.heap) (z : Sx s s₁) (h : wpAny (model K.prog K.w) A t (EndS K env cx g₁ s₁ N Rt) (EndX K false (fpOf env) g₁ s₁ x) s₁) :
    wpAny (model K.prog K.w) A t (EndS K env cx g s N Rt) (EndX K false (fpOf env) g s x) s₁ := wpAny_mono h (fun _ _ q => q.trans p z) fun _ _ f => f.trans p z

theorem names_each {env : Env} : ∀ {es : List Expr} {ks : List Nat}, cNames cx es = some ks → (assignEach es env).findIdx? (·.1) = none ∧ (assignEach es env).length = ks.length
  | [], ks, h => by cases h; exact ⟨rfl, rfl⟩
  | e :: es, ks, h => by
    obtain ⟨x, p, rfl⟩ := nm_of h
    obtain ⟨k, ks', h1, h2, rfl⟩ := m2_some h
    obtain ⟨a, b⟩ := names_each (env := env) h2
    refine ⟨?_, congrArg (· + 1) b⟩
    show (_ :: assignEach es env).findIdx? (·.1) = none
    (refine rwE List.findIdx?_cons ?_; refine rwE a ?_); rfl
theorem names_sound {env : Env} {g : G} : ∀ {es : List Expr} {ks : List Nat} {us : List V} {ws : List Value} {m m' : M} {σ : H} {s : Shared} {Q : Unit → Shared → Prop} {E : Value → Shared → Prop}, cNames cx es = some ks → puts m ks us = some m' → Fr K env cx m g s.heap → St K g σ s.heap → VRels K g s.heap us ws →
    (∀ s', GoX K (fpOf env) g s.heap g σ s'.heap → Sx s s' → Fr K env cx m' g s'.heap → Q () s') → wpAny (model K.prog K.w) A (assignInOrder ((assignEach es env).map (·.2)) ws) Q E s
  | [], ks, us, ws, m, m', σ, s, Q, E, h, hp, F, S, r, hQ => by
    cases h
    cases us with
    | cons _ _ => cases hp
    | nil =>
      cases ws with
      | cons _ _ => exact r.elim
      | nil => cases hp; exact wpAny_pure (hQ s (Go.refl S).toX (Sx.refl s) F)
  | e :: es, ks, us, ws, m, m', σ, s, Q, E, h, hp, F, S, r, hQ => by
    obtain ⟨x, p, rfl⟩ := nm_of h
    obtain ⟨k, ks', h1, h2, rfl⟩ := m2_some h
    cases us with
    | nil => cases hp
    | cons u us =>
      cases ws with
      | nil => exact r.elim
      | cons w ws =>
        refine wpAny_assignInOrder_more (wpAny_assign_Name (store_sound F S h1 r.1 fun s₁ go₁ sx₁ F₁ => ?_))
        refine names_sound h2 hp F₁ go₁.st (go₁.rels S (fun b hb => (F.fp b hb).1) r.2) fun s₂ go₂ sx₂ F₂ => ?_
        exact hQ s₂ (go₁.trans go₂) (sx₁.trans sx₂) F₂

theorem puts_len : ∀ (ks : List Nat) (m : M) (us : List V) (m' : M), puts m ks us = some m' → us.length = ks.length
  | [], _, [], _, _ => rfl
  | [], _, _ :: _, _, e => by cases e
  | _ :: _, _, [], _, e => by cases e
  | k :: ks, m, u :: us, m', e => congrArg (· + 1) (puts_len ks (put m k u) us m' e)
theorem assign_sound {env : Env} {g : G} {σ : H} {s : Shared} {m m' : M} {tgt : Expr} {ks : List Nat} {v : V} {w : Value} {Q : Unit → Shared → Prop} {E : Value → Shared → Prop} (hh : A.handled = none) (F : Fr K env cx m g s.heap) (S : St K g σ s.heap) (ht : cTgt cx tgt = some ks) (hb : bindV ks m v = some m')
    (r : VRel K g s.heap v w) (hQ : ∀ s', GoX K (fpOf env) g s.heap g σ s'.heap → Sx s s' → Fr K env cx m' g s'.heap → Q () s') : wpAny (model K.prog K.w) A (assign tgt env w) Q E s := by
  cases tgt with
  | Name x p =>
    have ht : (slotOf cx x).map (fun k => [k]) = some ks := ht
    obtain ⟨k, h1, rfl⟩ := Option.map_eq_some_iff.mp ht
    cases hb
    exact wpAny_assign_Name (store_sound F S h1 r hQ)
  | Tuple es k p =>
    obtain ⟨a, b, rr, h1, rfl⟩ := two_some ht
    cases v <;> try (cases hb; done)
    rename_i us
    obtain ⟨t, vs, k', rfl, it, ho, rs⟩ := r
    have hl : us.length = (a :: b :: rr).length := puts_len _ _ _ _ hb
    obtain ⟨f1, f2⟩ := names_each (env := env) h1
    have hsz : vs.size = us.length := by
      have := rs.length
      simpa using this.symm
    refine wpAny_assign_Tuple (items := vs) hh ⟨_, ho, rfl, k', rfl⟩ (by (refine rwE f2 ?_; refine rwE hsz ?_; (refine rwE hl ?_; with_reducible rfl))) f1 fun h' he => ?_
    have hk : ∀ b o, s.heap.get? b = some o → h'.get? b = some o := fun b o e => he b o (Nat.ne_of_lt (Heap.lt_size e)) e
    have go := Go.change S hk
    refine names_sound (s := { s with heap := h' }) h1 hb (F.go S go) go.st (go.rels S rs) fun s₂ go₂ sx₂ F₂ => hQ s₂ (go.toX.trans go₂) ⟨sx₂.1, sx₂.2⟩ F₂
  | _ => exact (no_l ht).elim

theorem fp_apart {env : Env} {g : G} {h : Heap} {m : M} (F : Fr K env cx m g h) : ∀ b, fpOf env b → ∀ o, h.get? b = some o → ¬ Apart o := fun b hb o e ha => by
  obtain ⟨_, _, o', e', hd⟩ := F.fp b hb
  rw [e] at e'; cases e'
  rcases hd with ⟨es, ep, hd⟩ | ⟨v, hd⟩
  · exact ha.1 es ep hd
  · exact ha.2 v hd

theorem Fr.stay {env : Env} {m : M} {X : Addr → Prop} {g : G} {h h' : Heap} {σ : H} (F : Fr K env cx m g h) (S : St K g σ h) (hk : ∀ b o, h.get? b = some o → ¬ X b → h'.get? b = some o) (hx : ∀ b, X b → ¬ fpOf env b) (hp : ∀ b, X b → ¬ g.own b) (hf : Frs K g h') : Fr K env cx m g h' where
  kind := F.kind
  names := F.names
  glob := F.glob
  blt := F.blt
  loc := by
    obtain ⟨ns, hn, hv⟩ := F.loc
    refine ⟨ns, hn.at' fun o e => hk _ o e fun z => hx _ z (.inl rfl), fun x k v h1 h2 h3 => ?_⟩
    obtain ⟨w, e, r⟩ := hv x k v h1 h2 h3
    exact ⟨w, e, VRel.mono (fun _ _ e => e) (fun _ i => i) (fun b o i e => hk b o e fun z => hp b z (.inr i)) _ _ r⟩
  cell := fun x k h1 h2 => by
    obtain ⟨c, o, e, hc, hv⟩ := F.cell x k h1 h2
    refine ⟨c, o, e, ?_, fun v h3 => ?_⟩
    · obtain ⟨ob, ho, hd⟩ := hc
      exact ⟨ob, hk _ _ ho fun z => hx _ z (.inr ⟨x, e⟩), hd⟩
    · obtain ⟨w, e, r⟩ := hv v h3
      exact ⟨w, e, VRel.mono (fun _ _ e => e) (fun _ i => i) (fun b o i e => hk b o e fun z => hp b z (.inr i)) _ _ r⟩
  priv := F.priv
  privC := fun x c e => by
    obtain ⟨h1, h2, o, ob, ho, hd⟩ := F.privC x c e
    exact ⟨h1, h2, o, ob, hk _ _ ho fun z => hx _ z (.inr ⟨x, e⟩), hd⟩
  apart := F.apart
  inj := F.inj
  bnd := F.bnd
  hi := F.hi
  frs := hf

theorem Frs.stay {X : Addr → Prop} {g : G} {h h' : Heap} (F : Frs K g h) (hk : ∀ b o, h.get? b = some o → ¬ X b → h'.get? b = some o) (hx : ∀ b o, X b → h.get? b = some o → ¬ isD o) : Frs K g h' := fun env he => by
  obtain ⟨k, L, o, h1, h2, h3, h4, h5⟩ := F env he
  exact ⟨k, L, o, h1, h2, h3, hk L o h4 (fun z => hx L o z h4 h5), h5⟩
theorem Apart.nd {o : Obj} (a : Apart o) : ¬ isD o := fun ⟨es, ep, z⟩ => a.1 es ep z
theorem Pv.nd {g : G} {h : Heap} {b : Addr} (p : Pv K g h b) {o : Obj} (e : h.get? b = some o) : ¬ isD o := by
  obtain ⟨_, _, o', e', a⟩ := p
  rw [e] at e'; cases e'
  exact a.nd
/-- the frame that runs -/
noncomputable def Here (K : Ctx) (env : Env) : Prop := ∃ outer L, K.chain = env :: outer ∧ env.frame = some L
theorem noted_of {env : Env} {Y : Addr → Prop} {g : G} {s s' : Shared} {x : X} {v : Value} (hE : Here K env) (hA : A.frames = some K.chain) (F : Frs K g s.heap) (q : EndX K false Y g s x v s') :
    notedBy (model K.prog K.w) A env (cameBackBy (model K.prog K.w) A env (EndX K false Y g s x)) v s' := by
  obtain ⟨outer, L, h1, h2⟩ := hE
  exact ex_noted hA h1 h2 F q
inductive ForI (K : Ctx) (env : Env) (cx : Cx) (vs : List V) (J : Nat → G → Heap → Prop) (L : Nat → M → H → Prop) (g₀ : G) (s₀ : Shared) (k : Nat) (s : Shared) : Prop
  | mk (i : Nat) (m : M) (g : G) (σ : H) (hk : k = vs.length - i) (hi : i ≤ vs.length) (hJ : J i g s.heap) (F : Fr K env cx m g s.heap) (go : GoX K (fpOf env) g₀ s₀.heap g σ s.heap) (sx : Sx s₀ s) (hW : L i m σ)
inductive WhI (K : Ctx) (env : Env) (cx : Cx) (L : Nat → M → H → Prop) (g₀ : G) (s₀ : Shared) (k : Nat) (s : Shared) : Prop
  | mk (m : M) (g : G) (σ : H) (F : Fr K env cx m g s.heap) (go : GoX K (fpOf env) g₀ s₀.heap g σ s.heap) (sx : Sx s₀ s) (hW : L k m σ)
/-- the for loop, its iterator at hand -/
theorem for_sound {env : Env} {g₀ : G} {s₀ : Shared} {tgt : Expr} {body : List Stmt} {ks : List Nat} {it : Value} {X : Addr → Prop} {vs : List V} {ok : H → Prop} {J : Nat → G → Heap → Prop} {B : M → H → (M → H → Prop) → Prop} {N : M → H → Prop} {Rt : P} {x : Mini.X}
    (hE : Here K env) (hA : A.frames = some K.chain) (F₀ : Frs K g₀ s₀.heap) (hh : A.handled = none) (I : Itr K A tgt it X vs ok J) (ht : cTgt cx tgt = some ks) (hX : ∀ b, X b → s₀.heap.get? b = none)
    (hB : ∀ m g σ s (L : M → H → Prop), Fr K env cx m g s.heap → St K g σ s.heap → B m σ L → wpAny (model K.prog K.w) A (execs body env) (EndS K env cx g s L Rt) (EndX K false (fpOf env) g s x) s)
    {m : M} {g : G} {σ : H} {s : Shared} (hJ : J 0 g s.heap) (F : Fr K env cx m g s.heap) (go : GoX K (fpOf env) g₀ s₀.heap g σ s.heap) (sx : Sx s₀ s) (hW : forL B ks ok N vs m σ) :
    codeAny (model K.prog K.w) A (.forLoop tgt it body [] env) (fun r s' => match r with | .ok f => EndS K env cx g₀ s₀ N Rt f s' | .error e => cameBackBy (model K.prog K.w) A env (EndX K false (fpOf env) g₀ s₀ x) e s') s := by
  refine codeAny_loop' rfl (ForI K env cx vs J (fun i m σ => forL B ks ok N (vs.drop i) m σ) g₀ s₀) ?_ vs.length ⟨0, m, g, σ, by simp, Nat.zero_le _, hJ, F, go, sx, by simpa using hW⟩
  rintro k s ⟨i, m, g, σ, rfl, hi, hJ, F, go, sx, hW⟩
  show wpAny _ A ((forTurn tgt it body [] env).onRaise (fun x => do noteFrame x env; theTreesLotGoes x)) _ _ s
  refine wpAny_noted (wpAny_mono (Q := fun fin s' => match fin with | .done f => EndS K env cx g₀ s₀ N Rt f s' | .again c' => (c' = .forLoop tgt it body [] env ∧ ∃ m, m < vs.length - i ∧ ForI K env cx vs J (fun i m σ => forL B ks ok N (vs.drop i) m σ) g₀ s₀ m s') ∨ (c'.quiet = true ∧ codeAny (model K.prog K.w) A c' (fun r s' => match r with | .ok f => EndS K env cx g₀ s₀ N Rt f s' | .error e => cameBackBy (model K.prog K.w) A env (EndX K false (fpOf env) g₀ s₀ x) e s') s')) (E := EndX K false (fpOf env) g₀ s₀ x) ?_ (fun _ _ q => q) fun _ _ q => noted_of hE hA F₀ q)
  simp only [forTurn]
  refine wpAny_bind (wpAny_standAt (wpAny_bind (wpAny_onRaise ?_)))
  cases hv : vs[i]? with
  | none =>
    have hd : vs.drop i = [] := by
      rw [List.getElem?_eq_none_iff] at hv
      exact List.drop_of_length_le hv
    rw [hd] at hW
    refine wpAny_mono (I.stop i g σ s hJ go.st hW.1 hv) (fun r s₁ q => ?_) fun _ _ f => f.elim
    obtain ⟨rfl, S₁, hk, sx₁⟩ := q
    refine wpAny_pure (.inr ⟨rfl, codeAny_block (wpAny_execs_nil ?_)⟩)
    have pv := I.priv i g s.heap hJ
    have go₁ : GoX K (fpOf env) g₀ s₀.heap g σ s₁.heap := go.halt S₁ hk hX
    refine ⟨m, g, σ, go₁, sx.trans sx₁, ?_, hW.2⟩
    exact F.stay go.st hk (fun b hb hf => by
      obtain ⟨_, _, o, e, ha⟩ := pv b hb
      exact fp_apart F b hf o e ha) (fun b hb => (pv b hb).n1) (F.frs.stay hk fun b o hb e => (pv b hb).nd e)
  | some v =>
    have hlt := (List.getElem?_eq_some_iff.mp hv).1
    have hd : vs.drop i = v :: vs.drop (i + 1) := by
      refine rwE (List.drop_eq_getElem_cons hlt) ?_
      congr 1
      exact (List.getElem?_eq_some_iff.mp hv).2
    rw [hd] at hW
    obtain ⟨hok, m', hb, hW⟩ := hW
    refine wpAny_mono (I.next i g σ s v hJ go.st hok hv) (fun r s₁ q => ?_) fun _ _ f => f.elim
    obtain ⟨w, rfl, q⟩ := q
    refine wpAny_bind (wpAny_mono q (fun _ s₂ q => ?_) fun _ _ f => f.elim)
    obtain ⟨g₂, go₂, sx₂, rel₂, hJ₂⟩ := q
    have pv := I.priv i g s.heap hJ
    have dis : ∀ b, X b → ¬ fpOf env b := fun b hb hf => by
      obtain ⟨_, _, o, e, ha⟩ := pv b hb
      exact fp_apart F b hf o e ha
    have F₂ := F.goX go.st go₂ dis fun b hb => (pv b hb).n1
    have go02 : GoX K (fpOf env) g₀ s₀.heap g₂ σ s₂.heap := go.step go₂ fun b hb => .inr (hX b hb)
    refine wpAny_bind (assign_sound hh F₂ go₂.st ht hb rel₂ fun s₃ go₃ sx₃ F₃ => ?_)
    have hJ₃ : J (i + 1) g₂ s₃.heap := I.stay (i + 1) (fpOf env) g₂ σ s₂.heap g₂ σ s₃.heap hJ₂ go₂.st go₃ fun b hb hx => dis b hx hb
    have go03 := go02.trans go₃
    have sx03 := (sx.trans sx₂).trans sx₃
    refine wpAny_bind (wpAny_mono (hB m' g₂ σ s₃ _ F₃ go₃.st hW) (fun f s₄ q => ?_) fun _ _ f => f.trans go03 sx03)
    cases f with
    | next =>
      obtain ⟨m₄, g₄, σ₄, go₄, sx₄, F₄, hW₄⟩ := q
      refine wpAny_pure (.inl ⟨rfl, vs.length - (i + 1), by lia, i + 1, m₄, g₄, σ₄, rfl, by assumption, ?_, F₄, go03.trans go₄, sx03.trans sx₄, hW₄⟩)
      exact I.stay (i + 1) (fpOf env) g₂ σ s₃.heap g₄ σ₄ s₄.heap hJ₃ go₃.st go₄ fun b hb hx => dis b hx hb
    | ret u =>
      obtain ⟨r, g₄, σ₄, go₄, sx₄, rel₄, hW₄⟩ := q
      exact wpAny_pure ⟨r, g₄, σ₄, go03.trans go₄, sx03.trans sx₄, rel₄, hW₄⟩
    | brk => exact q.elim
    | cont => exact q.elim

theorem while_sound {env : Env} {g₀ : G} {s₀ : Shared} {test : Expr} {body : List Stmt} {T : M → H → (Bool → H → Prop) → Prop} {B : M → H → (M → H → Prop) → Prop} {N : M → H → Prop} {Rt : P} {x : X}
    (hE : Here K env) (hA : A.frames = some K.chain) (F₀ : Frs K g₀ s₀.heap)
    (hT : ∀ m g σ s (L : Bool → H → Prop), Fr K env cx m g s.heap → St K g σ s.heap → T m σ L → wpAny (model K.prog K.w) A (isTrue test env (eval test env)) (EndB K g s L) noE s)
    (hB : ∀ m g σ s (L : M → H → Prop), Fr K env cx m g s.heap → St K g σ s.heap → B m σ L → wpAny (model K.prog K.w) A (execs body env) (EndS K env cx g s L Rt) (EndX K false (fpOf env) g s x) s)
    {m : M} {g : G} {σ : H} {s : Shared} (F : Fr K env cx m g s.heap) (go : GoX K (fpOf env) g₀ s₀.heap g σ s.heap) (sx : Sx s₀ s) {k : Nat} (hW : whileN T B N k m σ) :
    codeAny (model K.prog K.w) A (.whileLoop test body [] env) (fun r s' => match r with | .ok f => EndS K env cx g₀ s₀ N Rt f s' | .error e => cameBackBy (model K.prog K.w) A env (EndX K false (fpOf env) g₀ s₀ x) e s') s := by
  refine codeAny_whileLoop (WhI K env cx (whileN T B N) g₀ s₀) ?_ k ⟨m, g, σ, F, go, sx, hW⟩
  rintro k s ⟨m, g, σ, F, go, sx, hW⟩
  cases k with
  | zero => exact hW.elim
  | succ k =>
    refine wpAny_mono (hT m g σ s _ F go.st hW) (fun b s₁ q => ?_) fun _ _ f => f.elim
    obtain ⟨g₁, σ₁, go₁, sx₁, W₁⟩ := q
    have F₁ := F.go go.st go₁
    have go01 := go.trans go₁.toX
    cases b with
    | false => exact wpAny_execs_nil ⟨m, g₁, σ₁, go01, sx.trans sx₁, F₁, W₁⟩
    | true =>
      refine wpAny_mono (hB m g₁ σ₁ s₁ _ F₁ go₁.st W₁) (fun f s₂ q => ?_) fun _ _ q => noted_of hE hA F₀ (q.trans go01 (sx.trans sx₁))
      cases f with
      | next =>
        obtain ⟨m₂, g₂, σ₂, go₂, sx₂, F₂, W₂⟩ := q
        exact ⟨k, Nat.lt_succ_self _, m₂, g₂, σ₂, F₂, go01.trans go₂, (sx.trans sx₁).trans sx₂, W₂⟩
      | ret u =>
        obtain ⟨r, g₂, σ₂, go₂, sx₂, rel₂, W₂⟩ := q
        exact ⟨r, g₂, σ₂, go01.trans go₂, (sx.trans sx₁).trans sx₂, rel₂, W₂⟩
      | brk => exact q.elim
      | cont => exact q.elim
end
end Mini

set_option autoImplicit false
set_option linter.unusedVariables false
namespace Mini
open PySem

/-- the loop's target fits the source -/
noncomputable def tgtOk : Src → Expr → Prop
  | .list _, t | .range _, t => ∃ x p, t = .Name x p
  | .enum _, t => ∃ es k p, t = .Tuple es k p

set_option genInjectivity false
set_option genSizeOfSpec false
inductive SrcE (K : Ctx) (A : Around) (g : G) (s : Shared) (tgt : Expr) (L : List V → (H → Prop) → H → Prop) (it : Value) (s₂ : Shared) : Prop
  | mk (g₂ : G) (σ₂ : H) (vs : List V) (ok : H → Prop) (X : Addr → Prop) (J : Nat → G → Heap → Prop) (go : Go K g s.heap g₂ σ₂ s₂.heap) (sx : Sx s s₂) (I : Itr K A tgt it X vs ok J) (j : J 0 g₂ s₂.heap) (fr : ∀ b, X b → s.heap.get? b = none) (l : L vs ok σ₂)
noncomputable def SSrc (K : Ctx) (n : Nat) (cx : Cx) (e : Expr) (p : Src) : Prop := ∀ (env : Env) (A : Around) (m : M) (g : G) (σ : H) (s : Shared) (tgt : Expr) (L : List V → (H → Prop) → H → Prop), Room K A n → Fr K env cx m g s.heap → St K g σ s.heap → tgtOk p tgt →
  WSrc (callW K.Φ n) noX p m σ L → wpAny (model K.prog K.w) A (eval e env) (fun v s₁ => wpAny (model K.prog K.w) A (pyIter v) (SrcE K A g s tgt L) noE s₁) noE s

section
variable {K : Ctx} {pg : Pg} {n : Nat} {cx : Cx}

theorem ne_ad {a b : Nat} (h : a < b ∨ b < a) : @Ne Addr a b := fun e => by have e' : (a : Nat) = b := e; lia
theorem go_none {g g₁ : G} {σ₁ : H} {h h₁ : Heap} (go : Go K g h g₁ σ₁ h₁) {b : Addr} (e : h₁.get? b = none) : h.get? b = none := by
  cases z : h.get? b with
  | none => rfl
  | some o =>
    obtain ⟨o', e'⟩ := (go.toX (X := fun _ => False)).there b o z
    rw [e] at e'; cases e'

theorem src_list [Qt K] {e : Expr} {a : E} (h : SE K n cx e a) : SSrc K n cx e (.list a) := fun env A m g σ s tgt L R F S ht W => by
  refine wpAny_mono (h env A m g σ s _ R F S W) (fun v s₁ q => ?_) fun _ _ f => f
  obtain ⟨r₁, g₁, σ₁, go₁, sx₁, rel₁, W₁⟩ := q
  cases r₁ <;> try exact W₁.elim
  rename_i i
  obtain ⟨xs, hx, q⟩ := W₁
  obtain ⟨b, vs, k, rfl, hb, hl, rr, e, z⟩ := go₁.st.list rel₁ hx
  obtain ⟨x, p, rfl⟩ := ht
  refine wpAny_pyIter_list hl.isList ?_
  have hk : ∀ c o, s₁.heap.get? c = some o → (s₁.heap.push { cls := .type "list_iterator", data := .fields #[.ref b, .int 0 0] }).get? c = some o := fun c o e => Heap.get?_push_of_some _ e
  have go₂ := Go.change go₁.st hk
  have fn := fresh_not go₁.st (none_at_size s₁.heap)
  refine ⟨g₁, σ₁, xs, _, _, _, go₁.trans go₂, ⟨sx₁.1, sx₁.2⟩, itr_list (I := s₁.heap.objs.size) (b := b) (a := i) (R.handled Qt.q) (fun _ _ => rfl), ⟨⟨_, Heap.get?_push_size _ rfl, rfl, rfl⟩, fn.1, fn.2, hb⟩, fun c e => e ▸ go_none go₁ (none_at_size _), q⟩

theorem src_range [Qt K] (G₀ : Gr K pg) {x : Str} {p pos : Pos} {e : Expr} {a : E} (hx : cx.names.lookup x = some .globalImplicit) (hd : (x == ("__debug__" : Str)) = false) (hv : blts.lookup x = some (.type "range")) (h : SE K n cx e a) (hst : isStar e = false) :
    SSrc K n cx (.Call (.Name x p) [e] [] pos) (.range a) := fun env A m g σ s tgt L R F S ht W => by
  refine wpAny_Call_ofName (load_blt G₀ F S hx hd hv ?_)
  show wpAny _ A (callWith pos (.type "range") [] (backTo pos (starEach [e] env)) []) _ _ s
  refine rwE (star_cons hst) ?_
  refine callWith_type rfl (Calls.evalArgs_plain (Calls.spliced_cons (wpAny_mono (h env A m g σ s _ R F S W) (fun v s₁ q => ?_) fun _ _ f => f)))
  obtain ⟨r₁, g₁, σ₁, go₁, sx₁, rel₁, W₁⟩ := q
  refine Calls.spliced_nil ?_
  cases r₁ <;> try exact W₁.elim
  rename_i N
  obtain ⟨t, rfl⟩ := rel₁
  obtain ⟨⟨h0, h1⟩, W₁⟩ := W₁
  obtain ⟨y, py, rfl⟩ := ht
  refine call_range_1 (wpAny_pyIter_range (IsRange.new ..) (small_one (by decide) (by decide) (by lia) (by lia)) ?_)
  have hsz : Builtin.Range.rangeSize 0 N 1 = N := by rewrite [rangeSize_one]; split <;> lia
  have go₂ := Go.change (h' := (s₁.heap.push { cls := .type "range", data := .fields #[.int 0 s₁.toks, .int N t, .int 1 (s₁.toks + 1)] }).push { cls := .type "range_iterator", data := .fields #[rawInt 0, rawInt (Builtin.Range.rangeSize 0 N 1), rawInt 1] }) go₁.st push2
  have e0 : s₁.heap.get? (s₁.heap.objs.size + 1) = none := none_above (Nat.le_succ _)
  have fn := fresh_not go₁.st e0
  have e1 : (s₁.heap.push { cls := .type "range", data := .fields #[.int 0 s₁.toks, .int N t, .int 1 (s₁.toks + 1)] }).objs.size = s₁.heap.objs.size + 1 := Heap.size_push ..
  refine ⟨g₁, σ₁, rangeV N, fun _ => True, (· = s₁.heap.objs.size + 1), JR K (s₁.heap.objs.size + 1) N, go₁.trans go₂, ⟨sx₁.1, sx₁.2⟩, by refine rwE e1 ?_; exact itr_range (I := s₁.heap.objs.size + 1) (R.handled Qt.q) (fun _ _ => rfl) h0, ⟨?_, fn.1, fn.2⟩, fun c e => e ▸ go_none go₁ e0, W₁⟩
  refine rwE (Eq.symm (e1)) ?_
  show IsRangeIter _ _ ((0 : Nat) : Int) (N - ((0 : Nat) : Int)) 1
  refine rwE hsz ?_
  have := Heap.get?_push_size (s₁.heap.push { cls := .type "range", data := .fields #[.int 0 s₁.toks, .int N t, .int 1 (s₁.toks + 1)] }) (o := { cls := .type "range_iterator", data := .fields #[rawInt 0, rawInt N, rawInt 1] }) rfl
  simpa [IsRangeIter, rawInt] using this

theorem src_enum [Qt K] (G₀ : Gr K pg) {x : Str} {p pos : Pos} {e : Expr} {a : E} (hx : cx.names.lookup x = some .globalImplicit) (hd : (x == ("__debug__" : Str)) = false) (hv : blts.lookup x = some (.type "enumerate")) (h : SE K n cx e a) (hst : isStar e = false) :
    SSrc K n cx (.Call (.Name x p) [e] [] pos) (.enum a) := fun env A m g σ s tgt L R F S ht W => by
  refine wpAny_Call_ofName (load_blt G₀ F S hx hd hv ?_)
  show wpAny _ A (callWith pos (.type "enumerate") [] (backTo pos (starEach [e] env)) []) _ _ s
  refine rwE (star_cons hst) ?_
  refine callWith_type rfl (Calls.evalArgs_plain (Calls.spliced_cons (wpAny_mono (h env A m g σ s _ R F S W) (fun v s₁ q => ?_) fun _ _ f => f)))
  obtain ⟨r₁, g₁, σ₁, go₁, sx₁, rel₁, W₁⟩ := q
  refine Calls.spliced_nil ?_
  cases r₁ <;> try exact W₁.elim
  rename_i i
  obtain ⟨xs, hx, q⟩ := W₁
  obtain ⟨b, vs, k, rfl, hb, hl, rr, e, z⟩ := go₁.st.list rel₁ hx
  obtain ⟨es, k', p', rfl⟩ := ht
  refine call_enumerate_1 hl fun h' he hi hsz hk => wpAny_pyIter_enum he ?_
  have go₂ := Go.change go₁.st hk
  have e1 : s₁.heap.get? (s₁.heap.objs.size + 1) = none := none_above (Nat.le_succ _)
  have fn := fresh_not go₁.st (none_at_size s₁.heap)
  have fn1 := fresh_not go₁.st e1
  refine ⟨g₁, σ₁, _, _, _, _, go₁.trans go₂, ⟨sx₁.1, sx₁.2⟩, itr_enum (e := s₁.heap.objs.size + 1) (I := s₁.heap.objs.size) (b := b) (a := i) (xs := xs) (R.handled Qt.q) (ne_ad (.inr (Nat.lt_succ_self _))), ⟨_, he, hi, fn.1, fn.2, fn1.1, fn1.2, hb⟩, fun c e => ?_, q⟩
  exact or2 (P := fun c => s.heap.get? c = none) (go_none go₁ e1) (go_none go₁ (none_at_size _)) c e

end
end Mini

set_option autoImplicit false
set_option linter.unusedVariables false
namespace Mini
open PySem

noncomputable def relN (cn names : List (Str × NameKind)) : List (Str × NameKind) := names.map fun p => if p.2 == .free && cn.lookup p.1 == some .cell then (p.1, .cell) else p
noncomputable def compCx (cx : Cx) (names : List (Str × NameKind)) (x : Str) : Cx := ⟨relN cx.names names, (x, cx.slots.length) :: cx.slots⟩
noncomputable def compOk (cx : Cx) (scope : Scope) (x : Str) : Bool :=
  scope.kind == .function && scope.names.all (fun p => p.2 != .cell) && scope.names.lookup x == some .local &&
  scope.names.all (fun p => p.2 != .local || ((p.1 == x || p.1 == (".0" : Str)) && scope.names.lookup p.1 == some .local)) &&
  scope.names.all (fun p => p.2 != .free || (cx.names.lookup p.1 == some .cell && (cx.slots.lookup p.1).isSome)) && (cx.slots.lookup (".0" : Str)).isNone && x != (".0" : Str)

structure CompOk (cx : Cx) (scope : Scope) (x : Str) : Prop where
  kind : scope.kind = .function
  nocell : ∀ p ∈ scope.names, p.2 ≠ .cell
  own : scope.names.lookup x = some .local
  loc : ∀ p ∈ scope.names, p.2 = .local → (p.1 = x ∨ p.1 = (".0" : Str)) ∧ scope.names.lookup p.1 = some .local
  free : ∀ p ∈ scope.names, p.2 = .free → cx.names.lookup p.1 = some .cell ∧ ∃ k, cx.slots.lookup p.1 = some k
  dot : cx.slots.lookup (".0" : Str) = none
  xdot : x ≠ (".0" : Str)
theorem compOk_ok {cx : Cx} {scope : Scope} {x : Str} (h : compOk cx scope x = true) : CompOk cx scope x := by
  unfold compOk at h
  simp only [Bool.and_eq_true, beq_iff_eq, bne_iff_ne, ne_eq, List.all_eq_true, Bool.or_eq_true, Option.isNone_iff_eq_none, Option.isSome_iff_exists] at h
  obtain ⟨⟨⟨⟨⟨⟨h1, h2⟩, h3⟩, h4⟩, h5⟩, h6⟩, h7⟩ := h
  exact ⟨h1, h2, h3, fun p hp hl => (h4 p hp).resolve_left fun z => z hl, fun p hp hl => (h5 p hp).resolve_left fun z => z hl, h6, h7⟩

theorem forIn_pure {α β : Type} {f : α → β → Sem (ForInStep β)} {u : β → α → β} : ∀ (l : List α) (c : β), (∀ x ∈ l, ∀ c, f x c = pure (.yield (u c x))) → forIn l c f = pure (l.foldl u c)
  | [], c, _ => rfl
  | x :: l, c, h => by
    (rewrite [List.forIn_cons]; rewrite [h x (.head _)]; rewrite [pure_bind])
    exact forIn_pure l _ fun y hy => h y (.tail _ hy)

noncomputable def clOf (env : Env) (names : List (Str × NameKind)) : List (Str × Addr) := names.foldl (fun cs p => if p.2 == .free then (p.1, (env.cells.lookup p.1).getD 0) :: cs else cs) []
theorem closure_eq {env : Env} {scope : Scope} (h : ∀ p ∈ scope.names, p.2 = .free → ∃ c, env.cells.lookup p.1 = some c) : closureFor scope env = pure (clOf env scope.names) := by
  unfold closureFor clOf
  have := forIn_pure (f := fun (x : Str × NameKind) (r : List (Str × Addr)) => (match x with | (name, kind) => if (kind == .free) = true then do let __do_lift ← cellOf env name; pure (ForInStep.yield ((name, __do_lift) :: r)) else pure (ForInStep.yield r) : Sem (ForInStep (List (Str × Addr)))))
    (u := fun cs p => if p.2 == .free then (p.1, (env.cells.lookup p.1).getD 0) :: cs else cs) scope.names [] (fun p hp c => by
      obtain ⟨nm, kd⟩ := p
      by_cases hk : kd = .free
      · obtain ⟨a, ha⟩ := h _ hp hk
        have ha' : env.cells.lookup nm = some a := ha
        simp only [hk, beq_self_eq_true, if_true, cellOf, ha', Option.getD_some]
        rfl
      · have hk' : (kd == NameKind.free) = false := by simpa using hk
        simp only [hk', Bool.false_eq_true, if_false])
  simp only [bind_pure]
  exact this
theorem cl_sound {env : Env} {y : Str} {c : Addr} (names : List (Str × NameKind)) (h : ∀ p ∈ names, p.2 = .free → ∃ c, env.cells.lookup p.1 = some c) : (clOf env names).lookup y = some c → env.cells.lookup y = some c := by
  unfold clOf
  have key : ∀ (names : List (Str × NameKind)) (acc : List (Str × Addr)), (∀ p ∈ names, p.2 = .free → ∃ c, env.cells.lookup p.1 = some c) → (acc.lookup y = some c → env.cells.lookup y = some c) →
      (names.foldl (fun cs p => if p.2 == .free then (p.1, (env.cells.lookup p.1).getD 0) :: cs else cs) acc).lookup y = some c → env.cells.lookup y = some c := by
    intro names
    induction names with
    | nil => intro acc _ ha; exact ha
    | cons p names ih =>
      intro acc h ha
      refine rwE List.foldl_cons ?_
      refine ih _ (fun q hq => h q (.tail _ hq)) ?_
      by_cases hk : p.2 = .free
      · obtain ⟨a, e⟩ := h p (.head _) hk
        simp only [hk, beq_self_eq_true, if_true, List.lookup_cons]
        cases hy : y == p.1 with
        | true =>
          have : y = p.1 := by simpa using hy
          subst this
          intro z
          refine rwE e ?_; simpa [e] using z
        | false => exact ha
      · have hk' : (p.2 == NameKind.free) = false := by simpa using hk
        simp only [hk', Bool.false_eq_true, if_false]
        exact ha
  exact key names [] h (by simp)
theorem cl_some {env : Env} {y : Str} (names : List (Str × NameKind)) (h : (y, NameKind.free) ∈ names) : ∃ c, (clOf env names).lookup y = some c := by
  unfold clOf
  have key : ∀ (names : List (Str × NameKind)) (acc : List (Str × Addr)), ((y, NameKind.free) ∈ names ∨ ∃ c, acc.lookup y = some c) →
      ∃ c, (names.foldl (fun cs p => if p.2 == .free then (p.1, (env.cells.lookup p.1).getD 0) :: cs else cs) acc).lookup y = some c := by
    intro names
    induction names with
    | nil => rintro acc (h | h); cases h; exact h
    | cons p names ih =>
      intro acc h
      refine rwE List.foldl_cons ?_
      refine ih _ ?_
      rcases h with h | ⟨c, h⟩
      · rcases List.mem_cons.mp h with e | h
        · right
          subst e
          exact ⟨(env.cells.lookup y).getD 0, by simp⟩
        · exact .inl h
      · right
        by_cases hk : (p.2 == NameKind.free) = true
        · (refine rwE (if_pos hk) ?_; refine rwE List.lookup_cons ?_)
          cases hy : y == p.1 with
          | true => exact ⟨_, rfl⟩
          | false => exact ⟨c, h⟩
        · refine rwE (if_neg hk) ?_; exact ⟨c, h⟩
  exact key names [] (.inl h)

theorem rel_lookup {cn : List (Str × NameKind)} : ∀ {names : List (Str × NameKind)} {y : Str} {k : NameKind}, (relN cn names).lookup y = some k →
    ∃ k', names.lookup y = some k' ∧ ((k' = .free ∧ cn.lookup y = some .cell ∧ k = .cell) ∨ (k = k' ∧ ¬ (k' = .free ∧ cn.lookup y = some .cell)))
  | [], _, _, h => by simp [relN] at h
  | p :: names, y, k, h => by
    unfold relN at h
    rw [List.map_cons] at h
    have e1 : (if (p.2 == .free && cn.lookup p.1 == some .cell) = true then (p.1, NameKind.cell) else p).1 = p.1 := by split <;> rfl
    rw [List.lookup_cons] at h
    rw [e1] at h
    cases hy : y == p.1 with
    | true =>
      rw [hy] at h
      have : y = p.1 := by simpa using hy
      subst this
      refine ⟨p.2, by refine rwE (show p = (p.1, p.2) from rfl) ?_; simp, ?_⟩
      by_cases hc : (p.2 == .free && cn.lookup p.1 == some .cell) = true
      · rw [if_pos hc] at h
        simp only [Bool.and_eq_true, beq_iff_eq] at hc
        exact .inl ⟨hc.1, hc.2, (Option.some.inj h).symm⟩
      · rw [if_neg hc] at h
        refine .inr ⟨(Option.some.inj h).symm, ?_⟩
        simpa using hc
    | false =>
      rw [hy] at h
      obtain ⟨k', h1, h2⟩ := rel_lookup (names := names) h
      exact ⟨k', by (refine rwE (show p = (p.1, p.2) from rfl) ?_; refine rwE List.lookup_cons ?_; refine rwE hy ?_); exact h1, h2⟩
theorem relabel_eq {K : Ctx} {env : Env} {cx : Cx} {m : M} {g : G} {h : Heap} (F : Fr K env cx m g h) (scope : Scope) : (relabel scope env).names = relN cx.names scope.names := by
  unfold relabel relN
  show List.map _ scope.names = _
  apply List.map_congr_left
  intro p hp
  obtain ⟨nm, kd⟩ := p
  have : env.kindOf nm = cx.names.lookup nm := by unfold Env.kindOf; (refine rwE F.names ?_; with_reducible rfl)
  simp only [F.kind, this, beq_self_eq_true, Bool.and_true]

theorem put_put : ∀ (m : M) (k : Nat) (a b : V), put (put m k a) k b = put m k b
  | [], _, _, _ => rfl
  | _ :: _, 0, _, _ => rfl
  | w :: m, k + 1, a, b => by simp only [put]; (refine rwE (put_put m k a b) ?_; with_reducible rfl)

section
variable {K : Ctx} {pg : Pg} {n : Nat} {cx : Cx}

theorem GoX.gainList {X : Addr → Prop} {g g₁ : G} {σ₁ : H} {h h₁ : Heap} (q : GoX K X g h g₁ σ₁ h₁) {D : Addr} {xs : List V} {vs : Array Value} {k : Nat} (h0 : h.get? D = none) (hD : ¬ g₁.own D ∧ K.hB.get? D = none) (e : h₁.get? D = some { cls := .type "list", data := .seq vs k })
    (r : VRels K g₁ h₁ xs vs.toList) (hl : xs.length ≤ lim) : GoX K X g h ⟨g₁.ρ ++ [D], g₁.ι⟩ (σ₁ ++ [xs]) h₁ := by
  have S := q.st
  have mono : ∀ {xs : List V} {ws : List Value}, VRels K g₁ h₁ xs ws → VRels K ⟨g₁.ρ ++ [D], g₁.ι⟩ h₁ xs ws := fun {xs ws} r => VRels.mono (g := g₁) (g' := ⟨g₁.ρ ++ [D], g₁.ι⟩) (fun _ _ e => pre_get (List.prefix_append _ _) e) (fun _ i => i) (fun b o _ e => e) _ _ r
  refine ⟨⟨S.base, by simp [S.len], fun i a ys h1 h2 => ?_, ?_, fun ys hy => ?_, fun i a h1 h2 => ?_, fun a i => ?_⟩, q.pre.trans (List.prefix_append _ _), q.imm, fun a x => ?_, q.keep, q.there, q.ex, q.dic⟩
  · by_cases hi : i < σ₁.length
    · rw [List.getElem?_append_left (by refine rwE S.len ?_; exact hi)] at h1
      rw [List.getElem?_append_left hi] at h2
      obtain ⟨vs, n, e', r'⟩ := S.lists i a ys h1 h2
      exact ⟨vs, n, e', mono r'⟩
    · have hi' : i = σ₁.length := by
        have := (List.getElem?_eq_some_iff.mp h2).1
        simp at this; lia
      subst hi'
      rw [List.getElem?_append_right (by refine rwE S.len ?_; exact Nat.le_refl _)] at h1
      rw [List.getElem?_append_right (Nat.le_refl _)] at h2
      simp [S.len] at h1 h2
      subst h1 h2
      exact ⟨vs, k, e, mono r⟩
  · refine List.nodup_append.mpr ⟨S.nodup, by simp, ?_⟩
    intro a ha c hc
    simp at hc; subst hc
    exact fun z => hD.1 (.inl (z ▸ ha))
  · rcases List.mem_append.mp hy with z | z
    · exact S.small ys z
    · simp at z; subst z; exact hl
  · by_cases hi : i < g₁.ρ.length
    · rw [List.getElem?_append_left hi] at h1
      exact S.fresh i a h1 h2
    · rw [List.getElem?_append_right (Nat.le_of_not_lt hi)] at h1
      have : a = D := by
        have := List.mem_of_getElem? h1
        simpa using this
      subst this
      exact hD.2
  · obtain ⟨a1, a2, o, a3⟩ := S.imm a i
    refine ⟨a1, fun hb => ?_, o, a3⟩
    rcases List.mem_append.mp hb with x | x
    · exact a2 x
    · simp at x; subst x; exact hD.1 (.inr i)
  · rcases x with x | x
    · rcases List.mem_append.mp x with x | x
      · exact q.new a (.inl x)
      · simp at x; subst x; exact .inr h0
    · exact q.new a (.inr x)

/-- the block's own frame -/
theorem comp_frame {env : Env} {m : M} {g g₁ : G} {h h' : Heap} {scope : Scope} {x : Str} {C : Addr} {σ : H} {ns : Str → Option Value} (F : Fr K env cx m g h) (ok : CompOk cx scope x) (hn : h.Ns C ns) (hC : ¬ g.own C ∧ K.hB.get? C = none) :
    Fr K (compEnvC scope (clOf env scope.names) C env) (compCx cx scope.names x) m g h := by
  have hcell : ∀ p ∈ scope.names, p.2 = .free → ∃ c, env.cells.lookup p.1 = some c := fun p hp hf => by
    obtain ⟨h1, k, h2⟩ := ok.free p hp hf
    obtain ⟨c, o, e, _⟩ := F.cell p.1 k h2 h1
    exact ⟨c, e⟩
  have up : ∀ y c, (clOf env scope.names).lookup y = some c → env.cells.lookup y = some c := fun y c => cl_sound scope.names hcell
  refine ⟨ok.kind, relabel_eq F scope, F.glob, F.blt, ⟨ns, hn, fun y k v h1 h2 h3 => ?_⟩, fun y k h1 h2 => ?_, hC, fun y c e => F.privC y c (up y c e), fun y z c e1 e2 => F.apart y z c (up y c e1) (up z c e2), fun y z k h1 h2 => ?_, fun y k h1 => ?_, fun j hj => F.hi j (by simp [compCx] at hj; exact Nat.le_of_lt (by assumption)), F.frs⟩
  · obtain ⟨k', e, hk⟩ := rel_lookup h2
    have hk' : k' = .local := by
      rcases hk with ⟨rfl, _, z⟩ | ⟨rfl, _⟩
      · cases z
      · rfl
    subst hk'
    obtain ⟨hy, _⟩ := ok.loc (y, .local) (mem_of_lookup e) rfl
    rcases hy with hy | hy
    · have hy' : y = x := hy
      subst hy'
      simp [compCx] at h1
      subst h1
      rw [F.hi _ (Nat.le_refl _)] at h3; cases h3
    · have hy' : y = (".0" : Str) := hy
      subst hy'
      have : (compCx cx scope.names x).slots.lookup (".0" : Str) = none := by
        show List.lookup _ ((x, _) :: cx.slots) = none
        refine rwE List.lookup_cons ?_
        have : ((".0" : Str) == x) = false := by simpa using fun z => ok.xdot z.symm
        refine rwE this ?_; exact ok.dot
      rw [this] at h1; cases h1
  · obtain ⟨k', e, hk⟩ := rel_lookup h2
    have hk' : k' = .free ∧ cx.names.lookup y = some .cell := by
      rcases hk with ⟨a, b, _⟩ | ⟨rfl, _⟩
      · exact ⟨a, b⟩
      · exact absurd rfl (ok.nocell _ (mem_of_lookup e))
    obtain ⟨rfl, hc⟩ := hk'
    have hyx : y ≠ x := by
      rintro rfl
      rw [ok.own] at e; cases e
    have h1' : cx.slots.lookup y = some k := by
      have : List.lookup y ((x, cx.slots.length) :: cx.slots) = some k := h1
      rw [List.lookup_cons] at this
      have hb : (y == x) = false := by simpa using hyx
      rw [hb] at this; exact this
    obtain ⟨c, o, ec, ho, hv⟩ := F.cell y k h1' hc
    obtain ⟨c', e'⟩ := cl_some (env := env) scope.names (mem_of_lookup e)
    have : c' = c := by
      have := up y c' e'
      rw [ec] at this; exact (Option.some.inj this).symm
    subst this
    exact ⟨c', o, e', ho, hv⟩
  · have lk : ∀ y k, (compCx cx scope.names x).slots.lookup y = some k → (y = x ∧ k = cx.slots.length) ∨ (y ≠ x ∧ cx.slots.lookup y = some k) := fun y k h => by
      have h' : List.lookup y ((x, cx.slots.length) :: cx.slots) = some k := h
      rw [List.lookup_cons] at h'
      cases hb : y == x with
      | true => rw [hb] at h'; exact .inl ⟨by simpa using hb, (Option.some.inj h').symm⟩
      | false => rw [hb] at h'; exact .inr ⟨by simpa using hb, h'⟩
    rcases lk y k h1 with ⟨a, b⟩ | ⟨a, b⟩ <;> rcases lk z k h2 with ⟨c, d⟩ | ⟨c, d⟩
    · (refine rwE a ?_; (refine rwE c ?_; with_reducible rfl))
    · have := F.bnd z k d; lia
    · have := F.bnd y k b; lia
    · exact F.inj y z k b d
  · have h' : List.lookup y ((x, cx.slots.length) :: cx.slots) = some k := h1
    rw [List.lookup_cons] at h'
    show k < cx.slots.length + 1
    cases hb : y == x with
    | true => rw [hb] at h'; have := Option.some.inj h'; lia
    | false => rw [hb] at h'; have := F.bnd y k h'; exact Nat.le_succ_of_le (by assumption)
end
end Mini

set_option autoImplicit false
set_option linter.unusedVariables false
namespace Mini
open PySem

section
variable {K : Ctx} {pg : Pg} {n : Nat} {cx : Cx} {A : Around}

set_option genInjectivity false
set_option genSizeOfSpec false
inductive CmI (K : Ctx) (cenv : Env) (cx' : Cx) (vs : List V) (J : Nat → G → Heap → Prop) (m : M) (k : Nat) (D : Addr) (g₀ : G) (s₀ : Shared) (L : Nat → List V → H → Prop) (q : Nat) (s : Shared) : Prop
  | mk (i : Nat) (m₁ : M) (g : G) (σ : H) (acc : List V) (ws : Array Value) (kD : Nat) (hq : q = vs.length + 1 - i) (hi : i ≤ vs.length) (hJ : J i g s.heap) (F : Fr K cenv cx' m₁ g s.heap) (hm : ∀ v, put m₁ k v = put m k v) (go : Go K g₀ s₀.heap g σ s.heap) (sx : Sx s₀ s) (hl : IsL s.heap D ws kD) (hr : VRels K g s.heap acc ws.toList)
    (hDp : ¬ g.own D ∧ K.hB.get? D = none) (hW : L i acc σ)
/-- the block's loop -/
theorem comp_loop {cenv : Env} {cx' : Cx} {g₀ : G} {s₀ : Shared} {elt iter : Expr} {x : Str} {px pos : Pos} {ifs : List Expr} {scope : Scope} {k : Nat} {it : Value} {X : Addr → Prop} {vs : List V} {ok : H → Prop} {J : Nat → G → Heap → Prop} {m : M} {D : Addr}
    {T : V → H → (Bool → H → Prop) → Prop} {Fe : V → H → P → Prop} {Q : P} {RR : Result → Shared → Prop}
    (I : Itr K A (.Name x px) it X vs ok J) (hxl : cx'.names.lookup x = some .local) (hxs : cx'.slots.lookup x = some k) (hX : ∀ b, X b → s₀.heap.get? b = none) (hC : s₀.heap.get? cenv.locals = none) (hD : s₀.heap.get? D = none) (hXD : ¬ X D)
    (hT : ∀ v g σ s (L : Bool → H → Prop), Fr K cenv cx' (put m k v) g s.heap → St K g σ s.heap → T v σ L → wpAny (model K.prog K.w) A (forIn ifs true fun c r => if r = true then do let ok ← isTrue c cenv (eval c cenv); pure (ForInStep.yield ok) else pure (ForInStep.yield r)) (EndB K g s L) noE s)
    (hF : ∀ v g σ s (L : P), Fr K cenv cx' (put m k v) g s.heap → St K g σ s.heap → Fe v σ L → wpAny (model K.prog K.w) A (eval elt cenv) (EndE K g s L) noE s)
    (hRR : ∀ s' g' σ' acc ws kD ns, Go K g₀ s₀.heap g' σ' s'.heap → Sx s₀ s' → IsL s'.heap D ws kD → VRels K g' s'.heap acc ws.toList → (¬ g'.own D ∧ K.hB.get? D = none) → (¬ g'.own cenv.locals ∧ K.hB.get? cenv.locals = none) → s'.heap.Ns cenv.locals ns → alloc acc σ' Q → RR (.ok .next) s')
    {g : G} {σ : H} {s : Shared} {kD : Nat} (hJ : J 0 g s.heap) (F : Fr K cenv cx' m g s.heap) (go : Go K g₀ s₀.heap g σ s.heap) (sx : Sx s₀ s) (hl : IsL s.heap D #[] kD) (hDp : ¬ g.own D ∧ K.hB.get? D = none) (hW : compL T Fe ok vs [] σ Q) :
    codeAny (model K.prog K.w) A (.compLoop (.ListComp elt [⟨.Name x px, iter, ifs, 0⟩] scope pos) 0 it (.ref D) cenv) RR s := by
  refine codeAny_compLoop_tests (CmI K cenv cx' vs J m k D g₀ s₀ (fun i acc σ => compL T Fe ok (vs.drop i) acc σ Q))
    ?_ (vs.length + 1) ⟨0, m, g, σ, [], #[], kD, by simp, Nat.zero_le _, hJ, F, fun _ => rfl, go, sx, hl, trivial, hDp, by simpa using hW⟩
  rintro q s ⟨i, m₁, g, σ, acc, ws, kD, rfl, hi, hJ, F, hm, go, sx, hl, hr, hDp, hW⟩
  have pv := I.priv i g s.heap hJ
  have dis : ∀ b, X b → ¬ fpOf cenv b := fun b hb hf => by
    obtain ⟨_, _, o, e, ha⟩ := pv b hb
    exact fp_apart F b hf o e ha
  have hCl : cenv.locals ≠ D := by
    rintro rfl
    obtain ⟨_, ⟨o, es, ep, ho, hd, _⟩, _⟩ := F.loc
    rw [hl] at ho; cases ho; cases hd
  cases hv : vs[i]? with
  | none =>
    have hd : vs.drop i = [] := by
      rw [List.getElem?_eq_none_iff] at hv
      exact List.drop_of_length_le hv
    rw [hd] at hW
    refine wpAny_mono (I.stop i g σ s hJ go.st hW.1 hv) (fun r s₁ q => ?_) fun _ _ f => f.elim
    obtain ⟨rfl, S₁, hk, sx₁⟩ := q
    have F₁ := F.stay go.st hk dis (fun b hb => (pv b hb).n1) (F.frs.stay hk fun b o hb e => (pv b hb).nd e)
    have go₁ : Go K g₀ s₀.heap g σ s₁.heap := ((go.toX (X := fun _ => False)).halt S₁ hk hX).toGo fun _ f => f.elim
    obtain ⟨ns, hn, _⟩ := F₁.loc
    refine hRR s₁ g σ acc ws kD ns go₁ (sx.trans sx₁) (hk D _ hl hXD) ?_ hDp F₁.priv hn hW.2
    exact VRels.mono (fun _ _ e => e) (fun _ i => i) (fun b o i e => hk b o e fun z => (pv b z).n1 (.inr i)) _ _ hr
  | some v =>
    have hlt := (List.getElem?_eq_some_iff.mp hv).1
    have hd : vs.drop i = v :: vs.drop (i + 1) := by
      refine rwE (List.drop_eq_getElem_cons hlt) ?_
      congr 1
      exact (List.getElem?_eq_some_iff.mp hv).2
    rw [hd] at hW
    obtain ⟨hok, hW⟩ := hW
    refine wpAny_mono (I.nextN ⟨_, _, rfl⟩ i g σ s v hJ go.st hok hv) (fun r s₁ q => ?_) fun _ _ f => f.elim
    obtain ⟨w, g₂, rfl, go₂, sx₂, rel₂, hJ₂⟩ := q
    have F₂ := F.goX go.st go₂ dis fun b hb => (pv b hb).n1
    have go02 : Go K g₀ s₀.heap g₂ σ s₁.heap := ((go.toX (X := fun _ => False)).step go₂ fun b hb => .inr (hX b hb)).toGo fun _ f => f.elim
    have hl₂ : IsL s₁.heap D ws kD := (go₂.keep D (fun z => hDp.1 (.inl z)) hXD).nd hl fun ⟨_, _, z⟩ => nomatch z
    have hr₂ := go₂.rels go.st (fun b hb => (pv b hb).n1) hr
    have hDp₂ : ¬ g₂.own D ∧ K.hB.get? D = none := ⟨go₂.priv hl hDp.1, hDp.2⟩
    refine wpAny_assign_Name (store_local F₂ go₂.st hxl hxs rel₂ fun s₃ go₃ sx₃ F₃ => ?_)
    rw [hm] at F₃
    have go03 : Go K g₀ s₀.heap g₂ σ s₃.heap := ((go02.toX (X := fun _ => False)).step go₃ fun b hb => .inr (hb ▸ hC)).toGo fun _ f => f.elim
    have hl₃ : IsL s₃.heap D ws kD := (go₃.keep D (fun z => hDp₂.1 (.inl z)) (Ne.symm hCl)).nd hl₂ fun ⟨_, _, z⟩ => nomatch z
    have hr₃ := go₃.rels go₂.st (fun b hb => hb ▸ F₂.priv.1) hr₂
    have hJ₃ : J (i + 1) g₂ s₃.heap := I.stay (i + 1) _ g₂ σ s₁.heap g₂ σ s₃.heap hJ₂ go₂.st go₃ fun b hb hx => dis b hx (.inl hb)
    have sx03 := (sx.trans sx₂).trans sx₃
    refine wpAny_mono (hT v g₂ σ s₃ _ F₃ go₃.st hW) (fun b s₄ q => ?_) fun _ _ f => f.elim
    obtain ⟨g₄, σ₄, go₄, sx₄, W₄⟩ := q
    have F₄ := F₃.go go₃.st go₄
    have hl₄ : IsL s₄.heap D ws kD := (go₄.keep D (fun z => hDp₂.1 (.inl z))).nd hl₃ fun ⟨_, _, z⟩ => nomatch z
    have hr₄ := go₄.rels go₃.st hr₃
    have hDp₄ : ¬ g₄.own D ∧ K.hB.get? D = none := ⟨go₄.priv hl₃ hDp₂.1, hDp₂.2⟩
    have hJ₄ : J (i + 1) g₄ s₄.heap := I.stay (i + 1) (fun _ => False) g₂ σ s₃.heap g₄ σ₄ s₄.heap hJ₃ go₃.st go₄.toX fun b hb => hb.elim
    cases b with
    | false =>
      simp only [Bool.false_eq_true, if_false] at W₄ ⊢
      exact ⟨vs.length + 1 - (i + 1), dec1 (by assumption), i + 1, _, g₄, σ₄, acc, ws, kD, rfl, by assumption, hJ₄, F₄, fun u => put_put m k v u, go03.trans go₄, sx03.trans sx₄, hl₄, hr₄, hDp₄, W₄⟩
    | true =>
      simp only [if_true] at W₄ ⊢
      refine wpAny_mono (hF v g₄ σ₄ s₄ _ F₄ go₄.st W₄) (fun y s₅ q => ?_) fun _ _ f => f.elim
      obtain ⟨r₅, g₅, σ₅, go₅, sx₅, rel₅, hz, W₅⟩ := q
      have F₅ := F₄.go go₄.st go₅
      have hl₅ : IsL s₅.heap D ws kD := (go₅.keep D (fun z => hDp₄.1 (.inl z))).nd hl₄ fun ⟨_, _, z⟩ => nomatch z
      have hr₅ := go₅.rels go₄.st hr₄
      have hDp₅ : ¬ g₅.own D ∧ K.hB.get? D = none := ⟨go₅.priv hl₄ hDp₄.1, hDp₄.2⟩
      have hJ₅ : J (i + 1) g₅ s₅.heap := I.stay (i + 1) (fun _ => False) g₄ σ₄ s₄.heap g₅ σ₅ s₅.heap hJ₄ go₄.st go₅.toX fun b hb => hb.elim
      have go05 := (go03.trans go₄).trans go₅
      have hsz : ws.size ≤ sizeLine := by
        have := hr₅.length
        have h2 : ws.toList.length = ws.size := by simp
        refine rwE (Eq.symm (lim_eq)) ?_; lia
      refine wpAny_list_append_plain (hsz := hsz) ⟨kD, hl₅⟩ fun h₆ hl₆ hs₆ => ?_
      obtain ⟨k₆, hl₆⟩ := hl₆
      have go₆ : GoX K (· = D) g₅ s₅.heap g₅ σ₅ h₆ := GoX.sameBut go₅.st hDp₅ hl₆ hs₆.extBut (no_d hl₅ fun ⟨_, _, z⟩ => nomatch z)
      have go06 : Go K g₀ s₀.heap g₅ σ₅ h₆ := ((go05.toX (X := fun _ => False)).step go₆ fun b hb => .inr (hb ▸ hD)).toGo fun _ f => f.elim
      have hpD : ∀ b, b = D → ¬ g₅.own b := fun b hb => hb ▸ hDp₅.1
      have F₆ := F₅.goX go₅.st go₆ (fun b hb hf => by
        subst hb
        have := fp_apart F₅ b hf _ hl₅
        exact this ⟨fun _ _ e => (nomatch e), fun _ e => (nomatch e)⟩) hpD
      refine ⟨vs.length + 1 - (i + 1), dec1 (by assumption), i + 1, _, g₅, σ₅, acc ++ [r₅], ws.push y, k₆, rfl, by assumption, ?_, F₆, fun u => put_put m k v u, go06, ⟨((sx03.trans sx₄).trans sx₅).1, ((sx03.trans sx₄).trans sx₅).2⟩, hl₆, ?_, hDp₅, W₅⟩
      · exact I.stay (i + 1) _ g₅ σ₅ s₅.heap g₅ σ₅ h₆ hJ₅ go₅.st go₆ fun b hb hx => hXD (hb ▸ hx)
      · refine rwE Array.toList_push ?_
        exact (go₆.rels go₅.st hpD hr₅).append ⟨go₆.rel go₅.st hpD rel₅, trivial⟩
end
end Mini

set_option autoImplicit false
set_option linter.unusedVariables false
namespace Mini
open PySem

section
variable {K : Ctx} {pg : Pg} {n : Nat} {cx : Cx}

theorem comp_all {env : Env} {A : Around} {m : M} {g : G} {σ : H} {s : Shared} {elt iter : Expr} {x : Str} {px pos : Pos} {ifs : List Expr} {scope : Scope} {src : Src} {T : V → H → (Bool → H → Prop) → Prop} {pe : E} {Q : P} {RR : Value → Addr → Result → Shared → Prop}
    (R : Room K A n) (F : Fr K env cx m g s.heap) (S : St K g σ s.heap) (ok : CompOk cx scope x) (hsrc : SSrc K n cx iter src) (htg : tgtOk src (.Name x px)) (helt : SE K n (compCx cx scope.names x) elt pe)
    (hT : ∀ cenv v g σ s (L : Bool → H → Prop), Fr K cenv (compCx cx scope.names x) (put m cx.slots.length v) g s.heap → St K g σ s.heap → T v σ L → wpAny (model K.prog K.w) A (forIn ifs true fun c r => if r = true then do let ok ← isTrue c cenv (eval c cenv); pure (ForInStep.yield ok) else pure (ForInStep.yield r)) (EndB K g s L) noE s)
    (W : WSrc (callW K.Φ n) noX src m σ fun its okk σ => compL T (fun v σ Q => WE (callW K.Φ n) noX pe (put m cx.slots.length v) σ Q) okk its [] σ Q)
    (hRR : ∀ D C s' g' σ' acc ws kD ns, Go K g s.heap g' σ' s'.heap → Sx s s' → IsL s'.heap D ws kD → VRels K g' s'.heap acc ws.toList → s.heap.get? D = none → s.heap.get? C = none → C ≠ D → (¬ g'.own D ∧ K.hB.get? D = none) → (¬ g'.own C ∧ K.hB.get? C = none) → s'.heap.Ns C ns → alloc acc σ' Q → RR (.ref D) C (.ok .next) s') :
    wpAny (model K.prog K.w) A (eval iter env) (fun xv s₁ => wpAny (model K.prog K.w) A (pyIter xv) (fun it s₂ => wpAny (model K.prog K.w) A (newList []) (fun acc s₃ =>
      wpAny (model K.prog K.w) A (newFunctionEnv scope env.globals (clOf env scope.names) [] env.qual none .none (some env)) (fun cenv s₄ =>
        codeAny (model K.prog K.w) A (.compStart (.ListComp elt [⟨.Name x px, iter, ifs, 0⟩] scope pos) 0 it acc { cenv with scope := relabel scope env }) (RR acc cenv.locals) s₄) noE s₃) noE s₂) noE s₁) noE s := by
  refine wpAny_mono (hsrc env A m g σ s (.Name x px) _ R F S htg W) (fun xv s₁ q => wpAny_mono q (fun it s₂ q => ?_) fun _ _ f => f) fun _ _ f => f
  obtain ⟨g₂, σ₂, vs, okk, X, J, go₂, sx₂, I, hJ, hX, W₂⟩ := q
  refine wpAny_newObj_type (wpAny_newFunctionEnv ok.nocell (by intro y hy; simp at hy) (fun h₁ hns₁ hsb₁ => ?_) ok.kind)
  dsimp only at hns₁ hsb₁ ⊢
  generalize hH2 : s₂.heap.push { cls := .type "list", dict := none, data := .seq ([] : List Value).toArray } = H2 at hns₁ hsb₁ ⊢
  have hC : H2.objs.size = s₂.heap.objs.size + 1 := by (refine rwE (Eq.symm (hH2)) ?_; (rewrite [Heap.size_push]; with_reducible rfl))
  have nD : s₂.heap.get? s₂.heap.objs.size = none := none_at_size _
  have nC : s₂.heap.get? H2.objs.size = none := none_above (by refine rwE hC ?_; exact Nat.le_succ _)
  have hCD : H2.objs.size ≠ s₂.heap.objs.size := by refine rwE hC ?_; exact ne_ad (.inr (Nat.lt_succ_self _))
  have old : ∀ b o, s₂.heap.get? b = some o → h₁.get? b = some o := fun b o e => by
    refine hsb₁.extBut b o ?_ (Heap.get?_push_of_some _ (hH2 ▸ Heap.get?_push_of_some _ e))
    rintro rfl
    rw [nC] at e; cases e
  have hl : IsL h₁ s₂.heap.objs.size #[] 0 := hsb₁.extBut _ _ (Ne.symm hCD) (Heap.get?_push_of_some _ (hH2 ▸ Heap.get?_push_size _ rfl))
  have fC := fresh_not go₂.st nC
  have fD := fresh_not go₂.st nD
  have go₃ : Go K g₂ s₂.heap g₂ σ₂ h₁ := Go.change go₂.st old
  have F₃ := (F.go S go₂).go go₂.st go₃
  have Fc : Fr K (compEnvC scope (clOf env scope.names) H2.objs.size env) (compCx cx scope.names x) m g₂ h₁ := comp_frame (h' := h₁) (g₁ := g₂) (σ := σ₂) F₃ ok hns₁ fC
  have hxl : (compCx cx scope.names x).names.lookup x = some .local := by
    have e := relabel_eq F scope
    show List.lookup x (relN cx.names scope.names) = _
    refine rwE (Eq.symm (e)) ?_
    exact lookup_relabel_local ok.own
  have hxs : (compCx cx scope.names x).slots.lookup x = some cx.slots.length := by simp [compCx]
  have hXD : ¬ X s₂.heap.objs.size := fun z => by
    obtain ⟨_, _, o, e, _⟩ := I.priv 0 g₂ s₂.heap hJ _ z
    rw [nD] at e; cases e
  have hXC : ¬ X H2.objs.size := fun z => by
    obtain ⟨_, _, o, e, _⟩ := I.priv 0 g₂ s₂.heap hJ _ z
    rw [nC] at e; cases e
  have hJ₃ : J 0 g₂ h₁ := I.stay 0 (fun _ => False) g₂ σ₂ s₂.heap g₂ σ₂ h₁ hJ go₂.st go₃.toX fun b hb => hb.elim
  have loop : ∀ s₃ : Shared, s₃ = { s₂ with heap := h₁, toks := s₂.toks + ([] : List (Str × Value)).length } →
      codeAny (model K.prog K.w) A (.compLoop (.ListComp elt [⟨.Name x px, iter, ifs, 0⟩] scope pos) 0 it (.ref s₂.heap.objs.size) (compEnvC scope (clOf env scope.names) H2.objs.size env)) (RR (.ref s₂.heap.objs.size) H2.objs.size) s₃ := by
    rintro s₃ rfl
    refine comp_loop (s₀ := s) (g₀ := g) (cenv := compEnvC scope (clOf env scope.names) H2.objs.size env) (m := m) (T := T) I hxl hxs hX (go_none go₂ nC) (go_none go₂ nD) hXD (fun v g σ s L F' S' W' => hT _ v g σ s L F' S' W') (fun v g σ s L F' S' W' => helt _ A _ g σ s L R F' S' W') ?_
      hJ₃ Fc (go₂.trans go₃) ⟨sx₂.1, sx₂.2⟩ hl fD W₂
    intro s' g' σ' acc ws kD ns a1 a2 a3 a4 a5 a6 a7 a8
    exact hRR _ _ s' g' σ' acc ws kD ns a1 a2 a3 a4 (go_none go₂ nD) (go_none go₂ nC) hCD a5 a6 a7 a8
  exact codeAny_compStart_list (loop _ rfl) (wpAny_mono (I.self 0 g₂ _ (fun it' s' => it' = it ∧ s' = { s₂ with heap := h₁, toks := s₂.toks + ([] : List (Str × Value)).length }) hJ₃ ⟨rfl, rfl⟩) (fun it' s' q => by
    obtain ⟨rfl, rfl⟩ := q
    exact loop _ rfl) fun _ _ f => f.elim)

theorem comp_end {g g' : G} {σ' : H} {s s' : Shared} {D C : Addr} {acc : List V} {ws : Array Value} {kD : Nat} {Q : P} {h' : Heap} {tk : Nat} (go : Go K g s.heap g' σ' s'.heap) (sx : Sx s s') (hl : IsL s'.heap D ws kD) (hr : VRels K g' s'.heap acc ws.toList) (hD : s.heap.get? D = none) (hC : s.heap.get? C = none) (hCD : C ≠ D)
    (pD : ¬ g'.own D ∧ K.hB.get? D = none) (pC : ¬ g'.own C ∧ K.hB.get? C = none) (hs : Heap.SameBut C s'.heap h') (q : alloc acc σ' Q) : EndE K g s Q (.ref D) { s' with heap := h' } := by
  have hk : ∀ b o, s'.heap.get? b = some o → ¬ (b = C) → h'.get? b = some o := fun b o e n => hs.extBut b o n e
  have S' : St K g' σ' h' := go.st.change fun b o e z => hk b o e (by
    rintro rfl
    rcases z with z | ⟨o', z⟩
    · exact pC.1 z
    · rw [pC.2] at z; cases z)
  have go' : GoX K (fun _ => False) g s.heap g' σ' h' := (go.toX).halt S' hk fun b hb => hb ▸ hC
  have hr' : VRels K g' h' acc ws.toList := VRels.mono (fun _ _ e => e) (fun _ i => i) (fun b o i e => hk b o e fun z => pC.1 (z ▸ .inr i)) _ _ hr
  have fin := go'.gainList hD pD (hk D _ hl (Ne.symm hCD)) hr' q.1
  refine ⟨.ref σ'.length, _, _, fin.toGo fun _ f => f.elim, ⟨sx.1, sx.2⟩, ⟨D, ?_, rfl⟩, q.2⟩
  show (g'.ρ ++ [D])[σ'.length]? = some D
  refine rwE (Eq.symm (go.st.len)) ?_; simp

theorem hnames_of {scope : Scope} {x : Str} (ok : CompOk cx scope x) : ∀ y ∈ scope.names, y.2 = .local → scope.names.lookup y.1 = some .local := fun y hy hl => (ok.loc y hy hl).2
theorem cells_of {env : Env} {m : M} {g : G} {h : Heap} {scope : Scope} {x : Str} (F : Fr K env cx m g h) (ok : CompOk cx scope x) : ∀ p ∈ scope.names, p.2 = .free → ∃ c, env.cells.lookup p.1 = some c := fun p hp hf => by
  obtain ⟨h1, k, h2⟩ := ok.free p hp hf
  obtain ⟨c, o, e, _⟩ := F.cell p.1 k h2 h1
  exact ⟨c, e⟩

/-- how a block's tests are compiled -/
inductive Tests (K : Ctx) (n : Nat) (cx : Cx) (src : Src) (k : Nat) (pe : E) : List Expr → E → Prop where
  | none : Tests K n cx src k pe [] (.comp pe k src)
  | one {t : Expr} {pt : E} (h : STr K n cx t pt) : Tests K n cx src k pe [t] (.compIf pe k src pt)

theorem tests_go {env : Env} {A : Around} {m : M} {g : G} {σ : H} {s : Shared} {iter elt : Expr} {x : Str} {px pos : Pos} {ifs : List Expr} {scope : Scope} {src : Src} {pe e : E} {Q : P} {RR : Value → Addr → Result → Shared → Prop}
    (R : Room K A n) (F : Fr K env cx m g s.heap) (S : St K g σ s.heap) (ok : CompOk cx scope x) (hsrc : SSrc K n cx iter src) (htg : tgtOk src (.Name x px)) (helt : SE K n (compCx cx scope.names x) elt pe) (ht : Tests K n (compCx cx scope.names x) src cx.slots.length pe ifs e)
    (W : WE (callW K.Φ n) noX e m σ Q)
    (hRR : ∀ D C s' g' σ' acc ws kD ns, Go K g s.heap g' σ' s'.heap → Sx s s' → IsL s'.heap D ws kD → VRels K g' s'.heap acc ws.toList → s.heap.get? D = none → s.heap.get? C = none → C ≠ D → (¬ g'.own D ∧ K.hB.get? D = none) → (¬ g'.own C ∧ K.hB.get? C = none) → s'.heap.Ns C ns → alloc acc σ' Q → RR (.ref D) C (.ok .next) s') :
    wpAny (model K.prog K.w) A (eval iter env) (fun xv s₁ => wpAny (model K.prog K.w) A (pyIter xv) (fun it s₂ => wpAny (model K.prog K.w) A (newList []) (fun acc s₃ =>
      wpAny (model K.prog K.w) A (newFunctionEnv scope env.globals (clOf env scope.names) [] env.qual none .none (some env)) (fun cenv s₄ =>
        codeAny (model K.prog K.w) A (.compStart (.ListComp elt [⟨.Name x px, iter, ifs, 0⟩] scope pos) 0 it acc { cenv with scope := relabel scope env }) (RR acc cenv.locals) s₄) noE s₃) noE s₂) noE s₁) noE s := by
  cases ht with
  | none => exact comp_all (T := fun _ σ L => L true σ) R F S ok hsrc htg helt (fun cenv v g σ s L F' S' W' => wpAny_tests_nil ⟨g, σ, Go.refl S', Sx.refl s, W'⟩) W hRR
  | one h => exact comp_all R F S ok hsrc htg helt (fun cenv v g σ s L F' S' W' => wpAny_tests_one (h cenv A _ g σ s L R F' S' W')) W hRR

theorem se_comp {iter elt : Expr} {x : Str} {px pos : Pos} {ifs : List Expr} {scope : Scope} {src : Src} {pe e : E} (ok : CompOk cx scope x) (hset : ∀ env v, foldedSetIterable iter env v = pure v) (hsrc : SSrc K n cx iter src) (htg : tgtOk src (.Name x px)) (helt : SE K n (compCx cx scope.names x) elt pe)
    (ht : Tests K n (compCx cx scope.names x) src cx.slots.length pe ifs e) : SE K n cx (.ListComp elt [⟨.Name x px, iter, ifs, 0⟩] scope pos) e := fun env A m g σ s Q R F S W => by
  rewrite [eval_ListComp]
  refine wpAny_comprehension_free (use := none) rfl (hset env) (closure_eq (cells_of F ok)) ok.kind (hnames_of ok) ?_
  refine tests_go (RR := fun acc C => compPost (model K.prog K.w) A noE none (EndE K g s Q) acc C) R F S ok hsrc htg helt ht W ?_
  intro D C s' g' σ' acc ws kD ns a1 a2 a3 a4 a5 a6 a7 a8 a9 a10 a11
  exact ⟨ns, a10, fun h' hs' => comp_end (tk := 0) a1 a2 a3 a4 a5 a6 a7 a8 a9 hs' a11⟩

/-- a comprehension stored by a plain name of its own line: the stores are exchanged -/
theorem ss_comp {iter elt : Expr} {x y : Str} {px py pos spos : Pos} {ifs : List Expr} {scope : Scope} {src : Src} {pe e : E} {k : Nat} (ok : CompOk cx scope x) (hset : ∀ env v, foldedSetIterable iter env v = pure v) (hsrc : SSrc K n cx iter src) (htg : tgtOk src (.Name x px)) (helt : SE K n (compCx cx scope.names x) elt pe)
    (ht : Tests K n (compCx cx scope.names x) src cx.slots.length pe ifs e) (hy : cx.names.lookup y = some .local) (hk : cx.slots.lookup y = some k)
    {env : Env} {A : Around} {m : M} {g : G} {σ : H} {s : Shared} {N : M → H → Prop} {Rt : P} (R : Room K A n) (F : Fr K env cx m g s.heap) (S : St K g σ s.heap) (hsw : swapsWith (.ListComp elt [⟨.Name x px, iter, ifs, 0⟩] scope pos) (some (.Name y py)) spos.line env = pure true)
    (W : WE (callW K.Φ n) noX e m σ fun v σ => N (put m k v) σ) : wpAny (model K.prog K.w) A (exec (.Assign [.Name y py] (.ListComp elt [⟨.Name x px, iter, ifs, 0⟩] scope pos) spos) env) (EndS K env cx g s N Rt) noE s := by
  refine rwE (exec_Assign_Name_used _ _ _ _ hsw) ?_
  refine wpAny_bind (wpAny_standAt (wpAny_bind ?_))
  show wpAny _ A (do let _ ← comprehension (.ListComp elt [⟨.Name x px, iter, ifs, 0⟩] scope pos) scope env _ (newList []) false (eval iter env) (some (assign (.Name y py) env))) _ _ s
  refine wpAny_bind (wpAny_mono (wpAny_comprehension_free (use := some (assign (.Name y py) env)) (Q := fun _ s' => EndS K env cx g s N Rt .next s') rfl (hset env) (closure_eq (cells_of F ok)) ok.kind (hnames_of ok) ?_) (fun _ s' hq => wpAny_pure (wpAny_pure hq)) fun _ _ e => e)
  refine tests_go (RR := fun acc C => compPost (model K.prog K.w) A noE (some (assign (.Name y py) env)) (fun _ s' => EndS K env cx g s N Rt .next s') acc C) R F S ok hsrc htg helt ht W ?_
  intro D C s' g' σ' acc ws kD ns a1 a2 a3 a4 a5 a6 a7 a8 a9 a10 a11
  show wpAny _ A (assign (.Name y py) env (.ref D)) _ _ _
  have fin := (a1.toX (X := fun _ => False)).gainList a5 a8 a3 a4 a11.1
  have finG : Go K g s.heap ⟨g'.ρ ++ [D], g'.ι⟩ (σ' ++ [acc]) s'.heap := fin.toGo fun _ f => f.elim
  have F' := F.go S finG
  have hrel : VRel K ⟨g'.ρ ++ [D], g'.ι⟩ s'.heap (.ref σ'.length) (.ref D) := ⟨D, by show (g'.ρ ++ [D])[σ'.length]? = some D; refine rwE (Eq.symm (a1.st.len)) ?_; simp, rfl⟩
  refine wpAny_assign_Name (store_local F' finG.st hy hk hrel fun s₂ go₂ sx₂ F₂ => ?_)
  have hLC : C ≠ env.locals := by
    rintro rfl
    obtain ⟨_, ⟨o, es, ep, ho, _⟩, _⟩ := F.loc
    rw [a6] at ho; cases ho
  refine ⟨ns, (go₂.keep C (fun z => by
    rcases List.mem_append.mp z with z | z
    · exact a9.1 (.inl z)
    · simp at z; exact a7 z) hLC).ns a10, fun h' hs' => ?_⟩
  have pC : ¬ (⟨g'.ρ ++ [D], g'.ι⟩ : G).own C := fun z => by
    rcases z with z | z
    · rcases List.mem_append.mp z with z | z
      · exact a9.1 (.inl z)
      · simp at z; exact a7 z
    · exact a9.1 (.inr z)
  have hkp : ∀ b o, s₂.heap.get? b = some o → ¬ (b = C) → h'.get? b = some o := fun b o e n => hs'.extBut b o n e
  have S' : St K ⟨g'.ρ ++ [D], g'.ι⟩ (σ' ++ [acc]) h' := go₂.st.change fun b o e z => hkp b o e (by
    rintro rfl
    rcases z with z | ⟨o', z⟩
    · exact pC z
    · rw [a9.2] at z; cases z)
  have go3 : GoX K (fpOf env) g s.heap ⟨g'.ρ ++ [D], g'.ι⟩ (σ' ++ [acc]) s₂.heap := (finG.toX).step go₂ fun b hb => .inl (.inl hb)
  have go4 := go3.halt S' hkp fun b hb => hb ▸ a6
  have F₃ := F₂.stay go₂.st hkp (fun b hb hf => by
    subst hb
    rcases hf with hf | ⟨z, hf⟩
    · exact hLC hf
    · obtain ⟨_, _, v, o, ho, _⟩ := F.privC z b hf
      rw [a6] at ho; cases ho) (fun b hb => hb ▸ pC) fun ev he => by
    obtain ⟨k, L, o, f1, f2, f3, f4, f5⟩ := F.frs ev he
    obtain ⟨k', L', o', f1', f2', f3', f4', f5'⟩ := F₂.frs ev he
    rw [f1] at f1'; cases f1'
    exact ⟨k, L, o', f1, f2, f3', hkp L o' f4' (fun z => by rw [z, a6] at f4; cases f4), f5'⟩
  exact ⟨_, _, _, go4, ⟨(a2.trans sx₂).1, (a2.trans sx₂).2⟩, F₃, a11.2⟩
end
end Mini

set_option autoImplicit false
set_option linter.unusedVariables false
namespace Mini
open PySem
section
variable {K : Ctx} {pg : Pg} {n : Nat} {cx : Cx}

theorem vmro_ref (a : Addr) : vmro.contains (.ref a) = false := rfl
theorem sub_ok (G₀ : Gr K pg) {c d : Nat} (hc : c ∈ excNums) (hd : d ∈ excNums) : (Value.ref (K.exC c) :: above K c).contains (.ref (K.exC d)) = excSub c d := by
  have eqv : ∀ {i j : Nat}, i ∈ excNums → j ∈ excNums → ((Value.ref (K.exC i) == Value.ref (K.exC j)) = (i == j)) := fun {i j} hi hj => by
    by_cases h : i = j
    · subst h; (rewrite [beq_self_eq_true]; (rewrite [beq_self_eq_true]; with_reducible rfl))
    · have : ¬ K.exC i = K.exC j := fun z => h (G₀.excI i hi j hj z)
      (refine rwE (beq_eq_false_iff_ne.mpr h) ?_; (refine rwE (beq_eq_false_iff_ne.mpr fun z => this (by injection z)) ?_; with_reducible rfl))
  have h100 : (100 : Nat) ∈ excNums := by decide
  have hd1 : (d == 101) = false := by
    simp only [excNums, List.mem_cons, List.not_mem_nil, or_false] at hd
    rcases hd with rfl | rfl | rfl | rfl | rfl | rfl | rfl <;> rfl
  (refine rwE List.contains_cons ?_; refine rwE (eqv hd hc) ?_)
  unfold above excSub
  (refine rwE hd1 ?_; rewrite [Bool.or_false])
  by_cases h : c = 100
  · subst h
    (refine rwE (if_pos rfl) ?_; rewrite [vmro_ref]; rewrite [Bool.or_false])
    have : (100 == d) = (d == 100) := by rewrite [Bool.eq_iff_iff]; simp; exact eq_comm
    refine rwE this ?_; simp
  · (refine rwE (if_neg h) ?_; refine rwE List.contains_cons ?_; refine rwE (eqv hd h100) ?_; rewrite [vmro_ref]; rewrite [Bool.or_false])
    have : (c == d) = (d == c) := by rewrite [Bool.eq_iff_iff]; simp; exact eq_comm
    (refine rwE this ?_; with_reducible rfl)
theorem ve_sub (c : Nat) : excSub c 101 = true := by simp [excSub]

/-- the class that is asked for, by name -/
noncomputable def excOf (y : Str) : Option Nat := if y = "ValueError" then some 101 else excNames.lookup y
inductive XcV (K : Ctx) : Nat → Value → Prop
  | ve : XcV K 101 (.type "ValueError")
  | own {k : Nat} (h : k ∈ excNums) : XcV K k (.ref (K.exC k))
theorem load_exc (G₀ : Gr K pg) {env : Env} {A : Around} {m : M} {g : G} {σ : H} {s : Shared} {y : Str} {k : Nat} {pos : Pos} {Q : Value → Shared → Prop} {E : Value → Shared → Prop} (F : Fr K env cx m g s.heap) (S : St K g σ s.heap)
    (hy : cx.names.lookup y = some .globalImplicit) (hd : (y == ("__debug__" : Str)) = false) (hk : excOf y = some k) (h : ∀ v, XcV K k v → Q v s) : wpAny (model K.prog K.w) A (eval (.Name y pos) env) Q E s := by
  unfold excOf at hk
  split at hk
  · rename_i e
    cases hk
    subst e
    exact load_blt G₀ F S hy hd rfl (h _ .ve)
  · exact load_glob G₀ F S hy hd (G₀.excN y k hk) (h _ (.own (exc_num hk)))

theorem ask_exc (G₀ : Gr K pg) {A : Around} {g : G} {σ : H} {s : Shared} {c k : Nat} {v w : Value} {Q : P} (S : St K g σ s.heap) (r : VRel K g s.heap (.exc c) v) (x : XcV K k w) (q : Q (.bool (excSub c k)) σ) :
    wpAny (model K.prog K.w) A (call (.builtin "isinstance") [v, w]) (EndE K g s Q) noE s := by
  obtain ⟨e, o, rfl, hi, he, hc, hn⟩ := r
  have X := (G₀.exc c hn).keeps S.base
  cases x with
  | ve =>
    refine call_isinstance meets_ve ⟨⟨X, he, hc⟩, ?_⟩
    rw [ve_sub] at q
    exact ⟨.bool true, g, σ, Go.refl S, Sx.refl s, rfl, q⟩
  | own hk =>
    refine call_isinstance meets_own ⟨⟨X, (G₀.exc k hk).keeps S.base, he, hc⟩, fun tk => ?_⟩
    refine rwE (sub_ok G₀ hn hk) ?_
    exact end_same S (vbool ..) q

theorem se_isexc (G₀ : Gr K pg) {x y : Str} {p p' pos : Pos} {e : Expr} {a : E} {k : Nat} (hx : cx.names.lookup x = some .globalImplicit) (hd : (x == ("__debug__" : Str)) = false) (hv : blts.lookup x = some (.builtin "isinstance"))
    (hy : cx.names.lookup y = some .globalImplicit) (hdy : (y == ("__debug__" : Str)) = false) (hk : excOf y = some k) (h : SE K n cx e a) (hst : isStar e = false) : SE K n cx (.Call (.Name x p) [e, .Name y p'] [] pos) (.isexc a [k]) := fun env A m g σ s Q R F S W => by
  refine wpAny_Call_ofName (load_blt G₀ F S hx hd hv ?_)
  show wpAny _ A (callWith pos (.builtin "isinstance") [] (backTo pos (starEach [e, .Name y p'] env)) []) _ _ s
  (refine rwE (star_cons hst) ?_; refine rwE (star_cons (e := .Name y p') rfl) ?_)
  refine Calls.callWith_builtin rfl (Calls.evalArgs_plain (Calls.spliced_cons (wpAny_mono (h env A m g σ s _ R F S W) (fun v s₁ q => ?_) fun _ _ f => f)))
  obtain ⟨r₁, g₁, σ₁, go₁, sx₁, rel₁, W₁⟩ := q
  refine Calls.spliced_cons (load_exc G₀ (F.go S go₁) go₁.st hy hdy hk fun u xu => Calls.spliced_nil ?_)
  cases r₁ <;> try exact False.elim W₁
  refine EndE.bind go₁ sx₁ (ask_exc G₀ go₁.st rel₁ xu ?_)
  simpa using W₁

/-- names of classes -/
inductive XcNs (cx : Cx) : List Expr → List Nat → Prop
  | nil : XcNs cx [] []
  | cons {y : Str} {p : Pos} {k : Nat} {es : List Expr} {ks : List Nat} (hy : cx.names.lookup y = some .globalImplicit) (hd : (y == ("__debug__" : Str)) = false) (hk : excNames.lookup y = some k) (r : XcNs cx es ks) : XcNs cx (.Name y p :: es) (k :: ks)
theorem XcNs.len {es : List Expr} {ks : List Nat} (h : XcNs cx es ks) : es.length = ks.length := by
  induction h with
  | nil => rfl
  | cons _ _ _ _ ih => exact congrArg (· + 1) ih
theorem XcNs.num {es : List Expr} {ks : List Nat} (h : XcNs cx es ks) : ∀ k ∈ ks, k ∈ excNums := by
  induction h with
  | nil => exact nofun
  | cons _ _ hk _ ih => exact fun j hj => (List.mem_cons.mp hj).elim (fun e => e ▸ exc_num hk) (ih j)
theorem ses_exc (G₀ : Gr K pg) {env : Env} {A : Around} {m : M} {g : G} {σ : H} {s : Shared} {pos : Pos} (F : Fr K env cx m g s.heap) (S : St K g σ s.heap) {E : Value → Shared → Prop} {es : List Expr} {ks : List Nat} (h : XcNs cx es ks) :
    ∀ (Q : List Value → Shared → Prop), Q (ks.map fun k => .ref (K.exC k)) s → wpAny (model K.prog K.w) A (spliced (backTo pos (starEach es env))) Q E s := by
  induction h with
  | nil => exact fun Q q => Calls.spliced_nil q
  | @cons y p k es ks hy hd hk r ih =>
    intro Q q
    refine rwE (star_cons (e := .Name y p) rfl) ?_
    exact Calls.spliced_cons (load_glob G₀ F S hy hd (G₀.excN y k hk) (ih _ q))
theorem answers_all (G₀ : Gr K pg) {h : Heap} {a : Addr} {o : Obj} {c : Nat} (hb : ∀ b o, K.hB.get? b = some o → h.get? b = some o) (hn : c ∈ excNums) (hx : h.get? a = some o) (hc : o.cls = .ref (K.exC c)) : ∀ (ks : List Nat), (∀ k ∈ ks, k ∈ excNums) → AnswersAll (fun s => s.heap = h) (.ref a) (ks.map fun k => .ref (K.exC k)) (ks.map (excSub c))
  | [], _ => trivial
  | k :: ks, hk => by
    refine ⟨?_, answers_all G₀ hb hn hx hc ks fun j hj => hk j (.tail _ hj)⟩
    refine rwE (Eq.symm (sub_ok G₀ hn (hk k (.head _)))) ?_
    exact answers_own ((G₀.exc c hn).keeps hb) ((G₀.exc k (hk k (.head _))).keeps hb) hx hc
theorem any_map {ks : List Nat} {f : Nat → Bool} : (ks.map f).any id = ks.any f := by
  induction ks with
  | nil => rfl
  | cons k ks ih => simp [ih]
theorem se_isexcN (G₀ : Gr K pg) {x : Str} {p pt pos : Pos} {kt : Nat} {e : Expr} {a : E} {es : List Expr} {ks : List Nat} (hx : cx.names.lookup x = some .globalImplicit) (hd : (x == ("__debug__" : Str)) = false) (hv : blts.lookup x = some (.builtin "isinstance"))
    (hl : es.length ≤ 100) (hk : XcNs cx es ks) (h : SE K n cx e a) (hst : isStar e = false) : SE K n cx (.Call (.Name x p) [e, .Tuple es kt pt] [] pos) (.isexc a ks) := fun env A m g σ s Q R F S W => by
  refine wpAny_Call_ofName (load_blt G₀ F S hx hd hv ?_)
  show wpAny _ A (callWith pos (.builtin "isinstance") [] (backTo pos (starEach [e, .Tuple es kt pt] env)) []) _ _ s
  (refine rwE (star_cons hst) ?_; refine rwE (star_cons (e := .Tuple es kt pt) rfl) ?_)
  refine Calls.callWith_builtin rfl (Calls.evalArgs_plain (Calls.spliced_cons (wpAny_mono (h env A m g σ s _ R F S W) (fun v s₁ q => ?_) fun _ _ f => f)))
  obtain ⟨r₁, g₁, σ₁, go₁, sx₁, rel₁, W₁⟩ := q
  have F₁ := F.go S go₁
  refine Calls.spliced_cons (wpAny_Tuple_spliced (ses_exc G₀ F₁ go₁.st hk _ ?_))
  cases r₁ <;> try exact False.elim W₁
  rename_i c
  refine ⟨by (rewrite [List.length_map]; refine rwE (Eq.symm (hk.len)) ?_; refine rwE sizeLine_is ?_); exact Nat.le_trans (by assumption) (by decide), Calls.spliced_nil ?_⟩
  obtain ⟨e, o, rfl, hi, he, hc, hn⟩ := rel₁
  have hkp : ∀ b o, s₁.heap.get? b = some o → (s₁.heap.push { cls := .type "tuple", data := .seq (ks.map fun k => Value.ref (K.exC k)).toArray }).get? b = some o := fun b o e => Heap.get?_push_of_some _ e
  have go₂ := Go.change go₁.st hkp
  have htp := Heap.get?_push_size s₁.heap (o := { cls := .type "tuple", data := .seq (ks.map fun k => Value.ref (K.exC k)).toArray }) rfl
  have hne : (Value.ref (K.exC c) == Value.ref s₁.heap.objs.size) = false := beq_eq_false_iff_ne.mpr fun z => by
    injection z with z
    obtain ⟨_, _, _, _, _, _, _, _, _, _, _, _, _, _, _, _, hC, _⟩ := G₀.exc c hn
    have := Heap.lt_size (go₁.st.base _ _ hC)
    rw [z] at this
    exact Nat.lt_irrefl _ this
  refine EndE.bind (s₁ := { s₁ with heap := s₁.heap.push { cls := .type "tuple", data := .seq (ks.map fun k => Value.ref (K.exC k)).toArray } }) (go₁.trans go₂) ⟨sx₁.1, sx₁.2⟩ (call_isinstance (meets_tup (answers_all G₀ go₂.st.base hn (hkp _ _ he) hc ks hk.num) (hkp _ _ he) hc hne htp) ⟨rfl, fun tk => ?_⟩)
  refine rwE any_map ?_
  exact end_same go₂.st (vbool ..) W₁
end
end Mini

set_option autoImplicit false
set_option linter.unusedVariables false
namespace Mini
open PySem

structure C3 where
  v : Option E
  t : Option E
  s : Option Src

noncomputable def C3.no : C3 := ⟨none, none, none⟩
noncomputable def C3.ofV (v : Option E) : C3 := ⟨v, none, v.map .list⟩
noncomputable def C3.ofVT (v : Option E) : C3 := ⟨v, v, v.map .list⟩

noncomputable def cConst : Const → C3
  | .none => .ofV (some .none)
  | .bool b => .ofVT (some (.bool b))
  | .int i => .ofV (some (.int i))
  | .str x => .ofV ((words.idxOf? x).map .str)
  | _ => .no

noncomputable def isG (cx : Cx) (x : Str) : Bool := cx.names.lookup x == some .globalImplicit && !(x == ("__debug__" : Str))
noncomputable def cName (pg : Pg) (cx : Cx) (x : Str) : C3 :=
  if x == ("__debug__" : Str) then .no else match slotOf cx x with
    | some k => .ofVT (some (.var k))
    | none => if cx.names.lookup x == some .globalImplicit then .ofV ((pg.consts.lookup x).map .int) else .no

noncomputable def foldB (f : E → E → E) : List (Option E) → Option E
  | [] => none
  | [a] => a
  | a :: r => match a, foldB f r with
    | some x, some y => some (f x y)
    | _, _ => none
noncomputable def allV : List C3 → Option (List E)
  | [] => some []
  | c :: cs => m2 List.cons c.v (allV cs)

set_option genInjectivity false
set_option genSizeOfSpec false
inductive Bk where
  | len | list | isi | sum | int | range | enum | bool | ve
noncomputable def bkV (k : Bk) : Value := match k with
  | .len => .builtin "len"
  | .list => .type "list"
  | .isi => .builtin "isinstance"
  | .sum => .builtin "sum"
  | .int => .type "int"
  | .range => .type "range"
  | .enum => .type "enumerate"
  | .bool => .type "bool"
  | .ve => .type "ValueError"
noncomputable def bks : List (Str × Bk) := [("len", .len), ("list", .list), ("isinstance", .isi), ("sum", .sum), ("int", .int), ("range", .range), ("enumerate", .enum), ("bool", .bool), ("ValueError", .ve)]
theorem look_map {f : Bk → Value} {x : Str} {k : Bk} : ∀ {l : List (Str × Bk)}, l.lookup x = some k → (l.map fun p => (p.1, f p.2)).lookup x = some (f k)
  | [], h => by cases h
  | (y, j) :: l, h => by
    (refine rwE List.map_cons ?_; refine rwE List.lookup_cons ?_)
    rw [List.lookup_cons] at h
    cases hy : x == y with
    | true => rw [hy] at h; cases h; rfl
    | false => rw [hy] at h; exact look_map h
theorem bk_ok {x : Str} {k : Bk} (h : bks.lookup x = some k) : blts.lookup x = some (bkV k) := look_map (f := bkV) h
noncomputable def bkD (k : Bk) : Option Kd := match k with
  | .int => some .int
  | .bool => some .bool
  | .list => some .list
  | _ => none
noncomputable def kdT (y : Str) : Option Kd := (bks.lookup y).bind bkD

/-- a builtin by its name, upon what its arguments are -/
noncomputable def cB1 (c : C3) (k : Bk) : C3 := match k with
  | .len => .ofV (c.v.map (.b1 .len))
  | .list => .ofV (c.v.map (.b1 .list))
  | .sum => .ofV (c.v.map (.b1 .sum))
  | .int => .ofV (c.v.map (.b1 .intOf))
  | .range => ⟨none, none, c.v.map .range⟩
  | .enum => ⟨none, none, c.v.map .enum⟩
  | _ => .no
noncomputable def cB2 (c d : C3) (k : Bk) : C3 := match k with
  | _ => .no
noncomputable def onBk (x : Str) (f : Bk → C3) : C3 := match bks.lookup x with
  | some k => f k
  | none => .no
noncomputable def cBlt (x : Str) (cs : List C3) : C3 := match cs with
  | [] => .no
  | c :: cs => match cs with
    | [] => onBk x (cB1 c)
    | d :: cs => match cs with
      | [] => onBk x (cB2 c d)
      | _ :: _ => .no

noncomputable def cMeth (name : Str) (o : Option E) : List C3 → C3
  | [] => if name = "reverse" then .ofV (o.map (.m0 .reverse)) else .no
  | [c] => match o, c.v with
    | some a, some b => if name = "append" then .ofV (some (.m1 .append a b)) else if name = "pop" then .ofV (some (.m1 .pop a b)) else if name = "count" then .ofV (some (.m1 .count a b)) else if name = "index" then .ofV (some (.m1 .index a b)) else .no
    | _, _ => .no
  | _ => .no

noncomputable def srcN : Option Src → Option Src
  | some (.list a) => some (.list a)
  | some (.range a) => some (.range a)
  | _ => none

noncomputable def isSlice : Expr → Bool
  | .Slice .. => true
  | _ => false
noncomputable def nameO (e : Expr) : Option Str := match e with
  | .Name y _ => some y
  | _ => none
noncomputable def name2 (as : List Expr) : Option Str := match as with
  | [] => none
  | _ :: as => match as with
    | [] => none
    | e :: as => match as with
      | [] => nameO e
      | _ :: _ => none
noncomputable def firstV : List C3 → Option E
  | c :: _ => c.v
  | [] => none
noncomputable def isIsi (k : Bk) : Bool := match k with
  | .isi => true
  | _ => false
noncomputable def isiOf (x : Str) (as : List Expr) : Option Str := if (bks.lookup x).any isIsi then name2 as else none
noncomputable def cCallN (pg : Pg) (cx : Cx) (as : List Expr) (cs : List C3) (x : Str) : C3 := if isG cx x then (match pg.fns.lookup x with
      | some i => .ofVT ((allV cs).map (.call i))
      | none => if x = pg.hall ∧ x ≠ "" then (if as.isEmpty then .no else .ofV ((allV cs).map .hall)) else match isiOf x as with
        | some y => if isG cx y then .ofVT (m2 .isinst (firstV cs) (kdT y)) else .no
        | none => cBlt x cs) else .no
noncomputable def cCall (pg : Pg) (cx : Cx) (as : List Expr) (pos : Pos) (o : Option E) (cs : List C3) : Expr → C3
  | .Name x _ => cCallN pg cx as cs x
  | .Attribute ob name apos => if plainBase ob && apos.endLine == pos.line then cMeth name o cs else .no
  | _ => .no

noncomputable def m3 {α β γ δ : Type} (f : α → β → γ → δ) (a : Option α) (b : Option β) (c : Option γ) : Option δ := a.bind fun x => m2 (f x) b c
theorem m3_some {α β γ δ : Type} {f : α → β → γ → δ} {a : Option α} {b : Option β} {c : Option γ} {d : δ} (h : m3 f a b c = some d) : ∃ x y z, a = some x ∧ b = some y ∧ c = some z ∧ d = f x y z := by
  cases a with
  | none => cases h
  | some x => obtain ⟨y, z, h1, h2, h3⟩ := m2_some h; exact ⟨x, y, z, rfl, h1, h2, h3⟩
theorem m2_ok {α β γ : Type} {f : α → β → γ} {a : Option α} {b : Option β} {G : γ → Prop} (h : ∀ x y, a = some x → b = some y → G (f x y)) : ∀ q, m2 f a b = some q → G q := fun q hq => by
  obtain ⟨x, y, h1, h2, rfl⟩ := m2_some hq; exact h x y h1 h2
theorem m3_ok {α β γ δ : Type} {f : α → β → γ → δ} {a : Option α} {b : Option β} {c : Option γ} {G : δ → Prop} (h : ∀ x y z, a = some x → b = some y → c = some z → G (f x y z)) : ∀ q, m3 f a b c = some q → G q := fun q hq => by
  obtain ⟨x, y, z, h1, h2, h3, rfl⟩ := m3_some hq; exact h x y z h1 h2 h3
theorem map_ok {α β : Type} {f : α → β} {a : Option α} {G : β → Prop} (h : ∀ x, a = some x → G (f x)) : ∀ q, a.map f = some q → G q := fun q hq => by
  obtain ⟨x, h1, rfl⟩ := Option.map_eq_some_iff.mp hq; exact h x h1
mutual
noncomputable def cB (pg : Pg) : Cx → Expr → C3
  | _, .Constant c _ _ => cConst c
  | cx, .Name x _ => cName pg cx x
  | cx, .BinOp l op r _ => .ofV (m3 E.bin (opOf op) (cB pg cx l).v (cB pg cx r).v)
  | cx, .UnaryOp .Not e _ => ⟨(cB pg cx e).v.map .not, (cB pg cx e).t.map .not, none⟩
  | cx, .UnaryOp .USub e _ => .ofV ((cB pg cx e).v.map .neg)
  | cx, .BoolOp .And vs _ => ⟨foldB .and ((cBs pg cx vs).map C3.v), foldB .and ((cBs pg cx vs).map C3.t), none⟩
  | cx, .BoolOp .Or vs _ => ⟨foldB .or ((cBs pg cx vs).map C3.v), foldB .or ((cBs pg cx vs).map C3.t), none⟩
  | cx, .Compare l [op] [r] _ => if behindInMarks op r then .no else ⟨m3 E.cmp (cmpOf op) (cB pg cx l).v (cB pg cx r).v, m3 E.cmp (cmpOf op) (cB pg cx l).v (cB pg cx r).v, none⟩
  | cx, .Compare l [o₁, o₂] [r₁, r₂] _ => if lastMarks [o₁, o₂] [r₁, r₂] then .no else ⟨none, m3 (fun g p c => g p c) (m3 E.cmp2 (cmpOf o₁) (cB pg cx l).v (cB pg cx r₁).v) (cmpOf o₂) (cB pg cx r₂).v, none⟩
  | cx, .IfExp t a b _ => .ofV (m3 E.ite (cB pg cx t).t (cB pg cx a).v (cB pg cx b).v)
  | cx, .Call (.Attribute o name apos) as [] pos => if as.any isStar then .no else cCall pg cx as pos (cB pg cx o).v (cBs pg cx as) (.Attribute o name apos)
  | cx, .Call (.Name x p) as [] pos => if as.any isStar then .no else cCall pg cx as pos none (cBs pg cx as) (.Name x p)
  | cx, .Attribute v x _ => if !plainBase v then .no else .ofV (m2 E.attr (cB pg cx v).v (pg.fields.idxOf? x))
  | cx, .Subscript v (.Slice (some l) none none _) _ => .ofV (m2 E.from_ (cB pg cx v).v (cB pg cx l).v)
  | cx, .Subscript v (.Slice none (some u) none _) _ => .ofV (m2 E.upto (cB pg cx v).v (cB pg cx u).v)
  | cx, .Subscript v i _ => if isSlice i then .no else .ofV (m2 E.idx (cB pg cx v).v (cB pg cx i).v)
  | cx, .List es _ => if es.any isStar then .no else .ofV ((allV (cBs pg cx es)).map .disp)
  | cx, .Tuple es _ _ => if es.any isStar || !(decide (es.length ≤ 100)) then .no else .ofV ((allV (cBs pg cx es)).map .tup)
  | cx, .ListComp elt [⟨.Name x _, iter, [], 0⟩] scope _ => if !compOk cx scope x then .no else .ofV (m2 (fun src pe => .comp pe cx.slots.length src) (srcN (cB pg cx iter).s) (cB pg (compCx cx scope.names x) elt).v)
  | cx, .ListComp elt [⟨.Name x _, iter, [t], 0⟩] scope _ => if !compOk cx scope x then .no else .ofV (m3 (fun src pe pt => .compIf pe cx.slots.length src pt) (srcN (cB pg cx iter).s) (cB pg (compCx cx scope.names x) elt).v (cB pg (compCx cx scope.names x) t).t)
  | _, _ => .no
noncomputable def cBs (pg : Pg) : Cx → List Expr → List C3
  | _, [] => []
  | cx, e :: es => cB pg cx e :: cBs pg cx es
end

/-- no comprehension whose stores are exchanged -/
noncomputable def isComp : Expr → Bool
  | .ListComp .. => true
  | .SetComp .. => true
  | .DictComp .. => true
  | _ => false
noncomputable def nmO (e : Expr) : Option Str := match e with
  | .Name x _ => some x
  | _ => none
theorem no_n {x : Str} (h : (none : Option Str) = some x) : False := by cases h
theorem nmO_inv {e : Expr} {x : Str} (h : nmO e = some x) : ∃ p, e = .Name x p := by
  cases e with
  | Name y p => cases h; exact ⟨p, rfl⟩
  | _ => exact (no_n h).elim
noncomputable def callO (e : Expr) : Option (Expr × List Expr × List Keyword) := match e with
  | .Call f as kw _ => some (f, as, kw)
  | _ => none
theorem no_c {x : Expr × List Expr × List Keyword} (h : (none : Option (Expr × List Expr × List Keyword)) = some x) : False := by cases h
theorem callO_inv {e : Expr} {c : Expr × List Expr × List Keyword} (h : callO e = some c) : ∃ pos, e = .Call c.1 c.2.1 c.2.2 pos := by
  cases e with
  | Call f as kw pos => cases h; exact ⟨pos, rfl⟩
  | _ => exact (no_c h).elim
/-- a call of a name, no keywords -/
noncomputable def cnO {α : Type} (e : Expr) (f : Str → List Expr → Option α) : Option α := (callO e).bind fun c => (nmO c.1).bind fun x => if c.2.2.isEmpty then f x c.2.1 else none
theorem cnO_inv {α : Type} {e : Expr} {f : Str → List Expr → Option α} {r : α} (h : cnO e f = some r) : ∃ x p es pos, e = .Call (.Name x p) es [] pos ∧ f x es = some r := by
  obtain ⟨⟨g, es, kw⟩, h1, h2⟩ := Option.bind_eq_some_iff.mp h
  obtain ⟨x, h3, h4⟩ := Option.bind_eq_some_iff.mp h2
  obtain ⟨pos, rfl⟩ := callO_inv h1
  have h3 : nmO g = some x := h3
  obtain ⟨p, rfl⟩ := nmO_inv h3
  cases kw with
  | nil => exact ⟨x, p, es, pos, rfl, h4⟩
  | cons _ _ => cases h4
noncomputable def one1 {α β : Type} (l : List α) (f : α → Option β) : Option β := match l with
  | [] => none
  | a :: l => match l with
    | [] => f a
    | _ :: _ => none
theorem one1_inv {α β : Type} {l : List α} {f : α → Option β} {p : β} (h : one1 l f = some p) : ∃ a, l = [a] ∧ f a = some p := by
  cases l with
  | nil => cases h
  | cons a l =>
    cases l with
    | nil => exact ⟨a, rfl, h⟩
    | cons _ _ => cases h
noncomputable def tupO (e : Expr) : Option (List Expr) := match e with
  | .Tuple es _ _ => some es
  | _ => none
theorem no_tl {x : List Expr} (h : (none : Option (List Expr)) = some x) : False := by cases h
theorem tupO_inv {e : Expr} {es : List Expr} (h : tupO e = some es) : ∃ k p, e = .Tuple es k p := by
  cases e with
  | Tuple es k p => cases h; exact ⟨k, p, rfl⟩
  | _ => exact (no_tl h).elim
noncomputable def strO (e : Expr) : Option Str := match e with
  | .Constant c _ _ => (match c with
    | .str s => some s
    | _ => none)
  | _ => none
theorem strO_inv {e : Expr} {s : Str} (h : strO e = some s) : ∃ k p, e = .Constant (.str s) k p := by
  cases e with
  | Constant c k p =>
    cases c with
    | str t => cases h; exact ⟨k, p, rfl⟩
    | _ => exact (no_n h).elim
  | _ => exact (no_n h).elim
noncomputable def exprO (st : Stmt) : Option Expr := match st with
  | .Expr e _ => some e
  | _ => none
theorem no_r {p : Expr} (h : (none : Option Expr) = some p) : False := by cases h
theorem exprO_inv {st : Stmt} {e : Expr} (h : exprO st = some e) : ∃ p, st = .Expr e p := by
  cases st with
  | Expr e p => cases h; exact ⟨p, rfl⟩
  | _ => exact (no_r h).elim
noncomputable def lcO (e : Expr) : Option (Expr × List Comprehension × Scope × Pos) := match e with
  | .ListComp elt gens sc pos => some (elt, gens, sc, pos)
  | _ => none
theorem no_lc {x : Expr × List Comprehension × Scope × Pos} (h : (none : Option (Expr × List Comprehension × Scope × Pos)) = some x) : False := by cases h
theorem lcO_inv {e : Expr} {c : Expr × List Comprehension × Scope × Pos} (h : lcO e = some c) : e = .ListComp c.1 c.2.1 c.2.2.1 c.2.2.2 := by
  cases e with
  | ListComp elt gens sc pos => cases h; rfl
  | _ => exact (no_lc h).elim
noncomputable def isTup (e : Expr) : Bool := (tupO e).isSome
/-- whether the stores are exchanged -/
noncomputable def swaps (cx : Cx) (x : Str) (px : Pos) (e : Expr) : Bool := (lcO e).any fun c => cx.names.lookup x == some .local && px.line == c.2.2.2.line && !(c.2.2.1.names.any fun q => q.1 == x && (q.2 == .local || q.2 == .cell))

/-- a comprehension is stored into a cell: nothing is exchanged -/
noncomputable def cellComp (cx : Cx) (x : Str) (e : Expr) : Bool := (lcO e).any fun _ => cx.names.lookup x == some .cell

/-- a call that may raise -/
noncomputable def cCallS (pg : Pg) (cx : Cx) (e : Expr) : Option (Nat × List E) := cnO e fun x as => if isG cx x && !(as.any isStar) then m2 Prod.mk (pg.fns.lookup x) (allV (cBs pg cx as)) else none
noncomputable def cAsg (pg : Pg) (cx : Cx) (v : Expr) : Expr → Option S
  | .Name x px => if (cCallS pg cx v).isSome then m2 (fun k p => S.setC k p.1 p.2) (slotOf cx x) (cCallS pg cx v) else if isComp v && !(swaps cx x px v) && !(cellComp cx x v) then none else m2 S.set (slotOf cx x) (cB pg cx v).v
  | .Tuple es k p => if (cCallS pg cx v).isSome then m2 (fun ks p => S.unpC ks p.1 p.2) (cTgt cx (.Tuple es k p)) (cCallS pg cx v) else if isComp v || isTup v then none else m2 S.unpack (cTgt cx (.Tuple es k p)) (cB pg cx v).v
  | .Subscript o i _ => if isSlice i || isComp v then none else m3 S.put (cB pg cx o).v (cB pg cx i).v (cB pg cx v).v
  | _ => none
noncomputable def isNm (e : Expr) : Bool := (nmO e).isSome
noncomputable def forOk : Src → Expr → Bool
  | .list _, t => isNm t
  | .range _, t => isNm t
  | .enum _, t => isTup t
/-- what a handler says -/
noncomputable def isiN (cx : Cx) (x : Str) : Bool := isG cx x && (bks.lookup x).any isIsi
noncomputable def excG (cx : Cx) (y : Str) : Option Nat := if isG cx y then excOf y else none
noncomputable def excN (cx : Cx) (y : Str) : Option Nat := if isG cx y then excNames.lookup y else none
noncomputable def clsL (cx : Cx) : List Expr → Option (List Nat)
  | [] => some []
  | e :: es => (nmO e).bind fun y => m2 List.cons (excN cx y) (clsL cx es)
noncomputable def cls1 (cx : Cx) (e : Expr) : Option (List Nat) := match nmO e with
  | some y => (excG cx y).map fun k => [k]
  | none => (tupO e).bind fun es => if decide (es.length ≤ 100) then clsL cx es else none
noncomputable def cVar (cx : Cx) (e : Expr) : Option E := (nmO e).bind fun x => if x == ("__debug__" : Str) then none else (slotOf cx x).map .var
noncomputable def cIs1 (cx : Cx) (x : Str) (e c : Expr) : Option E := if isiN cx x && !(isStar e) then m2 .isexc (cVar cx e) (cls1 cx c) else none
noncomputable def pair2 {α β : Type} (l : List α) (f : α → α → Option β) : Option β := match l with
  | [] => none
  | a :: l => match l with
    | [] => none
    | b :: l => match l with
      | [] => f a b
      | _ :: _ => none
noncomputable def cIsi (cx : Cx) (e : Expr) : Option E := cnO e fun x as => pair2 as (cIs1 cx x)
noncomputable def cNot (cx : Cx) (e : Expr) : Option E := match e with
  | .UnaryOp o e _ => (match o with
    | .Not => (cIsi cx e).map .not
    | _ => none)
  | _ => none
noncomputable def cH (cx : Cx) (e : Expr) : Option E := match e with
  | .Constant c _ _ => (match c with
    | .bool b => some (.bool b)
    | _ => none)
  | .BoolOp o vs _ => (match o with
    | .And => pair2 vs fun a b => m2 .and (cIsi cx a) (cNot cx b)
    | _ => none)
  | _ => none
noncomputable def retO (st : Stmt) : Option Expr := match st with
  | .Return v _ => v
  | _ => none
noncomputable def cHs (cx : Cx) (b : List Stmt) : Option (List S) := match b with
  | [] => none
  | st :: r => match r with
    | [] => (retO st).bind fun e => (cH cx e).map fun e => [.ret e]
    | _ :: _ => none
noncomputable def locOf (cx : Cx) (x : Str) : Option Nat := if cx.names.lookup x == some .local then cx.slots.lookup x else none
noncomputable def cAs (cx : Cx) (nm : Option Str) : Option (Option Nat) := match nm with
  | none => some none
  | some x => (locOf cx x).map some
noncomputable def cHd (cx : Cx) (h : ExceptHandler) : Option (Nat × Option Nat × List S) := match h with
  | .ExceptHandler t nm b _ => t.bind fun t => (nmO t).bind fun y => m3 (fun k j b => (k, j, b)) (excN cx y) (cAs cx nm) (cHs cx b)
noncomputable def cRaise (cx : Cx) (e : Expr) : Option S := cnO e fun x as => one1 as fun a => (strO a).bind fun _ => (excN cx x).map .raise
noncomputable def cTry (pg : Pg) (cx : Cx) (h : ExceptHandler) (b : List Stmt) : Option S := one1 b fun st => (exprO st).bind fun e => m2 (fun p h => .try [.call p.1 p.2] [h]) (cCallS pg cx e) (cHd cx h)
noncomputable def cTryO (pg : Pg) (cx : Cx) (b : List Stmt) (hs : List ExceptHandler) (o fi : List Stmt) : Option S := match o with
  | _ :: _ => none
  | [] => match fi with
    | _ :: _ => none
    | [] => one1 hs fun h => cTry pg cx h b
noncomputable def orE : Option (Nat × List E) → Option S → Option S
  | some p, _ => some (.call p.1 p.2)
  | none, r => r
mutual
noncomputable def cS (pg : Pg) (cx : Cx) : Stmt → Option S
  | .Assign [t] v _ => cAsg pg cx v t
  | .Expr e _ => if isComp e then none else orE (cCallS pg cx e) ((cB pg cx e).v.map .expr)
  | .If t a b _ => m3 S.ite (cB pg cx t).t (cSs pg cx a) (cSs pg cx b)
  | .While t a [] _ => m2 S.while (cB pg cx t).t (cSs pg cx a)
  | .For t i a [] _ => if ((cB pg cx i).s.map fun src => forOk src t) == some true then m3 S.for (cTgt cx t) (cB pg cx i).s (cSs pg cx a) else none
  | .Return (some e) _ => (cB pg cx e).v.map .ret
  | .Raise (some e) none _ => cRaise cx e
  | .Try b hs o fi _ => cTryO pg cx b hs o fi
  | _ => none
noncomputable def cSs (pg : Pg) (cx : Cx) : List Stmt → Option (List S)
  | [] => some []
  | st :: r => m2 List.cons (cS pg cx st) (cSs pg cx r)
end
noncomputable def slotsOf (names : List (Str × NameKind)) : List (Str × Nat) := ((names.filter fun p => p.2 == .local || p.2 == .cell).map (·.1)).zipIdx
noncomputable def cFn (pg : Pg) (ps : Arguments) (sc : Scope) (body : List Stmt) : Option Fn :=
  let slots := slotsOf sc.names
  if sc.kind == .function && !sc.isCoroutine && !sc.isGenerator && ps.posonlyargs.isEmpty && ps.vararg.isNone && ps.kwonlyargs.isEmpty && ps.kwarg.isNone && ps.defaults.isEmpty &&
    (slots.map (·.1)).take ps.args.length == ps.args.map (·.arg) && decide (slots.map (·.1)).Nodup && ps.args.all (fun a => sc.names.lookup a.arg == some .local || sc.names.lookup a.arg == some .cell) then
    (cSs pg ⟨sc.names, slots⟩ body).map fun b => ⟨ps.args.length, slots.length + 3, b⟩
  else none
end Mini

set_option autoImplicit false
set_option linter.unusedVariables false
set_option linter.unusedSectionVars false
namespace Mini
open PySem

structure Ok3 (K : Ctx) (n : Nat) (cx : Cx) (e : Expr) (c : C3) : Prop where
  v : ∀ p, c.v = some p → SE K n cx e p
  t : ∀ p, c.t = some p → STr K n cx e p
  s : ∀ p, c.s = some p → SSrc K n cx e p

section
variable {K : Ctx} [Qt K] {pg : Pg} {n : Nat} {cx : Cx}

theorem Ok3.no {e : Expr} : Ok3 K n cx e .no := ⟨nofun, nofun, nofun⟩
theorem src_of {e : Expr} {v : Option E} (h : ∀ p, v = some p → SE K n cx e p) : ∀ p, v.map .list = some p → SSrc K n cx e p := fun p hp => by
  cases v with
  | none => cases hp
  | some q => cases hp; exact src_list (h q rfl)
theorem Ok3.ofV {e : Expr} {v : Option E} (h : ∀ p, v = some p → SE K n cx e p) : Ok3 K n cx e (.ofV v) := ⟨h, nofun, src_of h⟩
theorem Ok3.ofVT {e : Expr} {v : Option E} (h : ∀ p, v = some p → SE K n cx e p) (ht : ∀ p, v = some p → STr K n cx e p) : Ok3 K n cx e (.ofVT v) := ⟨h, ht, src_of h⟩
theorem Ok3.ofS {e : Expr} {s : Option Src} (h : ∀ p, s = some p → SSrc K n cx e p) : Ok3 K n cx e ⟨none, none, s⟩ := ⟨nofun, nofun, h⟩
theorem Ok3.ofS' {e : Expr} {v : Option E} {t : Option E} (h : ∀ p, v = some p → SE K n cx e p) (ht : ∀ p, t = some p → STr K n cx e p) : Ok3 K n cx e ⟨v, t, none⟩ := ⟨h, ht, nofun⟩

inductive All2 {α β : Type} (R : α → β → Prop) : List α → List β → Prop where
  | nil : All2 R [] []
  | cons {a : α} {b : β} {as : List α} {bs : List β} : R a b → All2 R as bs → All2 R (a :: as) (b :: bs)

theorem isG_ok {x : Str} (h : isG cx x = true) : cx.names.lookup x = some .globalImplicit ∧ (x == ("__debug__" : Str)) = false := by
  simpa [isG] using h

theorem const_ok {c : Const} {k : Nat} {pos : Pos} : Ok3 K n cx (.Constant c k pos) (cConst c) := by
  unfold cConst
  split
  · exact .ofV fun p h => by cases h; exact se_none
  · exact .ofVT (fun p h => by cases h; exact se_bool) fun p h => by cases h; exact st_val se_bool (fun _ _ => rfl) fun c x m σ k W => W
  · exact .ofV fun p h => by cases h; exact se_int
  · rename_i x
    exact .ofV fun p h => by
      simp only [Option.map_eq_some_iff] at h
      obtain ⟨j, hj, rfl⟩ := h
      refine se_str ?_
      rw [List.idxOf?_eq_some_iff] at hj
      obtain ⟨h1, h2, h3⟩ := hj
      simp [h1, h2]
  · exact .no
theorem name_ok (G₀ : Gr K pg) {x : Str} {pos : Pos} : Ok3 K n cx (.Name x pos) (cName pg cx x) := by
  unfold cName
  split
  · exact .no
  · rename_i hd
    simp only [Bool.not_eq_true] at hd
    split
    · rename_i k hk
      exact .ofVT (fun p h => by cases h; exact se_var hk hd) fun p h => by cases h; exact st_val (se_var hk hd) (fun _ _ => rfl) fun c x m σ k W => W
    · split
      · rename_i hg
        exact .ofV fun p h => by
          simp only [Option.map_eq_some_iff] at h
          obtain ⟨j, hj, rfl⟩ := h
          exact se_const G₀ (by simpa using hg) hd hj
      · exact .no

theorem foldB_some {f : E → E → E} {a : Option E} {b : Option E} {r : List (Option E)} {p : E} (h : foldB f (a :: b :: r) = some p) : ∃ x y, a = some x ∧ foldB f (b :: r) = some y ∧ p = f x y := by
  simp only [foldB] at h
  split at h
  · rename_i x y hy; cases h; exact ⟨x, y, rfl, hy, rfl⟩
  · cases h

omit [Qt K] in
theorem and_v {pos : Pos} : ∀ {es : List Expr} {cs : List (Option E)} {p : E}, (All2 (fun e c => ∀ p, c = some p → SE K n cx e p) es cs) → foldB .and cs = some p → SE K n cx (.BoolOp .And es pos) p := by
  intro es cs p hf hp env A m g σ s Q R F S W
  rewrite [arm_eval_BoolOp]
  induction hf generalizing p g σ s with
  | nil => cases hp
  | @cons e c es cs h1 h2 ih =>
    cases h2 with
    | nil =>
      simp only [foldB] at hp
      exact h1 p hp env A m g σ s Q R F S W
    | @cons e' c' es' cs' h1' h2' =>
      obtain ⟨x, y, rfl, hy, rfl⟩ := foldB_some hp
      (rewrite [arm_evalEach_cons]; rewrite [arm_evalEach_cons])
      refine bool_step (h1 x rfl env A m g σ s _ R F S W) fun b g₁ σ₁ s₁ go sx hk => ?_
      cases b with
      | false => exact wpAny_pure ⟨.bool false, g₁, σ₁, go, sx, rfl, hk⟩
      | true => exact EndE.bind go sx (ih hy g₁ σ₁ s₁ (F.go S go) go.st hk)
theorem or_v {pos : Pos} : ∀ {es : List Expr} {cs : List (Option E)} {p : E}, (All2 (fun e c => ∀ p, c = some p → SE K n cx e p) es cs) → foldB .or cs = some p → SE K n cx (.BoolOp .Or es pos) p := by
  intro es cs p hf hp env A m g σ s Q R F S W
  rewrite [arm_eval_BoolOp]
  induction hf generalizing p g σ s with
  | nil => cases hp
  | @cons e c es cs h1 h2 ih =>
    cases h2 with
    | nil =>
      simp only [foldB] at hp
      exact h1 p hp env A m g σ s Q R F S W
    | @cons e' c' es' cs' h1' h2' =>
      obtain ⟨x, y, rfl, hy, rfl⟩ := foldB_some hp
      (rewrite [arm_evalEach_cons]; rewrite [arm_evalEach_cons])
      refine bool_step (h1 x rfl env A m g σ s _ R F S W) fun b g₁ σ₁ s₁ go sx hk => ?_
      cases b with
      | true => exact wpAny_pure ⟨.bool true, g₁, σ₁, go, sx, rfl, hk⟩
      | false => exact EndE.bind go sx (ih hy g₁ σ₁ s₁ (F.go S go) go.st hk)
theorem and_t : ∀ {es : List Expr} {cs : List (Option E)} {p : E}, (All2 (fun e c => ∀ p, c = some p → STr K n cx e p) es cs) → foldB .and cs = some p →
    ∀ env A m g σ s (Q : Bool → H → Prop), Room K A n → Fr K env cx m g s.heap → St K g σ s.heap → WT (callW K.Φ n) noX p m σ Q → wpAny (model K.prog K.w) A (allTrue .And es env) (EndB K g s Q) noE s := by
  intro es cs p hf hp
  induction hf generalizing p with
  | nil => cases hp
  | @cons e c es cs h1 h2 ih =>
    cases h2 with
    | nil => simp only [foldB] at hp; exact st_lastAnd (h1 p hp)
    | @cons e' c' es' cs' h1' h2' =>
      obtain ⟨x, y, rfl, hy, rfl⟩ := foldB_some hp
      exact st_and (h1 x rfl) (ih hy)
theorem or_t : ∀ {es : List Expr} {cs : List (Option E)} {p : E}, (All2 (fun e c => ∀ p, c = some p → STr K n cx e p) es cs) → foldB .or cs = some p →
    ∀ env A m g σ s (Q : Bool → H → Prop), Room K A n → Fr K env cx m g s.heap → St K g σ s.heap → WT (callW K.Φ n) noX p m σ Q → wpAny (model K.prog K.w) A (allTrue .Or es env) (EndB K g s Q) noE s := by
  intro es cs p hf hp
  induction hf generalizing p with
  | nil => cases hp
  | @cons e c es cs h1 h2 ih =>
    cases h2 with
    | nil => simp only [foldB] at hp; exact st_lastOr (h1 p hp)
    | @cons e' c' es' cs' h1' h2' =>
      obtain ⟨x, y, rfl, hy, rfl⟩ := foldB_some hp
      exact st_or (h1 x rfl) (ih hy)

theorem allV_ok : ∀ {es : List Expr} {as : List E}, (∀ e ∈ es, Ok3 K n cx e (cB pg cx e)) → (∀ e ∈ es, isStar e = false) → allV (cBs pg cx es) = some as → SEs K n cx es as ∧ es.length = as.length
  | [], as, _, _, h => by cases h; exact ⟨ses_nil, rfl⟩
  | e :: es, as, hk, hs, h => by
    obtain ⟨a, r, h1, h2, rfl⟩ := m2_some h
    obtain ⟨x, y⟩ := allV_ok (fun e he => hk e (.tail _ he)) (fun e he => hs e (.tail _ he)) h2
    exact ⟨ses_cons (hs e (.head _)) ((hk e (.head _)).v a h1) x, congrArg (· + 1) y⟩
theorem stars {es : List Expr} (h : ¬ (es.any isStar = true)) : ∀ e ∈ es, isStar e = false := by
  intro e he
  cases hb : isStar e with
  | false => rfl
  | true => exact absurd (List.any_eq_true.mpr ⟨e, he, hb⟩) h
theorem kd_ok {y : Str} {k : Kd} (h : kdT y = some k) : ∃ T, blts.lookup y = some (.type T) ∧ (k, T) ∈ [(Kd.int, "int"), (.bool, "bool"), (.list, "list")] := by
  obtain ⟨j, h1, h2⟩ := Option.bind_eq_some_iff.mp h
  have h1 := bk_ok h1
  cases j <;> cases h2
  · exact ⟨_, h1, .tail _ (.tail _ (.head _))⟩
  · exact ⟨_, h1, .head _⟩
  · exact ⟨_, h1, .tail _ (.head _)⟩

end
end Mini

set_option autoImplicit false
set_option linter.unusedVariables false
set_option linter.unusedSectionVars false
namespace Mini
open PySem
section
variable {K : Ctx} [Qt K] {pg : Pg} {n : Nat} {cx : Cx}

theorem call_t {f : Expr} {as : List Expr} {pos : Pos} {i : Nat} {bs : List E} (h : SE K n cx (.Call f as [] pos) (.call i bs)) : STr K n cx (.Call f as [] pos) (.call i bs) := st_val h (fun _ _ => rfl) fun c x m σ k W => W
theorem isi_t {f : Expr} {as : List Expr} {pos : Pos} {a : E} {k : Kd} (h : SE K n cx (.Call f as [] pos) (.isinst a k)) : STr K n cx (.Call f as [] pos) (.isinst a k) := st_val h (fun _ _ => rfl) fun c x m σ k W => W

theorem one_of {es : List Expr} {c : C3} (h : cBs pg cx es = [c]) : ∃ e, es = [e] ∧ c = cB pg cx e := by
  match es, h with
  | [e], h => cases h; exact ⟨e, rfl, rfl⟩
theorem onBk_ok {x : Str} {e : Expr} {f : Bk → C3} (h : ∀ k, blts.lookup x = some (bkV k) → Ok3 K n cx e (f k)) : Ok3 K n cx e (onBk x f) := by
  unfold onBk
  cases hk : bks.lookup x with
  | none => exact .no
  | some k => exact h k (bk_ok hk)
theorem blt_ok (G₀ : Gr K pg) {x : Str} {p pos : Pos} {es : List Expr} (hg : isG cx x = true) (hk : ∀ e ∈ es, Ok3 K n cx e (cB pg cx e)) (hst : ∀ e ∈ es, isStar e = false) : Ok3 K n cx (.Call (.Name x p) es [] pos) (cBlt x (cBs pg cx es)) := by
  obtain ⟨hx, hd⟩ := isG_ok hg
  cases es with
  | nil => exact .no
  | cons e es =>
    have he := hk e (.head _)
    have hs := hst e (.head _)
    cases es with
    | nil =>
      clear hk hst
      refine onBk_ok fun k hb => ?_
      cases k with
      | len => exact .ofV <| map_ok fun a ha => se_len G₀ hx hd hb (he.v a ha) hs
      | list => exact .ofV <| map_ok fun a ha => se_list G₀ hx hd hb (he.v a ha) hs
      | sum => exact .ofV <| map_ok fun a ha => se_sum G₀ hx hd hb (he.v a ha) hs
      | int => exact .ofV <| map_ok fun a ha => se_intOf G₀ hx hd hb (he.v a ha) hs
      | range => exact .ofS (map_ok fun a ha => src_range G₀ hx hd hb (he.v a ha) hs)
      | enum => exact .ofS (map_ok fun a ha => src_enum G₀ hx hd hb (he.v a ha) hs)
      | _ => exact .no
    | cons e' es =>
      cases es with
      | cons _ _ => exact .no
      | nil =>
        have he' := hk e' (.tail _ (.head _))
        have hs' := hst e' (.tail _ (.head _))
        clear hk hst
        refine onBk_ok fun k hb => ?_
        cases k with
        | _ => exact .no

theorem meth_ok {o : Expr} {name : Str} {apos pos : Pos} {es : List Expr} (ho : Ok3 K n cx o (cB pg cx o)) (hb : plainBase o = true) (hl : (apos.endLine == pos.line) = true) (hk : ∀ e ∈ es, Ok3 K n cx e (cB pg cx e)) (hst : ∀ e ∈ es, isStar e = false) :
    Ok3 K n cx (.Call (.Attribute o name apos) es [] pos) (cMeth name (cB pg cx o).v (cBs pg cx es)) := by
  unfold cMeth
  split
  · rename_i hc
    have : es = [] := by cases es with | nil => rfl | cons e es => cases hc
    subst this
    split
    · rename_i hn; subst hn
      exact .ofV fun q hq => by
        simp only [Option.map_eq_some_iff] at hq
        obtain ⟨a, ha, rfl⟩ := hq
        exact se_reverse (ho.v a ha) hb hl
    · exact .no
  · rename_i c hc
    obtain ⟨e, rfl, rfl⟩ := one_of hc
    have he := hk e (.head _)
    have hs := hst e (.head _)
    split
    · rename_i a b ha hb'
      split
      · rename_i hn; subst hn
        exact .ofV fun q hq => by cases hq; exact se_append (ho.v a ha) (he.v b hb') hb hs hl
      split
      · rename_i hn; subst hn
        exact .ofV fun q hq => by cases hq; exact se_pop (ho.v a ha) (he.v b hb') hb hs hl
      split
      · rename_i hn; subst hn
        exact .ofV fun q hq => by cases hq; exact se_count (ho.v a ha) (he.v b hb') hb hs hl
      split
      · rename_i hn; subst hn
        exact .ofV fun q hq => by cases hq; exact se_index (ho.v a ha) (he.v b hb') hb hs hl
      · exact .no
    · exact .no
  · exact .no

theorem isIsi_ok {j : Bk} (h : isIsi j = true) : j = .isi := by cases j <;> first | rfl | cases h
theorem no_o {y : Str} (h : (none : Option Str) = some y) : False := by cases h
theorem nameO_ok {e : Expr} {y : Str} (h : nameO e = some y) : ∃ p, e = .Name y p := by
  cases e with
  | Name z p => cases h; exact ⟨p, rfl⟩
  | _ => exact (no_o h).elim
theorem isi_inv {x y : Str} {as : List Expr} (h : isiOf x as = some y) : ∃ e p, as = [e, .Name y p] ∧ blts.lookup x = some (.builtin "isinstance") := by
  unfold isiOf at h
  cases hj : (bks.lookup x).any isIsi with
  | false => rw [hj] at h; cases h
  | true =>
    rw [hj] at h
    have h : name2 as = some y := h
    have : ∃ j, bks.lookup x = some j ∧ isIsi j = true := by
      cases hb : bks.lookup x with
      | none => rw [hb] at hj; cases hj
      | some j => rw [hb] at hj; exact ⟨j, rfl, hj⟩
    obtain ⟨j, h1, h2⟩ := this
    rw [isIsi_ok h2] at h1
    have hb := bk_ok h1
    cases as with
    | nil => cases h
    | cons e as =>
      cases as with
      | nil => cases h
      | cons e' as =>
        cases as with
        | cons _ _ => cases h
        | nil =>
          obtain ⟨p, rfl⟩ := nameO_ok h
          exact ⟨e, p, rfl, hb⟩
theorem call_ok (G₀ : Gr K pg) (hf : SF K n) {x : Str} {p pos : Pos} {es : List Expr} (hk : ∀ e ∈ es, Ok3 K n cx e (cB pg cx e)) (hst : ∀ e ∈ es, isStar e = false) :
    Ok3 K n cx (.Call (.Name x p) es [] pos) (cCall pg cx es pos none (cBs pg cx es) (.Name x p)) := by
  show Ok3 K n cx _ (cCallN pg cx es (cBs pg cx es) x)
  unfold cCallN
  split
  · rename_i hg
    obtain ⟨hx, hd⟩ := isG_ok hg
    split
    · rename_i i hi
      have key : ∀ q, Option.map (E.call i) (allV (cBs pg cx es)) = some q → ∃ as, q = .call i as ∧ SE K n cx (.Call (.Name x p) es [] pos) (.call i as) := fun q hq => by
        simp only [Option.map_eq_some_iff] at hq
        obtain ⟨as, ha, rfl⟩ := hq
        obtain ⟨h1, h2⟩ := allV_ok hk hst ha
        exact ⟨as, rfl, se_call G₀ hf hx hd hi h1 hst h2⟩
      exact .ofVT (fun q hq => by obtain ⟨as, rfl, h⟩ := key q hq; exact h) fun q hq => by obtain ⟨as, rfl, h⟩ := key q hq; exact call_t h
    split
    · rename_i hh
      split
      · exact .no
      · rename_i hne
        exact .ofV fun q hq => by
          simp only [Option.map_eq_some_iff] at hq
          obtain ⟨as, ha, rfl⟩ := hq
          exact se_hall G₀ hx hd hh.1 hh.2 (allV_ok hk hst ha).1 hst (by rintro rfl; exact hne rfl)
    split
    · rename_i y hy
      split
      · rename_i hg'
        obtain ⟨hy', hdy⟩ := isG_ok hg'
        have key : ∀ a k, firstV (cBs pg cx es) = some a → kdT y = some k → SE K n cx (.Call (.Name x p) es [] pos) (.isinst a k) := fun a k h1 h2 => by
          obtain ⟨e, p', rfl, hb⟩ := isi_inv hy
          obtain ⟨T, hT, hm⟩ := kd_ok h2
          exact se_isinst G₀ hx hd hb hy' hdy hT hm ((hk e (.head _)).v a h1) (hst e (.head _))
        exact .ofVT (m2_ok key) (m2_ok fun a k h1 h2 => isi_t (key a k h1 h2))
      · exact .no
    · exact blt_ok G₀ hg hk hst
  · exact .no

theorem set_plain {e : Expr} {src : Src} (h : (cB pg cx e).s = some src) : ∀ env v, foldedSetIterable e env v = pure v := by
  intro env v
  cases e <;> first | rfl | cases h

theorem all2_map {es : List Expr} {R : Expr → Option E → Prop} (f : C3 → Option E) (h : ∀ e ∈ es, R e (f (cB pg cx e))) : All2 R es ((cBs pg cx es).map f) := by
  induction es with
  | nil => exact .nil
  | cons e es ih => exact .cons (h e (.head _)) (ih fun e he => h e (.tail _ he))

end
end Mini

set_option autoImplicit false
set_option linter.unusedVariables false
set_option linter.unusedSectionVars false
namespace Mini
open PySem
section
variable {K : Ctx} [Qt K] {pg : Pg} {n : Nat}

theorem src_tgt {o : Option Src} {src : Src} {x : Str} {px : Pos} (h : srcN o = some src) : o = some src ∧ tgtOk src (.Name x px) := by
  unfold srcN at h
  split at h <;> first | (cases h; exact ⟨rfl, _, _, rfl⟩) | cases h

theorem zr {a b N : Nat} (h : a + b < N) : a < N := Nat.lt_of_le_of_lt (Nat.le_add_right a b) h
theorem z0 {a N : Nat} (h : 1 + a < N + 1) : a < N := by lia
theorem z1 {a b N : Nat} (h : 1 + a + b < N + 1) : b < N := by lia
theorem z2 {a b c N : Nat} (h : 1 + a + b + c < N + 1) : c < N := by lia
theorem zl {a b N : Nat} (h : 1 + a + b < N + 1) : b ≤ N := by lia
theorem zk {a N : Nat} (h : 1 + a < N + 1) : a ≤ N := by lia
theorem ok_ite {cx : Cx} {b : Bool} {e : Expr} {c : C3} (h : b = false → Ok3 K n cx e c) : Ok3 K n cx e (if b then .no else c) := by
  cases b
  · exact h rfl
  · exact .no
theorem of_not {b : Bool} (h : (!b) = false) : b = true := by cases b <;> first | rfl | cases h
theorem stars' {es : List Expr} (h : es.any isStar = false) : ∀ e ∈ es, isStar e = false := stars (by refine rwE h ?_; exact Bool.false_ne_true)

set_option maxHeartbeats 4000000 in
theorem cB_all (G₀ : Gr K pg) (hf : SF K n) (hfld : pg.hall ≠ "" → K.fields = pg.fields) (hfl : pg.hall = "" → pg.fields = []) : ∀ (N : Nat) (e : Expr) (cx : Cx), sizeOf e < N → Ok3 K n cx e (cB pg cx e)
  | 0, _, _, h => absurd h (Nat.not_lt_zero _)
  | N + 1, e, cx, hN => by
    have ih : ∀ (e : Expr) (cx : Cx), sizeOf e < N → Ok3 K n cx e (cB pg cx e) := cB_all G₀ hf hfld hfl N
    have ihs : ∀ (es : List Expr) (cx : Cx), sizeOf es ≤ N → ∀ e ∈ es, Ok3 K n cx e (cB pg cx e) := fun es cx h e he => ih e cx (Nat.lt_of_lt_of_le (List.sizeOf_lt_of_mem he) h)
    cases e with
    | Constant c k p => exact const_ok
    | Name x p => exact name_ok G₀
    | BinOp l op r p =>
      have hN : 1 + sizeOf l + sizeOf op + sizeOf r + sizeOf p < N + 1 := hN
      have hl := ih l cx (z0 (zr (zr (zr hN))))
      have hr := ih r cx (z2 (zr hN))
      exact .ofV <| m3_ok fun o a b h1 h2 h3 => se_bin h1 (hl.v a h2) (hr.v b h3)
    | UnaryOp op e p =>
      have hN : 1 + sizeOf op + sizeOf e + sizeOf p < N + 1 := hN
      have h := ih e cx (z1 (zr hN))
      cases op with
      | Not => exact .ofS' (map_ok fun a ha => se_not (h.v a ha)) <| map_ok fun a ha => st_not (h.t a ha)
      | USub => exact .ofV (map_ok fun a ha => se_neg (h.v a ha))
      | _ => exact .no
    | BoolOp op vs p =>
      have hN : 1 + sizeOf op + sizeOf vs + sizeOf p < N + 1 := by rewrite [← Expr.BoolOp.sizeOf_spec]; exact hN
      have h := ihs vs cx (zl (zr hN))
      cases op with
      | And => exact .ofS' (fun q hq => and_v (all2_map C3.v fun e he => (h e he).v) hq) fun q hq env A m g σ s Q R F S W => wpAny_isTrue_BoolOp (and_t (all2_map C3.t fun e he => (h e he).t) hq env A m g σ s Q R F S W)
      | Or => exact .ofS' (fun q hq => or_v (all2_map C3.v fun e he => (h e he).v) hq) fun q hq env A m g σ s Q R F S W => wpAny_isTrue_BoolOp (or_t (all2_map C3.t fun e he => (h e he).t) hq env A m g σ s Q R F S W)
    | Compare l ops rs p =>
      have hN : 1 + sizeOf l + sizeOf ops + sizeOf rs + sizeOf p < N + 1 := by rewrite [← Expr.Compare.sizeOf_spec]; exact hN
      have hl := ih l cx (z0 (zr (zr (zr hN))))
      have hr := ihs rs cx (Nat.le_of_lt (z2 (zr hN)))
      rcases ops with _ | ⟨o₁, _ | ⟨o₂, _ | ⟨o₃, os⟩⟩⟩
      · exact .no
      · rcases rs with _ | ⟨r₁, _ | ⟨r₂, rs⟩⟩
        · exact .no
        · exact ok_ite fun hm => .ofS' (m3_ok fun o a b h1 h2 h3 => se_cmp h1 (hl.v a h2) ((hr r₁ (.head _)).v b h3) hm) <| m3_ok fun o a b h1 h2 h3 => st_cmp h1 (hl.v a h2) ((hr r₁ (.head _)).v b h3) hm
        · exact .no
      · rcases rs with _ | ⟨r₁, _ | ⟨r₂, _ | ⟨r₃, rs⟩⟩⟩
        · exact .no
        · exact .no
        · exact ok_ite fun hm => .ofS' nofun <| m3_ok fun g o c h1 h2 h3 => m3_ok (G := fun g => STr K n cx _ (g o c)) (fun o' a b h4 h5 h6 => st_cmp2 h4 h2 (hl.v a h5) ((hr r₁ (.head _)).v b h6) ((hr r₂ (.tail _ (.head _))).v c h3) hm) g h1
        · exact .no
      · exact .no
    | IfExp t a b p =>
      have hN : 1 + sizeOf t + sizeOf a + sizeOf b + sizeOf p < N + 1 := hN
      have ht := ih t cx (z0 (zr (zr (zr hN))))
      have ha := ih a cx (z1 (zr (zr hN)))
      have hb := ih b cx (z2 (zr hN))
      exact .ofV <| m3_ok fun x y z h1 h2 h3 => se_ite (ht.t x h1) (ha.v y h2) (hb.v z h3)
    | Call f as kw pos =>
      have hN : 1 + sizeOf f + sizeOf as + sizeOf kw + sizeOf pos < N + 1 := by rewrite [← Expr.Call.sizeOf_spec]; exact hN
      have hs := ihs as cx (zl (zr (zr hN)))
      have hF := z0 (zr (zr (zr hN)))
      clear hN
      cases f with
      | Attribute o name apos =>
        cases kw with
        | cons _ _ => exact .no
        | nil =>
          have hF : 1 + sizeOf o + sizeOf name + sizeOf apos < N := hF
          have ho := ih o cx (Nat.lt_of_le_of_lt (Nat.le_add_left _ _) (zr (zr hF)))
          refine ok_ite fun hst => ?_
          show Ok3 K n cx _ (if plainBase o && apos.endLine == pos.line then cMeth name (cB pg cx o).v (cBs pg cx as) else .no)
          split
          · rename_i hc
            rw [Bool.and_eq_true] at hc
            exact meth_ok ho hc.1 hc.2 hs (stars' hst)
          · exact .no
      | Name x p =>
        cases kw with
        | cons _ _ => exact .no
        | nil => exact ok_ite fun hst => call_ok G₀ hf hs (stars' hst)
      | _ => exact .no
    | Attribute v x p =>
      have hN : 1 + sizeOf v + sizeOf x + sizeOf p < N + 1 := hN
      have hv := ih v cx (z0 (zr (zr hN)))
      refine ok_ite fun hb => .ofV <| m2_ok fun a k ha hk => ?_
      refine se_attr G₀ (hv.v a ha) (of_not hb) ?_
      rw [List.idxOf?_eq_some_iff] at hk
      obtain ⟨h1, h2, h3⟩ := hk
      refine rwE (hfld (fun z => by rw [hfl z] at h1; simp at h1)) ?_
      simp [h1, h2]
    | Subscript v i p =>
      have hN : 1 + sizeOf v + sizeOf i + sizeOf p < N + 1 := hN
      have hv := ih v cx (z0 (zr (zr hN)))
      have hi := ih i cx (z1 (zr hN))
      have gen : isSlice i = false → Ok3 K n cx (.Subscript v i p) (.ofV (m2 E.idx (cB pg cx v).v (cB pg cx i).v)) := fun hsl => .ofV <| m2_ok fun a b h1 h2 => by
        exact se_idx (hv.v a h1) (hi.v b h2) fun a b c d z => by subst z; cases hsl
      clear hi
      cases i with
      | Slice l u s p' =>
        clear gen
        have hN : 1 + sizeOf v + (1 + sizeOf l + sizeOf u + sizeOf s + sizeOf p') + sizeOf p < N + 1 := by rewrite [← Expr.Slice.sizeOf_spec]; exact hN
        rcases l with _ | l <;> rcases u with _ | u <;> rcases s with _ | s
        · exact .no
        · exact .no
        · have hu := ih u cx (by have : sizeOf (some u) = 1 + sizeOf u := rfl; lia)
          exact .ofV <| m2_ok fun a b h1 h2 => se_upto (hv.v a h1) (hu.v b h2)
        · exact .no
        · have hu := ih l cx (by have : sizeOf (some l) = 1 + sizeOf l := rfl; lia)
          exact .ofV <| m2_ok fun a b h1 h2 => se_from (hv.v a h1) (hu.v b h2)
        · exact .no
        · exact .no
        · exact .no
      | _ => exact gen rfl
    | List es p =>
      have hN : 1 + sizeOf es + sizeOf p < N + 1 := by rewrite [← Expr.List.sizeOf_spec]; exact hN
      have h := ihs es cx (zk (zr hN))
      exact ok_ite fun hst => .ofV <| map_ok fun as ha => by
        exact se_disp (allV_ok h (stars' hst) ha).1
    | Tuple es k p =>
      have hN : 1 + sizeOf es + sizeOf k + sizeOf p < N + 1 := by rewrite [← Expr.Tuple.sizeOf_spec]; exact hN
      have h := ihs es cx (zk (zr (zr hN)))
      refine ok_ite fun hst => .ofV <| map_ok fun as ha => ?_
      simp only [Bool.or_eq_false_iff, Bool.not_eq_false', decide_eq_true_eq] at hst
      obtain ⟨h1, h2⟩ := allV_ok h (stars' hst.1) ha
      exact se_tup h1 (h2 ▸ hst.2)
    | ListComp elt gens scope p =>
      have hN : 1 + sizeOf elt + sizeOf gens + sizeOf scope + sizeOf p < N + 1 := by rewrite [← Expr.ListComp.sizeOf_spec]; exact hN
      have he : ∀ cx, Ok3 K n cx elt (cB pg cx elt) := fun cx => ih elt cx (z0 (zr (zr (zr hN))))
      have hN := z1 (zr (zr hN))
      rcases gens with _ | ⟨⟨t, iter, ifs, z⟩, gs⟩
      · exact .no
      have hN : 1 + (1 + sizeOf t + sizeOf iter + sizeOf ifs + sizeOf z) + sizeOf gs < N := by rewrite [← Comprehension.mk.sizeOf_spec]; exact hN
      have hit := ih iter cx (by lia)
      have hif : ∀ t, sizeOf t < sizeOf ifs → ∀ cx, Ok3 K n cx t (cB pg cx t) := fun t ht cx => ih t cx (by lia)
      clear hN ih ihs
      cases t with
      | Name x px =>
        rcases ifs with _ | ⟨t, _ | ⟨t', ts⟩⟩
        · rcases z with (_ | z) | z
          · rcases gs with _ | ⟨g', gs⟩
            · refine ok_ite fun hok => .ofV <| m2_ok fun src pe h1 h2 => ?_
              obtain ⟨h3, h4⟩ := src_tgt (x := x) (px := px) h1
              exact se_comp (compOk_ok (of_not hok)) (set_plain h3) (hit.s src h3) h4 ((he _).v pe h2) .none
            · exact .no
          · exact .no
          · exact .no
        · rcases z with (_ | z) | z
          · rcases gs with _ | ⟨g', gs⟩
            · refine ok_ite fun hok => .ofV <| m3_ok fun src pe pt h1 h2 h5 => ?_
              obtain ⟨h3, h4⟩ := src_tgt (x := x) (px := px) h1
              exact se_comp (compOk_ok (of_not hok)) (set_plain h3) (hit.s src h3) h4 ((he _).v pe h2) (.one ((hif t (by show _ < 1 + sizeOf t + _; lia) _).t pt h5))
            · exact .no
          · exact .no
          · exact .no
        · exact .no
      | _ => exact .no
    | _ => exact .no
end
end Mini

set_option autoImplicit false
set_option linter.unusedVariables false
namespace Mini
open PySem

noncomputable def SS (K : Ctx) (n : Nat) (cx : Cx) (st : Stmt) (p : S) : Prop := ∀ (env : Env) (A : Around) (m : M) (g : G) (σ : H) (s : Shared) (N : M → H → Prop) (Rt : P) (x : X), Here K env → Room K A n → Fr K env cx m g s.heap → St K g σ s.heap →
  WS (callW K.Φ n) p x m σ N Rt → wpAny (model K.prog K.w) A (exec st env) (EndS K env cx g s N Rt) (EndX K false (fpOf env) g s x) s
noncomputable def SSs (K : Ctx) (n : Nat) (cx : Cx) (sts : List Stmt) (ps : List S) : Prop := ∀ (env : Env) (A : Around) (m : M) (g : G) (σ : H) (s : Shared) (N : M → H → Prop) (Rt : P) (x : X), Here K env → Room K A n → Fr K env cx m g s.heap → St K g σ s.heap →
  WSs (callW K.Φ n) ps x m σ N Rt → wpAny (model K.prog K.w) A (execs sts env) (EndS K env cx g s N Rt) (EndX K false (fpOf env) g s x) s

section
variable {K : Ctx} {pg : Pg} {n : Nat} {cx : Cx}

/-- an item of a list is set: the list's object is known to the last part -/
theorem set_exact {A : Around} {E : Value → Shared → Prop} {s : Shared} {l : Addr} {vs : Array Value} {kk : Nat} {k : Int} {t : Tok} {v : Value} {Q : Unit → Shared → Prop} (ho : s.heap.get? l = some { cls := .type "list", data := .seq vs kk })
    (h0 : 0 ≤ k) (hfit : k < 2 ^ 63) (hk : k < vs.size) (hQ : Q () { s with heap := s.heap.update l (Obj.mapSeq (·.setIfInBounds k.toNat v)) }) : wpAny (model K.prog K.w) A (setItem (.ref l) (.int k t) v) Q E s := by
  have hl : s.heap.IsList l vs := ⟨_, ho, rfl, kk, rfl⟩
  unfold setItem
  try with_reducible refine wpAny_holding ?_
  try refine wpAny_bind (wpAny_pure ?_)
  refine wpAny_bind (wpAny_sequenceKey hl.typeIs (by decide) (wpAny_bind (wpAny_callSpecial?_slot (name := Str.ofString "__setitem__") hl.typeIs slot_list_setitem (wpAny_call_entry slot_list_setitem hl.typeIs entry_list_setitem ?_ (args_list_setitem _ _ _)))))
  show wpAny _ _ (Builtin.List.listSubscript? (.int k t) >>= _) _ _ s
  refine wpAny_bind (wpAny_listSubscript_int (fitsIndex_of h0 hfit) ?_)
  clear hfit
  obtain ⟨j, rfl⟩ := Int.eq_ofNat_of_zero_le h0
  have hj : j < vs.size := by lia
  have hx : vs[j]? = some vs[j] := Array.getElem?_eq_getElem hj
  show wpAny _ _ ((seqItemAt l j >>= fun r => pure (r.map (j, ·))) >>= _) _ _ s
  refine wpAny_bind (wpAny_bind (wpAny_seqItemAt ho rfl (wpAny_pure ?_)))
  refine rwE hx ?_
  show wpAny _ _ (setSeqItemAt l j v >>= _) _ _ s
  have fin := wpAny_pure (M := model K.prog K.w) (A := A) (E := E) hQ
  exact wpAny_bind (wpAny_setSeqItemAt ho rfl (by first | exact wpAny_bind (wpAny_pure (wpAny_pure ⟨.none, rfl, fin⟩)) | exact wpAny_pure ⟨.none, rfl, fin⟩))
theorem no_swap {v : Expr} {t : Option Expr} {l : Nat} {env : Env} (h : isComp v = false) : swapsWith v t l env = pure false := by
  cases v <;> first | rfl | cases h

theorem ss_set {z : Str} {px pos : Pos} {v : Expr} {k : Nat} {e : E} (hk : slotOf cx z = some k) (h : SE K n cx v e) (hc : isComp v = false) : SS K n cx (.Assign [.Name z px] v pos) (.set k e) := fun env A m g σ s N Rt x hE R F S W => by
  refine wpAny_Assign_Name (wpAny_mono (h env A m g σ s _ R F S W) (fun w s₁ q => ?_) fun _ _ f => f.elim) (no_swap hc)
  obtain ⟨r₁, g₁, σ₁, go₁, sx₁, rel₁, W₁⟩ := q
  exact store_sound (F.go S go₁) go₁.st hk rel₁ fun s' go sx F' => ⟨_, g₁, σ₁, go₁.toX.trans go, sx₁.trans sx, F', W₁⟩

theorem ss_unpack [Qt K] {es : List Expr} {k : Nat} {p pos : Pos} {v : Expr} {ks : List Nat} {e : E} (ht : cTgt cx (.Tuple es k p) = some ks) (h : SE K n cx v e) (hc : isComp v = false) (hv : isTup v = false) : SS K n cx (.Assign [.Tuple es k p] v pos) (.unpack ks e) := fun env A m g σ s N Rt x hE R F S W => by
  refine wpAny_Assign_stores (wpAny_mono (h env A m g σ s _ R F S W) (fun w s₁ q => ?_) fun _ _ f => f.elim) (by rewrite [swapsWithSole]; exact no_swap hc) (by cases v <;> first | rfl | cases hv)
  obtain ⟨r₁, g₁, σ₁, go₁, sx₁, rel₁, W₁⟩ := q
  cases r₁ <;> try exact W₁.elim
  rename_i us
  obtain ⟨m', hp, W₁⟩ := W₁
  have hb : bindV ks m (.tup us) = some m' := by
    have : ∃ a b rr, ks = a :: b :: rr := by
      obtain ⟨a, b, rr, _, h2⟩ := two_some ht
      exact ⟨a, b, rr, h2⟩
    obtain ⟨a, b, rr, rfl⟩ := this
    exact hp
  show wpAny _ A (assign (.Tuple es k p) env w) _ _ s₁
  exact assign_sound (R.handled Qt.q) (F.go S go₁) go₁.st ht hb rel₁ fun s' go sx F' => ⟨_, g₁, σ₁, go₁.toX.trans go, sx₁.trans sx, F', W₁⟩

theorem ss_put {o i v : Expr} {p pos : Pos} {a b e : E} (ho : SE K n cx o a) (hi : SE K n cx i b) (h : SE K n cx v e) (hc : isComp v = false) : SS K n cx (.Assign [.Subscript o i p] v pos) (.put a b e) := fun env A m g σ s N Rt x hE R F S W => by
  refine wpAny_Assign_Subscript (wpAny_mono (h env A m g σ s _ R F S W) (fun w s₁ q => ?_) fun _ _ f => f.elim) (no_swap hc)
  obtain ⟨r₁, g₁, σ₁, go₁, sx₁, rel₁, W₁⟩ := q
  refine wpAny_mono (ho env A m g₁ σ₁ s₁ _ R (F.go S go₁) go₁.st W₁) (fun w₂ s₂ q => ?_) fun _ _ f => f.elim
  obtain ⟨r₂, g₂, σ₂, go₂, sx₂, rel₂, W₂⟩ := q
  refine wpAny_mono (hi env A m g₂ σ₂ s₂ _ R (F.go S (go₁.trans go₂)) go₂.st W₂) (fun w₃ s₃ q => ?_) fun _ _ f => f.elim
  obtain ⟨r₃, g₃, σ₃, go₃, sx₃, rel₃, W₃⟩ := q
  have go := (go₁.trans go₂).trans go₃
  have rel₂' := go₃.rel go₂.st rel₂
  cases r₂ <;> try exact W₃.elim
  cases r₃ <;> try exact W₃.elim
  rename_i j k
  obtain ⟨xs, hj, hx, h0, hk, W₃⟩ := W₃
  obtain ⟨l, hl, rfl⟩ := rel₂'
  obtain ⟨t, rfl⟩ := rel₃
  obtain ⟨vs, kk, hobj, hrs⟩ := go₃.st.lists j l xs hl hx
  have hlen := go₃.st.small xs (List.mem_of_getElem? hx)
  have hsz : vs.size = xs.length := by have := hrs.length; simpa using this.symm
  have hbig : xs.length ≤ 16777216 := hlen
  refine set_exact (kk := kk) hobj h0 (by lia) (by lia) ?_
  have hp := Go.put (h' := s₃.heap.update l (Obj.mapSeq (·.setIfInBounds k.toNat w))) (vs := vs.setIfInBounds k.toNat w) go₃.st hl hx hj (fun c hc => upd_get hc) (PySem.IsL.update hobj _) (ys := xs.set k.toNat r₁) (by
    refine rwE Array.toList_setIfInBounds ?_
    exact VRels.set _ hrs ((go₂.trans go₃).rel go₁.st rel₁)) (by refine rwE List.length_set ?_; exact hlen)
  exact ⟨m, g₃, _, (go.trans hp).toX, ((sx₁.trans sx₂).trans sx₃).trans ⟨rfl, rfl⟩, F.go S (go.trans hp), W₃⟩

theorem ss_expr {e : Expr} {a : E} {pos : Pos} (h : SE K n cx e a) (hc : isComp e = false) : SS K n cx (.Expr e pos) (.expr a) := fun env A m g σ s N Rt x hE R F S W => by
  refine wpAny_Expr_any (wpAny_mono (h env A m g σ s _ R F S W) (fun w s₁ q => ?_) fun _ _ f => f.elim) (by unfold interactive; refine rwE F.kind ?_; rfl) (no_swap hc)
  obtain ⟨r₁, g₁, σ₁, go₁, sx₁, rel₁, W₁⟩ := q
  exact ⟨m, g₁, σ₁, go₁.toX, sx₁, F.go S go₁, W₁⟩

theorem ss_ret {e : Expr} {a : E} {pos : Pos} (h : SE K n cx e a) : SS K n cx (.Return (some e) pos) (.ret a) := fun env A m g σ s N Rt x hE R F S W => by
  refine wpAny_Return_some (wpAny_mono (h env A m g σ s _ R F S W) (fun w s₁ q => ?_) fun _ _ f => f.elim)
  obtain ⟨r₁, g₁, σ₁, go₁, sx₁, rel₁, W₁⟩ := q
  exact ⟨r₁, g₁, σ₁, go₁.toX, sx₁, rel₁, W₁⟩

theorem ss_if {t : Expr} {a b : List Stmt} {pt : E} {pa pb : List S} {pos : Pos} (ht : STr K n cx t pt) (ha : SSs K n cx a pa) (hb : SSs K n cx b pb) : SS K n cx (.If t a b pos) (.ite pt pa pb) := fun env A m g σ s N Rt x hE R F S W => by
  refine wpAny_If (wpAny_mono (ht env A m g σ s _ R F S W) (fun c s₁ q => ?_) fun _ _ f => f.elim)
  obtain ⟨g₁, σ₁, go₁, sx₁, W₁⟩ := q
  cases c with
  | true => exact EndS.bind go₁.toX sx₁ (ha env A m g₁ σ₁ s₁ N Rt x hE R (F.go S go₁) go₁.st W₁)
  | false => exact EndS.bind go₁.toX sx₁ (hb env A m g₁ σ₁ s₁ N Rt x hE R (F.go S go₁) go₁.st W₁)

theorem ss_while {t : Expr} {b : List Stmt} {pt : E} {pb : List S} {pos : Pos} (ht : STr K n cx t pt) (hb : SSs K n cx b pb) : SS K n cx (.While t b [] pos) (.while pt pb) := fun env A m g σ s N Rt x hE R F S W => by
  obtain ⟨k, W⟩ := W
  refine wpAny_While ?_
  exact while_sound hE R.frames F.frs (fun m g σ s L F S W => ht env A m g σ s L R F S W) (fun m g σ s L F S W => hb env A m g σ s L Rt x hE R F S W) F (Go.refl S).toX (Sx.refl s) W

theorem ss_for [Qt K] {t i : Expr} {b : List Stmt} {ks : List Nat} {src : Src} {pb : List S} {pos : Pos} (ht : cTgt cx t = some ks) (hset : ∀ env v, foldedSetIterable i env v = pure v) (hs : SSrc K n cx i src) (htg : tgtOk src t) (hb : SSs K n cx b pb) : SS K n cx (.For t i b [] pos) (.for ks src pb) := fun env A m g σ s N Rt x hE R F S W => by
  refine wpAny_For (wpAny_mono (hs env A m g σ s t _ R F S htg W) (fun v s₁ q => wpAny_mono q (fun it s₂ q => ?_) fun _ _ f => f.elim) fun _ _ f => f.elim) (hset env)
  obtain ⟨g₂, σ₂, vs, ok, X, J, go, sx, I, hJ, hX, W₂⟩ := q
  exact for_sound hE R.frames F.frs (R.handled Qt.q) I ht hX (fun m g σ s L F S W => hb env A m g σ s L Rt x hE R F S W) hJ (F.go S go) go.toX sx W₂

theorem sss_nil : SSs K n cx [] [] := fun env A m g σ s N Rt x hE R F S W => wpAny_execs_nil ⟨m, g, σ, (Go.refl S).toX, Sx.refl s, F, W⟩
theorem sss_cons {st : Stmt} {r : List Stmt} {p : S} {ps : List S} (h : SS K n cx st p) (hr : SSs K n cx r ps) : SSs K n cx (st :: r) (p :: ps) := fun env A m g σ s N Rt x hE R F S W => by
  refine wpAny_execs_cons (wpAny_mono (h env A m g σ s _ Rt x hE R F S W) (fun f s₁ q => ?_) fun _ _ f => f)
  cases f with
  | next =>
    obtain ⟨m₁, g₁, σ₁, go, sx, F₁, W₁⟩ := q
    exact EndS.bind go sx (hr env A m₁ g₁ σ₁ s₁ N Rt x hE R F₁ go.st W₁)
  | ret v => exact q
  | _ => exact q.elim
end
end Mini

set_option autoImplicit false
set_option linter.unusedVariables false
namespace Mini
open PySem

set_option genInjectivity false
set_option genSizeOfSpec false
inductive CallS (pg : Pg) (cx : Cx) (e : Expr) (f : Nat) (as : List E) : Prop
  | mk (x : Str) (p : Pos) (es : List Expr) (pos : Pos) (he : e = .Call (.Name x p) es [] pos) (hx : cx.names.lookup x = some .globalImplicit) (hd : (x == ("__debug__" : Str)) = false) (hst : ∀ e ∈ es, isStar e = false) (hfn : pg.fns.lookup x = some f) (ha : allV (cBs pg cx es) = some as)
theorem callS_inv {pg : Pg} {cx : Cx} {e : Expr} {f : Nat} {as : List E} (h : cCallS pg cx e = some (f, as)) : CallS pg cx e f as := by
  obtain ⟨x, p, es, pos, rfl, h'⟩ := cnO_inv h
  clear h
  split at h'
  · rename_i hc
    rw [Bool.and_eq_true] at hc
    obtain ⟨a, b, h1, h2, h3⟩ := m2_some h'
    cases h3
    obtain ⟨hx, hd⟩ := isG_ok hc.1
    exact ⟨x, p, es, pos, rfl, hx, hd, stars' (by simpa using hc.2), h1, h2⟩
  · cases h'

section
variable {K : Ctx} {pg : Pg} {n : Nat} {cx : Cx}

theorem ev_callS [Qt K] (G₀ : Gr K pg) (hf : SF K n) (hB : ∀ (e : Expr) (cx : Cx), Ok3 K n cx e (cB pg cx e)) {e : Expr} {f : Nat} {as : List E} (h : cCallS pg cx e = some (f, as)) {env : Env} {A : Around} {m : M} {g : G} {σ : H} {s : Shared} {Q : P} {y : X}
    (R : Room K A n) (F : Fr K env cx m g s.heap) (S : St K g σ s.heap) (W : WEs (callW K.Φ n) noX as m σ fun vs σ => callW K.Φ n f vs σ Q y) : wpAny (model K.prog K.w) A (eval e env) (EndE K g s Q) (EndX K false (fun _ => False) g s y) s := by
  obtain ⟨x, p, es, pos, rfl, hx, hd, hst, hfn, ha⟩ := callS_inv h
  obtain ⟨h1, h2⟩ := allV_ok (fun e he => hB e cx) hst ha
  exact ev_call G₀ hf hx hd hfn h1 hst h2 R F S W

theorem ss_call [Qt K] (G₀ : Gr K pg) (hf : SF K n) (hB : ∀ (e : Expr) (cx : Cx), Ok3 K n cx e (cB pg cx e)) {e : Expr} {f : Nat} {as : List E} {pos : Pos} (h : cCallS pg cx e = some (f, as)) (hc : isComp e = false) : SS K n cx (.Expr e pos) (.call f as) := fun env A m g σ s N Rt x hE R F S W => by
  refine wpAny_Expr_any (wpAny_mono (ev_callS G₀ hf hB h R F S W) (fun w s₁ q => ?_) fun _ _ q => q.shrink fun _ z => z.elim) (by unfold interactive; refine rwE F.kind ?_; rfl) (no_swap hc)
  obtain ⟨r₁, g₁, σ₁, go₁, sx₁, rel₁, W₁⟩ := q
  exact ⟨m, g₁, σ₁, go₁.toX, sx₁, F.go S go₁, W₁⟩

theorem ss_setCl [Qt K] (G₀ : Gr K pg) (hf : SF K n) (hB : ∀ (e : Expr) (cx : Cx), Ok3 K n cx e (cB pg cx e)) {z : Str} {px pos : Pos} {e : Expr} {k f : Nat} {as : List E} (hk : slotOf cx z = some k) (h : cCallS pg cx e = some (f, as)) : SS K n cx (.Assign [.Name z px] e pos) (.setC k f as) := fun env A m g σ s N Rt x hE R F S W => by
  have hc : isComp e = false := by
    obtain ⟨_, _, _, _, rfl, _⟩ := callS_inv h
    rfl
  refine wpAny_Assign_Name (wpAny_mono (ev_callS G₀ hf hB h R F S W) (fun w s₁ q => ?_) fun _ _ q => q.shrink fun _ z => z.elim) (no_swap hc)
  obtain ⟨r₁, g₁, σ₁, go₁, sx₁, rel₁, W₁⟩ := q
  exact store_sound (F.go S go₁) go₁.st hk rel₁ fun s' go sx F' => ⟨_, g₁, σ₁, go₁.toX.trans go, sx₁.trans sx, F', W₁⟩
theorem ss_unpC [Qt K] (G₀ : Gr K pg) (hf : SF K n) (hB : ∀ (e : Expr) (cx : Cx), Ok3 K n cx e (cB pg cx e)) {es : List Expr} {kt : Nat} {p pos : Pos} {e : Expr} {ks : List Nat} {f : Nat} {as : List E} (ht : cTgt cx (.Tuple es kt p) = some ks) (h : cCallS pg cx e = some (f, as)) : SS K n cx (.Assign [.Tuple es kt p] e pos) (.unpC ks f as) := fun env A m g σ s N Rt x hE R F S W => by
  have hc : isComp e = false ∧ isTup e = false := by
    obtain ⟨_, _, _, _, rfl, _⟩ := callS_inv h
    exact ⟨rfl, rfl⟩
  refine wpAny_Assign_stores (wpAny_mono (ev_callS G₀ hf hB h R F S W) (fun w s₁ q => ?_) fun _ _ q => q.shrink fun _ z => z.elim) (by rewrite [swapsWithSole]; exact no_swap hc.1) (by obtain ⟨_, _, _, _, rfl, _⟩ := callS_inv h; rfl)
  obtain ⟨r₁, g₁, σ₁, go₁, sx₁, rel₁, W₁⟩ := q
  cases r₁ <;> try exact W₁.elim
  rename_i us
  obtain ⟨m', hp, W₁⟩ := W₁
  have hb : bindV ks m (.tup us) = some m' := by
    have : ∃ a b rr, ks = a :: b :: rr := by
      obtain ⟨a, b, rr, _, h2⟩ := two_some ht
      exact ⟨a, b, rr, h2⟩
    obtain ⟨a, b, rr, rfl⟩ := this
    exact hp
  show wpAny _ A (assign (.Tuple es kt p) env w) _ _ s₁
  exact assign_sound (R.handled Qt.q) (F.go S go₁) go₁.st ht hb rel₁ fun s' go sx F' => ⟨_, g₁, σ₁, go₁.toX.trans go, sx₁.trans sx, F', W₁⟩

/-- an exception is raised -/
theorem ss_raise [Qt K] (G₀ : Gr K pg) {y : Str} {k : Nat} {np cp cpos pos : Pos} {ck : Nat} {msg : Str} (hy : cx.names.lookup y = some .globalImplicit) (hd : (y == ("__debug__" : Str)) = false) (hk : excNames.lookup y = some k) :
    SS K n cx (.Raise (some (.Call (.Name y np) [.Constant (.str msg) ck cp] [] cpos)) none pos) (.raise k) := fun env A m g σ s N Rt x hE R F S W => by
  have hn := exc_num hk
  obtain ⟨nm, q, NN, bs, hdct, sn, sub, ab, col, dd, k0, k1, k2, k3, k5, mN, hC, hN, h1, h2, h3, t1, t2, t3, h0, t0⟩ := (G₀.exc k hn).keeps S.base
  refine wpAny_Raise_call_subU (C := K.exC k) (nm := nm) (q := q) (N := NN) (bs := bs) (bm := above K k) (hdct := hdct) (sn := sn) (sub := sub) (ab := ab) (col := col) (dd := dd) (k0 := k0) (k1 := k1) (k2 := k2) (k3 := k3) (k5 := k5)
    PySem.F.excBase_ValueError PySem.F.excBase_ValueError.hasB PySem.F.excBase_ValueError (mN := mN) (t0.hasType PySem.F.excBase_ValueError.hasBase) (R.handled Qt.q) rfl h0 (load_glob G₀ F S hy hd (G₀.excN y k hk) ⟨rfl, ?_⟩)
  refine rwE (star_cons (e := .Constant (.str msg) ck cp) rfl) ?_
  refine Calls.evalArgs_plain (Calls.spliced_cons (wpAny_Constant_str (Calls.spliced_nil ⟨rfl, show 1 ≤ sizeLine by decide, hC, hN, t0, fun h' e hm => ?_⟩)))
  obtain ⟨t, he, _, _⟩ := hm.there
  have go : Go K g s.heap g σ h' := Go.change S hm.keeps
  have fn := fresh_not S hm.new
  exact ⟨e, k, g, σ, rfl, go.toX, ⟨rfl, rfl⟩, ⟨_, _, hn, hm.new, fn.1, fn.2, he, rfl, rfl, .inl ⟨rfl, rfl⟩⟩, W⟩
end
end Mini

set_option autoImplicit false
set_option linter.unusedVariables false
namespace Mini
open PySem

/-- the ground of another activation -/
noncomputable def Ctx.at (K : Ctx) (c : List Env) (q : Bool) : Ctx := { K with chain := c, q := q }
theorem Ctx.sg (K : Ctx) (c : List Env) (q : Bool) : Sg K (K.at c q) := ⟨rfl, rfl, rfl, rfl⟩
theorem Gr.at {K : Ctx} {pg : Pg} (G₀ : Gr K pg) (c : List Env) (q : Bool) : Gr (K.at c q) pg :=
  ⟨G₀.g, G₀.b, G₀.nolimit, G₀.blt, G₀.const, G₀.fn, G₀.hall, G₀.attr, G₀.excN, G₀.exc, G₀.excI, G₀.cls, G₀.make⟩

section
variable {K : Ctx} {pg : Pg} {n : Nat} {cx : Cx}
theorem no_e {p : E} (h : (none : Option E) = some p) : False := by cases h
theorem excN_ok {y : Str} {k : Nat} (h : excN cx y = some k) : cx.names.lookup y = some .globalImplicit ∧ (y == ("__debug__" : Str)) = false ∧ excNames.lookup y = some k := by
  unfold excN at h
  split at h
  · rename_i hg
    obtain ⟨a, b⟩ := isG_ok hg
    exact ⟨a, b, h⟩
  · cases h
theorem excG_ok {y : Str} {k : Nat} (h : excG cx y = some k) : cx.names.lookup y = some .globalImplicit ∧ (y == ("__debug__" : Str)) = false ∧ excOf y = some k := by
  unfold excG at h
  split at h
  · rename_i hg
    obtain ⟨a, b⟩ := isG_ok hg
    exact ⟨a, b, h⟩
  · cases h
theorem clsL_ok : ∀ {es : List Expr} {ks : List Nat}, clsL cx es = some ks → XcNs cx es ks
  | [], ks, h => by cases h; exact .nil
  | e :: es, ks, h => by
    have h : ((nmO e).bind fun y => m2 List.cons (excN cx y) (clsL cx es)) = some ks := h
    obtain ⟨y, h0, h3⟩ := Option.bind_eq_some_iff.mp h
    obtain ⟨p, rfl⟩ := nmO_inv h0
    obtain ⟨k, ks', h1, h2, rfl⟩ := m2_some h3
    obtain ⟨a1, a2, a3⟩ := excN_ok h1
    exact .cons a1 a2 a3 (clsL_ok h2)
theorem cls_ok (G₀ : Gr K pg) {x : Str} {p pos : Pos} {e c : Expr} {a : E} {ks : List Nat} (hx : isiN cx x = true) (hst : isStar e = false) (h : SE K n cx e a) (hc : cls1 cx c = some ks) : SE K n cx (.Call (.Name x p) [e, c] [] pos) (.isexc a ks) := by
  unfold isiN at hx
  rw [Bool.and_eq_true] at hx
  obtain ⟨h1, h2⟩ := isG_ok hx.1
  have h3 : blts.lookup x = some (.builtin "isinstance") := by
    cases hb : bks.lookup x with
    | none => rw [hb] at hx; cases hx.2
    | some k =>
      rw [hb] at hx
      cases k <;> first | exact bk_ok hb | cases hx.2
  unfold cls1 at hc
  cases hn : nmO c with
  | some y =>
    rw [hn] at hc
    have hc : (excG cx y).map (fun k => [k]) = some ks := hc
    obtain ⟨p', rfl⟩ := nmO_inv hn
    obtain ⟨k, hk, rfl⟩ := Option.map_eq_some_iff.mp hc
    obtain ⟨a1, a2, a3⟩ := excG_ok hk
    exact se_isexc G₀ h1 h2 h3 a1 a2 a3 h hst
  | none =>
    rw [hn] at hc
    have hc : ((tupO c).bind fun es => if decide (es.length ≤ 100) then clsL cx es else none) = some ks := hc
    obtain ⟨es, ht, h4⟩ := Option.bind_eq_some_iff.mp hc
    obtain ⟨kt, pt, rfl⟩ := tupO_inv ht
    split at h4
    · rename_i hl
      exact se_isexcN G₀ h1 h2 h3 (by simpa using hl) (clsL_ok h4) h hst
    · cases h4
theorem cVar_ok {e : Expr} {p : E} (h : cVar cx e = some p) : SE K n cx e p := by
  obtain ⟨x, h0, h1⟩ := Option.bind_eq_some_iff.mp h
  obtain ⟨pos, rfl⟩ := nmO_inv h0
  split at h1
  · cases h1
  · rename_i hd
    obtain ⟨k, hk, rfl⟩ := Option.map_eq_some_iff.mp h1
    exact se_var hk (by simpa using hd)
theorem two_inv {α β : Type} {l : List α} {f : α → α → Option β} {p : β} (h : pair2 l f = some p) : ∃ a b, l = [a, b] ∧ f a b = some p := by
  cases l with
  | nil => cases h
  | cons a l =>
    cases l with
    | nil => cases h
    | cons b l =>
      cases l with
      | nil => exact ⟨a, b, rfl, h⟩
      | cons _ _ => cases h
theorem cIsi_ok (G₀ : Gr K pg) {e : Expr} {p : E} (h : cIsi cx e = some p) : SE K n cx e p := by
  obtain ⟨x, xp, as, pos, rfl, h2⟩ := cnO_inv h
  obtain ⟨e, c, rfl, h3⟩ := two_inv h2
  unfold cIs1 at h3
  split at h3
  · rename_i hc
    rw [Bool.and_eq_true] at hc
    obtain ⟨a, ks, h4, h5, rfl⟩ := m2_some h3
    exact cls_ok G₀ hc.1 (by simpa using hc.2) (cVar_ok h4) h5
  · cases h3
theorem cNot_ok (G₀ : Gr K pg) {e : Expr} {p : E} (h : cNot cx e = some p) : SE K n cx e p := by
  cases e with
  | UnaryOp o e pos =>
    cases o with
    | Not =>
      have h : (cIsi cx e).map E.not = some p := h
      obtain ⟨a, ha, rfl⟩ := Option.map_eq_some_iff.mp h
      exact se_not (cIsi_ok G₀ ha)
    | _ => exact (no_e h).elim
  | _ => exact (no_e h).elim
theorem cH_ok (G₀ : Gr K pg) {e : Expr} {p : E} (h : cH cx e = some p) : SE K n cx e p := by
  cases e with
  | Constant c k pos =>
    cases c with
    | bool b => cases h; exact se_bool
    | _ => exact (no_e h).elim
  | BoolOp o vs pos =>
    cases o with
    | And =>
      have h : (pair2 vs fun a b => m2 E.and (cIsi cx a) (cNot cx b)) = some p := h
      obtain ⟨a, b, rfl, h⟩ := two_inv h
      obtain ⟨x, y, h1, h2, rfl⟩ := m2_some h
      exact and_v (cs := [some x, some y]) (.cons (fun p e => by cases e; exact cIsi_ok G₀ h1) (.cons (fun p e => by cases e; exact cNot_ok G₀ h2) .nil)) rfl
    | _ => exact (no_e h).elim
  | _ => exact (no_e h).elim
inductive EndF (K : Ctx) (env : Env) (cx : Cx) (g : G) (s : Shared) (Rt : P) (f : Flow) (s' : Shared) : Prop
  | mk (v : Value) (r : V) (m' : M) (g' : G) (σ' : H) (hf : f = .ret v) (go : GoX K (fpOf env) g s.heap g' σ' s'.heap) (sx : Sx s s') (rel : VRel K g' s'.heap r v) (fr : Fr K env cx m' g' s'.heap) (q : Rt r σ')
theorem retO_inv {st : Stmt} {e : Expr} (h : retO st = some e) : ∃ pos, st = .Return (some e) pos := by
  cases st with
  | Return v pos =>
    have h : v = some e := h
    exact ⟨pos, by (refine rwE h ?_; with_reducible rfl)⟩
  | _ => exact (no_r h).elim
theorem cHs_inv {b : List Stmt} {ps : List S} (h : cHs cx b = some ps) : ∃ e pos p, b = [.Return (some e) pos] ∧ ps = [.ret p] ∧ cH cx e = some p := by
  cases b with
  | nil => cases h
  | cons st r =>
    cases r with
    | cons _ _ => cases h
    | nil =>
      have h : ((retO st).bind fun e => (cH cx e).map fun e => [S.ret e]) = some ps := h
      obtain ⟨e, h1, h2⟩ := Option.bind_eq_some_iff.mp h
      obtain ⟨pos, rfl⟩ := retO_inv h1
      obtain ⟨p, hp, rfl⟩ := Option.map_eq_some_iff.mp h2
      exact ⟨e, pos, p, rfl, rfl, hp⟩
theorem cHs_all (G₀ : Gr K pg) {b : List Stmt} {ps : List S} (h : cHs cx b = some ps) (env : Env) (A : Around) (m : M) (g : G) (σ : H) (s : Shared) (Rt : P) (R : Room K A n) (F : Fr K env cx m g s.heap) (S : St K g σ s.heap)
    (W : WSs (callW K.Φ n) ps noX m σ (fun _ _ => False) Rt) : wpAny (model K.prog K.w) A (execs b env) (EndF K env cx g s Rt) noE s := by
  obtain ⟨v, pos, p, rfl, rfl, h4⟩ := cHs_inv h
  refine wpAny_execs_cons (wpAny_Return_some (wpAny_mono (cH_ok G₀ h4 env A m g σ s _ R F S W) (fun w s₁ q => ?_) fun _ _ f => f))
  obtain ⟨r₁, g₁, σ₁, go₁, sx₁, rel₁, W₁⟩ := q
  exact ⟨w, r₁, m, g₁, σ₁, rfl, go₁.toX, sx₁, rel₁, F.go S go₁, W₁⟩
end
end Mini

set_option autoImplicit false
set_option linter.unusedVariables false
namespace Mini
open PySem
section
variable {K : Ctx} {pg : Pg} {n : Nat} {cx : Cx}

theorem room_mark {A : Around} (R : Room K A n) (e : Addr) : Room (K.at K.chain false) (A.mark (some (.ref e))) n :=
  ⟨fun z => (by cases z), R.frames, R.depth, R.units⟩

inductive HdV (cx : Cx) : ExceptHandler → Nat → Option Nat → List S → Prop
  | plain (y : Str) (yp : Pos) (b₀ : Stmt) (body : List Stmt) (pos : Pos) (k : Nat) (b : List S) (hy : cx.names.lookup y = some .globalImplicit) (hd : (y == ("__debug__" : Str)) = false) (hk : excNames.lookup y = some k) (hb : cHs cx (b₀ :: body) = some b) :
      HdV cx (.ExceptHandler (some (.Name y yp)) none (b₀ :: body) pos) k none b
  | as (y : Str) (yp : Pos) (nm : Str) (b₀ : Stmt) (body : List Stmt) (pos : Pos) (k j : Nat) (b : List S) (hy : cx.names.lookup y = some .globalImplicit) (hd : (y == ("__debug__" : Str)) = false) (hk : excNames.lookup y = some k) (hl : cx.names.lookup nm = some .local) (hj : cx.slots.lookup nm = some j) (hb : cHs cx (b₀ :: body) = some b) :
      HdV cx (.ExceptHandler (some (.Name y yp)) (some nm) (b₀ :: body) pos) k (some j) b
theorem hd_inv {h : ExceptHandler} {k : Nat} {y : Option Nat} {b : List S} (e : cHd cx h = some (k, y, b)) : HdV cx h k y b := by
  obtain ⟨t, nm, body, pos⟩ := h
  cases t with
  | none => cases e
  | some t' =>
  have e : ((nmO t').bind fun y => m3 (fun k j b => (k, j, b)) (excN cx y) (cAs cx nm) (cHs cx body)) = some (k, y, b) := e
  obtain ⟨yn, hn, e⟩ := Option.bind_eq_some_iff.mp e
  obtain ⟨yp, rfl⟩ := nmO_inv hn
  obtain ⟨k', j', b', h1, h2, h3, h4⟩ := m3_some e
  cases h4
  obtain ⟨a1, a2, a3⟩ := excN_ok h1
  obtain ⟨re, rp, rv, rfl, _, _⟩ := cHs_inv h3
  cases nm with
  | none => cases h2; exact .plain _ _ _ _ _ _ _ a1 a2 a3 h3
  | some x =>
    have h2 : (locOf cx x).map some = some y := h2
    obtain ⟨j, h5, rfl⟩ := Option.map_eq_some_iff.mp h2
    unfold locOf at h5
    split at h5
    · rename_i hl
      exact .as _ _ _ _ _ _ _ _ _ a1 a2 a3 (by simpa using hl) h5 h3
    · cases h5

theorem EndF.toS {env : Env} {g g' : G} {σ' : H} {s s₁ s' : Shared} {N : M → H → Prop} {Rt : P} {f : Flow} {q : Bool} {c : List Env} (go : GoX K (fpOf env) g s.heap g' σ' s₁.heap) (sx : Sx s s₁) (h : EndF (K.at c q) env cx g' s₁ Rt f s') : EndS K env cx g s N Rt f s' := by
  obtain ⟨v, r, m', g₂, σ₂, rfl, go₂, sx₂, rel, fr, z⟩ := h
  exact ⟨r, g₂, σ₂, go.trans (go₂.ctx (K.sg c q).symm), sx.trans sx₂, VRel.ctx (K.sg c q).symm _ _ rel, z⟩

theorem hand_sound (G₀ : Gr K pg) {env : Env} {A : Around} {m : M} {g : G} {σ : H} {s : Shared} {N : M → H → Prop} {Rt : P} {x : X} (hE : Here K env) (R : Room K A n) (F : Fr K env cx m g s.heap) (S : St K g σ s.heap)
    {hd : ExceptHandler} {k : Nat} {y : Option Nat} {b : List Mini.S} (h1 : cHd cx hd = some (k, y, b)) (v : Value) (s' : Shared) (q : EndX K true (fun _ => False) g s (fun c σ => WH (callW K.Φ n) [(k, y, b)] c x m σ Rt) v s') :
      wpAny (model K.prog K.w) A (handleBy v env [hd]) (EndS K env cx g s N Rt) (EndX K false (fpOf env) g s x) s' := by
    obtain ⟨hh, gg, d, t, os⟩ := s'
    obtain ⟨e, c, g', σ', rfl, go, sx, ex, q⟩ := q
    have goG := go.toGo fun _ z => z.elim
    have F' := F.go S goG
    obtain ⟨o, vs, hcn, new, own, base, ho, hc, hd', h3⟩ := id ex
    have X := (G₀.exc c hcn).keeps goG.st.base
    have hnb : (Value.ref e) ≠ byPass := fun z => by cases z
    cases hd_inv h1 with
    | plain yn yp b₀ body pos _ _ hy hdb hk hb =>
      have q : if excSub c k then WSs (callW K.Φ n) b noX m σ' (fun _ _ => False) Rt else False := q
      have X' := (G₀.exc k (exc_num hk)).keeps goG.st.base
      refine wpAny_handleBy_cons (codeAny_handlers_test (load_glob G₀ F' goG.st hy hdb (G₀.excN yn k hk) (match_own (e := e) X X' ho hc ?_))) hnb
      refine rwE (sub_ok G₀ hcn (exc_num hk)) ?_
      cases hx : excSub c k with
      | false =>
        rw [hx] at q
        exact q.elim
      | true =>
        rw [hx] at q
        have q1 : EndX K true (fun _ => False) g s (fun _ σ => WSs (callW K.Φ n) b noX m σ (fun _ _ => False) Rt) (.ref e) ⟨hh, gg, d, t, os⟩ := ⟨e, c, g', σ', rfl, go, sx, ex, q⟩
        refine codeAny_handlers_suite (ex_flight q1 fun s₂ q2 => ?_)
        obtain ⟨e₂, c₂, g₂, σ₂, _, go₂, sx₂, ex₂, q2⟩ := q2
        have goG₂ := go₂.toGo fun _ z => z.elim
        have F₂ := F.go S goG₂
        refine wpAny_mono (cHs_all (K := K.at K.chain false) (G₀.at _ _) hb env (A.mark (some (.ref e))) m g₂ σ₂ s₂ Rt (room_mark R e) (F₂.ctx (K.sg _ _) (F₂.frs.ctx (K.sg _ _) rfl)) (goG₂.st.ctx (K.sg _ _)) q2) (fun f s₃ q3 => ?_) fun _ _ z => z.elim
        exact EndF.toS (goG₂.toX) sx₂ q3
    | as yn yp nm b₀ body pos _ j _ hy hdb hk hl hj hb =>
      have q : if excSub c k then WSs (callW K.Φ n) b noX (put m j (.exc c)) σ' (fun _ _ => False) Rt else False := q
      have X' := (G₀.exc k (exc_num hk)).keeps goG.st.base
      refine wpAny_handleBy_cons (codeAny_handlers_test (load_glob G₀ F' goG.st hy hdb (G₀.excN yn k hk) (match_own (e := e) X X' ho hc ?_))) hnb
      refine rwE (sub_ok G₀ hcn (exc_num hk)) ?_
      cases hx : excSub c k with
      | false =>
        rw [hx] at q
        exact q.elim
      | true =>
        rw [hx] at q
        have q1 : EndX K true (fun _ => False) g s (fun c σ => WSs (callW K.Φ n) b noX (put m j (.exc c)) σ (fun _ _ => False) Rt) (.ref e) ⟨hh, gg, d, t, os⟩ := ⟨e, c, g', σ', rfl, go, sx, ex, q⟩
        refine codeAny_handlers_suite_as (ex_flight q1 fun s₂ q2 => ?_)
        obtain ⟨e₂, c₂, g₂, σ₂, hev, go₂, sx₂, ⟨o₂, vs₂, hcn₂, new₂, own₂, base₂, ho₂, hc₂, hd₂, h3₂⟩, q2⟩ := q2
        cases hev
        have go₃ := go₂.gain (fun z => z = e) fun z hz => by
          subst hz
          exact ⟨new₂, fun z => own₂ (.inl z), base₂, _, ho₂⟩
        have goG₃ := go₃.toGo fun _ z => z.elim
        have F₃ := F.go S goG₃
        have r₃ : VRel K ⟨g₂.ρ, fun b => g₂.ι b ∨ b = e⟩ s₂.heap (.exc c₂) (.ref e) := ⟨e, o₂, rfl, .inr rfl, ho₂, hc₂, hcn₂⟩
        refine store_local F₃ goG₃.st hl hj r₃ fun s₄ go₄ sx₄ F₄ => ?_
        refine wpAny_mono (cHs_all (K := K.at K.chain false) (G₀.at _ _) hb env (A.mark (some (.ref e))) _ _ σ₂ s₄ Rt (room_mark R e) (F₄.ctx (K.sg _ _) (F₄.frs.ctx (K.sg _ _) rfl)) (go₄.st.ctx (K.sg _ _)) q2) (fun f s₅ q5 => ?_) fun _ _ z => z.elim
        obtain ⟨v, r, m₅, g₅, σ₅, rfl, go₅, sx₅, rel₅, F₅, W₅⟩ := q5
        have go₅ := go₅.ctx (K.sg K.chain false).symm
        have rel₅ := VRel.ctx (K.sg K.chain false).symm _ _ rel₅
        have F₅ : Fr K env cx m₅ g₅ s₅.heap := F₅.ctx (K.sg _ _).symm (F₅.frs.ctx (K.sg _ _).symm rfl)
        obtain ⟨ns, hn, _⟩ := F₅.loc
        have hkind : env.kindOf nm = cx.names.lookup nm := by unfold Env.kindOf; (refine rwE F.names ?_; with_reducible rfl)
        refine wpAny_nameGoes (hkind.trans hl) hn (by refine rwE F.kind ?_; rfl) fun h' m' hn' hs' => ?_
        have go₆ : GoX K (· = env.locals) g₅ s₅.heap g₅ σ₅ h' := by
          obtain ⟨o', es, ep, e', hdd, _⟩ := id hn'
          exact GoX.sameBut go₅.st F₅.priv e' hs'.extBut fun _ _ _ => ⟨es, ep, hdd⟩
        have goA : GoX K (fpOf env) g s.heap _ σ₂ s₄.heap := (goG₃.toX).step go₄ fun b hb => .inl (.inl hb)
        have goB := (goA.trans go₅).step go₆ fun b hb => .inl (.inl hb)
        exact ⟨r, g₅, σ₅, goB, ⟨((sx₂.trans sx₄).trans sx₅).1, ((sx₂.trans sx₄).trans sx₅).2⟩, go₆.rel go₅.st (fun b hb => hb ▸ F₅.priv.1) rel₅, W₅⟩

theorem ss_try [Qt K] (G₀ : Gr K pg) (hf : SF K n) (hB : ∀ (e : Expr) (cx : Cx), Ok3 K n cx e (cB pg cx e)) {e : Expr} {f : Nat} {as : List E} {ep pos : Pos} {h₀ : ExceptHandler} {ps : Nat × Option Nat × List S} (h : cCallS pg cx e = some (f, as)) (hh : cHd cx h₀ = some ps) :
    SS K n cx (.Try [.Expr e ep] [h₀] [] [] pos) (.try [.call f as] [ps]) := fun env A m g σ s N Rt x hE R F S W => by
  obtain ⟨k, y, b⟩ := ps
  have hc : isComp e = false := by
    obtain ⟨_, _, _, _, rfl, _⟩ := callS_inv h
    rfl
  refine wpAny_Try_except (wpAny_execs_cons (wpAny_Expr_any (wpAny_mono (ev_callS G₀ hf hB h R F S W) (fun w s₁ q => ?_) fun v s₁ q => ?_) (by unfold interactive; refine rwE F.kind ?_; rfl) (no_swap hc)))
  · obtain ⟨r₁, g₁, σ₁, go₁, sx₁, rel₁, W₁⟩ := q
    exact wpAny_execs_nil (wpAny_execs_nil ⟨m, g₁, σ₁, go₁.toX, sx₁, F.go S go₁, W₁⟩)
  · obtain ⟨outer, L, h1, h2⟩ := id hE
    refine wpAny_mono (ex_note (E := noE) R.frames h1 h2 F.frs q) (fun _ s₂ q => ?_) fun _ _ z => z.elim
    exact ex_flight q fun s₃ q => hand_sound G₀ hE R F S hh v s₃ q
end
end Mini

set_option autoImplicit false
set_option linter.unusedVariables false
set_option linter.unusedSectionVars false
namespace Mini
open PySem
section
variable {K : Ctx} [Qt K] {pg : Pg} {n : Nat} {cx : Cx}

theorem swap_true {env : Env} {m : M} {g : G} {h : Heap} {elt : Expr} {gens : List Comprehension} {sc : Scope} {pos px : Pos} {x : Str} {l : Nat} (F : Fr K env cx m g h) (hs : swaps cx x px (.ListComp elt gens sc pos) = true) :
    swapsWith (.ListComp elt gens sc pos) (some (.Name x px)) l env = pure true ∧ cx.names.lookup x = some .local := by
  have hs : (cx.names.lookup x == some .local && px.line == pos.line && !(sc.names.any fun q => q.1 == x && (q.2 == .local || q.2 == .cell))) = true := hs
  rw [Bool.and_eq_true, Bool.and_eq_true] at hs
  obtain ⟨⟨h1, h2⟩, h3⟩ := hs
  refine ⟨?_, by simpa using h1⟩
  show (pure (env.blockKind == .function && env.kindOf x == some .local && px.line == pos.line && !(sc.names.any fun q => q.1 == x && (q.2 == .local || q.2 == .cell))) : Sem Bool) = pure true
  have hb : env.blockKind = .function := by unfold Env.blockKind; refine rwE F.kind ?_; rfl
  have hk : env.kindOf x = cx.names.lookup x := by unfold Env.kindOf; (refine rwE F.names ?_; with_reducible rfl)
  (refine rwE hb ?_; refine rwE hk ?_; refine rwE h1 ?_; refine rwE h2 ?_; refine rwE h3 ?_)
  rfl

theorem swap_cell {env : Env} {m : M} {g : G} {h : Heap} {v : Expr} {px : Pos} {x : Str} {l : Nat} (F : Fr K env cx m g h) (hs : cellComp cx x v = true) : swapsWith v (some (.Name x px)) l env = pure false := by
  obtain ⟨elt, gens, sc, pos, rfl⟩ : ∃ elt gens sc p, v = .ListComp elt gens sc p := by
    cases h : lcO v with
    | none => unfold cellComp at hs; rw [h] at hs; cases hs
    | some c => exact ⟨_, _, _, _, lcO_inv h⟩
  have hs : (cx.names.lookup x == some .cell) = true := hs
  show (pure (env.blockKind == .function && env.kindOf x == some .local && px.line == pos.line && !(sc.names.any fun q => q.1 == x && (q.2 == .local || q.2 == .cell))) : Sem Bool) = pure false
  have hk : env.kindOf x = cx.names.lookup x := by unfold Env.kindOf; (refine rwE F.names ?_; with_reducible rfl)
  (refine rwE hk ?_; refine rwE (show cx.names.lookup x = some .cell by simpa using hs) ?_; rewrite [Bool.and_assoc]; rewrite [Bool.and_assoc]; rewrite [Bool.and_comm])
  rfl
theorem ss_setC {x : Str} {px pos : Pos} {v : Expr} {k : Nat} {e : E} (hk : slotOf cx x = some k) (h : SE K n cx v e) (hc : cellComp cx x v = true) : SS K n cx (.Assign [.Name x px] v pos) (.set k e) := fun env A m g σ s N Rt y hE R F S W => by
  refine wpAny_Assign_Name (wpAny_mono (h env A m g σ s _ R F S W) (fun w s₁ q => ?_) fun _ _ f => f.elim) (swap_cell F hc)
  obtain ⟨r₁, g₁, σ₁, go₁, sx₁, rel₁, W₁⟩ := q
  exact store_sound (F.go S go₁) go₁.st hk rel₁ fun s' go sx F' => ⟨_, g₁, σ₁, go₁.toX.trans go, sx₁.trans sx, F', W₁⟩
/-- what a comprehension that compiles is -/
inductive CompV (pg : Pg) (cx : Cx) (elt : Expr) (sc : Scope) : List Comprehension → E → Prop where
  | plain {x : Str} {px : Pos} {iter : Expr} {src : Src} {pe : E} (h0 : compOk cx sc x = true) (h1 : srcN (cB pg cx iter).s = some src) (h2 : (cB pg (compCx cx sc.names x) elt).v = some pe) : CompV pg cx elt sc [⟨.Name x px, iter, [], 0⟩] (.comp pe cx.slots.length src)
  | test {x : Str} {px : Pos} {iter t : Expr} {src : Src} {pe pt : E} (h0 : compOk cx sc x = true) (h1 : srcN (cB pg cx iter).s = some src) (h2 : (cB pg (compCx cx sc.names x) elt).v = some pe) (h5 : (cB pg (compCx cx sc.names x) t).t = some pt) : CompV pg cx elt sc [⟨.Name x px, iter, [t], 0⟩] (.compIf pe cx.slots.length src pt)
theorem no_v {e : E} (h : C3.no.v = some e) : False := by cases h
theorem no_s {p : S} (h : (none : Option S) = some p) : False := by cases h
theorem comp_inv {elt : Expr} {gens : List Comprehension} {sc : Scope} {p : Pos} {e : E} (he : (cB pg cx (.ListComp elt gens sc p)).v = some e) : CompV pg cx elt sc gens e := by
  have ite_v : ∀ {b : Bool} {c : C3}, (if b then C3.no else c).v = some e → b = false ∧ c.v = some e := fun {b c} h => by
    cases b
    · exact ⟨rfl, h⟩
    · exact (no_v h).elim
  rcases gens with _ | ⟨⟨t, iter, ifs, z⟩, gs⟩
  · exact (no_v he).elim
  cases t with
  | Name y py =>
    rcases ifs with _ | ⟨t, _ | ⟨t', ts⟩⟩
    · rcases z with (_ | z) | z
      · rcases gs with _ | ⟨g', gs⟩
        · obtain ⟨hok, he⟩ := ite_v he
          obtain ⟨src, pe, h1, h2, rfl⟩ := m2_some he
          exact .plain (of_not hok) h1 h2
        · exact (no_v he).elim
      · exact (no_v he).elim
      · exact (no_v he).elim
    · rcases z with (_ | z) | z
      · rcases gs with _ | ⟨g', gs⟩
        · obtain ⟨hok, he⟩ := ite_v he
          obtain ⟨src, pe, pt, h1, h2, h5, rfl⟩ := m3_some he
          exact .test (of_not hok) h1 h2 h5
        · exact (no_v he).elim
      · exact (no_v he).elim
      · exact (no_v he).elim
    · exact (no_v he).elim
  | _ => exact (no_v he).elim

theorem ss_swap (hB : ∀ (e : Expr) (cx : Cx), Ok3 K n cx e (cB pg cx e)) {x : Str} {px pos : Pos} {v : Expr} {k : Nat} {e : E} (hk : slotOf cx x = some k) (he : (cB pg cx v).v = some e) (hs : swaps cx x px v = true) : SS K n cx (.Assign [.Name x px] v pos) (.set k e) := fun env A m g σ s N Rt y hE R F S W => by
  obtain ⟨elt, gens, sc, p, rfl⟩ : ∃ elt gens sc p, v = .ListComp elt gens sc p := by
    cases h : lcO v with
    | none => unfold swaps at hs; rw [h] at hs; cases hs
    | some c => exact ⟨_, _, _, _, lcO_inv h⟩
  obtain ⟨hsw, hloc⟩ := swap_true (l := pos.line) F (show swaps cx x px (.ListComp elt gens sc p) = true from hs)
  have hk' : cx.slots.lookup x = some k := by
    unfold slotOf at hk
    rw [hloc] at hk
    exact hk
  cases comp_inv he with
  | plain h0 h1 h2 =>
    obtain ⟨h3, h4⟩ := src_tgt h1
    exact wpAny_mono (ss_comp (compOk_ok h0) (set_plain h3) ((hB _ _).s _ h3) h4 ((hB elt _).v _ h2) .none hloc hk' R F S hsw W) (fun _ _ q => q) fun _ _ f => f.elim
  | test h0 h1 h2 h5 =>
    obtain ⟨h3, h4⟩ := src_tgt h1
    exact wpAny_mono (ss_comp (compOk_ok h0) (set_plain h3) ((hB _ _).s _ h3) h4 ((hB elt _).v _ h2) (.one ((hB _ _).t _ h5)) hloc hk' R F S hsw W) (fun _ _ q => q) fun _ _ f => f.elim

theorem asg_ok (G₀ : Gr K pg) (hf : SF K n) (hB : ∀ (e : Expr) (cx : Cx), Ok3 K n cx e (cB pg cx e)) {v t : Expr} {pos : Pos} {p : S} (hp : cAsg pg cx v t = some p) : SS K n cx (.Assign [t] v pos) p := by
  have ite_n : ∀ {b : Bool} {c : Option S}, (if b then none else c) = some p → b = false ∧ c = some p := fun {b c} h => by
    cases b
    · exact ⟨rfl, h⟩
    · cases h
  cases t with
  | Name x px =>
    have hp : (if (cCallS pg cx v).isSome then m2 (fun k p => S.setC k p.1 p.2) (slotOf cx x) (cCallS pg cx v) else if isComp v && !(swaps cx x px v) && !(cellComp cx x v) then none else m2 S.set (slotOf cx x) (cB pg cx v).v) = some p := hp
    by_cases hi : (cCallS pg cx v).isSome = true
    · rw [if_pos hi] at hp
      obtain ⟨k, ⟨f, as⟩, h1, h2, rfl⟩ := m2_some hp
      exact ss_setCl G₀ hf hB h1 h2
    rw [if_neg hi] at hp
    obtain ⟨hc, hp⟩ := ite_n hp
    obtain ⟨k, e, h1, h2, rfl⟩ := m2_some hp
    by_cases hcc : isComp v = true
    · by_cases hce : cellComp cx x v = true
      · exact ss_setC h1 ((hB v cx).v e h2) hce
      · refine ss_swap hB h1 h2 ?_
        simpa [hcc, hce] using hc
    · exact ss_set h1 ((hB v cx).v e h2) (by simpa using hcc)
  | Tuple es k tp =>
    have hp : (if (cCallS pg cx v).isSome then m2 (fun ks p => S.unpC ks p.1 p.2) (cTgt cx (.Tuple es k tp)) (cCallS pg cx v) else if isComp v || isTup v then none else m2 S.unpack (cTgt cx (.Tuple es k tp)) (cB pg cx v).v) = some p := hp
    by_cases hi : (cCallS pg cx v).isSome = true
    · rw [if_pos hi] at hp
      obtain ⟨ks, ⟨f, as⟩, h1, h2, rfl⟩ := m2_some hp
      exact ss_unpC G₀ hf hB h1 h2
    rw [if_neg hi] at hp
    obtain ⟨hc, hp⟩ := ite_n hp
    obtain ⟨ks, e, h1, h2, rfl⟩ := m2_some hp
    rw [Bool.or_eq_false_iff] at hc
    exact ss_unpack h1 ((hB v cx).v e h2) hc.1 hc.2
  | Subscript o i tp =>
    obtain ⟨hc, hp⟩ := ite_n hp
    obtain ⟨a, b, e, h1, h2, h3, rfl⟩ := m3_some hp
    rw [Bool.or_eq_false_iff] at hc
    exact ss_put ((hB o cx).v a h1) ((hB i cx).v b h2) ((hB v cx).v e h3) hc.2
  | _ => exact (no_s hp).elim
theorem is_name {t : Expr} (h : isNm t = true) : ∃ x p, t = .Name x p := by
  obtain ⟨x, h⟩ := Option.isSome_iff_exists.mp h
  obtain ⟨p, h⟩ := nmO_inv h
  exact ⟨x, p, h⟩
theorem is_tup {t : Expr} (h : isTup t = true) : ∃ es k p, t = .Tuple es k p := by
  obtain ⟨x, h⟩ := Option.isSome_iff_exists.mp h
  obtain ⟨k, p, h⟩ := tupO_inv h
  exact ⟨x, k, p, h⟩
theorem for_ok {src : Src} {t : Expr} (h : forOk src t = true) : tgtOk src t := by
  cases src with
  | list a => exact is_name h
  | range a => exact is_name h
  | enum a => exact is_tup h

theorem raise_ok (G₀ : Gr K pg) {e : Expr} {pos : Pos} {p : S} (hp : cRaise cx e = some p) : SS K n cx (.Raise (some e) none pos) p := by
  obtain ⟨x, xp, as, cpos, rfl, h⟩ := cnO_inv hp
  obtain ⟨a, rfl, h'⟩ := one1_inv h
  obtain ⟨msg, h1, h2⟩ := Option.bind_eq_some_iff.mp h'
  obtain ⟨ck, cp, rfl⟩ := strO_inv h1
  obtain ⟨k, hk, rfl⟩ := Option.map_eq_some_iff.mp h2
  obtain ⟨a1, a2, a3⟩ := excN_ok hk
  exact ss_raise G₀ a1 a2 a3
theorem try_ok (G₀ : Gr K pg) (hf : SF K n) (hB : ∀ (e : Expr) (cx : Cx), Ok3 K n cx e (cB pg cx e)) {b o fi : List Stmt} {hs : List ExceptHandler} {pos : Pos} {p : S} (hp : cTryO pg cx b hs o fi = some p) : SS K n cx (.Try b hs o fi pos) p := by
  cases o with
  | cons _ _ => exact (no_s hp).elim
  | nil =>
    cases fi with
    | cons _ _ => exact (no_s hp).elim
    | nil =>
      have hp : (one1 hs fun h => cTry pg cx h b) = some p := hp
      obtain ⟨h, rfl, q1⟩ := one1_inv hp
      obtain ⟨st, rfl, q2⟩ := one1_inv q1
      obtain ⟨e, h0, q3⟩ := Option.bind_eq_some_iff.mp q2
      obtain ⟨ep, rfl⟩ := exprO_inv h0
      obtain ⟨⟨f, as⟩, ps, h1, h2, rfl⟩ := m2_some q3
      exact ss_try G₀ hf hB h1 h2

set_option maxHeartbeats 4000000 in
theorem cS_all (G₀ : Gr K pg) (hf : SF K n) (hB : ∀ (e : Expr) (cx : Cx), Ok3 K n cx e (cB pg cx e)) : ∀ (N : Nat), (∀ (st : Stmt) (p : S), sizeOf st < N → cS pg cx st = some p → SS K n cx st p) ∧ (∀ (sts : List Stmt) (ps : List S), sizeOf sts < N → cSs pg cx sts = some ps → SSs K n cx sts ps)
  | 0 => ⟨fun _ _ h => absurd h (Nat.not_lt_zero _), fun _ _ h => absurd h (Nat.not_lt_zero _)⟩
  | N + 1 => by
    obtain ⟨ih, ihs⟩ := cS_all G₀ hf hB N
    constructor
    · intro st p hN hp
      cases st with
      | Assign ts v pos =>
        clear hN
        rcases ts with _ | ⟨t, _ | ⟨t', ts⟩⟩
        · exact (no_s hp).elim
        · exact asg_ok G₀ hf hB hp
        · exact (no_s hp).elim
      | Expr e pos =>
        clear hN
        have hp : (if isComp e then none else orE (cCallS pg cx e) ((cB pg cx e).v.map S.expr)) = some p := hp
        cases hc : isComp e with
        | true => rw [hc] at hp; cases hp
        | false =>
          rw [hc] at hp
          have hp : orE (cCallS pg cx e) ((cB pg cx e).v.map S.expr) = some p := hp
          cases hcl : cCallS pg cx e with
          | some q =>
            rw [hcl] at hp
            obtain ⟨f, as⟩ := q
            cases hp
            exact ss_call G₀ hf hB hcl hc
          | none =>
            rw [hcl] at hp
            have hp : (cB pg cx e).v.map S.expr = some p := hp
            obtain ⟨a, ha, rfl⟩ := Option.map_eq_some_iff.mp hp
            exact ss_expr ((hB e cx).v a ha) hc
      | If t a b pos =>
        have hN : 1 + sizeOf t + sizeOf a + sizeOf b + sizeOf pos < N + 1 := by rewrite [← Stmt.If.sizeOf_spec]; exact hN
        obtain ⟨x, y, z, h1, h2, h3, rfl⟩ := m3_some hp
        exact ss_if ((hB t cx).t x h1) (ihs a y (z1 (zr (zr hN))) h2) (ihs b z (z2 (zr hN)) h3)
      | While t a o pos =>
        have hN : 1 + sizeOf t + sizeOf a + sizeOf o + sizeOf pos < N + 1 := by rewrite [← Stmt.While.sizeOf_spec]; exact hN
        cases o with
        | nil =>
          obtain ⟨x, y, h1, h2, rfl⟩ := m2_some hp
          exact ss_while ((hB t cx).t x h1) (ihs a y (z1 (zr (zr hN))) h2)
        | cons _ _ => exact (no_s hp).elim
      | For t i a o pos =>
        have hN : 1 + sizeOf t + sizeOf i + sizeOf a + sizeOf o + sizeOf pos < N + 1 := by rewrite [← Stmt.For.sizeOf_spec]; exact hN
        cases o with
        | nil =>
          have hp : (if ((cB pg cx i).s.map fun src => forOk src t) == some true then m3 S.for (cTgt cx t) (cB pg cx i).s (cSs pg cx a) else none) = some p := hp
          cases hf : ((cB pg cx i).s.map fun src => forOk src t) == some true with
          | false => rw [hf] at hp; cases hp
          | true =>
            rw [hf] at hp
            obtain ⟨ks, src, y, h1, h2, h3, rfl⟩ := m3_some hp
            rw [h2] at hf
            exact ss_for h1 (set_plain h2) ((hB i cx).s _ h2) (for_ok (by simpa using hf)) (ihs a y (z2 (zr (zr hN))) h3)
        | cons _ _ => exact (no_s hp).elim
      | Return v pos =>
        cases v with
        | none => exact (no_s hp).elim
        | some e =>
          have hp : (cB pg cx e).v.map S.ret = some p := hp
          obtain ⟨a, ha, rfl⟩ := Option.map_eq_some_iff.mp hp
          exact ss_ret ((hB e cx).v a ha)
      | Raise e c pos =>
        clear hN
        cases e with
        | none => exact (no_s hp).elim
        | some e =>
          cases c with
          | some _ => exact (no_s hp).elim
          | none => exact raise_ok G₀ hp
      | Try b hs o fi pos => exact try_ok G₀ hf hB hp
      | _ => exact (no_s hp).elim
    · intro sts ps hN hp
      cases sts with
      | nil => cases hp; exact sss_nil
      | cons st r =>
        have hN : 1 + sizeOf st + sizeOf r < N + 1 := hN
        obtain ⟨a, b, h1, h2, rfl⟩ := m2_some hp
        exact sss_cons (ih st a (z0 (zr hN)) h1) (ihs r b (z1 hN) h2)
end
end Mini

set_option autoImplicit false
namespace Mini
open PySem
theorem zip_lookup {ns : List Str} : ∀ {vs : List Value} {x : Str}, vs.length = ns.length → x ∈ ns → ∃ v, (ns.zip vs).lookup x = some v := by
  induction ns with
  | nil => intro vs x _ h; cases h
  | cons n ns ih =>
    intro vs x hl h
    cases vs with
    | nil => cases hl
    | cons v vs =>
      (refine rwE List.zip_cons_cons ?_; refine rwE List.lookup_cons ?_)
      split
      · exact ⟨v, rfl⟩
      · rename_i hne
        rcases List.mem_cons.mp h with rfl | h
        · simp at hne
        · exact ih (by simpa using hl) h
theorem fm_congr {α β : Type} {f g : α → Option β} : ∀ (l : List α), (∀ x ∈ l, f x = g x) → l.filterMap f = l.filterMap g
  | [], _ => rfl
  | x :: l, h => by (refine rwE List.filterMap_cons ?_; refine rwE List.filterMap_cons ?_; refine rwE (h x (.head _)) ?_; (refine rwE (fm_congr l fun y hy => h y (.tail _ hy)) ?_; with_reducible rfl))
theorem zip_filterMap {ns : List Str} : ∀ {vs : List Value}, vs.length = ns.length → ns.Nodup → ns.filterMap (fun n => Option.map (fun x => (n, x)) ((ns.zip vs).lookup n)) = ns.zip vs := by
  induction ns with
  | nil => intro vs _ _; rfl
  | cons n ns ih =>
    intro vs hl hn
    cases vs with
    | nil => cases hl
    | cons v vs =>
      (refine rwE List.zip_cons_cons ?_; refine rwE List.filterMap_cons ?_)
      simp only [List.lookup_cons, beq_self_eq_true, Option.map_some]
      congr 1
      rw [List.nodup_cons] at hn
      refine Eq.trans (fm_congr ns fun x hx => ?_) (ih (vs := vs) (by simpa using hl) hn.2)
      have : (x == n) = false := by rewrite [beq_eq_false_iff_ne]; rintro rfl; exact hn.1 hx
      (refine rwE this ?_; with_reducible rfl)
theorem bind_try {name qual : Str} {ar : List Arg} {kd : List (Option Expr)} {df : List Expr} {body : List Stmt} {scope : Scope} {pm cd doc : Value} {vals : List Value} (hl : ¬ vals.length > (ar.map (·.arg)).length)
  (hm : ((ar.map (·.arg)).take ((ar.map (·.arg)).length - (List.drop (0 - (ar.map (·.arg)).length) ([] : List Value)).length)).filter (fun n => (((ar.map (·.arg)).zip vals).lookup n).isNone) = [])
  (hz : ((ar.map fun x : Arg => x.arg) ++ []).filterMap (fun n => (((ar.map fun x : Arg => x.arg).zip vals).lookup n).map (n, ·)) = (ar.map fun x : Arg => x.arg).zip vals) :
  bindArgs (PyProof.Rows.methDef name qual ⟨[], ar, none, [], kd, none, df⟩ body scope pm cd doc) ⟨vals, []⟩ = pure ((ar.map (·.arg)).zip vals) := by
  have h1 : (decide (vals.length > (ar.map (·.arg)).length) && true) = false := by rewrite [Bool.and_true]; simpa using hl
  show (if (decide (vals.length > (ar.map (·.arg)).length) && true) = true then _ else _) = _
  refine rwE (if_neg (by refine rwE h1 ?_; decide)) ?_
  show (if (!(List.filter (fun n => (((ar.map (·.arg)).zip vals).lookup n).isNone) ((ar.map (·.arg)).take ((ar.map (·.arg)).length - (List.drop (0 - (ar.map (·.arg)).length) ([] : List Value)).length))).isEmpty) = true then _ else _) = _
  refine rwE (if_neg (by refine rwE hm ?_; decide)) ?_
  show (forIn (((ar.map (·.arg)).drop ((ar.map (·.arg)).length - (List.drop (0 - (ar.map (·.arg)).length) ([] : List Value)).length)).zip (List.drop (0 - (ar.map (·.arg)).length) ([] : List Value))) _ _ >>= _) = _
  have hd : (((ar.map (·.arg)).drop ((ar.map (·.arg)).length - (List.drop (0 - (ar.map (·.arg)).length) ([] : List Value)).length)).zip (List.drop (0 - (ar.map (·.arg)).length) ([] : List Value))) = [] := by (refine rwE List.drop_nil ?_; (refine rwE List.zip_nil_right ?_; with_reducible rfl))
  refine rwE hd ?_
  show (pure (((ar.map fun x : Arg => x.arg) ++ []).filterMap (fun n => (((ar.map fun x : Arg => x.arg).zip vals).lookup n).map (n, ·))) : Sem (List (Str × Value))) = _
  (refine rwE hz ?_; with_reducible rfl)
theorem bind_all {name qual : Str} {params : Arguments} {body : List Stmt} {scope : Scope} {pm cd doc : Value} {vals : List Value} (h1 : params.posonlyargs = []) (h2 : params.vararg = none) (h3 : params.kwonlyargs = []) (h4 : params.kwarg = none)
    (hl : vals.length = params.args.length) (hn : (params.args.map (·.arg)).Nodup) : bindArgs (PyProof.Rows.methDef name qual params body scope pm cd doc) ⟨vals, []⟩ = pure ((params.args.map (·.arg)).zip vals) := by
  obtain ⟨po, ar, va, ko, kd, kw, df⟩ := params
  have h1 : po = [] := h1
  have h2 : va = none := h2
  have h3 : ko = [] := h3
  have h4 : kw = none := h4
  subst h1 h2 h3 h4
  have hl' : vals.length = (ar.map (·.arg)).length := by rewrite [List.length_map]; exact hl
  refine bind_try (by lia) ?_ ?_
  · (refine rwE List.drop_nil ?_; refine rwE List.length_nil ?_; rewrite [Nat.sub_zero]; refine rwE List.take_length ?_; rewrite [List.filter_eq_nil_iff])
    intro x hx
    obtain ⟨v, e⟩ := zip_lookup hl' hx
    refine rwE e ?_; exact Bool.false_ne_true
  · rewrite [List.append_nil]; exact zip_filterMap hl' hn

/-- a function of the text's own stands in the heap, compiled -/
noncomputable def FnOk (K : Ctx) (pg : Pg) (f : Nat) (fn : Fn) : Prop := ∃ (name : Str) (params : Arguments) (body : List Stmt) (scope : Scope) (pm cd doc : Value) (o : Obj),
  K.hB.get? (K.fa f) = some o ∧ o.data = .func (Calls.docDef name params body scope pm cd doc) ∧ K.hB.CodeRec cd name ∧ cFn pg params scope body = some fn

theorem zipIdx_lookup : ∀ {l : List Str} {i k : Nat} {x : Str}, (l.zipIdx i).lookup x = some k → i ≤ k ∧ l[k - i]? = some x
  | [], _, _, _, h => by simp at h
  | y :: l, i, k, x, h => by
    rw [List.zipIdx_cons, List.lookup_cons] at h
    split at h
    · rename_i he
      cases h
      exact ⟨Nat.le_refl _, by simp at he; simp [he]⟩
    · obtain ⟨h1, h2⟩ := zipIdx_lookup h
      refine ⟨by exact Nat.le_of_lt (by assumption), ?_⟩
      refine rwE (show k - i = (k - (i + 1)) + 1 by lia) ?_
      simpa using h2
theorem bindL_skip {kf : Str → Option NameKind} {x : Str} : ∀ {bs : List (Str × Value)} {m : Str → Option Value}, x ∉ bs.map (·.1) → bindL kf bs m x = m x
  | [], _, _ => rfl
  | (n, v) :: bs, m, h => by
    simp only [List.map_cons, List.mem_cons, not_or] at h
    (rewrite [bindL]; refine rwE (bindL_skip h.2) ?_)
    split
    · simp [h.1]
    · rfl
theorem bindC_skip {kf : Str → Option NameKind} {x : Str} : ∀ {bs : List (Str × Value)} {m : Str → Option Value}, x ∉ bs.map (·.1) → bindC kf bs m x = m x
  | [], _, _ => rfl
  | (n, v) :: bs, m, h => by
    simp only [List.map_cons, List.mem_cons, not_or] at h
    (rewrite [bindC]; refine rwE (bindC_skip h.2) ?_)
    split
    · rfl
    · simp [h.1]
theorem bindL_get {kf : Str → Option NameKind} {x : Str} {w : Value} (hk : kf x = some .local) : ∀ {bs : List (Str × Value)} {m : Str → Option Value}, (bs.map (·.1)).Nodup → (x, w) ∈ bs → bindL kf bs m x = some w
  | (n, v) :: bs, m, hn, h => by
    rw [List.map_cons, List.nodup_cons] at hn
    rewrite [bindL]
    rcases List.mem_cons.mp h with h | h
    · cases h
      (refine rwE (bindL_skip hn.1) ?_; refine rwE (if_pos hk) ?_); simp
    · exact bindL_get hk hn.2 h
theorem bindC_get {kf : Str → Option NameKind} {x : Str} {w : Value} (hk : kf x ≠ some .local) : ∀ {bs : List (Str × Value)} {m : Str → Option Value}, (bs.map (·.1)).Nodup → (x, w) ∈ bs → bindC kf bs m x = some w
  | (n, v) :: bs, m, hn, h => by
    rw [List.map_cons, List.nodup_cons] at hn
    rewrite [bindC]
    rcases List.mem_cons.mp h with h | h
    · cases h
      (refine rwE (bindC_skip hn.1) ?_; refine rwE (if_neg hk) ?_); simp
    · exact bindC_get hk hn.2 h
theorem cells_some {x : Str} : ∀ {names : List (Str × NameKind)} {n : Nat} {acc : List (Str × Addr)}, (∃ c, acc.lookup x = some c) ∨ (x, NameKind.cell) ∈ names → ∃ c, (cellsFrom n names acc).lookup x = some c
  | [], n, acc, h => by
    rcases h with h | h
    · exact h
    · cases h
  | (y, k) :: names, n, acc, h => by
    rewrite [cellsFrom]
    split
    · refine cells_some ?_
      rcases h with ⟨c, h⟩ | h
      · left
        refine rwE List.lookup_cons ?_
        split
        · exact ⟨_, rfl⟩
        · exact ⟨c, h⟩
      · rcases List.mem_cons.mp h with h | h
        · cases h
          left
          exact ⟨n, by simp⟩
        · exact .inr h
    · rename_i hk
      refine cells_some ?_
      rcases h with h | h
      · exact .inl h
      · rcases List.mem_cons.mp h with h | h
        · cases h; simp at hk
        · exact .inr h
theorem get_start {f : Fn} {vs : List V} {k : Nat} {v : V} (h : get (start f vs) k = some v) : vs[k]? = some v := by
  unfold start at h
  generalize f.ns - f.np = j at h
  induction vs generalizing k with
  | nil =>
    exfalso
    simp only [List.map_nil, List.nil_append] at h
    induction j generalizing k with
    | zero => cases h
    | succ j ih => cases k with
      | zero => cases h
      | succ k => exact ih h
  | cons u us ih => cases k with
    | zero => exact h
    | succ k => exact ih h

theorem own_there {K : Ctx} {g : G} {σ : H} {h : Heap} (S : St K g σ h) {b : Addr} (hb : g.own b) : ∃ o, h.get? b = some o := by
  rcases hb with hb | hb
  · exact S.there (List.prefix_refl _) hb
  · exact (S.imm b hb).2.2
theorem lookup_mem {α : Type} : ∀ {l : List (Str × α)} {n : Str} {c : α}, l.lookup n = some c → (n, c) ∈ l := PySem.mem_of_lookup

set_option genInjectivity false
set_option genSizeOfSpec false
inductive CFn (pg : Pg) (ps : Arguments) (sc : Scope) (body : List Stmt) (fn : Fn) : Prop
  | mk (c1 : sc.kind = .function) (c2 : sc.isCoroutine = false) (c3 : sc.isGenerator = false) (c4 : ps.posonlyargs = []) (c5 : ps.vararg = none) (c6 : ps.kwonlyargs = []) (c7 : ps.kwarg = none) (c8 : ((slotsOf sc.names).map (·.1)).take ps.args.length = ps.args.map (·.arg)) (c9 : ((slotsOf sc.names).map (·.1)).Nodup)
      (c10 : ∀ a ∈ ps.args, sc.names.lookup a.arg = some .local ∨ sc.names.lookup a.arg = some .cell) (b : List S) (cb : cSs pg ⟨sc.names, slotsOf sc.names⟩ body = some b) (hf : fn = ⟨ps.args.length, (slotsOf sc.names).length + 3, b⟩)
theorem cFn_some {pg : Pg} {ps : Arguments} {sc : Scope} {body : List Stmt} {fn : Fn} (h : cFn pg ps sc body = some fn) : CFn pg ps sc body fn := by
  unfold cFn at h
  dsimp only at h
  split at h
  · rename_i hc
    simp only [Bool.and_eq_true, Bool.not_eq_true', beq_iff_eq, List.isEmpty_iff, Option.isNone_iff_eq_none, decide_eq_true_eq, List.all_eq_true, Bool.or_eq_true] at hc
    obtain ⟨⟨⟨⟨⟨⟨⟨⟨⟨⟨h1, h2⟩, h3⟩, h4⟩, h5⟩, h6⟩, h7⟩, h8⟩, h9⟩, h10⟩, h11⟩ := hc
    simp only [Option.map_eq_some_iff] at h
    obtain ⟨b, hb, rfl⟩ := h
    exact ⟨h1, h2, h3, h4, h5, h6, h7, h9, h10, h11, b, hb, rfl⟩
  · cases h

theorem sf_all {pg : Pg} (hfl : pg.hall = "" → pg.fields = []) : ∀ (n : Nat) (K : Ctx), [Qt K] → Gr K pg → (∀ f fn, K.Φ f = some fn → FnOk K pg f fn) → (pg.hall ≠ "" → K.fields = pg.fields) → SF K n
  | 0, K, _, G₀, hΦ, hfld => fun f A g σ s vs ws Q x R S Fs r W => W.elim
  | n + 1, K, iq, G₀, hΦ, hfld => fun f A g σ s vs ws Q x R S Fs r W => by
    obtain ⟨fn, hfn, hlen, W⟩ := W
    obtain ⟨name, ps, body, sc, pm, cd, doc, o, ho, hd, hcd, hc⟩ := hΦ f fn hfn
    obtain ⟨c1, c2, c3, c4, c5, c6, c7, c8, c9, c10, b, cb, rfl⟩ := cFn_some hc
    have hlen : vs.length = ps.args.length := hlen
    have hwl : ws.length = ps.args.length := r.length ▸ hlen
    have hnd : (ps.args.map (·.arg)).Nodup := c8 ▸ (List.Sublist.nodup (List.take_sublist _ _) c9)
    have hbind := bind_all (name := name) (qual := name) (body := body) (scope := sc) (pm := pm) (cd := cd) (doc := doc) (vals := ws) c4 c5 c6 c7 hwl hnd
    have hslots : (slotsOf sc.names).map (·.1) = (sc.names.filter fun p => p.2 == .local || p.2 == .cell).map (·.1) := by unfold slotsOf; (rewrite [List.zipIdx_map_fst]; with_reducible rfl)
    have hsl : ∀ x k, (slotsOf sc.names).lookup x = some k → ((slotsOf sc.names).map (·.1))[k]? = some x := fun x k h => by
      refine rwE hslots ?_
      have := (zipIdx_lookup (i := 0) h).2
      simpa using this
    have hkeys : ((ps.args.map (·.arg)).zip ws).map (·.1) = ps.args.map (·.arg) := by
      (rewrite [List.map_fst_zip]; with_reducible rfl); simp [hwl]
    have hbnd : (((ps.args.map (·.arg)).zip ws).map (·.1)).Nodup := by refine rwE hkeys ?_; exact hnd
    have hmem : ∀ x k v, (slotsOf sc.names).lookup x = some k → get (start ⟨ps.args.length, (slotsOf sc.names).length + 3, b⟩ vs) k = some v → ∃ w, (x, w) ∈ (ps.args.map (·.arg)).zip ws ∧ VRel K g s.heap v w := fun x k v h1 h2 => by
      have h3 := get_start h2
      obtain ⟨w, h4, h5⟩ := r.get h3
      refine ⟨w, ?_, h5⟩
      have hk : k < ps.args.length := by refine rwE (Eq.symm (hlen)) ?_; exact (List.getElem?_eq_some_iff.mp h3).1
      have h6 : (ps.args.map (·.arg))[k]? = some x := by
        (refine rwE (Eq.symm (c8)) ?_; refine rwE List.getElem?_take ?_; refine rwE (if_pos hk) ?_); exact hsl x k h1
      refine List.mem_of_getElem? (i := k) ?_
      rewrite [List.getElem?_zip_eq_some]
      exact ⟨h6, h4⟩
    have hbase := fun b o e => S.base b o e
    refine PyProof.Rows.call_cells (args := ws) (o := o) (by have := R.depth; lia) (hbase _ _ ho) hd (G₀.nolimit.at fun o e => hbase _ o e) (hcd.keeps hbase) hbind (fun x hx => ?_) (fun h₁ tk F X => ?_) c2 c3 c1
    · have : x.1 ∈ ps.args.map (·.arg) := by
        refine rwE (Eq.symm (hkeys)) ?_; exact List.mem_map_of_mem hx
      obtain ⟨a, ha, e⟩ := List.mem_map.mp this
      have e : a.arg = x.1 := e
      rcases c10 a ha with h | h
      · exact .inl (e ▸ h)
      · refine .inr ⟨e ▸ h, ?_⟩
        obtain ⟨c, hc⟩ := cells_some (n := s.heap.objs.size + 1) (acc := []) (.inr (lookup_mem h))
        (refine rwE (Eq.symm (e)) ?_; refine rwE hc ?_); rfl
    · have go₀ : Go K g s.heap g σ h₁ := Go.change S F.keep
      have hno : ∀ c : Addr, (s.heap.objs.size : Nat) ≤ c → s.heap.get? c = none := fun c h => by
        cases e : s.heap.get? c with
        | none => rfl
        | some o => exact absurd (Heap.lt_size e) (Nat.not_lt.mpr h)
      have hpr : ∀ c : Addr, (s.heap.objs.size : Nat) ≤ c → ¬ g.own c ∧ K.hB.get? c = none := fun c h => by
        refine ⟨fun z => ?_, ?_⟩
        · obtain ⟨o, e⟩ := own_there S z
          rw [hno c h] at e; cases e
        · cases e : K.hB.get? c with
          | none => rfl
          | some o => have := S.base c o e; rw [hno c h] at this; cases this
      have hcl : ∀ x c, (cellsFrom (s.heap.objs.size + 1) sc.names []).lookup x = some c → (s.heap.objs.size : Nat) ≤ c := fun x c h => Nat.le_of_lt (X.above x c (lookup_mem h))
      have sg : Sg K (K.at (PyProof.Rows.envOfC name sc s.heap.objs.size (K.fa f) cd :: K.chain) true) := K.sg _ _
      have frs : Frs (K.at (PyProof.Rows.envOfC name sc s.heap.objs.size (K.fa f) cd :: K.chain) true) g h₁ := fun ev he => by
        rcases List.mem_cons.mp he with rfl | he
        · obtain ⟨o, es, ep, ho, hd, _⟩ := F.ns
          refine ⟨?_, s.heap.objs.size, o, rfl, (hpr _ (Nat.le_refl _)).2, (hpr _ (Nat.le_refl _)).1, ho, es, ep, hd⟩
          show sc.kind ≠ .module
          refine rwE c1 ?_; decide
        · exact Fs.go go₀ ev he
      have FR : Fr (K.at (PyProof.Rows.envOfC name sc s.heap.objs.size (K.fa f) cd :: K.chain) true) (PyProof.Rows.envOfC name sc s.heap.objs.size (K.fa f) cd) ⟨sc.names, slotsOf sc.names⟩ (start ⟨ps.args.length, (slotsOf sc.names).length + 3, b⟩ vs) g h₁ := by
        refine ⟨c1, rfl, rfl, rfl, ⟨_, F.ns, fun x k v h1 h2 h3 => ?_⟩, fun x k h1 h2 => ?_, hpr _ (Nat.le_refl _), fun x c h => ?_, fun x y c h1 h2 => ?_, fun x y k h1 h2 => ?_, fun x k h => ?_, fun j hj => ?_, frs⟩
        · obtain ⟨w, h4, h5⟩ := hmem x k v h1 h3
          exact ⟨w, bindL_get h2 hbnd h4, VRel.ctx sg _ _ (go₀.rel S h5)⟩
        · obtain ⟨c, hc⟩ := cells_some (n := s.heap.objs.size + 1) (acc := []) (.inr (lookup_mem h2))
          refine ⟨c, _, hc, X.cell x c hc, fun v h3 => ?_⟩
          obtain ⟨w, h4, h5⟩ := hmem x k v h1 h3
          exact ⟨w, bindC_get (by show sc.names.lookup x ≠ _; refine rwE (show sc.names.lookup x = some .cell from h2) ?_; intro z; cases z) hbnd h4, VRel.ctx sg _ _ (go₀.rel S h5)⟩
        · exact ⟨(hpr c (hcl x c h)).1, (hpr c (hcl x c h)).2, _, X.cell x c h⟩
        · exact PySem.name_of_addr X.apart (lookup_mem h1) (lookup_mem h2)
        · have a1 := hsl x k h1
          have a2 := hsl y k h2
          rw [a1] at a2; cases a2; rfl
        · have := (List.getElem?_eq_some_iff.mp (hsl x k h)).1
          simpa using this
        · cases e : get (start ⟨ps.args.length, (slotsOf sc.names).length + 3, b⟩ vs) j with
          | none => rfl
          | some v =>
            have h3 := (List.getElem?_eq_some_iff.mp (get_start e)).1
            have h4 : ps.args.length ≤ (slotsOf sc.names).length := by
              have := congrArg List.length c8
              simp at this
              lia
            have hj : (slotsOf sc.names).length ≤ j := hj
            lia
      have R' : Room (K.at (PyProof.Rows.envOfC name sc s.heap.objs.size (K.fa f) cd :: K.chain) true) (A.deeper (PyProof.Rows.envOfC name sc s.heap.objs.size (K.fa f) cd)) n := by
        have h1 := R.depth
        have h2 := R.units
        refine ⟨fun _ => R.handled Qt.q, Around.frames_deeper R.frames, ?_, ?_⟩
        · show A.depth + 1 + 3 * n + 10 < _; lia
        · show A.units + 3 + 10 * n + 300 < _; lia
      have iq' : Qt (K.at (PyProof.Rows.envOfC name sc s.heap.objs.size (K.fa f) cd :: K.chain) true) := ⟨rfl⟩
      have G₁ := G₀.at (PyProof.Rows.envOfC name sc s.heap.objs.size (K.fa f) cd :: K.chain) true
      have hf := sf_all hfl n (K.at (PyProof.Rows.envOfC name sc s.heap.objs.size (K.fa f) cd :: K.chain) true) G₁ hΦ hfld
      have hB : ∀ (e : Expr) (cx : Cx), Ok3 (K.at (PyProof.Rows.envOfC name sc s.heap.objs.size (K.fa f) cd :: K.chain) true) n cx e (cB pg cx e) := fun e cx => cB_all G₁ hf hfld hfl _ e cx (Nat.lt_succ_self _)
      have body_ok := (cS_all G₁ hf hB _).2 body b (Nat.lt_succ_self _) cb
      have hE : Here (K.at (PyProof.Rows.envOfC name sc s.heap.objs.size (K.fa f) cd :: K.chain) true) (PyProof.Rows.envOfC name sc s.heap.objs.size (K.fa f) cd) := ⟨_, _, rfl, rfl⟩
      have hfp : ∀ b, fpOf (PyProof.Rows.envOfC name sc s.heap.objs.size (K.fa f) cd) b → s.heap.get? b = none := fun b hb => by
        rcases hb with hb | ⟨x, hb⟩
        · refine rwE hb ?_; exact hno _ (Nat.le_refl _)
        · exact hno _ (hcl x b hb)
      refine wpAny_mono (body_ok _ _ _ g σ { s with heap := h₁, toks := tk } _ Q x hE R' FR (go₀.st.ctx sg) W) (fun fl s' q => ?_) fun v s' q => ?_
      · cases fl with
        | next =>
          obtain ⟨m', g', σ', go, sx, F', W'⟩ := q
          exact ⟨.none, g', σ', (go₀.toX.trans (go.ctx sg.symm)).toGo hfp, ⟨sx.1, sx.2⟩, rfl, W'⟩
        | ret v =>
          obtain ⟨rr, g', σ', go, sx, rel, W'⟩ := q
          exact ⟨rr, g', σ', (go₀.toX.trans (go.ctx sg.symm)).toGo hfp, ⟨sx.1, sx.2⟩, VRel.ctx sg.symm _ _ rel, W'⟩
        | _ => exact q.elim
      · refine wpAny_mono (ex_leaves (K := K.at (PyProof.Rows.envOfC name sc s.heap.objs.size (K.fa f) cd :: K.chain) true) (E := noE) R'.frames rfl rfl frs q) (fun _ s₂ q => ?_) fun _ _ z => z.elim
        have q := (q.ctx sg.symm).weak
        have q : EndX K false (fpOf (PyProof.Rows.envOfC name sc s.heap.objs.size (K.fa f) cd)) g s x v s₂ := q.trans (s := s) (s₁ := { s with heap := h₁, toks := tk }) go₀.toX ⟨rfl, rfl⟩
        exact q.shrink fun b hb => .inr (hfp b hb)
end Mini

set_option autoImplicit false
set_option linter.unusedVariables false
namespace Mini
open PySem

theorem ns_uniq {h : Heap} {a : Addr} {m m' : Str → Option Value} (p : h.Ns a m) (q : h.Ns a m') : m = m' := by
  obtain ⟨o, es, ep, h1, h2, _, h3⟩ := p
  obtain ⟨o', es', ep', h1', h2', _, h3'⟩ := q
  rw [h1] at h1'; cases h1'
  rw [h2] at h2'; cases h2'
  funext x
  (refine rwE (Eq.symm (h3 x)) ?_; (refine rwE (h3' x) ?_; with_reducible rfl))
noncomputable def exUp (mg : Str → Option Value) (k : Nat) : List Value := if k = 100 then vmro else .ref (exA mg 100) :: vmro
inductive ExF (mg : Str → Option Value) (h : Heap) : Prop
  | mk (n : ∀ x k, excNames.lookup x = some k → mg x = some (.ref (exA mg k))) (c : ∀ k ∈ excNums, XCls h (exA mg k) (exUp mg k)) (i : ∀ k ∈ excNums, ∀ j ∈ excNums, exA mg k = exA mg j → k = j)


theorem nm_of_look {x : Str} {k : Nat} (h : excNames.lookup x = some k) : x = exNm k := by
  have := PySem.mem_of_lookup h
  simp only [excNames, List.mem_cons, List.not_mem_nil, or_false, Prod.mk.injEq] at this
  rcases this with ⟨rfl, rfl⟩ | ⟨rfl, rfl⟩ | ⟨rfl, rfl⟩ | ⟨rfl, rfl⟩ | ⟨rfl, rfl⟩ | ⟨rfl, rfl⟩ | ⟨rfl, rfl⟩ <;> rfl

theorem nodup_map {α β : Type} {f : α → β} : ∀ {l : List α}, (l.map f).Nodup → ∀ a ∈ l, ∀ b ∈ l, f a = f b → a = b
  | [], _, _, h, _, _ => by cases h
  | c :: l, hn, a, ha, b, hb => fun e => by
    rw [List.map_cons, List.nodup_cons] at hn
    rcases List.mem_cons.mp ha with ea | ha' <;> rcases List.mem_cons.mp hb with eb | hb'
    · (refine rwE ea ?_; (refine rwE eb ?_; with_reducible rfl))
    · exact absurd (List.mem_map.mpr ⟨b, hb', by (refine rwE (Eq.symm (e)) ?_; (refine rwE ea ?_; with_reducible rfl))⟩) hn.1
    · exact absurd (List.mem_map.mpr ⟨a, ha', by (refine rwE e ?_; (refine rwE eb ?_; with_reducible rfl))⟩) hn.1
    · exact nodup_map hn.2 a ha' b hb' e

theorem q3_ok {h : Heap} {x : Str} {C N : Addr} {nm q : Str} {bs bm : List Value} {hdct : Bool} {sn : List Str} {sub : List Value} {ab : Bool} {col : Option Bool} {dd : Option Addr} {k0 k1 k2 k3 k5 : Option Value} {newId : String} (y : q3 h x = true)
    (hb : h.nsMap mainGlobals x = some (.ref C)) (hC : h.get? C = some (excClassObj nm q C N bs bm hdct sn sub ab col dd k0 k1 k2 k3 k5 newId)) :
    h.nsMap N "__getattribute__" = none ∧ h.nsMap N "__getattr__" = none ∧ h.nsMap N "__class__" = none := by
  unfold q3 at y
  cases hf : h.clsAt mainGlobals x with
  | none => rw [hf] at y; cases y
  | some z =>
    obtain ⟨C', o', cd'⟩ := z
    rw [hf] at y
    obtain ⟨hn', ho', hd'⟩ := Heap.clsAt_spec hf
    rw [hb] at hn'
    obtain rfl : C = C' := by injection hn' with q1; injection q1
    rw [hC] at ho'
    obtain rfl := Option.some.inj ho'
    obtain rfl : _ = cd' := by injection hd'
    simp only [List.all_cons, List.all_nil, Bool.and_true, Bool.and_eq_true, Option.isNone_iff_eq_none] at y
    exact y

theorem exc_seen {h : Heap} (y : excSeen h = true) : h.Ns mainGlobals (h.nsMap mainGlobals) ∧ ExF (h.nsMap mainGlobals) h := by
  unfold excSeen at y
  simp only [Bool.and_eq_true, decide_eq_true_eq] at y
  obtain ⟨⟨y1, y2⟩, y3⟩ := y
  have at_ : ∀ k ∈ excNums, h.ownExcOk (exNm k) (chainOf k) vmro "ValueError.__new__" = true ∧ q3 h (exNm k) = true := fun k hk => by
    have := List.all_eq_true.mp y2 k hk
    exact Bool.and_eq_true_iff.mp this
  have nm : ∀ k ∈ excNums, h.nsMap mainGlobals (exNm k) = some (.ref (exA (h.nsMap mainGlobals) k)) := fun k hk => by
    obtain ⟨C, N, nm, q, bs, hdct, sn, sub, ab, col, dd, k0, k1, k2, k3, k5, hb, _⟩ := Heap.ownExc_of_ok (at_ k hk).1
    unfold exA
    (refine rwE hb ?_; with_reducible rfl)
  have h100 : (100 : Nat) ∈ excNums := by decide
  refine ⟨.of_isNs y1, fun x k hx => ?_, fun k hk => ?_, fun k hk j hj e => nodup_map y3 k hk j hj e⟩
  · refine rwE (nm_of_look hx) ?_; exact nm k (exc_num hx)
  · obtain ⟨C, N, n', q, bs, hdct, sn, sub, ab, col, dd, k0, k1, k2, k3, k5, hb, hC, hN, hi⟩ := Heap.ownExc_of_ok (at_ k hk).1
    have eC : exA (h.nsMap mainGlobals) k = C := by have := nm k hk; rw [hb] at this; injection this with z; injection z with z; exact z.symm
    obtain ⟨a1, a2, a3⟩ := q3_ok (at_ k hk).2 hb hC
    obtain ⟨C', N', n'', q', bs', hdct', sn', sub', ab', col', dd', k0', k1', k2', k3', k5', hb', hC', hN', hi'⟩ := Heap.ownExc_of_ok (at_ 100 h100).1
    obtain ⟨b1, b2, b3⟩ := q3_ok (at_ 100 h100).2 hb' hC'
    have eC' : exA (h.nsMap mainGlobals) 100 = C' := by have := nm 100 h100; rw [hb'] at this; injection this with z; injection z with z; exact z.symm
    have eb : ((chainOf k).map fun n => (h.nsMap mainGlobals n).getD .none) ++ vmro = exUp (h.nsMap mainGlobals) k := by
      unfold chainOf exUp
      by_cases hk : k = 100
      · (refine rwE (if_pos hk) ?_; refine rwE (if_pos hk) ?_); rfl
      · (refine rwE (if_neg hk) ?_; refine rwE (if_neg hk) ?_; refine rwE eC' ?_)
        have hb'' : h.nsMap mainGlobals "HallError" = some (.ref C') := hb'
        simp only [List.map_cons, List.map_nil, hb'', Option.getD_some, List.cons_append, List.nil_append]
    rw [eb] at hC
    have tl : ∀ n, h.nsMap N' n = none → OwnC h n (exUp (h.nsMap mainGlobals) k) := fun n hn => by
      unfold exUp
      by_cases hk : k = 100
      · refine rwE (if_pos hk) ?_; exact .base
      · (refine rwE (if_neg hk) ?_; refine rwE eC' ?_); exact .own hC' hN' hn .base
    have t0 : OwnTail h [.type "ValueError", .type "Exception", .type "BaseException", .type "object"] (exUp (h.nsMap mainGlobals) k) := by
      unfold exUp
      by_cases hk : k = 100
      · refine rwE (if_pos hk) ?_; exact .base
      · (refine rwE (if_neg hk) ?_; refine rwE eC' ?_); exact .own hC' hN' hi' .base
    refine rwE eC ?_
    exact ⟨n', q, N, bs, hdct, sn, sub, ab, col, dd, k0, k1, k2, k3, k5, h.nsMap N, hC, hN, a1, a2, a3, tl _ b1, tl _ b2, tl _ b3, hi, t0⟩

/-- what the head looks at of the exceptions' classes -/
noncomputable def excHook : PySem.W.Hook where
  α := Bool
  obs := fun s => excSeen s.heap
  val := fun _ => true
  says := fun _ h => ∃ mg, h.Ns mainGlobals mg ∧ ExF mg h
  of := fun _ s e => ⟨_, exc_seen e⟩
  keeps := fun _ h h' ⟨mg, a, ⟨b1, b2, b3⟩⟩ hk => ⟨mg, a.keeps hk, b1, fun k hj => (b2 k hj).keeps hk, b3⟩
end Mini

set_option autoImplicit false
set_option linter.unusedVariables false
namespace Mini
open PySem PyProof.Rows

noncomputable def mkPg (p : Program) (consts : List (Str × Int)) (hall : Str) (fields : List Str) : Pg := ⟨((recsOf p).map (·.name)).zipIdx, consts, hall, fields⟩
noncomputable def phi (p : Program) (pg : Pg) (i : Nat) : Option Fn := match (recsOf p)[i]? with
  | some d => cFn pg d.params d.scope d.body
  | none => none
noncomputable def faOf (p : Program) (mg : Str → Option Value) (i : Nat) : Addr := match (recsOf p)[i]? with
  | some d => (match mg d.name with | some (.ref a) => a | _ => 0)
  | none => 0
noncomputable def mkCtx (prog p : Program) (w : World) (hB : Heap) (mg mb : Str → Option Value) (pg : Pg) (C : Addr) (fields : List Str) : Ctx := ⟨prog, w, hB, mg, mb, phi p pg, faOf p mg, C, fields, [], exA mg, true⟩

/-- what is to be looked at in a text: its names take no builtin's place, its constants are ints -/
noncomputable def textOk (p : Program) (loose : List Str) (pg : Pg) : Bool :=
  blts.all (fun q => !(startupNames.contains q.1) && !(loose.contains q.1) && !(((recsOf p).map (·.name)).contains q.1) && !(((litsOf p).map (·.1)).contains q.1) && !(((clssOf p loose).map (·.name)).contains q.1)) &&
  pg.consts.all fun q => match valOf p q.1 with | some (.int i) => i == q.2 | _ => false
theorem bk_all : bks.map (fun q => bootBuiltins q.1) = bks.map fun q => some (bkV q.2) := by kernel_rfl
theorem bk_boot : ∀ q ∈ bks, bootBuiltins q.1 = some (bkV q.2) := List.map_inj_left.mp bk_all
theorem blts_boot : ∀ q ∈ blts, bootBuiltins q.1 = some q.2 := by
  intro q hq
  have e : blts = bks.map fun p => (p.1, bkV p.2) := rfl
  rw [e] at hq
  obtain ⟨p, h1, rfl⟩ := List.mem_map.mp hq
  exact bk_boot p h1

section
variable {prog p : Program} {w : World} {hB : Heap} {mg mb : Str → Option Value} {loose : List Str} {mean : ExcName → Option Value} {consts : List (Str × Int)} {hall : Str} {fields : List Str} {C : Addr}

theorem fa_of (T : Top p loose mean mg mb hB) {i : Nat} {d : DefRec} (h : (recsOf p)[i]? = some d) : mg d.name = some (.ref (faOf p mg i)) ∧ ∃ o pm cd doc, hB.get? (faOf p mg i) = some o ∧ o.data = .func (Calls.docDef d.name d.params d.body d.scope pm cd doc) ∧ hB.CodeRec cd d.name := by
  obtain ⟨a, o, pm, cd, doc, h1, h2, h3, h4⟩ := T.fn d (List.mem_of_getElem? h)
  have : faOf p mg i = a := by unfold faOf; refine rwE h ?_; simp only [h1]
  refine rwE this ?_
  exact ⟨h1, o, pm, cd, doc, h2, h3, h4⟩

theorem fns_ok (T : Top p loose mean mg mb hB) {pg : Pg} : ∀ f fn, (mkCtx prog p w hB mg mb pg C fields).Φ f = some fn → FnOk (mkCtx prog p w hB mg mb pg C fields) pg f fn := fun f fn h => by
  have h : phi p pg f = some fn := h
  unfold phi at h
  split at h
  · rename_i d hd
    obtain ⟨_, o, pm, cd, doc, h2, h3, h4⟩ := fa_of T hd
    exact ⟨d.name, d.params, d.body, d.scope, pm, cd, doc, o, h2, h3, h4, h⟩
  · cases h

theorem gr_of (T : Top p loose mean mg mb hB) (X : ExF mg hB) (ok : textOk p loose (mkPg p consts hall fields) = true)
    (hhall : hall ≠ "" → mg hall = some (.ref C))
    (hattr : ∀ (A : Around) (s : Shared) (Q : Value → Shared → Prop) (E : Value → Shared → Prop) (b d : Addr) (mA : Str → Option Value) (vs : List Value) (k : Nat) (f : Str) (w' : Value), (∀ b o, hB.get? b = some o → s.heap.get? b = some o) →
      InO s.heap C b d mA → hasF fields mA vs → fields[k]? = some f → vs[k]? = some w' → handedOut w' = pure w' → (∀ tk, Q w' { s with toks := tk }) → wpAny (model prog w) A (getAttr (.ref b) f true) Q E s)
    (hcls : hall ≠ "" → ∃ N mN, ClsAt hB C N mN)
    (hmake : hall ≠ "" → ∀ (A : Around) (s : Shared) (vs : List Value) (Q : Value → Shared → Prop) (E : Value → Shared → Prop), A.depth + 10 < recursionLimit → (∀ b o, hB.get? b = some o → s.heap.get? b = some o) → vs.length = 5 →
      (∀ b d mA h' tk, s.heap.get? b = none → s.heap.get? d = none → InO h' C b d mA → hasF fields mA vs → (∀ c o, s.heap.get? c = some o → h'.get? c = some o) → Q (.ref b) { s with heap := h', toks := tk }) →
      wpAny (model prog w) A (call (.ref C) vs) Q E s) :
    Gr (mkCtx prog p w hB mg mb (mkPg p consts hall fields) C fields) (mkPg p consts hall fields) := by
  simp only [textOk, Bool.and_eq_true, List.all_eq_true] at ok
  refine ⟨T.g, T.b, T.nolimit, fun x v h => ?_, fun x i h => ?_, fun x f h => ?_, fun x hx h0 => ⟨by subst hx; exact hhall h0, rfl⟩, hattr, X.1, X.2, X.3, hcls, hmake⟩
  · have hm := lookup_mem h
    have h1 := ok.1 _ hm
    simp only [Bool.not_eq_true', List.contains_eq_mem, decide_eq_false_iff_not] at h1
    obtain ⟨⟨⟨⟨a1, a2⟩, a3⟩, a4⟩, a5⟩ := h1
    refine ⟨T.free x a1 a2 a3 a4 a5, ?_⟩
    have hn : x ≠ "__name__" := fun z => a1 (z ▸ .head _)
    exact (T.builtins x hn).trans (blts_boot _ hm)
  · have h1 := ok.2 _ (lookup_mem h)
    split at h1
    · rename_i j hj
      obtain ⟨v, h2, h3⟩ := T.const x _ hj
      have e : j = i := beq_iff_eq.mp h1
      subst e
      cases h3 hB
      exact ⟨_, h2⟩
    · cases h1
  · have h1 := (zipIdx_lookup (i := 0) h).2
    rw [Nat.sub_zero, List.getElem?_map, Option.map_eq_some_iff] at h1
    obtain ⟨d, hd, rfl⟩ := h1
    obtain ⟨h2, o, pm, cd, doc, h3, h4, h5⟩ := fa_of T hd
    exact ⟨h2, o, _, h3, h4⟩

theorem ints_rels {K : Ctx} {g : G} {h : Heap} {is : List Int} {vs : List Value} (r : IntsAre vs is) : VRels K g h (is.map V.int) vs := by
  induction r with
  | nil => trivial
  | cons n t r ih => exact ⟨⟨_, rfl⟩, ih⟩

/-- the law is called with the script -/
theorem enter {K : Ctx} [Qt K] {pg : Pg} (hch : K.chain = []) (G₀ : Gr K pg) (hΦ : ∀ f fn, K.Φ f = some fn → FnOk K pg f fn) (hfld : pg.hall ≠ "" → K.fields = pg.fields) (hfl : pg.hall = "" → pg.fields = []) {s₁ : Shared} (hs : K.hB = s₁.heap) {a : Addr} {is : List Int} {vs : List Value} {k : Nat}
    (ho : s₁.heap.get? a = some { cls := .type "list", data := .seq vs.toArray k }) (hi : IntsAre vs is) (hl : is.length ≤ 63) {n : Nat} (hn : n ≤ 40) {li : Nat} {fa : Addr} (hfa : K.fa li = fa) {R : Result → Shared → Prop}
    (hR : ∀ s', (∀ b o, s₁.heap.get? b = some o → s'.heap.get? b = some o) → s'.os = s₁.os → s'.gens = s₁.gens → R (.ok (.ret (.bool true))) s')
    (W : callW K.Φ n li [.ref 0] [is.map V.int] (fun v _ => v = .bool true) noX) : codeAny (model K.prog K.w) callerA (.call (.ref fa) ⟨[.ref a], []⟩) R s₁ := by
  have S : St K ⟨[a], fun _ => False⟩ [is.map V.int] s₁.heap := by
    refine ⟨fun b o e => hs ▸ e, rfl, fun i b xs h1 h2 => ?_, by simp, fun xs h => ?_, fun i b h1 h2 => ?_, fun b h => h.elim⟩
    · cases i with
      | zero =>
        simp at h1 h2
        subst h1 h2
        exact ⟨_, _, ho, ints_rels hi⟩
      | succ i => simp at h1
    · simp at h; subst h; show (is.map V.int).length ≤ 16777216; rewrite [List.length_map]; exact Nat.le_trans (by assumption) (by decide)
    · cases i with
      | zero => exact absurd rfl h2
      | succ i => simp at h1
  have hm : claimMargin ≤ 800 := by decide +kernel
  have R' : Room K callerA n := ⟨fun _ => rfl, (by refine rwE hch ?_; rfl), (by show 1 + claimMargin + 3 * n + 10 < 1000; lia), (by show 4 + 10 * n + 300 < 9900; lia)⟩
  subst hfa
  refine codeAny_mono (sf_all hfl n K G₀ hΦ hfld li callerA ⟨[a], fun _ => False⟩ _ s₁ [.ref 0] [.ref a] _ noX R' S (fun ev he => by rw [hch] at he; cases he) ⟨⟨a, rfl, rfl⟩, trivial⟩ W) fun r s' q => ?_
  match r, q with
  | .ok (.ret v), ⟨rv, g', σ', go, sx, rel, e⟩ =>
    subst e
    cases rel
    exact hR s' (fun b o e => go.st.base b o (hs ▸ e)) sx.1 sx.2
  | .error v, q => exact (q : EndX K _ _ _ _ _ _ _).none.elim
end
end Mini

set_option autoImplicit false
set_option linter.unusedVariables false
namespace Mini
open PySem PyProof.Rows PySem.W

theorem post_ok (l : OpenLaw) (args : List WData) : l.row.toRowW.claim.post args (.bool true) args = true := by
  show (WShape.has [] (.bool true) .bool && (WTm.eq .res (.lit (.bool true))).holds [] { args := args, res := some (.bool true), after := args }) = true
  with_unfolding_all rfl
theorem reads_ok (l : OpenLaw) (cl : Str → Option Addr) (h : Heap) : ReadsW l.row.toRowW.claim.records cl h (.bool true) (.bool true) [] := by
  constructor
theorem good_ok (l : OpenLaw) {cl : Str → Option Addr} {mean : ExcName → Option Value} {args : List WData} {s₁ s' : Shared} (hg : s₁.gens = #[]) (h1 : ∀ b o, s₁.heap.get? b = some o → s'.heap.get? b = some o) (h2 : s'.os = s₁.os) (h3 : s'.gens = s₁.gens) :
    GoodWG l.row.toRowW.claim cl mean args s₁ (.ok (.ret (.bool true))) s' :=
  GoodW.toG ⟨.inl ⟨_, .bool true, [], rfl, fun _ => rfl, reads_ok l cl _, post_ok l args, fun _ => ⟨.nil, nofun⟩⟩, h1, h2, h3.trans hg⟩
theorem script_obj {P : Params} {h : Heap} {a : Addr} {vs : List Value} {xs : List PyData} (w : Well P h (.ref a) (ofPy (.list xs))) (hl : h.IsList a vs.toArray) : h.get? a = some { cls := .type "list", data := .seq vs.toArray } := by
  obtain ⟨o, ho, hc, n, hd⟩ := hl
  rw [show ofPy (.list xs) = .list (ofPys xs) from by simp only [ofPy]] at w
  cases w with
  | list h1 h2 =>
    rw [ho] at h1
    cases h1
    cases hd
    exact ho

end Mini

set_option autoImplicit false
set_option linter.unusedVariables false
namespace Mini
open PySem PyProof.Rows

/-- the assignments of __init__ -/
noncomputable def ini : List (Str × Pos × Pos × Pos × Pos) → List Stmt
  | [] => []
  | (f, p, q, r, t) :: l => .Assign [.Attribute (.Name "self" p) f q] (.Name f r) t :: ini l
/-- what holds of an attribute's name -/
structure FldOk (sc : Scope) (mN : Str → Option Value) (f : Str) : Prop where
  loc : sc.names.lookup f = some .local
  dbg : (f == ("__debug__" : Str)) = false
  ns : mN f = none
  ob : typeLookup (.type "object") f = pure none

section
variable {prog : Program} {w : World} {A : Around} {E : Value → Shared → Prop} {C N x dx L : Addr} {mN ms : Str → Option Value} {env : Env} {hB : Heap}

theorem ini_walk (X : ClsAt hB C N mN) (hset : mN "__setattr__" = none) (hk : env.scope.kind = .function) (hL : env.locals = L) (hself : env.scope.names.lookup ("self" : Str) = some .local) (hsv : ms "self" = some (.ref x)) (hxC : hB.get? x = none) (hdC : hB.get? dx = none) (hLx : L ≠ x) (hLd : L ≠ dx) {H₀ : Heap} (hx0 : H₀.get? x = none) (hd0 : H₀.get? dx = none) :
    ∀ (l : List (Str × Pos × Pos × Pos × Pos)) (vs : List Value) (mA : Str → Option Value) (ns : List Str) (s : Shared) (Q : Flow → Shared → Prop), (∀ f ∈ l.map (·.1), FldOk env.scope mN f) → (∀ (i : Nat) (f : Str) (v : Value), (l.map (·.1))[i]? = some f → vs[i]? = some v → ms f = some v) → l.length = vs.length → (l.map (·.1)).Nodup →
    InO s.heap C x dx mA → s.heap.Ns L ms → (∀ b o, hB.get? b = some o → s.heap.get? b = some o) → (∀ b o, H₀.get? b = some o → s.heap.get? b = some o) → Within mA ns → ns.length + l.length ≤ sizeLine →
    (∀ h' tk mA', InO h' C x dx mA' → (∀ b o, H₀.get? b = some o → h'.get? b = some o) → (∀ y, y ∉ l.map (·.1) → mA' y = mA y) → (∀ (i : Nat) (f : Str) (v : Value), (l.map (·.1))[i]? = some f → vs[i]? = some v → mA' f = some v) → Q .next { s with heap := h', toks := tk }) →
    wpAny (model prog w) A (execs (ini l) env) Q E s
  | [], vs, mA, ns, s, Q, _, _, _, _, I, _, _, k0, _, _, hQ => wpAny_execs_nil (by
      have := hQ s.heap s.toks mA I k0 (fun _ _ => rfl) (fun i f v h => by simp at h)
      exact this)
  | (f, p, q, r, t) :: l, [], mA, ns, s, Q, _, _, hl, _, _, _, _, _, _, _, _ => by simp at hl
  | (f, p, q, r, t) :: l, v :: vs, mA, ns, s, Q, hok, hv, hl, hnd, I, hns, kB, k0, hw, hsz, hQ => by
    obtain ⟨hh, g, d, tk, os⟩ := s
    have fo := hok f (by simp)
    have hvf : ms f = some v := hv 0 f v rfl rfl
    have hkind : ∀ y, env.kindOf y = env.scope.names.lookup y := fun y => rfl
    rw [List.map_cons, List.nodup_cons] at hnd
    refine wpAny_execs_cons (plainObj_wpAny_Assign_Attribute ?_ rfl)
    refine wpAny_Name (wpAny_loadName_local hk ((hkind f).trans fo.loc) (hL ▸ hns) hvf ?_) fo.dbg
    refine wpAny_Name (wpAny_loadName_local hk ((hkind ("self" : Str)).trans hself) (hL ▸ hns) hsv ?_) (by decide)
    obtain ⟨nm, qn, bs, sn, sub, col, dd, k0', k1, k2, k3, k5, hC⟩ := (X.keeps kB).obj
    obtain ⟨o, hx, hc, hdt, hnc⟩ := I.obj
    have hxC' : x ≠ C := by
      rintro rfl
      obtain ⟨_, _, _, _, _, _, _, _, _, _, _, _, hC0⟩ := X.obj
      rw [hxC] at hC0; cases hC0
    have inst : hh.Inst x C mA := ⟨o, hx, hc, hnc, .inr ⟨dx, hdt, I.ne, I.ns⟩⟩
    refine store_attr PySem.F.store_object hC (X.keeps kB).ns hset fo.ns fo.ob hxC' inst (fun h' tk' I' hkp hsame => ?_) hw (by simp at hsz; lia)
    have kk : ∀ b o, b ≠ x → b ≠ dx → hh.get? b = some o → h'.get? b = some o := fun b o h1 h2 e => hkp b o h1 (fun o₀ d' e₀ ed => by
      obtain rfl := Option.some.inj (hx.symm.trans e₀); obtain rfl := Option.some.inj (hdt.symm.trans ed); exact h2) e
    obtain ⟨o₁, e₁, c₁, dt₁, _, dk₁⟩ := hsame o hx
    have IO : InO h' C x dx (fun y => if y = f then some v else mA y) := by
      obtain ⟨o', e', _, _, hd'⟩ := I'
      obtain rfl := Option.some.inj (e₁.symm.trans e')
      rcases hd' with ⟨hn0, _⟩ | ⟨d', hd', _, hns'⟩
      · rw [dk₁ dx hdt] at hn0; cases hn0
      · obtain rfl := Option.some.inj ((dk₁ dx hdt).symm.trans hd')
        exact ⟨⟨o₁, e₁, c₁.trans hc, dk₁ _ hdt, fun c => dt₁ ▸ hnc c⟩, I.ne, hns'⟩
    refine ini_walk X hset hk hL hself hsv hxC hdC hLx hLd hx0 hd0 l vs _ (f :: ns) ⟨h', g, d, tk', os⟩ Q (fun y hy => hok y (by simp [hy])) (fun i y u h1 h2 => hv (i + 1) y u (by simpa using h1) (by simpa using h2)) (by simpa using hl) hnd.2 IO ?_ ?_ ?_ ?_ ?_ ?_
    · obtain ⟨oL, es, ep, eL, rL⟩ := hns
      exact ⟨oL, es, ep, kk L oL hLx hLd eL, rL⟩
    · exact fun b o e => kk b o (by rintro rfl; rw [hxC] at e; cases e) (by rintro rfl; rw [hdC] at e; cases e) (kB b o e)
    · exact fun b o e => kk b o (by rintro rfl; rw [hx0] at e; cases e) (by rintro rfl; rw [hd0] at e; cases e) (k0 b o e)
    · intro y hy
      by_cases hyf : y = f
      · simp [hyf]
      · simp only [if_neg hyf] at hy
        exact List.mem_cons_of_mem _ (hw y hy)
    · simp at hsz ⊢; lia
    · intro h'' tk'' mA' J k' hn hm
      refine hQ h'' tk'' mA' J k' (fun y hy => ?_) (fun i y u h1 h2 => ?_)
      · simp only [List.map_cons, List.mem_cons, not_or] at hy
        (refine rwE (hn y hy.2) ?_; (refine rwE (if_neg hy.1) ?_; with_reducible rfl))
      · cases i with
        | zero =>
          simp at h1 h2
          subst h1 h2
          (refine rwE (hn f hnd.1) ?_; (refine rwE (if_pos rfl) ?_; with_reducible rfl))
        | succ i => exact hm i y u (by simpa using h1) (by simpa using h2)
theorem hall_attr (X : ClsAt hB C N mN) (hga : mN "__getattribute__" = none) {fields : List Str} (hf : ∀ f ∈ fields, mN f = none ∧ typeLookup (.type "object") f = pure none)
    (A : Around) (s : Shared) (Q : Value → Shared → Prop) (E : Value → Shared → Prop) (b d : Addr) (mA : Str → Option Value) (vs : List Value) (k : Nat) (f : Str) (u : Value) (kB : ∀ b o, hB.get? b = some o → s.heap.get? b = some o)
    (I : InO s.heap C b d mA) (hF : hasF fields mA vs) (hk : fields[k]? = some f) (hu : vs[k]? = some u) (ho : handedOut u = pure u) (hq : ∀ tk, Q u { s with toks := tk }) : wpAny (model prog w) A (getAttr (.ref b) f true) Q E s := by
  obtain ⟨hh, g, dr, t, os⟩ := s
  obtain ⟨nm, qn, bs, sn, sub, col, dd, k0', k1, k2, k3, k5, hC⟩ := (X.keeps kB).obj
  obtain ⟨o, hx, hc, hdt, hnc⟩ := I.obj
  have h1 := hf f (List.mem_of_getElem? hk)
  exact load_attr hC (X.keeps kB).ns hga h1.1 h1.2 ⟨o, hx, hc, hnc, .inr ⟨d, hdt, I.ne, I.ns⟩⟩ (hF.2 k f u hk hu) ho (hq _)

theorem hall_make (X : ClsAt hB C N mN) (hlim : hB.NoLimit) {fI : Addr} {oI : Obj} {qual : Str} {params : Arguments} {l : List (Str × Pos × Pos × Pos × Pos)} {scope : Scope} {pm doc cdv : Value} (hi : mN "__init__" = some (.ref fI)) (hset : mN "__setattr__" = none)
    (ho : hB.get? fI = some oI) (hfc : oI.cls = .type "function") (hdat : oI.data = .func (methDef "__init__" qual params (ini l) scope pm cdv doc)) (hcd : hB.CodeRec cdv qual) {fields : List Str} (hl : l.map (·.1) = fields) (hlen : fields.length = 5) (hnd : fields.Nodup)
    (hok : ∀ f ∈ fields, FldOk scope mN f) (hself : scope.names.lookup ("self" : Str) = some .local)
    (hb : ∀ (x : Addr) (vs : List Value), vs.length = 5 → ∃ binds, bindArgs (methDef "__init__" qual params (ini l) scope pm cdv doc) ⟨.ref x :: vs, []⟩ = pure binds ∧ (∀ y ∈ binds, scope.names.lookup y.1 = some .local) ∧ binds.reverse.lookup ("self" : Str) = some (.ref x) ∧ ∀ (i : Nat) (f : Str) (v : Value), fields[i]? = some f → vs[i]? = some v → binds.reverse.lookup f = some v)
    (hco : scope.isCoroutine = false) (hgen : scope.isGenerator = false) (hk : scope.kind = .function) (hcell : ∀ x ∈ scope.names, x.2 ≠ .cell)
    (A : Around) (s : Shared) (vs : List Value) (Q : Value → Shared → Prop) (E : Value → Shared → Prop) (R : A.depth + 10 < recursionLimit) (kB : ∀ b o, hB.get? b = some o → s.heap.get? b = some o) (hvs : vs.length = 5)
    (hq : ∀ b d mA h' tk, s.heap.get? b = none → s.heap.get? d = none → InO h' C b d mA → hasF fields mA vs → (∀ c o, s.heap.get? c = some o → h'.get? c = some o) → Q (.ref b) { s with heap := h', toks := tk }) :
    wpAny (model prog w) A (call (.ref C) vs) Q E s := by
  obtain ⟨hh, g, d, t, os⟩ := s
  obtain ⟨nm, qn, bs, sn, sub, col, dd, k0', k1, k2, k3, k5, hC⟩ := (X.keeps kB).obj
  refine wpAny_call_obj_init PySem.F.objNew hC (X.keeps kB).ns hi (kB _ _ ho) hfc fun h' x dx Mk => ?_
  have kk : ∀ b o, hB.get? b = some o → h'.get? b = some o := fun b o e => Mk.keeps _ _ (kB b o e)
  obtain ⟨binds, hbind, hloc, hsv, hvv⟩ := hb x vs hvs
  obtain ⟨ox, hx, hcx, hncx, hdx⟩ := Mk.inst
  have hdd := Mk.dict ox hx
  obtain ⟨hne, hnsd⟩ : dx ≠ x ∧ h'.Ns1 dx fun _ => none := by
    rcases hdx with ⟨hn0, _⟩ | ⟨d', hd', hne', hns'⟩
    · rw [hn0] at hdd; cases hdd
    · obtain rfl := Option.some.inj (hd'.symm.trans hdd); exact ⟨hne', hns'⟩
  have hlt := R
  have h5 : l.length = 5 := by (refine rwE (Eq.symm (hlen)) ?_; refine rwE (Eq.symm (hl)) ?_; (rewrite [List.length_map]; with_reducible rfl))
  have hn0 : ∀ {a : Addr}, hh.get? a = none → hB.get? a = none := fun {a} e => by
    cases hq : hB.get? a with
    | none => rfl
    | some o => have := kB a o hq; rw [e] at this; cases this
  refine wpAny_call (codeAny_call_def (fd := methDef "__init__" qual params (ini l) scope pm cdv doc) (body := ini l) (binds := binds) (by show A.depth + 1 < _; lia) (kk _ _ ho) hdat (hlim.keeps kk) (hcd.keeps kk) rfl (.of_eq hbind) hcell hloc
    (fun h₁ hns hk₁ => ?_) hco hgen hk)
  refine ini_walk (H₀ := hh) (ms := fun y => binds.reverse.lookup y) X hset hk rfl hself hsv (hn0 Mk.newX) (hn0 Mk.newD) (fun z => by have := Heap.lt_size hx; rw [← z] at this; exact Nat.lt_irrefl _ this) (fun z => by have := hnsd.lt; rw [← z] at this; exact Nat.lt_irrefl _ this) Mk.newX Mk.newD l vs (fun _ => none) [] _ _ (by refine rwE hl ?_; exact hok) (by refine rwE hl ?_; exact hvv) (by (refine rwE hvs ?_; refine rwE (Eq.symm (hlen)) ?_; refine rwE (Eq.symm (hl)) ?_; (rewrite [List.length_map]; with_reducible rfl))) (by refine rwE hl ?_; exact hnd)
    ⟨⟨ox, hk₁ _ _ hx, hcx, hdd, hncx⟩, hne, hnsd.keeps hk₁⟩ hns (fun b o e => hk₁ _ _ (kk b o e)) (fun b o e => hk₁ _ _ (Mk.keeps b o e)) Within.nil (by refine rwE h5 ?_; decide) ?_
  intro h'' tk mA' J k' hn hm
  rw [hl] at hm
  exact ⟨rfl, hq x dx mA' h'' tk Mk.newX Mk.newD J ⟨by (refine rwE hlen ?_; (refine rwE hvs ?_; with_reducible rfl)), hm⟩ k'⟩
end
end Mini

set_option autoImplicit false
set_option linter.unusedVariables false
namespace Mini
open PySem PyProof.Rows PySem.W

noncomputable def flds : List Str := ["gates", "rows", "done", "stages", "cells"]
theorem flds_ob : ∀ f ∈ flds, typeLookup (.type "object") f = pure none := by
  intro f hf
  simp only [flds, List.mem_cons, List.not_mem_nil, or_false] at hf
  rcases hf with rfl | rfl | rfl | rfl | rfl <;> ((rewrite [typeLookup_type]; refine rwE builtinLookup_eq_fast ?_); kernel_rfl)
noncomputable def ext : Stmt → Str × Pos × Pos × Pos × Pos
  | .Assign [.Attribute (.Name _ p) f q] (.Name _ r) t => (f, p, q, r, t)
  | _ => ("", ⟨0, 0, 0, 0⟩, ⟨0, 0, 0, 0⟩, ⟨0, 0, 0, 0⟩, ⟨0, 0, 0, 0⟩)
noncomputable def hallRec (p : Program) (loose : List Str) : ClsRec := ((plainsOf p loose).find? fun c => c.name == ("Hall" : Str)).getD ⟨"", none, [], [], 0, []⟩
noncomputable def hallIni (p : Program) (loose : List Str) : MethRec := (hallRec p loose).meths.headD ⟨"", ⟨[], [], none, [], [], none, []⟩, [], ⟨.function, [], false, false, []⟩⟩
noncomputable def hallOk (p : Program) (loose : List Str) : Bool :=
  ((plainsOf p loose).find? fun c => c.name == ("Hall" : Str)).isSome && !(hallRec p loose).meths.isEmpty && (hallIni p loose).name == ("__init__" : Str) &&
  (hallIni p loose).params.posonlyargs.isEmpty && (hallIni p loose).params.vararg.isNone && (hallIni p loose).params.kwonlyargs.isEmpty && (hallIni p loose).params.kwarg.isNone &&
  ((hallIni p loose).params.args.map (·.arg) == ("self" : Str) :: flds) && (((hallIni p loose).body.map ext).map (·.1) == flds) &&
  (hallIni p loose).scope.kind == .function && !(hallIni p loose).scope.isCoroutine && !(hallIni p loose).scope.isGenerator && (hallIni p loose).scope.names.all (fun q => q.2 != .cell) &&
  (("self" : Str) :: flds).all (fun f => (hallIni p loose).scope.names.lookup f == some .local) && flds.all (fun f => (hallRec p loose).statics.contains f)

inductive HallS (p : Program) (loose : List Str) : Prop
  | mk (o1 : ((plainsOf p loose).find? fun c => c.name == ("Hall" : Str)).isSome = true) (o2 : (!(hallRec p loose).meths.isEmpty) = true) (o3 : ((hallIni p loose).name == ("__init__" : Str)) = true) (o4 : (hallIni p loose).params.posonlyargs.isEmpty = true) (o5 : (hallIni p loose).params.vararg.isNone = true) (o6 : (hallIni p loose).params.kwonlyargs.isEmpty = true) (o7 : (hallIni p loose).params.kwarg.isNone = true) (o8 : ((hallIni p loose).params.args.map (·.arg) == ("self" : Str) :: flds) = true) (o9 : (((hallIni p loose).body.map ext).map (·.1) == flds) = true) (o10 : ((hallIni p loose).scope.kind == .function) = true) (o11 : (!(hallIni p loose).scope.isCoroutine) = true) (o12 : (!(hallIni p loose).scope.isGenerator) = true) (o13 : (hallIni p loose).scope.names.all (fun q => q.2 != .cell) = true) (o14 : (("self" : Str) :: flds).all (fun f => (hallIni p loose).scope.names.lookup f == some .local) = true) (o15 : flds.all (fun f => (hallRec p loose).statics.contains f) = true)
theorem hall_s {p : Program} {loose : List Str} (h : hallOk p loose = true) : HallS p loose := by
  simp only [hallOk, Bool.and_eq_true] at h
  obtain ⟨⟨⟨⟨⟨⟨⟨⟨⟨⟨⟨⟨⟨⟨o1, o2⟩, o3⟩, o4⟩, o5⟩, o6⟩, o7⟩, o8⟩, o9⟩, o10⟩, o11⟩, o12⟩, o13⟩, o14⟩, o15⟩ := h
  exact ⟨o1, o2, o3, o4, o5, o6, o7, o8, o9, o10, o11, o12, o13, o14, o15⟩
theorem zip_look {ns : List Str} {vs : List Value} (hn : ns.Nodup) (hl : ns.length = vs.length) : ∀ (i : Nat) (f : Str) (v : Value), ns[i]? = some f → vs[i]? = some v → (ns.zip vs).reverse.lookup f = some v := by
  intro i f v h1 h2
  have hm : (f, v) ∈ (ns.zip vs).reverse := by
    rewrite [List.mem_reverse]
    exact List.mem_of_getElem? (i := i) (by rewrite [List.getElem?_zip_eq_some]; exact ⟨h1, h2⟩)
  have hk : ((ns.zip vs).reverse.map (·.1)).Nodup := by
    (refine rwE List.map_reverse ?_; refine rwE (List.map_fst_zip (by lia)) ?_)
    unfold List.Nodup
    rewrite [List.pairwise_reverse]
    exact List.Pairwise.imp (fun h => Ne.symm h) hn
  generalize (ns.zip vs).reverse = l at *
  induction l with
  | nil => cases hm
  | cons a l ih =>
    obtain ⟨k, u⟩ := a
    rw [List.map_cons, List.nodup_cons] at hk
    refine rwE List.lookup_cons ?_
    by_cases hf : f = k
    · subst hf
      rewrite [beq_self_eq_true]
      rcases List.mem_cons.mp hm with e | e
      · cases e; rfl
      · exact absurd (List.mem_map.mpr ⟨_, e, rfl⟩) hk.1
    · refine rwE (beq_eq_false_iff_ne.mpr hf) ?_
      rcases List.mem_cons.mp hm with e | e
      · cases e; exact absurd rfl hf
      · exact ih e hk.2

/-- the claim, of a text with the class Hall -/
theorem law_hall {l : OpenLaw} {p : Program} {loose : List Str} {w : World} {mean : ExcName → Option Value} {cl : Str → Option Addr} {mg mb : Str → Option Value} {s₁ : Shared} {consts : List (Str × Int)} {is : List Int} {vs : List Value} {a fa : Addr} {n li : Nat} {args : List WData} {prog : Program} {d : DefRec}
    (T : Top p loose mean mg mb s₁.heap) (TE : TopE p loose mg s₁.heap) (Y : excHook.says w s₁.heap) (ok : textOk p loose (mkPg p consts "Hall" flds) = true) (hok : hallOk p loose = true) (hbody : (hallIni p loose).body = ini ((hallIni p loose).body.map ext))
    (hw : Well w.params s₁.heap (.ref a) (ofPy (.list (is.map .int)))) (hl : s₁.heap.IsList a vs.toArray) (hi : IntsAre vs is) (hlen : is.length ≤ 63) (hg : s₁.gens = #[])
    (hmg : mg d.name = some (.ref fa)) (hd : (recsOf p)[li]? = some d) (hn : n ≤ 40) (W : callW (phi p (mkPg p consts "Hall" flds)) n li [.ref 0] [is.map V.int] (fun v _ => v = .bool true) noX) :
    codeAny (model prog w) callerA (.call (.ref fa) ⟨[.ref a], []⟩) (GoodWG l.row.toRowW.claim cl mean args s₁) s₁ := by
  obtain ⟨o1, o2, o3, o4, o5, o6, o7, o8, o9, o10, o11, o12, o13, o14, o15⟩ := hall_s hok
  obtain ⟨c, hc⟩ := Option.isSome_iff_exists.mp o1
  have ec : hallRec p loose = c := by unfold hallRec; refine rwE hc ?_; rfl
  have hcn : c.name = "Hall" := beq_iff_eq.mp (List.find?_some (p := fun c : ClsRec => c.name == ("Hall" : Str)) hc)
  obtain ⟨C, N, mN, hC, P⟩ := TE c (List.mem_of_find?_eq_some hc)
  have hin : hallIni p loose ∈ c.withCmp.meths := by
    show hallIni p loose ∈ c.meths
    unfold hallIni
    rw [ec] at o2 ⊢
    cases hm : c.meths with
    | nil => rw [hm] at o2; cases o2
    | cons m ms => exact .head _
  generalize hallIni p loose = mI at *
  obtain ⟨mname, params, body, scope⟩ := mI
  obtain ⟨fI, oI, pm, cdv, doc, h1, h2, h3, h4, h5⟩ := P.meths _ hin
  have e3 : mname = "__init__" := beq_iff_eq.mp o3
  subst e3
  have e8 : params.args.map (·.arg) = ("self" : Str) :: flds := beq_iff_eq.mp o8
  have e9 : (body.map ext).map (·.1) = flds := beq_iff_eq.mp o9
  have hst : ∀ f ∈ flds, mN f = none := fun f hf => P.quiet f (List.mem_append_right _ (List.mem_append_left _ (by
    have := List.all_eq_true.mp o15 f hf
    rw [ec] at this
    exact List.contains_iff_mem.mp this)))
  have hloc : ∀ f ∈ ("self" : Str) :: flds, scope.names.lookup f = some .local := fun f hf => beq_iff_eq.mp (List.all_eq_true.mp o14 f hf)
  have hbody : body = ini (body.map ext) := hbody
  have hnd : (("self" : Str) :: flds).Nodup := by decide +kernel
  have pargs : params.args.length = 6 := by have := congrArg List.length e8; simpa [flds] using this
  rw [hbody] at h4
  have X : ExF mg s₁.heap := by
    obtain ⟨mg', hn, X⟩ := Y
    exact ns_uniq hn T.g ▸ X
  have : Qt (mkCtx prog p w s₁.heap mg mb (mkPg p consts "Hall" flds) C flds) := ⟨rfl⟩
  refine enter (K := mkCtx prog p w s₁.heap mg mb (mkPg p consts "Hall" flds) C flds) rfl (gr_of T X ok (fun _ => hcn ▸ hC) (hall_attr P.cls (P.quiet _ (List.mem_append_left _ (.tail _ (.head _)))) fun f hf => ⟨hst f hf, flds_ob f hf⟩) (fun _ => ⟨N, mN, P.cls⟩)
    (fun _ => hall_make P.cls T.nolimit h1 (P.quiet _ (List.mem_append_left _ (.head _))) h2 h3 h4 h5 e9 rfl (List.nodup_cons.mp hnd).2 (fun f hf => ⟨hloc f (.tail _ hf), ?_, hst f hf, flds_ob f hf⟩) (hloc _ (.head _)) (fun x us hus => ?_) (by simpa using o11) (by simpa using o12) (by simpa using o10) (fun q hq => by simpa using List.all_eq_true.mp o13 q hq)))
    (fns_ok T) (fun _ => rfl) (fun z => absurd z (show ¬ ("Hall" : Str) = "" by decide)) rfl (script_obj hw hl) hi hlen hn (li := li) ?_ (fun s' h1 h2 h3 => good_ok l hg h1 h2 h3) W
  · have : ∀ f ∈ flds, (f == ("__debug__" : Str)) = false := by decide +kernel
    exact this f hf
  · refine ⟨_, bind_all (by simpa using o4) (by simpa using o5) (by simpa using o6) (by simpa using o7) (by simp [hus, pargs]) (by refine rwE e8 ?_; exact hnd), ?_, ?_, ?_⟩
    · intro y hy
      exact hloc _ (by refine rwE (Eq.symm (e8)) ?_; exact (List.of_mem_zip (a := y.1) (b := y.2) hy).1)
    · refine rwE e8 ?_; exact zip_look hnd (by simp [flds, hus]) 0 _ _ rfl rfl
    · intro i f v hf hv
      refine rwE e8 ?_
      exact zip_look hnd (by simp [flds, hus]) (i + 1) f v (by simpa using hf) (by simpa using hv)
  · have := (fa_of T hd).1
    rw [hmg] at this; cases this; rfl
end Mini

set_option autoImplicit false
set_option linter.unusedVariables false
namespace Mini

theorem forL_go {B : M → H → (M → H → Prop) → Prop} {xs : List Nat} {ok : H → Prop} {N : M → H → Prop} (I : Nat → M → H → Prop) :
    ∀ (its : List V) (k : Nat), (∀ i v m σ K, its[i]? = some v → I (k + i) m σ → (∀ m σ, I (k + i + 1) m σ → K m σ) → ok σ ∧ ∃ m', bindV xs m v = some m' ∧ B m' σ K) →
    (∀ m σ, I (k + its.length) m σ → ok σ ∧ N m σ) → ∀ m σ, I k m σ → forL B xs ok N its m σ
  | [], k, _, fin, m, σ, h => fin m σ h
  | v :: vs, k, step, fin, m, σ, h => by
    refine step 0 v m σ _ rfl h fun m σ h' => ?_
    refine forL_go I vs (k + 1) (fun i v m σ K e hi hK => step (i + 1) v m σ K (by simpa using e) (by refine rwE (show k + (i + 1) = k + 1 + i by lia) ?_; exact hi) (fun m σ q => hK m σ (by refine rwE (show k + 1 + i + 1 = k + (i + 1) + 1 by lia) ?_; exact q))) (fun m σ q => fin m σ (by refine rwE (show k + (v :: vs).length = k + 1 + vs.length by simp; lia) ?_; exact q)) m σ h'
theorem forL_rule {B : M → H → (M → H → Prop) → Prop} {xs : List Nat} {ok : H → Prop} {N : M → H → Prop} (I : Nat → M → H → Prop) {its : List V} {m : M} {σ : H}
    (h0 : I 0 m σ) (step : ∀ i v m σ K, its[i]? = some v → I i m σ → (∀ m σ, I (i + 1) m σ → K m σ) → ok σ ∧ ∃ m', bindV xs m v = some m' ∧ B m' σ K)
    (fin : ∀ m σ, I its.length m σ → ok σ ∧ N m σ) : forL B xs ok N its m σ :=
  forL_go I its 0 (fun i v m σ K e hi hK => step i v m σ K e (by simpa using hi) (fun m σ q => hK m σ (by simpa using q))) (fun m σ q => fin m σ (by simpa using q)) m σ h0
theorem while_go {T : M → H → (Bool → H → Prop) → Prop} {B : M → H → (M → H → Prop) → Prop} {N : M → H → Prop} (I : Nat → M → H → Prop)
    (step : ∀ k m σ (K : M → H → Prop), I k m σ → (∀ j m σ, j < k → I j m σ → K m σ) → T m σ (fun b σ => if b then B m σ K else N m σ)) : ∀ n k m σ, k < n → I k m σ → whileN T B N n m σ
  | 0, _, _, _, h, _ => absurd h (Nat.not_lt_zero _)
  | n + 1, k, m, σ, h, hi => step k m σ _ hi fun j m σ hj hi' => while_go I step n j m σ (by lia) hi'
theorem while_rule {T : M → H → (Bool → H → Prop) → Prop} {B : M → H → (M → H → Prop) → Prop} {N : M → H → Prop} (I : Nat → M → H → Prop) {k : Nat} {m : M} {σ : H} (h0 : I k m σ)
    (step : ∀ k m σ (K : M → H → Prop), I k m σ → (∀ j m σ, j < k → I j m σ → K m σ) → T m σ (fun b σ => if b then B m σ K else N m σ)) : ∃ n, whileN T B N n m σ := ⟨k + 1, while_go I step (k + 1) k m σ (Nat.lt_succ_self _) h0⟩
theorem rangeV_get {n : Int} {i : Nat} {v : V} (h : (rangeV n)[i]? = some v) : v = .int i ∧ (i : Int) < n := by
  unfold rangeV at h
  rw [List.getElem?_map, Option.map_eq_some_iff] at h
  obtain ⟨j, h1, h2⟩ := h
  rw [List.getElem?_eq_some_iff] at h1
  obtain ⟨h3, h4⟩ := h1
  rw [List.getElem_range] at h4
  rw [List.length_range] at h3
  subst h4
  exact ⟨h2.symm, by lia⟩
theorem e_eq {a b : Int} {σ : H} {Q : P} (h : Q (.bool (decide (a = b))) σ) : cmpop .eq (.int a) (.int b) σ Q := ⟨.int a, .int b, rfl, rfl, fun c hc => by
  have : c = decide (a = b) := by
    (rewrite [Bool.eq_iff_iff]; rewrite [hc]); simp
  refine rwE this ?_; exact h⟩
theorem e_ne {a b : Int} {σ : H} {Q : P} (h : Q (.bool (decide (a ≠ b))) σ) : cmpop .ne (.int a) (.int b) σ Q := ⟨.int a, .int b, rfl, rfl, fun c hc => by
  have : c = decide (a ≠ b) := by
    (rewrite [Bool.eq_iff_iff]; rewrite [hc]); simp
  refine rwE this ?_; exact h⟩
theorem e_seq {a b : Nat} {σ : H} {Q : P} (h : Q (.bool (decide (a = b))) σ) : cmpop .eq (.str a) (.str b) σ Q := ⟨.str a, .str b, rfl, rfl, fun c hc => by
  have : c = decide (a = b) := by
    (rewrite [Bool.eq_iff_iff]; rewrite [hc]); simp
  refine rwE this ?_; exact h⟩
theorem e_sne {a b : Nat} {σ : H} {Q : P} (h : Q (.bool (decide (a ≠ b))) σ) : cmpop .ne (.str a) (.str b) σ Q := ⟨.str a, .str b, rfl, rfl, fun c hc => by
  have : c = decide (a ≠ b) := by
    (rewrite [Bool.eq_iff_iff]; rewrite [hc]); simp
  refine rwE this ?_; exact h⟩
theorem rangeV_length (n : Int) : (rangeV n).length = n.toNat := by simp [rangeV]
end Mini

set_option autoImplicit false
set_option linter.unusedVariables false
namespace Mini
set_option genInjectivity false
set_option genSizeOfSpec false
/-- an operation on one value: what it asks, and what it gives where it asks nothing -/
inductive O1 where
  | mk (W : V → H → P → Prop) (p : V → Option V) (ok : ∀ v r σ Q, p v = some r → Q r σ → W v σ Q)
  | no
inductive O2 where
  | mk (W : V → V → H → P → Prop) (p : V → V → Option V) (ok : ∀ u v r σ Q, p u v = some r → Q r σ → W u v σ Q)
  | no
inductive Alt where
  | ev (e : E)
  | tst (e : E)
  | sts (ss : List S)
  | lit (b : Bool)
  | c2 (d : E) (o : O2)
  | dr
inductive AK where
  | call (b : Bool) (f : Nat)
  | hall
  | disp
  | tup
/-- what is to be done: an expression, a test, an operation whose operands lie on the stack, .. -/
inductive Tk where
  | ev (e : E)
  | tst (e : E)
  | o1 (o : O1)
  | o2 (o : O2)
  | c2 (o : Cmp)
  | cpr (e : E) (y : Nat) (r : Src) (t : Option E)
  | br (a b : Alt)
  | sts (ss : List S)
  | sop (s : S)
  | arg (t : AK) (es : List E) (acc : List V)
  | argp (t : AK) (es : List E) (acc : List V)
  | fin
inductive Vt where
  | mk (t : Tk) (k : List Tk) (s : List V) (m : M)
  | no
structure Vx where
  c : Cal
  x : X
  N : List V → M → H → Prop
  R : P
set_option genInjectivity true
set_option genSizeOfSpec true
noncomputable def nN (N : M → H → Prop) : List V → M → H → Prop := fun _ m σ => N m σ
noncomputable def nE (Q : P) : List V → M → H → Prop := fun s _ σ => match s with
  | v :: _ => Q v σ
  | [] => False
noncomputable def nT (K : Bool → H → Prop) : List V → M → H → Prop := fun s _ σ => match s with
  | v :: _ => truthy K v σ
  | [] => False
noncomputable def unK (m : M) (ys : List Nat) (L : M → H → Prop) : P := fun v σ => match v with
    | .tup vs => ∃ m', puts m ys vs = some m' ∧ L m' σ
    | _ => False
noncomputable def puK (m : M) (L : M → H → Prop) (v : V) (w k : V) (σ : H) : Prop := match w, k with
    | .ref a, .int k => ∃ xs, a ≠ 0 ∧ σ[a]? = some xs ∧ 0 ≤ k ∧ k < xs.length ∧ L m (σ.set a (xs.set k.toNat v))
    | _, _ => False
noncomputable def lsK (L : List V → (H → Prop) → H → Prop) : P := fun v σ => match v with
    | .ref a => ∃ xs, σ[a]? = some xs ∧ L xs (fun σ => σ[a]? = some xs) σ
    | _ => False
noncomputable def rgK (L : List V → (H → Prop) → H → Prop) : P := fun v σ => match v with
    | .int n => (0 ≤ n ∧ n < 2 ^ 24) ∧ L (rangeV n) (fun _ => True) σ
    | _ => False
noncomputable def enK (L : List V → (H → Prop) → H → Prop) : P := fun v σ => match v with
    | .ref a => ∃ xs, σ[a]? = some xs ∧ L (enumV 0 xs) (fun σ => σ[a]? = some xs) σ
    | _ => False
/-- sources of loops -/
noncomputable def srcE : Src → E
  | .list a => a
  | .range a => a
  | .enum a => a
noncomputable def srcK (s : Src) (L : List V → (H → Prop) → H → Prop) : P := match s with
  | .list _ => lsK L
  | .range _ => rgK L
  | .enum _ => enK L
noncomputable def Fe (cx : Vx) (e : E) (y : Nat) (m : M) : V → H → P → Prop := fun v σ Q => WE cx.c noX e (put m y v) σ Q
noncomputable def Ft (cx : Vx) (e : E) (y : Nat) (m : M) : V → H → (Bool → H → Prop) → Prop := fun v σ Q => WT cx.c noX e (put m y v) σ Q
noncomputable def Tw (cx : Vx) (t : E) : M → H → (Bool → H → Prop) → Prop := fun m σ K => WT cx.c noX t m σ K
noncomputable def Vx.lp (cx : Vx) (K : M → H → Prop) : Vx := ⟨cx.c, cx.x, nN K, cx.R⟩
noncomputable def Vx.lt (cx : Vx) (K : Bool → H → Prop) : Vx := ⟨cx.c, noX, nT K, cx.R⟩
noncomputable def Vx.le (cx : Vx) (Q : P) : Vx := ⟨cx.c, noX, nE Q, Q⟩
noncomputable def Vx.fn (Φ : Nat → Option Fn) (n : Nat) (x : X) (Q : P) : Vx := ⟨callW Φ n, x, nN fun _ σ => Q .none σ, Q⟩
noncomputable def Bd (cx : Vx) (b : List S) : M → H → (M → H → Prop) → Prop := fun m σ K => WSs cx.c b cx.x m σ K cx.R
noncomputable def TT : V → H → (Bool → H → Prop) → Prop := fun _ σ K => K true σ
noncomputable def Fo (cx : Vx) (t : Option E) (y : Nat) (m : M) : V → H → (Bool → H → Prop) → Prop := match t with
  | .none => TT
  | some t => Ft cx t y m
abbrev KK := List V → M → H → Prop
@[reducible] def kp (K : KK) (s : List V) (m : M) : P := fun v σ => K (v :: s) m σ
@[reducible] def kn (K : KK) (s : List V) : M → H → Prop := fun m σ => K s m σ
noncomputable def pop {α : Type} (d : α) (s : List V) (f : V → List V → α) : α := match s with
  | [] => d
  | v :: s => f v s
noncomputable def popP (s : List V) (f : V → List V → Prop) : Prop := match s with
  | [] => False
  | v :: s => f v s
noncomputable def onB (v : V) (f : Bool → Prop) : Prop := match v with
  | .bool q => f q
  | _ => False
noncomputable def o1W (o : O1) (v : V) (σ : H) (Q : P) : Prop := match o with
  | .mk W _ _ => W v σ Q
  | .no => False
noncomputable def o2W (o : O2) (u v : V) (σ : H) (Q : P) : Prop := match o with
  | .mk W _ _ => W u v σ Q
  | .no => False
noncomputable def altW (cx : Vx) (a : Alt) (K : KK) (s : List V) (m : M) (σ : H) : Prop := match a with
  | .ev e => WE cx.c noX e m σ (kp K s m)
  | .tst e => WT cx.c noX e m σ fun b σ => K (.bool b :: s) m σ
  | .sts ss => WSs cx.c ss cx.x m σ (kn K s) cx.R
  | .lit b => K (.bool b :: s) m σ
  | .c2 d o => WE cx.c noX d m σ fun u σ => popP s fun w s => o2W o w u σ (kp K s m)
  | .dr => K (.bool false :: s.tail) m σ
noncomputable def sopW (cx : Vx) (st : S) (K : KK) (s : List V) (m : M) (σ : H) : Prop := match st with
  | .while t b => ∃ n, whileN (Tw cx t) (Bd cx b) (kn K s) n m σ
  | .raise k => cx.x k σ
  | .try b hs => WSs cx.c b (fun k σ => WH cx.c hs k cx.x m σ cx.R) m σ (fun _ σ => K s m σ) (fun _ _ => False)
  | st => match s with
    | [] => False
    | v :: s => match st with
      | .set y _ => K s (put m y v) σ
      | .unpack ys _ => unK m ys (kn K s) v σ
      | .expr _ => K s m σ
      | .ret _ => cx.R v σ
      | .for ys r b => srcK r (fun its ok σ => forL (Bd cx b) ys ok (kn K s) its m σ) v σ
      | .put _ _ _ => (match s with
        | [] => False
        | w :: s => match s with
          | [] => False
          | u :: s => puK m (kn K s) u w v σ)
      | _ => False
noncomputable def argW (cx : Vx) (t : AK) (vs : List V) (K : KK) (s : List V) (m : M) (σ : H) : Prop := match t with
  | .call b f => cx.c f vs σ (kp K s m) (match b with | true => cx.x | false => noX)
  | .hall => vs.length = 5 ∧ K (.inst vs :: s) m σ
  | .disp => alloc vs σ (kp K s m)
  | .tup => K (.tup vs :: s) m σ
noncomputable def T1 (cx : Vx) (t : Tk) (K : KK) (s : List V) (m : M) (σ : H) : Prop := match t with
  | .ev e => WE cx.c noX e m σ (kp K s m)
  | .tst e => WT cx.c noX e m σ fun b σ => K (.bool b :: s) m σ
  | .o1 o => popP s fun v s => o1W o v σ (kp K s m)
  | .o2 o => popP s fun v s => popP s fun u s => o2W o u v σ (kp K s m)
  | .c2 o => popP s fun v s => popP s fun u s => cmpop o u v σ fun r σ => K (r :: v :: s) m σ
  | .cpr e y r t => popP s fun v s => srcK r (fun its ok σ => compL (Fo cx t y m) (Fe cx e y m) ok its [] σ (kp K s m)) v σ
  | .br a b => popP s fun v s => onB v fun q => if q then altW cx a K s m σ else altW cx b K s m σ
  | .sts ss => WSs cx.c ss cx.x m σ (kn K s) cx.R
  | .sop st => sopW cx st K s m σ
  | .arg t es acc => WEs cx.c noX es m σ fun vs σ => argW cx t (acc.reverseAux vs) K s m σ
  | .argp t es acc => popP s fun v s => WEs cx.c noX es m σ fun vs σ => argW cx t ((v :: acc).reverseAux vs) K s m σ
  | .fin => cx.N s m σ
noncomputable def VR (cx : Vx) : List Tk → List V → M → H → Prop
  | [] => cx.N
  | t :: k => T1 cx t (VR cx k)
/-- the values of a call, in their order -/
noncomputable def tupR {α : Type} (acc : List V) (f : List V → α) : α := match acc with
  | [] => f []
  | a :: r => match r with
    | [] => f [a]
    | b :: r => match r with
      | [] => f [b, a]
      | c :: r => match r with
        | [] => f [c, b, a]
        | d :: r => match r with
          | [] => f [d, c, b, a]
          | e :: r => f (r.reverseAux [e, d, c, b, a])
theorem tupR_eq {α : Type} (acc : List V) (f : List V → α) : tupR acc f = f (acc.reverseAux []) := by
  cases acc with
  | nil => rfl
  | cons a r =>
    cases r with
    | nil => rfl
    | cons b r =>
      cases r with
      | nil => rfl
      | cons c r =>
        cases r with
        | nil => rfl
        | cons d r =>
          cases r with
          | nil => rfl
          | cons e r => rfl
/-- a stop: nothing is unfolded beyond -/
inductive Stq (p : Prop) : Prop
  | mk (h : p)
/-- a call, as a stop -/
noncomputable def cW (Φ : Nat → Option Fn) (n f : Nat) (vs : List V) (σ : H) (Q : P) (x : X) : Prop := Stq (callW Φ n f vs σ Q x)
theorem Stq.out {p : Prop} : Stq p → p | ⟨h⟩ => h
noncomputable def srcG (r : Src) (L : List V → (H → Prop) → H → Prop) (v : V) (σ : H) : Prop := match r with
  | .list _ => Stq (lsK L v σ)
  | .range _ => Stq (rgK L v σ)
  | .enum _ => Stq (enK L v σ)
noncomputable def altK (a : Alt) (k : List Tk) : List Tk := match a with
  | .ev e => .ev e :: k
  | .tst e => .tst e :: k
  | .sts ss => .sts ss :: k
  | .lit _ => k
  | .c2 d o => .ev d :: .o2 o :: k
  | .dr => k
noncomputable def altS (a : Alt) (s : List V) : List V := match a with
  | .lit b => .bool b :: s
  | .dr => .bool false :: s.tail
  | _ => s
noncomputable def sopG (cx : Vx) (st : S) (k : List Tk) (s : List V) (m : M) (σ : H) : Prop := match st with
  | .while t b => ∃ n, whileN (Tw cx t) (Bd cx b) (kn (VR cx k) s) n m σ
  | .raise k => cx.x k σ
  | .try b hs => WSs cx.c b (fun k σ => WH cx.c hs k cx.x m σ cx.R) m σ (fun _ σ => VR cx k s m σ) (fun _ _ => False)
  | st => match s with
    | [] => False
    | v :: s => match st with
      | .ret _ => cx.R v σ
      | .for ys r b => srcG r (fun its ok σ => forL (Bd cx b) ys ok (kn (VR cx k) s) its m σ) v σ
      | .put _ _ _ => (match s with
        | [] => False
        | w :: s => match s with
          | [] => False
          | u :: s => Stq (puK m (kn (VR cx k) s) u w v σ))
      | _ => False
noncomputable def argG (cx : Vx) (t : AK) (vs : List V) (K : KK) (s : List V) (m : M) (σ : H) : Prop := match t with
  | .call b f => (match b with
    | true => Stq (cx.c f vs σ (kp K s m) cx.x)
    | false => Stq (cx.c f vs σ (kp K s m) noX))
  | .disp => Stq (alloc vs σ (kp K s m))
  | _ => False
noncomputable def o1G (o : O1) (v : V) (σ : H) (Q : P) : Prop := match o with
  | .mk W _ _ => Stq (W v σ Q)
  | .no => False
noncomputable def o2G (o : O2) (u v : V) (σ : H) (Q : P) : Prop := match o with
  | .mk W _ _ => Stq (W u v σ Q)
  | .no => False
/-- the stops -/
noncomputable def Vg (cx : Vx) (t : Tk) (k : List Tk) (s : List V) (m : M) (σ : H) : Prop := match t with
  | .o1 o => popP s fun v s => o1G o v σ (kp (VR cx k) s m)
  | .o2 o => popP s fun v s => popP s fun u s => o2G o u v σ (kp (VR cx k) s m)
  | .cpr e y r t => popP s fun v s => srcG r (fun its ok σ => compL (Fo cx t y m) (Fe cx e y m) ok its [] σ (kp (VR cx k) s m)) v σ
  | .br a b => popP s fun v s => onB v fun q => Stq (if q then VR cx (altK a k) (altS a s) m σ else VR cx (altK b k) (altS b s) m σ)
  | .sop st => sopG cx st k s m σ
  | .arg t es acc => (match es with
    | [] => tupR acc fun vs => argG cx t vs (VR cx k) s m σ
    | _ => False)
  | .fin => cx.N s m σ
  | _ => False
noncomputable def Gs (cx : Vx) (st : Vt) (σ : H) : Prop := match st with
  | .mk t k s m => Vg cx t k s m σ
  | .no => False
noncomputable def dOk (c : Nat) (i : Int) : Bool := match i with
  | .ofNat n => Nat.ble 1 n && Nat.ble n c
  | .negSucc _ => false
noncomputable def cI (o : Cmp) (i j : Int) : Option Bool := match o with
  | .eq => some (decide (i = j))
  | .ne => some (decide (i ≠ j))
  | .lt => some (decide (i < j))
  | .le => some (decide (i ≤ j))
  | .gt => some (decide (j < i))
  | .ge => some (decide (j ≤ i))
  | _ => .none
noncomputable def cSS (o : Cmp) (i j : Nat) : Option Bool := match o with
  | .eq => some (decide (i = j))
  | .ne => some (decide (i ≠ j))
  | _ => .none
noncomputable def cVV (o : Cmp) (u v : V) : Option Bool := match u with
  | .int i => (match v with
    | .int j => cI o i j
    | _ => .none)
  | .str i => (match v with
    | .str j => cSS o i j
    | _ => .none)
  | _ => .none
theorem no_b {b : Bool} (h : (.none : Option Bool) = some b) : False := by cases h
theorem no_i {b : Int} (h : (.none : Option Int) = some b) : False := by cases h
theorem no_w {b : V} (h : (.none : Option V) = some b) : False := by cases h
section
variable {σ : H}
theorem dOk_spec {c : Nat} {i : Int} (h : dOk c i = true) : 1 ≤ i ∧ i ≤ c := by
  cases i with
  | negSucc _ => cases h
  | ofNat n =>
    have h : (Nat.ble 1 n && Nat.ble n c) = true := h
    rw [Bool.and_eq_true] at h
    exact ⟨Int.ofNat_le.mpr (Nat.le_of_ble_eq_true h.1), Int.ofNat_le.mpr (Nat.le_of_ble_eq_true h.2)⟩
theorem cI_ok {o : Cmp} {i j : Int} {r : Bool} {Q : P} (h : cI o i j = some r) (q : Q (.bool r) σ) : cmpop o (.int i) (.int j) σ Q := by
  cases o with
  | eq => cases h; exact e_eq q
  | ne => cases h; exact e_ne q
  | lt => cases h; exact q
  | le => cases h; exact q
  | gt => cases h; exact q
  | ge => cases h; exact q
  | _ => exact (no_b h).elim
theorem cSS_ok {o : Cmp} {i j : Nat} {r : Bool} {Q : P} (h : cSS o i j = some r) (q : Q (.bool r) σ) : cmpop o (.str i) (.str j) σ Q := by
  cases o with
  | eq => cases h; exact e_seq q
  | ne => cases h; exact e_sne q
  | _ => exact (no_b h).elim
theorem cVV_ok {o : Cmp} {u v : V} {r : Bool} {Q : P} (h : cVV o u v = some r) (q : Q (.bool r) σ) : cmpop o u v σ Q := by
  cases u with
  | int i =>
    cases v with
    | int j => exact cI_ok h q
    | _ => exact (no_b h).elim
  | str i =>
    cases v with
    | str j => exact cSS_ok h q
    | _ => exact (no_b h).elim
  | _ => exact (no_b h).elim
/-- by a number that the text says -/
noncomputable def bL (o : Bin) (n i : Int) : Option Int := match o with
  | .add => some (i + n)
  | .sub => some (i - n)
  | .mul => if dOk 4000000000 n then some (i * n) else .none
  | .fdiv => if dOk 1000000000 n then some (i / n) else .none
  | .mod => if dOk 4000000000 n then some (i % n) else .none
theorem if_ok {b : Bool} {x r : Int} (h : (if b then some x else .none) = some r) : b = true ∧ x = r := by
  cases b with
  | true => cases h; exact ⟨rfl, rfl⟩
  | false => exact (no_i h).elim
theorem bL_ok {o : Bin} {n i r : Int} {Q : P} (h : bL o n i = some r) (q : Q (.int r) σ) : binop o (.int i) (.int n) σ Q := by
  cases o with
  | add => cases h; exact q
  | sub => cases h; exact q
  | mul => obtain ⟨a, rfl⟩ := if_ok h; have := dOk_spec a; exact ⟨⟨by lia, by lia⟩, q⟩
  | fdiv => obtain ⟨a, rfl⟩ := if_ok h; have := dOk_spec a; exact ⟨⟨by lia, by lia⟩, q⟩
  | mod => obtain ⟨a, rfl⟩ := if_ok h; have := dOk_spec a; exact ⟨by lia, q⟩
end
noncomputable def onI1 (v : V) (f : Int → Option V) : Option V := match v with
  | .int i => f i
  | _ => .none
theorem onI1_ok {v r : V} {f : Int → Option V} (h : onI1 v f = some r) : ∃ i, v = .int i ∧ f i = some r := by
  cases v with
  | int i => exact ⟨i, rfl, h⟩
  | _ => exact (no_w h).elim
noncomputable def onB1 (v : V) (f : Bool → Option V) : Option V := match v with
  | .bool b => f b
  | _ => .none
theorem onB1_ok {v r : V} {f : Bool → Option V} (h : onB1 v f = some r) : ∃ b, v = .bool b ∧ f b = some r := by
  cases v with
  | bool b => exact ⟨b, rfl, h⟩
  | _ => exact (no_w h).elim
noncomputable def tIx (n : Nat) (v : V) : Option V := match v with
  | .tup xs => xs[n]?
  | _ => .none
noncomputable def aIx (n : Nat) (v : V) : Option V := match v with
  | .inst xs => xs[n]?
  | _ => .none
noncomputable def xIx (ks : List Nat) (v : V) : Option V := match v with
  | .exc c => some (.bool (ks.any (excSub c)))
  | _ => .none
noncomputable def rIx (v : V) : Option V := match v with
  | .ref a => some (.ref a)
  | _ => .none
noncomputable def oNeg : O1 := .mk (fun v σ Q => match v with | .int i => Q (.int (-i)) σ | _ => False) (fun v => onI1 v fun i => some (.int (-i))) fun v r σ Q h q => by
  obtain ⟨i, rfl, h⟩ := onI1_ok h
  cases h; exact q
noncomputable def oB1 (f : B1) : O1 := .mk (bi1 f) (fun _ => .none) fun _ _ _ _ h _ => (no_w h).elim
noncomputable def oM0 (f : M0) : O1 := .mk (me0 f) (fun _ => .none) fun _ _ _ _ h _ => (no_w h).elim
noncomputable def oIsi (k : Kd) : O1 := .mk (fun v σ Q => ∃ b, isKd k v = some b ∧ Q (.bool b) σ) (fun v => (isKd k v).map .bool) fun v r σ Q h q => by
  obtain ⟨b, h1, rfl⟩ := Option.map_eq_some_iff.mp h
  exact ⟨b, h1, q⟩
noncomputable def oIsx (ks : List Nat) : O1 := .mk (fun v σ Q => match v with | .exc c => Q (.bool (ks.any (excSub c))) σ | _ => False) (xIx ks) fun v r σ Q h q => by
  cases v with
  | exc c => cases h; exact q
  | _ => exact (no_w h).elim
noncomputable def oAtt (k : Nat) : O1 := .mk (fun v σ Q => field v k σ Q) (aIx k) fun v r σ Q h q => by
  cases v with
  | inst xs => exact ⟨r, h, q⟩
  | _ => exact (no_w h).elim
noncomputable def oTru : O1 := .mk (fun v σ Q => truthy (fun b σ => Q (.bool b) σ) v σ) (fun v => onB1 v fun b => some (.bool b)) fun v r σ Q h q => by
  obtain ⟨b, rfl, h⟩ := onB1_ok h
  cases h; exact q
noncomputable def oNot : O1 := .mk (fun v σ Q => truthy (fun b σ => Q (.bool (!b)) σ) v σ) (fun v => onB1 v fun b => some (.bool (!b))) fun v r σ Q h q => by
  obtain ⟨b, rfl, h⟩ := onB1_ok h
  cases h; exact q
noncomputable def oRef : O1 := .mk (fun v σ Q => isRef v ∧ Q v σ) rIx fun v r σ Q h q => by
  cases v with
  | ref a => cases h; exact ⟨trivial, q⟩
  | _ => exact (no_w h).elim
noncomputable def oBinL (o : Bin) (n : Int) : O1 := .mk (fun v σ Q => binop o v (.int n) σ Q) (fun v => onI1 v fun i => (bL o n i).map .int) fun v r σ Q h q => by
  obtain ⟨i, rfl, h⟩ := onI1_ok h
  obtain ⟨j, h1, rfl⟩ := Option.map_eq_some_iff.mp h
  exact bL_ok h1 q
noncomputable def nL (n : Int) : Nat := match n with
  | .ofNat n => n
  | .negSucc _ => 1000
noncomputable def iIx (n : Int) (v : V) : Option V := if Nat.ble (nL n) 100 then tIx (nL n) v else .none
noncomputable def oIdxL (n : Int) : O1 := .mk (fun v σ Q => item v (.int n) σ Q) (iIx n) fun v r σ Q h q => by
  cases n with
  | negSucc _ => exact (no_w h).elim
  | ofNat n =>
    have h : (if Nat.ble n 100 = true then tIx n v else .none) = some r := h
    split at h
    · rename_i hb
      have := Nat.le_of_ble_eq_true hb
      cases v with
      | tup xs => exact ⟨⟨Int.natCast_nonneg n, by show (n : Int) < _; lia⟩, r, h, q⟩
      | _ => exact (no_w h).elim
    · exact (no_w h).elim
noncomputable def aI (o : Bin) (i j : Int) : Option Int := match o with
  | .add => some (i + j)
  | .sub => some (i - j)
  | _ => .none
theorem aI_ok {o : Bin} {i j r : Int} {σ : H} {Q : P} (h : aI o i j = some r) (q : Q (.int r) σ) : binop o (.int i) (.int j) σ Q := by
  cases o with
  | add => cases h; exact q
  | sub => cases h; exact q
  | _ => exact (no_i h).elim
noncomputable def aVV (o : Bin) (u v : V) : Option V := onI1 u fun i => onI1 v fun j => (aI o i j).map .int
noncomputable def oBin (o : Bin) : O2 := .mk (binop o) (aVV o) fun u v r σ Q h q => by
  obtain ⟨i, rfl, h1⟩ := onI1_ok h
  obtain ⟨j, rfl, h2⟩ := onI1_ok h1
  obtain ⟨k, h3, rfl⟩ := Option.map_eq_some_iff.mp h2
  exact aI_ok h3 q
noncomputable def oCmp (o : Cmp) : O2 := .mk (cmpop o) (fun u v => (cVV o u v).map .bool) fun u v r σ Q h q => by
  obtain ⟨i, h1, rfl⟩ := Option.map_eq_some_iff.mp h
  exact cVV_ok h1 q
noncomputable def oIdx : O2 := .mk item (fun _ _ => .none) fun _ _ _ _ _ h _ => (no_w h).elim
noncomputable def oFrom : O2 := .mk sliceFrom (fun _ _ => .none) fun _ _ _ _ _ h _ => (no_w h).elim
noncomputable def oUpto : O2 := .mk sliceTo (fun _ _ => .none) fun _ _ _ _ _ h _ => (no_w h).elim
noncomputable def oM1 (f : M1) : O2 := .mk (me1 f) (fun _ _ => .none) fun _ _ _ _ _ h _ => (no_w h).elim
noncomputable def litO (e : E) : Option Int := match e with
  | .int n => some n
  | _ => .none
theorem litO_ok {e : E} {n : Int} (h : litO e = some n) : e = .int n := by
  cases e with
  | int i => cases h; rfl
  | _ => exact (no_i h).elim
section
variable (f : List Tk → List V → M → Vt) (d : Vt)
noncomputable def nEv (e : E) (k : List Tk) (s : List V) (m : M) : Vt := match e with
  | .none => f k (.none :: s) m
  | .bool b => f k (.bool b :: s) m
  | .int i => f k (.int i :: s) m
  | .str i => f k (.str i :: s) m
  | .var y => (match get m y with
    | some v => f k (v :: s) m
    | .none => d)
  | .bin o a b => (match litO b with
    | some n => f (.ev a :: .o1 (oBinL o n) :: k) s m
    | .none => f (.ev a :: .ev b :: .o2 (oBin o) :: k) s m)
  | .neg a => f (.ev a :: .o1 oNeg :: k) s m
  | .not a => f (.ev a :: .o1 oNot :: k) s m
  | .and a b => f (.ev a :: .o1 oTru :: .br (.ev b) (.lit false) :: k) s m
  | .or a b => f (.ev a :: .o1 oTru :: .br (.lit true) (.ev b) :: k) s m
  | .cmp o a b => f (.ev a :: .ev b :: .o2 (oCmp o) :: k) s m
  | .cmp2 o a b p q => f (.ev a :: .ev b :: .c2 o :: .o1 oTru :: .br (.c2 q (oCmp p)) .dr :: k) s m
  | .ite t a b => f (.tst t :: .br (.ev a) (.ev b) :: k) s m
  | .call g as => f (.arg (.call false g) as [] :: k) s m
  | .hall as => f (.arg .hall as [] :: k) s m
  | .b1 g a => f (.ev a :: .o1 (oB1 g) :: k) s m
  | .isinst a g => f (.ev a :: .o1 (oIsi g) :: k) s m
  | .isexc a g => f (.ev a :: .o1 (oIsx g) :: k) s m
  | .attr a g => f (.ev a :: .o1 (oAtt g) :: k) s m
  | .idx a b => (match litO b with
    | some n => f (.ev a :: .o1 (oIdxL n) :: k) s m
    | .none => f (.ev a :: .ev b :: .o2 oIdx :: k) s m)
  | .from_ a b => f (.ev a :: .ev b :: .o2 oFrom :: k) s m
  | .upto a b => f (.ev a :: .ev b :: .o2 oUpto :: k) s m
  | .disp as => f (.arg .disp as [] :: k) s m
  | .tup as => f (.arg .tup as [] :: k) s m
  | .m0 g a => f (.ev a :: .o1 (oM0 g) :: k) s m
  | .m1 g a b => f (.ev a :: .o1 oRef :: .ev b :: .o2 (oM1 g) :: k) s m
  | .comp a y r => f (.ev (srcE r) :: .cpr a y r .none :: k) s m
  | .compIf a y r t => f (.ev (srcE r) :: .cpr a y r (some t) :: k) s m
noncomputable def nTs (e : E) (k : List Tk) (s : List V) (m : M) : Vt := match e with
  | .not a => f (.tst a :: .o1 oNot :: k) s m
  | .and a b => f (.tst a :: .br (.tst b) (.lit false) :: k) s m
  | .or a b => f (.tst a :: .br (.lit true) (.tst b) :: k) s m
  | .bool b => f k (.bool b :: s) m
  | .var y => f (.ev (.var y) :: .o1 oTru :: k) s m
  | .cmp o a b => f (.ev (.cmp o a b) :: .o1 oTru :: k) s m
  | .cmp2 o a b p q => f (.ev (.cmp2 o a b p q) :: .o1 oTru :: k) s m
  | .call g as => f (.ev (.call g as) :: .o1 oTru :: k) s m
  | .isinst a g => f (.ev (.isinst a g) :: .o1 oTru :: k) s m
  | .isexc a g => f (.ev (.isexc a g) :: .o1 oTru :: k) s m
  | _ => d
noncomputable def nSts (ss : List S) (k : List Tk) (s : List V) (m : M) : Vt := match ss with
  | [] => f k s m
  | st :: ss => match st with
    | .set y e => f (.ev e :: .sop (.set y e) :: .sts ss :: k) s m
    | .unpack ys e => f (.ev e :: .sop (.unpack ys e) :: .sts ss :: k) s m
    | .put a i e => f (.ev e :: .ev a :: .ev i :: .sop (.put a i e) :: .sts ss :: k) s m
    | .expr e => f (.ev e :: .sop (.expr e) :: .sts ss :: k) s m
    | .ite t a b => f (.tst t :: .br (.sts a) (.sts b) :: .sts ss :: k) s m
    | .while t b => f (.sop (.while t b) :: .sts ss :: k) s m
    | .for ys r b => f (.ev (srcE r) :: .sop (.for ys r b) :: .sts ss :: k) s m
    | .ret e => f (.ev e :: .sop (.ret e) :: .sts ss :: k) s m
    | .raise c => f (.sop (.raise c) :: .sts ss :: k) s m
    | .call g as => f (.arg (.call true g) as [] :: .sop (.expr .none) :: .sts ss :: k) s m
    | .setC y g as => f (.arg (.call true g) as [] :: .sop (.set y .none) :: .sts ss :: k) s m
    | .unpC ys g as => f (.arg (.call true g) as [] :: .sop (.unpack ys .none) :: .sts ss :: k) s m
    | .try b hs => f (.sop (.try b hs) :: .sts ss :: k) s m
noncomputable def nSop (st : S) (k : List Tk) (s : List V) (m : M) : Vt := match s with
  | [] => d
  | v :: s => match st with
    | .set y _ => f k s (put m y v)
    | .expr _ => f k s m
    | .unpack ys _ => (match v with
      | .tup vs => (match puts m ys vs with
        | some m' => f k s m'
        | .none => d)
      | _ => d)
    | _ => d
noncomputable def nO1 (o : O1) (v : V) (k : List Tk) (s : List V) (m : M) : Vt := match o with
  | .mk _ p _ => (match p v with
    | some r => f k (r :: s) m
    | .none => d)
  | .no => d
noncomputable def nO2 (o : O2) (u v : V) (k : List Tk) (s : List V) (m : M) : Vt := match o with
  | .mk _ p _ => (match p u v with
    | some r => f k (r :: s) m
    | .none => d)
  | .no => d
noncomputable def nArg (t : AK) (es : List E) (acc : List V) (k : List Tk) (s : List V) (m : M) : Vt := match es with
  | e :: es => f (.ev e :: .argp t es acc :: k) s m
  | [] => match t with
    | .tup => tupR acc fun vs => f k (.tup vs :: s) m
    | .hall => tupR acc fun vs => (match Nat.beq vs.length 5 with
      | true => f k (.inst vs :: s) m
      | false => d)
    | _ => d
noncomputable def step (t : Tk) (k : List Tk) (s : List V) (m : M) : Vt := match t with
  | .ev e => nEv f d e k s m
  | .tst e => nTs f d e k s m
  | .o1 o => pop d s fun v s => nO1 f d o v k s m
  | .o2 o => pop d s fun v s => pop d s fun u s => nO2 f d o u v k s m
  | .c2 o => pop d s fun v s => pop d s fun u s => match cVV o u v with
    | some r => f k (.bool r :: v :: s) m
    | .none => d
  | .sts ss => nSts f ss k s m
  | .sop st => nSop f d st k s m
  | .arg t es acc => nArg f d t es acc k s m
  | .argp t es acc => pop d s fun v s => f (.arg t es (v :: acc) :: k) s m
  | _ => d
end
/-- the pure steps -/
noncomputable def norm : Nat → List Tk → List V → M → Vt
  | 0, [], s, m => .mk .fin [] s m
  | 0, t :: k, s, m => .mk t k s m
  | _ + 1, [], s, m => .mk .fin [] s m
  | n + 1, t :: k, s, m => step (norm n) (.mk t k s m) t k s m
section
variable {cx : Vx} {f : List Tk → List V → M → Vt} {d : Vt} {t : Tk} {k : List Tk} {s : List V} {m : M} {σ : H}
theorem srcG_ok {r : Src} {L : List V → (H → Prop) → H → Prop} {v : V} : srcG r L v σ → srcK r L v σ := by
  cases r with
  | _ => exact Stq.out
theorem alt_ok {a : Alt} : VR cx (altK a k) (altS a s) m σ → altW cx a (VR cx k) s m σ := by
  cases a <;> exact id
theorem o1G_ok {o : O1} {v : V} {Q : P} : o1G o v σ Q → o1W o v σ Q := by
  cases o with
  | mk W p ok => exact Stq.out
  | no => exact id
theorem o2G_ok {o : O2} {u v : V} {Q : P} : o2G o u v σ Q → o2W o u v σ Q := by
  cases o with
  | mk W p ok => exact Stq.out
  | no => exact id
theorem popP_ok {p q : V → List V → Prop} (h : ∀ v s, p v s → q v s) : popP s p → popP s q := by
  cases s with
  | nil => exact id
  | cons v s => exact h v s
theorem onB_ok {v : V} {p q : Bool → Prop} (h : ∀ b, p b → q b) : onB v p → onB v q := by
  cases v with
  | bool b => exact h b
  | _ => exact @id False
theorem br_ok {a b : Alt} (q : Bool) (h : Stq (if q then VR cx (altK a k) (altS a s) m σ else VR cx (altK b k) (altS b s) m σ)) : if q then altW cx a (VR cx k) s m σ else altW cx b (VR cx k) s m σ := by
  cases q with
  | true => exact alt_ok h.out
  | false => exact alt_ok h.out
theorem argG_ok {t : AK} {vs : List V} {K : KK} : argG cx t vs K s m σ → argW cx t vs K s m σ := by
  cases t with
  | call b f => cases b <;> exact Stq.out
  | disp => exact Stq.out
  | _ => exact False.elim
theorem sopG_ok {st : S} : sopG cx st k s m σ → sopW cx st (VR cx k) s m σ := by
  cases st with
  | «while» _ _ => exact id
  | raise _ => exact id
  | «try» _ _ => exact id
  | _ =>
    cases s with
    | nil => exact @id False
    | cons v s =>
      first
      | exact @id False
      | exact False.elim
      | exact id
      | exact srcG_ok
      | (cases s with
        | nil => exact @id False
        | cons w s =>
          cases s with
          | nil => exact @id False
          | cons u s => exact Stq.out)
theorem Vg_ok : Vg cx t k s m σ → VR cx (t :: k) s m σ := by
  cases t with
  | o1 o => exact popP_ok fun v s => o1G_ok
  | o2 o => exact popP_ok fun v s => popP_ok fun u s => o2G_ok
  | cpr e y r t => exact popP_ok fun v s => srcG_ok
  | br a b => exact popP_ok fun v s => onB_ok br_ok
  | sop st => exact sopG_ok
  | arg t es acc =>
    cases es with
    | cons _ _ => exact False.elim
    | nil =>
      intro h
      have h : tupR acc (fun vs => argG cx t vs (VR cx k) s m σ) := h
      rw [tupR_eq] at h
      exact argG_ok h
  | fin => exact id
  | _ => exact False.elim
variable (hf : ∀ k s m, Gs cx (f k s m) σ → VR cx k s m σ)
include hf
theorem nEv_ok {e : E} (hd : Gs cx d σ → VR cx (.ev e :: k) s m σ) : Gs cx (nEv f d e k s m) σ → VR cx (.ev e :: k) s m σ := by
  cases e with
  | var y =>
    show Gs cx (match get m y with | some v => f k (v :: s) m | .none => d) σ → _
    cases h : get m y with
    | none => exact hd
    | some v => exact fun g => ⟨v, h, hf _ _ _ g⟩
  | bin o a b =>
    show Gs cx (match litO b with | some n => f (.ev a :: .o1 (oBinL o n) :: k) s m | .none => f (.ev a :: .ev b :: .o2 (oBin o) :: k) s m) σ → _
    cases h : litO b with
    | none => exact hf _ _ _
    | some n => refine rwE (litO_ok h) ?_; exact hf _ _ _
  | idx a b =>
    show Gs cx (match litO b with | some n => f (.ev a :: .o1 (oIdxL n) :: k) s m | .none => f (.ev a :: .ev b :: .o2 oIdx :: k) s m) σ → _
    cases h : litO b with
    | none => exact hf _ _ _
    | some n => refine rwE (litO_ok h) ?_; exact hf _ _ _
  | comp a y r => cases r <;> exact hf _ _ _
  | compIf a y r => cases r <;> exact hf _ _ _
  | _ => exact hf _ _ _
theorem nTs_ok {e : E} (hd : Gs cx d σ → VR cx (.tst e :: k) s m σ) : Gs cx (nTs f d e k s m) σ → VR cx (.tst e :: k) s m σ := by
  cases e with
  | not _ => exact hf _ _ _
  | and _ _ => exact hf _ _ _
  | or _ _ => exact hf _ _ _
  | bool _ => exact hf _ _ _
  | var _ => exact hf _ _ _
  | cmp _ _ _ => exact hf _ _ _
  | cmp2 _ _ _ _ _ => exact hf _ _ _
  | call _ _ => exact hf _ _ _
  | isinst _ _ => exact hf _ _ _
  | isexc _ _ => exact hf _ _ _
  | _ => exact hd
theorem nO1_ok {o : O1} {v : V} (hd : Gs cx d σ → o1W o v σ (kp (VR cx k) s m)) : Gs cx (nO1 f d o v k s m) σ → o1W o v σ (kp (VR cx k) s m) := by
  cases o with
  | no => exact hd
  | mk W p ok =>
    show Gs cx (match p v with | some r => f k (r :: s) m | .none => d) σ → _
    cases h : p v with
    | none => exact hd
    | some r => exact fun g => ok _ _ _ _ h (hf _ _ _ g)
theorem nO2_ok {o : O2} {u v : V} (hd : Gs cx d σ → o2W o u v σ (kp (VR cx k) s m)) : Gs cx (nO2 f d o u v k s m) σ → o2W o u v σ (kp (VR cx k) s m) := by
  cases o with
  | no => exact hd
  | mk W p ok =>
    show Gs cx (match p u v with | some r => f k (r :: s) m | .none => d) σ → _
    cases h : p u v with
    | none => exact hd
    | some r => exact fun g => ok _ _ _ _ _ h (hf _ _ _ g)
theorem nSts_ok {ss : List S} (hd : Gs cx d σ → VR cx (.sts ss :: k) s m σ) : Gs cx (nSts f ss k s m) σ → VR cx (.sts ss :: k) s m σ := by
  cases ss with
  | nil => exact hf _ _ _
  | cons st ss =>
    cases st with
    | «for» ys r b => cases r <;> exact hf _ _ _
    | _ => exact hf _ _ _
theorem nSop_ok {st : S} (hd : Gs cx d σ → VR cx (.sop st :: k) s m σ) : Gs cx (nSop f d st k s m) σ → VR cx (.sop st :: k) s m σ := by
  cases s with
  | nil => exact hd
  | cons v s =>
    cases st with
    | set _ _ => exact hf _ _ _
    | expr _ => exact hf _ _ _
    | unpack ys _ =>
      cases v with
      | tup vs =>
        show Gs cx (match puts m ys vs with | some m' => f k s m' | .none => d) σ → _
        cases h : puts m ys vs with
        | none => exact hd
        | some m' => exact fun q => ⟨m', h, hf _ _ _ q⟩
      | _ => exact hd
    | _ => exact hd
theorem nArg_ok {t : AK} {es : List E} {acc : List V} (hd : Gs cx d σ → VR cx (.arg t es acc :: k) s m σ) : Gs cx (nArg f d t es acc k s m) σ → VR cx (.arg t es acc :: k) s m σ := by
  cases es with
  | cons e es => exact hf _ _ _
  | nil =>
    cases t with
    | tup =>
      show Gs cx (tupR acc fun vs => f k (.tup vs :: s) m) σ → _
      rewrite [tupR_eq]
      exact hf _ _ _
    | hall =>
      show Gs cx (tupR acc fun vs => (match Nat.beq vs.length 5 with | true => f k (.inst vs :: s) m | false => d)) σ → _
      rewrite [tupR_eq]
      cases h : Nat.beq (acc.reverseAux []).length 5 with
      | true => exact fun q => ⟨Nat.eq_of_beq_eq_true h, hf _ _ _ q⟩
      | false => exact hd
    | _ => exact hd
theorem step_ok (hd : Gs cx d σ → VR cx (t :: k) s m σ) : Gs cx (step f d t k s m) σ → VR cx (t :: k) s m σ := by
  cases t with
  | ev e => exact nEv_ok hf hd
  | tst e => exact nTs_ok hf hd
  | o1 o =>
    cases s with
    | nil => exact hd
    | cons v s => exact nO1_ok hf hd
  | o2 o =>
    cases s with
    | nil => exact hd
    | cons v s =>
      cases s with
      | nil => exact hd
      | cons u s => exact nO2_ok hf hd
  | c2 o =>
    cases s with
    | nil => exact hd
    | cons v s =>
      cases s with
      | nil => exact hd
      | cons u s =>
        show Gs cx (match cVV o u v with | some r => f k (.bool r :: v :: s) m | .none => d) σ → _
        cases h : cVV o u v with
        | none => exact hd
        | some r => exact fun g => cVV_ok (Q := fun r σ => VR cx k (r :: v :: s) m σ) h (hf _ _ _ g)
  | sts ss => exact nSts_ok hf hd
  | sop st => exact nSop_ok hf hd
  | arg t es acc => exact nArg_ok hf hd
  | argp t es acc =>
    cases s with
    | nil => exact hd
    | cons v s => exact hf _ _ _
  | _ => exact hd
omit hf
theorem norm_ok : ∀ n k s m, Gs cx (norm n k s m) σ → VR cx k s m σ
  | 0, [], _, _ => id
  | 0, t :: k, _, _ => Vg_ok
  | _ + 1, [], _, _ => id
  | n + 1, t :: k, s, m => step_ok (fun k s m => norm_ok n k s m) Vg_ok
theorem vj (h : Gs cx (norm 400 k s m) σ) : VR cx k s m σ := norm_ok _ _ _ _ h
theorem vjB {b : List S} {K : M → H → Prop} (h : Gs (cx.lp K) (norm 400 [.sts b] [] m) σ) : Bd cx b m σ K := norm_ok (cx := cx.lp K) _ _ _ _ h
theorem vjT {K : Bool → H → Prop} {e : E} (h : Gs (cx.lt K) (norm 400 [.tst e] [] m) σ) : Tw cx e m σ K := norm_ok (cx := cx.lt K) _ _ _ _ h
theorem vjF {K : Bool → H → Prop} {e : E} {y : Nat} {v : V} (h : Gs (cx.lt K) (norm 400 [.tst e] [] (put m y v)) σ) : Fo cx (some e) y m v σ K := norm_ok (cx := cx.lt K) _ _ _ _ h
theorem vjE {Q : P} {e : E} {y : Nat} {v : V} (h : Gs (cx.le Q) (norm 400 [.ev e] [] (put m y v)) σ) : Fe cx e y m v σ Q := norm_ok (cx := cx.le Q) _ _ _ _ h
theorem vfT {K : Bool → H → Prop} {b : Bool} (h : Stq (K b σ)) : Gs (cx.lt K) (.mk .fin k (.bool b :: s) m) σ := h.out
theorem fn_in {Φ : Nat → Option Fn} {n g : Nat} {vs : List V} {Q : P} {x : X} {fn : Fn} (e : Φ g = some fn) (hl : vs.length = fn.np) (h : Gs (.fn Φ n x Q) (norm 400 [.sts fn.body] [] (start fn vs)) σ) : cW Φ (n + 1) g vs σ Q x := ⟨fn, e, hl, norm_ok (cx := .fn Φ n x Q) _ _ _ _ h⟩
/-- under try -/
noncomputable def Vx.tr (cx : Vx) (hs : List (Nat × Option Nat × List S)) (k : List Tk) (s : List V) (m : M) : Vx := ⟨cx.c, fun j σ => WH cx.c hs j cx.x m σ cx.R, nN fun _ σ => VR cx k s m σ, fun _ _ => False⟩
noncomputable def Vx.hd (cx : Vx) : Vx := ⟨cx.c, noX, fun _ _ _ => False, cx.R⟩
theorem v_try {b : List S} {hs : List (Nat × Option Nat × List S)} (h : Gs (cx.tr hs k s m) (norm 400 [.sts b] [] m) σ) : Gs cx (.mk (.sop (.try b hs)) k s m) σ := norm_ok (cx := cx.tr hs k s m) _ _ _ _ h
theorem v_end {hs : List (Nat × Option Nat × List S)} {k' : List Tk} {s' : List V} {m' : M} (h : VR cx k s m σ) : Gs (cx.tr hs k s m) (.mk .fin k' s' m') σ := h
theorem v_ha {j i : Nat} {y : Option Nat} {b : List S} {hs : List (Nat × Option Nat × List S)} (e : excSub j i = true) (h : Gs cx.hd (norm 400 [.sts b] [] (match y with | some y => put m y (.exc j) | .none => m)) σ) : (cx.tr ((i, y, b) :: hs) k s m).x j σ := by
  show if excSub j i = true then _ else _
  refine rwE (if_pos e) ?_
  exact norm_ok (cx := cx.hd) _ _ _ _ h
theorem vret {Φ : Nat → Option Fn} {n : Nat} {x : X} {Q : P} {e : E} {v : V} (h : Q v σ) : Gs (.fn Φ n x Q) (.mk (.sop (.ret e)) k (v :: s) m) σ := h
end
section
variable {c : Cal} {x : X} {m : M} {σ : H} {N : M → H → Prop} {R Q : P} {ss : List S} {K : Bool → H → Prop} {L : List V → (H → Prop) → H → Prop}
theorem s_puK {L : M → H → Prop} {v : V} {a : Nat} {k : Int} {xs : List V} (ha : a ≠ 0) (hx : σ[a]? = some xs) (h0 : 0 ≤ k) (h1 : k < xs.length) (h : L m (σ.set a (xs.set k.toNat v))) : Stq (puK m L v (.ref a) (.int k) σ) := ⟨⟨xs, ha, hx, h0, h1, h⟩⟩
theorem x_item {a k : Nat} {xs : List V} {v : V} (hx : σ[a]? = some xs) (hv : xs[k]? = some v) (h : Q v σ) : Stq (item (.ref a) (.int k) σ Q) := ⟨⟨xs, v, hx, .inl ⟨by lia, by simpa using hv⟩, h⟩⟩
theorem x_it {a : Nat} {k : Int} {xs : List V} {v : V} (hx : σ[a]? = some xs) (hk : 0 ≤ k) (hv : xs[k.toNat]? = some v) (h : Q v σ) : Stq (item (.ref a) (.int k) σ Q) := ⟨⟨xs, v, hx, .inl ⟨hk, hv⟩, h⟩⟩
theorem b_len {a : Nat} {xs : List V} (hx : σ[a]? = some xs) (h : Q (.int xs.length) σ) : Stq (bi1 .len (.ref a) σ Q) := ⟨⟨xs, hx, h⟩⟩
theorem b_lenE {a n : Nat} {xs : List V} (hx : σ[a]? = some xs) (e : xs.length = n) (h : Q (.int n) σ) : Stq (bi1 .len (.ref a) σ Q) := ⟨⟨xs, hx, by refine rwE e ?_; exact h⟩⟩
theorem b_list {a : Nat} {xs : List V} (hx : σ[a]? = some xs) (hl : xs.length ≤ lim) (h : Q (.ref σ.length) (σ ++ [xs])) : Stq (bi1 .list (.ref a) σ Q) := ⟨⟨xs, hx, hl, h⟩⟩
theorem b_mul {a b : Int} (h1 : -(2 ^ 63) < b ∧ b < 2 ^ 63) (h : Q (.int (a * b)) σ) : Stq (binop .mul (.int a) (.int b) σ Q) := ⟨⟨h1, h⟩⟩
theorem b_fdiv {a b : Int} (h1 : 0 < b ∧ b < 1073741824) (h : Q (.int (a / b)) σ) : Stq (binop .fdiv (.int a) (.int b) σ Q) := ⟨⟨h1, h⟩⟩
theorem b_mod {a b : Int} (h1 : 0 < b) (h : Q (.int (a % b)) σ) : Stq (binop .mod (.int a) (.int b) σ Q) := ⟨⟨h1, h⟩⟩
theorem a_disp {vs : List V} (e : Nat.ble vs.length 1000 = true) (h : Q (.ref σ.length) (σ ++ [vs])) : Stq (alloc vs σ Q) := ⟨⟨Nat.le_trans (Nat.le_of_ble_eq_true e) (by decide), h⟩⟩
theorem r_lsK {a : Nat} {xs : List V} (hx : σ[a]? = some xs) (h : L xs (fun σ => σ[a]? = some xs) σ) : Stq (lsK L (.ref a) σ) := ⟨⟨xs, hx, h⟩⟩
theorem r_rgK {n : Int} (hn : 0 ≤ n ∧ n < 2 ^ 24) (h : L (rangeV n) (fun _ => True) σ) : Stq (rgK L (.int n) σ) := ⟨⟨hn, h⟩⟩
theorem r_enK {a : Nat} {xs : List V} (hx : σ[a]? = some xs) (h : L (enumV 0 xs) (fun σ => σ[a]? = some xs) σ) : Stq (enK L (.ref a) σ) := ⟨⟨xs, hx, h⟩⟩
theorem k_dec {p : Prop} [Decidable p] {A B : Prop} (h1 : p → A) (h2 : ¬ p → B) : Stq (if decide p = true then A else B) := by
  by_cases h : p
  · refine rwE (decide_eq_true h) ?_; exact ⟨h1 h⟩
  · refine rwE (decide_eq_false h) ?_; exact ⟨h2 h⟩
theorem k_yes {A B : Prop} (h : A) : Stq (if true = true then A else B) := ⟨h⟩
theorem k_no {A B : Prop} (h : B) : Stq (if false = true then A else B) := ⟨h⟩
theorem k_pos {p : Prop} [Decidable p] {A B : Prop} (hp : p) (h : A) : Stq (if decide p = true then A else B) := k_dec (fun _ => h) (fun z => absurd hp z)
theorem k_neg {p : Prop} [Decidable p] {A B : Prop} (hp : ¬ p) (h : B) : Stq (if decide p = true then A else B) := k_dec (fun z => absurd z hp) (fun _ => h)
theorem k_npos {p : Prop} [Decidable p] {A B : Prop} (hp : p) (h : B) : Stq (if (!decide p) = true then A else B) := by refine rwE (decide_eq_true hp) ?_; exact ⟨h⟩
theorem k_nyes {A B : Prop} (h : B) : Stq (if (!true) = true then A else B) := ⟨h⟩
theorem k_nno {A B : Prop} (h : A) : Stq (if (!false) = true then A else B) := ⟨h⟩
theorem b_app {a : Nat} {xs : List V} {v : V} (ha : a ≠ 0) (hx : σ[a]? = some xs) (hl : xs.length < lim) (hQ : Q .none (σ.set a (xs ++ [v]))) : Stq (me1 .append (.ref a) v σ Q) := ⟨⟨xs, ha, hx, hl, hQ⟩⟩
theorem b_rev {a : Nat} {xs : List V} (ha : a ≠ 0) (hx : σ[a]? = some xs) (hQ : Q .none (σ.set a xs.reverse)) : Stq (me0 .reverse (.ref a) σ Q) := ⟨⟨xs, ha, hx, hQ⟩⟩
theorem b_pop {a k : Nat} {xs : List V} {v : V} (ha : a ≠ 0) (hx : σ[a]? = some xs) (hv : xs[k]? = some v) (hQ : Q v (σ.set a (xs.eraseIdx k))) : Stq (me1 .pop (.ref a) (.int k) σ Q) := ⟨⟨xs, v, ha, hx, Int.natCast_nonneg _, hv, hQ⟩⟩
end
end Mini

set_option autoImplicit false
set_option linter.unusedVariables false
namespace Mini
/-- the heap has grown -/
noncomputable def Ex (σ σ' : H) : Prop := ∃ τ, σ' = σ ++ τ
theorem Ex.refl {σ : H} : Ex σ σ := ⟨[], by simp⟩
theorem Ex.trans {a b c : H} (h : Ex a b) (k : Ex b c) : Ex a c := by
  obtain ⟨t, rfl⟩ := h; obtain ⟨u, rfl⟩ := k; exact ⟨t ++ u, by simp⟩
theorem Ex.one {σ : H} {xs : List V} : Ex σ (σ ++ [xs]) := ⟨_, rfl⟩
theorem Ex.get {σ σ' : H} (h : Ex σ σ') {a : Nat} {xs : List V} (k : σ[a]? = some xs) : σ'[a]? = some xs := by
  obtain ⟨t, rfl⟩ := h
  refine rwE (List.getElem?_append_left (List.getElem?_eq_some_iff.mp k).1) ?_; exact k
theorem Ex.len {σ σ' : H} (h : Ex σ σ') : σ.length ≤ σ'.length := by
  obtain ⟨t, rfl⟩ := h; simp
theorem Ex.pos {σ σ' : H} (h : Ex σ σ') (k : 0 < σ.length) : 0 < σ'.length := Nat.lt_of_lt_of_le k h.len
theorem lt2 {j : Nat} (h : j < 2) : j = 0 ∨ j = 1 := match j, h with
  | 0, _ => .inl rfl
  | 1, _ => .inr rfl
theorem ml {α β : Type} {f : α → β} {l : List α} (h : l.length ≤ 100000) : (l.map f).length ≤ lim := by rewrite [List.length_map]; exact Nat.le_trans h (by decide)
theorem mlt {α β : Type} {f : α → β} {l : List α} (h : l.length ≤ 100000) : (l.map f).length < lim := by rewrite [List.length_map]; exact Nat.lt_of_le_of_lt h (by decide)
theorem Ex.set {σ σ' : H} (h : Ex σ σ') {a : Nat} {xs : List V} (k : σ.length ≤ a) : Ex σ (σ'.set a xs) := by
  obtain ⟨t, rfl⟩ := h
  exact ⟨t.set (a - σ.length) xs, by (refine rwE (List.set_append_right _ _ k) ?_; with_reducible rfl)⟩
theorem last_get {σ : H} {xs : List V} : (σ ++ [xs])[σ.length]? = some xs := by simp
theorem lt_of_get {α : Type} {σ : List α} {a : Nat} {xs : α} (k : σ[a]? = some xs) : a < σ.length := (List.getElem?_eq_some_iff.mp k).1
theorem get_set_ne {σ : H} {a b : Nat} {xs ys : List V} (h : a ≠ b) (k : σ[b]? = some ys) : (σ.set a xs)[b]? = some ys := by
  refine rwE (List.getElem?_set_ne h) ?_; exact k
theorem get_set_eq {σ : H} {a : Nat} {xs : List V} (h : a < σ.length) : (σ.set a xs)[a]? = some xs := by
  (refine rwE (List.getElem?_set_self h) ?_; with_reducible rfl)

/-- two lists, place by place -/
structure A2 {α β : Type} (R : α → β → Prop) (xs : List α) (ys : List β) : Prop where
  len : xs.length = ys.length
  at_ : ∀ {i : Nat} {x : α} {y : β}, xs[i]? = some x → ys[i]? = some y → R x y
section
variable {α β : Type} {R R' : α → β → Prop} {xs : List α} {ys : List β}
theorem A2.mono (h : A2 R xs ys) (k : ∀ x y, R x y → R' x y) : A2 R' xs ys := ⟨h.len, fun a b => k _ _ (h.at_ a b)⟩
theorem A2.nil : A2 R [] [] := ⟨rfl, fun h => by simp at h⟩
theorem A2.snoc {x : α} {y : β} (h : A2 R xs ys) (k : R x y) : A2 R (xs ++ [x]) (ys ++ [y]) := ⟨by simp [h.len], fun {i a b} h1 h2 => by
  have hl := h.len
  rcases Nat.lt_trichotomy i xs.length with hi | hi | hi
  · rw [List.getElem?_append_left hi] at h1
    rw [List.getElem?_append_left (by lia)] at h2
    exact h.at_ h1 h2
  · subst hi
    rw [List.getElem?_append_right (Nat.le_refl _)] at h1
    rw [hl, List.getElem?_append_right (Nat.le_refl _)] at h2
    simp at h1 h2
    subst h1 h2; exact k
  · have := lt_of_get h1
    simp at this; lia⟩
theorem A2.right (h : A2 R xs ys) {i : Nat} {y : β} (k : ys[i]? = some y) : ∃ x, xs[i]? = some x ∧ R x y := by
  have := lt_of_get k
  have hi : i < xs.length := by refine rwE h.len ?_; exact this
  exact ⟨xs[i], by simp [hi], h.at_ (by simp [hi]) k⟩
theorem A2.left (h : A2 R xs ys) {i : Nat} {x : α} (k : xs[i]? = some x) : ∃ y, ys[i]? = some y ∧ R x y := by
  have := lt_of_get k
  have hi : i < ys.length := by refine rwE (Eq.symm (h.len)) ?_; exact this
  exact ⟨ys[i], by simp [hi], h.at_ k (by simp [hi])⟩
end

theorem compL_go {F : V → H → P → Prop} {ok : H → Prop} {Q : P} (I : Nat → List V → H → Prop) :
    ∀ (its acc : List V) (σ : H) (k : Nat), acc.length = k → k + its.length ≤ lim → (∀ i v acc σ K, its[i]? = some v → acc.length = k + i → I (k + i) acc σ → (∀ r σ', I (k + i + 1) (acc ++ [r]) σ' → K r σ') → ok σ ∧ F v σ K) →
    (∀ acc σ, acc.length = k + its.length → I (k + its.length) acc σ → ok σ ∧ Q (.ref σ.length) (σ ++ [acc])) → I k acc σ → compL (fun _ σ K => K true σ) F ok its acc σ Q
  | [], acc, σ, k, hl, hn, step, fin, h => ⟨(fin acc σ hl h).1, by refine rwE hl ?_; simpa using hn, (fin acc σ hl h).2⟩
  | v :: vs, acc, σ, k, hl, hn, step, fin, h => by
    simp only [List.length_cons] at hn
    obtain ⟨h1, h2⟩ := step 0 v acc σ _ (by rfl) hl h (fun r σ' h' => show acc.length < lim ∧ compL (fun _ σ K => K true σ) F ok vs (acc ++ [r]) σ' Q from ⟨by lia, compL_go I vs (acc ++ [r]) σ' (k + 1) (by simp [hl]) (by lia) (fun i v acc σ K e hl hi hK => step (i + 1) v acc σ K (by simpa using e) (by lia) (by refine rwE (show k + (i + 1) = k + 1 + i by lia) ?_; exact hi) (fun r σ q => hK r σ (by refine rwE (show k + 1 + i + 1 = k + (i + 1) + 1 by lia) ?_; exact q))) (fun acc σ hl q => fin acc σ (by simp only [List.length_cons]; lia) (by refine rwE (show k + (v :: vs).length = k + 1 + vs.length by simp only [List.length_cons]; lia) ?_; exact q)) h'⟩)
    exact ⟨h1, by simpa using h2⟩
theorem comp_rule {F : V → H → P → Prop} {ok : H → Prop} {Q : P} (I : Nat → List V → H → Prop) {its : List V} {σ : H} (hn : its.length ≤ lim) (h0 : I 0 [] σ)
    (step : ∀ i v acc σ K, its[i]? = some v → acc.length = i → I i acc σ → (∀ r σ', I (i + 1) (acc ++ [r]) σ' → K r σ') → ok σ ∧ F v σ K)
    (fin : ∀ acc σ, acc.length = its.length → I its.length acc σ → ok σ ∧ Q (.ref σ.length) (σ ++ [acc])) : compL (fun _ σ K => K true σ) F ok its [] σ Q :=
  compL_go I its [] σ 0 rfl (by simpa using hn) (fun i v acc σ K e hl hi hK => step i v acc σ K e (by simpa using hl) (by simpa using hi) (fun r σ q => hK r σ (by simpa using q))) (fun acc σ hl q => fin acc σ (by simpa using hl) (by simpa using q)) h0

noncomputable def nv (n : Nat) : V := .int n
theorem nv_get {l : List Nat} {i : Nat} {v : V} (h : (l.map nv)[i]? = some v) : ∃ t, l[i]? = some t ∧ v = .int t := by
  rw [List.getElem?_map, Option.map_eq_some_iff] at h
  obtain ⟨t, h1, h2⟩ := h
  exact ⟨t, h1, h2.symm⟩
theorem get_nv {l : List Nat} {i t : Nat} (h : l[i]? = some t) : (l.map nv)[i]? = some (.int t) := by
  (refine rwE List.getElem?_map ?_; refine rwE h ?_); rfl

inductive Cell where
  | cnt (left side : Int)
  | row (b : List (List Int))
structure Hl where
  gates : List (Nat × List Nat)
  rows : List (List Nat)
  done : List Nat
  stages : List (Nat × Nat)
  cells : List Cell
noncomputable def stV (s : Nat × Nat) : V := .tup [.str s.1, .int s.2]
noncomputable def Hl.gate (h : Hl) (g : Nat) : Nat × List Nat := h.gates.getD g (0, [])
noncomputable def Hl.row (h : Hl) (w : Nat) : List Nat := h.rows.getD w []
noncomputable def Hl.dn (h : Hl) (w : Nat) : Nat := h.done.getD w 0
noncomputable def Hl.stg (h : Hl) (w : Nat) : Nat × Nat := h.stages.getD w (10, 0)
noncomputable def Hl.cell (h : Hl) (g : Nat) : Cell := h.cells.getD g (.cnt 0 0)
noncomputable def Hl.at_ (h : Hl) (w : Nat) : Nat := (h.row w).getD (h.dn w) 0
theorem getD_of {α : Type} {l : List α} {i : Nat} {x d : α} (h : l[i]? = some x) : l.getD i d = x := by
  (refine rwE List.getD_eq_getElem?_getD ?_; refine rwE h ?_); rfl
theorem get_of_lt {α : Type} {l : List α} {i : Nat} {d : α} (h : i < l.length) : l[i]? = some (l.getD i d) := by
  (refine rwE List.getD_eq_getElem?_getD ?_; refine rwE (List.getElem?_eq_getElem h) ?_); rfl

/-- a list of numbers at a place below n -/
noncomputable def RowR (n : Nat) (σ : H) (v : V) (l : List Nat) : Prop := ∃ a, v = .ref a ∧ a < n ∧ σ[a]? = some (l.map nv)
noncomputable def GateR (n : Nat) (σ : H) (v : V) (g : Nat × List Nat) : Prop := ∃ a, v = .tup [.str g.1, .ref a] ∧ a < n ∧ σ[a]? = some (g.2.map nv)
noncomputable def BoxR (σ : H) (a : Nat) (l : List Int) : Prop := σ[a]? = some (l.map V.int)
/-- a gate's cells, and the places that they take -/
noncomputable def CellR (σ : H) : V → Cell → List Nat → Prop
  | v, .cnt l s, f => ∃ a, v = .ref a ∧ f = [a] ∧ σ[a]? = some [.int l, .int s]
  | v, .row b, f => ∃ a as, v = .ref a ∧ f = a :: as ∧ σ[a]? = some (as.map V.ref) ∧ A2 (BoxR σ) as b
theorem CellR.ex {σ σ' : H} (e : Ex σ σ') {v : V} : ∀ {c : Cell} {f : List Nat}, CellR σ v c f → CellR σ' v c f
  | .cnt l s, f, ⟨a, h1, h2, h3⟩ => ⟨a, h1, h2, e.get h3⟩
  | .row b, f, ⟨a, as, h1, h2, h3, h4⟩ => ⟨a, as, h1, h2, e.get h3, h4.mono fun x y k => e.get k⟩
theorem CellR.set {σ : H} {a : Nat} {xs : List V} {v : V} : ∀ {c : Cell} {f : List Nat}, CellR σ v c f → a ∉ f → CellR (σ.set a xs) v c f
  | .cnt l s, f, ⟨b, h1, h2, h3⟩, k => ⟨b, h1, h2, get_set_ne (fun z => k (by subst h2 z; simp)) h3⟩
  | .row b, f, ⟨c, as, h1, h2, h3, h4⟩, k => ⟨c, as, h1, h2, get_set_ne (fun z => k (by subst h2 z; simp)) h3, ⟨h4.len, fun {i x y} p q => get_set_ne (fun z => k (by subst h2 z; exact List.mem_cons_of_mem _ (List.mem_of_getElem? p))) (h4.at_ p q)⟩⟩
/-- the cells of all gates -/
structure CellsR (σ : H) (vs : List V) (cs : List Cell) (fs : List (List Nat)) : Prop where
  l1 : vs.length = cs.length
  l2 : fs.length = cs.length
  at_ : ∀ {i : Nat} {v : V} {c : Cell} {f : List Nat}, vs[i]? = some v → cs[i]? = some c → fs[i]? = some f → CellR σ v c f
/-- a hall that the function at hand has made itself: nothing else lies at the places that may change -/
structure Own (n : Nat) (σ : H) (g r d s c : Nat) (cv : List V) (fs : List (List Nat)) (h : Hl) : Prop where
  gates : ∃ gv, σ[g]? = some gv ∧ g < n ∧ A2 (GateR n σ) gv h.gates
  rows : ∃ rv, σ[r]? = some rv ∧ r < n ∧ A2 (RowR n σ) rv h.rows
  done : σ[d]? = some (h.done.map nv)
  stages : σ[s]? = some (h.stages.map stV)
  cells : σ[c]? = some cv
  cellsR : CellsR σ cv h.cells fs
  nodup : (d :: s :: c :: fs.flatten).Nodup
  ge : ∀ a ∈ d :: s :: c :: fs.flatten, n ≤ a
/-- what a hall is -/
structure Rep' (σ : H) (g r d s c : Nat) (h : Hl) : Prop where
  gates : ∃ gv, σ[g]? = some gv ∧ A2 (GateR σ.length σ) gv h.gates
  rows : ∃ rv, σ[r]? = some rv ∧ A2 (RowR σ.length σ) rv h.rows
  done : σ[d]? = some (h.done.map nv)
  stages : σ[s]? = some (h.stages.map stV)
  cells : ∃ cv fs, σ[c]? = some cv ∧ CellsR σ cv h.cells fs
noncomputable def Rep (σ : H) (v : V) (h : Hl) : Prop := ∃ g r d s c, v = .inst [.ref g, .ref r, .ref d, .ref s, .ref c] ∧ Rep' σ g r d s c h
theorem RowR.ex {n n' : Nat} {σ σ' : H} (e : Ex σ σ') (k : n ≤ n') {v : V} {l : List Nat} : RowR n σ v l → RowR n' σ' v l
  | ⟨a, h1, h2, h3⟩ => ⟨a, h1, by exact Nat.lt_of_lt_of_le (by assumption) (by assumption), e.get h3⟩
theorem GateR.ex {n n' : Nat} {σ σ' : H} (e : Ex σ σ') (k : n ≤ n') {v : V} {g : Nat × List Nat} : GateR n σ v g → GateR n' σ' v g
  | ⟨a, h1, h2, h3⟩ => ⟨a, h1, by exact Nat.lt_of_lt_of_le (by assumption) (by assumption), e.get h3⟩
theorem RowR.set {n a : Nat} {σ : H} {xs : List V} (k : n ≤ a) {v : V} {l : List Nat} : RowR n σ v l → RowR n (σ.set a xs) v l
  | ⟨b, h1, h2, h3⟩ => ⟨b, h1, h2, get_set_ne (by exact Nat.ne_of_gt (Nat.lt_of_lt_of_le (by assumption) (by assumption))) h3⟩
theorem GateR.set {n a : Nat} {σ : H} {xs : List V} (k : n ≤ a) {v : V} {g : Nat × List Nat} : GateR n σ v g → GateR n (σ.set a xs) v g
  | ⟨b, h1, h2, h3⟩ => ⟨b, h1, h2, get_set_ne (by exact Nat.ne_of_gt (Nat.lt_of_lt_of_le (by assumption) (by assumption))) h3⟩
theorem CellsR.ex {σ σ' : H} (e : Ex σ σ') {vs : List V} {cs : List Cell} {fs : List (List Nat)} (h : CellsR σ vs cs fs) : CellsR σ' vs cs fs := ⟨h.l1, h.l2, fun a b c => (h.at_ a b c).ex e⟩
theorem Rep'.ex {σ σ' : H} (e : Ex σ σ') {g r d s c : Nat} {h : Hl} (k : Rep' σ g r d s c h) : Rep' σ' g r d s c h := by
  obtain ⟨⟨gv, a1, a2⟩, ⟨rv, b1, b2⟩, h3, h4, ⟨cv, fs, c1, c2⟩⟩ := k
  exact ⟨⟨gv, e.get a1, a2.mono fun _ _ q => q.ex e e.len⟩, ⟨rv, e.get b1, b2.mono fun _ _ q => q.ex e e.len⟩, e.get h3, e.get h4, cv, fs, e.get c1, c2.ex e⟩
section
variable {n : Nat} {σ : H} {g r d s c : Nat} {cv : List V} {fs : List (List Nat)} {h : Hl}
theorem Own.rep (o : Own n σ g r d s c cv fs h) : Rep' σ g r d s c h := by
  obtain ⟨⟨gv, a1, a2, a3⟩, ⟨rv, b1, b2, b3⟩, h3, h4, h5, h6, h7, h8⟩ := o
  have hn : n ≤ σ.length := Nat.le_trans (h8 d (by simp)) (Nat.le_of_lt (lt_of_get h3))
  exact ⟨⟨gv, a1, a3.mono fun _ _ q => q.ex Ex.refl hn⟩, ⟨rv, b1, b3.mono fun _ _ q => q.ex Ex.refl hn⟩, h3, h4, cv, fs, h5, h6⟩
theorem mem_flat {f : List Nat} {i a : Nat} (h : fs[i]? = some f) (k : a ∈ f) : a ∈ fs.flatten := List.mem_flatten.mpr ⟨f, List.mem_of_getElem? h, k⟩
theorem Own.setStage (o : Own n σ g r d s c cv fs h) {w : Nat} {t : Nat × Nat} : Own n (σ.set s ((h.stages.map stV).set w (stV t))) g r d s c cv fs { h with stages := h.stages.set w t } := by
  obtain ⟨⟨gv, a1, a2, a3⟩, ⟨rv, b1, b2, b3⟩, h3, h4, h5, h6, h7, h8⟩ := o
  have hs := h8 s (by simp)
  have n1 := List.nodup_cons.mp h7
  have n2 := List.nodup_cons.mp n1.2
  have e1 : s ≠ d := fun z => n1.1 (by simp [z])
  have e2 : s ≠ c := fun z => n2.1 (by simp [z])
  have e3 : s ∉ fs.flatten := fun z => n2.1 (by simp [z])
  refine ⟨⟨gv, get_set_ne (by exact Nat.ne_of_gt (Nat.lt_of_lt_of_le (by assumption) (by assumption))) a1, a2, a3.mono fun _ _ q => q.set hs⟩, ⟨rv, get_set_ne (by exact Nat.ne_of_gt (Nat.lt_of_lt_of_le (by assumption) (by assumption))) b1, b2, b3.mono fun _ _ q => q.set hs⟩, get_set_ne e1 h3, ?_, get_set_ne e2 h5, ⟨h6.l1, h6.l2, fun a b k => (h6.at_ a b k).set fun z => e3 (mem_flat k z)⟩, h7, h8⟩
  (refine rwE (get_set_eq (lt_of_get h4)) ?_; (refine rwE List.map_set ?_; with_reducible rfl))
theorem Own.setDone (o : Own n σ g r d s c cv fs h) {w t : Nat} : Own n (σ.set d ((h.done.map nv).set w (nv t))) g r d s c cv fs { h with done := h.done.set w t } := by
  obtain ⟨⟨gv, a1, a2, a3⟩, ⟨rv, b1, b2, b3⟩, h3, h4, h5, h6, h7, h8⟩ := o
  have hs := h8 d (by simp)
  have n1 := List.nodup_cons.mp h7
  have e1 : d ≠ s := fun z => n1.1 (by simp [z])
  have e2 : d ≠ c := fun z => n1.1 (by simp [z])
  have e3 : d ∉ fs.flatten := fun z => n1.1 (by simp [z])
  refine ⟨⟨gv, get_set_ne (by exact Nat.ne_of_gt (Nat.lt_of_lt_of_le (by assumption) (by assumption))) a1, a2, a3.mono fun _ _ q => q.set hs⟩, ⟨rv, get_set_ne (by exact Nat.ne_of_gt (Nat.lt_of_lt_of_le (by assumption) (by assumption))) b1, b2, b3.mono fun _ _ q => q.set hs⟩, ?_, get_set_ne e1 h4, get_set_ne e2 h5, ⟨h6.l1, h6.l2, fun a b k => (h6.at_ a b k).set fun z => e3 (mem_flat k z)⟩, h7, h8⟩
  (refine rwE (get_set_eq (lt_of_get h3)) ?_; (refine rwE List.map_set ?_; with_reducible rfl))
theorem flat_apart {fs : List (List Nat)} (h : fs.flatten.Nodup) {i j a : Nat} {f f' : List Nat} (h1 : fs[i]? = some f) (h2 : fs[j]? = some f') (k1 : a ∈ f) (k2 : a ∈ f') : i = j := by
  induction fs generalizing i j with
  | nil => simp at h1
  | cons x xs ih =>
    rw [List.flatten_cons, List.nodup_append] at h
    cases i with
    | zero =>
      cases j with
      | zero => rfl
      | succ j =>
        simp at h1 h2; subst h1
        exact absurd rfl (h.2.2 a k1 a (mem_flat h2 k2))
    | succ i =>
      cases j with
      | zero =>
        simp at h1 h2; subst h2
        exact absurd rfl (h.2.2 a k2 a (mem_flat h1 k1))
      | succ j => exact congrArg (· + 1) (ih h.2.1 (by simpa using h1) (by simpa using h2))
theorem Own.setCell (o : Own n σ g r d s c cv fs h) {i a : Nat} {f : List Nat} {v : V} {cl : Cell} {xs : List V} (hf : fs[i]? = some f) (ha : a ∈ f) (hv : cv[i]? = some v) (hc : CellR (σ.set a xs) v cl f) : Own n (σ.set a xs) g r d s c cv fs { h with cells := h.cells.set i cl } := by
  obtain ⟨⟨gv, a1, a2, a3⟩, ⟨rv, b1, b2, b3⟩, h3, h4, h5, h6, h7, h8⟩ := o
  have hm := mem_flat hf ha
  have hs := h8 a (by simp [hm])
  have n1 := List.nodup_cons.mp h7
  have n2 := List.nodup_cons.mp n1.2
  have n3 := List.nodup_cons.mp n2.2
  have e1 : a ≠ d := fun z => n1.1 (by subst z; simp [hm])
  have e2 : a ≠ s := fun z => n2.1 (by subst z; simp [hm])
  have e3 : a ≠ c := fun z => n3.1 (by subst z; simp [hm])
  refine ⟨⟨gv, get_set_ne (by exact Nat.ne_of_gt (Nat.lt_of_lt_of_le (by assumption) (by assumption))) a1, a2, a3.mono fun _ _ q => q.set hs⟩, ⟨rv, get_set_ne (by exact Nat.ne_of_gt (Nat.lt_of_lt_of_le (by assumption) (by assumption))) b1, b2, b3.mono fun _ _ q => q.set hs⟩, get_set_ne e1 h3, get_set_ne e2 h4, get_set_ne e3 h5, ⟨by simpa using h6.l1, by simpa using h6.l2, fun {j v' c' f'} p q k => ?_⟩, h7, h8⟩
  by_cases hij : i = j
  · subst hij
    have hl : i < h.cells.length := by refine rwE (Eq.symm (h6.l2)) ?_; exact lt_of_get hf
    have q : (h.cells.set i cl)[i]? = some c' := q
    rw [List.getElem?_set_self hl] at q
    rw [hv] at p; rw [hf] at k
    cases p; cases k; cases q
    exact hc
  · have q : (h.cells.set i cl)[j]? = some c' := q
    rw [List.getElem?_set_ne hij] at q
    exact (h6.at_ p q k).set fun z => hij (flat_apart n3.2 hf k ha z)
end
end Mini

set_option autoImplicit false
set_option linter.unusedVariables false
namespace Mini
set_option genInjectivity false in
set_option genSizeOfSpec false in
structure Ix where
  power : Nat
  rounds : Nat
  partner : Nat
  checkGate : Nat
  checkRow : Nat
  fresh : Nat
  firstWord : Nat
  begun : Nat
  copied : Nat
  twin : Nat
  needWalker : Nat
  needGate : Nat
  passed : Nat
  came : Nat
  boxes : Nat
  ahead : Nat
  timeOf : Nat
  signOf : Nat
  boxOf : Nat
  vain : Nat
  counted : Nat
  rowed : Nat
  through : Nat
  stepped : Nat
noncomputable def gPower : Fn := ⟨1, 6, [
  .set 1 (.int (1)),
  .for [2] (.range (.var 0)) [
    .set 1 (.bin .mul (.var 1) (.int (2)))],
  .ret (.var 1)]⟩
noncomputable def gRounds (ix : Ix) : Fn := ⟨1, 5, [
  .set 1 (.int (0)),
  .while (.cmp .lt (.call ix.power [(.var 1)]) (.var 0)) [
    .set 1 (.bin .add (.var 1) (.int (1)))],
  .ret (.var 1)]⟩
noncomputable def gPartner (ix : Ix) : Fn := ⟨3, 6, [
  .ret (.bin .mod (.bin .add (.var 0) (.call ix.power [(.var 1)])) (.var 2))]⟩
noncomputable def gCheckGate : Fn := ⟨2, 9, [
  .unpack [2, 3] (.var 0),
  .ite (.or (.cmp .notIn (.var 2) (.tup [(.str 0), (.str 1)])) (.cmp .eq (.b1 .len (.var 3)) (.int (0)))) [
    .raise 1] [],
  .for [4, 5] (.enum (.var 3)) [
    .ite (.or (.not (.cmp2 .le (.int (0)) (.var 5) .lt (.var 1))) (.cmp .inn (.var 5) (.upto (.var 3) (.var 4)))) [
      .raise 1] []]]⟩
noncomputable def gCheckRow : Fn := ⟨3, 7, [
  .ite (.cmp .gt (.b1 .len (.var 1)) (.int (40))) [
    .raise 2] [],
  .for [3] (.list (.var 1)) [
    .ite (.not (.cmp2 .le (.int (0)) (.var 3) .lt (.b1 .len (.var 2)))) [
      .raise 2] [],
    .ite (.cmp .notIn (.var 0) (.idx (.idx (.var 2) (.var 3)) (.int (1)))) [
      .raise 3] []]]⟩
noncomputable def gFresh (ix : Ix) : Fn := ⟨1, 7, [
  .unpack [1, 2] (.var 0),
  .set 3 (.b1 .len (.var 2)),
  .ite (.cmp .eq (.var 1) (.str 0)) [
    .ret (.disp [(.var 3), (.int (0))])] [],
  .ret (.comp (.bin .mul (.disp [(.int (0))]) (.bin .mul (.int (2)) (.call ix.rounds [(.var 3)]))) 4 (.list (.var 2)))]⟩
noncomputable def gFirstWord : Fn := ⟨1, 4, [
  .ite (.cmp .eq (.var 0) (.disp [])) [
    .ret (.tup [(.str 10), (.int (0))])] [],
  .ret (.tup [(.str 2), (.int (0))])]⟩
noncomputable def gBegun (ix : Ix) : Fn := ⟨2, 10, [
  .ite (.or (.not (.cmp2 .le (.int (1)) (.b1 .len (.var 1)) .le (.int (12)))) (.not (.cmp2 .le (.int (1)) (.b1 .len (.var 0)) .le (.int (12))))) [
    .raise 0] [],
  .for [2] (.list (.var 0)) [
    .call ix.checkGate [(.var 2), (.b1 .len (.var 1))]],
  .for [3, 4] (.enum (.var 1)) [
    .call ix.checkRow [(.var 3), (.var 4), (.var 0)]],
  .set 5 (.comp (.tup [(.idx (.var 7) (.int (0))), (.b1 .list (.idx (.var 7) (.int (1))))]) 7 (.list (.var 0))),
  .set 6 (.comp (.b1 .list (.var 7)) 7 (.list (.var 1))),
  .ret (.hall [(.var 5), (.var 6), (.bin .mul (.disp [(.int (0))]) (.b1 .len (.var 6))), (.comp (.call ix.firstWord [(.var 7)]) 7 (.list (.var 6))), (.comp (.call ix.fresh [(.var 7)]) 7 (.list (.var 5)))])]⟩
noncomputable def gCopied : Fn := ⟨1, 4, [
  .ret (.comp (.ite (.isinst (.var 1) .list) (.b1 .list (.var 1)) (.var 1)) 1 (.list (.var 0)))]⟩
noncomputable def gTwin (ix : Ix) : Fn := ⟨1, 5, [
  .set 1 (.comp (.call ix.copied [(.var 2)]) 2 (.list (.attr (.var 0) 4))),
  .ret (.hall [(.attr (.var 0) 0), (.attr (.var 0) 1), (.b1 .list (.attr (.var 0) 2)), (.b1 .list (.attr (.var 0) 3)), (.var 1)])]⟩
noncomputable def gNeedWalker : Fn := ⟨2, 5, [
  .ite (.not (.cmp2 .le (.int (0)) (.var 1) .lt (.b1 .len (.attr (.var 0) 1)))) [
    .raise 4] []]⟩
noncomputable def gNeedGate : Fn := ⟨2, 5, [
  .ite (.not (.cmp2 .le (.int (0)) (.var 1) .lt (.b1 .len (.attr (.var 0) 0)))) [
    .raise 1] []]⟩
noncomputable def gPassed (ix : Ix) : Fn := ⟨3, 6, [
  .call ix.needWalker [(.var 0), (.var 1)],
  .call ix.needGate [(.var 0), (.var 2)],
  .ret (.m1 .count (.upto (.idx (.attr (.var 0) 1) (.var 1)) (.idx (.attr (.var 0) 2) (.var 1))) (.var 2))]⟩
noncomputable def gCame (ix : Ix) : Fn := ⟨3, 7, [
  .setC 3 ix.passed [(.var 0), (.var 1), (.var 2)],
  .ite (.and (.cmp .notIn (.idx (.idx (.attr (.var 0) 3) (.var 1)) (.int (0))) (.tup [(.str 2), (.str 10)])) (.cmp .eq (.idx (.idx (.attr (.var 0) 1) (.var 1)) (.idx (.attr (.var 0) 2) (.var 1))) (.var 2))) [
    .set 3 (.bin .add (.var 3) (.int (1)))] [],
  .ret (.var 3)]⟩
noncomputable def gBoxes (ix : Ix) : Fn := ⟨2, 5, [
  .call ix.needGate [(.var 0), (.var 1)],
  .ret (.call ix.copied [(.idx (.attr (.var 0) 4) (.var 1))])]⟩
noncomputable def gAhead (ix : Ix) : Fn := ⟨2, 6, [
  .call ix.needWalker [(.var 0), (.var 1)],
  .set 2 (.idx (.idx (.attr (.var 0) 3) (.var 1)) (.int (0))),
  .ite (.cmp .eq (.var 2) (.str 10)) [
    .ret (.tup [.none, (.str 10)])] [],
  .ret (.tup [(.idx (.idx (.attr (.var 0) 1) (.var 1)) (.idx (.attr (.var 0) 2) (.var 1))), (.var 2)])]⟩
noncomputable def gTimeOf (ix : Ix) : Fn := ⟨3, 6, [
  .ret (.bin .add (.call ix.passed [(.var 0), (.var 1), (.var 2)]) (.int (1)))]⟩
noncomputable def gSignOf : Fn := ⟨2, 5, [
  .ite (.cmp .eq (.var 0) (.str 0)) [
    .ret (.bin .mod (.var 1) (.int (2)))] [],
  .ret (.bin .sub (.int (1)) (.bin .mod (.bin .fdiv (.bin .sub (.var 1) (.int (1))) (.int (2))) (.int (2))))]⟩
noncomputable def gBoxOf (ix : Ix) : Fn := ⟨3, 6, [
  .ite (.cmp .eq (.bin .mod (.var 1) (.int (2))) (.int (0))) [
    .ret (.var 0)] [],
  .ret (.bin .add (.call ix.rounds [(.var 2)]) (.var 0))]⟩
noncomputable def gVain (ix : Ix) : Fn := ⟨2, 12, [
  .unpC [2, 3] ix.ahead [(.var 0), (.var 1)],
  .ite (.cmp .notIn (.var 3) (.tup [(.str 5), (.str 8)])) [
    .ret (.bool false)] [],
  .unpack [4, 5] (.idx (.attr (.var 0) 0) (.var 2)),
  .setC 6 ix.timeOf [(.var 0), (.var 1), (.var 2)],
  .setC 7 ix.signOf [(.var 4), (.var 6)],
  .ite (.cmp .eq (.var 3) (.str 5)) [
    .ret (.cmp .ne (.idx (.idx (.attr (.var 0) 4) (.var 2)) (.int (1))) (.var 7))] [],
  .set 8 (.m1 .index (.var 5) (.var 1)),
  .ret (.cmp .ne (.idx (.idx (.idx (.attr (.var 0) 4) (.var 2)) (.var 8)) (.call ix.boxOf [(.idx (.idx (.attr (.var 0) 3) (.var 1)) (.int (1))), (.var 6), (.b1 .len (.var 5))])) (.var 7))]⟩
noncomputable def gCounted (ix : Ix) : Fn := ⟨4, 9, [
  .set 4 (.idx (.attr (.var 0) 4) (.var 2)),
  .set 5 (.b1 .len (.idx (.idx (.attr (.var 0) 0) (.var 2)) (.int (1)))),
  .ite (.cmp .eq (.var 3) (.str 2)) [
    .put (.var 4) (.int (0)) (.bin .sub (.idx (.var 4) (.int (0))) (.int (1))),
    .ite (.cmp .eq (.idx (.var 4) (.int (0))) (.int (0))) [
      .ret (.tup [(.str 3), (.int (0))])] [],
    .ret (.tup [(.str 5), (.int (0))])] [],
  .ite (.cmp .eq (.var 3) (.str 3)) [
    .put (.var 4) (.int (0)) (.var 5),
    .ret (.tup [(.str 4), (.int (0))])] [],
  .ite (.cmp .eq (.var 3) (.str 4)) [
    .put (.var 4) (.int (1)) (.call ix.signOf [(.str 0), (.call ix.timeOf [(.var 0), (.var 1), (.var 2)])])] [],
  .ret (.tup [(.str 6), (.int (0))])]⟩
noncomputable def gRowed (ix : Ix) : Fn := ⟨4, 12, [
  .set 4 (.idx (.idx (.attr (.var 0) 0) (.var 2)) (.int (1))),
  .set 5 (.b1 .len (.var 4)),
  .set 6 (.idx (.idx (.attr (.var 0) 3) (.var 1)) (.int (1))),
  .ite (.cmp .eq (.var 3) (.str 2)) [
    .set 6 (.int (0))] [
    .ite (.cmp .eq (.var 3) (.str 7)) [
      .setC 7 ix.timeOf [(.var 0), (.var 1), (.var 2)],
      .setC 8 ix.partner [(.m1 .index (.var 4) (.var 1)), (.var 6), (.var 5)],
      .put (.idx (.idx (.attr (.var 0) 4) (.var 2)) (.var 8)) (.call ix.boxOf [(.var 6), (.var 7), (.var 5)]) (.call ix.signOf [(.str 1), (.var 7)]),
      .ret (.tup [(.str 8), (.var 6)])] [
      .set 6 (.bin .add (.var 6) (.int (1)))]],
  .ite (.cmp .eq (.var 6) (.call ix.rounds [(.var 5)])) [
    .ret (.tup [(.str 6), (.int (0))])] [],
  .ret (.tup [(.str 7), (.var 6)])]⟩
noncomputable def gThrough : Fn := ⟨2, 5, [
  .put (.attr (.var 0) 2) (.var 1) (.bin .add (.idx (.attr (.var 0) 2) (.var 1)) (.int (1))),
  .ite (.cmp .eq (.idx (.attr (.var 0) 2) (.var 1)) (.b1 .len (.idx (.attr (.var 0) 1) (.var 1)))) [
    .ret (.tup [(.str 10), (.int (0))])] [],
  .ret (.tup [(.str 2), (.int (0))])]⟩
noncomputable def gStepped (ix : Ix) : Fn := ⟨2, 9, [
  .call ix.needWalker [(.var 0), (.var 1)],
  .unpC [2, 3] ix.ahead [(.var 0), (.var 1)],
  .setC 4 ix.twin [(.var 0)],
  .ite (.cmp .eq (.var 3) (.str 10)) [
    .ret (.tup [(.var 4), (.tup [(.var 1), .none, (.str 10)])])] [],
  .ite (.call ix.vain [(.var 0), (.var 1)]) [
    .ret (.tup [(.var 4), (.tup [(.var 1), (.var 2), (.str 9)])])] [],
  .ite (.cmp .eq (.var 3) (.str 6)) [
    .setC 5 ix.through [(.var 4), (.var 1)]] [
    .ite (.cmp .eq (.idx (.idx (.attr (.var 0) 0) (.var 2)) (.int (0))) (.str 0)) [
      .setC 5 ix.counted [(.var 4), (.var 1), (.var 2), (.var 3)]] [
      .setC 5 ix.rowed [(.var 4), (.var 1), (.var 2), (.var 3)]]],
  .put (.attr (.var 4) 3) (.var 1) (.var 5),
  .ret (.tup [(.var 4), (.tup [(.var 1), (.var 2), (.var 3)])])]⟩
noncomputable def ix : Ix := ⟨0, 1, 2, 3, 4, 5, 6, 7, 8, 9, 10, 11, 12, 13, 100, 14, 15, 16, 17, 18, 20, 21, 22, 23⟩
structure HF (ix : Ix) (Φ : Nat → Option Fn) : Prop where
  power : Φ ix.power = some gPower
  rounds : Φ ix.rounds = some (gRounds ix)
  partner : Φ ix.partner = some (gPartner ix)
  checkGate : Φ ix.checkGate = some gCheckGate
  checkRow : Φ ix.checkRow = some gCheckRow
  fresh : Φ ix.fresh = some (gFresh ix)
  firstWord : Φ ix.firstWord = some gFirstWord
  begun : Φ ix.begun = some (gBegun ix)
  copied : Φ ix.copied = some gCopied
  twin : Φ ix.twin = some (gTwin ix)
  needWalker : Φ ix.needWalker = some gNeedWalker
  needGate : Φ ix.needGate = some gNeedGate
  passed : Φ ix.passed = some (gPassed ix)
  ahead : Φ ix.ahead = some (gAhead ix)
  timeOf : Φ ix.timeOf = some (gTimeOf ix)
  signOf : Φ ix.signOf = some gSignOf
  boxOf : Φ ix.boxOf = some (gBoxOf ix)
  vain : Φ ix.vain = some (gVain ix)
  counted : Φ ix.counted = some (gCounted ix)
  rowed : Φ ix.rowed = some (gRowed ix)
  through : Φ ix.through = some gThrough
  stepped : Φ ix.stepped = some (gStepped ix)

section
variable {σ : H} {Q : P} {x : X}
theorem c_notin2 {a b c : Nat} (h : Q (.bool (decide (a ≠ b ∧ a ≠ c))) σ) : Stq (cmpop .notIn (.str a) (.tup [.str b, .str c]) σ Q) := Stq.mk <| ⟨.str a, [.str b, .str c], rfl, rfl, fun q hq => by
  have : q = decide (a ≠ b ∧ a ≠ c) := by
    (rewrite [Bool.eq_iff_iff]; rewrite [hq]); simp
  refine rwE this ?_; exact h⟩
theorem b_upto {a : Nat} {k : Nat} {xs : List V} (hx : σ[a]? = some xs) (hl : xs.length ≤ lim) (h : Q (.ref σ.length) (σ ++ [xs.take k])) : Stq (sliceTo (.ref a) (.int k) σ Q) := ⟨⟨xs, hx, by lia, by simp; lia, by simpa using h⟩⟩
theorem count_nv (l : List Nat) (g : Nat) : (l.map Int.ofNat).count (g : Int) = l.count g := by
  induction l with
  | nil => rfl
  | cons a l ih =>
    (refine rwE List.map_cons ?_; refine rwE List.count_cons ?_; refine rwE List.count_cons ?_; refine rwE ih ?_)
    congr 1
    by_cases h : a = g
    · subst h; simp
    · simp [h]; lia
theorem nv_int (l : List Nat) : l.map nv = (l.map Int.ofNat).map V.int := by refine rwE List.map_map ?_; rfl
theorem b_count {a g : Nat} {l : List Nat} (hx : σ[a]? = some (l.map nv)) (h : Q (.int (l.count g)) σ) : Stq (me1 .count (.ref a) (.int g) σ Q) := ⟨⟨l.map nv, l.map Int.ofNat, hx, nv_int l, by rewrite [count_nv]; exact h⟩⟩
theorem idx_nv (l : List Nat) (g : Nat) : (l.map Int.ofNat).idxOf (g : Int) = l.idxOf g := by
  induction l with
  | nil => rfl
  | cons a l ih =>
    have e : (Int.ofNat a == (g : Int)) = (a == g) := by
      (rewrite [Bool.eq_iff_iff]; rewrite [beq_iff_eq]; rewrite [beq_iff_eq])
      exact ⟨fun z => Int.ofNat.inj z, fun z => by refine rwE z ?_; rfl⟩
    (refine rwE List.map_cons ?_; refine rwE List.idxOf_cons ?_; refine rwE List.idxOf_cons ?_; refine rwE ih ?_; (refine rwE e ?_; with_reducible rfl))
theorem b_index {a g : Nat} {l : List Nat} (hx : σ[a]? = some (l.map nv)) (hm : g ∈ l) (h : Q (.int (l.idxOf g)) σ) : Stq (me1 .index (.ref a) (.int g) σ Q) := ⟨⟨l.map nv, l.map Int.ofNat, hx, nv_int l, List.mem_map.mpr ⟨g, hm, rfl⟩, by rewrite [idx_nv]; exact h⟩⟩
end
noncomputable def rnd (m : Nat) : Nat := if m ≤ 1 then 0 else if m ≤ 2 then 1 else if m ≤ 4 then 2 else if m ≤ 8 then 3 else 4
theorem rnd_spec : ∀ m : Nat, m ≤ 16 → ∀ i : Nat, i ≤ 4 → (((2 : Int) ^ i < (m : Int)) ↔ i < rnd m) := by
  have : ∀ m : Fin 17, ∀ i : Fin 5, (((2 : Int) ^ i.1 < (m.1 : Int)) ↔ i.1 < rnd m.1) := by decide +kernel
  exact fun m hm i hi => this ⟨m, by lia⟩ ⟨i, by lia⟩
theorem rnd_le (m : Nat) : rnd m ≤ 4 := by unfold rnd; repeat' split
                                           all_goals decide
noncomputable def Hl.passed (h : Hl) (w g : Nat) : Nat := ((h.row w).take (h.dn w)).count g
noncomputable def signOf (k time : Nat) : Int := if k = 0 then (time : Int) % 2 else 1 - ((time : Int) - 1) / 2 % 2
noncomputable def boxOf (turn time many : Nat) : Nat := if time % 2 = 0 then turn else rnd many + turn
section
variable {n : Nat} {σ : H} {g r d s c : Nat} {h : Hl}
theorem Rep'.row (k : Rep' σ g r d s c h) {w : Nat} (hw : w < h.rows.length) : ∃ rv a, σ[r]? = some rv ∧ rv.length = h.rows.length ∧ rv[w]? = some (.ref a) ∧ σ[a]? = some ((h.row w).map nv) := by
  obtain ⟨rv, b1, b2⟩ := k.rows
  obtain ⟨v, e1, a, rfl, _, e2⟩ := b2.right (get_of_lt (d := []) hw)
  exact ⟨rv, a, b1, b2.len, e1, e2⟩
theorem Rep'.gate (k : Rep' σ g r d s c h) {w : Nat} (hw : w < h.gates.length) : ∃ gv a, σ[g]? = some gv ∧ gv.length = h.gates.length ∧ gv[w]? = some (.tup [.str (h.gate w).1, .ref a]) ∧ σ[a]? = some ((h.gate w).2.map nv) := by
  obtain ⟨rv, b1, b2⟩ := k.gates
  obtain ⟨v, e1, a, rfl, _, e2⟩ := b2.right (get_of_lt (d := (0, [])) hw)
  exact ⟨rv, a, b1, b2.len, e1, e2⟩
theorem Rep'.cell (k : Rep' σ g r d s c h) {w : Nat} (hw : w < h.cells.length) : ∃ cv v f, σ[c]? = some cv ∧ cv[w]? = some v ∧ CellR σ v (h.cell w) f := by
  obtain ⟨cv, fs, b1, b2⟩ := k.cells
  have h1 : w < cv.length := by refine rwE b2.l1 ?_; exact hw
  have h2 : w < fs.length := by refine rwE b2.l2 ?_; exact hw
  exact ⟨cv, cv[w], fs[w], b1, by simp [h1], b2.at_ (by simp [h1]) (get_of_lt hw) (by simp [h2])⟩
theorem dn_get (hw : n < h.done.length) : (h.done.map nv)[n]? = some (.int (h.dn n)) := get_nv (get_of_lt hw)
theorem stg_get (hw : n < h.stages.length) : (h.stages.map stV)[n]? = some (.tup [.str (h.stg n).1, .int (h.stg n).2]) := by
  (refine rwE List.getElem?_map ?_; refine rwE (get_of_lt (d := (10, 0)) hw) ?_); rfl
theorem at_get {w : Nat} (hw : h.dn w < (h.row w).length) : ((h.row w).map nv)[h.dn w]? = some (.int (h.at_ w)) := get_nv (get_of_lt hw)
end
section
variable {Φ : Nat → Option Fn} {n : Nat} {σ : H} {Q : P} {x : X}
theorem w_power (F : HF ix Φ) {t : Nat} (h1 : t < 1000) (hQ : Q (.int (2 ^ t)) σ) : cW Φ (n + 1) ix.power [.int t] σ Q x := by
  refine fn_in F.power rfl (?_ : Gs _ (.mk _ _ _ _) _)
  refine r_rgK (by lia) ?_
  refine forL_rule (fun i m σ' => Mini.Cj2 (σ' = σ) (∃ s, m = [some (.int t), some (.int (2 ^ i)), s, none, none, none])) ⟨rfl, _, rfl⟩ ?_ ?_
  · rintro i v m _ K hv ⟨rfl, s, rfl⟩ hK
    obtain ⟨rfl, hi⟩ := rangeV_get hv
    refine ⟨trivial, _, rfl, ?_⟩
    refine vjB (?_ : Gs _ (.mk _ _ _ _) _)
    exact hK _ _ ⟨rfl, some (.int i), by rewrite [Int.pow_succ]; rfl⟩
  · rintro m _ ⟨rfl, s, rfl⟩
    (rewrite [rangeV_length]; rewrite [Int.toNat_natCast])
    refine ⟨trivial, ?_⟩
    refine vj (?_ : Gs _ (.mk _ _ _ _) _)
    exact hQ
theorem w_rounds (F : HF ix Φ) {a : Nat} (ha : a ≤ 16) (hQ : Q (.int (rnd a)) σ) : cW Φ (n + 2) ix.rounds [.int a] σ Q x := by
  refine fn_in F.rounds rfl (?_ : Gs _ (.mk _ _ _ _) _)
  have r4 := rnd_le a
  refine (?_ : Gs _ (.mk _ _ _ _) _)
  refine while_rule (fun k m σ' => Mini.Cj2 (σ' = σ) (Mini.Ek1 fun (i : Nat) => Mini.Cj3 (k = 4 - i) (i ≤ rnd a) (m = [some (.int a), some (.int i), none, none, none]))) (k := 4) ⟨rfl, 0, rfl, by lia, rfl⟩ ?_
  rintro k m _ K ⟨rfl, i, rfl, hi, rfl⟩ hK
  refine vjT (?_ : Gs _ (.mk _ _ _ _) _)
  refine w_power F (by lia) ?_
  refine vj (vfT ?_)
  have sp := rnd_spec a ha i (by exact Nat.le_trans (by assumption) (by assumption))
  refine k_dec (fun hlt => ?_) fun hge => ?_
  · have := sp.mp hlt
    refine vjB (?_ : Gs _ (.mk _ _ _ _) _)
    exact hK (4 - (i + 1)) _ _ (Nat.sub_lt_sub_left (Nat.lt_of_lt_of_le this r4) (Nat.lt_succ_self _)) ⟨rfl, i + 1, rfl, this, rfl⟩
  · have : ¬ i < rnd a := fun z => hge (sp.mpr z)
    have : i = rnd a := by lia
    subst this
    refine vj (?_ : Gs _ (.mk _ _ _ _) _)
    exact hQ
theorem w_partner (F : HF ix Φ) {a t many : Nat} (ht : t < 1000) (hm : 0 < many) (hQ : Q (.int ((a + 2 ^ t : Nat) % many : Nat)) σ) : cW Φ (n + 2) ix.partner [.int a, .int t, .int many] σ Q x := by
  refine fn_in F.partner rfl (?_ : Gs _ (.mk _ _ _ _) _)
  refine w_power F ht ?_
  refine vj (?_ : Gs _ (.mk _ _ _ _) _)
  refine b_mod (by lia) ?_
  refine vj (?_ : Gs _ (.mk _ _ _ _) _)
  refine vret ?_
  simpa using hQ
theorem w_needWalker (F : HF ix Φ) {g r d s c w : Nat} {h : Hl} (k : Rep' σ g r d s c h) (hw : w < h.rows.length) (hQ : Q .none σ) : cW Φ (n + 1) ix.needWalker [.inst [.ref g, .ref r, .ref d, .ref s, .ref c], .int w] σ Q x := by
  refine fn_in F.needWalker rfl (?_ : Gs _ (.mk _ _ _ _) _)
  obtain ⟨rv, b1, b2⟩ := k.rows
  refine k_pos (by lia) ?_
  refine vj (?_ : Gs _ (.mk _ _ _ _) _)
  refine b_lenE b1 (by (refine rwE b2.len ?_; with_reducible rfl)) ?_
  refine vj (?_ : Gs _ (.mk _ _ _ _) _)
  refine k_npos (by lia) ?_
  refine vj (?_ : Gs _ (.mk _ _ _ _) _)
  exact hQ
theorem w_needGate (F : HF ix Φ) {g r d s c w : Nat} {h : Hl} (k : Rep' σ g r d s c h) (hw : w < h.gates.length) (hQ : Q .none σ) : cW Φ (n + 1) ix.needGate [.inst [.ref g, .ref r, .ref d, .ref s, .ref c], .int w] σ Q x := by
  refine fn_in F.needGate rfl (?_ : Gs _ (.mk _ _ _ _) _)
  obtain ⟨rv, b1, b2⟩ := k.gates
  refine k_pos (by lia) ?_
  refine vj (?_ : Gs _ (.mk _ _ _ _) _)
  refine b_lenE b1 (by (refine rwE b2.len ?_; with_reducible rfl)) ?_
  refine vj (?_ : Gs _ (.mk _ _ _ _) _)
  refine k_npos (by lia) ?_
  refine vj (?_ : Gs _ (.mk _ _ _ _) _)
  exact hQ
theorem w_passed (F : HF ix Φ) {g r d s c w t : Nat} {h : Hl} (k : Rep' σ g r d s c h) (hw : w < h.rows.length) (hd : h.done.length = h.rows.length) (hl : (h.row w).length ≤ 40) (ht : t < h.gates.length) (hQ : ∀ σ', Ex σ σ' → Q (.int (h.passed w t)) σ') :
    cW Φ (n + 2) ix.passed [.inst [.ref g, .ref r, .ref d, .ref s, .ref c], .int w, .int t] σ Q x := by
  refine fn_in F.passed rfl (?_ : Gs _ (.mk _ _ _ _) _)
  refine w_needWalker F k hw ?_
  refine vj (?_ : Gs _ (.mk _ _ _ _) _)
  refine w_needGate F k ht ?_
  obtain ⟨rv, a, e1, e2, e3, e4⟩ := k.row hw
  refine vj (?_ : Gs _ (.mk _ _ _ _) _)
  refine x_item e1 e3 ?_
  refine vj (?_ : Gs _ (.mk _ _ _ _) _)
  refine x_item k.done (dn_get (by lia)) ?_
  refine vj (?_ : Gs _ (.mk _ _ _ _) _)
  refine b_upto e4 (ml (by exact Nat.le_trans (by assumption) (by decide))) ?_
  refine vj (?_ : Gs _ (.mk _ _ _ _) _)
  refine b_count (l := (h.row w).take (h.dn w)) (by refine rwE List.map_take ?_; exact last_get) (hQ _ Ex.one)
theorem w_ahead (F : HF ix Φ) {g r d s c w : Nat} {h : Hl} (k : Rep' σ g r d s c h) (hw : w < h.rows.length) (hd : h.done.length = h.rows.length) (hs : h.stages.length = h.rows.length) (hl : (h.stg w).1 = 10 ∨ h.dn w < (h.row w).length)
    (h1 : (h.stg w).1 = 10 → Q (.tup [.none, .str 10]) σ) (h2 : (h.stg w).1 ≠ 10 → Q (.tup [.int (h.at_ w), .str (h.stg w).1]) σ) : cW Φ (n + 2) ix.ahead [.inst [.ref g, .ref r, .ref d, .ref s, .ref c], .int w] σ Q x := by
  refine fn_in F.ahead rfl (?_ : Gs _ (.mk _ _ _ _) _)
  refine w_needWalker F k hw ?_
  refine vj (?_ : Gs _ (.mk _ _ _ _) _)
  refine x_item k.stages (stg_get (by lia)) ?_
  refine vj (?_ : Gs _ (.mk _ _ _ _) _)
  refine k_dec (fun e => ?_) fun e => ?_
  · refine vj (?_ : Gs _ (.mk _ _ _ _) _)
    exact h1 e
  · obtain ⟨rv, a, e1, e2, e3, e4⟩ := k.row hw
    refine vj (?_ : Gs _ (.mk _ _ _ _) _)
    refine x_item e1 e3 ?_
    refine vj (?_ : Gs _ (.mk _ _ _ _) _)
    refine x_item k.done (dn_get (by lia)) ?_
    refine vj (?_ : Gs _ (.mk _ _ _ _) _)
    refine x_item e4 (at_get (by lia)) ?_
    refine vj (?_ : Gs _ (.mk _ _ _ _) _)
    exact h2 e
theorem w_timeOf (F : HF ix Φ) {g r d s c w t : Nat} {h : Hl} (k : Rep' σ g r d s c h) (hw : w < h.rows.length) (hd : h.done.length = h.rows.length) (hl : (h.row w).length ≤ 40) (ht : t < h.gates.length) (hQ : ∀ σ', Ex σ σ' → Q (.int (h.passed w t + 1 : Nat)) σ') :
    cW Φ (n + 3) ix.timeOf [.inst [.ref g, .ref r, .ref d, .ref s, .ref c], .int w, .int t] σ Q x := by
  refine fn_in F.timeOf rfl (?_ : Gs _ (.mk _ _ _ _) _)
  refine w_passed F k hw hd hl ht fun σ' e => ?_
  refine vj (?_ : Gs _ (.mk _ _ _ _) _)
  exact hQ _ e
theorem w_signOf (F : HF ix Φ) {k t : Nat} (hQ : Q (.int (signOf k t)) σ) : cW Φ (n + 1) ix.signOf [.str k, .int t] σ Q x := by
  refine fn_in F.signOf rfl (?_ : Gs _ (.mk _ _ _ _) _)
  refine k_dec (fun e => ?_) fun e => ?_
  · refine vj (?_ : Gs _ (.mk _ _ _ _) _)
    rw [signOf, if_pos e] at hQ
    exact hQ
  · refine vj (?_ : Gs _ (.mk _ _ _ _) _)
    rw [signOf, if_neg e] at hQ
    exact hQ
theorem w_boxOf (F : HF ix Φ) {u t m : Nat} (hm : m ≤ 16) (hQ : Q (.int (boxOf u t m)) σ) : cW Φ (n + 3) ix.boxOf [.int u, .int t, .int m] σ Q x := by
  refine fn_in F.boxOf rfl (?_ : Gs _ (.mk _ _ _ _) _)
  refine k_dec (fun e => ?_) fun e => ?_
  · refine vj (?_ : Gs _ (.mk _ _ _ _) _)
    rw [boxOf, if_pos (by lia)] at hQ
    exact hQ
  · refine vj (?_ : Gs _ (.mk _ _ _ _) _)
    refine w_rounds F hm ?_
    refine vj (?_ : Gs _ (.mk _ _ _ _) _)
    rw [boxOf, if_neg (by lia)] at hQ
    exact hQ
end
end Mini

set_option autoImplicit false
set_option linter.unusedVariables false
namespace Mini
noncomputable def put2 (b : List (List Int)) (i j : Nat) (v : Int) : List (List Int) := b.set i ((b.getD i []).set j v)
noncomputable def cellStep (g : Nat × List Nat) (w time : Nat) (st : Nat × Nat) : Cell → Cell × (Nat × Nat)
  | .cnt l s => if st.1 = 2 then (.cnt (l - 1) s, if l - 1 = 0 then (3, 0) else (5, 0)) else if st.1 = 3 then (.cnt g.2.length s, (4, 0)) else if st.1 = 4 then (.cnt l (signOf 0 time), (6, 0)) else (.cnt l s, (6, 0))
  | .row b => if st.1 = 2 then (.row b, if 0 = rnd g.2.length then (6, 0) else (7, 0)) else if st.1 = 7 then (.row (put2 b ((g.2.idxOf w + 2 ^ st.2) % g.2.length) (boxOf st.2 time g.2.length) (signOf 1 time)), (8, st.2))
    else (.row b, if st.2 + 1 = rnd g.2.length then (6, 0) else (7, st.2 + 1))
noncomputable def cellVain (g : Nat × List Nat) (w time : Nat) (st : Nat × Nat) : Cell → Bool
  | .cnt l s => decide (st.1 = 5) && decide (s ≠ signOf 0 time)
  | .row b => decide (st.1 = 8) && decide ((b.getD (g.2.idxOf w) []).getD (boxOf st.2 time g.2.length) 0 ≠ signOf 1 time)
noncomputable def Hl.time (h : Hl) (w : Nat) : Nat := h.passed w (h.at_ w) + 1
noncomputable def Hl.vain (h : Hl) (w : Nat) : Bool := cellVain (h.gate (h.at_ w)) w (h.time w) (h.stg w) (h.cell (h.at_ w))
noncomputable def Hl.cstep (h : Hl) (w : Nat) : Cell × (Nat × Nat) := cellStep (h.gate (h.at_ w)) w (h.time w) (h.stg w) (h.cell (h.at_ w))
noncomputable def Hl.step (h : Hl) (w : Nat) : Hl := if (h.stg w).1 = 10 then h else if h.vain w then h
  else if (h.stg w).1 = 6 then { h with done := h.done.set w (h.dn w + 1), stages := h.stages.set w (if h.dn w + 1 = (h.row w).length then (10, 0) else (2, 0)) }
  else { h with cells := h.cells.set (h.at_ w) (h.cstep w).1, stages := h.stages.set w (h.cstep w).2 }
noncomputable def Hl.told (h : Hl) (w : Nat) : V := if (h.stg w).1 = 10 then .tup [.int w, .none, .str 10] else if h.vain w then .tup [.int w, .int (h.at_ w), .str 9] else .tup [.int w, .int (h.at_ w), .str (h.stg w).1]
/-- a gate's cells are as its word and its members say -/
noncomputable def CellOk (g : Nat × List Nat) : Cell → Prop
  | .cnt _ _ => g.1 = 0
  | .row b => g.1 = 1 ∧ b.length = g.2.length ∧ ∀ x ∈ b, x.length = 2 * rnd g.2.length
/-- what a walker stands at -/
noncomputable def StOk (g : Nat × List Nat) (st : Nat × Nat) : Prop := st.1 = 2 ∨ st.1 = 6 ∨ (g.1 = 0 ∧ (st.1 = 3 ∨ st.1 = 4 ∨ st.1 = 5)) ∨ (g.1 = 1 ∧ (st.1 = 7 ∨ st.1 = 8) ∧ st.2 < rnd g.2.length)
structure WF (h : Hl) : Prop where
  ld : h.done.length = h.rows.length
  ls : h.stages.length = h.rows.length
  lc : h.cells.length = h.gates.length
  gm : ∀ g, g < h.gates.length → (h.gate g).2.length ≤ 12
  cell : ∀ g, g < h.gates.length → CellOk (h.gate g) (h.cell g)
  rl : ∀ w, w < h.rows.length → (h.row w).length ≤ 40
  rg : ∀ w, w < h.rows.length → ∀ g ∈ h.row w, g < h.gates.length ∧ w ∈ (h.gate g).2
  wk : ∀ w, w < h.rows.length → ((h.stg w).1 = 10 ∧ h.dn w = (h.row w).length) ∨ (h.dn w < (h.row w).length ∧ StOk (h.gate (h.at_ w)) (h.stg w))
theorem WF.lt {h : Hl} (f : WF h) {w : Nat} (hw : w < h.rows.length) (hs : (h.stg w).1 ≠ 10) : h.dn w < (h.row w).length := by
  rcases f.wk w hw with h1 | h1
  · exact absurd h1.1 hs
  · exact h1.1
theorem WF.at_ {h : Hl} (f : WF h) {w : Nat} (hw : w < h.rows.length) (hs : (h.stg w).1 ≠ 10) : h.at_ w < h.gates.length ∧ w ∈ (h.gate (h.at_ w)).2 :=
  f.rg w hw _ (List.mem_of_getElem? (get_of_lt (d := 0) (f.lt hw hs)))
theorem WF.st {h : Hl} (f : WF h) {w : Nat} (hw : w < h.rows.length) (hs : (h.stg w).1 ≠ 10) : StOk (h.gate (h.at_ w)) (h.stg w) := by
  rcases f.wk w hw with h1 | h1
  · exact absurd h1.1 hs
  · exact h1.2
theorem box_lt {u t m : Nat} (h : u < rnd m) : boxOf u t m < 2 * rnd m := by unfold boxOf; split <;> lia
section
variable {Φ : Nat → Option Fn} {n : Nat} {σ : H} {Q : P} {x : X}
theorem w_vain (F : HF ix Φ) {g r d s c w : Nat} {h : Hl} (k : Rep' σ g r d s c h) (f : WF h) (hw : w < h.rows.length) (hQ : ∀ σ', Ex σ σ' → Q (.bool (h.vain w)) σ') :
    cW Φ (n + 4) ix.vain [.inst [.ref g, .ref r, .ref d, .ref s, .ref c], .int w] σ Q x := by
  refine fn_in F.vain rfl (?_ : Gs _ (.mk _ _ _ _) _)
  have vf : ¬ ((h.stg w).1 = 5 ∨ (h.stg w).1 = 8) → h.vain w = false := by
    intro z
    unfold Hl.vain cellVain
    split <;> simp <;> intro z' <;> exact absurd (by simp [z']) z
  refine (?_ : Gs _ (.mk _ _ _ _) _)
  refine w_ahead F k hw f.ld f.ls ?_ (fun e => ?_) fun e => ?_
  · rcases f.wk w hw with h1 | h1
    · exact .inl h1.1
    · exact .inr h1.1
  · refine vj (?_ : Gs _ (.mk _ _ _ _) _)
    refine c_notin2 ?_
    refine vj (?_ : Gs _ (.mk _ _ _ _) _)
    refine k_pos (by decide) ?_
    refine vj (?_ : Gs _ (.mk _ _ _ _) _)
    refine rwE (Eq.symm (vf (by lia))) ?_
    exact hQ _ Ex.refl
  refine vj (?_ : Gs _ (.mk _ _ _ _) _)
  refine c_notin2 ?_
  refine vj (?_ : Gs _ (.mk _ _ _ _) _)
  refine k_dec (fun e1 => ?_) fun e1 => ?_
  · refine vj (?_ : Gs _ (.mk _ _ _ _) _)
    refine rwE (Eq.symm (vf (by lia))) ?_
    exact hQ _ Ex.refl
  obtain ⟨at1, at2⟩ := f.at_ hw e
  have so := f.st hw e
  have ck := f.cell _ at1
  have gm := f.gm _ at1
  unfold StOk at so
  obtain ⟨gv, ga, g1, _, g2, g3⟩ := k.gate at1
  refine vj (?_ : Gs _ (.mk _ _ _ _) _)
  refine x_item g1 g2 ?_
  refine vj (?_ : Gs _ (.mk _ _ _ _) _)
  refine w_timeOf F k hw f.ld (f.rl w hw) at1 fun σ' e' => ?_
  have k' := k.ex e'
  refine vj (?_ : Gs _ (.mk _ _ _ _) _)
  refine w_signOf F ?_
  refine vj (?_ : Gs _ (.mk _ _ _ _) _)
  obtain ⟨cv, v, fp, c1, c2, c3⟩ := k'.cell (w := h.at_ w) (by refine rwE f.lc ?_; exact at1)
  refine k_dec (fun e2 => ?_) fun e2 => ?_
  · have g0 : (h.gate (h.at_ w)).1 = 0 := by lia
    refine vj (?_ : Gs _ (.mk _ _ _ _) _)
    refine x_item c1 c2 ?_
    have hv : h.vain w = cellVain (h.gate (h.at_ w)) w (h.time w) (h.stg w) (h.cell (h.at_ w)) := rfl
    cases hc : h.cell (h.at_ w) with
    | row b => rw [hc] at ck; exact absurd ck.1 (by lia)
    | cnt l sd =>
      rw [hc] at c3 hv
      obtain ⟨a, rfl, _, c4⟩ := c3
      refine vj (?_ : Gs _ (.mk _ _ _ _) _)
      refine x_it (v := .int sd) c4 (by decide) rfl ?_
      refine vj (?_ : Gs _ (.mk _ _ _ _) _)
      refine rwE g0 ?_
      have : h.vain w = decide (sd ≠ signOf 0 (h.passed w (h.at_ w) + 1)) := by
        (refine rwE hv ?_; rewrite [Bool.eq_iff_iff]); simp only [cellVain, e2, Hl.time, Bool.and_eq_true, decide_eq_true_eq, true_and]; exact decide_eq_true_iff
      refine rwE (Eq.symm (this)) ?_
      refine (?_ : Gs _ (.mk _ _ _ _) _)
      exact hQ _ e'
  · have g0 : (h.gate (h.at_ w)).1 = 1 := by lia
    refine vj (?_ : Gs _ (.mk _ _ _ _) _)
    refine b_index (e'.get g3) at2 ?_
    refine vj (?_ : Gs _ (.mk _ _ _ _) _)
    refine x_item c1 c2 ?_
    have hv : h.vain w = cellVain (h.gate (h.at_ w)) w (h.time w) (h.stg w) (h.cell (h.at_ w)) := rfl
    cases hc : h.cell (h.at_ w) with
    | cnt l sd => rw [hc] at ck; exact absurd ck (by rewrite [CellOk]; lia)
    | row b =>
      rw [hc] at c3 hv ck
      obtain ⟨a, as, rfl, _, c4, c5⟩ := c3
      have hpl : (h.gate (h.at_ w)).2.idxOf w < b.length := by refine rwE ck.2.1 ?_; exact List.idxOf_lt_length_of_mem at2
      obtain ⟨bx, d1, d2⟩ := c5.right (get_of_lt (d := []) hpl)
      refine vj (?_ : Gs _ (.mk _ _ _ _) _)
      refine x_item c4 (v := .ref bx) (by (refine rwE List.getElem?_map ?_; refine rwE d1 ?_); rfl) ?_
      refine vj (?_ : Gs _ (.mk _ _ _ _) _)
      refine x_item k'.stages (stg_get (by refine rwE f.ls ?_; exact hw)) ?_
      refine vj (?_ : Gs _ (.mk _ _ _ _) _)
      refine b_lenE (e'.get g3) (by (rewrite [List.length_map]; with_reducible rfl)) ?_
      refine vj (?_ : Gs _ (.mk _ _ _ _) _)
      refine w_boxOf F (by exact Nat.le_trans (by assumption) (by decide)) ?_
      have hbl : boxOf (h.stg w).2 (h.passed w (h.at_ w) + 1) (h.gate (h.at_ w)).2.length < (b.getD ((h.gate (h.at_ w)).2.idxOf w) []).length := by
        refine rwE (ck.2.2 _ (List.mem_of_getElem? (get_of_lt hpl))) ?_
        exact box_lt (by lia)
      refine vj (?_ : Gs _ (.mk _ _ _ _) _)
      refine x_item d2 (v := .int _) (by (refine rwE List.getElem?_map ?_; refine rwE (get_of_lt (d := 0) hbl) ?_); rfl) ?_
      refine vj (?_ : Gs _ (.mk _ _ _ _) _)
      refine rwE g0 ?_
      have : h.vain w = decide (((b.getD ((h.gate (h.at_ w)).2.idxOf w) []).getD (boxOf (h.stg w).2 (h.passed w (h.at_ w) + 1) (h.gate (h.at_ w)).2.length) 0) ≠ signOf 1 (h.passed w (h.at_ w) + 1)) := by
        (refine rwE hv ?_; rewrite [Bool.eq_iff_iff]); simp only [cellVain, show (h.stg w).1 = 8 by lia, Hl.time, Bool.and_eq_true, decide_eq_true_eq, true_and]; exact decide_eq_true_iff
      refine rwE (Eq.symm (this)) ?_
      refine (?_ : Gs _ (.mk _ _ _ _) _)
      exact hQ _ e'
/-- the cells are few -/
noncomputable def CellSm : Cell → Prop
  | .cnt _ _ => True
  | .row b => b.length ≤ 12 ∧ ∀ x ∈ b, x.length ≤ 100
theorem CellOk.sm {g : Nat × List Nat} (hl : g.2.length ≤ 12) : ∀ {c : Cell}, CellOk g c → CellSm c
  | .cnt _ _, _ => trivial
  | .row b, ⟨h1, h2, h3⟩ => ⟨by lia, fun x hx => by have := h3 x hx; have := rnd_le g.2.length; lia⟩
theorem w_copied (F : HF ix Φ) {v : V} {c : Cell} {f : List Nat} (hc : CellR σ v c f) (sm : CellSm c) (hQ : ∀ σ' v' f', Ex σ σ' → CellR σ' v' c f' → f'.Nodup → (∀ a ∈ f', σ.length ≤ a ∧ a < σ'.length) → Q v' σ') :
    cW Φ (n + 1) ix.copied [v] σ Q x := by
  refine fn_in F.copied rfl (?_ : Gs _ (.mk _ _ _ _) _)
  cases c with
  | cnt l s =>
    obtain ⟨a, rfl, _, h1⟩ := hc
    refine r_lsK h1 ?_
    refine comp_rule (fun i acc σ' => Mini.Cj2 (σ' = σ) (acc = [V.int l, V.int s].take i)) (by simp [lim]) ⟨rfl, rfl⟩ ?_ ?_
    · rintro i v acc _ K hv hl ⟨rfl, rfl⟩ hK
      refine ⟨h1, ?_⟩
      have hi : (∃ j : Int, v = .int j) ∧ [V.int l, V.int s].take (i + 1) = [V.int l, V.int s].take i ++ [v] := by
        refine ⟨?_, by (refine rwE List.take_add_one ?_; refine rwE hv ?_); rfl⟩
        have := List.mem_of_getElem? hv
        simp at this
        rcases this with rfl | rfl
        · exact ⟨_, rfl⟩
        · exact ⟨_, rfl⟩
      obtain ⟨⟨j, rfl⟩, hi⟩ := hi
      refine vjE (?_ : Gs _ (.mk _ _ _ _) _)
      refine k_no ?_
      refine vj (?_ : Gs _ (.mk _ _ _ _) _)
      exact hK _ _ ⟨rfl, hi.symm⟩
    · rintro acc _ _ ⟨rfl, rfl⟩
      exact ⟨h1, hQ _ _ [_] Ex.one ⟨_, rfl, rfl, last_get⟩ (by simp) (by simp)⟩
  | row b =>
    obtain ⟨a, as, rfl, _, h1, h2⟩ := hc
    refine r_lsK h1 ?_
    have hb : as.length = b.length := h2.len
    refine comp_rule (fun i acc σ' => Mini.Cj2 (Ex σ σ') (Mini.Ek1 fun (as' : List Nat) => Mini.Cj4 (acc = as'.map V.ref) (A2 (BoxR σ') as' (b.take i)) (as'.Nodup) (∀ a ∈ as', σ.length ≤ a ∧ a < σ'.length))) (by have := sm.1; simp [lim]; lia) ⟨Ex.refl, [], rfl, A2.nil, by simp, by simp⟩ ?_ ?_
    · rintro i v acc σ' K hv hl ⟨e, as', rfl, q1, q2, q3⟩ hK
      refine ⟨e.get h1, ?_⟩
      rw [List.getElem?_map, Option.map_eq_some_iff] at hv
      obtain ⟨bx, hbx, rfl⟩ := hv
      obtain ⟨y, hy, hby⟩ := h2.left hbx
      have hys := sm.2 y (List.mem_of_getElem? hy)
      refine vjE (?_ : Gs _ (.mk _ _ _ _) _)
      refine k_yes ?_
      refine vj (?_ : Gs _ (.mk _ _ _ _) _)
      refine b_list (e.get hby) (ml (by exact Nat.le_trans (by assumption) (by decide))) ?_
      refine vj (?_ : Gs _ (.mk _ _ _ _) _)
      refine hK _ _ ⟨e.trans Ex.one, as' ++ [σ'.length], by simp, ?_, ?_, ?_⟩
      · (refine rwE List.take_add_one ?_; refine rwE hy ?_)
        exact (q1.mono fun _ _ k => Ex.one.get k).snoc last_get
      · rewrite [List.nodup_append]
        refine ⟨q2, by simp, ?_⟩
        intro u hu w hw
        simp at hw; have := q3 u hu; lia
      · intro u hu
        rcases List.mem_append.mp hu with h | h
        · have := q3 u h; simp; lia
        · simp at h; subst h; have := e.len; simp; assumption
    · rintro acc σ' _ ⟨e, as', rfl, q1, q2, q3⟩
      have el := e.len
      rw [List.length_map, hb, List.take_length] at q1
      refine ⟨e.get h1, hQ _ _ (σ'.length :: as') (e.trans Ex.one) ⟨_, as', rfl, rfl, last_get, q1.mono fun _ _ k => Ex.one.get k⟩ ?_ ?_⟩
      · rewrite [List.nodup_cons]
        exact ⟨fun z => by have := q3 _ z; lia, q2⟩
      · intro u hu
        rcases List.mem_cons.mp hu with h | h
        · subst h; simp; assumption
        · have := q3 u h; simp; lia
end
end Mini

set_option autoImplicit false
set_option linter.unusedVariables false
namespace Mini
section
variable {n : Nat} {σ σ' : H} {g r d s c : Nat} {cv : List V} {fs : List (List Nat)} {h : Hl}
theorem Own.ex (o : Own n σ g r d s c cv fs h) (e : Ex σ σ') : Own n σ' g r d s c cv fs h := by
  obtain ⟨⟨gv, a1, a2, a3⟩, ⟨rv, b1, b2, b3⟩, h3, h4, h5, h6, h7, h8⟩ := o
  exact ⟨⟨gv, e.get a1, a2, a3.mono fun _ _ q => q.ex e (Nat.le_refl _)⟩, ⟨rv, e.get b1, b2, b3.mono fun _ _ q => q.ex e (Nat.le_refl _)⟩, e.get h3, e.get h4, e.get h5, h6.ex e, h7, h8⟩
theorem set_same (t : Nat) : h.cells.set t (h.cell t) = h.cells := by
  by_cases ht : t < h.cells.length
  · have : h.cell t = h.cells[t] := by unfold Hl.cell; (refine rwE List.getD_eq_getElem?_getD ?_; refine rwE (List.getElem?_eq_getElem ht) ?_); rfl
    (refine rwE this ?_; (rewrite [List.set_getElem_self]; with_reducible rfl))
  · (refine rwE (List.set_eq_of_length_le (by lia)) ?_; with_reducible rfl)
theorem Own.cell (o : Own n σ g r d s c cv fs h) {w : Nat} (hw : w < h.cells.length) : ∃ v f, cv[w]? = some v ∧ fs[w]? = some f ∧ CellR σ v (h.cell w) f := by
  have b2 := o.cellsR
  have h1 : w < cv.length := by refine rwE b2.l1 ?_; exact hw
  have h2 : w < fs.length := by refine rwE b2.l2 ?_; exact hw
  exact ⟨cv[w], fs[w], by simp [h1], by simp [h2], b2.at_ (by simp [h1]) (get_of_lt hw) (by simp [h2])⟩
end
section
variable {Φ : Nat → Option Fn} {n : Nat} {σ σ₀ : H} {Q : P} {x : X}
theorem w_twin (F : HF ix Φ) {g r d s c : Nat} {h : Hl} (k : Rep' σ g r d s c h) (sm : ∀ cl ∈ h.cells, CellSm cl) (hl : h.cells.length ≤ 100) (hd : h.done.length ≤ 100) (hs : h.stages.length ≤ 100)
    (hQ : ∀ σ' d' s' c' cv fs, Ex σ σ' → Own σ.length σ' g r d' s' c' cv fs h → Q (.inst [.ref g, .ref r, .ref d', .ref s', .ref c']) σ') :
    cW Φ (n + 2) ix.twin [.inst [.ref g, .ref r, .ref d, .ref s, .ref c]] σ Q x := by
  refine fn_in F.twin rfl (?_ : Gs _ (.mk _ _ _ _) _)
  obtain ⟨cv, fs, c1, c2⟩ := k.cells
  refine r_lsK c1 ?_
  refine comp_rule (fun i acc σ' => Mini.Cj2 (Ex σ σ') (Mini.Ek1 fun fs' => Mini.Cj3 (CellsR σ' acc (h.cells.take i) fs') (fs'.flatten.Nodup) (∀ a ∈ fs'.flatten, σ.length ≤ a ∧ a < σ'.length))) (by refine rwE c2.l1 ?_; simp [lim]; exact Nat.le_trans (by assumption) (by decide)) ⟨Ex.refl, [], ⟨rfl, rfl, fun z => by simp at z⟩, by simp, by simp⟩ ?_ ?_
  · rintro i v acc σ' K hv hl ⟨e, fs', q1, q2, q3⟩ hK
    refine ⟨e.get c1, ?_⟩
    have hi : i < h.cells.length := by refine rwE (Eq.symm (c2.l1)) ?_; exact lt_of_get hv
    have hf : i < fs.length := by refine rwE c2.l2 ?_; exact hi
    have hci : h.cells[i]? = some h.cells[i] := by simp [hi]
    have cr := c2.at_ hv hci (show fs[i]? = some fs[i] by simp [hf])
    refine vjE (?_ : Gs _ (.mk _ _ _ _) _)
    refine w_copied F (cr.ex e) (sm _ (List.mem_of_getElem? hci)) fun σ'' v' f' e' k1 k2 k3 => ?_
    refine vj (?_ : Gs _ (.mk _ _ _ _) _)
    refine hK _ _ ⟨e.trans e', fs' ++ [f'], ?_, ?_, ?_⟩
    · have q4 : fs'.length = acc.length := by (refine rwE q1.l2 ?_; (refine rwE q1.l1 ?_; with_reducible rfl))
      have q5 : (h.cells.take i).length = acc.length := q1.l1.symm
      (refine rwE List.take_add_one ?_; refine rwE hci ?_; refine rwE (show (some h.cells[i]).toList = [h.cells[i]] from rfl) ?_)
      refine ⟨by (refine rwE List.length_append ?_; refine rwE List.length_append ?_; refine rwE q1.l1 ?_); rfl, by (refine rwE List.length_append ?_; refine rwE List.length_append ?_; refine rwE q1.l2 ?_); rfl, fun {j v c f} p1 p2 p3 => ?_⟩
      rcases Nat.lt_trichotomy j acc.length with hj | hj | hj
      · rw [List.getElem?_append_left hj] at p1
        rw [List.getElem?_append_left (by lia)] at p2 p3
        exact (q1.at_ p1 p2 p3).ex e'
      · subst hj
        rw [List.getElem?_append_right (Nat.le_refl _)] at p1
        rw [List.getElem?_append_right (by lia), q5] at p2
        rw [List.getElem?_append_right (by lia), q4] at p3
        simp at p1 p2 p3
        subst p1 p2 p3
        exact k1
      · have := lt_of_get p1
        simp at this; lia
    · (refine rwE List.flatten_append ?_; rewrite [List.nodup_append])
      refine ⟨q2, by simpa using k2, ?_⟩
      intro u hu w hw
      simp at hw
      have := q3 u hu; have := k3 w hw; lia
    · intro u hu
      rw [List.flatten_append, List.mem_append] at hu
      have := e'.len
      have := e.len
      rcases hu with hu | hu
      · have := q3 u hu; lia
      · have := k3 u (by simpa using hu); lia
  · rintro acc σ' ha ⟨e, fs', q1, q2, q3⟩
    refine ⟨e.get c1, ?_⟩
    rw [c2.l1, List.take_length] at q1
    have el := e.len
    refine vj (?_ : Gs _ (.mk _ _ _ _) _)
    have e1 : Ex σ (σ' ++ [acc]) := e.trans Ex.one
    refine (?_ : Gs _ (.mk _ _ _ _) _)
    refine b_list (e1.get k.done) (ml (by exact Nat.le_trans (by assumption) (by decide))) ?_
    refine vj (?_ : Gs _ (.mk _ _ _ _) _)
    have e2 : Ex σ (σ' ++ [acc] ++ [h.done.map nv]) := e1.trans Ex.one
    refine (?_ : Gs _ (.mk _ _ _ _) _)
    refine b_list (e2.get k.stages) (ml (by exact Nat.le_trans (by assumption) (by decide))) ?_
    refine vj (?_ : Gs _ (.mk _ _ _ _) _)
    have e3 : Ex σ (σ' ++ [acc] ++ [h.done.map nv] ++ [h.stages.map stV]) := e2.trans Ex.one
    have z1 : Ex (σ' ++ [acc]) (σ' ++ [acc] ++ [h.done.map nv] ++ [h.stages.map stV]) := Ex.one.trans Ex.one
    refine (?_ : Gs _ (.mk _ _ _ _) _)
    refine hQ _ _ _ _ acc fs' e3 ?_
    obtain ⟨gv, a1, a2⟩ := k.gates
    obtain ⟨rv, b1, b2⟩ := k.rows
    refine ⟨⟨gv, e3.get a1, lt_of_get a1, a2.mono fun _ _ q => q.ex e3 (Nat.le_refl _)⟩, ⟨rv, e3.get b1, lt_of_get b1, b2.mono fun _ _ q => q.ex e3 (Nat.le_refl _)⟩, Ex.one.get last_get, last_get, z1.get last_get, q1.ex (Ex.one.trans z1), ?_, ?_⟩
    · have hn : ∀ a, σ'.length ≤ a → a ∉ fs'.flatten := fun a ha z => by have := q3 a z; lia
      simp only [List.nodup_cons, List.mem_cons, not_or, List.length_append, List.length_cons, List.length_nil]
      exact ⟨⟨by lia, by lia, hn _ (by lia)⟩, ⟨by lia, hn _ (by lia)⟩, hn _ (by lia), q2⟩
    · intro a ha
      simp only [List.mem_cons, List.length_append, List.length_cons, List.length_nil] at ha
      rcases ha with rfl | rfl | rfl | ha
      · exact Nat.le_succ_of_le (by assumption)
      · lia
      · assumption
      · exact (q3 a ha).1
theorem w_through (F : HF ix Φ) {g r d s c w : Nat} {cv : List V} {fs : List (List Nat)} {h : Hl} (h0 : 0 < σ₀.length) (e : Ex σ₀ σ) (o : Own σ₀.length σ g r d s c cv fs h) (hw : w < h.rows.length) (hd : h.done.length = h.rows.length)
    (hQ : ∀ σ', Ex σ₀ σ' → Own σ₀.length σ' g r d s c cv fs { h with done := h.done.set w (h.dn w + 1) } → Q (stV (if h.dn w + 1 = (h.row w).length then (10, 0) else (2, 0))) σ') :
    cW Φ (n + 1) ix.through [.inst [.ref g, .ref r, .ref d, .ref s, .ref c], .int w] σ Q x := by
  refine fn_in F.through rfl (?_ : Gs _ (.mk _ _ _ _) _)
  have hdl : w < h.done.length := by lia
  have ge := o.ge d (by simp)
  refine (?_ : Gs _ (.mk _ _ _ _) _)
  refine x_item o.done (dn_get hdl) ?_
  refine vj (?_ : Gs _ (.mk _ _ _ _) _)
  refine s_puK (by exact Nat.ne_of_gt (Nat.lt_of_lt_of_le (by assumption) (by assumption))) o.done (by lia) (by simp; assumption) ?_
  have o' := o.setDone (w := w) (t := h.dn w + 1)
  have e' : Ex σ₀ (σ.set d ((h.done.map nv).set w (nv (h.dn w + 1)))) := e.set ge
  refine (?_ : VR _ _ _ _ (σ.set d ((h.done.map nv).set w (nv (h.dn w + 1)))))
  generalize σ.set d ((h.done.map nv).set w (nv (h.dn w + 1))) = σ' at *
  refine vj (?_ : Gs _ (.mk _ _ _ _) _)
  refine x_item (v := .int (h.dn w + 1 : Nat)) o'.done (by (refine rwE List.map_set ?_; refine rwE (List.getElem?_set_self (by simpa using hdl)) ?_); rfl) ?_
  obtain ⟨rv, a, e1, e2, e3, e4⟩ := o'.rep.row (w := w) hw
  refine vj (?_ : Gs _ (.mk _ _ _ _) _)
  refine x_item e1 e3 ?_
  refine vj (?_ : Gs _ (.mk _ _ _ _) _)
  refine b_len e4 ?_
  refine vj (?_ : Gs _ (.mk _ _ _ _) _)
  have hq := hQ σ' e' o'
  rewrite [List.length_map]
  refine (?_ : Gs _ (.mk _ _ _ _) _)
  refine k_dec (fun z => ?_) fun z => ?_
  · refine vj (?_ : Gs _ (.mk _ _ _ _) _)
    rw [if_pos (show h.dn w + 1 = (h.row w).length from Int.ofNat.inj z)] at hq
    exact hq
  · refine vj (?_ : Gs _ (.mk _ _ _ _) _)
    rw [if_neg (show ¬ (h.dn w + 1 = (h.row w).length) from fun q => z (congrArg Int.ofNat q))] at hq
    exact hq
theorem w_counted (F : HF ix Φ) {g r d s c w t k : Nat} {cv : List V} {fs : List (List Nat)} {h : Hl} {l sd : Int} (h0 : 0 < σ₀.length) (e : Ex σ₀ σ) (o : Own σ₀.length σ g r d s c cv fs h) (f : WF h) (hw : w < h.rows.length) (ht : t < h.gates.length) (hc : h.cell t = .cnt l sd) {u : Nat}
    (hQ : ∀ σ', Ex σ₀ σ' → Own σ₀.length σ' g r d s c cv fs { h with cells := h.cells.set t (cellStep (h.gate t) w (h.passed w t + 1) (k, u) (.cnt l sd)).1 } → Q (stV (cellStep (h.gate t) w (h.passed w t + 1) (k, u) (.cnt l sd)).2) σ') :
    cW Φ (n + 4) ix.counted [.inst [.ref g, .ref r, .ref d, .ref s, .ref c], .int w, .int t, .str k] σ Q x := by
  refine fn_in F.counted rfl (?_ : Gs _ (.mk _ _ _ _) _)
  have htc : t < h.cells.length := by refine rwE f.lc ?_; exact ht
  obtain ⟨v, fp, c1, c2, c3⟩ := o.cell htc
  rw [hc] at c3
  obtain ⟨a, rfl, rfl, c4⟩ := c3
  have ge := o.ge a (by simp [mem_flat c2 (List.mem_singleton.mpr rfl)])
  have al := lt_of_get c4
  refine (?_ : Gs _ (.mk _ _ _ _) _)
  refine x_item o.cells c1 ?_
  refine vj (?_ : Gs _ (.mk _ _ _ _) _)
  obtain ⟨gv, ga, g1, _, g2, g3⟩ := o.rep.gate ht
  refine x_item g1 g2 ?_
  refine vj (?_ : Gs _ (.mk _ _ _ _) _)
  refine b_lenE g3 (by (rewrite [List.length_map]; with_reducible rfl)) ?_
  refine vj (?_ : Gs _ (.mk _ _ _ _) _)
  refine k_dec (fun e1 => ?_) fun e1 => ?_
  · subst e1
    refine vj (?_ : Gs _ (.mk _ _ _ _) _)
    refine x_it (v := .int l) c4 (by decide) rfl ?_
    refine vj (?_ : Gs _ (.mk _ _ _ _) _)
    refine s_puK (by exact Nat.ne_of_gt (Nat.lt_of_lt_of_le (by assumption) (by assumption))) c4 (by decide) (by simp) ?_
    have o' := o.setCell (cl := .cnt (l - 1) sd) (xs := [.int (l - 1), .int sd]) c2 (List.mem_singleton.mpr rfl) c1 ⟨a, rfl, rfl, get_set_eq al⟩
    have e' : Ex σ₀ (σ.set a [.int (l - 1), .int sd]) := e.set ge
    have hq := hQ _ e' (by simpa [cellStep] using o')
    refine (?_ : VR _ _ _ _ (σ.set a [.int (l - 1), .int sd]))
    refine vj (?_ : Gs _ (.mk _ _ _ _) _)
    refine x_it (v := .int (l - 1)) (get_set_eq al) (by decide) rfl ?_
    refine vj (?_ : Gs _ (.mk _ _ _ _) _)
    refine k_dec (fun z => ?_) fun z => ?_
    · refine vj (?_ : Gs _ (.mk _ _ _ _) _)
      refine vret ?_
      simpa [cellStep, z, stV] using hq
    · refine vj (?_ : Gs _ (.mk _ _ _ _) _)
      refine vret ?_
      simpa [cellStep, z, stV] using hq
  refine vj (?_ : Gs _ (.mk _ _ _ _) _)
  refine k_dec (fun e2 => ?_) fun e2 => ?_
  · subst e2
    refine vj (?_ : Gs _ (.mk _ _ _ _) _)
    refine s_puK (by exact Nat.ne_of_gt (Nat.lt_of_lt_of_le (by assumption) (by assumption))) c4 (by decide) (by simp) ?_
    have o' := o.setCell (cl := .cnt (h.gate t).2.length sd) (xs := [.int (h.gate t).2.length, .int sd]) c2 (List.mem_singleton.mpr rfl) c1 ⟨a, rfl, rfl, get_set_eq al⟩
    have e' : Ex σ₀ (σ.set a [.int (h.gate t).2.length, .int sd]) := e.set ge
    have hq := hQ _ e' (by simpa [cellStep] using o')
    refine (?_ : VR _ _ _ _ (σ.set a [.int (h.gate t).2.length, .int sd]))
    refine vj (?_ : Gs _ (.mk _ _ _ _) _)
    refine vret ?_
    simpa [cellStep, stV] using hq
  refine vj (?_ : Gs _ (.mk _ _ _ _) _)
  refine k_dec (fun e3 => ?_) fun e3 => ?_
  · subst e3
    refine vj (?_ : Gs _ (.mk _ _ _ _) _)
    refine w_timeOf F o.rep hw f.ld (f.rl w hw) ht fun σ' e' => ?_
    have o' := o.ex e'
    have e'' := e.trans e'
    have c4' := e'.get c4
    have al' := lt_of_get c4'
    refine vj (?_ : Gs _ (.mk _ _ _ _) _)
    refine w_signOf F ?_
    refine vj (?_ : Gs _ (.mk _ _ _ _) _)
    refine s_puK (by exact Nat.ne_of_gt (Nat.lt_of_lt_of_le (by assumption) (by assumption))) c4' (by decide) (by simp) ?_
    have o'' := o'.setCell (cl := .cnt l (signOf 0 (h.passed w t + 1))) (xs := [.int l, .int (signOf 0 (h.passed w t + 1))]) c2 (List.mem_singleton.mpr rfl) c1 ⟨a, rfl, rfl, get_set_eq al'⟩
    have e3 : Ex σ₀ (σ'.set a [.int l, .int (signOf 0 (h.passed w t + 1))]) := e''.set ge
    have hq := hQ _ e3 (by simpa [cellStep] using o'')
    refine (?_ : VR _ _ _ _ (σ'.set a [.int l, .int (signOf 0 (h.passed w t + 1))]))
    refine vj (?_ : Gs _ (.mk _ _ _ _) _)
    refine vret ?_
    simpa [cellStep, stV] using hq
  · refine vj (?_ : Gs _ (.mk _ _ _ _) _)
    have hst : cellStep (h.gate t) w (h.passed w t + 1) (k, u) (.cnt l sd) = (.cnt l sd, (6, 0)) := by simp [cellStep, e1, e2, e3]
    rw [hst] at hQ
    have hq := hQ σ e (by (refine rwE (Eq.symm (hc)) ?_; rewrite [set_same]); exact o)
    exact hq
end
end Mini

set_option autoImplicit false
set_option linter.unusedVariables false
namespace Mini
section
variable {Φ : Nat → Option Fn} {n : Nat} {σ σ₀ : H} {Q : P} {x : X}
theorem w_rowed (F : HF ix Φ) {g r d s c w t k u : Nat} {cv : List V} {fs : List (List Nat)} {h : Hl} {b : List (List Int)} (h0 : 0 < σ₀.length) (e : Ex σ₀ σ) (o : Own σ₀.length σ g r d s c cv fs h) (f : WF h) (hw : w < h.rows.length) (ht : t < h.gates.length) (hm : w ∈ (h.gate t).2) (hc : h.cell t = .row b)
    (hst : h.stg w = (k, u)) (hu : k = 2 ∨ u < rnd (h.gate t).2.length)
    (hQ : ∀ σ', Ex σ₀ σ' → Own σ₀.length σ' g r d s c cv fs { h with cells := h.cells.set t (cellStep (h.gate t) w (h.passed w t + 1) (k, u) (.row b)).1 } → Q (stV (cellStep (h.gate t) w (h.passed w t + 1) (k, u) (.row b)).2) σ') :
    cW Φ (n + 4) ix.rowed [.inst [.ref g, .ref r, .ref d, .ref s, .ref c], .int w, .int t, .str k] σ Q x := by
  refine fn_in F.rowed rfl (?_ : Gs _ (.mk _ _ _ _) _)
  have htc : t < h.cells.length := by refine rwE f.lc ?_; exact ht
  have ck := f.cell t ht
  have gm := f.gm t ht
  have r4 := rnd_le (h.gate t).2.length
  rw [hc] at ck
  have pos : 0 < (h.gate t).2.length := List.length_pos_of_mem hm
  obtain ⟨gv, ga, g1, _, g2, g3⟩ := o.rep.gate ht
  have same : Own σ₀.length σ g r d s c cv fs { h with cells := h.cells.set t (.row b) } := by
    (refine rwE (Eq.symm (hc)) ?_; rewrite [set_same]); exact o
  have hsg := stg_get (h := h) (n := w) (by refine rwE f.ls ?_; exact hw)
  rw [hst] at hsg
  refine (?_ : Gs _ (.mk _ _ _ _) _)
  refine x_item g1 g2 ?_
  refine vj (?_ : Gs _ (.mk _ _ _ _) _)
  refine b_lenE g3 (by (rewrite [List.length_map]; with_reducible rfl)) ?_
  refine vj (?_ : Gs _ (.mk _ _ _ _) _)
  refine x_item o.stages hsg ?_
  refine vj (?_ : Gs _ (.mk _ _ _ _) _)
  refine k_dec (fun e1 => ?_) fun e1 => ?_
  · subst e1
    refine vj (?_ : Gs _ (.mk _ _ _ _) _)
    refine w_rounds F (by exact Nat.le_trans (by assumption) (by decide)) ?_
    refine vj (?_ : Gs _ (.mk _ _ _ _) _)
    simp only [cellStep, if_true] at hQ
    have hq := hQ σ e same
    refine (?_ : Gs _ (.mk _ _ _ _) _)
    refine k_dec (fun z => ?_) fun z => ?_
    · refine vj (?_ : Gs _ (.mk _ _ _ _) _)
      rw [if_pos (show 0 = rnd (h.gate t).2.length from Int.ofNat.inj z)] at hq
      exact hq
    · refine vj (?_ : Gs _ (.mk _ _ _ _) _)
      rw [if_neg (show ¬ (0 = rnd (h.gate t).2.length) from fun q => z (congrArg Int.ofNat q))] at hq
      exact hq
  have hu : u < rnd (h.gate t).2.length := by lia
  refine vj (?_ : Gs _ (.mk _ _ _ _) _)
  refine k_dec (fun e2 => ?_) fun e2 => ?_
  · subst e2
    refine vj (?_ : Gs _ (.mk _ _ _ _) _)
    refine w_timeOf F o.rep hw f.ld (f.rl w hw) ht fun σ' e' => ?_
    have o' := o.ex e'
    have e'' := e.trans e'
    refine vj (?_ : Gs _ (.mk _ _ _ _) _)
    refine b_index (e'.get g3) hm ?_
    refine vj (?_ : Gs _ (.mk _ _ _ _) _)
    refine w_partner F (by lia) pos ?_
    refine vj (?_ : Gs _ (.mk _ _ _ _) _)
    refine w_signOf F ?_
    refine vj (?_ : Gs _ (.mk _ _ _ _) _)
    obtain ⟨v, fp, c1, c2, c3⟩ := o'.cell htc
    rw [hc] at c3
    obtain ⟨a, as, rfl, rfl, c4, c5⟩ := c3
    refine x_item o'.cells c1 ?_
    refine vj (?_ : Gs _ (.mk _ _ _ _) _)
    generalize hot : ((h.gate t).2.idxOf w + 2 ^ u) % (h.gate t).2.length = ot
    have hol : ot < b.length := by (refine rwE ck.2.1 ?_; refine rwE (Eq.symm (hot)) ?_); exact Nat.mod_lt _ pos
    obtain ⟨bx, d1, d2⟩ := c5.right (get_of_lt (d := []) hol)
    refine (?_ : Gs _ (.mk _ _ _ _) _)
    refine x_item (v := .ref bx) c4 (by (refine rwE List.getElem?_map ?_; refine rwE d1 ?_); rfl) ?_
    refine vj (?_ : Gs _ (.mk _ _ _ _) _)
    refine w_boxOf F (by exact Nat.le_trans (by assumption) (by decide)) ?_
    generalize htm : h.passed w t + 1 = tm at *
    have hbl : boxOf u tm (h.gate t).2.length < (b.getD ot []).length := by
      refine rwE (ck.2.2 _ (List.mem_of_getElem? (get_of_lt hol))) ?_
      exact box_lt (by assumption)
    have hmem : bx ∈ a :: as := List.mem_cons_of_mem _ (List.mem_of_getElem? d1)
    have ge := o'.ge bx (by simp [mem_flat c2 hmem])
    have hbx := lt_of_get d2
    refine vj (?_ : Gs _ (.mk _ _ _ _) _)
    refine s_puK (by lia) d2 (by lia) (by rewrite [List.length_map]; exact Int.ofNat_lt.mpr hbl) ?_
    have nd : (a :: as).Nodup := by
      have h1 := (List.nodup_cons.mp (List.nodup_cons.mp (List.nodup_cons.mp o'.nodup).2).2).2
      exact (List.sublist_flatten_of_mem (List.mem_of_getElem? c2)).nodup h1
    (rewrite [Int.toNat_natCast]; refine rwE (show ((b.getD ot []).map V.int).set (boxOf u tm (h.gate t).2.length) (V.int (signOf 1 tm)) = ((b.getD ot []).set (boxOf u tm (h.gate t).2.length) (signOf 1 tm)).map V.int by (refine rwE List.map_set ?_; with_reducible rfl)) ?_)
    have o'' := o'.setCell (cl := .row (put2 b ot (boxOf u tm (h.gate t).2.length) (signOf 1 tm))) (xs := ((b.getD ot []).set (boxOf u tm (h.gate t).2.length) (signOf 1 tm)).map V.int) c2 hmem c1 ⟨a, as, rfl, rfl, get_set_ne (fun z => (List.nodup_cons.mp nd).1 (by refine rwE (Eq.symm (z)) ?_; exact List.mem_of_getElem? d1)) c4, ?_⟩
    · have hq := hQ _ (e''.set ge) (by simp only [cellStep, hot]; exact o'')
      simp only [cellStep] at hq
      refine vj (?_ : Gs _ (.mk _ _ _ _) _)
      exact hq
    · refine ⟨by (rewrite [put2]; refine rwE List.length_set ?_); exact c5.len, fun {i y z} p q => ?_⟩
      by_cases hi : ot = i
      · subst hi
        rw [put2, List.getElem?_set_self hol] at q
        rw [d1] at p
        cases p; cases q
        exact get_set_eq hbx
      · rw [put2, List.getElem?_set_ne hi] at q
        refine get_set_ne (fun z => hi ?_) (c5.at_ p q)
        subst z
        have n2 := (List.nodup_cons.mp nd).2
        have l1 := lt_of_get d1
        have l2 := lt_of_get p
        exact (List.getElem_inj n2).mp ((List.getElem?_eq_some_iff.mp d1).2.trans (List.getElem?_eq_some_iff.mp p).2.symm)
  · refine vj (?_ : Gs _ (.mk _ _ _ _) _)
    refine w_rounds F (by exact Nat.le_trans (by assumption) (by decide)) ?_
    refine vj (?_ : Gs _ (.mk _ _ _ _) _)
    simp only [cellStep, e1, e2, if_false] at hQ
    have hq := hQ σ e same
    refine (?_ : Gs _ (.mk _ _ _ _) _)
    refine k_dec (fun z => ?_) fun z => ?_
    · refine vj (?_ : Gs _ (.mk _ _ _ _) _)
      rw [if_pos (show u + 1 = rnd (h.gate t).2.length from Int.ofNat.inj z)] at hq
      exact hq
    · refine vj (?_ : Gs _ (.mk _ _ _ _) _)
      rw [if_neg (show ¬ (u + 1 = rnd (h.gate t).2.length) from fun q => z (congrArg Int.ofNat q))] at hq
      exact hq
end
end Mini

set_option autoImplicit false
set_option linter.unusedVariables false
namespace Mini
section
variable {Φ : Nat → Option Fn} {n : Nat} {σ σ₀ : H} {Q : P} {x : X}
theorem WF.sm {h : Hl} (f : WF h) : ∀ cl ∈ h.cells, CellSm cl := by
  intro cl hcl
  obtain ⟨i, hi, rfl⟩ := List.getElem_of_mem hcl
  have hg : i < h.gates.length := by refine rwE (Eq.symm (f.lc)) ?_; exact hi
  have : h.cell i = h.cells[i] := getD_of (by simp [hi])
  refine rwE (Eq.symm (this)) ?_
  exact (f.cell i hg).sm (f.gm i hg)
theorem w_steppedO (F : HF ix Φ) {w g r d s c : Nat} {h : Hl} (k : Rep' σ g r d s c h) (f : WF h) (hg : h.gates.length ≤ 12) (hr : h.rows.length ≤ 12) (hw : w < h.rows.length) (h0 : 0 < σ.length)
    (hQ : ∀ σ' d' s' c' cv fs, Ex σ σ' → Own σ.length σ' g r d' s' c' cv fs (h.step w) → Q (.tup [.inst [.ref g, .ref r, .ref d', .ref s', .ref c'], h.told w]) σ') : cW Φ (n + 5) ix.stepped [.inst [.ref g, .ref r, .ref d, .ref s, .ref c], .int w] σ Q x := by
  refine fn_in F.stepped rfl (?_ : Gs _ (.mk _ _ _ _) _)
  refine w_needWalker F k hw ?_
  refine vj (?_ : Gs _ (.mk _ _ _ _) _)
  have hc := f.lc
  have hd := f.ld
  have hs := f.ls
  refine (?_ : Gs _ (.mk _ _ _ _) _)
  refine w_ahead F k hw f.ld f.ls ?_ (fun e => ?_) fun e => ?_
  · rcases f.wk w hw with h1 | h1
    · exact .inl h1.1
    · exact .inr h1.1
  · refine vj (?_ : Gs _ (.mk _ _ _ _) _)
    refine w_twin F k f.sm (by lia) (by lia) (by lia) fun σ' d' s' c' cv fs e1 o => ?_
    refine vj (?_ : Gs _ (.mk _ _ _ _) _)
    refine k_pos rfl ?_
    refine vj (?_ : Gs _ (.mk _ _ _ _) _)
    have hq := hQ σ' _ _ _ cv fs e1 (by (rewrite [Hl.step]; refine rwE (if_pos e) ?_); exact o)
    rw [Hl.told, if_pos e] at hq
    exact hq
  refine vj (?_ : Gs _ (.mk _ _ _ _) _)
  refine w_twin F k f.sm (by lia) (by lia) (by lia) fun σ1 d' s' c' cv fs e1 o => ?_
  refine vj (?_ : Gs _ (.mk _ _ _ _) _)
  refine k_neg e ?_
  refine vj (?_ : Gs _ (.mk _ _ _ _) _)
  refine w_vain F (k.ex e1) f hw fun σ2 e2 => ?_
  have o2 := o.ex e2
  have e12 := e1.trans e2
  obtain ⟨at1, at2⟩ := f.at_ hw e
  have so := f.st hw e
  have ck := f.cell _ at1
  unfold StOk at so
  refine vj (?_ : Gs _ (.mk _ _ _ _) _)
  cases hv : h.vain w with
  | true =>
    refine k_yes ?_
    refine vj (?_ : Gs _ (.mk _ _ _ _) _)
    have hq := hQ σ2 _ _ _ cv fs e12 (by (rewrite [Hl.step]; refine rwE (if_neg e) ?_; refine rwE (if_pos hv) ?_); exact o2)
    rw [Hl.told, if_neg e, if_pos hv] at hq
    exact hq
  | false =>
    have hv' : ¬ h.vain w = true := by refine rwE hv ?_; decide
    simp only [Hl.told, if_neg e, if_neg hv'] at hQ
    refine (?_ : Gs _ (.mk _ _ _ _) _)
    refine k_no ?_
    refine vj (?_ : Gs _ (.mk _ _ _ _) _)
    refine k_dec (fun z => ?_) fun z => ?_
    · refine vj (?_ : Gs _ (.mk _ _ _ _) _)
      refine w_through F h0 e12 o2 hw f.ld fun σ3 e3 o3 => ?_
      refine vj (?_ : Gs _ (.mk _ _ _ _) _)
      have ge := o3.ge s' (by simp)
      refine (?_ : Gs _ (.mk _ _ _ _) _)
      refine s_puK (by exact Nat.ne_of_gt (Nat.lt_of_lt_of_le (by assumption) (by assumption))) o3.stages (by lia) (by simp; lia) ?_
      refine vj (?_ : Gs _ (.mk _ _ _ _) _)
      refine hQ _ _ _ _ cv fs (e3.set ge) ?_
      (rewrite [Hl.step]; refine rwE (if_neg e) ?_; refine rwE (if_neg hv') ?_; refine rwE (if_pos z) ?_)
      exact o3.setStage
    · obtain ⟨gv, ga, g1, _, g2, g3⟩ := (k.ex e12).gate at1
      refine vj (?_ : Gs _ (.mk _ _ _ _) _)
      refine x_item g1 g2 ?_
      refine vj (?_ : Gs _ (.mk _ _ _ _) _)
      have fin : ∀ σ3, Ex σ σ3 → Own σ.length σ3 g r d' s' c' cv fs { h with cells := h.cells.set (h.at_ w) (h.cstep w).1 } →
          Gs (.fn Φ (n + 4) x Q) (norm 400 [.sts [.put (.attr (.var 4) 3) (.var 1) (.var 5), .ret (.tup [(.var 4), (.tup [(.var 1), (.var 2), (.var 3)])])]] [] [some (.inst [.ref g, .ref r, .ref d, .ref s, .ref c]), some (.int w), some (.int (h.at_ w)), some (.str (h.stg w).1), some (.inst [.ref g, .ref r, .ref d', .ref s', .ref c']), some (stV (h.cstep w).2), none, none, none]) σ3 := by
        intro σ3 e3 o3
        refine (?_ : Gs _ (.mk _ _ _ _) _)
        have ge := o3.ge s' (by simp)
        refine (?_ : Gs _ (.mk _ _ _ _) _)
        refine s_puK (by exact Nat.ne_of_gt (Nat.lt_of_lt_of_le (by assumption) (by assumption))) o3.stages (by lia) (by simp; lia) ?_
        refine vj (?_ : Gs _ (.mk _ _ _ _) _)
        refine hQ _ _ _ _ cv fs (e3.set ge) ?_
        (rewrite [Hl.step]; refine rwE (if_neg e) ?_; refine rwE (if_neg hv') ?_; refine rwE (if_neg z) ?_)
        exact o3.setStage
      refine (?_ : Gs _ (.mk _ _ _ _) _)
      refine k_dec (fun z2 => ?_) fun z2 => ?_
      · refine vj (?_ : Gs _ (.mk _ _ _ _) _)
        cases hcl : h.cell (h.at_ w) with
        | row b => rw [hcl] at ck; exact absurd ck.1 (by lia)
        | cnt l sd =>
          refine w_counted F h0 e12 o2 f hw at1 hcl (u := (h.stg w).2) fun σ3 e3 o3 => ?_
          have hcs : cellStep (h.gate (h.at_ w)) w (h.passed w (h.at_ w) + 1) ((h.stg w).1, (h.stg w).2) (.cnt l sd) = h.cstep w := by refine rwE (Eq.symm (hcl)) ?_; rfl
          rw [hcs] at o3 ⊢
          refine vj (?_ : Gs _ (.mk _ _ _ _) _)
          exact fin σ3 e3 o3
      · refine vj (?_ : Gs _ (.mk _ _ _ _) _)
        cases hcl : h.cell (h.at_ w) with
        | cnt l sd => rw [hcl] at ck; exact absurd ck z2
        | row b =>
          refine w_rowed F h0 e12 o2 f hw at1 at2 hcl (u := (h.stg w).2) rfl (by lia) fun σ3 e3 o3 => ?_
          have hcs : cellStep (h.gate (h.at_ w)) w (h.passed w (h.at_ w) + 1) ((h.stg w).1, (h.stg w).2) (.row b) = h.cstep w := by refine rwE (Eq.symm (hcl)) ?_; rfl
          rw [hcs] at o3 ⊢
          refine vj (?_ : Gs _ (.mk _ _ _ _) _)
          exact fin σ3 e3 o3
end
end Mini

set_option autoImplicit false
set_option linter.unusedVariables false
namespace Mini
theorem getD_set {α : Type} {l : List α} {i j : Nat} {x d : α} (hi : i < l.length) : (l.set i x).getD j d = if i = j then x else l.getD j d := by
  (refine rwE List.getD_eq_getElem?_getD ?_; refine rwE List.getD_eq_getElem?_getD ?_)
  by_cases h : i = j
  · subst h; (refine rwE (List.getElem?_set_self hi) ?_; refine rwE (if_pos rfl) ?_); rfl
  · (refine rwE (List.getElem?_set_ne h) ?_; (refine rwE (if_neg h) ?_; with_reducible rfl))
theorem cellStep_ok {g : Nat × List Nat} {w t : Nat} {st : Nat × Nat} (hs : StOk g st) (h6 : st.1 ≠ 6) : ∀ {c : Cell}, CellOk g c → CellOk g (cellStep g w t st c).1 ∧ StOk g (cellStep g w t st c).2
  | .cnt l s, h => by
    have h : g.1 = 0 := h
    unfold StOk at *
    unfold cellStep
    dsimp only
    repeat' split
    all_goals exact ⟨h, by simp [h]⟩
  | .row b, ⟨h1, h2, h3⟩ => by
    unfold StOk at hs
    unfold cellStep
    dsimp only
    split
    · refine ⟨⟨h1, h2, h3⟩, ?_⟩
      unfold StOk
      split
      · exact .inr (.inl rfl)
      · exact .inr (.inr (.inr ⟨h1, .inl rfl, by dsimp only; lia⟩))
    split
    · refine ⟨⟨h1, by (rewrite [put2]; refine rwE List.length_set ?_); exact h2, fun y hy => ?_⟩, ?_⟩
      · rw [put2] at hy
        rcases List.mem_or_eq_of_mem_set hy with hy | hy
        · exact h3 y hy
        · subst hy
          refine rwE List.length_set ?_
          by_cases hl : ((g.2.idxOf w + 2 ^ st.2) % g.2.length) < b.length
          · exact h3 _ (List.mem_of_getElem? (get_of_lt hl))
          · rw [List.set_eq_of_length_le (by lia)] at hy
            have hp : 0 < g.2.length := by refine rwE (Eq.symm (h2)) ?_; exact List.length_pos_of_mem hy
            have := Nat.mod_lt (g.2.idxOf w + 2 ^ st.2) hp
            lia
      · exact .inr (.inr (.inr ⟨h1, .inr rfl, by dsimp only; lia⟩))
    · refine ⟨⟨h1, h2, h3⟩, ?_⟩
      unfold StOk
      split
      · exact .inr (.inl rfl)
      · exact .inr (.inr (.inr ⟨h1, .inl rfl, by dsimp only; lia⟩))
theorem Hl.step_gates {h : Hl} {w : Nat} : (h.step w).gates = h.gates := by unfold Hl.step; repeat' split
                                                                            all_goals rfl
theorem Hl.step_rows {h : Hl} {w : Nat} : (h.step w).rows = h.rows := by unfold Hl.step; repeat' split
                                                                         all_goals rfl
theorem WF.step {h : Hl} (f : WF h) {w : Nat} (hw : w < h.rows.length) : WF (h.step w) := by
  have hs := f.ls
  have hd := f.ld
  unfold Hl.step
  split
  · exact f
  rename_i e
  split
  · exact f
  split
  · refine ⟨by simpa using f.ld, by simpa using f.ls, f.lc, f.gm, f.cell, f.rl, f.rg, fun w' hw' => ?_⟩
    have e1 : ∀ t, Hl.stg { h with done := h.done.set w (h.dn w + 1), stages := h.stages.set w t } w' = if w = w' then t else h.stg w' := fun t => getD_set (by lia)
    have e2 : ∀ t, Hl.dn { h with done := h.done.set w (h.dn w + 1), stages := h.stages.set w t } w' = if w = w' then h.dn w + 1 else h.dn w' := fun t => getD_set (by lia)
    have lt := f.lt hw e
    by_cases hww : w = w'
    · subst hww
      simp only [e1, e2, if_true]
      by_cases hl : h.dn w + 1 = (h.row w).length
      · exact .inl ⟨by (refine rwE (if_pos hl) ?_; with_reducible rfl), hl⟩
      · refine .inr ⟨?_, by refine rwE (if_neg hl) ?_; exact .inl rfl⟩
        show h.dn w + 1 < (h.row w).length
        lia
    · have := f.wk w' hw'
      simp only [Hl.at_, e1, e2, if_neg hww]
      exact this
  · rename_i z
    obtain ⟨at1, at2⟩ := f.at_ hw e
    have so := f.st hw e
    obtain ⟨k1, k2⟩ := cellStep_ok (w := w) (t := h.time w) so z (f.cell _ at1)
    refine ⟨f.ld, by simpa using f.ls, by simpa using f.lc, f.gm, fun t ht => ?_, f.rl, f.rg, fun w' hw' => ?_⟩
    · have e1 : Hl.cell { h with cells := h.cells.set (h.at_ w) (h.cstep w).1, stages := h.stages.set w (h.cstep w).2 } t = if h.at_ w = t then (h.cstep w).1 else h.cell t := getD_set (by refine rwE f.lc ?_; exact at1)
      refine rwE e1 ?_
      split
      · rename_i q; subst q; exact k1
      · exact f.cell t ht
    · have e1 : Hl.stg { h with cells := h.cells.set (h.at_ w) (h.cstep w).1, stages := h.stages.set w (h.cstep w).2 } w' = if w = w' then (h.cstep w).2 else h.stg w' := getD_set (by lia)
      refine rwE e1 ?_
      split
      · rename_i q; subst q; exact .inr ⟨f.lt hw e, k2⟩
      · exact f.wk w' hw'
section
variable {Φ : Nat → Option Fn} {n : Nat} {σ σ₀ : H} {Q : P} {x : X}
theorem w_came (F : HF ix Φ) (FC : Φ ix.came = some (gCame ix)) {t w : Nat} {v : V} {h : Hl} (k : Rep σ v h) (f : WF h) (ht : t < h.gates.length) (hw : w < h.rows.length)
    (hQ : ∀ σ', Ex σ σ' → Q (.int ((h.passed w t + if (h.stg w).1 ≠ 2 ∧ (h.stg w).1 ≠ 10 ∧ h.at_ w = t then 1 else 0 : Nat))) σ') : cW Φ (n + 3) ix.came [v, .int w, .int t] σ Q x := by
  obtain ⟨g, r, d, s, c, rfl, k⟩ := k
  refine fn_in FC rfl (?_ : Gs _ (.mk _ _ _ _) _)
  refine w_passed F k hw f.ld (f.rl w hw) ht fun σ' e => ?_
  have k' := k.ex e
  refine vj (?_ : Gs _ (.mk _ _ _ _) _)
  refine x_item k'.stages (stg_get (by refine rwE f.ls ?_; exact hw)) ?_
  refine vj (?_ : Gs _ (.mk _ _ _ _) _)
  refine c_notin2 ?_
  refine vj (?_ : Gs _ (.mk _ _ _ _) _)
  refine k_dec (fun z => ?_) fun z => ?_
  · obtain ⟨rv, a, e1, e2, e3, e4⟩ := k'.row hw
    refine vj (?_ : Gs _ (.mk _ _ _ _) _)
    refine x_item e1 e3 ?_
    refine vj (?_ : Gs _ (.mk _ _ _ _) _)
    refine x_item k'.done (dn_get (by refine rwE f.ld ?_; exact hw)) ?_
    refine vj (?_ : Gs _ (.mk _ _ _ _) _)
    refine x_item e4 (at_get (f.lt hw z.2)) ?_
    refine vj (?_ : Gs _ (.mk _ _ _ _) _)
    refine k_dec (fun z2 => ?_) fun z2 => ?_
    · refine vj (?_ : Gs _ (.mk _ _ _ _) _)
      have hq := hQ σ' e
      rw [if_pos ⟨z.1, z.2, Int.ofNat.inj z2⟩] at hq
      exact hq
    · refine vj (?_ : Gs _ (.mk _ _ _ _) _)
      have hq := hQ σ' e
      rw [if_neg (fun q => z2 (congrArg Int.ofNat q.2.2))] at hq
      exact hq
  · refine vj (?_ : Gs _ (.mk _ _ _ _) _)
    refine k_no ?_
    refine vj (?_ : Gs _ (.mk _ _ _ _) _)
    have hq := hQ σ' e
    rw [if_neg (fun q => z ⟨q.1, q.2.1⟩)] at hq
    exact hq
theorem w_ahead' (F : HF ix Φ) {w : Nat} {v : V} {h : Hl} (k : Rep σ v h) (f : WF h) (hw : w < h.rows.length)
    (h1 : (h.stg w).1 = 10 → Q (.tup [.none, .str 10]) σ) (h2 : (h.stg w).1 ≠ 10 → Q (.tup [.int (h.at_ w), .str (h.stg w).1]) σ) : cW Φ (n + 2) ix.ahead [v, .int w] σ Q x := by
  obtain ⟨g, r, d, s, c, rfl, k⟩ := k
  refine w_ahead F k hw f.ld f.ls ?_ h1 h2
  rcases f.wk w hw with h1 | h1
  · exact .inl h1.1
  · exact .inr h1.1
end
end Mini

set_option autoImplicit false
set_option linter.unusedVariables false
namespace Mini
theorem snap_ints (n : Nat) (σ : H) : ∀ l : List Int, mapO (snap n σ) (l.map V.int) = some (l.map D.int)
  | [] => rfl
  | i :: l => by
    have h : snap n σ (.int i) = some (.int i) := by unfold snap; rfl
    simp only [List.map_cons, mapO, h, snap_ints n σ l]
theorem dint_inj {l l' : List Int} : l.map D.int = l'.map D.int ↔ l = l' := by
  constructor
  · intro h
    exact List.map_inj_right (fun a b z => by cases z; rfl) |>.mp h
  · exact congrArg _
theorem dint_mem {l : List Int} {i : Int} : D.int i ∈ l.map D.int ↔ i ∈ l := by
  rewrite [List.mem_map]
  exact ⟨fun ⟨j, h1, h2⟩ => by cases h2; exact h1, fun h => ⟨i, h, rfl⟩⟩
theorem of_mem {l : List Nat} {m : Nat} : (m : Int) ∈ l.map Int.ofNat ↔ m ∈ l := by
  rewrite [List.mem_map]
  exact ⟨fun ⟨j, h1, h2⟩ => by cases h2; exact h1, fun h => ⟨m, h, rfl⟩⟩
section
variable {σ : H} {Q : P} {x : X}
theorem c_in {m b : Nat} {l : List Nat} (hx : σ[b]? = some (l.map nv)) (h : Q (.bool (decide (m ∈ l))) σ) : Stq (cmpop .inn (.int m) (.ref b) σ Q) := Stq.mk <| ⟨.int m, l.map nv, _, rfl, hx, (by rewrite [nv_int]; exact snap_ints 11 σ _), fun q hq => by
  have : q = decide (m ∈ l) := by (rewrite [Bool.eq_iff_iff]; rewrite [hq]; rewrite [dint_mem]; rewrite [of_mem]); simp
  refine rwE this ?_; exact h⟩
theorem c_notIn {m b : Nat} {l : List Nat} (hx : σ[b]? = some (l.map nv)) (h : Q (.bool (decide (m ∉ l))) σ) : Stq (cmpop .notIn (.int m) (.ref b) σ Q) := Stq.mk <| ⟨.int m, l.map nv, _, rfl, hx, (by rewrite [nv_int]; exact snap_ints 11 σ _), fun q hq => by
  have : q = decide (m ∉ l) := by (rewrite [Bool.eq_iff_iff]; rewrite [hq]; rewrite [dint_mem]; rewrite [of_mem]); simp
  refine rwE this ?_; exact h⟩
theorem snap_list {a : Nat} {l : List Int} (hx : σ[a]? = some (l.map V.int)) : snap 12 σ (.ref a) = some (.list (l.map D.int)) := by
  show (match σ[a]? with | some xs => (mapO (snap 11 σ) xs).map D.list | .none => .none) = _
  refine rwE hx ?_
  show (mapO (snap 11 σ) (l.map V.int)).map D.list = _
  rewrite [snap_ints]; rfl
theorem c_eqL {a b : Nat} {l l' : List Int} (hx : σ[a]? = some (l.map V.int)) (hy : σ[b]? = some (l'.map V.int)) (h : Q (.bool (decide (l = l'))) σ) : Stq (cmpop .eq (.ref a) (.ref b) σ Q) := Stq.mk <| ⟨_, _, snap_list hx, snap_list hy, fun q hq => by
  have : q = decide (l = l') := by
    (rewrite [Bool.eq_iff_iff]; rewrite [hq]); simp only [D.list.injEq, dint_inj, decide_eq_true_eq]
  refine rwE this ?_; exact h⟩
theorem c_neL {a b : Nat} {l l' : List Int} (hx : σ[a]? = some (l.map V.int)) (hy : σ[b]? = some (l'.map V.int)) (h : Q (.bool (decide (l ≠ l'))) σ) : Stq (cmpop .ne (.ref a) (.ref b) σ Q) := Stq.mk <| ⟨_, _, snap_list hx, snap_list hy, fun q hq => by
  have : q = decide (l ≠ l') := by
    (rewrite [Bool.eq_iff_iff]; rewrite [hq]); simp only [D.list.injEq, dint_inj, decide_eq_true_eq, ne_eq]
  refine rwE this ?_; exact h⟩
theorem b_rep {a k : Nat} {i : Int} (hx : σ[a]? = some [.int i]) (hk : k ≤ 100) (h : Q (.ref σ.length) (σ ++ [(List.replicate k i).map V.int])) : Stq (binop .mul (.ref a) (.int k) σ Q) := by
  refine ⟨?_⟩
  have e : (List.replicate k [V.int i]).flatten = (List.replicate k i).map V.int := by
    induction k with
    | zero => rfl
    | succ k ih => simp [List.replicate_succ]
  refine ⟨rfl, _, hx, by lia, by lia, ?_, ?_⟩
  · (rewrite [Int.toNat_natCast]; refine rwE e ?_); simp [lim]; exact Nat.le_trans (by assumption) (by decide)
  · (rewrite [Int.toNat_natCast]; refine rwE e ?_); exact h
end
theorem enum_get : ∀ {xs : List V} {k i : Nat} {v : V}, (enumV k xs)[i]? = some v → ∃ u, xs[i]? = some u ∧ v = .tup [.int (k + i : Nat), u]
  | [], k, i, v, h => by simp [enumV] at h
  | y :: ys, k, 0, v, h => by simp [enumV] at h; exact ⟨y, rfl, h.symm⟩
  | y :: ys, k, i + 1, v, h => by
    simp only [enumV, List.getElem?_cons_succ] at h
    obtain ⟨u, h1, h2⟩ := enum_get h
    exact ⟨u, by simpa using h1, by refine rwE h2 ?_; congr 4; lia⟩
noncomputable def initCell (g : Nat × List Nat) : Cell := if g.1 = 0 then .cnt g.2.length 0 else .row (List.replicate g.2.length (List.replicate (2 * rnd g.2.length) 0))
noncomputable def initSt (row : List Nat) : Nat × Nat := if row = [] then (10, 0) else (2, 0)
noncomputable def Hl.init (gates : List (Nat × List Nat)) (rows : List (List Nat)) : Hl := ⟨gates, rows, List.replicate rows.length 0, rows.map initSt, gates.map initCell⟩
structure GateOk (k : Nat) (g : Nat × List Nat) : Prop where
  word : g.1 = 0 ∨ g.1 = 1
  some : g.2 ≠ []
  nodup : g.2.Nodup
  lt : ∀ m ∈ g.2, m < k
structure RowOk (gates : List (Nat × List Nat)) (w : Nat) (row : List Nat) : Prop where
  len : row.length ≤ 40
  lt : ∀ g ∈ row, g < gates.length ∧ w ∈ (gates.getD g (0, [])).2
structure HallOk (gates : List (Nat × List Nat)) (rows : List (List Nat)) : Prop where
  r1 : 1 ≤ rows.length
  r2 : rows.length ≤ 12
  g1 : 1 ≤ gates.length
  g2 : gates.length ≤ 12
  gate : ∀ g ∈ gates, GateOk rows.length g
  row : ∀ w row, rows[w]? = some row → RowOk gates w row
theorem pigeon : ∀ (k : Nat) (l : List Nat), l.Nodup → (∀ m ∈ l, m < k) → l.length ≤ k
  | 0, [], _, _ => Nat.le_refl _
  | 0, a :: l, _, h => absurd (h a (by simp)) (Nat.not_lt_zero _)
  | k + 1, l, hn, h => by
    have := pigeon k (l.erase k) (hn.erase k) (fun m hm => by
      rw [hn.mem_erase_iff] at hm
      have := h m hm.2; lia)
    rw [List.length_erase] at this
    split at this <;> (first | lia | exact Nat.le_succ_of_le (by assumption))
theorem GateOk.len {k : Nat} {g : Nat × List Nat} (h : GateOk k g) : g.2.length ≤ k := pigeon k _ h.nodup h.lt
theorem HallOk.wf {gates : List (Nat × List Nat)} {rows : List (List Nat)} (h : HallOk gates rows) : WF (Hl.init gates rows) := by
  have gk : ∀ g, g < gates.length → GateOk rows.length ((Hl.init gates rows).gate g) := fun g hg => h.gate _ (List.mem_of_getElem? (get_of_lt hg))
  refine ⟨by simp [Hl.init], by simp [Hl.init], by simp [Hl.init], fun g hg => Nat.le_trans (gk g hg).len h.r2, fun g (hg : g < gates.length) => ?_, fun w hw => (h.row w _ (get_of_lt hw)).len, fun w hw g hg => (h.row w _ (get_of_lt hw)).lt g hg, fun w hw => ?_⟩
  · have e : (Hl.init gates rows).cell g = initCell ((Hl.init gates rows).gate g) := getD_of (by
      show (gates.map initCell)[g]? = _
      (refine rwE List.getElem?_map ?_; refine rwE (get_of_lt (d := (0, [])) hg) ?_); rfl)
    refine rwE e ?_
    unfold initCell
    rcases (gk g hg).word with z | z
    · refine rwE (if_pos z) ?_; exact z
    · refine rwE (if_neg (by lia)) ?_
      exact ⟨z, by simp, fun y hy => by refine rwE (List.eq_of_mem_replicate hy) ?_; simp⟩
  · have hw : w < rows.length := hw
    have e : (Hl.init gates rows).stg w = initSt ((Hl.init gates rows).row w) := getD_of (by
      show (rows.map initSt)[w]? = _
      (refine rwE List.getElem?_map ?_; refine rwE (get_of_lt (d := []) hw) ?_); rfl)
    have e2 : (Hl.init gates rows).dn w = 0 := getD_of (by
      show (List.replicate rows.length 0)[w]? = _
      simp [hw])
    (refine rwE e ?_; refine rwE e2 ?_)
    unfold initSt
    split
    · rename_i z; exact .inl ⟨rfl, by refine rwE z ?_; rfl⟩
    · rename_i z; exact .inr ⟨List.length_pos_iff.mpr z, .inl rfl⟩
end Mini

set_option autoImplicit false
set_option linter.unusedVariables false
namespace Mini
section
variable {Φ : Nat → Option Fn} {n : Nat} {σ σ₀ : H} {Q : P} {x : X}
theorem w_checkGate (F : HF ix Φ) {g : Nat × List Nat} {a k : Nat} (ha : σ[a]? = some (g.2.map nv)) (ok : GateOk k g) (hk : k ≤ 12) (hQ : ∀ σ', Ex σ σ' → Q .none σ') : cW Φ (n + 1) ix.checkGate [.tup [.str g.1, .ref a], .int k] σ Q x := by
  refine fn_in F.checkGate rfl (?_ : Gs _ (.mk _ _ _ _) _)
  have hl := ok.len
  have hp := List.length_pos_iff.mpr ok.some
  have hw := ok.word
  refine (?_ : Gs _ (.mk _ _ _ _) _)
  refine c_notin2 ?_
  refine vj (?_ : Gs _ (.mk _ _ _ _) _)
  refine k_neg (by lia) ?_
  refine vj (?_ : Gs _ (.mk _ _ _ _) _)
  refine b_lenE ha (by (rewrite [List.length_map]; with_reducible rfl)) ?_
  refine vj (?_ : Gs _ (.mk _ _ _ _) _)
  refine k_neg (by lia) ?_
  refine vj (?_ : Gs _ (.mk _ _ _ _) _)
  refine r_enK ha ?_
  refine forL_rule (fun i m σ' => Mini.Cj2 (Ex σ σ') (Mini.Ek2 fun s4 s5 => m = [some (.tup [.str g.1, .ref a]), some (.int k), some (.str g.1), some (.ref a), s4, s5, none, none, none])) ⟨Ex.refl, _, _, rfl⟩ ?_ ?_
  · rintro i v m σ' K hv ⟨e, s4, s5, rfl⟩ hK
    refine ⟨e.get ha, ?_⟩
    obtain ⟨u, h1, rfl⟩ := enum_get hv
    obtain ⟨t, h2, rfl⟩ := nv_get h1
    rewrite [Nat.zero_add]
    refine ⟨_, rfl, ?_⟩
    have := ok.lt t (List.mem_of_getElem? h2)
    refine vjB (?_ : Gs _ (.mk _ _ _ _) _)
    refine k_pos (by lia) ?_
    refine vj (?_ : Gs _ (.mk _ _ _ _) _)
    refine k_npos (by lia) ?_
    refine vj (?_ : Gs _ (.mk _ _ _ _) _)
    refine b_upto (e.get ha) (ml (by lia)) ?_
    refine vj (?_ : Gs _ (.mk _ _ _ _) _)
    refine c_in (l := g.2.take i) (by refine rwE List.map_take ?_; exact last_get) ?_
    refine vj (?_ : Gs _ (.mk _ _ _ _) _)
    refine k_neg (fun z => ?_) ?_
    · have hi := lt_of_get h2
      have e1 : g.2[i] = t := (List.getElem?_eq_some_iff.mp h2).2
      have := ok.nodup
      rw [← List.take_append_drop i g.2, List.nodup_append] at this
      exact absurd rfl (this.2.2 t z t (by (refine rwE (List.drop_eq_getElem_cons hi) ?_; refine rwE e1 ?_); simp))
    · refine vj (?_ : Gs _ (.mk _ _ _ _) _)
      exact hK _ _ ⟨e.trans Ex.one, _, _, rfl⟩
  · rintro m σ' ⟨e, s4, s5, rfl⟩
    refine ⟨e.get ha, ?_⟩
    refine vj (?_ : Gs _ (.mk _ _ _ _) _)
    exact hQ _ e
theorem w_checkRow (F : HF ix Φ) {gates : List (Nat × List Nat)} {gv : List V} {row : List Nat} {w a b N : Nat} (ha : σ[a]? = some (row.map nv)) (hb : σ[b]? = some gv) (hg : A2 (GateR N σ) gv gates) (ok : RowOk gates w row) (hQ : Q .none σ) : cW Φ (n + 1) ix.checkRow [.int w, .ref a, .ref b] σ Q x := by
  refine fn_in F.checkRow rfl (?_ : Gs _ (.mk _ _ _ _) _)
  have hl := ok.len
  refine (?_ : Gs _ (.mk _ _ _ _) _)
  refine b_lenE ha (by (rewrite [List.length_map]; with_reducible rfl)) ?_
  refine vj (?_ : Gs _ (.mk _ _ _ _) _)
  refine k_neg (by lia) ?_
  refine vj (?_ : Gs _ (.mk _ _ _ _) _)
  refine r_lsK ha ?_
  refine forL_rule (fun i m σ' => Mini.Cj2 (σ' = σ) (∃ s3, m = [some (.int w), some (.ref a), some (.ref b), s3, none, none, none])) ⟨rfl, _, rfl⟩ ?_ ?_
  · rintro i v m _ K hv ⟨rfl, s3, rfl⟩ hK
    refine ⟨ha, ?_⟩
    obtain ⟨t, h2, rfl⟩ := nv_get hv
    refine ⟨_, rfl, ?_⟩
    obtain ⟨q1, q2⟩ := ok.lt t (List.mem_of_getElem? h2)
    refine vjB (?_ : Gs _ (.mk _ _ _ _) _)
    refine k_pos (by lia) ?_
    refine vj (?_ : Gs _ (.mk _ _ _ _) _)
    refine b_lenE hb (by (refine rwE hg.len ?_; with_reducible rfl)) ?_
    refine vj (?_ : Gs _ (.mk _ _ _ _) _)
    refine k_npos (by lia) ?_
    refine vj (?_ : Gs _ (.mk _ _ _ _) _)
    obtain ⟨y, y1, ga, rfl, _, y2⟩ := hg.right (get_of_lt (d := (0, [])) q1)
    refine x_item hb y1 ?_
    refine vj (?_ : Gs _ (.mk _ _ _ _) _)
    refine c_notIn y2 ?_
    refine vj (?_ : Gs _ (.mk _ _ _ _) _)
    refine k_neg (fun z => z q2) ?_
    refine vj (?_ : Gs _ (.mk _ _ _ _) _)
    exact hK _ _ ⟨rfl, _, rfl⟩
  · rintro m _ ⟨rfl, s3, rfl⟩
    refine ⟨ha, ?_⟩
    refine vj (?_ : Gs _ (.mk _ _ _ _) _)
    exact hQ
theorem w_firstWord (F : HF ix Φ) {row : List Nat} {a : Nat} (ha : σ[a]? = some (row.map nv)) (hQ : ∀ σ', Ex σ σ' → Q (stV (initSt row)) σ') : cW Φ (n + 1) ix.firstWord [.ref a] σ Q x := by
  refine fn_in F.firstWord rfl (?_ : Gs _ (.mk _ _ _ _) _)
  refine a_disp rfl ?_
  refine vj (?_ : Gs _ (.mk _ _ _ _) _)
  refine c_eqL (l := row.map Int.ofNat) (l' := []) (by rewrite [← nv_int]; exact Ex.one.get ha) last_get ?_
  refine vj (?_ : Gs _ (.mk _ _ _ _) _)
  have hq := hQ _ (Ex.one (σ := σ) (xs := []))
  unfold initSt at hq
  refine (?_ : Gs _ (.mk _ _ _ _) _)
  refine k_dec (fun z => ?_) fun z => ?_
  · refine vj (?_ : Gs _ (.mk _ _ _ _) _)
    rw [if_pos (List.map_eq_nil_iff.mp z)] at hq
    exact hq
  · refine vj (?_ : Gs _ (.mk _ _ _ _) _)
    rw [if_neg (fun q => z (List.map_eq_nil_iff.mpr q))] at hq
    exact hq
theorem w_fresh (F : HF ix Φ) {g : Nat × List Nat} {a k : Nat} (ha : σ[a]? = some (g.2.map nv)) (ok : GateOk k g) (hk : k ≤ 12) (hQ : ∀ σ' v f, Ex σ σ' → CellR σ' v (initCell g) f → (∀ a ∈ f, σ.length ≤ a) → Q v σ') : cW Φ (n + 3) ix.fresh [.tup [.str g.1, .ref a]] σ Q x := by
  refine fn_in F.fresh rfl (?_ : Gs _ (.mk _ _ _ _) _)
  have hl := ok.len
  have r4 := rnd_le g.2.length
  refine (?_ : Gs _ (.mk _ _ _ _) _)
  refine b_lenE ha (by (rewrite [List.length_map]; with_reducible rfl)) ?_
  refine vj (?_ : Gs _ (.mk _ _ _ _) _)
  unfold initCell at hQ
  refine k_dec (fun z => ?_) fun z => ?_
  · rw [if_pos z] at hQ
    refine vj (?_ : Gs _ (.mk _ _ _ _) _)
    refine a_disp rfl ?_
    refine vj (?_ : Gs _ (.mk _ _ _ _) _)
    exact hQ _ _ _ Ex.one ⟨_, rfl, rfl, last_get⟩ fun a ha => by refine rwE (List.mem_singleton.mp ha) ?_; exact Nat.le_refl _
  · rw [if_neg z] at hQ
    refine vj (?_ : Gs _ (.mk _ _ _ _) _)
    refine r_lsK ha ?_
    refine comp_rule (fun i acc σ' => Mini.Cj2 (Ex σ σ') (Mini.Ek1 fun (as : List Nat) => Mini.Cj3 (acc = as.map V.ref) ((∀ a ∈ as, σ.length ≤ a)) (A2 (BoxR σ') as (List.replicate i (List.replicate (2 * rnd g.2.length) (0 : Int)))))) (by simp [lim]; lia) ⟨Ex.refl, [], rfl, nofun, A2.nil⟩ ?_ ?_
    · rintro i v acc σ' K hv hl ⟨e, as, rfl, fr, q1⟩ hK
      refine ⟨e.get ha, ?_⟩
      refine vjE (?_ : Gs _ (.mk _ _ _ _) _)
      refine a_disp rfl ?_
      refine vj (?_ : Gs _ (.mk _ _ _ _) _)
      refine w_rounds F (by lia) ?_
      refine vj (?_ : Gs _ (.mk _ _ _ _) _)
      refine b_mul (by lia) ?_
      refine vj (?_ : Gs _ (.mk _ _ _ _) _)
      refine b_rep (k := 2 * rnd g.2.length) (i := 0) last_get (by lia) ?_
      refine vj (?_ : Gs _ (.mk _ _ _ _) _)
      refine hK _ _ ⟨e.trans (Ex.one.trans Ex.one), as ++ [_], by refine rwE List.map_append ?_; rfl, fun b hb => (List.mem_append.mp hb).elim (fr b) fun z => by refine rwE (List.mem_singleton.mp z) ?_; exact (e.trans Ex.one).len, ?_⟩
      refine rwE List.replicate_succ' ?_
      exact (q1.mono fun _ _ k => (Ex.one.trans Ex.one).get k).snoc last_get
    · rintro acc σ' _ ⟨e, as, rfl, fr, q1⟩
      rw [List.length_map] at q1
      exact ⟨e.get ha, hQ _ _ _ (e.trans Ex.one) ⟨_, as, rfl, rfl, last_get, q1.mono fun _ _ k => Ex.one.get k⟩ fun b hb => (List.mem_cons.mp hb).elim (fun z => by refine rwE z ?_; exact e.len) (fr b)⟩
end
end Mini

set_option autoImplicit false
set_option linter.unusedVariables false
namespace Mini
noncomputable def GateB (B : Nat → Prop) (σ : H) (v : V) (g : Nat × List Nat) : Prop := ∃ a, v = .tup [.str g.1, .ref a] ∧ ¬ B a ∧ σ[a]? = some (g.2.map nv)
noncomputable def RowB (B : Nat → Prop) (σ : H) (v : V) (l : List Nat) : Prop := ∃ a, v = .ref a ∧ ¬ B a ∧ σ[a]? = some (l.map nv)
/-- a hall none of whose places is one of B -/
structure RepB (B : Nat → Prop) (σ : H) (g r d s c : Nat) (h : Hl) : Prop where
  ng : ¬ B g
  nr : ¬ B r
  nd : ¬ B d
  ns : ¬ B s
  nc : ¬ B c
  gates : ∃ gv, σ[g]? = some gv ∧ A2 (GateB B σ) gv h.gates
  rows : ∃ rv, σ[r]? = some rv ∧ A2 (RowB B σ) rv h.rows
  done : σ[d]? = some (h.done.map nv)
  stages : σ[s]? = some (h.stages.map stV)
  cells : ∃ cv fs, σ[c]? = some cv ∧ CellsR σ cv h.cells fs ∧ ∀ a ∈ fs.flatten, ¬ B a
theorem GateB.toR {B : Nat → Prop} {σ : H} {v : V} {y : Nat × List Nat} (h : GateB B σ v y) : GateR σ.length σ v y := let ⟨a, e1, e2, e3⟩ := h; ⟨a, e1, lt_of_get e3, e3⟩
theorem RowB.toR {B : Nat → Prop} {σ : H} {v : V} {y : List Nat} (h : RowB B σ v y) : RowR σ.length σ v y := let ⟨a, e1, e2, e3⟩ := h; ⟨a, e1, lt_of_get e3, e3⟩
theorem GateB.ex {B : Nat → Prop} {σ σ' : H} {v : V} {y : Nat × List Nat} (h : GateB B σ v y) (e : Ex σ σ') : GateB B σ' v y := let ⟨a, e1, e2, e3⟩ := h; ⟨a, e1, e2, e.get e3⟩
theorem RowB.ex {B : Nat → Prop} {σ σ' : H} {v : V} {y : List Nat} (h : RowB B σ v y) (e : Ex σ σ') : RowB B σ' v y := let ⟨a, e1, e2, e3⟩ := h; ⟨a, e1, e2, e.get e3⟩
section
variable {Φ : Nat → Option Fn} {n : Nat} {σ σ₀ : H} {Q : P} {x : X}
theorem take_snoc {α : Type} {l : List α} {i : Nat} {y : α} (h : l[i]? = some y) : l.take (i + 1) = l.take i ++ [y] := by (refine rwE List.take_add_one ?_; refine rwE h ?_); rfl
theorem w_begun (F : HF ix Φ) {gates : List (Nat × List Nat)} {rows : List (List Nat)} {ga ra : Nat} {gv rv : List V} (hga : σ[ga]? = some gv) (hgv : A2 (GateR σ.length σ) gv gates) (hra : σ[ra]? = some rv) (hrv : A2 (RowR σ.length σ) rv rows) (ok : HallOk gates rows)
    (hQ : ∀ σ' g r d s c, Ex σ σ' → RepB (· < σ.length) σ' g r d s c (Hl.init gates rows) → Q (.inst [.ref g, .ref r, .ref d, .ref s, .ref c]) σ') : cW Φ (n + 4) ix.begun [.ref ga, .ref ra] σ Q x := by
  refine fn_in F.begun rfl (?_ : Gs _ (.mk _ _ _ _) _)
  have g1 := ok.g1
  have g2 := ok.g2
  have r1 := ok.r1
  have r2 := ok.r2
  have gl := hgv.len
  have rl := hrv.len
  refine (?_ : Gs _ (.mk _ _ _ _) _)
  refine b_lenE hra (by (refine rwE hrv.len ?_; with_reducible rfl)) ?_
  refine vj (?_ : Gs _ (.mk _ _ _ _) _)
  refine k_pos (by lia) ?_
  refine vj (?_ : Gs _ (.mk _ _ _ _) _)
  refine k_npos (by lia) ?_
  refine vj (?_ : Gs _ (.mk _ _ _ _) _)
  refine b_lenE hga (by (refine rwE hgv.len ?_; with_reducible rfl)) ?_
  refine vj (?_ : Gs _ (.mk _ _ _ _) _)
  refine k_pos (by lia) ?_
  refine vj (?_ : Gs _ (.mk _ _ _ _) _)
  refine k_npos (by lia) ?_
  refine vj (?_ : Gs _ (.mk _ _ _ _) _)
  refine r_lsK hga ?_
  refine forL_rule (fun i m σ' => Mini.Cj2 (Ex σ σ') (∃ s2, m = [some (.ref ga), some (.ref ra), s2, none, none, none, none, none, none, none])) ⟨Ex.refl, _, rfl⟩ ?_ ?_
  · rintro i v m σ' K hv ⟨e, s2, rfl⟩ hK
    refine ⟨e.get hga, _, rfl, ?_⟩
    obtain ⟨y, h1, a, rfl, _, h2⟩ := hgv.left hv
    refine vjB (?_ : Gs _ (.mk _ _ _ _) _)
    refine b_lenE (e.get hra) (by (refine rwE hrv.len ?_; with_reducible rfl)) ?_
    refine vj (?_ : Gs _ (.mk _ _ _ _) _)
    refine w_checkGate F (e.get h2) (ok.gate _ (List.mem_of_getElem? h1)) r2 fun σ2 e2 => ?_
    refine vj (?_ : Gs _ (.mk _ _ _ _) _)
    exact hK _ _ ⟨e.trans e2, _, rfl⟩
  rintro m σ1 ⟨e1, s2, rfl⟩
  refine ⟨e1.get hga, ?_⟩
  have hga1 := e1.get hga
  have hra1 := e1.get hra
  refine vj (?_ : Gs _ (.mk _ _ _ _) _)
  refine r_enK hra1 ?_
  refine forL_rule (fun i m σ' => Mini.Cj2 (σ' = σ1) (Mini.Ek2 fun s3 s4 => m = [some (.ref ga), some (.ref ra), s2, s3, s4, none, none, none, none, none])) ⟨rfl, _, _, rfl⟩ ?_ ?_
  · rintro i v m _ K hv ⟨rfl, s3, s4, rfl⟩ hK
    refine ⟨hra1, ?_⟩
    obtain ⟨u, h1, rfl⟩ := enum_get hv
    obtain ⟨y, h2, a, rfl, _, h3⟩ := hrv.left h1
    rewrite [Nat.zero_add]
    refine ⟨_, rfl, ?_⟩
    refine vjB (?_ : Gs _ (.mk _ _ _ _) _)
    refine w_checkRow F (e1.get h3) hga1 (hgv.mono fun _ _ q => q.ex e1 (Nat.le_refl _)) (ok.row i y h2) ?_
    refine vj (?_ : Gs _ (.mk _ _ _ _) _)
    exact hK _ _ ⟨rfl, _, _, rfl⟩
  rintro m σx ⟨hσ, s3, s4, rfl⟩
  refine rwE hσ ?_
  clear hσ
  refine ⟨hra1, ?_⟩
  refine vj (?_ : Gs _ (.mk _ _ _ _) _)
  refine r_lsK hga1 ?_
  refine comp_rule (fun i acc σ' => Mini.Cj2 (Ex σ1 σ') (A2 (GateB (· < σ.length) σ') acc (gates.take i))) (by simp only [lim]; lia) ⟨Ex.refl, A2.nil⟩ ?_ ?_
  · rintro i v acc σ' K hv hl ⟨e, q⟩ hK
    refine ⟨e.get hga1, ?_⟩
    obtain ⟨y, h1, a, rfl, _, h2⟩ := hgv.left hv
    have hyl := (ok.gate _ (List.mem_of_getElem? h1)).len
    refine vjE (?_ : Gs _ (.mk _ _ _ _) _)
    refine b_list ((e1.trans e).get h2) (ml (by lia)) ?_
    refine vj (?_ : Gs _ (.mk _ _ _ _) _)
    refine hK _ _ ⟨e.trans Ex.one, ?_⟩
    refine rwE (take_snoc h1) ?_
    exact (q.mono fun _ _ k => k.ex Ex.one).snoc ⟨_, rfl, Nat.not_lt.mpr (e1.trans e).len, last_get⟩
  rintro acc σ2 _ ⟨e2, q2⟩
  refine ⟨e2.get hga1, ?_⟩
  rw [gl, List.take_length] at q2
  have e12 : Ex σ (σ2 ++ [acc]) := (e1.trans e2).trans Ex.one
  have hra2 := e12.get hra
  refine vj (?_ : Gs _ (.mk _ _ _ _) _)
  refine r_lsK hra2 ?_
  refine comp_rule (fun i acc' σ' => Mini.Cj2 (Ex (σ2 ++ [acc]) σ') (A2 (RowB (· < σ.length) σ') acc' (rows.take i))) (by simp only [lim]; lia) ⟨Ex.refl, A2.nil⟩ ?_ ?_
  · rintro i v acc' σ' K hv hl ⟨e, q⟩ hK
    refine ⟨e.get hra2, ?_⟩
    obtain ⟨y, h1, a, rfl, _, h2⟩ := hrv.left hv
    have hyl := (ok.row _ _ h1).len
    refine vjE (?_ : Gs _ (.mk _ _ _ _) _)
    refine b_list ((e12.trans e).get h2) (ml (by exact Nat.le_trans (by assumption) (by decide))) ?_
    refine vj (?_ : Gs _ (.mk _ _ _ _) _)
    refine hK _ _ ⟨e.trans Ex.one, ?_⟩
    refine rwE (take_snoc h1) ?_
    exact (q.mono fun _ _ k => k.ex Ex.one).snoc ⟨_, rfl, Nat.not_lt.mpr (e12.trans e).len, last_get⟩
  rintro acc' σ3 _ ⟨e3, q3⟩
  refine ⟨e3.get hra2, ?_⟩
  rw [rl, List.take_length] at q3
  have l3 : acc'.length = rows.length := q3.len
  have b3 : (σ3 ++ [acc'])[σ3.length]? = some acc' := last_get
  have a3 : (σ3 ++ [acc'])[σ2.length]? = some acc := Ex.one.get (e3.get last_get)
  have q2' : A2 (GateB (· < σ.length) (σ3 ++ [acc'])) acc gates := q2.mono fun _ _ k => k.ex (Ex.one.trans (e3.trans Ex.one))
  have q3' : A2 (RowB (· < σ.length) (σ3 ++ [acc'])) acc' rows := q3.mono fun _ _ k => k.ex Ex.one
  have e13 : Ex σ (σ3 ++ [acc']) := e12.trans (e3.trans Ex.one)
  have nk : ¬ σ2.length < σ.length := Nat.not_lt.mpr (e1.trans e2).len
  have nw : ¬ σ3.length < σ.length := Nat.not_lt.mpr (e12.trans e3).len
  generalize σ2.length = kk at *
  generalize σ3.length = ww at *
  generalize σ3 ++ [acc'] = σ4 at *
  refine vj (?_ : Gs _ (.mk _ _ _ _) _)
  refine a_disp rfl ?_
  refine vj (?_ : Gs _ (.mk _ _ _ _) _)
  refine b_lenE (Ex.one.get b3) (by (refine rwE l3 ?_; with_reducible rfl)) ?_
  refine vj (?_ : Gs _ (.mk _ _ _ _) _)
  refine b_rep (i := 0) last_get (by exact Nat.le_trans (by assumption) (by decide)) ?_
  have e5 : Ex σ4 (σ4 ++ [[V.int 0]] ++ [(List.replicate rows.length 0).map V.int]) := Ex.one.trans Ex.one
  have d5 : (σ4 ++ [[V.int 0]] ++ [(List.replicate rows.length (0 : Int)).map V.int])[(σ4 ++ [[V.int 0]]).length]? = some ((List.replicate rows.length 0).map V.int) := last_get
  have nd : ¬ (σ4 ++ [[V.int 0]]).length < σ.length := Nat.not_lt.mpr (e13.trans Ex.one).len
  generalize (σ4 ++ [[V.int 0]]).length = dd at *
  generalize σ4 ++ [[V.int 0]] ++ [(List.replicate rows.length (0 : Int)).map V.int] = σ5 at *
  refine vj (?_ : Gs _ (.mk _ _ _ _) _)
  refine r_lsK (e5.get b3) ?_
  refine comp_rule (fun i ac σ' => Mini.Cj2 (Ex σ5 σ') (ac = (rows.map fun r => stV (initSt r)).take i)) (by simp only [lim]; lia) ⟨Ex.refl, rfl⟩ ?_ ?_
  · rintro i v ac σ' K hv hl ⟨e, rfl⟩ hK
    refine ⟨e.get (e5.get b3), ?_⟩
    obtain ⟨y, h1, a, rfl, _, h2⟩ := q3'.left hv
    refine vjE (?_ : Gs _ (.mk _ _ _ _) _)
    refine w_firstWord F (e.get (e5.get h2)) fun σ'' e'' => ?_
    refine vj (?_ : Gs _ (.mk _ _ _ _) _)
    exact hK _ _ ⟨e.trans e'', by (refine rwE (Eq.symm (take_snoc (by (refine rwE List.getElem?_map ?_; refine rwE h1 ?_); rfl))) ?_; with_reducible rfl)⟩
  rintro ac σ6 _ ⟨e6, rfl⟩
  refine ⟨e6.get (e5.get b3), ?_⟩
  (refine rwE l3 ?_; refine rwE (show rows.length = (rows.map fun r => stV (initSt r)).length by simp) ?_; refine rwE List.take_length ?_)
  have e6' : Ex σ5 (σ6 ++ [rows.map fun r => stV (initSt r)]) := e6.trans Ex.one
  have s6 : (σ6 ++ [rows.map fun r => stV (initSt r)])[σ6.length]? = some (rows.map fun r => stV (initSt r)) := last_get
  have nsk : ¬ σ6.length < σ.length := Nat.not_lt.mpr ((e13.trans e5).trans e6).len
  generalize σ6.length = sk at *
  generalize σ6 ++ [rows.map fun r => stV (initSt r)] = σ7 at *
  refine vj (?_ : Gs _ (.mk _ _ _ _) _)
  have e7 := e5.trans e6'
  refine (?_ : Gs _ (.mk _ _ _ _) _)
  refine r_lsK (e7.get a3) ?_
  refine comp_rule (fun i ac σ' => Mini.Cj2 (Ex σ7 σ') (Mini.Ek1 fun fs => Mini.Cj2 (CellsR σ' ac ((gates.map initCell).take i) fs) (∀ a ∈ fs.flatten, ¬ a < σ.length))) (by simp only [lim]; lia) ⟨Ex.refl, [], ⟨rfl, rfl, fun z => by simp at z⟩, nofun⟩ ?_ ?_
  · rintro i v ac σ' K hv hl ⟨e, fs, q, nf⟩ hK
    refine ⟨e.get (e7.get a3), ?_⟩
    obtain ⟨y, h1, a, rfl, _, h2⟩ := q2'.left hv
    refine vjE (?_ : Gs _ (.mk _ _ _ _) _)
    refine w_fresh F (e.get (e7.get h2)) (ok.gate _ (List.mem_of_getElem? h1)) r2 fun σ'' v'' f'' e'' k'' fr => ?_
    refine vj (?_ : Gs _ (.mk _ _ _ _) _)
    refine hK _ _ ⟨e.trans e'', fs ++ [f''], ?_, fun a ha => ?_⟩
    rotate_left
    · rw [List.flatten_append] at ha
      rcases List.mem_append.mp ha with z | z
      · exact nf a z
      · exact Nat.not_lt.mpr (Nat.le_trans ((e13.trans (e7.trans e)).len) (fr a (by simpa using z)))
    have hy : (gates.map initCell)[i]? = some (initCell y) := by (refine rwE List.getElem?_map ?_; refine rwE h1 ?_); rfl
    have p4 : fs.length = ac.length := by (refine rwE q.l2 ?_; (refine rwE q.l1 ?_; with_reducible rfl))
    have p5 : ((gates.map initCell).take i).length = ac.length := q.l1.symm
    refine rwE (take_snoc hy) ?_
    refine ⟨by (refine rwE List.length_append ?_; refine rwE List.length_append ?_; refine rwE q.l1 ?_); rfl, by (refine rwE List.length_append ?_; refine rwE List.length_append ?_; refine rwE q.l2 ?_); rfl, fun {j v c f} p1 p2 p3 => ?_⟩
    rcases Nat.lt_trichotomy j ac.length with hj | hj | hj
    · rw [List.getElem?_append_left hj] at p1
      rw [List.getElem?_append_left (by lia)] at p2 p3
      exact (q.at_ p1 p2 p3).ex e''
    · subst hj
      rw [List.getElem?_append_right (Nat.le_refl _)] at p1
      rw [List.getElem?_append_right (by lia), p5] at p2
      rw [List.getElem?_append_right (by lia), p4] at p3
      simp at p1 p2 p3
      subst p1 p2 p3
      exact k''
    · have := lt_of_get p1
      simp at this; lia
  rintro ac σ8 _ ⟨e8, fs, q8, nf⟩
  refine ⟨e8.get (e7.get a3), ?_⟩
  rw [q2'.len, show gates.length = (gates.map initCell).length by simp, List.take_length] at q8
  refine vj (?_ : Gs _ (.mk _ _ _ _) _)
  have e9 : Ex σ7 (σ8 ++ [ac]) := e8.trans Ex.one
  have e49 := e7.trans e9
  refine (?_ : Gs _ (.mk _ _ _ _) _)
  refine hQ _ _ _ _ _ _ (e13.trans e49) ⟨nk, nw, nd, nsk, Nat.not_lt.mpr (e13.trans (e7.trans e8)).len, ⟨acc, e49.get a3, q2'.mono fun _ _ k => k.ex e49⟩, ⟨acc', e49.get b3, q3'.mono fun _ _ k => k.ex e49⟩, ?_, ?_, ac, fs, last_get, q8.ex Ex.one, nf⟩
  · have := (e6'.trans e9).get d5
    refine rwE this ?_
    simp [Hl.init, nv]
  · have := e9.get s6
    refine rwE this ?_
    simp [Hl.init]
end
end Mini

set_option autoImplicit false
set_option linter.unusedVariables false
namespace Mini
/-- the heap has grown and changed at the places B alone -/
noncomputable def Ag (B : Nat → Prop) (σ σ' : H) : Prop := σ.length ≤ σ'.length ∧ ∀ (a : Nat) (xs : List V), ¬ B a → σ[a]? = some xs → σ'[a]? = some xs
section
variable {B : Nat → Prop} {σ σ' σ'' : H}
theorem Ag.refl : Ag B σ σ := ⟨Nat.le_refl _, fun _ _ _ h => h⟩
theorem Ag.trans (h : Ag B σ σ') (k : Ag B σ' σ'') : Ag B σ σ'' := ⟨Nat.le_trans h.1 k.1, fun a xs n e => k.2 a xs n (h.2 a xs n e)⟩
theorem Ex.ag (h : Ex σ σ') : Ag B σ σ' := ⟨h.len, fun a xs _ e => h.get e⟩
theorem Ag.set {a : Nat} {xs : List V} (h : B a) : Ag B σ (σ.set a xs) := ⟨by simp, fun b ys n e => get_set_ne (fun z => n (z ▸ h)) e⟩
theorem CellR.ag {v : V} (k : Ag B σ σ') : ∀ {c : Cell} {f : List Nat}, CellR σ v c f → (∀ a ∈ f, ¬ B a) → CellR σ' v c f
  | .cnt l s, f, ⟨a, h1, h2, h3⟩, n => ⟨a, h1, h2, k.2 _ _ (n a (by refine rwE h2 ?_; simp)) h3⟩
  | .row b, f, ⟨a, as, h1, h2, h3, h4⟩, n => ⟨a, as, h1, h2, k.2 _ _ (n a (by refine rwE h2 ?_; simp)) h3, ⟨h4.len, fun {i x y} p q => k.2 _ _ (n x (by refine rwE h2 ?_; exact List.mem_cons_of_mem _ (List.mem_of_getElem? p))) (h4.at_ p q)⟩⟩
theorem CellR.lt {v : V} : ∀ {c : Cell} {f : List Nat}, CellR σ v c f → ∀ a ∈ f, a < σ.length
  | .cnt l s, f, ⟨b, _, e2, e3⟩, a, ha => by rw [e2] at ha; simp at ha; subst ha; exact lt_of_get e3
  | .row m, f, ⟨b, as, _, e2, e3, e4⟩, a, ha => by
    rw [e2] at ha
    rcases List.mem_cons.mp ha with z | z
    · subst z; exact lt_of_get e3
    · obtain ⟨j, hj, rfl⟩ := List.getElem_of_mem z
      have j1 : j < m.length := by refine rwE (Eq.symm (e4.len)) ?_; exact hj
      exact lt_of_get (e4.at_ (show as[j]? = some as[j] by simp [hj]) (show m[j]? = some m[j] by simp [j1]))
theorem CellsR.lt {cv : List V} {cs : List Cell} {fs : List (List Nat)} (c2 : CellsR σ cv cs fs) : ∀ a ∈ fs.flatten, a < σ.length := fun a ha => by
  obtain ⟨f, hf, ha⟩ := List.mem_flatten.mp ha
  obtain ⟨i, hi, rfl⟩ := List.getElem_of_mem hf
  have i1 : i < cv.length := by (refine rwE c2.l1 ?_; refine rwE (Eq.symm (c2.l2)) ?_); exact hi
  have i2 : i < cs.length := by refine rwE (Eq.symm (c2.l2)) ?_; exact hi
  exact (c2.at_ (show cv[i]? = some cv[i] by simp [i1]) (show cs[i]? = some cs[i] by simp [i2]) (show fs[i]? = some fs[i] by simp [hi])).lt a ha
variable {g r d s c : Nat} {h h' : Hl}
theorem RepB.rep (k : RepB B σ g r d s c h) : Rep' σ g r d s c h := by
  obtain ⟨_, _, _, _, _, ⟨gv, a1, a2⟩, ⟨rv, b1, b2⟩, h3, h4, cv, fs, c1, c2, _⟩ := k
  exact ⟨⟨gv, a1, a2.mono fun _ _ ⟨a, e1, _, e3⟩ => ⟨a, e1, lt_of_get e3, e3⟩⟩, ⟨rv, b1, b2.mono fun _ _ ⟨a, e1, _, e3⟩ => ⟨a, e1, lt_of_get e3, e3⟩⟩, h3, h4, cv, fs, c1, c2⟩
theorem RepB.ag (k : RepB B σ g r d s c h) (e : Ag B σ σ') : RepB B σ' g r d s c h := by
  obtain ⟨n1, n2, n3, n4, n5, ⟨gv, a1, a2⟩, ⟨rv, b1, b2⟩, h3, h4, cv, fs, c1, c2, c3⟩ := k
  exact ⟨n1, n2, n3, n4, n5, ⟨gv, e.2 _ _ n1 a1, a2.mono fun _ _ ⟨a, e1, e2, e3⟩ => ⟨a, e1, e2, e.2 _ _ e2 e3⟩⟩, ⟨rv, e.2 _ _ n2 b1, b2.mono fun _ _ ⟨a, e1, e2, e3⟩ => ⟨a, e1, e2, e.2 _ _ e2 e3⟩⟩, e.2 _ _ n3 h3, e.2 _ _ n4 h4, cv, fs, e.2 _ _ n5 c1,
    ⟨c2.l1, c2.l2, fun p1 p2 p3 => (c2.at_ p1 p2 p3).ag e fun a ha => c3 a (mem_flat p3 ha)⟩, c3⟩
theorem RepB.own (k : RepB B σ g r d s c h) (hB : ∀ a, B a → a < σ.length) (e : Ex σ σ') {d' s' c' : Nat} {cv : List V} {fs : List (List Nat)} (o : Own σ.length σ' g r d' s' c' cv fs h') (hg : h'.gates = h.gates) (hr : h'.rows = h.rows) : RepB B σ' g r d' s' c' h' := by
  have nb : ∀ a, σ.length ≤ a → ¬ B a := fun a ha z => Nat.lt_irrefl _ (Nat.lt_of_lt_of_le (hB a z) ha)
  obtain ⟨gv, a1, a2⟩ := k.gates
  obtain ⟨rv, b1, b2⟩ := k.rows
  refine ⟨k.ng, k.nr, nb _ (o.ge _ (by simp)), nb _ (o.ge _ (by simp)), nb _ (o.ge _ (by simp)), ⟨gv, e.get a1, ?_⟩, ⟨rv, e.get b1, ?_⟩, o.done, o.stages, cv, fs, o.cells, o.cellsR, fun a ha => nb a (o.ge a (by simp [ha]))⟩
  · refine rwE hg ?_; exact a2.mono fun _ _ ⟨a, e1, e2, e3⟩ => ⟨a, e1, e2, e.get e3⟩
  · refine rwE hr ?_; exact b2.mono fun _ _ ⟨a, e1, e2, e3⟩ => ⟨a, e1, e2, e.get e3⟩
theorem Rep'.repB (k : Rep' σ g r d s c h) (hB : ∀ a, B a → σ.length ≤ a) : RepB B σ g r d s c h := by
  have nb : ∀ a, a < σ.length → ¬ B a := fun a ha z => Nat.lt_irrefl _ (Nat.lt_of_lt_of_le ha (hB a z))
  obtain ⟨⟨gv, a1, a2⟩, ⟨rv, b1, b2⟩, h3, h4, cv, fs, c1, c2⟩ := k
  refine ⟨nb _ (lt_of_get a1), nb _ (lt_of_get b1), nb _ (lt_of_get h3), nb _ (lt_of_get h4), nb _ (lt_of_get c1), ⟨gv, a1, a2.mono fun _ _ ⟨a, e1, e2, e3⟩ => ⟨a, e1, nb a e2, e3⟩⟩, ⟨rv, b1, b2.mono fun _ _ ⟨a, e1, e2, e3⟩ => ⟨a, e1, nb a e2, e3⟩⟩, h3, h4, cv, fs, c1, c2, fun a ha => nb a (c2.lt a ha)⟩
/-- more places, that are new -/
theorem RepB.more {B' : Nat → Prop} (k : RepB B σ g r d s c h) (q : ∀ a, B' a → B a ∨ σ.length ≤ a) : RepB B' σ g r d s c h := by
  have nb : ∀ a, a < σ.length → ¬ B a → ¬ B' a := fun a ha hb z => (q a z).elim hb fun y => Nat.lt_irrefl _ (Nat.lt_of_lt_of_le ha y)
  obtain ⟨n1, n2, n3, n4, n5, ⟨gv, a1, a2⟩, ⟨rv, b1, b2⟩, h3, h4, cv, fs, c1, c2, c3⟩ := k
  exact ⟨nb _ (lt_of_get a1) n1, nb _ (lt_of_get b1) n2, nb _ (lt_of_get h3) n3, nb _ (lt_of_get h4) n4, nb _ (lt_of_get c1) n5, ⟨gv, a1, a2.mono fun _ _ ⟨a, e1, e2, e3⟩ => ⟨a, e1, nb _ (lt_of_get e3) e2, e3⟩⟩, ⟨rv, b1, b2.mono fun _ _ ⟨a, e1, e2, e3⟩ => ⟨a, e1, nb _ (lt_of_get e3) e2, e3⟩⟩, h3, h4, cv, fs, c1, c2, fun a ha => nb a (c2.lt a ha) (c3 a ha)⟩
end
section
variable {Φ : Nat → Option Fn} {n : Nat} {σ : H} {Q : P} {x : X} {B : Nat → Prop} {g r d s c : Nat} {h : Hl}
theorem GateB.ag {σ σ' : H} {v : V} {y : Nat × List Nat} (h : GateB B σ v y) (e : Ag B σ σ') : GateB B σ' v y := let ⟨a, e1, e2, e3⟩ := h; ⟨a, e1, e2, e.2 _ _ e2 e3⟩
theorem RowB.ag {σ σ' : H} {v : V} {y : List Nat} (h : RowB B σ v y) (e : Ag B σ σ') : RowB B σ' v y := let ⟨a, e1, e2, e3⟩ := h; ⟨a, e1, e2, e.2 _ _ e2 e3⟩
theorem w_stepB (F : HF ix Φ) {w : Nat} (q : RepB B σ g r d s c h) (hB : ∀ a, B a → a < σ.length) (f : WF h) (hg : h.gates.length ≤ 12) (hr : h.rows.length ≤ 12) (hw : w < h.rows.length) (h0 : 0 < σ.length)
    (hQ : ∀ σ' d' s' c', Ex σ σ' → RepB B σ' g r d' s' c' (h.step w) → Q (.tup [.inst [.ref g, .ref r, .ref d', .ref s', .ref c'], h.told w]) σ') : cW Φ (n + 5) ix.stepped [.inst [.ref g, .ref r, .ref d, .ref s, .ref c], .int w] σ Q x :=
  w_steppedO F q.rep f hg hr hw h0 fun σ' d' s' c' cv fs e o => hQ _ _ _ _ e (q.own hB e o Hl.step_gates Hl.step_rows)
end
end Mini

set_option autoImplicit false
set_option linter.unusedVariables false
namespace Mini
/-- many steps -/
noncomputable def Hl.run (h : Hl) : List Nat → Hl
  | [] => h
  | w :: l => (h.step w).run l
noncomputable def Hl.tells (h : Hl) : List Nat → List V
  | [] => []
  | w :: l => h.told w :: (h.step w).tells l
noncomputable def Hl.idle (h : Hl) (w : Nat) : Bool := decide ((h.stg w).1 = 10) || h.vain w
/-- who does a step in one turn of all, of the first k -/
noncomputable def Hl.busy (h : Hl) : Nat → List Nat
  | 0 => []
  | k + 1 => if (h.run (h.busy k)).idle k then h.busy k else h.busy k ++ [k]
noncomputable def Hl.restN : Nat → Hl → List Nat
  | 0, _ => []
  | n + 1, h => if h.busy h.rows.length = [] then [] else h.busy h.rows.length ++ Hl.restN n (h.run (h.busy h.rows.length))
theorem Hl.run_app {h : Hl} {l l' : List Nat} : h.run (l ++ l') = (h.run l).run l' := by
  induction l generalizing h with
  | nil => rfl
  | cons w l ih => exact ih
theorem Hl.tells_app {h : Hl} {l l' : List Nat} : h.tells (l ++ l') = h.tells l ++ (h.run l).tells l' := by
  induction l generalizing h with
  | nil => rfl
  | cons w l ih => show h.told w :: (h.step w).tells (l ++ l') = _; refine rwE ih ?_; rfl
theorem Hl.tells_len {h : Hl} {l : List Nat} : (h.tells l).length = l.length := by
  induction l generalizing h with
  | nil => rfl
  | cons w l ih => exact congrArg (· + 1) ih
theorem Hl.run_gates {h : Hl} {l : List Nat} : (h.run l).gates = h.gates := by
  induction l generalizing h with
  | nil => rfl
  | cons w l ih => exact ih.trans Hl.step_gates
theorem Hl.run_rows {h : Hl} {l : List Nat} : (h.run l).rows = h.rows := by
  induction l generalizing h with
  | nil => rfl
  | cons w l ih => exact ih.trans Hl.step_rows
theorem WF.run {h : Hl} (f : WF h) {l : List Nat} (hl : ∀ w ∈ l, w < h.rows.length) : WF (h.run l) := by
  induction l generalizing h with
  | nil => exact f
  | cons w l ih => exact ih (f.step (hl w (.head _))) fun v hv => by refine rwE Hl.step_rows ?_; exact hl v (.tail _ hv)
theorem Hl.busy_lt {h : Hl} : ∀ {k : Nat}, ∀ w ∈ h.busy k, w < k
  | 0, _, hw => by cases hw
  | k + 1, w, hw => by
    unfold Hl.busy at hw
    split at hw
    · have := Hl.busy_lt w hw; exact Nat.le_succ_of_le (by assumption)
    · rcases List.mem_append.mp hw with z | z
      · have := Hl.busy_lt w z; exact Nat.le_succ_of_le (by assumption)
      · simp at z; lia
theorem Hl.busy_len {h : Hl} : ∀ {k : Nat}, (h.busy k).length ≤ k
  | 0 => Nat.le_refl _
  | k + 1 => by
    have := Hl.busy_len (h := h) (k := k)
    unfold Hl.busy
    split
    · exact Nat.le_succ_of_le (by assumption)
    · simp; assumption
theorem Hl.busy_nil {h : Hl} : ∀ {k : Nat}, h.busy k = [] → ∀ w, w < k → h.idle w = true
  | 0, _, w, hw => absurd hw (Nat.not_lt_zero _)
  | k + 1, e, w, hw => by
    unfold Hl.busy at e
    split at e
    · rename_i z
      rw [e] at z
      by_cases hk : w = k
      · subst hk; exact z
      · exact Hl.busy_nil e w (by lia)
    · simp at e
theorem Hl.tells_get {h : Hl} : ∀ {l : List Nat} {i w : Nat}, l[i]? = some w → (h.tells l)[i]? = some ((h.run (l.take i)).told w)
  | [], _, _, e => by simp at e
  | a :: l, 0, _, e => by cases e; rfl
  | a :: l, i + 1, _, e => Hl.tells_get (h := h.step a) (l := l) (i := i) (by simpa using e)
theorem Hl.busy_ni {h : Hl} : ∀ {k i w : Nat}, (h.busy k)[i]? = some w → (h.run ((h.busy k).take i)).idle w = false
  | 0, _, _, e => by cases e
  | k + 1, i, w, e => by
    unfold Hl.busy at e ⊢
    split at e
    · rename_i z
      refine rwE (if_pos z) ?_; exact Hl.busy_ni e
    · rename_i z
      refine rwE (if_neg z) ?_
      by_cases hl : i < (h.busy k).length
      · rw [List.getElem?_append_left hl] at e
        refine rwE (List.take_append_of_le_length (Nat.le_of_lt hl)) ?_
        exact Hl.busy_ni e
      · rw [List.getElem?_append_right (Nat.le_of_not_lt hl)] at e
        have hj := lt_of_get e
        have : i = (h.busy k).length := by simp at hj; lia
        subst this
        simp at e
        subst e
        refine rwE List.take_left ?_
        simpa using z
theorem Hl.restN_ni : ∀ {n : Nat} {h : Hl} {i w : Nat}, (Hl.restN n h)[i]? = some w → w < h.rows.length ∧ (h.run ((Hl.restN n h).take i)).idle w = false
  | 0, _, _, _, e => by cases e
  | n + 1, h, i, w, e => by
    unfold Hl.restN at e ⊢
    split at e
    · cases e
    · rename_i z
      refine rwE (if_neg z) ?_
      by_cases hl : i < (h.busy h.rows.length).length
      · rw [List.getElem?_append_left hl] at e
        refine rwE (List.take_append_of_le_length (Nat.le_of_lt hl)) ?_
        exact ⟨Hl.busy_lt w (List.mem_of_getElem? e), Hl.busy_ni e⟩
      · rw [List.getElem?_append_right (Nat.le_of_not_lt hl)] at e
        have q := Hl.restN_ni e
        rw [Hl.run_rows] at q
        (refine rwE List.take_append ?_; refine rwE (List.take_of_length_le (Nat.le_of_not_lt hl)) ?_; refine rwE Hl.run_app ?_)
        exact q
/-- how much there is left to do -/
noncomputable def rank (st : Nat × Nat) : Nat := if st.1 = 3 ∨ st.1 = 5 then 1 else if st.1 = 4 then 2 else if st.1 = 6 then 20 else if st.1 = 7 then 1 + 2 * st.2 else if st.1 = 8 then 2 + 2 * st.2 else 0
noncomputable def Hl.lft (h : Hl) (w : Nat) : Nat := if (h.stg w).1 = 10 then 0 else 30 * ((h.row w).length - h.dn w) - rank (h.stg w)
noncomputable def Hl.mu (h : Hl) : Nat := ((List.range h.rows.length).map h.lft).sum
theorem sum_lt {f g : Nat → Nat} {w : Nat} (hlt : f w < g w) (he : ∀ v, v ≠ w → f v = g v) : ∀ {n : Nat}, w < n → ((List.range n).map f).sum < ((List.range n).map g).sum
  | 0, h => absurd h (Nat.not_lt_zero _)
  | n + 1, h => by
    (refine rwE List.range_succ ?_; refine rwE List.map_append ?_; refine rwE List.map_append ?_; refine rwE List.sum_append ?_; refine rwE List.sum_append ?_)
    simp only [List.map_cons, List.map_nil, List.sum_cons, List.sum_nil, Nat.add_zero]
    by_cases hw : w = n
    · subst hw
      have : ((List.range w).map f) = (List.range w).map g := List.map_congr_left fun v hv => he v (by have := List.mem_range.mp hv; lia)
      refine rwE this ?_; lia
    · have := sum_lt hlt he (n := n) (by lia)
      have := he n (fun z => hw z.symm)
      lia
theorem sum_le {f : Nat → Nat} {b : Nat} (h : ∀ v, f v ≤ b) : ∀ {n : Nat}, ((List.range n).map f).sum ≤ n * b
  | 0 => Nat.zero_le _
  | n + 1 => by
    (refine rwE List.range_succ ?_; refine rwE List.map_append ?_; refine rwE List.sum_append ?_; rewrite [Nat.succ_mul])
    have := sum_le h (n := n)
    have := h n
    simp only [List.map_cons, List.map_nil, List.sum_cons, List.sum_nil, Nat.add_zero]
    lia
theorem cell_rank {g : Nat × List Nat} {w t : Nat} {st : Nat × Nat} (hs : StOk g st) (h6 : st.1 ≠ 6) : ∀ {c : Cell}, CellOk g c → rank st < rank (cellStep g w t st c).2 ∧ rank (cellStep g w t st c).2 ≤ 20 ∧ (cellStep g w t st c).2.1 ≠ 10 := by
  have r4 := rnd_le g.2.length
  obtain ⟨a, b⟩ := st
  intro c hc
  have hs : a = 2 ∨ a = 6 ∨ (g.1 = 0 ∧ (a = 3 ∨ a = 4 ∨ a = 5)) ∨ (g.1 = 1 ∧ (a = 7 ∨ a = 8) ∧ b < rnd g.2.length) := hs
  have h6 : a ≠ 6 := h6
  have fin : ∀ (i j k : Nat), i < j → j ≤ 20 → k ≠ 10 → i < j ∧ j ≤ 20 ∧ k ≠ 10 := fun _ _ _ h1 h2 h3 => ⟨h1, h2, h3⟩
  cases c with
  | cnt l s =>
    have hc : g.1 = 0 := hc
    rcases hs with rfl | hs | ⟨_, rfl | rfl | rfl⟩ | ⟨h1, _⟩
    · show _ < rank (if l - 1 = 0 then (3, 0) else (5, 0)) ∧ rank (if l - 1 = 0 then (3, 0) else (5, 0)) ≤ 20 ∧ (if l - 1 = 0 then ((3 : Nat), 0) else (5, 0)).1 ≠ 10
      split
      · exact fin 0 1 3 (by decide) (by decide) (by decide)
      · exact fin 0 1 5 (by decide) (by decide) (by decide)
    · exact absurd hs h6
    · exact fin 1 2 4 (by decide) (by decide) (by decide)
    · exact fin 2 20 6 (by decide) (by decide) (by decide)
    · exact fin 1 20 6 (by decide) (by decide) (by decide)
    · lia
  | row m =>
    have hc : g.1 = 1 := hc.1
    rcases hs with rfl | hs | ⟨h1, _⟩ | ⟨_, rfl | rfl, hb⟩
    · show _ < rank (if 0 = rnd g.2.length then (6, 0) else (7, 0)) ∧ rank (if 0 = rnd g.2.length then (6, 0) else (7, 0)) ≤ 20 ∧ (if 0 = rnd g.2.length then ((6 : Nat), 0) else (7, 0)).1 ≠ 10
      split
      · exact fin 0 20 6 (by decide) (by decide) (by decide)
      · exact fin 0 1 7 (by decide) (by decide) (by decide)
    · exact absurd hs h6
    · lia
    · exact fin (1 + 2 * b) (2 + 2 * b) 8 (by lia) (by lia) (by decide)
    · show 2 + 2 * b < rank (if b + 1 = rnd g.2.length then (6, 0) else (7, b + 1)) ∧ rank (if b + 1 = rnd g.2.length then (6, 0) else (7, b + 1)) ≤ 20 ∧ (if b + 1 = rnd g.2.length then ((6 : Nat), 0) else (7, b + 1)).1 ≠ 10
      split
      · exact fin (2 + 2 * b) 20 6 (by lia) (by decide) (by decide)
      · exact fin (2 + 2 * b) (1 + 2 * (b + 1)) 7 (by lia) (by lia) (by decide)
section
variable {h : Hl}
theorem rank_le {g : Nat × List Nat} {st : Nat × Nat} (hs : StOk g st) : rank st ≤ 20 := by
  have r4 := rnd_le g.2.length
  unfold rank
  unfold StOk at hs
  repeat' split
  all_goals (first | decide | lia)
noncomputable def Hl.nst (h : Hl) (w : Nat) : Nat × Nat := if (h.stg w).1 = 6 then (if h.dn w + 1 = (h.row w).length then (10, 0) else (2, 0)) else (h.cstep w).2
theorem idle_not {w : Nat} (hi : h.idle w = false) : (h.stg w).1 ≠ 10 ∧ h.vain w = false := by
  unfold Hl.idle at hi; simpa using hi
/-- what a step that is not idle changes -/
structure Stp (h h' : Hl) (w : Nat) : Prop where
  gates : h'.gates = h.gates
  rows : h'.rows = h.rows
  stg : ∀ v, h'.stg v = if w = v then h.nst w else h.stg v
  dn : ∀ v, h'.dn v = if w = v then (if (h.stg w).1 = 6 then h.dn w + 1 else h.dn w) else h.dn v
  cell : ∀ t, h'.cell t = if h.at_ w = t then (if (h.stg w).1 = 6 then h.cell t else (h.cstep w).1) else h.cell t
theorem WF.stp (f : WF h) {w : Nat} (hw : w < h.rows.length) (hi : h.idle w = false) : Stp h (h.step w) w := by
  obtain ⟨h10, hv⟩ := idle_not hi
  obtain ⟨ha, _⟩ := f.at_ hw h10
  have e : h.step w = if (h.stg w).1 = 6 then { h with done := h.done.set w (h.dn w + 1), stages := h.stages.set w (if h.dn w + 1 = (h.row w).length then (10, 0) else (2, 0)) }
      else { h with cells := h.cells.set (h.at_ w) (h.cstep w).1, stages := h.stages.set w (h.cstep w).2 } := by
    unfold Hl.step; (refine rwE (if_neg h10) ?_; (refine rwE (if_neg (by refine rwE hv ?_; decide)) ?_; with_reducible rfl))
  by_cases h6 : (h.stg w).1 = 6
  · (refine rwE e ?_; refine rwE (if_pos h6) ?_)
    refine ⟨rfl, rfl, fun v => ?_, fun v => ?_, fun t => ?_⟩
    · unfold Hl.nst; refine rwE (if_pos h6) ?_; exact getD_set (by refine rwE f.ls ?_; exact hw)
    · refine rwE (if_pos h6) ?_; exact getD_set (by refine rwE f.ld ?_; exact hw)
    · refine rwE (if_pos h6) ?_; show h.cell t = _; split <;> rfl
  · (refine rwE e ?_; refine rwE (if_neg h6) ?_)
    refine ⟨rfl, rfl, fun v => ?_, fun v => ?_, fun t => ?_⟩
    · unfold Hl.nst; refine rwE (if_neg h6) ?_; exact getD_set (by refine rwE f.ls ?_; exact hw)
    · refine rwE (if_neg h6) ?_; show h.dn v = _; split
      · rename_i z; (refine rwE z ?_; with_reducible rfl)
      · rfl
    · refine rwE (if_neg h6) ?_; exact getD_set (by refine rwE f.lc ?_; exact ha)
theorem Stp.row {h h' : Hl} {w v : Nat} (s : Stp h h' w) : h'.row v = h.row v := by unfold Hl.row; (refine rwE s.rows ?_; with_reducible rfl)
theorem Stp.gate {h h' : Hl} {w v : Nat} (s : Stp h h' w) : h'.gate v = h.gate v := by unfold Hl.gate; (refine rwE s.gates ?_; with_reducible rfl)
theorem mu_k {l d : Nat} (h : d < l) : l - d = (l - (d + 1)) + 1 := (Nat.succ_pred_eq_of_pos (Nat.sub_pos_of_lt h)).symm
theorem mu_a {l d : Nat} (h : d < l) : 0 < 30 * (l - d) - 20 := by refine rwE (mu_k h) ?_; exact Nat.zero_lt_succ _
theorem mu_b {l d : Nat} (h : d < l) : 30 * (l - (d + 1)) < 30 * (l - d) - 20 := by refine rwE (mu_k h) ?_; exact Nat.lt_add_of_pos_right (show 0 < 10 by decide)
theorem mu_c {a r t : Nat} (ha : 0 < a) (h : r < t) (ht : t ≤ 20) : 30 * a - t < 30 * a - r := Nat.sub_lt_sub_left (Nat.lt_of_lt_of_le h (Nat.le_trans ht (Nat.le_trans (show 20 ≤ 30 * 1 by decide) (Nat.mul_le_mul_left 30 ha)))) h
/-- a step that is not idle leaves less to do -/
theorem WF.mu_step (f : WF h) {w : Nat} (hw : w < h.rows.length) (hi : h.idle w = false) : (h.step w).mu < h.mu := by
  obtain ⟨h10, hv⟩ := idle_not hi
  have hlt := f.lt hw h10
  have hst := f.st hw h10
  obtain ⟨ha, _⟩ := f.at_ hw h10
  have r20 := rank_le hst
  have S := f.stp hw hi
  unfold Hl.mu
  refine rwE S.rows ?_
  refine sum_lt (w := w) ?_ (fun v hv => ?_) hw
  · unfold Hl.lft
    (rewrite [S.stg]; refine rwE (if_pos rfl) ?_; rewrite [S.dn]; refine rwE (if_pos rfl) ?_; refine rwE S.row ?_; refine rwE (if_neg h10) ?_)
    unfold Hl.nst
    by_cases h6 : (h.stg w).1 = 6
    · (refine rwE (if_pos h6) ?_; refine rwE (if_pos h6) ?_)
      have e6 : rank (h.stg w) = 20 := by
        unfold rank; refine rwE h6 ?_; rfl
      refine rwE e6 ?_
      split
      · exact mu_a hlt
      · exact mu_b hlt
    · (refine rwE (if_neg h6) ?_; refine rwE (if_neg h6) ?_)
      obtain ⟨c1, c2, c3⟩ := cell_rank (w := w) (t := h.time w) hst h6 (f.cell _ ha)
      have c1 : rank (h.stg w) < rank (h.cstep w).2 := c1
      have c2 : rank (h.cstep w).2 ≤ 20 := c2
      have c3 : (h.cstep w).2.1 ≠ 10 := c3
      refine rwE (if_neg c3) ?_
      exact mu_c (Nat.sub_pos_of_lt hlt) c1 c2
  · unfold Hl.lft
    (rewrite [S.stg]; refine rwE (if_neg (Ne.symm hv)) ?_; rewrite [S.dn]; refine rwE (if_neg (Ne.symm hv)) ?_; (refine rwE S.row ?_; with_reducible rfl))
theorem WF.mu_le (f : WF h) (hr : h.rows.length ≤ 12) : h.mu ≤ 20000 := by
  have : h.mu ≤ h.rows.length * 1200 := by
    have e : ∀ v, v < h.rows.length → h.lft v ≤ 1200 := fun v hv => by
      have h40 := f.rl v hv
      unfold Hl.lft
      split
      · exact Nat.zero_le _
      · exact Nat.le_trans (Nat.sub_le _ _) (Nat.mul_le_mul_left 30 (Nat.le_trans (Nat.sub_le _ _) h40))
    unfold Hl.mu
    have e2 : (List.range h.rows.length).map h.lft = (List.range h.rows.length).map fun v => min (h.lft v) 1200 := List.map_congr_left fun v hv => by
      have := e v (List.mem_range.mp hv); lia
    refine rwE e2 ?_
    exact sum_le fun v => Nat.min_le_right _ _
  have : h.rows.length * 1200 ≤ 12 * 1200 := Nat.mul_le_mul_right _ hr
  lia
end
end Mini

set_option autoImplicit false
set_option linter.unusedVariables false
namespace Mini
structure Rx where
  idle : Nat
  woven : Nat
  rested : Nat
noncomputable def rx : Rx := ⟨19, 26, 27⟩
noncomputable def gIdle (ix : Ix) : Fn := ⟨2, 5, [
  .call ix.needWalker [(.var 0), (.var 1)],
  .ret (.or (.cmp .eq (.idx (.call ix.ahead [(.var 0), (.var 1)]) (.int (1))) (.str 10)) (.call ix.vain [(.var 0), (.var 1)]))]⟩
noncomputable def gWoven (ix : Ix) : Fn := ⟨2, 8, [
  .for [2] (.list (.var 1)) [
    .call ix.needWalker [(.var 0), (.var 2)]],
  .set 3 (.disp []),
  .for [2] (.list (.var 1)) [
    .unpC [0, 4] ix.stepped [(.var 0), (.var 2)],
    .expr (.m1 .append (.var 3) (.var 4))],
  .ret (.tup [(.var 0), (.var 3)])]⟩
noncomputable def gRested (ix : Ix) (rx : Rx) : Fn := ⟨1, 8, [
  .set 1 (.disp []),
  .set 2 (.bool true),
  .while (.var 2) [
    .set 2 (.bool false),
    .for [3] (.range (.b1 .len (.attr (.var 0) 1))) [
      .ite (.not (.call rx.idle [(.var 0), (.var 3)])) [
        .unpC [0, 4] ix.stepped [(.var 0), (.var 3)],
        .expr (.m1 .append (.var 1) (.var 4)),
        .set 2 (.bool true)] []]],
  .ret (.tup [(.var 0), (.var 1)])]⟩
structure RF (ix : Ix) (rx : Rx) (Φ : Nat → Option Fn) : Prop where
  idle : Φ rx.idle = some (gIdle ix)
  woven : Φ rx.woven = some (gWoven ix)
/-- a hall as the laws have it -/
structure Okh (h : Hl) : Prop where
  wf : WF h
  g1 : h.gates.length ≤ 12
  r1 : h.rows.length ≤ 12
theorem Okh.run {h : Hl} (o : Okh h) {l : List Nat} (hl : ∀ w ∈ l, w < h.rows.length) : Okh (h.run l) := ⟨o.wf.run hl, by refine rwE Hl.run_gates ?_; exact o.g1, by refine rwE Hl.run_rows ?_; exact o.r1⟩
section
variable {Φ : Nat → Option Fn} {n : Nat} {σ : H} {Q : P} {x : X} {B : Nat → Prop} {g r d s c : Nat} {h : Hl}
theorem w_idle (F : HF ix Φ) (R : RF ix rx Φ) {w : Nat} (q : Rep' σ g r d s c h) (o : Okh h) (hw : w < h.rows.length) (hQ : ∀ σ', Ex σ σ' → Q (.bool (h.idle w)) σ') : cW Φ (n + 5) rx.idle [.inst [.ref g, .ref r, .ref d, .ref s, .ref c], .int w] σ Q x := by
  refine fn_in R.idle rfl (?_ : Gs _ (.mk _ _ _ _) _)
  refine w_needWalker F q hw ?_
  refine vj (?_ : Gs _ (.mk _ _ _ _) _)
  have f := o.wf
  refine (?_ : Gs _ (.mk _ _ _ _) _)
  refine w_ahead F q hw f.ld f.ls (by
    by_cases z : (h.stg w).1 = 10
    · exact .inl z
    · exact .inr (f.lt hw z)) (fun z => ?_) fun z => ?_
  · refine vj (?_ : Gs _ (.mk _ _ _ _) _)
    have := hQ σ Ex.refl
    unfold Hl.idle at this
    rw [z] at this
    refine k_pos rfl ?_
    refine vj (?_ : Gs _ (.mk _ _ _ _) _)
    exact this
  · refine vj (?_ : Gs _ (.mk _ _ _ _) _)
    refine k_neg z ?_
    refine vj (?_ : Gs _ (.mk _ _ _ _) _)
    refine w_vain F q f hw fun σ' e => ?_
    have := hQ σ' e
    unfold Hl.idle at this
    rw [decide_eq_false z, Bool.false_or] at this
    refine vj (?_ : Gs _ (.mk _ _ _ _) _)
    exact this
theorem w_woven (F : HF ix Φ) (R : RF ix rx Φ) {a : Nat} {l : List Nat} (q : RepB B σ g r d s c h) (hB : ∀ a, B a → a < σ.length) (o : Okh h) (h0 : 0 < σ.length) (ha : σ[a]? = some (l.map nv)) (hl : ∀ w ∈ l, w < h.rows.length) (hn : l.length ≤ 100000)
    (hQ : ∀ σ' d' s' c' b, Ex σ σ' → RepB B σ' g r d' s' c' (h.run l) → σ'[b]? = some (h.tells l) → σ.length ≤ b → Q (.tup [.inst [.ref g, .ref r, .ref d', .ref s', .ref c'], .ref b]) σ') :
    cW Φ (n + 6) rx.woven [.inst [.ref g, .ref r, .ref d, .ref s, .ref c], .ref a] σ Q x := by
  refine fn_in R.woven rfl (?_ : Gs _ (.mk _ _ _ _) _)
  refine r_lsK ha ?_
  refine forL_rule (fun i m σ' => Mini.Cj2 (σ' = σ) (∃ s2, m = [some (.inst [.ref g, .ref r, .ref d, .ref s, .ref c]), some (.ref a), s2, none, none, none, none, none])) ⟨rfl, _, rfl⟩ ?_ ?_
  · rintro i v m _ K hv ⟨rfl, s2, rfl⟩ hK
    refine ⟨ha, ?_⟩
    obtain ⟨t, h2, rfl⟩ := nv_get hv
    refine ⟨_, rfl, ?_⟩
    refine vjB (?_ : Gs _ (.mk _ _ _ _) _)
    refine w_needWalker F q.rep (hl t (List.mem_of_getElem? h2)) ?_
    refine vj (?_ : Gs _ (.mk _ _ _ _) _)
    exact hK _ _ ⟨rfl, _, rfl⟩
  rintro m σ' ⟨hσ, s2, rfl⟩
  refine rwE hσ ?_
  clear hσ σ'
  refine ⟨ha, ?_⟩
  refine vj (?_ : Gs _ (.mk _ _ _ _) _)
  refine a_disp rfl ?_
  refine vj (?_ : Gs _ (.mk _ _ _ _) _)
  have al := lt_of_get ha
  have q1 : RepB (fun a => B a ∨ a = σ.length) (σ ++ [[]]) g r d s c h := (q.more fun a z => z.elim .inl fun y => .inr (by lia)).ag Ex.one.ag
  refine (?_ : Gs _ (.mk _ _ _ _) _)
  refine r_lsK (Ex.one.get ha) ?_
  refine forL_rule (fun i m σ' => Mini.Ek5 fun d' s' c' s2 s4 => Mini.Cj4 (Ex σ σ') (RepB (fun a => B a ∨ a = σ.length) σ' g r d' s' c' (h.run (l.take i))) (σ'[σ.length]? = some (h.tells (l.take i))) (m = [some (.inst [.ref g, .ref r, .ref d', .ref s', .ref c']), some (.ref a), s2, some (.ref σ.length), s4, none, none, none]))
    ⟨d, s, c, s2, none, Ex.one, q1, last_get, rfl⟩ ?_ ?_
  · rintro i v m σ' K hv ⟨d', s', c', s2, s4, e, q2, b2, rfl⟩ hK
    refine ⟨e.get ha, ?_⟩
    obtain ⟨t, h2, rfl⟩ := nv_get hv
    refine ⟨_, rfl, ?_⟩
    have hlt := lt_of_get b2
    have lw : ∀ w ∈ l.take i, w < h.rows.length := fun w hw => hl w (List.mem_of_mem_take hw)
    have o2 := o.run lw
    refine vjB (?_ : Gs _ (.mk _ _ _ _) _)
    refine w_stepB F q2 (fun a z => z.elim (fun y => Nat.lt_of_lt_of_le (hB a y) e.len) fun y => by lia) o2.wf o2.g1 o2.r1 (by refine rwE Hl.run_rows ?_; exact hl t (List.mem_of_getElem? h2)) (by lia) fun σ3 d3 s3 c3 e3 q3 => ?_
    refine vj (?_ : Gs _ (.mk _ _ _ _) _)
    refine b_app (by exact Nat.ne_of_gt (by assumption)) (e3.get b2) (by refine rwE Hl.tells_len ?_; have := lt_of_get h2; simp [lim]; lia) ?_
    refine vj (?_ : Gs _ (.mk _ _ _ _) _)
    refine hK _ _ ⟨d3, s3, c3, _, _, (e.trans e3).set (Nat.le_refl _), ?_, ?_, rfl⟩
    · (refine rwE (take_snoc h2) ?_; refine rwE Hl.run_app ?_)
      exact q3.ag (Ag.set (.inr rfl))
    · (refine rwE (take_snoc h2) ?_; refine rwE Hl.tells_app ?_)
      exact get_set_eq (lt_of_get (e3.get b2))
  · rintro m σ' ⟨d', s', c', s2, s4, e, q2, b2, rfl⟩
    refine ⟨e.get ha, ?_⟩
    rw [List.length_map, List.take_length] at q2 b2
    refine vj (?_ : Gs _ (.mk _ _ _ _) _)
    exact hQ _ _ _ _ _ e (q2.more fun a z => .inl (.inl z)) b2 (Nat.le_refl _)
/-- the walkers that step till rest, turn by turn -/
noncomputable def Hl.rest (h : Hl) : List Nat := Hl.restN (h.mu + 1) h
theorem WF.mu_busy (f : WF h) : ∀ {k : Nat}, k ≤ h.rows.length → (h.run (h.busy k)).mu + (h.busy k).length ≤ h.mu
  | 0, _ => Nat.le_refl _
  | k + 1, hk => by
    have ih := WF.mu_busy f (k := k) (by exact Nat.le_of_lt (by assumption))
    unfold Hl.busy
    split
    · exact ih
    · rename_i z
      have fr := f.run (l := h.busy k) fun w hw => by have := Hl.busy_lt w hw; lia
      have := fr.mu_step (w := k) (by refine rwE Hl.run_rows ?_; assumption) (by simpa using z)
      refine rwE Hl.run_app ?_
      have e : (h.run (h.busy k)).run [k] = (h.run (h.busy k)).step k := rfl
      (refine rwE e ?_; refine rwE List.length_append ?_)
      simp only [List.length_cons, List.length_nil]
      lia
theorem WF.restN_more : ∀ {n m : Nat} {h : Hl}, WF h → h.mu < n → n ≤ m → Hl.restN m h = Hl.restN n h
  | 0, _, _, _, hm, _ => absurd hm (Nat.not_lt_zero _)
  | n + 1, 0, _, _, _, hn => absurd hn (by lia)
  | n + 1, m + 1, h, f, hm, hn => by
    unfold Hl.restN
    split
    · rfl
    · rename_i z
      have := f.mu_busy (k := h.rows.length) (Nat.le_refl _)
      have hp := List.length_pos_iff.mpr z
      (refine rwE (WF.restN_more (f.run fun w hw => Hl.busy_lt w hw) (by lia) (show n ≤ m by lia)) ?_; with_reducible rfl)
theorem WF.rest_eq (f : WF h) : h.rest = if h.busy h.rows.length = [] then [] else h.busy h.rows.length ++ (h.run (h.busy h.rows.length)).rest := by
  show Hl.restN (h.mu + 1) h = _
  unfold Hl.restN
  split
  · rfl
  · rename_i z
    have := f.mu_busy (k := h.rows.length) (Nat.le_refl _)
    have hp := List.length_pos_iff.mpr z
    refine rwE (WF.restN_more (f.run fun w hw => Hl.busy_lt w hw) (n := (h.run (h.busy h.rows.length)).mu + 1) (by lia) (by lia)) ?_
    rfl
theorem w_rested (F : HF ix Φ) (R : RF ix rx Φ) (FR : Φ rx.rested = some (gRested ix rx)) (q : RepB B σ g r d s c h) (hB : ∀ a, B a → a < σ.length) (o : Okh h) (h0 : 0 < σ.length)
    (hQ : ∀ σ' d' s' c' b, Ex σ σ' → RepB B σ' g r d' s' c' (h.run h.rest) → σ'[b]? = some (h.tells h.rest) → σ.length ≤ b → Q (.tup [.inst [.ref g, .ref r, .ref d', .ref s', .ref c'], .ref b]) σ') :
    cW Φ (n + 6) rx.rested [.inst [.ref g, .ref r, .ref d, .ref s, .ref c]] σ Q x := by
  refine fn_in FR rfl (?_ : Gs _ (.mk _ _ _ _) _)
  refine a_disp rfl ?_
  refine vj (?_ : Gs _ (.mk _ _ _ _) _)
  have q1 : RepB (fun a => B a ∨ a = σ.length) (σ ++ [[]]) g r d s c h := (q.more fun a z => z.elim .inl fun y => .inr (by lia)).ag Ex.one.ag
  have mle := o.wf.mu_le o.r1
  refine (?_ : Gs _ (.mk _ _ _ _) _)
  refine while_rule (fun k m σ' => Mini.Ek7 fun L d' s' c' mv s3 s4 => Mini.Cj8 (Ex σ σ') (RepB (fun a => B a ∨ a = σ.length) σ' g r d' s' c' (h.run L)) (σ'[σ.length]? = some (h.tells L)) ((∀ w ∈ L, w < h.rows.length)) (k = (h.run L).mu + (if mv then 1 else 0)) (k + L.length ≤ h.mu + 1) ((h.rest = if mv then L ++ (h.run L).rest else L)) (m = [some (.inst [.ref g, .ref r, .ref d', .ref s', .ref c']), some (.ref σ.length), some (.bool mv), s3, s4, none, none, none]))
    (k := h.mu + 1) ⟨[], d, s, c, true, none, none, Ex.one, q1, last_get, nofun, rfl, Nat.le_refl _, rfl, rfl⟩ ?_
  rintro k m σ1 K ⟨L, d1, s1, c1, mv, s3, s4, e1, q1, b1, hL, rfl, hlen, hrest, rfl⟩ hK
  refine vjT (vfT ?_)
  cases mv with
  | false =>
    refine k_no ?_
    refine vj (?_ : Gs _ (.mk _ _ _ _) _)
    rw [hrest] at hQ
    exact hQ _ _ _ _ _ e1 (q1.more fun a z => .inl (.inl z)) b1 (Nat.le_refl _)
  | true =>
    refine k_yes ?_
    have hrest : h.rest = L ++ (h.run L).rest := hrest
    have hlen : (h.run L).mu + 1 + L.length ≤ h.mu + 1 := hlen
    have o1 := o.run hL
    have rr : (h.run L).rows.length = h.rows.length := by (refine rwE Hl.run_rows ?_; with_reducible rfl)
    refine vjB (?_ : Gs _ (.mk _ _ _ _) _)
    obtain ⟨rv, y1, y2⟩ := q1.rows
    refine b_len y1 ?_
    (refine rwE y2.len ?_; refine rwE rr ?_)
    refine vj (?_ : Gs _ (.mk _ _ _ _) _)
    have r12 := o.r1
    refine (?_ : Gs _ (.mk _ _ _ _) _)
    refine r_rgK (by lia) ?_
    refine forL_rule (fun i m σ' => Mini.Ek5 fun d' s' c' s3 s4 => Mini.Cj4 (Ex σ σ') (RepB (fun a => B a ∨ a = σ.length) σ' g r d' s' c' ((h.run L).run ((h.run L).busy i))) (σ'[σ.length]? = some (h.tells L ++ (h.run L).tells ((h.run L).busy i))) (m = [some (.inst [.ref g, .ref r, .ref d', .ref s', .ref c']), some (.ref σ.length), some (.bool (decide ((h.run L).busy i ≠ []))), s3, s4, none, none, none]))
      ⟨d1, s1, c1, s3, s4, e1, q1, by refine rwE b1 ?_; simp [Hl.busy, Hl.tells], rfl⟩ ?_ ?_
    · rintro i v m σ2 K2 hv ⟨d2, s2, c2, s3, s4, e2, q2, b2, rfl⟩ hK2
      obtain ⟨rfl, hi⟩ := rangeV_get hv
      have hi : i < h.rows.length := by lia
      refine ⟨trivial, _, rfl, ?_⟩
      have bl : ∀ w ∈ (h.run L).busy i, w < (h.run L).rows.length := fun w hw => by have := Hl.busy_lt w hw; lia
      have o2 := o1.run bl
      have rr2 : ((h.run L).run ((h.run L).busy i)).rows.length = h.rows.length := by (refine rwE Hl.run_rows ?_; (refine rwE rr ?_; with_reducible rfl))
      refine vjB (?_ : Gs _ (.mk _ _ _ _) _)
      refine w_idle F R q2.rep o2 (by lia) fun σ3 e3 => ?_
      refine vj (?_ : Gs _ (.mk _ _ _ _) _)
      have lt2 := lt_of_get b2
      have bz := Hl.busy_len (h := h.run L) (k := i)
      cases hid : ((h.run L).run ((h.run L).busy i)).idle i with
      | true =>
        refine (?_ : Gs _ (.mk _ _ _ _) _)
        refine k_nyes ?_
        have eb : (h.run L).busy (i + 1) = (h.run L).busy i := by
          show (if _ then _ else _) = _
          (refine rwE (if_pos hid) ?_; with_reducible rfl)
        refine vj (?_ : Gs _ (.mk _ _ _ _) _)
        refine hK2 _ _ ?_
        refine rwE eb ?_
        exact ⟨d2, s2, c2, _, _, e2.trans e3, q2.ag e3.ag, e3.get b2, rfl⟩
      | false =>
        refine (?_ : Gs _ (.mk _ _ _ _) _)
        refine k_nno ?_
        have eb : (h.run L).busy (i + 1) = (h.run L).busy i ++ [i] := by
          show (if _ then _ else _) = _
          (refine rwE (if_neg (by refine rwE hid ?_; decide)) ?_; with_reducible rfl)
        refine vj (?_ : Gs _ (.mk _ _ _ _) _)
        refine w_stepB F (q2.ag e3.ag) (fun a z => z.elim (fun y => Nat.lt_of_lt_of_le (hB a y) (e2.trans e3).len) fun y => by refine rwE y ?_; exact Nat.lt_of_lt_of_le lt2 e3.len) o2.wf o2.g1 o2.r1 (by lia) (by have := e3.len; lia) fun σ4 d4 s4' c4 e4 q4 => ?_
        refine vj (?_ : Gs _ (.mk _ _ _ _) _)
        refine b_app (by exact Nat.ne_of_gt (by assumption)) (e4.get (e3.get b2)) (by (refine rwE List.length_append ?_; refine rwE Hl.tells_len ?_; refine rwE Hl.tells_len ?_); simp [lim]; lia) ?_
        refine vj (?_ : Gs _ (.mk _ _ _ _) _)
        refine hK2 _ _ ?_
        (refine rwE eb ?_; refine rwE (decide_eq_true (show (h.run L).busy i ++ [i] ≠ [] by simp)) ?_; refine rwE Hl.run_app ?_; refine rwE Hl.tells_app ?_; rewrite [← List.append_assoc])
        exact ⟨d4, s4', c4, _, _, (e2.trans (e3.trans e4)).set (Nat.le_refl _), q4.ag (Ag.set (.inr rfl)), get_set_eq (lt_of_get (e4.get (e3.get b2))), rfl⟩
    · rintro m σ2 ⟨d2, s2, c2, s3, s4, e2, q2, b2, rfl⟩
      refine ⟨trivial, ?_⟩
      rw [rangeV_length, Int.toNat_natCast, ← rr] at q2 b2 ⊢
      have mb := o1.wf.mu_busy (k := (h.run L).rows.length) (Nat.le_refl _)
      have er := o1.wf.rest_eq
      refine vj (?_ : Gs _ (.mk _ _ _ _) _)
      refine hK ((h.run (L ++ (h.run L).busy (h.run L).rows.length)).mu + (if decide ((h.run L).busy (h.run L).rows.length ≠ []) then 1 else 0)) _ _ ?_ ⟨L ++ (h.run L).busy (h.run L).rows.length, d2, s2, c2, _, _, _, e2, ?_, ?_, ?_, rfl, ?_, ?_, rfl⟩
      · refine rwE Hl.run_app ?_
        show _ < (h.run L).mu + 1
        by_cases hz : (h.run L).busy (h.run L).rows.length = []
        · refine rwE (if_neg (by simp [hz])) ?_; lia
        · have := List.length_pos_iff.mpr hz
          refine rwE (if_pos (by simp [hz])) ?_; lia
      · refine rwE Hl.run_app ?_; exact q2
      · refine rwE Hl.tells_app ?_; exact b2
      · intro w hw
        rcases List.mem_append.mp hw with hw | hw
        · exact hL w hw
        · have := Hl.busy_lt w hw; lia
      · (refine rwE Hl.run_app ?_; refine rwE List.length_append ?_)
        by_cases hz : (h.run L).busy (h.run L).rows.length = []
        · refine rwE (if_neg (by simp [hz])) ?_; lia
        · refine rwE (if_pos (by simp [hz])) ?_; lia
      · (refine rwE hrest ?_; refine rwE er ?_)
        by_cases hz : (h.run L).busy (h.run L).rows.length = []
        · (refine rwE (if_pos hz) ?_; refine rwE (if_neg (by simp [hz])) ?_; (refine rwE hz ?_; with_reducible rfl))
        · (refine rwE (if_neg hz) ?_; refine rwE (if_pos (by simp [hz])) ?_; refine rwE Hl.run_app ?_; (rewrite [List.append_assoc]; with_reducible rfl))
end
end Mini

set_option autoImplicit false
set_option linter.unusedVariables false
namespace Mini
structure Dx where
  cellAt : Nat
  mixed : Nat
  members : Nat
  gates : Nat
  sequence : Nat
  ownRow : Nat
  rows : Nat
  hall : Nat
  weave : Nat
noncomputable def dx : Dx := ⟨28, 30, 31, 32, 33, 34, 35, 36, 37⟩
noncomputable def dCellAt : Fn := ⟨2, 5, [
  .ite (.cmp .lt (.var 1) (.b1 .len (.var 0))) [
    .ret (.idx (.var 0) (.var 1))] [],
  .ret (.int (0))]⟩
noncomputable def dMixed : Fn := ⟨2, 6, [
  .set 2 (.bin .mod (.bin .mul (.bin .add (.var 0) (.bin .mul (.int (7919)) (.var 1))) (.int (48271))) (.int (2147483647))),
  .ret (.bin .mod (.bin .mul (.var 2) (.var 2)) (.int (2147483647)))]⟩
noncomputable def dMembersA : List S := [
  .set 2 (.disp []),
  .set 3 (.bin .mod (.var 0) (.int (4095))),
  .for [4] (.range (.var 1)) [
    .ite (.or (.cmp .eq (.bin .mod (.var 3) (.int (2))) (.int (1))) (.cmp .eq (.bin .mod (.bin .fdiv (.var 0) (.int (4095))) (.int (3))) (.int (1)))) [
      .expr (.m1 .append (.var 2) (.var 4))] [],
    .set 3 (.bin .fdiv (.var 3) (.int (2)))],
  .ite (.cmp .eq (.b1 .len (.var 2)) (.int (0))) [
    .set 2 (.disp [(.bin .mod (.bin .fdiv (.var 0) (.int (4095))) (.var 1))])] []]
noncomputable def dMembersB (dx : Dx) : List S := [
  .ite (.cmp .eq (.bin .mod (.bin .fdiv (.var 0) (.int (294840))) (.int (3))) (.int (1))) [
    .set 3 (.var 2),
    .set 2 (.disp []),
    .while (.cmp .gt (.b1 .len (.var 3)) (.int (0))) [
      .expr (.m1 .append (.var 2) (.m1 .pop (.var 3) (.bin .mod (.call dx.mixed [(.var 0), (.b1 .len (.var 3))]) (.b1 .len (.var 3)))))]] []]
noncomputable def dMembersC : List S := [
  .set 5 (.bin .mod (.bin .fdiv (.var 0) (.int (12285))) (.b1 .len (.var 2))),
  .ite (.cmp .eq (.bin .mod (.bin .fdiv (.var 0) (.int (147420))) (.int (2))) (.int (1))) [
    .expr (.m0 .reverse (.var 2))] [],
  .ret (.bin .add (.from_ (.var 2) (.var 5)) (.upto (.var 2) (.var 5)))]
noncomputable def dMembers (dx : Dx) : Fn := ⟨2, 9, dMembersA ++ (dMembersB dx ++ dMembersC)⟩
/-- a list of walkers, none twice -/
structure OkL (k : Nat) (l : List Nat) : Prop where
  ne : l ≠ []
  nd : l.Nodup
  lt : ∀ w ∈ l, w < k
theorem OkL.perm {k : Nat} {l l' : List Nat} (h : OkL k l) (p : l'.Perm l) : OkL k l' :=
  ⟨fun z => h.ne (List.length_eq_zero_iff.mp (by (refine rwE (Eq.symm (p.length_eq)) ?_; refine rwE z ?_); rfl)), p.nodup_iff.mpr h.nd, fun w hw => h.lt w (p.mem_iff.mp hw)⟩
section
variable {σ : H} {Q : P}
theorem b_from {a k : Nat} {xs : List V} (hx : σ[a]? = some xs) (hl : xs.length ≤ lim) (h : Q (.ref σ.length) (σ ++ [xs.drop k])) : Stq (sliceFrom (.ref a) (.int k) σ Q) := ⟨⟨xs, hx, by lia, by simp; lia, by simpa using h⟩⟩
theorem b_cat {a b : Nat} {xs ys : List V} (hx : σ[a]? = some xs) (hy : σ[b]? = some ys) (hl : xs.length + ys.length ≤ lim) (h : Q (.ref σ.length) (σ ++ [xs ++ ys])) : Stq (binop .add (.ref a) (.ref b) σ Q) := ⟨⟨rfl, xs, ys, hx, hy, by refine rwE List.length_append ?_; exact hl, h⟩⟩
end
theorem pop_perm {L R : List Nat} {j t : Nat} (h : L[j]? = some t) : (L.eraseIdx j ++ (R ++ [t])).Perm (L ++ R) := by
  obtain ⟨h1, h2⟩ := List.getElem?_eq_some_iff.mp h
  have p : (t :: L.eraseIdx j).Perm L := by
    have e : L = L.take j ++ t :: L.drop (j + 1) := by (refine rwE (Eq.symm (h2)) ?_; refine rwE (Eq.symm (List.drop_eq_getElem_cons h1)) ?_; (rewrite [List.take_append_drop]; with_reducible rfl))
    rewrite [List.eraseIdx_eq_take_drop_succ]
    exact List.perm_middle.symm.trans (e ▸ List.Perm.refl _)
  refine (List.perm_append_comm_assoc _ _ _).trans ?_
  refine (List.Perm.append_left R (List.perm_append_comm (l₁ := L.eraseIdx j) (l₂ := [t]))).trans ?_
  exact (List.Perm.append_left R p).trans List.perm_append_comm
noncomputable def dGates (dx : Dx) : Fn := ⟨3, 9, [
  .set 3 (.disp []),
  .for [4] (.range (.var 2)) [
    .setC 5 dx.mixed [(.var 0), (.bin .add (.var 4) (.int (1)))],
    .expr (.m1 .append (.var 3) (.tup [(.idx (.disp [(.str 0), (.str 1)]) (.bin .mod (.var 5) (.int (2)))), (.call dx.members [(.bin .fdiv (.var 5) (.int (2))), (.var 1)])]))],
  .ret (.var 3)]⟩
noncomputable def dSequence (dx : Dx) : Fn := ⟨3, 9, [
  .set 3 (.disp []),
  .for [4] (.range (.var 2)) [
    .setC 5 dx.mixed [(.var 0), (.bin .add (.var 4) (.int (5)))],
    .ite (.or (.cmp .eq (.var 4) (.int (0))) (.cmp .eq (.bin .mod (.var 5) (.int (2))) (.int (1)))) [
      .expr (.m1 .append (.var 3) (.bin .mod (.bin .fdiv (.var 5) (.int (2))) (.var 1)))] [
      .expr (.m1 .append (.var 3) (.idx (.var 3) (.bin .sub (.var 4) (.int (1)))))]],
  .ret (.var 3)]⟩
noncomputable def dOwnRow (dx : Dx) : Fn := ⟨3, 9, [
  .set 3 (.compIf (.var 6) 6 (.range (.b1 .len (.var 2))) (.cmp .inn (.var 1) (.idx (.idx (.var 2) (.var 6)) (.int (1))))),
  .set 4 (.disp []),
  .ite (.cmp .gt (.b1 .len (.var 3)) (.int (0))) [
    .for [5] (.range (.bin .mod (.call dx.mixed [(.var 0), (.bin .add (.int (50)) (.var 1))]) (.int (6)))) [
      .expr (.m1 .append (.var 4) (.idx (.var 3) (.bin .mod (.bin .fdiv (.call dx.mixed [(.var 0), (.bin .add (.bin .add (.bin .mul (.int (13)) (.var 1)) (.var 5)) (.int (2)))]) (.int (7))) (.b1 .len (.var 3)))))]] [],
  .ret (.var 4)]⟩
structure DF (dx : Dx) (Φ : Nat → Option Fn) : Prop where
  cellAt : Φ dx.cellAt = some dCellAt
  mixed : Φ dx.mixed = some dMixed
  members : Φ dx.members = some (dMembers dx)
  gates : Φ dx.gates = some (dGates dx)
  sequence : Φ dx.sequence = some (dSequence dx)
  ownRow : Φ dx.ownRow = some (dOwnRow dx)
theorem sm1 {a j : Nat} (h : a ≤ 12) : a - j + min j a ≤ lim := Nat.le_trans (Nat.add_le_add (Nat.sub_le _ _) (Nat.min_le_right _ _)) (Nat.le_trans (Nat.add_le_add h h) (by decide))
theorem sm2 {t a : Nat} (h : t < a) : min t a + (a - (t + 1)) ≤ a := Nat.le_trans (Nat.add_le_add_right (Nat.le_trans (Nat.min_le_left _ _) (Nat.le_succ _)) _) (Nat.le_of_eq (Nat.add_sub_cancel' h))
section
variable {Φ : Nat → Option Fn} {n : Nat} {σ : H} {Q : P} {x : X}
theorem d_cellAt (F : DF dx Φ) {k : Nat} {is : List Int} (h0 : σ[0]? = some (is.map V.int)) (hQ : ∀ c : Int, Q (.int c) σ) : cW Φ (n + 1) dx.cellAt [.ref 0, .int k] σ Q x := by
  refine fn_in F.cellAt rfl (?_ : Gs _ (.mk _ _ _ _) _)
  refine b_len h0 ?_
  refine vj (?_ : Gs _ (.mk _ _ _ _) _)
  refine k_dec (fun h => ?_) fun h => ?_
  · rw [List.length_map] at h
    have hk : k < is.length := by lia
    refine vj (?_ : Gs _ (.mk _ _ _ _) _)
    exact x_item (v := .int is[k]) h0 (by simp [hk]) (hQ _)
  · refine vj (?_ : Gs _ (.mk _ _ _ _) _)
    exact hQ 0
theorem d_mixed (F : DF dx Φ) {a k : Int} (hk : 0 ≤ k ∧ k < 1000000) (hQ : ∀ c : Int, 0 ≤ c → Q (.int c) σ) : cW Φ (n + 1) dx.mixed [.int a, .int k] σ Q x := by
  refine fn_in F.mixed rfl (?_ : Gs _ (.mk _ _ _ _) _)
  refine b_mul (by lia) ?_
  refine vj (?_ : Gs _ (.mk _ _ _ _) _)
  have h2 : (0 : Int) < 2147483647 := by decide
  have h3 := Int.emod_nonneg ((a + 7919 * k) * 48271) (b := 2147483647) (by decide)
  have h4 := Int.emod_lt_of_pos ((a + 7919 * k) * 48271) h2
  generalize (a + 7919 * k) * 48271 % 2147483647 = z at *
  refine b_mul (by lia) ?_
  refine vj (?_ : Gs _ (.mk _ _ _ _) _)
  exact hQ _ (Int.emod_nonneg _ (by decide))
theorem d_members (F : DF dx Φ) {a : Int} {m : Nat} (hm : 1 ≤ m) (hm2 : m ≤ 12) (hs : 0 < σ.length) (hQ : ∀ σ' b (l : List Nat), Ex σ σ' → σ.length ≤ b → σ'[b]? = some (l.map nv) → OkL m l → Q (.ref b) σ') : cW Φ (n + 2) dx.members [.int a, .int m] σ Q x := by
  refine fn_in F.members rfl (?_ : Gs _ (.mk _ _ _ _) _)
  -- the last part
  have kC : ∀ (σ1 : H) (b : Nat) (l : List Nat) (s3 s4 : Option V), Ex σ σ1 → σ.length ≤ b → σ1[b]? = some (l.map nv) → OkL m l →
      Gs (.fn Φ (n + 1) x Q) (norm 400 [.sts dMembersC] [] [some (.int a), some (.int m), some (.ref b), s3, s4, none, none, none, none]) σ1 := by
    intro σ1 b l s3 s4 e1 hb h1 ok
    have hl : l.length ≤ m := pigeon m l ok.nd ok.lt
    have hp := List.length_pos_iff.mpr ok.ne
    refine (?_ : Gs _ (.mk _ _ _ _) _)
    refine b_lenE h1 (by (rewrite [List.length_map]; with_reducible rfl)) ?_
    refine vj (?_ : Gs _ (.mk _ _ _ _) _)
    refine b_mod (by lia) ?_
    refine vj (?_ : Gs _ (.mk _ _ _ _) _)
    obtain ⟨j, hj⟩ := Int.eq_ofNat_of_zero_le (Int.emod_nonneg (a / 12285) (show (l.length : Int) ≠ 0 by lia))
    refine rwE hj ?_
    have fin : ∀ (σ2 : H) (l2 : List Nat), Ex σ σ2 → σ2[b]? = some (l2.map nv) → l2.Perm l → Gs (.fn Φ (n + 1) x Q) (norm 400 [.sts [.ret (.bin .add (.from_ (.var 2) (.var 5)) (.upto (.var 2) (.var 5)))]] [] [some (.int a), some (.int m), some (.ref b), s3, s4, some (.int j), none, none, none]) σ2 := by
      intro σ2 l2 e2 h2 p2
      have hl2 : l2.length = l.length := p2.length_eq
      refine (?_ : Gs _ (.mk _ _ _ _) _)
      refine b_from h2 (ml (by lia)) ?_
      refine vj (?_ : Gs _ (.mk _ _ _ _) _)
      refine b_upto (Ex.one.get h2) (ml (by lia)) ?_
      refine vj (?_ : Gs _ (.mk _ _ _ _) _)
      refine b_cat (Ex.one.get last_get) last_get (by (refine rwE List.length_drop ?_; refine rwE List.length_take ?_; rewrite [List.length_map]); exact sm1 (show l2.length ≤ 12 by lia)) ?_
      refine vj (?_ : Gs _ (.mk _ _ _ _) _)
      refine hQ _ _ (l2.drop j ++ l2.take j) (e2.trans (Ex.one.trans (Ex.one.trans Ex.one))) (e2.trans (Ex.one.trans Ex.one)).len (by (refine rwE List.map_append ?_; refine rwE List.map_drop ?_; refine rwE List.map_take ?_); exact last_get) (ok.perm ((List.perm_append_comm.trans (by (rewrite [List.take_append_drop]; with_reducible rfl))).trans p2))
    refine (?_ : Gs _ (.mk _ _ _ _) _)
    refine k_dec (fun _ => ?_) fun _ => ?_
    · refine vj (?_ : Gs _ (.mk _ _ _ _) _)
      refine b_rev (by lia) h1 ?_
      refine rwE (Eq.symm (List.map_reverse)) ?_
      refine vj (?_ : Gs _ (.mk _ _ _ _) _)
      exact fin _ l.reverse (e1.set hb) (get_set_eq (lt_of_get h1)) (List.reverse_perm l)
    · refine vj (?_ : Gs _ (.mk _ _ _ _) _)
      exact fin σ1 l e1 h1 (List.Perm.refl _)
  -- the middle part
  have kB : ∀ (σ1 : H) (b : Nat) (l : List Nat) (s3 s4 : Option V), Ex σ σ1 → σ.length ≤ b → σ1[b]? = some (l.map nv) → OkL m l →
      Gs (.fn Φ (n + 1) x Q) (norm 400 [.sts (dMembersB dx ++ dMembersC)] [] [some (.int a), some (.int m), some (.ref b), s3, s4, none, none, none, none]) σ1 := by
    intro σ1 b l s3 s4 e1 hb h1 ok
    have hl : l.length ≤ m := pigeon m l ok.nd ok.lt
    refine (?_ : Gs _ (.mk _ _ _ _) _)
    refine k_dec (fun _ => ?_) fun _ => vj (kC σ1 b l s3 s4 e1 hb h1 ok)
    refine vj (?_ : Gs _ (.mk _ _ _ _) _)
    refine a_disp rfl ?_
    refine vj (?_ : Gs _ (.mk _ _ _ _) _)
    have e2 : Ex σ1 (σ1 ++ [[]]) := Ex.one
    have g2 : (σ1 ++ [[]])[σ1.length]? = some [] := last_get
    have hb1 : b < σ1.length := lt_of_get h1
    have el := e1.len
    generalize hc : σ1.length = c at *
    generalize σ1 ++ [[]] = σ2 at *
    refine (?_ : Gs _ (.mk _ _ _ _) _)
    refine while_rule (fun k mm σ' => Mini.Ek2 fun (L R : List Nat) => Mini.Cj6 (k = L.length) ((L ++ R).Perm l) (Ex σ σ') (σ'[b]? = some (L.map nv)) (σ'[c]? = some (R.map nv)) (mm = [some (.int a), some (.int m), some (.ref c), some (.ref b), s4, none, none, none, none])) (k := l.length)
      ⟨l, [], rfl, by simp, e1.trans e2, e2.get h1, g2, rfl⟩ ?_
    rintro k mm σ3 K ⟨L, R, rfl, p, e3, h3, g3, rfl⟩ hK
    have hLR : L.length + R.length = l.length := by (refine rwE (Eq.symm (p.length_eq)) ?_; (refine rwE List.length_append ?_; with_reducible rfl))
    refine vjT (?_ : Gs _ (.mk _ _ _ _) _)
    refine b_lenE h3 (by (rewrite [List.length_map]; with_reducible rfl)) ?_
    refine vj (vfT ?_)
    refine k_dec (fun hpos => ?_) fun hz => ?_
    · refine vjB (?_ : Gs _ (.mk _ _ _ _) _)
      refine b_lenE h3 (by (rewrite [List.length_map]; with_reducible rfl)) ?_
      refine vj (?_ : Gs _ (.mk _ _ _ _) _)
      refine d_mixed F (by lia) fun c1 hc1 => ?_
      refine vj (?_ : Gs _ (.mk _ _ _ _) _)
      refine b_lenE h3 (by (rewrite [List.length_map]; with_reducible rfl)) ?_
      refine vj (?_ : Gs _ (.mk _ _ _ _) _)
      refine b_mod (by assumption) ?_
      refine vj (?_ : Gs _ (.mk _ _ _ _) _)
      have hc2 := Int.emod_lt_of_pos c1 (show (0 : Int) < L.length by assumption)
      obtain ⟨j, hj⟩ := Int.eq_ofNat_of_zero_le (Int.emod_nonneg c1 (show (L.length : Int) ≠ 0 by lia))
      rw [hj] at hc2 ⊢
      have hjl : j < L.length := by lia
      have hjt : L[j]? = some L[j] := by simp [hjl]
      refine b_pop (by exact Nat.ne_of_gt (Nat.lt_of_lt_of_le (by assumption) (by assumption))) h3 (get_nv hjt) ?_
      refine vj (?_ : Gs _ (.mk _ _ _ _) _)
      refine b_app (by exact Nat.ne_of_gt (Nat.lt_of_lt_of_le (by assumption) (by assumption))) (get_set_ne (by lia) g3) (mlt (by lia)) ?_
      refine vj (?_ : Gs _ (.mk _ _ _ _) _)
      refine hK (L.eraseIdx j).length _ _ (by refine rwE (List.length_eraseIdx_of_lt hjl) ?_; lia) ⟨L.eraseIdx j, R ++ [L[j]], rfl, (pop_perm hjt).trans p, (e3.set hb).set (by assumption), get_set_ne (by exact Nat.ne_of_gt (by assumption)) ?_, ?_, rfl⟩
      · refine rwE (get_set_eq (lt_of_get h3)) ?_
        congr 1
        (rewrite [List.eraseIdx_eq_take_drop_succ]; rewrite [List.eraseIdx_eq_take_drop_succ]; refine rwE List.map_append ?_; refine rwE List.map_take ?_; (refine rwE List.map_drop ?_; with_reducible rfl))
      · (refine rwE (get_set_eq (by refine rwE List.length_set ?_; exact lt_of_get g3)) ?_; refine rwE List.map_append ?_); rfl
    · have : L = [] := List.length_eq_zero_iff.mp (by lia)
      subst this
      refine vj (?_ : Gs _ (.mk _ _ _ _) _)
      exact kC σ3 c R _ _ e3 (by assumption) g3 (ok.perm p)
  refine (?_ : Gs _ (.mk _ _ _ _) _)
  refine a_disp rfl ?_
  refine vj (?_ : Gs _ (.mk _ _ _ _) _)
  refine r_rgK (by lia) ?_
  refine forL_rule (fun i mm σ' => Mini.Ek3 fun (l : List Nat) (z : Int) (s4 : Option V) => Mini.Cj5 (l.Nodup) ((∀ w ∈ l, w < i)) (l.length ≤ i) (σ' = σ ++ [l.map nv]) (mm = [some (.int a), some (.int m), some (.ref σ.length), some (.int z), s4, none, none, none, none]))
    ⟨[], _, none, by simp, by simp, by simp, rfl, rfl⟩ ?_ ?_
  · rintro i u mm σ1 K hu ⟨l, z, s4, nd, lt, ll, rfl, rfl⟩ hK
    obtain ⟨rfl, hi⟩ := rangeV_get hu
    refine ⟨trivial, _, rfl, ?_⟩
    have no : Gs (.lp (.fn Φ (n + 1) x Q) K) (norm 400 [.sts [.set 3 (.bin .fdiv (.var 3) (.int (2)))]] [] [some (.int a), some (.int m), some (.ref σ.length), some (.int z), some (.int i), none, none, none, none]) (σ ++ [l.map nv]) := by
      refine (?_ : Gs _ (.mk _ _ _ _) _)
      exact hK _ _ ⟨l, _, _, nd, fun w hw => by have := lt w hw; exact Nat.le_succ_of_le (by assumption), by exact Nat.le_succ_of_le (by assumption), rfl, rfl⟩
    have yes : Gs (.lp (.fn Φ (n + 1) x Q) K) (norm 400 [.sts [.expr (.m1 .append (.var 2) (.var 4))], .sts [.set 3 (.bin .fdiv (.var 3) (.int (2)))]] [] [some (.int a), some (.int m), some (.ref σ.length), some (.int z), some (.int i), none, none, none, none]) (σ ++ [l.map nv]) := by
      refine (?_ : Gs _ (.mk _ _ _ _) _)
      refine b_app (by exact Nat.ne_of_gt (by assumption)) last_get (mlt (by lia)) ?_
      have s2 : (σ ++ [l.map nv]).set σ.length (l.map nv ++ [.int i]) = σ ++ [(l ++ [i]).map nv] := by simp [nv]
      refine rwE s2 ?_
      refine vj (?_ : Gs _ (.mk _ _ _ _) _)
      refine hK _ _ ⟨l ++ [i], _, _, ?_, ?_, by simp; assumption, rfl, rfl⟩
      · rewrite [List.nodup_append]
        refine ⟨nd, by simp, fun w hw y hy => ?_⟩
        simp at hy; have := lt w hw; lia
      · intro w hw
        rcases List.mem_append.mp hw with hw | hw
        · have := lt w hw; exact Nat.le_succ_of_le (by assumption)
        · simp at hw; lia
    refine vjB (?_ : Gs _ (.mk _ _ _ _) _)
    refine k_dec (fun _ => vj (k_yes (vj yes))) fun _ => ?_
    · refine vj (?_ : Gs _ (.mk _ _ _ _) _)
      refine k_dec (fun _ => ?_) fun _ => ?_
      · refine vj (?_ : Gs _ (.mk _ _ _ _) _)
        exact yes
      · refine vj (?_ : Gs _ (.mk _ _ _ _) _)
        exact no
  · rintro mm σ1 ⟨l, z, s4, nd, lt, ll, rfl, rfl⟩
    refine ⟨trivial, ?_⟩
    rw [rangeV_length, Int.toNat_natCast] at lt ll
    refine vj (?_ : Gs _ (.mk _ _ _ _) _)
    refine b_lenE last_get (by (rewrite [List.length_map]; with_reducible rfl)) ?_
    refine vj (?_ : Gs _ (.mk _ _ _ _) _)
    refine k_dec (fun h0 => ?_) fun h0 => ?_
    · refine vj (?_ : Gs _ (.mk _ _ _ _) _)
      refine b_mod (by lia) ?_
      refine vj (?_ : Gs _ (.mk _ _ _ _) _)
      refine a_disp rfl ?_
      refine vj (?_ : Gs _ (.mk _ _ _ _) _)
      obtain ⟨j, hj⟩ := Int.eq_ofNat_of_zero_le (Int.emod_nonneg (a / 4095) (show (m : Int) ≠ 0 by lia))
      have hj2 := Int.emod_lt_of_pos (a / 4095) (show (0 : Int) < m by lia)
      rw [hj] at hj2 ⊢
      refine (?_ : Gs _ (.mk _ _ _ _) _)
      exact kB _ _ [j] _ _ (Ex.one.trans Ex.one) (by simp) last_get ⟨by simp, by simp, fun w hw => by simp at hw; lia⟩
    · refine vj (?_ : Gs _ (.mk _ _ _ _) _)
      exact kB _ _ l _ _ Ex.one (Nat.le_refl _) last_get ⟨fun q => h0 (by refine rwE q ?_; rfl), nd, lt⟩
end
end Mini

set_option autoImplicit false
set_option linter.unusedVariables false
namespace Mini
theorem compIf_go {T : V → H → (Bool → H → Prop) → Prop} {F : V → H → P → Prop} {ok : H → Prop} {Q : P} (I : Nat → List V → H → Prop) :
    ∀ (its acc : List V) (σ : H) (k : Nat), acc.length ≤ k → k + its.length ≤ lim → (∀ i v acc σ (Kt : P) (Kf : H → Prop), its[i]? = some v → I (k + i) acc σ → (∀ r σ', I (k + i + 1) (acc ++ [r]) σ' → Kt r σ') → (∀ σ', I (k + i + 1) acc σ' → Kf σ') → ok σ ∧ T v σ fun b σ => if b then F v σ Kt else Kf σ) →
    (∀ acc σ, I (k + its.length) acc σ → ok σ ∧ Q (.ref σ.length) (σ ++ [acc])) → I k acc σ → compL T F ok its acc σ Q
  | [], acc, σ, k, hl, hn, step, fin, h => ⟨(fin acc σ h).1, Nat.le_trans hl (Nat.le_trans (Nat.le_add_right _ _) hn), (fin acc σ h).2⟩
  | v :: vs, acc, σ, k, hl, hn, step, fin, h => by
    simp only [List.length_cons] at hn
    have nx : ∀ acc', acc'.length ≤ k + 1 → ∀ σ', I (k + 1) acc' σ' → compL T F ok vs acc' σ' Q := fun acc' hl' σ' h' => compIf_go I vs acc' σ' (k + 1) hl' (by lia) (fun i v acc σ Kt Kf e hi h1 h2 => step (i + 1) v acc σ Kt Kf (by simpa using e) (by refine rwE (show k + (i + 1) = k + 1 + i by lia) ?_; exact hi) (fun r σ q => h1 r σ (by refine rwE (show k + 1 + i + 1 = k + (i + 1) + 1 by lia) ?_; exact q)) (fun σ q => h2 σ (by refine rwE (show k + 1 + i + 1 = k + (i + 1) + 1 by lia) ?_; exact q)))
      (fun acc σ q => fin acc σ (by refine rwE (show k + (v :: vs).length = k + 1 + vs.length by simp only [List.length_cons]; lia) ?_; exact q)) h'
    exact step 0 v acc σ (fun r σ => acc.length < lim ∧ compL T F ok vs (acc ++ [r]) σ Q) (fun σ => compL T F ok vs acc σ Q) rfl h (fun r σ' h' => ⟨by lia, nx _ (by simp; assumption) _ h'⟩) fun σ' h' => nx _ (by exact Nat.le_succ_of_le (by assumption)) _ h'
theorem compIf_rule {T : V → H → (Bool → H → Prop) → Prop} {F : V → H → P → Prop} {ok : H → Prop} {Q : P} (I : Nat → List V → H → Prop) {its : List V} {σ : H} (hn : its.length ≤ lim) (h0 : I 0 [] σ)
    (step : ∀ i v acc σ (Kt : P) (Kf : H → Prop), its[i]? = some v → I i acc σ → (∀ r σ', I (i + 1) (acc ++ [r]) σ' → Kt r σ') → (∀ σ', I (i + 1) acc σ' → Kf σ') → ok σ ∧ T v σ fun b σ => if b then F v σ Kt else Kf σ)
    (fin : ∀ acc σ, I its.length acc σ → ok σ ∧ Q (.ref σ.length) (σ ++ [acc])) : compL T F ok its [] σ Q :=
  compIf_go I its [] σ 0 (Nat.le_refl _) (by simpa using hn) (fun i v acc σ Kt Kf e hi h1 h2 => step i v acc σ Kt Kf e (by simpa using hi) (fun r σ q => h1 r σ (by simpa using q)) (fun σ q => h2 σ (by simpa using q))) (fun acc σ q => fin acc σ (by simpa using q)) h0
/-- gates that are drawn -/
structure Gts (σ : H) (k ga : Nat) (gates : List (Nat × List Nat)) : Prop where
  rep : ∃ gv, σ[ga]? = some gv ∧ A2 (GateR σ.length σ) gv gates
  ok : ∀ g ∈ gates, GateOk k g
theorem Gts.ex {σ σ' : H} {k ga : Nat} {gates : List (Nat × List Nat)} (G : Gts σ k ga gates) (e : Ex σ σ') : Gts σ' k ga gates := by
  obtain ⟨⟨gv, h1, h2⟩, h3⟩ := G
  exact ⟨⟨gv, e.get h1, h2.mono fun _ _ q => q.ex e e.len⟩, h3⟩
theorem Gts.at_ {σ : H} {k ga : Nat} {gates : List (Nat × List Nat)} (G : Gts σ k ga gates) {t : Nat} (ht : t < gates.length) : ∃ gv a, σ[ga]? = some gv ∧ gv[t]? = some (.tup [.str (gates.getD t (0, [])).1, .ref a]) ∧ σ[a]? = some ((gates.getD t (0, [])).2.map nv) := by
  obtain ⟨gv, h1, h2⟩ := G.rep
  obtain ⟨v, e1, a, rfl, _, e2⟩ := h2.right (get_of_lt (d := (0, [])) ht)
  exact ⟨gv, a, h1, e1, e2⟩
noncomputable def mem (gates : List (Nat × List Nat)) (w t : Nat) : Prop := w ∈ (gates.getD t (0, [])).2
theorem nat_mod {z : Int} {m : Nat} (hm : 0 < m) : ∃ t : Nat, z % m = t ∧ t < m := by
  obtain ⟨t, ht⟩ := Int.eq_ofNat_of_zero_le (Int.emod_nonneg z (show (m : Int) ≠ 0 by lia))
  have := Int.emod_lt_of_pos z (show (0 : Int) < m by lia)
  exact ⟨t, ht, by lia⟩
section
variable {Φ : Nat → Option Fn} {n : Nat} {σ : H} {Q : P} {x : X}
theorem d_gates (F : DF dx Φ) {a : Int} {m z : Nat} (hm : 1 ≤ m) (hm2 : m ≤ 12) (hz : z ≤ 12) (hs : 0 < σ.length) (hQ : ∀ σ' b (gates : List (Nat × List Nat)), Ex σ σ' → gates.length = z → Gts σ' m b gates → Q (.ref b) σ') : cW Φ (n + 3) dx.gates [.int a, .int m, .int z] σ Q x := by
  refine fn_in F.gates rfl (?_ : Gs _ (.mk _ _ _ _) _)
  refine a_disp rfl ?_
  refine vj (?_ : Gs _ (.mk _ _ _ _) _)
  refine r_rgK (by lia) ?_
  refine forL_rule (fun i mm σ' => Mini.Ek4 fun gv gates s4 s5 => Mini.Cj6 (Ex σ σ') (gates.length = i) (σ'[σ.length]? = some gv) (A2 (GateB (· = σ.length) σ') gv gates) ((∀ g ∈ gates, GateOk m g)) (mm = [some (.int a), some (.int m), some (.int z), some (.ref σ.length), s4, s5, none, none, none]))
    ⟨[], [], none, none, Ex.one, rfl, last_get, A2.nil, nofun, rfl⟩ ?_ ?_
  · rintro i u mm σ1 K hu ⟨gv, gates, s4, s5, e1, hl, h1, q1, ok, rfl⟩ hK
    obtain ⟨rfl, hi⟩ := rangeV_get hu
    refine ⟨trivial, _, rfl, ?_⟩
    refine vjB (?_ : Gs _ (.mk _ _ _ _) _)
    refine d_mixed F (by lia) fun c hc => ?_
    refine vj (?_ : Gs _ (.mk _ _ _ _) _)
    refine a_disp rfl ?_
    refine vj (?_ : Gs _ (.mk _ _ _ _) _)
    obtain ⟨t, ht, ht2⟩ := nat_mod (z := c) (m := 2) (by decide)
    have ht : c % 2 = t := ht
    refine rwE ht ?_
    refine (?_ : Gs _ (.mk _ _ _ _) _)
    refine x_item (v := .str t) last_get (by rcases (lt2 (by assumption)) with rfl | rfl <;> rfl) ?_
    refine vj (?_ : Gs _ (.mk _ _ _ _) _)
    refine d_members F hm hm2 (Ex.one.pos (e1.pos hs)) fun σ2 b l e2 hb h2 ok2 => ?_
    have e12 : Ex σ1 σ2 := Ex.one.trans e2
    refine vj (?_ : Gs _ (.mk _ _ _ _) _)
    have gl := q1.len
    have lt1 := lt_of_get h1
    refine (?_ : Gs _ (.mk _ _ _ _) _)
    refine b_app (by exact Nat.ne_of_gt (by assumption)) (e12.get h1) (by unfold lim; lia) ?_
    refine vj (?_ : Gs _ (.mk _ _ _ _) _)
    have ag : Ag (· = σ.length) σ1 (σ2.set σ.length (gv ++ [.tup [.str t, .ref b]])) := e12.ag.trans (Ag.set rfl)
    have hb1 : b ≠ σ.length := fun z => by
      have : σ1.length ≤ b := Nat.le_trans Ex.one.len hb
      lia
    refine (?_ : Gs _ (.mk _ _ _ _) _)
    refine hK _ _ ⟨_, gates ++ [(t, l)], _, _, (e1.trans e12).set (Nat.le_refl _), by simp [hl], get_set_eq (lt_of_get (e12.get h1)), (q1.mono fun _ _ q => q.ag ag).snoc ⟨b, rfl, hb1, get_set_ne (Ne.symm hb1) h2⟩, fun g hg => ?_, rfl⟩
    rcases List.mem_append.mp hg with z | z
    · exact ok g z
    · simp at z; subst z
      exact ⟨by show t = 0 ∨ t = 1; lia, ok2.ne, ok2.nd, ok2.lt⟩
  · rintro mm σ1 ⟨gv, gates, s4, s5, e1, hl, h1, q1, ok, rfl⟩
    refine ⟨trivial, ?_⟩
    rw [rangeV_length, Int.toNat_natCast] at hl
    refine vj (?_ : Gs _ (.mk _ _ _ _) _)
    exact hQ _ _ _ e1 hl ⟨⟨gv, h1, q1.mono fun _ _ q => q.toR⟩, ok⟩
theorem d_sequence (F : DF dx Φ) {a : Int} {z k : Nat} (hz : 1 ≤ z) (hk : k ≤ 1000) (hs : 0 < σ.length) (hQ : ∀ σ' b (l : List Nat), Ex σ σ' → l.length = k → σ'[b]? = some (l.map nv) → (∀ t ∈ l, t < z) → Q (.ref b) σ') : cW Φ (n + 2) dx.sequence [.int a, .int z, .int k] σ Q x := by
  refine fn_in F.sequence rfl (?_ : Gs _ (.mk _ _ _ _) _)
  refine a_disp rfl ?_
  refine vj (?_ : Gs _ (.mk _ _ _ _) _)
  refine r_rgK (by lia) ?_
  refine forL_rule (fun i mm σ' => Mini.Ek3 fun (l : List Nat) (s4 s5 : Option V) => Mini.Cj5 (l.length = i) ((∀ t ∈ l, t < z)) (Ex σ σ') (σ'[σ.length]? = some (l.map nv)) (mm = [some (.int a), some (.int z), some (.int k), some (.ref σ.length), s4, s5, none, none, none]))
    ⟨[], none, none, rfl, nofun, Ex.one, last_get, rfl⟩ ?_ ?_
  · rintro i u mm σ1 K hu ⟨l, s4, s5, hl, lt, e1, h1, rfl⟩ hK
    obtain ⟨rfl, hi⟩ := rangeV_get hu
    refine ⟨trivial, _, rfl, ?_⟩
    refine vjB (?_ : Gs _ (.mk _ _ _ _) _)
    refine d_mixed F (by lia) fun c hc => ?_
    refine vj (?_ : Gs _ (.mk _ _ _ _) _)
    have lt1 := lt_of_get h1
    have ll : (l.map nv).length < lim := mlt (by lia)
    have fin : ∀ t, t < z → ∃ L : List Nat, L.length = i + 1 ∧ (∀ t ∈ L, t < z) ∧ l.map nv ++ [V.int t] = L.map nv := fun t ht => ⟨l ++ [t], by simp [hl], fun y hy => (List.mem_append.mp hy).elim (lt y) fun q => by simp at q; lia, by simp [nv]⟩
    have yes : ∃ t, t < z ∧ c / 2 % z = (t : Int) := by
      obtain ⟨t, h1, h2⟩ := nat_mod (z := c / 2) (m := z) (by assumption)
      exact ⟨t, h2, h1⟩
    obtain ⟨t, ht, hc⟩ := yes
    obtain ⟨L, L1, L2, L3⟩ := fin t ht
    have yes : Gs (.lp (.fn Φ (n + 1) x Q) K) (norm 400 [.sts [.expr (.m1 .append (.var 3) (.bin .mod (.bin .fdiv (.var 5) (.int (2))) (.var 1)))], .sts []] [] [some (.int a), some (.int z), some (.int k), some (.ref σ.length), some (.int i), some (.int c), none, none, none]) σ1 := by
      refine (?_ : Gs _ (.mk _ _ _ _) _)
      refine b_mod (by lia) ?_
      refine vj (?_ : Gs _ (.mk _ _ _ _) _)
      refine rwE hc ?_
      refine b_app (by exact Nat.ne_of_gt (by assumption)) h1 ll ?_
      refine rwE L3 ?_
      refine vj (?_ : Gs _ (.mk _ _ _ _) _)
      exact hK _ _ ⟨L, _, _, L1, L2, e1.set (Nat.le_refl _), get_set_eq lt1, rfl⟩
    refine (?_ : Gs _ (.mk _ _ _ _) _)
    refine k_dec (fun _ => vj (k_yes (vj yes))) fun hi0 => ?_
    refine vj (?_ : Gs _ (.mk _ _ _ _) _)
    refine k_dec (fun _ => vj yes) fun _ => ?_
    refine vj (?_ : Gs _ (.mk _ _ _ _) _)
    have hil : i - 1 < l.length := by lia
    have hit : l[i - 1]? = some l[i - 1] := by simp [hil]
    obtain ⟨L', L1', L2', L3'⟩ := fin l[i - 1] (lt _ (List.mem_of_getElem? hit))
    refine rwE (show (i : Int) - 1 = (i - 1 : Nat) by lia) ?_
    refine (?_ : Gs _ (.mk _ _ _ _) _)
    refine x_item h1 (get_nv hit) ?_
    refine vj (?_ : Gs _ (.mk _ _ _ _) _)
    refine b_app (by exact Nat.ne_of_gt (by assumption)) h1 ll ?_
    refine rwE L3' ?_
    refine vj (?_ : Gs _ (.mk _ _ _ _) _)
    exact hK _ _ ⟨L', _, _, L1', L2', e1.set (Nat.le_refl _), get_set_eq lt1, rfl⟩
  · rintro mm σ1 ⟨l, s4, s5, hl, lt, e1, h1, rfl⟩
    refine ⟨trivial, ?_⟩
    rw [rangeV_length, Int.toNat_natCast] at hl
    refine vj (?_ : Gs _ (.mk _ _ _ _) _)
    exact hQ _ _ _ e1 hl h1 lt
theorem d_ownRow (F : DF dx Φ) {c : Int} {w k ga : Nat} {gates : List (Nat × List Nat)} (G : Gts σ k ga gates) (hg : gates.length ≤ 12) (hw : w ≤ 100) (hs : 0 < σ.length) (hQ : ∀ σ' b (l : List Nat), Ex σ σ' → σ.length ≤ b → σ'[b]? = some (l.map nv) → RowOk gates w l → Q (.ref b) σ') : cW Φ (n + 2) dx.ownRow [.int c, .int w, .ref ga] σ Q x := by
  refine fn_in F.ownRow rfl (?_ : Gs _ (.mk _ _ _ _) _)
  obtain ⟨gv, g1, g2⟩ := G.rep
  refine b_lenE g1 (by (refine rwE g2.len ?_; with_reducible rfl)) ?_
  refine vj (?_ : Gs _ (.mk _ _ _ _) _)
  refine r_rgK (by lia) ?_
  refine compIf_rule (fun i acc σ' => Mini.Cj2 (σ' = σ) (Mini.Ek1 fun (l : List Nat) => Mini.Cj3 (acc = l.map nv) (l.length ≤ i) (∀ t ∈ l, t < gates.length ∧ w ∈ (gates.getD t (0, [])).2))) (by rewrite [rangeV_length]; simp [lim]; exact Nat.le_trans (by assumption) (by decide)) ⟨rfl, [], rfl, Nat.le_refl _, nofun⟩ ?_ ?_
  · rintro i u acc σ' Kt Kf hu ⟨hσ, l, rfl, hl, hm⟩ h1 h2
    subst hσ
    obtain ⟨rfl, hi⟩ := rangeV_get hu
    have hi : i < gates.length := by lia
    refine ⟨trivial, ?_⟩
    obtain ⟨gv, a, y1, y2, y3⟩ := G.at_ hi
    refine vjF (?_ : Gs _ (.mk _ _ _ _) _)
    refine x_item y1 y2 ?_
    refine vj (?_ : Gs _ (.mk _ _ _ _) _)
    refine c_in y3 ?_
    refine vj (vfT ?_)
    refine k_dec (fun z => ?_) fun z => ?_
    · refine vjE (?_ : Gs _ (.mk _ _ _ _) _)
      exact h1 _ _ ⟨rfl, l ++ [i], by simp [nv], by simp; assumption, fun t ht => (List.mem_append.mp ht).elim (hm t) fun q => by simp at q; subst q; exact ⟨hi, z⟩⟩
    · skip
      exact h2 _ ⟨rfl, l, rfl, by exact Nat.le_succ_of_le (by assumption), hm⟩
  rintro acc σ' ⟨hσ, l, rfl, hl, hm⟩
  refine rwE hσ ?_
  clear hσ σ'
  refine ⟨trivial, ?_⟩
  rw [rangeV_length, Int.toNat_natCast] at hl
  refine vj (?_ : Gs _ (.mk _ _ _ _) _)
  refine a_disp rfl ?_
  refine vj (?_ : Gs _ (.mk _ _ _ _) _)
  refine b_lenE (Ex.one.get last_get) (by (rewrite [List.length_map]; with_reducible rfl)) ?_
  have l0 : (σ ++ [l.map nv])[σ.length]? = some (l.map nv) := last_get
  have e0 : Ex σ (σ ++ [l.map nv]) := Ex.one
  have ln : (σ ++ [l.map nv]).length = σ.length + 1 := by simp
  generalize σ ++ [l.map nv] = σ0 at *
  have fin : ∀ (σ1 : H) (s5 : Option V) (r : List Nat), Ex σ σ1 → σ1[σ0.length]? = some (r.map nv) → r.length ≤ 5 → (∀ t ∈ r, t ∈ l) → Gs (.fn Φ (n + 1) x Q) (norm 400 [.sts [.ret (.var 4)]] [] [some (.int c), some (.int w), some (.ref ga), some (.ref σ.length), some (.ref σ0.length), s5, none, none, none]) σ1 := by
    intro σ1 s5 r e1 h1 hr hm'
    refine (?_ : Gs _ (.mk _ _ _ _) _)
    exact hQ _ _ r e1 (by lia) h1 ⟨by exact Nat.le_trans (by assumption) (by decide), fun t ht => hm t (hm' t ht)⟩
  refine vj (?_ : Gs _ (.mk _ _ _ _) _)
  refine k_dec (fun hp => ?_) fun hp => vj (fin _ none [] (e0.trans Ex.one) last_get (Nat.zero_le _) nofun)
  refine vj (?_ : Gs _ (.mk _ _ _ _) _)
  refine d_mixed F (by lia) fun c1 hc1 => ?_
  refine vj (?_ : Gs _ (.mk _ _ _ _) _)
  obtain ⟨t, ht, ht2⟩ := nat_mod (z := c1) (m := 6) (by decide)
  have ht : c1 % 6 = t := ht
  refine rwE ht ?_
  refine (?_ : Gs _ (.mk _ _ _ _) _)
  refine r_rgK (by lia) ?_
  refine forL_rule (fun i mm σ' => Mini.Ek2 fun (r : List Nat) (s5 : Option V) => Mini.Cj5 (r.length = i) ((∀ t ∈ r, t ∈ l)) (Ex σ0 σ') (σ'[σ0.length]? = some (r.map nv)) (mm = [some (.int c), some (.int w), some (.ref ga), some (.ref σ.length), some (.ref σ0.length), s5, none, none, none]))
    ⟨[], none, rfl, nofun, Ex.one, last_get, rfl⟩ ?_ ?_
  · rintro i u mm σ1 K hu ⟨r, s5, hr, hm', e1, h1, rfl⟩ hK
    obtain ⟨rfl, hi⟩ := rangeV_get hu
    refine ⟨trivial, _, rfl, ?_⟩
    refine vjB (?_ : Gs _ (.mk _ _ _ _) _)
    refine b_mul (by lia) ?_
    refine vj (?_ : Gs _ (.mk _ _ _ _) _)
    refine d_mixed F (by lia) fun c2 hc2 => ?_
    refine vj (?_ : Gs _ (.mk _ _ _ _) _)
    refine b_lenE (e1.get l0) (by (rewrite [List.length_map]; with_reducible rfl)) ?_
    refine vj (?_ : Gs _ (.mk _ _ _ _) _)
    refine b_mod (by assumption) ?_
    refine vj (?_ : Gs _ (.mk _ _ _ _) _)
    obtain ⟨j, hj, hj2⟩ := nat_mod (z := c2 / 7) (m := l.length) (by lia)
    refine rwE hj ?_
    have hjt : l[j]? = some l[j] := by simp [hj2]
    refine (?_ : Gs _ (.mk _ _ _ _) _)
    refine x_item (e1.get l0) (get_nv hjt) ?_
    refine vj (?_ : Gs _ (.mk _ _ _ _) _)
    refine b_app (by lia) h1 (mlt (by lia)) ?_
    refine vj (?_ : Gs _ (.mk _ _ _ _) _)
    exact hK _ _ ⟨r ++ [l[j]], _, by simp [hr], fun t ht => (List.mem_append.mp ht).elim (hm' t) fun q => by simp at q; subst q; simp, e1.set (Nat.le_refl _), by refine rwE (get_set_eq (lt_of_get h1)) ?_; simp [nv], rfl⟩
  · rintro mm σ1 ⟨r, s5, hr, hm', e1, h1, rfl⟩
    rw [rangeV_length, Int.toNat_natCast] at hr
    exact ⟨trivial, vj (fin σ1 s5 r (e0.trans e1) h1 (by lia) hm')⟩
end
end Mini

set_option autoImplicit false
set_option linter.unusedVariables false
namespace Mini
noncomputable def dRowsA (dx : Dx) : List S := [
  .setC 3 dx.cellAt [(.var 0), (.int (3))],
  .set 4 (.bin .mod (.var 3) (.int (6))),
  .ite (.cmp .eq (.bin .mod (.bin .fdiv (.var 3) (.int (6))) (.int (8))) (.int (1))) [
    .set 4 (.bin .add (.int (6)) (.bin .mod (.bin .fdiv (.var 3) (.int (48))) (.int (10)))),
    .ite (.cmp .lt (.var 2) (.int (4))) [
      .set 4 (.bin .add (.int (7)) (.bin .mod (.bin .fdiv (.var 3) (.int (48))) (.int (34))))] []] []]
noncomputable def dRowsB (dx : Dx) : List S := [
  .setC 5 dx.sequence [(.call dx.cellAt [(.var 0), (.int (4))]), (.b1 .len (.var 1)), (.var 4)],
  .set 6 (.disp []),
  .for [7] (.range (.var 2)) [
    .expr (.m1 .append (.var 6) (.compIf (.var 11) 11 (.list (.var 5)) (.cmp .inn (.var 7) (.idx (.idx (.var 1) (.var 11)) (.int (1))))))],
  .setC 3 dx.cellAt [(.var 0), (.int (5))],
  .ite (.cmp .eq (.bin .mod (.call dx.mixed [(.var 3), (.int (3))]) (.int (3))) (.int (1))) [
    .ret (.comp (.call dx.ownRow [(.var 3), (.var 11), (.var 1)]) 11 (.range (.var 2)))] [],
  .set 8 (.bin .mod (.bin .fdiv (.var 3) (.int (5))) (.var 2)),
  .set 9 (.b1 .len (.idx (.var 6) (.var 8))),
  .ite (.and (.cmp .eq (.bin .mod (.var 3) (.int (5))) (.int (3))) (.cmp .gt (.var 9) (.int (0)))) [
    .set 10 (.bin .mod (.bin .fdiv (.var 3) (.int (60))) (.var 9)),
    .put (.var 6) (.var 8) (.bin .add (.upto (.idx (.var 6) (.var 8)) (.var 10)) (.from_ (.idx (.var 6) (.var 8)) (.bin .add (.var 10) (.int (1)))))] []]
noncomputable def dRowsC : List S := [
  .ite (.cmp .eq (.bin .mod (.var 3) (.int (5))) (.int (4))) [
    .expr (.m0 .reverse (.idx (.var 6) (.var 8)))] [],
  .ret (.var 6)]
noncomputable def dRows (dx : Dx) : Fn := ⟨3, 14, dRowsA dx ++ (dRowsB dx ++ dRowsC)⟩
noncomputable def dHallA (dx : Dx) : List S := [
  .setC 1 dx.cellAt [(.var 0), (.int (0))],
  .set 2 (.bin .add (.int (1)) (.bin .mod (.var 1) (.int (5)))),
  .ite (.cmp .eq (.bin .mod (.bin .fdiv (.var 1) (.int (5))) (.int (8))) (.int (1))) [
    .set 2 (.bin .add (.int (6)) (.bin .mod (.bin .fdiv (.var 1) (.int (40))) (.int (7))))] []]
noncomputable def dHallB (dx : Dx) : List S := [
  .setC 1 dx.cellAt [(.var 0), (.int (1))],
  .set 3 (.bin .add (.int (1)) (.bin .mod (.var 1) (.int (3)))),
  .ite (.cmp .eq (.bin .mod (.bin .fdiv (.var 1) (.int (3))) (.int (8))) (.int (1))) [
    .set 3 (.bin .add (.int (4)) (.bin .mod (.bin .fdiv (.var 1) (.int (24))) (.int (9))))] []]
noncomputable def dHallC (dx : Dx) : List S := [
  .setC 4 dx.gates [(.call dx.cellAt [(.var 0), (.int (2))]), (.var 2), (.var 3)],
  .ret (.disp [(.var 4), (.call dx.rows [(.var 0), (.var 4), (.var 2)])])]
noncomputable def dHall (dx : Dx) : Fn := ⟨1, 8, dHallA dx ++ (dHallB dx ++ dHallC dx)⟩
noncomputable def dWeave : Fn := ⟨2, 8, [
  .set 2 (.disp []),
  .for [3] (.list (.var 0)) [
    .set 4 (.bin .add (.int (1)) (.bin .mod (.bin .fdiv (.var 3) (.var 1)) (.int (3)))),
    .ite (.cmp .eq (.bin .mod (.bin .fdiv (.bin .fdiv (.var 3) (.var 1)) (.int (3))) (.int (8))) (.int (1))) [
      .set 4 (.int (9))] [],
    .set 2 (.bin .add (.var 2) (.bin .mul (.disp [(.bin .mod (.var 3) (.var 1))]) (.var 4)))],
  .ret (.var 2)]⟩
structure DG (dx : Dx) (Φ : Nat → Option Fn) : Prop where
  f : DF dx Φ
  rows : Φ dx.rows = some (dRows dx)
  hall : Φ dx.hall = some (dHall dx)
/-- rows that are drawn, at places of their own -/
structure RwL (σ : H) (n R : Nat) (as : List Nat) (rows : List (List Nat)) : Prop where
  at_ : σ[R]? = some (as.map V.ref)
  rw : A2 (fun a l => σ[a]? = some (List.map nv l)) as rows
  ge : ∀ a ∈ R :: as, n ≤ a
  nd : (R :: as).Nodup
theorem RowOk.sub {gates : List (Nat × List Nat)} {w : Nat} {l l' : List Nat} (h : RowOk gates w l) (hl : l'.length ≤ l.length) (hm : ∀ t ∈ l', t ∈ l) : RowOk gates w l' := ⟨Nat.le_trans hl h.len, fun t ht => h.lt t (hm t ht)⟩
theorem RwL.lt {σ : H} {n R : Nat} {as : List Nat} {rows : List (List Nat)} (r : RwL σ n R as rows) : ∀ a ∈ R :: as, a < σ.length := fun a ha => by
  rcases List.mem_cons.mp ha with rfl | ha
  · exact lt_of_get r.at_
  · obtain ⟨i, hi, rfl⟩ := List.getElem_of_mem ha
    obtain ⟨y, _, h2⟩ := r.rw.left (show as[i]? = some as[i] by simp [hi])
    exact lt_of_get h2
theorem RwL.ex {σ σ' : H} {n R : Nat} {as : List Nat} {rows : List (List Nat)} (r : RwL σ n R as rows) (e : Ex σ σ') : RwL σ' n R as rows := ⟨e.get r.at_, r.rw.mono fun _ _ z => e.get z, r.ge, r.nd⟩
theorem A2.set {α β : Type} {S : α → β → Prop} {xs : List α} {ys : List β} {i : Nat} {a : α} {b : β} (h : A2 S xs ys) (k : S a b) : A2 S (xs.set i a) (ys.set i b) := ⟨by simp [h.len], fun {j x y} h1 h2 => by
  by_cases hij : i = j
  · subst hij
    have l1 := lt_of_get h1
    have l2 := lt_of_get h2
    rw [List.length_set] at l1 l2
    rw [List.getElem?_set_self l1] at h1
    rw [List.getElem?_set_self l2] at h2
    cases h1; cases h2; exact k
  · rw [List.getElem?_set_ne hij] at h1 h2
    exact h.at_ h1 h2⟩
theorem nodup_set {a : Nat} : ∀ {l : List Nat} {i : Nat}, l.Nodup → a ∉ l → (l.set i a).Nodup
  | [], _, h, _ => h
  | b :: l, 0, h, n => List.nodup_cons.mpr ⟨fun z => n (.tail _ z), (List.nodup_cons.mp h).2⟩
  | b :: l, i + 1, h, n => by
    obtain ⟨h1, h2⟩ := List.nodup_cons.mp h
    refine List.nodup_cons.mpr ⟨fun z => ?_, nodup_set h2 fun z => n (.tail _ z)⟩
    rcases List.mem_or_eq_of_mem_set z with z | z
    · skip
      exact h1 z
    · exact n (z ▸ .head _)
section
variable {Φ : Nat → Option Fn} {n : Nat} {σ : H} {Q : P} {x : X}
theorem d_rowsC {σ1 : H} {c0 R k j : Nat} {c : Int} {as : List Nat} {rows : List (List Nat)} {gates : List (Nat × List Nat)} {s0 s1 s2 s4 s5 s7 s9 s10 : Option V} (hs : 0 < σ.length) (e : Ex σ σ1) (r : RwL σ1 σ.length R as rows) (hj : j < rows.length) (ok : ∀ w row, rows[w]? = some row → RowOk gates w row)
    (hQ : ∀ σ' b rv rows', Ex σ σ' → σ'[b]? = some rv → A2 (RowR σ'.length σ') rv rows' → rows'.length = rows.length → (∀ w row, rows'[w]? = some row → RowOk gates w row) → Q (.ref b) σ') :
    Gs (.fn Φ n x Q) (norm 400 [.sts dRowsC] [] [s0, s1, s2, some (.int c), s4, s5, some (.ref R), s7, some (.int j), s9, s10, none, none, none]) σ1 := by
  have fin : ∀ (σ2 : H) (rows' : List (List Nat)), Ex σ σ2 → RwL σ2 σ.length R as rows' → rows'.length = rows.length → (∀ w row, rows'[w]? = some row → RowOk gates w row) → Gs (.fn Φ n x Q) (norm 400 [.sts [.ret (.var 6)]] [] [s0, s1, s2, some (.int c), s4, s5, some (.ref R), s7, some (.int j), s9, s10, none, none, none]) σ2 := by
    intro σ2 rows' e2 r2 l2 ok2
    refine (?_ : Gs _ (.mk _ _ _ _) _)
    refine hQ _ _ _ rows' e2 r2.at_ ⟨by (rewrite [List.length_map]; (refine rwE r2.rw.len ?_; with_reducible rfl)), fun {i v y} h1 h2 => ?_⟩ l2 ok2
    rw [List.getElem?_map, Option.map_eq_some_iff] at h1
    obtain ⟨a, h1, rfl⟩ := h1
    have := r2.rw.at_ h1 h2
    exact ⟨a, rfl, lt_of_get this, this⟩
  refine (?_ : Gs _ (.mk _ _ _ _) _)
  refine k_dec (fun _ => ?_) fun _ => vj (fin σ1 rows e r rfl ok)
  refine vj (?_ : Gs _ (.mk _ _ _ _) _)
  obtain ⟨a, h1, h2⟩ := r.rw.right (get_of_lt (d := []) hj)
  refine x_item r.at_ (v := .ref a) (by (refine rwE List.getElem?_map ?_; refine rwE h1 ?_); rfl) ?_
  have am := List.mem_of_getElem? h1
  have ag := r.ge a (.tail _ am)
  refine vj (?_ : Gs _ (.mk _ _ _ _) _)
  refine b_rev (by exact Nat.ne_of_gt (Nat.lt_of_lt_of_le (by assumption) (by assumption))) h2 ?_
  refine vj (?_ : Gs _ (.mk _ _ _ _) _)
  refine fin _ (rows.set j (rows.getD j []).reverse) (e.set ag) ⟨get_set_ne (fun z => (List.nodup_cons.mp r.nd).1 (z ▸ am)) r.at_, ⟨by simp [r.rw.len], fun {i x y} p1 p2 => ?_⟩, r.ge, r.nd⟩ (by simp) fun w row hw => ?_
  · by_cases hij : j = i
    · subst hij
      rw [h1] at p1; cases p1
      rw [List.getElem?_set_self hj] at p2; cases p2
      show (σ1.set a (List.map nv (rows.getD j [])).reverse)[a]? = _
      (refine rwE (get_set_eq (lt_of_get h2)) ?_; (refine rwE List.map_reverse ?_; with_reducible rfl))
    · rw [List.getElem?_set_ne hij] at p2
      refine get_set_ne (fun z => hij ?_) (r.rw.at_ p1 p2)
      subst z
      exact List.getElem?_inj (lt_of_get h1) (List.nodup_cons.mp r.nd).2 |>.mp (h1.trans p1.symm)
  · by_cases hij : j = w
    · subst hij
      rw [List.getElem?_set_self hj] at hw; cases hw
      exact (ok j _ (get_of_lt hj)).sub (by simp) fun t ht => List.mem_reverse.mp ht
    · rw [List.getElem?_set_ne hij] at hw
      exact ok w row hw
theorem d_rowsB (F : DF dx Φ) {σ1 : H} {is : List Int} {m k ga : Nat} {c : Int} {gates : List (Nat × List Nat)} (hs : 0 < σ.length) (e : Ex σ σ1) (h0 : σ1[0]? = some (is.map V.int)) (hm : 1 ≤ m) (hm2 : m ≤ 12) (hk : k ≤ 40) (G : Gts σ1 m ga gates) (hg1 : 1 ≤ gates.length) (hg2 : gates.length ≤ 12)
    (hQ : ∀ σ' b rv rows', Ex σ σ' → σ'[b]? = some rv → A2 (RowR σ'.length σ') rv rows' → rows'.length = m → (∀ w row, rows'[w]? = some row → RowOk gates w row) → Q (.ref b) σ') :
    Gs (.fn Φ (n + 3) x Q) (norm 400 [.sts (dRowsB dx ++ dRowsC)] [] [some (.ref 0), some (.ref ga), some (.int m), some (.int c), some (.int k), none, none, none, none, none, none, none, none, none]) σ1 := by
  refine (?_ : Gs _ (.mk _ _ _ _) _)
  refine d_cellAt (k := 4) F h0 fun c1 => ?_
  refine vj (?_ : Gs _ (.mk _ _ _ _) _)
  obtain ⟨gv, g1, g2⟩ := G.rep
  refine b_lenE g1 (by (refine rwE g2.len ?_; with_reducible rfl)) ?_
  refine vj (?_ : Gs _ (.mk _ _ _ _) _)
  refine d_sequence F hg1 (by exact Nat.le_trans (by assumption) (by decide)) (e.pos hs) fun σ2 ln line e2 ll h2 lt => ?_
  refine vj (?_ : Gs _ (.mk _ _ _ _) _)
  refine a_disp rfl ?_
  refine vj (?_ : Gs _ (.mk _ _ _ _) _)
  have e12 := e.trans e2
  have R0 : RwL (σ2 ++ [[]]) σ.length σ2.length [] [] := ⟨last_get, A2.nil, fun a ha => by simp at ha; subst ha; exact e12.len, by simp⟩
  refine (?_ : Gs _ (.mk _ _ _ _) _)
  refine r_rgK (by lia) ?_
  refine forL_rule (fun i mm σ' => Mini.Ek3 fun as rows s7 => Mini.Cj5 (Ex σ2 σ') (RwL σ' σ.length σ2.length as rows) (rows.length = i) ((∀ w row, rows[w]? = some row → RowOk gates w row)) (mm = [some (.ref 0), some (.ref ga), some (.int m), some (.int c), some (.int k), some (.ref ln), some (.ref σ2.length), s7, none, none, none, none, none, none]))
    ⟨[], [], none, Ex.one, R0, rfl, fun w row hw => by simp at hw, rfl⟩ ?_ ?_
  · rintro i u mm σ3 K hu ⟨as, rows, s7, e3, r3, hl, ok, rfl⟩ hK
    obtain ⟨rfl, hi⟩ := rangeV_get hu
    refine ⟨trivial, _, rfl, ?_⟩
    refine vjB (?_ : Gs _ (.mk _ _ _ _) _)
    refine r_lsK (e3.get h2) ?_
    have G3 := G.ex (e2.trans e3)
    refine compIf_rule (fun q acc σ' => Mini.Cj2 (σ' = σ3) (Mini.Ek1 fun (l : List Nat) => Mini.Cj3 (acc = l.map nv) (l.length ≤ q) (∀ t ∈ l, t < gates.length ∧ i ∈ (gates.getD t (0, [])).2))) (by simp [lim]; lia) ⟨rfl, [], rfl, Nat.le_refl _, nofun⟩ ?_ ?_
    · rintro q v acc σ' Kt Kf hv ⟨hσ, l, rfl, hl, hm⟩ h1' h2'
      subst hσ
      obtain ⟨t, ht, rfl⟩ := nv_get hv
      have htl := lt t (List.mem_of_getElem? ht)
      refine ⟨e3.get h2, ?_⟩
      obtain ⟨gv, a, y1, y2, y3⟩ := G3.at_ htl
      refine vjF (?_ : Gs _ (.mk _ _ _ _) _)
      refine x_item y1 y2 ?_
      refine vj (?_ : Gs _ (.mk _ _ _ _) _)
      refine c_in y3 ?_
      refine vj (vfT ?_)
      refine k_dec (fun z => ?_) fun z => ?_
      · refine vjE (?_ : Gs _ (.mk _ _ _ _) _)
        exact h1' _ _ ⟨rfl, l ++ [t], by simp [nv], by simp; assumption, fun y hy => (List.mem_append.mp hy).elim (hm y) fun q => by simp at q; subst q; exact ⟨htl, z⟩⟩
      · exact h2' _ ⟨rfl, l, rfl, by exact Nat.le_succ_of_le (by assumption), hm⟩
    rintro acc σ' ⟨hσ, l, rfl, hll, hm⟩
    refine rwE hσ ?_
    clear hσ σ'
    refine ⟨e3.get h2, ?_⟩
    rw [List.length_map, ll] at hll
    have al := r3.rw.len
    have p2 := e12.pos hs
    refine vj (?_ : Gs _ (.mk _ _ _ _) _)
    refine b_app (by exact Nat.ne_of_gt (by assumption)) (Ex.one.get r3.at_) (mlt (by lia)) ?_
    refine vj (?_ : Gs _ (.mk _ _ _ _) _)
    have lt3 := r3.lt
    have lR := lt3 _ (.head _)
    refine (?_ : Gs _ (.mk _ _ _ _) _)
    refine hK _ _ ⟨as ++ [σ3.length], rows ++ [l], _, (e3.trans Ex.one).set (Nat.le_refl _), ⟨by (refine rwE (get_set_eq (by simp; exact Nat.le_succ_of_le (by assumption))) ?_; refine rwE List.map_append ?_); rfl, A2.snoc ⟨al, fun {j a y} q1 q2 => ?_⟩ (get_set_ne (by lia) last_get), ?_, ?_⟩, by simp [hl], ?_, rfl⟩
    · refine get_set_ne (fun z => (List.nodup_cons.mp r3.nd).1 (z ▸ List.mem_of_getElem? q1)) (Ex.one.get (r3.rw.at_ q1 q2))
    · intro a ha
      rcases List.mem_cons.mp ha with q | q
      · refine rwE q ?_; exact e12.len
      · rcases List.mem_append.mp q with q | q
        · exact r3.ge a (.tail _ q)
        · simp at q; refine rwE q ?_; exact (e12.trans e3).len
    · (refine rwE (Eq.symm (List.cons_append)) ?_; rewrite [List.nodup_append])
      exact ⟨r3.nd, by simp, fun a ha b hb => by simp at hb; have := lt3 a ha; lia⟩
    · intro w row hw
      by_cases hwl : w < rows.length
      · rw [List.getElem?_append_left hwl] at hw; exact ok w row hw
      · rw [List.getElem?_append_right (by lia)] at hw
        have : w - rows.length = 0 := by have := lt_of_get hw; simpa using this
        rw [this] at hw
        simp at hw
        have : w = i := by lia
        subst this hw
        exact ⟨by exact Nat.le_trans (by assumption) (by assumption), hm⟩
  rintro mm σ3 ⟨as, rows, s7, e3, r3, hl, ok, rfl⟩
  rw [rangeV_length, Int.toNat_natCast] at hl
  refine ⟨trivial, ?_⟩
  have e23 := e2.trans e3
  have G3 := G.ex e23
  refine vj (?_ : Gs _ (.mk _ _ _ _) _)
  refine d_cellAt (k := 5) F (e23.get h0) fun c2 => ?_
  refine vj (?_ : Gs _ (.mk _ _ _ _) _)
  refine d_mixed F (by decide) fun c3 hc3 => ?_
  refine vj (?_ : Gs _ (.mk _ _ _ _) _)
  have e13 := e12.trans e3
  refine (?_ : Gs _ (.mk _ _ _ _) _)
  refine k_dec (fun _ => ?_) fun _ => ?_
  · refine vj (?_ : Gs _ (.mk _ _ _ _) _)
    refine r_rgK (by lia) ?_
    refine comp_rule (fun i acc σ' => Mini.Cj2 (Ex σ3 σ') (Mini.Ek1 fun (rows : List (List Nat)) => Mini.Cj2 (A2 (RowR σ'.length σ') acc rows) (∀ w row, rows[w]? = some row → RowOk gates w row))) (by rewrite [rangeV_length]; simp [lim]; exact Nat.le_trans (by assumption) (by decide)) ⟨Ex.refl, [], A2.nil, fun w row hw => by simp at hw⟩ ?_ ?_
    · rintro i u acc σ' K hu hl ⟨e4, rows, q, ok⟩ hK
      obtain ⟨rfl, hi⟩ := rangeV_get hu
      refine ⟨trivial, ?_⟩
      refine vjE (?_ : Gs _ (.mk _ _ _ _) _)
      refine d_ownRow F (G3.ex e4) hg2 (by lia) ((e13.trans e4).pos hs) fun σ5 b l e5 hb h5 ok5 => ?_
      have ql := q.len
      refine vj (?_ : Gs _ (.mk _ _ _ _) _)
      refine hK _ _ ⟨e4.trans e5, rows ++ [l], (q.mono fun _ _ z => z.ex e5 e5.len).snoc ⟨b, rfl, lt_of_get h5, h5⟩, fun w row hw => ?_⟩
      by_cases hwl : w < rows.length
      · rw [List.getElem?_append_left hwl] at hw; exact ok w row hw
      · rw [List.getElem?_append_right (by lia)] at hw
        have : w - rows.length = 0 := by have := lt_of_get hw; simpa using this
        rw [this] at hw
        simp at hw
        have : w = i := by lia
        subst this hw
        exact ok5
    · rintro acc σ' hl ⟨e4, rows, q, ok⟩
      rw [rangeV_length, Int.toNat_natCast] at hl
      exact ⟨trivial, hQ _ _ _ rows (e13.trans (e4.trans Ex.one)) last_get (q.mono fun _ _ z => z.ex Ex.one Ex.one.len) (by refine rwE (Eq.symm (q.len)) ?_; exact hl) ok⟩
  · refine vj (?_ : Gs _ (.mk _ _ _ _) _)
    refine b_mod (by lia) ?_
    refine vj (?_ : Gs _ (.mk _ _ _ _) _)
    obtain ⟨j, hj, hj2⟩ := nat_mod (z := c2 / 5) (m := m) (by assumption)
    refine rwE hj ?_
    obtain ⟨a, y1, y2⟩ := r3.rw.right (get_of_lt (d := []) (show j < rows.length by lia))
    have y1' : (as.map V.ref)[j]? = some (.ref a) := by (refine rwE List.getElem?_map ?_; refine rwE y1 ?_); rfl
    refine (?_ : Gs _ (.mk _ _ _ _) _)
    refine x_item r3.at_ y1' ?_
    refine vj (?_ : Gs _ (.mk _ _ _ _) _)
    refine b_lenE y2 (by (rewrite [List.length_map]; with_reducible rfl)) ?_
    refine vj (?_ : Gs _ (.mk _ _ _ _) _)
    have okj := ok j _ (get_of_lt (d := []) (show j < rows.length by lia))
    have p2 := e12.pos hs
    have lt3 := r3.lt
    have no : Gs (.fn Φ (n + 3) x Q) (norm 400 [.sts dRowsC] [] [some (.ref 0), some (.ref ga), some (.int m), some (.int c2), some (.int k), some (.ref ln), some (.ref σ2.length), s7, some (.int j), some (.int (rows.getD j []).length), none, none, none, none]) σ3 :=
      d_rowsC (c0 := 0) (k := 0) hs e13 r3 (by lia) ok fun σ' b rv rows' h1 h2 h3 h4 h5 => hQ σ' b rv rows' h1 h2 h3 (by lia) h5
    refine (?_ : Gs _ (.mk _ _ _ _) _)
    refine k_dec (fun _ => ?_) fun _ => vj (k_no (vj no))
    refine vj (?_ : Gs _ (.mk _ _ _ _) _)
    refine k_dec (fun hp => ?_) fun _ => vj no
    refine vj (?_ : Gs _ (.mk _ _ _ _) _)
    refine b_mod (by assumption) ?_
    refine vj (?_ : Gs _ (.mk _ _ _ _) _)
    obtain ⟨t, ht, ht2⟩ := nat_mod (z := c2 / 60) (m := (rows.getD j []).length) (by lia)
    refine rwE ht ?_
    have hlj := okj.len
    refine (?_ : Gs _ (.mk _ _ _ _) _)
    refine x_item r3.at_ y1' ?_
    refine vj (?_ : Gs _ (.mk _ _ _ _) _)
    refine b_upto y2 (ml (by exact Nat.le_trans (by assumption) (by decide))) ?_
    refine vj (?_ : Gs _ (.mk _ _ _ _) _)
    refine x_item (Ex.one.get r3.at_) y1' ?_
    refine vj (?_ : Gs _ (.mk _ _ _ _) _)
    refine rwE (show (t : Int) + 1 = (t + 1 : Nat) by lia) ?_
    refine b_from (Ex.one.get y2) (ml (by exact Nat.le_trans (by assumption) (by decide))) ?_
    refine vj (?_ : Gs _ (.mk _ _ _ _) _)
    refine b_cat (Ex.one.get last_get) last_get (by (refine rwE List.length_take ?_; refine rwE List.length_drop ?_; rewrite [List.length_map]); exact Nat.le_trans (sm2 ht2) (Nat.le_trans hlj (by decide))) ?_
    refine vj (?_ : Gs _ (.mk _ _ _ _) _)
    (refine rwE (Eq.symm (List.map_take)) ?_; refine rwE (Eq.symm (List.map_drop)) ?_; refine rwE (Eq.symm (List.map_append)) ?_)
    have e5 : Ex σ3 (σ3 ++ [((rows.getD j []).take t).map nv] ++ [((rows.getD j []).drop (t + 1)).map nv] ++ [((rows.getD j []).take t ++ (rows.getD j []).drop (t + 1)).map nv]) := Ex.one.trans (Ex.one.trans Ex.one)
    have l5 : (σ3 ++ [((rows.getD j []).take t).map nv] ++ [((rows.getD j []).drop (t + 1)).map nv] ++ [((rows.getD j []).take t ++ (rows.getD j []).drop (t + 1)).map nv])[(σ3 ++ [((rows.getD j []).take t).map nv] ++ [((rows.getD j []).drop (t + 1)).map nv]).length]? = some (((rows.getD j []).take t ++ (rows.getD j []).drop (t + 1)).map nv) := last_get
    have g5 : σ3.length ≤ (σ3 ++ [((rows.getD j []).take t).map nv] ++ [((rows.getD j []).drop (t + 1)).map nv]).length := by simp
    generalize (σ3 ++ [((rows.getD j []).take t).map nv] ++ [((rows.getD j []).drop (t + 1)).map nv]).length = na at *
    generalize σ3 ++ [((rows.getD j []).take t).map nv] ++ [((rows.getD j []).drop (t + 1)).map nv] ++ [((rows.getD j []).take t ++ (rows.getD j []).drop (t + 1)).map nv] = σ5 at *
    have r5 := r3.ex e5
    have lR := lt3 _ (.head _)
    have na' : na ≠ σ2.length := by exact Nat.ne_of_gt (Nat.lt_of_lt_of_le (by assumption) (by assumption))
    refine (?_ : Gs _ (.mk _ _ _ _) _)
    refine s_puK (by exact Nat.ne_of_gt (by assumption)) r5.at_ (by lia) (by (rewrite [List.length_map]; refine rwE r3.rw.len ?_); lia) ?_
    (rewrite [Int.toNat_natCast]; refine rwE (show V.ref na = V.ref na from rfl) ?_; refine rwE (Eq.symm (List.map_set)) ?_)
    refine vj (?_ : Gs _ (.mk _ _ _ _) _)
    refine d_rowsC (c0 := 0) (k := 0) (σ := σ) (j := j) (as := as.set j na) (rows := rows.set j ((rows.getD j []).take t ++ (rows.getD j []).drop (t + 1))) hs ((e13.trans e5).set e12.len) ⟨get_set_eq (lt_of_get r5.at_), ⟨by simp [r3.rw.len], fun {i b y} q1 q2 => ?_⟩, ?_, ?_⟩ (by refine rwE List.length_set ?_; lia) (fun w row hw => ?_) fun σ' b rv rows' h1 h2 h3 h4 h5 => hQ σ' b rv rows' h1 h2 h3 (by (refine rwE h4 ?_; refine rwE List.length_set ?_); exact hl) h5
    · have q := (r5.rw.set (i := j) (a := na) l5).at_ q1 q2
      refine get_set_ne (fun z => ?_) q
      subst z
      rcases List.mem_or_eq_of_mem_set (List.mem_of_getElem? q1) with z | z
      · exact (List.nodup_cons.mp r3.nd).1 z
      · exact na' z.symm
    · intro b hb
      rcases List.mem_cons.mp hb with z | z
      · refine rwE z ?_; exact e12.len
      · rcases List.mem_or_eq_of_mem_set z with z | z
        · exact r3.ge b (.tail _ z)
        · refine rwE z ?_; exact Nat.le_trans e13.len g5
    · rewrite [List.nodup_cons]
      refine ⟨fun z => ?_, ?_⟩
      · rcases List.mem_or_eq_of_mem_set z with z | z
        · exact (List.nodup_cons.mp r3.nd).1 z
        · exact na' z.symm
      · refine nodup_set (List.nodup_cons.mp r3.nd).2 fun z => ?_
        have := lt3 na (.tail _ z)
        lia
    · by_cases hij : j = w
      · subst hij
        rw [List.getElem?_set_self (by lia)] at hw; cases hw
        refine okj.sub (by (refine rwE List.length_append ?_; refine rwE List.length_take ?_; refine rwE List.length_drop ?_); exact sm2 ht2) fun y hy => ?_
        exact (List.mem_append.mp hy).elim List.mem_of_mem_take List.mem_of_mem_drop
      · rw [List.getElem?_set_ne hij] at hw
        exact ok w row hw
theorem d_rows (F : DG dx Φ) {is : List Int} {m ga : Nat} {gates : List (Nat × List Nat)} (h0 : σ[0]? = some (is.map V.int)) (hm : 1 ≤ m) (hm2 : m ≤ 12) (G : Gts σ m ga gates) (hg1 : 1 ≤ gates.length) (hg2 : gates.length ≤ 12)
    (hQ : ∀ σ' b rv rows', Ex σ σ' → σ'[b]? = some rv → A2 (RowR σ'.length σ') rv rows' → rows'.length = m → (∀ w row, rows'[w]? = some row → RowOk gates w row) → Q (.ref b) σ') : cW Φ (n + 4) dx.rows [.ref 0, .ref ga, .int m] σ Q x := by
  refine fn_in F.rows rfl (?_ : Gs _ (.mk _ _ _ _) _)
  have go : ∀ c z : Int, 0 ≤ z → z ≤ 40 → Gs (.fn Φ (n + 3) x Q) (norm 400 [.sts (dRowsB dx ++ dRowsC)] [] [some (.ref 0), some (.ref ga), some (.int m), some (.int c), some (.int z), none, none, none, none, none, none, none, none, none]) σ := fun c z h1 h2 => by
    obtain ⟨k, rfl⟩ := Int.eq_ofNat_of_zero_le h1
    refine (?_ : Gs _ (.mk _ _ _ _) _)
    exact d_rowsB F.f (lt_of_get h0) Ex.refl h0 hm hm2 (by lia) G hg1 hg2 hQ
  refine (?_ : Gs _ (.mk _ _ _ _) _)
  refine d_cellAt (k := 3) F.f h0 fun c => ?_
  refine vj (?_ : Gs _ (.mk _ _ _ _) _)
  refine k_dec (fun _ => ?_) fun _ => ?_
  · refine vj (?_ : Gs _ (.mk _ _ _ _) _)
    refine k_dec (fun _ => ?_) fun _ => ?_
    · refine vj (?_ : Gs _ (.mk _ _ _ _) _)
      exact go _ _ (by lia) (by lia)
    · refine vj (?_ : Gs _ (.mk _ _ _ _) _)
      exact go _ _ (by lia) (by lia)
  · refine vj (?_ : Gs _ (.mk _ _ _ _) _)
    exact go _ _ (by lia) (by lia)
/-- a hall that is drawn: its gates and its rows -/
structure Drawn (σ : H) (ga ra : Nat) (gates : List (Nat × List Nat)) (rows : List (List Nat)) : Prop where
  gts : ∃ gv, σ[ga]? = some gv ∧ A2 (GateR σ.length σ) gv gates
  rws : ∃ rv, σ[ra]? = some rv ∧ A2 (RowR σ.length σ) rv rows
  ok : HallOk gates rows
theorem d_hall (F : DG dx Φ) {is : List Int} (h0 : σ[0]? = some (is.map V.int)) (hQ : ∀ σ' b ga ra gates rows, Ex σ σ' → σ'[b]? = some [.ref ga, .ref ra] → Drawn σ' ga ra gates rows → Q (.ref b) σ') : cW Φ (n + 5) dx.hall [.ref 0] σ Q x := by
  refine fn_in F.hall rfl (?_ : Gs _ (.mk _ _ _ _) _)
  have kC : ∀ (c : Int) (m z : Nat), 1 ≤ m → m ≤ 12 → 1 ≤ z → z ≤ 12 → Gs (.fn Φ (n + 4) x Q) (norm 400 [.sts (dHallC dx)] [] [some (.ref 0), some (.int c), some (.int m), some (.int z), none, none, none, none]) σ := by
    intro c m z hm hm2 hz hz2
    refine (?_ : Gs _ (.mk _ _ _ _) _)
    refine d_cellAt (k := 2) F.f h0 fun c2 => ?_
    refine vj (?_ : Gs _ (.mk _ _ _ _) _)
    refine d_gates F.f hm hm2 hz2 (lt_of_get h0) fun σ1 ga gates e1 hl G => ?_
    refine vj (?_ : Gs _ (.mk _ _ _ _) _)
    refine d_rows F (e1.get h0) hm hm2 G (by lia) (by lia) fun σ2 ra rv rows e2 h2 q2 hr ok => ?_
    refine vj (?_ : Gs _ (.mk _ _ _ _) _)
    refine a_disp rfl ?_
    refine vj (?_ : Gs _ (.mk _ _ _ _) _)
    obtain ⟨gv, g1, g2⟩ := G.rep
    refine hQ _ _ ga ra gates rows (e1.trans (e2.trans Ex.one)) last_get ⟨⟨gv, (e2.trans Ex.one).get g1, g2.mono fun _ _ q => q.ex (e2.trans Ex.one) (e2.trans Ex.one).len⟩, ⟨rv, Ex.one.get h2, q2.mono fun _ _ q => q.ex Ex.one Ex.one.len⟩, ⟨by lia, by lia, by lia, by lia, fun g hg => ?_, ok⟩⟩
    refine rwE hr ?_; exact G.ok g hg
  have kB : ∀ (c y : Int), 1 ≤ y → y ≤ 12 → Gs (.fn Φ (n + 4) x Q) (norm 400 [.sts (dHallB dx ++ dHallC dx)] [] [some (.ref 0), some (.int c), some (.int y), none, none, none, none, none]) σ := by
    intro c y h1 h2
    obtain ⟨m, rfl⟩ := Int.eq_ofNat_of_zero_le (show 0 ≤ y by lia)
    have go : ∀ c z : Int, 1 ≤ z → z ≤ 12 → Gs (.fn Φ (n + 4) x Q) (norm 400 [.sts (dHallC dx)] [] [some (.ref 0), some (.int c), some (.int m), some (.int z), none, none, none, none]) σ := fun c z h1 h2 => by
      obtain ⟨k, rfl⟩ := Int.eq_ofNat_of_zero_le (show 0 ≤ z by lia)
      refine (?_ : Gs _ (.mk _ _ _ _) _)
      exact kC c m k (by lia) (by lia) (by lia) (by lia)
    refine (?_ : Gs _ (.mk _ _ _ _) _)
    refine d_cellAt (k := 1) F.f h0 fun c1 => ?_
    refine vj (?_ : Gs _ (.mk _ _ _ _) _)
    refine k_dec (fun _ => ?_) fun _ => ?_
    · refine vj (?_ : Gs _ (.mk _ _ _ _) _)
      exact go _ _ (by lia) (by lia)
    · refine vj (?_ : Gs _ (.mk _ _ _ _) _)
      exact go _ _ (by lia) (by lia)
  refine (?_ : Gs _ (.mk _ _ _ _) _)
  refine d_cellAt (k := 0) F.f h0 fun c => ?_
  refine vj (?_ : Gs _ (.mk _ _ _ _) _)
  refine k_dec (fun _ => ?_) fun _ => ?_
  · refine vj (?_ : Gs _ (.mk _ _ _ _) _)
    exact kB _ _ (by lia) (by lia)
  · refine vj (?_ : Gs _ (.mk _ _ _ _) _)
    exact kB _ _ (by lia) (by lia)
theorem d_weave (FW : Φ dx.weave = some dWeave) {a m : Nat} {is : List Int} (ha : σ[a]? = some (is.map V.int)) (hl : is.length ≤ 63) (hm : 1 ≤ m) (hm2 : m ≤ 12) (hQ : ∀ σ' b (l : List Nat), Ex σ σ' → σ'[b]? = some (l.map nv) → (∀ w ∈ l, w < m) → l.length ≤ 567 → Q (.ref b) σ') : cW Φ (n + 1) dx.weave [.ref a, .int m] σ Q x := by
  refine fn_in FW rfl (?_ : Gs _ (.mk _ _ _ _) _)
  refine a_disp rfl ?_
  refine vj (?_ : Gs _ (.mk _ _ _ _) _)
  refine r_lsK (Ex.one.get ha) ?_
  refine forL_rule (fun i mm σ' => Mini.Ek4 fun (l : List Nat) (b : Nat) (s3 s4 : Option V) => Mini.Cj5 (Ex σ σ') (σ'[b]? = some (l.map nv)) ((∀ w ∈ l, w < m)) (l.length ≤ 9 * i) (mm = [some (.ref a), some (.int m), some (.ref b), s3, s4, none, none, none]))
    ⟨[], _, none, none, Ex.one, last_get, nofun, Nat.le_refl _, rfl⟩ ?_ ?_
  · rintro i u mm σ1 K hu ⟨l, b, s3, s4, e1, h1, lt, ll, rfl⟩ hK
    refine ⟨e1.get ha, ?_⟩
    have il := lt_of_get hu
    rw [List.length_map] at il
    rw [List.getElem?_map, Option.map_eq_some_iff] at hu
    obtain ⟨c, hc, rfl⟩ := hu
    refine ⟨_, rfl, ?_⟩
    have fin : ∀ z : Int, 1 ≤ z → z ≤ 9 → Gs (.lp (.fn Φ n x Q) K) (norm 400 [.sts [.set 2 (.bin .add (.var 2) (.bin .mul (.disp [(.bin .mod (.var 3) (.var 1))]) (.var 4)))]] [] [some (.ref a), some (.int m), some (.ref b), some (.int c), some (.int z), none, none, none]) σ1 := by
      intro z h2 h3
      obtain ⟨k, rfl⟩ := Int.eq_ofNat_of_zero_le (show 0 ≤ z by lia)
      refine (?_ : Gs _ (.mk _ _ _ _) _)
      refine b_mod (by lia) ?_
      refine vj (?_ : Gs _ (.mk _ _ _ _) _)
      refine a_disp rfl ?_
      refine vj (?_ : Gs _ (.mk _ _ _ _) _)
      obtain ⟨t, ht, ht2⟩ := nat_mod (z := c) (m := m) (by assumption)
      refine rwE ht ?_
      refine b_rep last_get (by lia) ?_
      refine vj (?_ : Gs _ (.mk _ _ _ _) _)
      refine b_cat (Ex.one.get (Ex.one.get h1)) last_get (by (rewrite [List.length_map]; rewrite [List.length_map]; refine rwE List.length_replicate ?_); simp only [lim]; lia) ?_
      refine vj (?_ : Gs _ (.mk _ _ _ _) _)
      refine hK _ _ ⟨l ++ List.replicate k t, _, _, _, e1.trans (Ex.one.trans (Ex.one.trans Ex.one)), ?_, ?_, by simp; lia, rfl⟩
      · (refine rwE List.map_append ?_; refine rwE (List.map_replicate (f := nv)) ?_)
        have : (List.replicate k (t : Int)).map V.int = List.replicate k (nv t) := by refine rwE List.map_replicate ?_; rfl
        refine rwE this ?_; exact last_get
      · intro w hw
        rcases List.mem_append.mp hw with z | z
        · exact lt w z
        · refine rwE (List.eq_of_mem_replicate z) ?_; exact ht2
    refine vjB (?_ : Gs _ (.mk _ _ _ _) _)
    refine b_fdiv (by lia) ?_
    refine vj (?_ : Gs _ (.mk _ _ _ _) _)
    refine b_fdiv (by lia) ?_
    refine vj (?_ : Gs _ (.mk _ _ _ _) _)
    refine k_dec (fun _ => ?_) fun _ => ?_
    · refine vj (?_ : Gs _ (.mk _ _ _ _) _)
      exact fin 9 (by decide) (by decide)
    · refine vj (?_ : Gs _ (.mk _ _ _ _) _)
      exact fin _ (by lia) (by lia)
  · rintro mm σ1 ⟨l, b, s3, s4, e1, h1, lt, ll, rfl⟩
    rw [List.length_map] at ll
    refine ⟨e1.get ha, ?_⟩
    refine vj (?_ : Gs _ (.mk _ _ _ _) _)
    exact hQ _ _ l e1 h1 lt (by lia)
end
end Mini

set_option autoImplicit false
set_option linter.unusedVariables false
namespace Mini
/-- a walker is within a gate -/
noncomputable abbrev Hl.inn (h : Hl) (w g : Nat) : Prop := (h.stg w).1 ≠ 2 ∧ (h.stg w).1 ≠ 10 ∧ h.at_ w = g
/-- a hall and what its gates are -/
structure Base (h : Hl) : Prop where
  wf : WF h
  gk : ∀ g, g < h.gates.length → GateOk h.rows.length (h.gate g)
section
variable {h : Hl} {w : Nat}
theorem at_row (f : WF h) (hw : w < h.rows.length) (h10 : (h.stg w).1 ≠ 10) : (h.row w)[h.dn w]? = some (h.at_ w) := get_of_lt (f.lt hw h10)
theorem nst_ne (f : WF h) (hw : w < h.rows.length) (h10 : (h.stg w).1 ≠ 10) (h6 : (h.stg w).1 ≠ 6) : (h.nst w).1 ≠ 2 ∧ (h.nst w).1 ≠ 10 := by
  obtain ⟨ha, _⟩ := f.at_ hw h10
  obtain ⟨c1, c2, c3⟩ := cell_rank (w := w) (t := h.time w) (f.st hw h10) h6 (f.cell _ ha)
  have e : h.nst w = (h.cstep w).2 := by unfold Hl.nst; (refine rwE (if_neg h6) ?_; with_reducible rfl)
  refine rwE e ?_
  refine ⟨fun z => ?_, c3⟩
  have c1 : rank (h.stg w) < rank (h.cstep w).2 := c1
  have : rank (h.cstep w).2 = 0 := by unfold rank; refine rwE z ?_; rfl
  lia
theorem step_passed (f : WF h) (hw : w < h.rows.length) (hi : h.idle w = false) (v g : Nat) : (h.step w).passed v g = if w = v ∧ (h.stg w).1 = 6 ∧ h.at_ w = g then h.passed v g + 1 else h.passed v g := by
  have S := f.stp hw hi
  have h10 := (idle_not hi).1
  unfold Hl.passed
  (refine rwE S.row ?_; rewrite [S.dn])
  by_cases hv : w = v
  · subst hv
    refine rwE (if_pos rfl) ?_
    by_cases h6 : (h.stg w).1 = 6
    · (refine rwE (if_pos h6) ?_; refine rwE (take_snoc (at_row f hw h10)) ?_; refine rwE List.count_append ?_; refine rwE List.count_singleton ?_)
      by_cases hg : h.at_ w = g <;> simp [h6, hg]
    · (refine rwE (if_neg h6) ?_; (refine rwE (if_neg (fun z => h6 z.2.1)) ?_; with_reducible rfl))
  · (refine rwE (if_neg hv) ?_; (refine rwE (if_neg (fun z => hv z.1)) ?_; with_reducible rfl))
theorem step_inn (f : WF h) (hw : w < h.rows.length) (hi : h.idle w = false) (v g : Nat) : (h.step w).inn v g ↔ if w = v then (h.stg w).1 ≠ 6 ∧ h.at_ w = g else h.inn v g := by
  have S := f.stp hw hi
  have h10 := (idle_not hi).1
  unfold Hl.inn
  rewrite [S.stg]
  have ea : (h.step w).at_ v = (h.row v).getD ((h.step w).dn v) 0 := by unfold Hl.at_; (refine rwE S.row ?_; with_reducible rfl)
  (refine rwE ea ?_; rewrite [S.dn])
  by_cases hv : w = v
  · subst hv
    (refine rwE (if_pos rfl) ?_; refine rwE (if_pos rfl) ?_; refine rwE (if_pos rfl) ?_)
    by_cases h6 : (h.stg w).1 = 6
    · have : (h.nst w).1 = 2 ∨ (h.nst w).1 = 10 := by
        unfold Hl.nst; refine rwE (if_pos h6) ?_; split
        · exact .inr rfl
        · exact .inl rfl
      exact ⟨fun z => (this.elim z.1 z.2.1).elim, fun z => absurd h6 z.1⟩
    · obtain ⟨n1, n2⟩ := nst_ne f hw h10 h6
      refine rwE (if_neg h6) ?_
      exact ⟨fun z => ⟨h6, z.2.2⟩, fun z => ⟨n1, n2, z.2⟩⟩
  · (refine rwE (if_neg hv) ?_; refine rwE (if_neg hv) ?_; refine rwE (if_neg hv) ?_); rfl
theorem Base.step (b : Base h) (hw : w < h.rows.length) : Base (h.step w) := ⟨b.wf.step hw, fun g hg => by
  have e : (h.step w).gate g = h.gate g := by unfold Hl.gate; (refine rwE Hl.step_gates ?_; with_reducible rfl)
  (refine rwE e ?_; refine rwE Hl.step_rows ?_); exact b.gk g (by rw [Hl.step_gates] at hg; exact hg)⟩
theorem step_idle (hi : h.idle w = true) : h.step w = h := by
  unfold Hl.idle at hi
  unfold Hl.step
  by_cases h10 : (h.stg w).1 = 10
  · (refine rwE (if_pos h10) ?_; with_reducible rfl)
  · refine rwE (if_neg h10) ?_
    have : h.vain w = true := by simpa [h10] using hi
    (refine rwE (if_pos this) ?_; with_reducible rfl)
theorem HallOk.base {gates : List (Nat × List Nat)} {rows : List (List Nat)} (k : HallOk gates rows) : Base (Hl.init gates rows) := ⟨k.wf, fun g hg => k.gate _ (List.mem_of_getElem? (get_of_lt hg))⟩
theorem init_at {gates : List (Nat × List Nat)} {rows : List (List Nat)} {w : Nat} (hw : w < rows.length) : (Hl.init gates rows).dn w = 0 ∧ (Hl.init gates rows).stg w = initSt ((Hl.init gates rows).row w) := by
  refine ⟨getD_of ?_, getD_of ?_⟩
  · show (List.replicate rows.length 0)[w]? = _
    simp [hw]
  · show (rows.map initSt)[w]? = _
    (refine rwE List.getElem?_map ?_; refine rwE (get_of_lt (d := []) hw) ?_); rfl
theorem init_out {gates : List (Nat × List Nat)} {rows : List (List Nat)} {w : Nat} (hw : w < rows.length) (g : Nat) : ¬ (Hl.init gates rows).inn w g ∧ (Hl.init gates rows).passed w g = 0 := by
  obtain ⟨h1, h2⟩ := init_at (gates := gates) hw
  refine ⟨fun z => ?_, ?_⟩
  · obtain ⟨z1, z2, _⟩ := z
    rw [h2] at z1 z2
    unfold initSt at z1 z2
    split at z1
    · exact z2 (by rename_i q; (refine rwE (if_pos q) ?_; with_reducible rfl))
    · exact z1 rfl
  · unfold Hl.passed; refine rwE h1 ?_; rfl
theorem init_cell' {gates : List (Nat × List Nat)} {rows : List (List Nat)} {g : Nat} (hg : g < gates.length) : (Hl.init gates rows).cell g = initCell ((Hl.init gates rows).gate g) := getD_of (by
  show (gates.map initCell)[g]? = _
  (refine rwE List.getElem?_map ?_; refine rwE (get_of_lt (d := (0, [])) hg) ?_); rfl)
end
theorem countP_one {l : List Nat} {p q : Nat → Bool} {w : Nat} (nd : l.Nodup) (hw : w ∈ l) (hp : p w = false) (hq : q w = true) (he : ∀ v, v ≠ w → q v = p v) : l.countP q = l.countP p + 1 := by
  induction l with
  | nil => cases hw
  | cons a l ih =>
    obtain ⟨n1, n2⟩ := List.nodup_cons.mp nd
    (refine rwE List.countP_cons ?_; refine rwE List.countP_cons ?_)
    by_cases ha : a = w
    · subst ha
      have : l.countP q = l.countP p := List.countP_congr fun v hv => by (refine rwE (he v fun z => n1 (z ▸ hv)) ?_; with_reducible rfl)
      (refine rwE this ?_; refine rwE hp ?_; refine rwE hq ?_); simp
    · (refine rwE (ih n2 ((List.mem_cons.mp hw).resolve_left (Ne.symm ha))) ?_; refine rwE (he a ha) ?_); lia
theorem cs_cnt {g : Nat × List Nat} {w t : Nat} {st : Nat × Nat} {l s : Int} : cellStep g w t st (.cnt l s) = if st.1 = 2 then (.cnt (l - 1) s, if l - 1 = 0 then (3, 0) else (5, 0)) else if st.1 = 3 then (.cnt g.2.length s, (4, 0)) else if st.1 = 4 then (.cnt l (signOf 0 t), (6, 0)) else (.cnt l s, (6, 0)) := rfl
/-- a gate that counts: K times all have passed it; tl: how often anybody has come -/
structure CI (h : Hl) (g tl K n : Nat) (left : Int) : Prop where
  cell : h.cell g = .cnt left ((K : Int) % 2)
  tal : tl = K * (h.gate g).2.length + n
  cnt : n = (h.gate g).2.countP fun w => decide (h.inn w g ∧ h.passed w g = K)
  ty : ∀ w ∈ (h.gate g).2, (¬ h.inn w g ∧ h.passed w g = K) ∨ (h.inn w g ∧ h.passed w g = K ∧ ((h.stg w).1 = 3 ∨ (h.stg w).1 = 4 ∨ (h.stg w).1 = 5)) ∨ (h.inn w g ∧ h.passed w g + 1 = K ∧ ((h.stg w).1 = 5 ∨ (h.stg w).1 = 6))
  ph : (left = (h.gate g).2.length - n ∧ n < (h.gate g).2.length ∧ ∀ w ∈ (h.gate g).2, h.inn w g → (h.stg w).1 ≠ 3 ∧ (h.stg w).1 ≠ 4) ∨
    (n = (h.gate g).2.length ∧ ∃ f ∈ (h.gate g).2, ((h.stg f).1 = 3 ∧ left = 0 ∨ (h.stg f).1 = 4 ∧ left = (h.gate g).2.length) ∧ ∀ w ∈ (h.gate g).2, w ≠ f → (h.stg w).1 ≠ 3 ∧ (h.stg w).1 ≠ 4)
section
variable {h : Hl} {w g tl K n : Nat} {left : Int}
theorem CI.all (c : CI h g tl K n left) (e : n = (h.gate g).2.length) : ∀ w ∈ (h.gate g).2, h.inn w g ∧ h.passed w g = K := fun w hw => by
  have := List.countP_eq_length.mp (c.cnt.symm.trans e) w hw
  simpa using this
/-- who comes finds one left -/
theorem CI.come (c : CI h g tl K n left) (hm : w ∈ (h.gate g).2) (hs : (h.stg w).1 = 2) : left = (h.gate g).2.length - n ∧ n < (h.gate g).2.length ∧ (∀ w ∈ (h.gate g).2, h.inn w g → (h.stg w).1 ≠ 3 ∧ (h.stg w).1 ≠ 4) ∧ h.passed w g = K := by
  have ni : ¬ h.inn w g := fun z => z.1 hs
  have hp : h.passed w g = K := by
    rcases c.ty w hm with z | z | z
    · exact z.2
    · exact absurd z.1 ni
    · exact absurd z.1 ni
  rcases c.ph with ⟨h1, h2, h3⟩ | ⟨h1, _⟩
  · exact ⟨h1, h2, h3, hp⟩
  · exact absurd (c.all h1 w hm).1 ni
theorem CI.other (f : WF h) (c : CI h g tl K n left) (hw : w < h.rows.length) (hi : h.idle w = false) (hg : h.at_ w ≠ g) : CI (h.step w) g tl K n left := by
  have S := f.stp hw hi
  have P := step_passed f hw hi
  have I := step_inn f hw hi
  have p0 : ∀ v, (h.step w).passed v g = h.passed v g := fun v => by (rewrite [P]; (refine rwE (if_neg fun z => hg z.2.2) ?_; with_reducible rfl))
  have i0 : ∀ v, (h.step w).inn v g ↔ h.inn v g := fun v => by
    rewrite [I]; split
    · rename_i z; subst z; exact ⟨fun z => absurd z.2 hg, fun z => absurd z.2.2 hg⟩
    · exact Iff.rfl
  have s0 : ∀ v, h.inn v g → (h.step w).stg v = h.stg v := fun v hv => by
    (rewrite [S.stg]; (refine rwE (if_neg fun z : w = v => hg (by refine rwE z ?_; exact hv.2.2)) ?_; with_reducible rfl))
  have eg : (h.step w).gate g = h.gate g := S.gate
  refine ⟨by (rewrite [S.cell]; refine rwE (if_neg hg) ?_; (refine rwE c.cell ?_; with_reducible rfl)), by refine rwE eg ?_; exact c.tal, ?_, ?_, ?_⟩
  · (refine rwE eg ?_; refine rwE c.cnt ?_)
    refine List.countP_congr fun v hv => ?_
    simp only [decide_eq_true_eq, i0, p0]
  · refine rwE eg ?_
    intro v hv
    (rewrite [i0]; rewrite [p0])
    rcases c.ty v hv with z | z | z
    · exact .inl z
    · refine rwE (s0 v z.1) ?_; exact .inr (.inl z)
    · refine rwE (s0 v z.1) ?_; exact .inr (.inr z)
  · refine rwE eg ?_
    rcases c.ph with ⟨h1, h2, h3⟩ | ⟨h1, u, h2, h3, h4⟩
    · exact .inl ⟨h1, h2, fun v hv hin => by refine rwE (s0 v ((i0 v).mp hin)) ?_; exact h3 v hv ((i0 v).mp hin)⟩
    · have al := c.all h1
      exact .inr ⟨h1, u, h2, by refine rwE (s0 u (al u h2).1) ?_; exact h3, fun v hv hne => by refine rwE (s0 v (al v hv).1) ?_; exact h4 v hv hne⟩
theorem CI.step (b : Base h) (hgl : g < h.gates.length) (hw0 : (h.gate g).1 = 0) (c : CI h g tl K n left) (hw : w < h.rows.length) (hi : h.idle w = false) : ∃ K n left, CI (h.step w) g (tl + if (h.stg w).1 = 2 ∧ h.at_ w = g then 1 else 0) K n left := by
  have f := b.wf
  by_cases hg : h.at_ w = g
  case neg => refine rwE (if_neg fun z => hg z.2) ?_; exact ⟨K, n, left, c.other f hw hi hg⟩
  have S := f.stp hw hi
  have P := step_passed f hw hi
  have I := step_inn f hw hi
  obtain ⟨h10, hv⟩ := idle_not hi
  have hm : w ∈ (h.gate g).2 := hg ▸ (f.at_ hw h10).2
  have nd := (b.gk g hgl).nodup
  have eg : (h.step w).gate g = h.gate g := S.gate
  have so : ∀ v, v ≠ w → (h.step w).stg v = h.stg v := fun v hv => by (rewrite [S.stg]; (refine rwE (if_neg (Ne.symm hv)) ?_; with_reducible rfl))
  have io : ∀ v, v ≠ w → ((h.step w).inn v g ↔ h.inn v g) := fun v hv => by (rewrite [I]; (refine rwE (if_neg (Ne.symm hv)) ?_; with_reducible rfl))
  have po : ∀ v, v ≠ w → (h.step w).passed v g = h.passed v g := fun v hv => by (rewrite [P]; (refine rwE (if_neg fun z => hv z.1.symm) ?_; with_reducible rfl))
  have st := f.st hw h10
  rw [hg] at st
  have cs : h.cstep w = cellStep (h.gate g) w (h.passed w g + 1) (h.stg w) (.cnt left ((K : Int) % 2)) := by
    unfold Hl.cstep Hl.time; (refine rwE hg ?_; (refine rwE c.cell ?_; with_reducible rfl))
  have sg : ∀ t : Nat, signOf 0 t = (t : Int) % 2 := fun t => rfl
  have wn : (h.step w).stg w = h.nst w := by (rewrite [S.stg]; (refine rwE (if_pos rfl) ?_; with_reducible rfl))
  have hcell : (h.stg w).1 ≠ 6 → (h.step w).cell g = (h.cstep w).1 := fun z => by (rewrite [S.cell]; refine rwE (if_pos hg) ?_; (refine rwE (if_neg z) ?_; with_reducible rfl))
  have hn : (h.stg w).1 ≠ 6 → h.nst w = (h.cstep w).2 := fun z => by unfold Hl.nst; (refine rwE (if_neg z) ?_; with_reducible rfl)
  have iw : (h.stg w).1 ≠ 6 → (h.step w).inn w g := fun z => by (rewrite [I]; refine rwE (if_pos rfl) ?_); exact ⟨z, hg⟩
  have pw : (h.stg w).1 ≠ 6 → (h.step w).passed w g = h.passed w g := fun z => by (rewrite [P]; (refine rwE (if_neg fun q => z q.2.1) ?_; with_reducible rfl))
  -- the sorts of the others stay
  have tyo : ∀ v ∈ (h.gate g).2, v ≠ w → (¬ (h.step w).inn v g ∧ (h.step w).passed v g = K) ∨ ((h.step w).inn v g ∧ (h.step w).passed v g = K ∧ (((h.step w).stg v).1 = 3 ∨ ((h.step w).stg v).1 = 4 ∨ ((h.step w).stg v).1 = 5)) ∨ ((h.step w).inn v g ∧ (h.step w).passed v g + 1 = K ∧ (((h.step w).stg v).1 = 5 ∨ ((h.step w).stg v).1 = 6)) := fun v hv hne => by
    (rewrite [io v hne]; refine rwE (po v hne) ?_; refine rwE (so v hne) ?_); exact c.ty v hv
  have cell := c.cell
  have hst : (h.stg w).1 = 2 ∨ (h.stg w).1 = 6 ∨ (h.stg w).1 = 3 ∨ (h.stg w).1 = 4 ∨ (h.stg w).1 = 5 := by
    rcases st with z | z | z | z
    · exact .inl z
    · exact .inr (.inl z)
    · exact .inr (.inr z.2)
    · exact absurd z.1 (by lia)
  rcases hst with z | z | z | z | z
  · -- come
    refine rwE (if_pos ⟨z, hg⟩) ?_
    have z6 : (h.stg w).1 ≠ 6 := by lia
    obtain ⟨c1, c2, c3, c4⟩ := c.come hm z
    have e1 : h.cstep w = (.cnt (left - 1) ((K : Int) % 2), if left - 1 = 0 then (3, 0) else (5, 0)) := by (refine rwE cs ?_; refine rwE cs_cnt ?_; (refine rwE (if_pos z) ?_; with_reducible rfl))
    have nc : n + 1 = (h.gate g).2.countP fun v => decide ((h.step w).inn v g ∧ (h.step w).passed v g = K) := by
      (refine rwE (countP_one (p := fun v => decide (h.inn v g ∧ h.passed v g = K)) nd hm (by simp only [decide_eq_false_iff_not]; exact fun q => q.1.1 z) (by simp only [decide_eq_true_eq]; exact ⟨iw z6, by refine rwE (pw z6) ?_; exact c4⟩) fun v hne => by simp only [io v hne, po v hne]) ?_; (refine rwE (Eq.symm (c.cnt)) ?_; with_reducible rfl))
    have ty' : ∀ s, ((h.step w).stg w).1 = s → (s = 3 ∨ s = 5) → ∀ v ∈ ((h.step w).gate g).2, (¬ (h.step w).inn v g ∧ (h.step w).passed v g = K) ∨ ((h.step w).inn v g ∧ (h.step w).passed v g = K ∧ (((h.step w).stg v).1 = 3 ∨ ((h.step w).stg v).1 = 4 ∨ ((h.step w).stg v).1 = 5)) ∨ ((h.step w).inn v g ∧ (h.step w).passed v g + 1 = K ∧ (((h.step w).stg v).1 = 5 ∨ ((h.step w).stg v).1 = 6)) := fun s hs hor v hv => by
      rw [eg] at hv
      by_cases hne : v = w
      · refine rwE hne ?_; exact .inr (.inl ⟨iw z6, by refine rwE (pw z6) ?_; exact c4, by lia⟩)
      · exact tyo v hv hne
    by_cases hl : left - 1 = 0
    · rw [if_pos hl] at e1
      have ws : ((h.step w).stg w).1 = 3 := by (refine rwE wn ?_; refine rwE (hn z6) ?_; (refine rwE e1 ?_; with_reducible rfl))
      refine ⟨K, n + 1, left - 1, by (refine rwE (hcell z6) ?_; (refine rwE e1 ?_; with_reducible rfl)), by (refine rwE eg ?_; refine rwE c.tal ?_); lia, by refine rwE eg ?_; exact nc, ty' 3 ws (.inl rfl), .inr ⟨by refine rwE eg ?_; lia, w, by refine rwE eg ?_; exact hm, .inl ⟨ws, hl⟩, fun v hv hne => ?_⟩⟩
      rw [eg] at hv
      have e2 := nc.symm.trans (show n + 1 = (h.gate g).2.length by lia)
      have := List.countP_eq_length.mp e2 v hv
      simp only [decide_eq_true_eq] at this
      refine rwE (so v hne) ?_
      exact c3 v hv ((io v hne).mp this.1)
    · rw [if_neg hl] at e1
      have ws : ((h.step w).stg w).1 = 5 := by (refine rwE wn ?_; refine rwE (hn z6) ?_; (refine rwE e1 ?_; with_reducible rfl))
      refine ⟨K, n + 1, left - 1, by (refine rwE (hcell z6) ?_; (refine rwE e1 ?_; with_reducible rfl)), by (refine rwE eg ?_; refine rwE c.tal ?_); lia, by refine rwE eg ?_; exact nc, ty' 5 ws (.inr rfl), .inl ⟨by refine rwE eg ?_; lia, by refine rwE eg ?_; lia, fun v hv hin => ?_⟩⟩
      rw [eg] at hv
      by_cases hne : v = w
      · refine rwE hne ?_; lia
      · refine rwE (so v hne) ?_; exact c3 v hv ((io v hne).mp hin)
  · -- pass
    refine rwE (if_neg fun q => by lia) ?_
    have iw' : ¬ (h.step w).inn w g := fun q => by rw [I, if_pos rfl] at q; exact q.1 z
    have pw' : (h.step w).passed w g = h.passed w g + 1 := by (rewrite [P]; (refine rwE (if_pos ⟨rfl, z, hg⟩) ?_; with_reducible rfl))
    have hin : h.inn w g := ⟨by lia, by assumption, hg⟩
    have hp : h.passed w g + 1 = K := by
      rcases c.ty w hm with y | y | y
      · exact absurd hin y.1
      · lia
      · exact y.2.1
    have ph : left = (h.gate g).2.length - n ∧ n < (h.gate g).2.length ∧ ∀ w ∈ (h.gate g).2, h.inn w g → (h.stg w).1 ≠ 3 ∧ (h.stg w).1 ≠ 4 := by
      rcases c.ph with y | y
      · exact y
      · have := c.all y.1 w hm; lia
    refine ⟨K, n, left, by (rewrite [S.cell]; refine rwE (if_pos hg) ?_; refine rwE (if_pos z) ?_); exact c.cell, by refine rwE eg ?_; exact c.tal, ?_, fun v hv => ?_, .inl ⟨by refine rwE eg ?_; exact ph.1, by refine rwE eg ?_; exact ph.2.1, fun v hv hin' => ?_⟩⟩
    · (refine rwE eg ?_; refine rwE c.cnt ?_)
      refine List.countP_congr fun v hv => ?_
      by_cases hne : v = w
      · refine rwE hne ?_
        simp only [decide_eq_true_eq]
        exact ⟨fun q => by lia, fun q => absurd q.1 iw'⟩
      · simp only [io v hne, po v hne]
    · rw [eg] at hv
      by_cases hne : v = w
      · refine rwE hne ?_; exact .inl ⟨iw', by lia⟩
      · exact tyo v hv hne
    · rw [eg] at hv
      by_cases hne : v = w
      · rw [hne] at hin'; exact absurd hin' iw'
      · refine rwE (so v hne) ?_; exact ph.2.2 v hv ((io v hne).mp hin')
  · -- fill
    refine rwE (if_neg fun q => by lia) ?_
    have z6 : (h.stg w).1 ≠ 6 := by lia
    have hin : h.inn w g := ⟨by lia, by assumption, hg⟩
    have e1 : h.cstep w = (.cnt (h.gate g).2.length ((K : Int) % 2), (4, 0)) := by (refine rwE cs ?_; refine rwE cs_cnt ?_; refine rwE (if_neg (by lia)) ?_; (refine rwE (if_pos z) ?_; with_reducible rfl))
    have ws : ((h.step w).stg w).1 = 4 := by (refine rwE wn ?_; refine rwE (hn z6) ?_; (refine rwE e1 ?_; with_reducible rfl))
    have hp : h.passed w g = K := by
      rcases c.ty w hm with y | y | y
      · exact absurd hin y.1
      · exact y.2.1
      · lia
    have ph : n = (h.gate g).2.length ∧ ∀ v ∈ (h.gate g).2, v ≠ w → (h.stg v).1 ≠ 3 ∧ (h.stg v).1 ≠ 4 := by
      rcases c.ph with y | ⟨y1, u, y2, y3, y4⟩
      · exact absurd z (y.2.2 w hm hin).1
      · have : u = w := by
          by_cases q : w = u
          · exact q.symm
          · exact absurd z (y4 w hm q).1
        subst this
        exact ⟨y1, y4⟩
    refine ⟨K, n, (h.gate g).2.length, by (refine rwE (hcell z6) ?_; (refine rwE e1 ?_; with_reducible rfl)), by refine rwE eg ?_; exact c.tal, ?_, fun v hv => ?_, .inr ⟨by refine rwE eg ?_; exact ph.1, w, by refine rwE eg ?_; exact hm, .inr ⟨ws, by (refine rwE eg ?_; with_reducible rfl)⟩, fun v hv hne => by refine rwE (so v hne) ?_; exact ph.2 v (by rw [eg] at hv; exact hv) hne⟩⟩
    · (refine rwE eg ?_; refine rwE c.cnt ?_)
      refine List.countP_congr fun v hv => ?_
      by_cases hne : v = w
      · refine rwE hne ?_
        simp only [decide_eq_true_eq, pw z6]
        exact ⟨fun q => ⟨iw z6, q.2⟩, fun q => ⟨hin, q.2⟩⟩
      · simp only [io v hne, po v hne]
    · rw [eg] at hv
      by_cases hne : v = w
      · refine rwE hne ?_; exact .inr (.inl ⟨iw z6, by refine rwE (pw z6) ?_; exact hp, .inr (.inl ws)⟩)
      · exact tyo v hv hne
  · -- turn
    refine rwE (if_neg fun q => by lia) ?_
    have z6 : (h.stg w).1 ≠ 6 := by lia
    have hin : h.inn w g := ⟨by lia, by assumption, hg⟩
    have hp : h.passed w g = K := by
      rcases c.ty w hm with y | y | y
      · exact absurd hin y.1
      · exact y.2.1
      · lia
    have ph : n = (h.gate g).2.length ∧ left = (h.gate g).2.length ∧ ∀ v ∈ (h.gate g).2, v ≠ w → (h.stg v).1 ≠ 3 ∧ (h.stg v).1 ≠ 4 := by
      rcases c.ph with y | ⟨y1, u, y2, y3, y4⟩
      · exact absurd z (y.2.2 w hm hin).2
      · have : u = w := by
          by_cases q : w = u
          · exact q.symm
          · exact absurd z (y4 w hm q).2
        subst this
        exact ⟨y1, by lia, y4⟩
    have e1 : h.cstep w = (.cnt left (((K + 1 : Nat) : Int) % 2), (6, 0)) := by (refine rwE cs ?_; refine rwE cs_cnt ?_; refine rwE (if_neg (by lia)) ?_; refine rwE (if_neg (by lia)) ?_; refine rwE (if_pos z) ?_; rewrite [sg]; (refine rwE hp ?_; with_reducible rfl))
    have ws : ((h.step w).stg w).1 = 6 := by (refine rwE wn ?_; refine rwE (hn z6) ?_; (refine rwE e1 ?_; with_reducible rfl))
    have al := c.all ph.1
    have t5 : ∀ v ∈ (h.gate g).2, v ≠ w → (h.stg v).1 = 5 := fun v hv hne => by
      have := ph.2.2 v hv hne
      rcases c.ty v hv with y | y | y
      · exact absurd (al v hv).1 y.1
      · lia
      · have := (al v hv).2; lia
    have ml := List.length_pos_iff.mpr (b.gk g hgl).some
    have tal : tl + 0 = (K + 1) * (h.gate g).2.length + 0 := by (refine rwE c.tal ?_; rewrite [Nat.succ_mul]); lia
    refine ⟨K + 1, 0, left, by (refine rwE (hcell z6) ?_; (refine rwE e1 ?_; with_reducible rfl)), by refine rwE eg ?_; exact tal, ?_, fun v hv => ?_, .inl ⟨by refine rwE eg ?_; lia, by refine rwE eg ?_; assumption, fun v hv hin' => ?_⟩⟩
    · refine rwE eg ?_
      refine (List.countP_eq_zero.mpr fun v hv => ?_).symm
      simp only [decide_eq_true_eq]
      intro q
      have := (al v hv).2
      by_cases hne : v = w
      · rw [hne, pw z6] at q; rw [hne] at this; lia
      · rw [po v hne] at q; lia
    · rw [eg] at hv
      have := (al v hv).2
      by_cases hne : v = w
      · refine rwE hne ?_; exact .inr (.inr ⟨iw z6, by refine rwE (pw z6) ?_; lia, .inr ws⟩)
      · exact .inr (.inr ⟨(io v hne).mpr (al v hv).1, by refine rwE (po v hne) ?_; lia, .inl (by refine rwE (so v hne) ?_; exact t5 v hv hne)⟩)
    · rw [eg] at hv
      by_cases hne : v = w
      · refine rwE hne ?_; lia
      · (refine rwE (so v hne) ?_; refine rwE (t5 v hv hne) ?_); decide
  · -- look
    refine rwE (if_neg fun q => by lia) ?_
    have z6 : (h.stg w).1 ≠ 6 := by lia
    have hin : h.inn w g := ⟨by lia, by assumption, hg⟩
    have e1 : h.cstep w = (.cnt left ((K : Int) % 2), (6, 0)) := by (refine rwE cs ?_; refine rwE cs_cnt ?_; refine rwE (if_neg (by lia)) ?_; refine rwE (if_neg (by lia)) ?_; (refine rwE (if_neg (by lia)) ?_; with_reducible rfl))
    have ws : ((h.step w).stg w).1 = 6 := by (refine rwE wn ?_; refine rwE (hn z6) ?_; (refine rwE e1 ?_; with_reducible rfl))
    have hs : (K : Int) % 2 = ((h.passed w g + 1 : Nat) : Int) % 2 := by
      have : h.vain w = (decide ((h.stg w).1 = 5) && decide ((K : Int) % 2 ≠ signOf 0 (h.passed w g + 1))) := by
        unfold Hl.vain Hl.time cellVain; (refine rwE hg ?_; (refine rwE c.cell ?_; with_reducible rfl))
      rw [this, z, sg] at hv
      simpa using hv
    have hp : h.passed w g + 1 = K := by
      rcases c.ty w hm with y | y | y
      · exact absurd hin y.1
      · have := y.2.1; lia
      · exact y.2.1
    have ph : left = (h.gate g).2.length - n ∧ n < (h.gate g).2.length ∧ ∀ w ∈ (h.gate g).2, h.inn w g → (h.stg w).1 ≠ 3 ∧ (h.stg w).1 ≠ 4 := by
      rcases c.ph with y | y
      · exact y
      · have := c.all y.1 w hm; lia
    refine ⟨K, n, left, by (refine rwE (hcell z6) ?_; (refine rwE e1 ?_; with_reducible rfl)), by refine rwE eg ?_; exact c.tal, ?_, fun v hv => ?_, .inl ⟨by refine rwE eg ?_; exact ph.1, by refine rwE eg ?_; exact ph.2.1, fun v hv hin' => ?_⟩⟩
    · (refine rwE eg ?_; refine rwE c.cnt ?_)
      refine List.countP_congr fun v hv => ?_
      by_cases hne : v = w
      · refine rwE hne ?_
        simp only [decide_eq_true_eq, pw z6]
        exact ⟨fun q => ⟨iw z6, q.2⟩, fun q => ⟨hin, q.2⟩⟩
      · simp only [io v hne, po v hne]
    · rw [eg] at hv
      by_cases hne : v = w
      · refine rwE hne ?_; exact .inr (.inr ⟨iw z6, by refine rwE (pw z6) ?_; exact hp, .inr ws⟩)
      · exact tyo v hv hne
    · rw [eg] at hv
      by_cases hne : v = w
      · refine rwE hne ?_; lia
      · refine rwE (so v hne) ?_; exact ph.2.2 v hv ((io v hne).mp hin')
theorem CI.init {gates : List (Nat × List Nat)} {rows : List (List Nat)} {g : Nat} (k : HallOk gates rows) (hg : g < gates.length) (hw0 : ((Hl.init gates rows).gate g).1 = 0) : CI (Hl.init gates rows) g 0 0 0 ((Hl.init gates rows).gate g).2.length := by
  have gk := k.base.gk g hg
  have lt : ∀ w ∈ ((Hl.init gates rows).gate g).2, w < rows.length := gk.lt
  refine ⟨?_, by simp, ?_, fun w hw => .inl (init_out (lt w hw) g), .inl ⟨by lia, List.length_pos_iff.mpr gk.some, fun w hw hin => absurd hin (init_out (lt w hw) g).1⟩⟩
  · refine rwE (init_cell' hg) ?_; unfold initCell; refine rwE (if_pos hw0) ?_; rfl
  · refine (List.countP_eq_zero.mpr fun v hv => ?_).symm
    simp only [decide_eq_true_eq]
    exact fun q => (init_out (lt v hv) g).1 q.1
end
end Mini

set_option autoImplicit false
set_option linter.unusedVariables false
namespace Mini
theorem rnd_pow : ∀ m : Nat, m ≤ 16 → m ≤ 2 ^ rnd m := by
  have : ∀ m : Fin 17, m.1 ≤ 2 ^ rnd m.1 := by decide +kernel
  exact fun m hm => this ⟨m, by lia⟩
/-- how often a walker has told, and heard, a round -/
abbrev toldR (st : Nat × Nat) (r : Nat) : Prop := st.1 = 6 ∨ (st.1 = 7 ∧ r < st.2) ∨ (st.1 = 8 ∧ r ≤ st.2)
abbrev heardR (st : Nat × Nat) (r : Nat) : Prop := st.1 = 6 ∨ (st.1 = 7 ∧ r < st.2) ∨ (st.1 = 8 ∧ r < st.2)
noncomputable abbrev Hl.tl (h : Hl) (w g r : Nat) : Nat := h.passed w g + if h.inn w g ∧ toldR (h.stg w) r then 1 else 0
noncomputable abbrev Hl.hr (h : Hl) (w g r : Nat) : Nat := h.passed w g + if h.inn w g ∧ heardR (h.stg w) r then 1 else 0
noncomputable abbrev Hl.cm (h : Hl) (w g : Nat) : Nat := h.passed w g + if h.inn w g then 1 else 0
theorem tl_le {h : Hl} {w g r : Nat} : h.passed w g ≤ h.tl w g r ∧ h.tl w g r ≤ h.cm w g := by
  unfold Hl.tl Hl.cm
  by_cases hi : h.inn w g
  · refine rwE (if_pos hi) ?_; split <;> lia
  · (refine rwE (if_neg hi) ?_; refine rwE (if_neg fun z => hi z.1) ?_); lia
theorem hr_le {h : Hl} {w g r : Nat} : h.passed w g ≤ h.hr w g r ∧ h.hr w g r ≤ h.tl w g r := by
  unfold Hl.hr Hl.tl
  by_cases hi : h.inn w g ∧ heardR (h.stg w) r
  · (refine rwE (if_pos hi) ?_; refine rwE (if_pos ⟨hi.1, by have := hi.2; unfold heardR at this; unfold toldR; lia⟩) ?_); lia
  · refine rwE (if_neg hi) ?_; split <;> lia
theorem tl_hr {h : Hl} {w g r : Nat} : h.tl w g (r + 1) ≤ h.hr w g r := by
  unfold Hl.hr Hl.tl
  by_cases hi : h.inn w g ∧ toldR (h.stg w) (r + 1)
  · (refine rwE (if_pos hi) ?_; refine rwE (if_pos ⟨hi.1, by have := hi.2; unfold toldR at this; unfold heardR; lia⟩) ?_); exact Nat.le_refl _
  · refine rwE (if_neg hi) ?_; split <;> lia
/-- the sign for a time, and the last time of a parity -/
noncomputable def sgz (k : Int) : Int := 1 - (k - 1) / 2 % 2
noncomputable def lastk (q : Nat) (t : Nat) : Int := if t % 2 = q then (t : Int) else t - 1
theorem sgz_flip (k : Int) : sgz (k - 2) ≠ sgz k := fun e => by
  have e1 : k - 2 - 1 = (k - 1) + (-1) * 2 := by (refine rwE Int.sub_eq_add_neg ?_; refine rwE Int.sub_eq_add_neg ?_; rewrite [Int.add_right_comm]); rfl
  unfold sgz at e
  rw [e1, Int.add_mul_ediv_right _ _ (by decide)] at e
  have e2 := (Int.emod_eq_emod_iff_emod_sub_eq_zero).mp ((Int.sub_right_inj _).mp e)
  rw [Int.add_comm, Int.add_sub_cancel] at e2
  exact absurd e2 (by decide)
theorem sign_sgz (t : Nat) : signOf 1 t = sgz t := rfl
/-- by its sign a box tells whether a time has been told -/
theorem sgz_iff {k t : Nat} (h1 : k ≤ t + 2) (h2 : t ≤ k + 1) : sgz (lastk (k % 2) t) = sgz k ↔ k ≤ t := by
  unfold lastk
  have f := sgz_flip k
  rcases (show t + 2 = k ∨ t + 1 = k ∨ t = k ∨ t = k + 1 by lia) with z | z | z | z
  · (refine rwE (if_pos (by lia)) ?_; refine rwE (show (t : Int) = k - 2 by lia) ?_)
    exact ⟨fun q => absurd q f, fun q => by lia⟩
  · (refine rwE (if_neg (by lia)) ?_; refine rwE (show (t : Int) - 1 = k - 2 by lia) ?_)
    exact ⟨fun q => absurd q f, fun q => by lia⟩
  · (refine rwE (if_pos (by lia)) ?_; refine rwE z ?_)
    exact ⟨fun _ => Nat.le_refl _, fun _ => rfl⟩
  · (refine rwE (if_neg (by lia)) ?_; refine rwE (show (t : Int) - 1 = k by lia) ?_)
    exact ⟨fun _ => by lia, fun _ => rfl⟩
/-- a gate in rows -/
structure RI (h : Hl) (g : Nat) (b : List (List Int)) : Prop where
  cell : h.cell g = .row b
  box : ∀ v ∈ (h.gate g).2, ∀ r, r < rnd (h.gate g).2.length → ∀ q, q < 2 → (b.getD (((h.gate g).2.idxOf v + 2 ^ r) % (h.gate g).2.length) []).getD (if q = 0 then r else rnd (h.gate g).2.length + r) 0 = sgz (lastk q (h.tl v g r))
  hear : ∀ v ∈ (h.gate g).2, ∀ w ∈ (h.gate g).2, ∀ r, r < rnd (h.gate g).2.length → ((h.gate g).2.idxOf v + 2 ^ r) % (h.gate g).2.length = (h.gate g).2.idxOf w → h.hr w g r ≤ h.tl v g r
section
variable {h : Hl} {g w : Nat} {b : List (List Int)}
/-- the place from which a place is told -/
theorem prev_at {m j k : Nat} (hj : j < m) (hk : k ≤ m) : ∃ i, i < m ∧ (i + k) % m = j := by
  by_cases hc : k ≤ j
  · exact ⟨j - k, Nat.lt_of_le_of_lt (Nat.sub_le _ _) hj, by refine rwE (Nat.sub_add_cancel hc) ?_; exact Nat.mod_eq_of_lt hj⟩
  · refine ⟨j + m - k, Nat.sub_lt_left_of_lt_add (Nat.le_trans hk (Nat.le_add_left _ _)) (Nat.add_lt_add_right (Nat.lt_of_not_le hc) _), ?_⟩
    (refine rwE (Nat.sub_add_cancel (Nat.le_trans hk (Nat.le_add_left m j))) ?_; rewrite [Nat.add_mod_right]); exact Nat.mod_eq_of_lt hj
noncomputable def lev (h : Hl) (w g r : Nat) : Nat := match r with
  | 0 => h.cm w g
  | r + 1 => h.hr w g r
theorem lev_tl {w r : Nat} : h.tl w g r ≤ lev h w g r := by
  cases r with
  | zero => exact tl_le.2
  | succ r => exact tl_hr
theorem lev_le {w r : Nat} : lev h w g (r + 1) ≤ lev h w g r := Nat.le_trans hr_le.2 lev_tl
/-- who has heard r rounds knows of the 2 ^ r places up to its own -/
theorem RI.known (c : RI h g b) (nd : (h.gate g).2.Nodup) : ∀ r, r ≤ rnd (h.gate g).2.length → ∀ i j w u s : Nat, (h.gate g).2[j]? = some w → (h.gate g).2[i]? = some u → s < 2 ^ r → (i + s) % (h.gate g).2.length = j → lev h w g r ≤ h.cm u g := by
  have ix : ∀ {k v : Nat}, (h.gate g).2[k]? = some v → (h.gate g).2.idxOf v = k := fun {k v} hk => by
    obtain ⟨h1, h2⟩ := List.getElem?_eq_some_iff.mp hk
    subst h2
    exact nd.idxOf_getElem k h1
  intro r
  induction r with
  | zero =>
    intro hr i j w u s hj hi hs he
    have hil := lt_of_get hi
    have : s = 0 := by simpa using hs
    subst this
    rw [Nat.add_zero, Nat.mod_eq_of_lt hil] at he
    subst he
    rw [hj] at hi; cases hi
    exact Nat.le_refl _
  | succ r ih =>
    intro hr i j w u s hj hi hs he
    have hil := lt_of_get hi
    have hjl := lt_of_get hj
    by_cases hs2 : s < 2 ^ r
    · exact Nat.le_trans lev_le (ih (by exact Nat.le_of_lt (by assumption)) i j w u s hj hi hs2 he)
    · have hs3 : s - 2 ^ r < 2 ^ r := Nat.sub_lt_left_of_lt_add (Nat.le_of_not_lt hs2) (by rw [Nat.pow_succ, Nat.mul_two] at hs; exact hs)
      have hml : (i + (s - 2 ^ r)) % (h.gate g).2.length < (h.gate g).2.length := Nat.mod_lt _ (Nat.zero_lt_of_lt hil)
      have hv : (h.gate g).2[(i + (s - 2 ^ r)) % (h.gate g).2.length]? = some (h.gate g).2[(i + (s - 2 ^ r)) % (h.gate g).2.length] := List.getElem?_eq_getElem hml
      have q1 := ih (by exact Nat.le_of_lt (by assumption)) i _ _ u (s - 2 ^ r) hv hi hs3 rfl
      have q2 := c.hear _ (List.mem_of_getElem? hv) w (List.mem_of_getElem? hj) r (by assumption) (by
        (refine rwE (ix hv) ?_; refine rwE (ix hj) ?_; rewrite [Nat.mod_add_mod]; rewrite [Nat.add_assoc]; refine rwE (Nat.sub_add_cancel (Nat.le_of_not_lt hs2)) ?_); exact he)
      exact Nat.le_trans q2 (Nat.le_trans lev_tl q1)
/-- who has heard all rounds: all have come as often -/
theorem RI.all (c : RI h g b) (nd : (h.gate g).2.Nodup) (hm : (h.gate g).2.length ≤ 12) {w u : Nat} (hw : w ∈ (h.gate g).2) (hu : u ∈ (h.gate g).2) : lev h w g (rnd (h.gate g).2.length) ≤ h.cm u g := by
  obtain ⟨j, hj, rfl⟩ := List.getElem_of_mem hw
  obtain ⟨i, hi, rfl⟩ := List.getElem_of_mem hu
  have p := rnd_pow (h.gate g).2.length (by exact Nat.le_trans (by assumption) (by decide))
  by_cases hc : i ≤ j
  · exact c.known nd _ (Nat.le_refl _) i j _ _ (j - i) (List.getElem?_eq_getElem hj) (List.getElem?_eq_getElem hi) (Nat.lt_of_le_of_lt (Nat.sub_le _ _) (Nat.lt_of_lt_of_le hj p)) (by refine rwE (Nat.add_sub_cancel' hc) ?_; exact Nat.mod_eq_of_lt hj)
  · refine c.known nd _ (Nat.le_refl _) i j _ _ (j + (h.gate g).2.length - i) (List.getElem?_eq_getElem hj) (List.getElem?_eq_getElem hi) (Nat.lt_of_lt_of_le (Nat.sub_lt_left_of_lt_add (Nat.le_trans (Nat.le_of_lt hi) (Nat.le_add_left _ _)) (Nat.add_lt_add_right (Nat.lt_of_not_le hc) _)) p) ?_
    (refine rwE (Nat.add_sub_cancel' (Nat.le_trans (Nat.le_of_lt hi) (Nat.le_add_left _ _))) ?_; rewrite [Nat.add_mod_right]); exact Nat.mod_eq_of_lt hj
theorem passed_lev {w r : Nat} : h.passed w g ≤ lev h w g r := by
  cases r with
  | zero => exact Nat.le_add_right _ _
  | succ r => exact hr_le.1
/-- who has passed: all have come as often -/
theorem RI.safe (c : RI h g b) (nd : (h.gate g).2.Nodup) (hm : (h.gate g).2.length ≤ 12) {w u : Nat} (hw : w ∈ (h.gate g).2) (hu : u ∈ (h.gate g).2) : h.passed w g ≤ h.cm u g := Nat.le_trans passed_lev (c.all nd hm hw hu)
theorem cm_le {w : Nat} : h.cm w g ≤ h.passed w g + 1 := by unfold Hl.cm; split <;> lia
theorem ite_iff {p q : Prop} [Decidable p] [Decidable q] (h : p ↔ q) : (if p then 1 else 0 : Nat) = if q then 1 else 0 := by
  by_cases hp : p
  · (refine rwE (if_pos hp) ?_; (refine rwE (if_pos (h.mp hp)) ?_; with_reducible rfl))
  · (refine rwE (if_neg hp) ?_; (refine rwE (if_neg fun z => hp (h.mpr z)) ?_; with_reducible rfl))
theorem cs_row {g : Nat × List Nat} {w t : Nat} {st : Nat × Nat} {b : List (List Int)} : cellStep g w t st (.row b) = if st.1 = 2 then (.row b, if 0 = rnd g.2.length then (6, 0) else (7, 0)) else if st.1 = 7 then (.row (put2 b ((g.2.idxOf w + 2 ^ st.2) % g.2.length) (boxOf st.2 t g.2.length) (signOf 1 t)), (8, st.2))
    else (.row b, if st.2 + 1 = rnd g.2.length then (6, 0) else (7, st.2 + 1)) := rfl
theorem vain_row (hc : h.cell (h.at_ w) = .row b) : h.vain w = (decide ((h.stg w).1 = 8) && decide ((b.getD ((h.gate (h.at_ w)).2.idxOf w) []).getD (boxOf (h.stg w).2 (h.time w) (h.gate (h.at_ w)).2.length) 0 ≠ signOf 1 (h.time w))) := by
  unfold Hl.vain; refine rwE hc ?_; rfl
theorem box_if {u t m : Nat} : boxOf u t m = if t % 2 = 0 then u else rnd m + u := rfl
/-- a hearing is in vain as long as the other one has not told -/
theorem RI.vain (bs : Base h) (hgl : g < h.gates.length) (c : RI h g b) {w v : Nat} (hw : w ∈ (h.gate g).2) (hv : v ∈ (h.gate g).2) (hg : h.at_ w = g) (h8 : (h.stg w).1 = 8) (hr : (h.stg w).2 < rnd (h.gate g).2.length)
    (he : ((h.gate g).2.idxOf v + 2 ^ (h.stg w).2) % (h.gate g).2.length = (h.gate g).2.idxOf w) : h.vain w = false ↔ h.passed w g + 1 ≤ h.tl v g (h.stg w).2 := by
  have nd := (bs.gk g hgl).nodup
  have gm := bs.wf.gm g hgl
  have hin : h.inn w g := ⟨by lia, by lia, hg⟩
  have s1 := c.safe nd gm hw hv
  have s2 := c.safe nd gm hv hw
  have cw : h.cm w g = h.passed w g + 1 := by unfold Hl.cm; (refine rwE (if_pos hin) ?_; with_reducible rfl)
  have cv := cm_le (h := h) (g := g) (w := v)
  have tv := tl_le (h := h) (w := v) (g := g) (r := (h.stg w).2)
  have bx := c.box v hv _ hr ((h.passed w g + 1) % 2) (Nat.mod_lt _ (by decide))
  rw [he] at bx
  (refine rwE (vain_row (hg ▸ c.cell)) ?_; refine rwE h8 ?_; refine rwE hg ?_)
  have ht : h.time w = h.passed w g + 1 := by unfold Hl.time; (refine rwE hg ?_; with_reducible rfl)
  (refine rwE ht ?_; refine rwE box_if ?_; refine rwE bx ?_; rewrite [sign_sgz])
  rewrite [← sgz_iff (k := h.passed w g + 1) (t := h.tl v g (h.stg w).2) (Nat.succ_le_succ (Nat.le_trans s1 (Nat.le_trans cv (Nat.succ_le_succ tv.1)))) (Nat.le_trans tv.2 (Nat.le_trans cv (Nat.succ_le_succ (Nat.le_trans s2 (Nat.le_of_eq cw)))))]
  simp
theorem RI.other (f : WF h) (c : RI h g b) {w : Nat} (hw : w < h.rows.length) (hi : h.idle w = false) (hg : h.at_ w ≠ g) : RI (h.step w) g b := by
  have S := f.stp hw hi
  have P := step_passed f hw hi
  have I := step_inn f hw hi
  have p0 : ∀ v, (h.step w).passed v g = h.passed v g := fun v => by (rewrite [P]; (refine rwE (if_neg fun z => hg z.2.2) ?_; with_reducible rfl))
  have i0 : ∀ v, (h.step w).inn v g ↔ h.inn v g := fun v => by
    rewrite [I]; split
    · rename_i z; subst z; exact ⟨fun z => absurd z.2 hg, fun z => absurd z.2.2 hg⟩
    · exact Iff.rfl
  have s0 : ∀ v, h.inn v g → (h.step w).stg v = h.stg v := fun v hv => by
    (rewrite [S.stg]; (refine rwE (if_neg fun z : w = v => hg (by refine rwE z ?_; exact hv.2.2)) ?_; with_reducible rfl))
  have eg : (h.step w).gate g = h.gate g := S.gate
  have t0 : ∀ v r, (h.step w).tl v g r = h.tl v g r := fun v r => by
    show (h.step w).passed v g + (if (h.step w).inn v g ∧ toldR ((h.step w).stg v) r then 1 else 0) = h.passed v g + (if h.inn v g ∧ toldR (h.stg v) r then 1 else 0)
    rewrite [p0]
    congr 1
    exact ite_iff ⟨fun z => ⟨(i0 v).mp z.1, by refine rwE (Eq.symm (s0 v ((i0 v).mp z.1))) ?_; exact z.2⟩, fun z => ⟨(i0 v).mpr z.1, by refine rwE (s0 v z.1) ?_; exact z.2⟩⟩
  have h0 : ∀ v r, (h.step w).hr v g r = h.hr v g r := fun v r => by
    show (h.step w).passed v g + (if (h.step w).inn v g ∧ heardR ((h.step w).stg v) r then 1 else 0) = h.passed v g + (if h.inn v g ∧ heardR (h.stg v) r then 1 else 0)
    rewrite [p0]
    congr 1
    exact ite_iff ⟨fun z => ⟨(i0 v).mp z.1, by refine rwE (Eq.symm (s0 v ((i0 v).mp z.1))) ?_; exact z.2⟩, fun z => ⟨(i0 v).mpr z.1, by refine rwE (s0 v z.1) ?_; exact z.2⟩⟩
  refine ⟨by (rewrite [S.cell]; refine rwE (if_neg hg) ?_; (refine rwE c.cell ?_; with_reducible rfl)), ?_, ?_⟩
  · refine rwE eg ?_
    intro v hv r hr q hq
    rewrite [t0]; exact c.box v hv r hr q hq
  · refine rwE eg ?_
    intro v hv u hu r hr he
    (rewrite [t0]; rewrite [h0]); exact c.hear v hv u hu r hr he
theorem get_put2 {i j i' j' : Nat} {v : Int} (h1 : i < b.length) (h2 : j < (b.getD i []).length) : ((put2 b i j v).getD i' []).getD j' 0 = if i = i' ∧ j = j' then v else (b.getD i' []).getD j' 0 := by
  unfold put2
  refine rwE (getD_set h1) ?_
  by_cases hi : i = i'
  · subst hi
    (refine rwE (if_pos rfl) ?_; refine rwE (getD_set h2) ?_)
    by_cases hj : j = j'
    · (refine rwE (if_pos hj) ?_; (refine rwE (if_pos ⟨rfl, hj⟩) ?_; with_reducible rfl))
    · (refine rwE (if_neg hj) ?_; (refine rwE (if_neg fun z => hj z.2) ?_; with_reducible rfl))
  · (refine rwE (if_neg hi) ?_; (refine rwE (if_neg fun z => hi z.1) ?_; with_reducible rfl))
theorem mod_add {m i k : Nat} (hi : i < m) (hk : k ≤ m) : (i + k) % m = if i + k < m then i + k else i + k - m := by
  split
  · rename_i z; exact Nat.mod_eq_of_lt z
  · rename_i z
    refine rwE (Nat.mod_eq_sub_mod (by lia)) ?_; exact Nat.mod_eq_of_lt (by lia)
theorem add_inj {m i j k : Nat} (hi : i < m) (hj : j < m) (hk : k ≤ m) (h : (i + k) % m = (j + k) % m) : i = j := by
  have key : ∀ a, a < m → ((a + k) % m + (m - k)) % m = a := fun a ha => by (rewrite [Nat.mod_add_mod]; rewrite [Nat.add_assoc]; refine rwE (Nat.add_sub_cancel' hk) ?_; rewrite [Nat.add_mod_right]; (refine rwE (Nat.mod_eq_of_lt ha) ?_; with_reducible rfl))
  (refine rwE (Eq.symm (key i hi)) ?_; refine rwE h ?_; (refine rwE (key j hj) ?_; with_reducible rfl))
theorem pow_lt : ∀ m : Nat, m ≤ 16 → ∀ r, r < rnd m → 2 ^ r < m := by
  have : ∀ m : Fin 17, ∀ r : Fin 5, r.1 < rnd m.1 → 2 ^ r.1 < m.1 := by decide +kernel
  exact fun m hm r hr => this ⟨m, by lia⟩ ⟨r, by have := rnd_le m; lia⟩ hr
theorem idx_inj {l : List Nat} {a b : Nat} (ha : a ∈ l) (hb : b ∈ l) (h : l.idxOf a = l.idxOf b) : a = b := by
  induction l with
  | nil => cases ha
  | cons x l ih =>
    rw [List.idxOf_cons, List.idxOf_cons] at h
    by_cases h1 : x = a
    · by_cases h2 : x = b
      · exact h1.symm.trans h2
      · rw [beq_iff_eq.mpr h1, beq_eq_false_iff_ne.mpr h2] at h; cases h
    · by_cases h2 : x = b
      · rw [beq_eq_false_iff_ne.mpr h1, beq_iff_eq.mpr h2] at h; cases h
      · rw [beq_eq_false_iff_ne.mpr h1, beq_eq_false_iff_ne.mpr h2] at h
        exact ih ((List.mem_cons.mp ha).resolve_left (Ne.symm h1)) ((List.mem_cons.mp hb).resolve_left (Ne.symm h2)) (Nat.succ.inj h)
theorem par {a q : Nat} (hq : q < 2) (h : ¬ (a + 1) % 2 = q) : a % 2 = q := by
  rcases Nat.mod_two_eq_zero_or_one a with e | e
  · rw [Nat.add_mod, e] at h
    rcases lt2 hq with rfl | rfl
    · exact e
    · exact absurd rfl h
  · rw [Nat.add_mod, e] at h
    rcases lt2 hq with rfl | rfl
    · exact absurd rfl h
    · exact e
theorem told78 {s : Nat × Nat} {r : Nat} (h7 : s.1 = 7) (hn : r ≠ s.2) : toldR s r ↔ toldR (8, s.2) r := by
  constructor
  · rintro (z | z | z)
    · rw [h7] at z; cases z
    · exact .inr (.inr ⟨rfl, Nat.le_of_lt z.2⟩)
    · rw [h7] at z; cases z.1
  · rintro (z | z | z)
    · cases z
    · cases z.1
    · exact .inr (.inl ⟨h7, Nat.lt_of_le_of_ne z.2 hn⟩)
theorem told8 {s : Nat × Nat} {r : Nat} (h8 : s.1 = 8) : (toldR s r ↔ r ≤ s.2) ∧ (heardR s r ↔ r < s.2) := by
  refine ⟨⟨?_, fun z => .inr (.inr ⟨h8, z⟩)⟩, ?_, fun z => .inr (.inr ⟨h8, z⟩)⟩
  · rintro (z | z | z)
    · rw [h8] at z; cases z
    · rw [h8] at z; cases z.1
    · exact z.2
  · rintro (z | z | z)
    · rw [h8] at z; cases z
    · rw [h8] at z; cases z.1
    · exact z.2
theorem told7 {n r : Nat} : (toldR (7, n) r ↔ r < n) ∧ (heardR (7, n) r ↔ r < n) := by
  refine ⟨⟨?_, fun z => .inr (.inl ⟨rfl, z⟩)⟩, ?_, fun z => .inr (.inl ⟨rfl, z⟩)⟩
  · rintro (z | z | z)
    · cases z
    · exact z.2
    · cases z.1
  · rintro (z | z | z)
    · cases z
    · exact z.2
    · cases z.1
theorem RI.step (bs : Base h) (hgl : g < h.gates.length) (hw1 : (h.gate g).1 = 1) (c : RI h g b) (hw : w < h.rows.length) (hi : h.idle w = false) : ∃ b, RI (h.step w) g b := by
  have f := bs.wf
  by_cases hg : h.at_ w = g
  case neg => exact ⟨b, c.other f hw hi hg⟩
  have S := f.stp hw hi
  have P := step_passed f hw hi
  have I := step_inn f hw hi
  obtain ⟨h10, hvn⟩ := idle_not hi
  have hm : w ∈ (h.gate g).2 := hg ▸ (f.at_ hw h10).2
  have nd := (bs.gk g hgl).nodup
  have gm := f.gm g hgl
  have eg : (h.step w).gate g = h.gate g := S.gate
  have so : ∀ v, v ≠ w → (h.step w).stg v = h.stg v := fun v hv => by (rewrite [S.stg]; (refine rwE (if_neg (Ne.symm hv)) ?_; with_reducible rfl))
  have io : ∀ v, v ≠ w → ((h.step w).inn v g ↔ h.inn v g) := fun v hv => by (rewrite [I]; (refine rwE (if_neg (Ne.symm hv)) ?_; with_reducible rfl))
  have po : ∀ v, v ≠ w → (h.step w).passed v g = h.passed v g := fun v hv => by (rewrite [P]; (refine rwE (if_neg fun z => hv z.1.symm) ?_; with_reducible rfl))
  have to : ∀ v r, v ≠ w → (h.step w).tl v g r = h.tl v g r := fun v r hv => by
    show (h.step w).passed v g + (if (h.step w).inn v g ∧ toldR ((h.step w).stg v) r then 1 else 0) = h.passed v g + (if h.inn v g ∧ toldR (h.stg v) r then 1 else 0)
    refine rwE (po v hv) ?_
    exact congrArg _ (ite_iff ⟨fun z => ⟨(io v hv).mp z.1, by refine rwE (Eq.symm (so v hv)) ?_; exact z.2⟩, fun z => ⟨(io v hv).mpr z.1, by refine rwE (so v hv) ?_; exact z.2⟩⟩)
  have ho : ∀ v r, v ≠ w → (h.step w).hr v g r = h.hr v g r := fun v r hv => by
    show (h.step w).passed v g + (if (h.step w).inn v g ∧ heardR ((h.step w).stg v) r then 1 else 0) = h.passed v g + (if h.inn v g ∧ heardR (h.stg v) r then 1 else 0)
    refine rwE (po v hv) ?_
    exact congrArg _ (ite_iff ⟨fun z => ⟨(io v hv).mp z.1, by refine rwE (Eq.symm (so v hv)) ?_; exact z.2⟩, fun z => ⟨(io v hv).mpr z.1, by refine rwE (so v hv) ?_; exact z.2⟩⟩)
  have st := f.st hw h10
  rw [hg] at st
  have cs : h.cstep w = cellStep (h.gate g) w (h.passed w g + 1) (h.stg w) (.row b) := by
    unfold Hl.cstep Hl.time; (refine rwE hg ?_; (refine rwE c.cell ?_; with_reducible rfl))
  have wn : (h.step w).stg w = h.nst w := by (rewrite [S.stg]; (refine rwE (if_pos rfl) ?_; with_reducible rfl))
  have hcell : (h.stg w).1 ≠ 6 → (h.step w).cell g = (h.cstep w).1 := fun z => by (rewrite [S.cell]; refine rwE (if_pos hg) ?_; (refine rwE (if_neg z) ?_; with_reducible rfl))
  have hn : (h.stg w).1 ≠ 6 → h.nst w = (h.cstep w).2 := fun z => by unfold Hl.nst; (refine rwE (if_neg z) ?_; with_reducible rfl)
  have iw : (h.stg w).1 ≠ 6 → (h.step w).inn w g := fun z => by (rewrite [I]; refine rwE (if_pos rfl) ?_); exact ⟨z, hg⟩
  have pw : (h.stg w).1 ≠ 6 → (h.step w).passed w g = h.passed w g := fun z => by (rewrite [P]; (refine rwE (if_neg fun q => z q.2.1) ?_; with_reducible rfl))
  -- the same cells
  have same : (h.step w).cell g = .row b → (∀ r, r < rnd (h.gate g).2.length → (h.step w).tl w g r = h.tl w g r) → (∀ r, r < rnd (h.gate g).2.length → ∀ v ∈ (h.gate g).2, ((h.gate g).2.idxOf v + 2 ^ r) % (h.gate g).2.length = (h.gate g).2.idxOf w → (h.step w).hr w g r ≤ h.tl v g r) → RI (h.step w) g b := fun k1 k2 k3 => by
    have ta : ∀ v r, r < rnd (h.gate g).2.length → (h.step w).tl v g r = h.tl v g r := fun v r hr => by
      by_cases hne : v = w
      · refine rwE hne ?_; exact k2 r hr
      · exact to v r hne
    refine ⟨k1, ?_, ?_⟩
    · refine rwE eg ?_; intro v hv r hr q hq; refine rwE (ta v r hr) ?_; exact c.box v hv r hr q hq
    · refine rwE eg ?_; intro v hv u hu r hr he
      refine rwE (ta v r hr) ?_
      by_cases hne : u = w
      · rw [hne] at he ⊢; exact k3 r hr v hv he
      · refine rwE (ho u r hne) ?_; exact c.hear v hv u hu r hr he
  have hst : (h.stg w).1 = 2 ∨ (h.stg w).1 = 6 ∨ ((h.stg w).1 = 7 ∧ (h.stg w).2 < rnd (h.gate g).2.length) ∨ ((h.stg w).1 = 8 ∧ (h.stg w).2 < rnd (h.gate g).2.length) := by
    rcases st with z | z | z | z
    · exact .inl z
    · exact .inr (.inl z)
    · exact absurd z.1 (by lia)
    · rcases z.2.1 with y | y
      · exact .inr (.inr (.inl ⟨y, z.2.2⟩))
      · exact .inr (.inr (.inr ⟨y, z.2.2⟩))
  have tw : ∀ r, h.inn w g → h.tl w g r = h.passed w g + if toldR (h.stg w) r then 1 else 0 := fun r hin => congrArg _ (ite_iff ⟨fun z => z.2, fun z => ⟨hin, z⟩⟩)
  have hwr : ∀ r, h.inn w g → h.hr w g r = h.passed w g + if heardR (h.stg w) r then 1 else 0 := fun r hin => congrArg _ (ite_iff ⟨fun z => z.2, fun z => ⟨hin, z⟩⟩)
  have tw' : ∀ r, (h.stg w).1 ≠ 6 → (h.step w).tl w g r = h.passed w g + if toldR (h.nst w) r then 1 else 0 := fun r z6 => by
    show (h.step w).passed w g + (if (h.step w).inn w g ∧ toldR ((h.step w).stg w) r then 1 else 0) = _
    refine rwE (pw z6) ?_
    exact congrArg _ (ite_iff ⟨fun z => by refine rwE (Eq.symm (wn)) ?_; exact z.2, fun z => ⟨iw z6, by refine rwE wn ?_; exact z⟩⟩)
  have hw' : ∀ r, (h.stg w).1 ≠ 6 → (h.step w).hr w g r = h.passed w g + if heardR (h.nst w) r then 1 else 0 := fun r z6 => by
    show (h.step w).passed w g + (if (h.step w).inn w g ∧ heardR ((h.step w).stg w) r then 1 else 0) = _
    refine rwE (pw z6) ?_
    exact congrArg _ (ite_iff ⟨fun z => by refine rwE (Eq.symm (wn)) ?_; exact z.2, fun z => ⟨iw z6, by refine rwE wn ?_; exact z⟩⟩)
  rcases hst with z | z | ⟨z, zr⟩ | ⟨z, zr⟩
  · -- come
    have z6 : (h.stg w).1 ≠ 6 := by lia
    have e1 : h.cstep w = (.row b, if 0 = rnd (h.gate g).2.length then (6, 0) else (7, 0)) := by (refine rwE cs ?_; refine rwE cs_row ?_; (refine rwE (if_pos z) ?_; with_reducible rfl))
    have nin : ¬ h.inn w g := fun q => q.1 z
    have t0 : ∀ r, h.tl w g r = h.passed w g := fun r => by unfold Hl.tl; refine rwE (if_neg fun q => nin q.1) ?_; rfl
    have nt : ∀ r, r < rnd (h.gate g).2.length → ¬ toldR (h.nst w) r ∧ ¬ heardR (h.nst w) r := fun r hr => by
      (refine rwE (hn z6) ?_; refine rwE e1 ?_; refine rwE (if_neg (by lia)) ?_)
      unfold toldR heardR; simp
    refine ⟨b, same (by (refine rwE (hcell z6) ?_; (refine rwE e1 ?_; with_reducible rfl))) (fun r hr => by (refine rwE (tw' r z6) ?_; refine rwE (if_neg (nt r hr).1) ?_; rewrite [t0]); rfl) fun r hr v hv he => ?_⟩
    (refine rwE (hw' r z6) ?_; refine rwE (if_neg (nt r hr).2) ?_)
    exact Nat.le_trans (hr_le (h := h) (w := w) (g := g) (r := r)).1 (c.hear v hv w hm r hr he)
  · -- pass
    have hin : h.inn w g := ⟨by lia, by assumption, hg⟩
    have nin : ¬ (h.step w).inn w g := fun q => by rw [I, if_pos rfl] at q; exact q.1 z
    have pw' : (h.step w).passed w g = h.passed w g + 1 := by (rewrite [P]; (refine rwE (if_pos ⟨rfl, z, hg⟩) ?_; with_reducible rfl))
    refine ⟨b, same (by (rewrite [S.cell]; refine rwE (if_pos hg) ?_; refine rwE (if_pos z) ?_); exact c.cell) (fun r hr => ?_) fun r hr v hv he => ?_⟩
    · (refine rwE (tw r hin) ?_; refine rwE (if_pos (.inl z)) ?_)
      show (h.step w).passed w g + (if (h.step w).inn w g ∧ _ then 1 else 0) = _
      (refine rwE (if_neg fun q => nin q.1) ?_; (refine rwE pw' ?_; with_reducible rfl))
    · have := c.hear v hv w hm r hr he
      rw [hwr r hin, if_pos (.inl z)] at this
      show (h.step w).passed w g + (if (h.step w).inn w g ∧ _ then 1 else 0) ≤ _
      (refine rwE (if_neg fun q => nin q.1) ?_; refine rwE pw' ?_); exact this
  · -- tell
    have z6 : (h.stg w).1 ≠ 6 := by lia
    have hin : h.inn w g := ⟨by lia, by assumption, hg⟩
    have e1 : h.cstep w = (.row (put2 b (((h.gate g).2.idxOf w + 2 ^ (h.stg w).2) % (h.gate g).2.length) (boxOf (h.stg w).2 (h.passed w g + 1) (h.gate g).2.length) (signOf 1 (h.passed w g + 1))), (8, (h.stg w).2)) := by (refine rwE cs ?_; refine rwE cs_row ?_; refine rwE (if_neg (by lia)) ?_; (refine rwE (if_pos z) ?_; with_reducible rfl))
    have ck := f.cell g hgl
    rw [c.cell] at ck
    obtain ⟨_, k1, k2⟩ : (h.gate g).1 = 1 ∧ b.length = (h.gate g).2.length ∧ ∀ x ∈ b, x.length = 2 * rnd (h.gate g).2.length := ck
    have mp : 0 < (h.gate g).2.length := List.length_pos_of_mem hm
    have hol : ((h.gate g).2.idxOf w + 2 ^ (h.stg w).2) % (h.gate g).2.length < b.length := by refine rwE k1 ?_; exact Nat.mod_lt _ mp
    have hbl : boxOf (h.stg w).2 (h.passed w g + 1) (h.gate g).2.length < (b.getD (((h.gate g).2.idxOf w + 2 ^ (h.stg w).2) % (h.gate g).2.length) []).length := by
      refine rwE (k2 _ (List.mem_of_getElem? (get_of_lt hol))) ?_; exact box_lt zr
    have hne8 : h.nst w = (8, (h.stg w).2) := by (refine rwE (hn z6) ?_; (refine rwE e1 ?_; with_reducible rfl))
    refine ⟨_, by (refine rwE (hcell z6) ?_; (refine rwE e1 ?_; with_reducible rfl)), ?_, ?_⟩
    · refine rwE eg ?_
      intro v hv r hr q hq
      (refine rwE (get_put2 hol hbl) ?_; refine rwE box_if ?_)
      by_cases hh : v = w ∧ r = (h.stg w).2
      · obtain ⟨rfl, rfl⟩ := hh
        have tv : (h.step v).tl v g (h.stg v).2 = h.passed v g + 1 := by (refine rwE (tw' _ z6) ?_; refine rwE hne8 ?_; (refine rwE (if_pos (.inr (.inr ⟨rfl, Nat.le_refl _⟩))) ?_; with_reducible rfl))
        have tv0 : h.tl v g (h.stg v).2 = h.passed v g := by (refine rwE (tw _ hin) ?_; refine rwE (if_neg (by unfold toldR; lia)) ?_); rfl
        refine rwE tv ?_
        by_cases hq2 : (h.passed v g + 1) % 2 = q
        · (refine rwE (if_pos ⟨rfl, by (refine rwE hq2 ?_; with_reducible rfl)⟩) ?_; rewrite [sign_sgz])
          unfold lastk; (refine rwE (if_pos hq2) ?_; with_reducible rfl)
        · (rewrite [if_neg]; refine rwE (c.box v hv _ hr q hq) ?_; refine rwE tv0 ?_)
          · unfold lastk
            (refine rwE (if_neg hq2) ?_; refine rwE (if_pos (par hq hq2)) ?_); congr 1; lia
          · rintro ⟨_, q2⟩
            by_cases q0 : q = 0
            · rw [if_pos q0, if_neg (by lia)] at q2; lia
            · rw [if_neg q0, if_pos (by lia)] at q2; lia
      · (rewrite [if_neg]; refine rwE (c.box v hv r hr q hq) ?_)
        · by_cases hvw : v = w
          · subst hvw
            have hrn : r ≠ (h.stg v).2 := fun q => hh ⟨rfl, q⟩
            (refine rwE (tw' r z6) ?_; refine rwE (tw r hin) ?_; refine rwE hne8 ?_)
            congr 2
            exact congrArg _ (ite_iff (told78 z hrn))
          · (refine rwE (to v r hvw) ?_; with_reducible rfl)
        · rintro ⟨q1, q2⟩
          have r4 := rnd_le (h.gate g).2.length
          have er : r = (h.stg w).2 := by
            by_cases q0 : q = 0
            · rw [if_pos q0] at q2; split at q2 <;> lia
            · rw [if_neg q0] at q2; split at q2 <;> lia
          refine hh ⟨?_, er⟩
          subst er
          have p2 := pow_lt _ (by exact Nat.le_trans (by assumption) (by decide)) _ zr
          have := add_inj (List.idxOf_lt_length_iff.mpr hm) (List.idxOf_lt_length_iff.mpr hv) (by exact Nat.le_of_lt (by assumption)) q1
          exact (idx_inj hm hv this).symm
    · refine rwE eg ?_
      intro v hv u hu r hr he
      have tge : h.tl v g r ≤ (h.step w).tl v g r := by
        by_cases hvw : v = w
        · (refine rwE hvw ?_; refine rwE (tw' r z6) ?_; refine rwE (tw r hin) ?_; refine rwE hne8 ?_)
          by_cases ht : toldR (h.stg w) r
          · (refine rwE (if_pos ht) ?_; refine rwE (if_pos (by unfold toldR at ht ⊢; lia)) ?_); exact Nat.le_refl _
          · refine rwE (if_neg ht) ?_; lia
        · refine rwE (to v r hvw) ?_; exact Nat.le_refl _
      refine Nat.le_trans ?_ tge
      by_cases huw : u = w
      · rw [huw] at he ⊢
        have := c.hear v hv w hm r hr he
        (refine rwE (hw' r z6) ?_; refine rwE hne8 ?_)
        rw [hwr r hin] at this
        refine Nat.le_trans (Nat.le_of_eq ?_) this
        exact congrArg _ (ite_iff (by unfold heardR; lia))
      · refine rwE (ho u r huw) ?_; exact c.hear v hv u hu r hr he
  · -- hear
    have z6 : (h.stg w).1 ≠ 6 := by lia
    have hin : h.inn w g := ⟨by lia, by assumption, hg⟩
    have e1 : h.cstep w = (.row b, if (h.stg w).2 + 1 = rnd (h.gate g).2.length then (6, 0) else (7, (h.stg w).2 + 1)) := by (refine rwE cs ?_; refine rwE cs_row ?_; refine rwE (if_neg (by lia)) ?_; (refine rwE (if_neg (by lia)) ?_; with_reducible rfl))
    have nt : ∀ r, r < rnd (h.gate g).2.length → (toldR (h.nst w) r ↔ toldR (h.stg w) r) ∧ (heardR (h.nst w) r ↔ heardR (h.stg w) r ∨ r = (h.stg w).2) := fun r hr => by
      (refine rwE (hn z6) ?_; refine rwE e1 ?_)
      have t8 := told8 (r := r) z
      by_cases hl : (h.stg w).2 + 1 = rnd (h.gate g).2.length
      · have le : r ≤ (h.stg w).2 := Nat.le_of_lt_succ (Nat.lt_of_lt_of_eq hr hl.symm)
        refine rwE (if_pos hl) ?_
        exact ⟨iff_of_true (.inl rfl) (t8.1.mpr le), iff_of_true (.inl rfl) ((Nat.lt_or_eq_of_le le).imp t8.2.mpr id)⟩
      · have t7 := told7 (n := (h.stg w).2 + 1) (r := r)
        refine rwE (if_neg hl) ?_
        exact ⟨t7.1.trans (Nat.lt_succ_iff.trans t8.1.symm), t7.2.trans (Nat.lt_succ_iff_lt_or_eq.trans ⟨fun y => y.imp t8.2.mpr id, fun y => y.imp t8.2.mp id⟩)⟩
    refine ⟨b, same (by (refine rwE (hcell z6) ?_; (refine rwE e1 ?_; with_reducible rfl))) (fun r hr => by (refine rwE (tw' r z6) ?_; refine rwE (tw r hin) ?_); exact congrArg _ (ite_iff (nt r hr).1)) fun r hr v hv he => ?_⟩
    by_cases hre : r = (h.stg w).2
    · subst hre
      have := (c.vain bs hgl hm hv hg z zr he).mp hvn
      refine rwE (hw' _ z6) ?_
      split <;> (first | assumption | exact Nat.le_of_lt (by assumption))
    · have := c.hear v hv w hm r hr he
      rw [hwr r hin] at this
      refine rwE (hw' r z6) ?_
      refine Nat.le_trans (Nat.le_of_eq ?_) this
      exact congrArg _ (ite_iff ⟨fun q => ((nt r hr).2.mp q).resolve_right hre, fun q => (nt r hr).2.mpr (.inl q)⟩)
theorem RI.init {gates : List (Nat × List Nat)} {rows : List (List Nat)} {g : Nat} (k : HallOk gates rows) (hg : g < gates.length) (hw1 : ((Hl.init gates rows).gate g).1 = 1) : ∃ b, RI (Hl.init gates rows) g b := by
  have gk := k.base.gk g hg
  have lt : ∀ w ∈ ((Hl.init gates rows).gate g).2, w < rows.length := gk.lt
  have t0 : ∀ v ∈ ((Hl.init gates rows).gate g).2, ∀ r, (Hl.init gates rows).tl v g r = 0 ∧ (Hl.init gates rows).hr v g r = 0 := fun v hv r => by
    obtain ⟨h1, h2⟩ := init_out (gates := gates) (lt v hv) g
    unfold Hl.tl Hl.hr
    (refine rwE h2 ?_; refine rwE (if_neg fun z => h1 z.1) ?_; refine rwE (if_neg fun z => h1 z.1) ?_)
    exact ⟨rfl, rfl⟩
  refine ⟨_, by refine rwE (init_cell' hg) ?_; unfold initCell; (refine rwE (if_neg (by lia)) ?_; with_reducible rfl), fun v hv r hr q hq => ?_, fun v hv w hw r hr he => by (refine rwE ((t0 v hv r).1) ?_; refine rwE ((t0 w hw r).2) ?_); exact Nat.le_refl _⟩
  refine rwE ((t0 v hv r).1) ?_
  have e : sgz (lastk q 0) = 0 := by rcases (lt2 hq) with rfl | rfl <;> rfl
  refine rwE e ?_
  have mp : 0 < ((Hl.init gates rows).gate g).2.length := List.length_pos_of_mem hv
  have i1 := Nat.mod_lt (((Hl.init gates rows).gate g).2.idxOf v + 2 ^ r) mp
  have e1 : ∀ (n i : Nat) (x d : List Int), i < n → (List.replicate n x).getD i d = x := fun n i x d h => getD_of (by (refine rwE List.getElem?_replicate ?_; (refine rwE (if_pos h) ?_; with_reducible rfl)))
  have e2 : ∀ (n i : Nat), (List.replicate n (0 : Int)).getD i 0 = 0 := fun n i => by
    (refine rwE List.getD_eq_getElem?_getD ?_; refine rwE List.getElem?_replicate ?_); split <;> rfl
  (refine rwE (e1 _ _ _ _ i1) ?_; (rewrite [e2]; with_reducible rfl))
/-- at rest: who hears in vain lacks somebody -/
theorem RI.rest (bs : Base h) (hgl : g < h.gates.length) (hw1 : (h.gate g).1 = 1) (c : RI h g b) (hr : ∀ v ∈ (h.gate g).2, h.idle v = true) {w : Nat} (hw : w ∈ (h.gate g).2) (hin : h.inn w g) : (h.stg w).1 = 8 ∧ ∃ u ∈ (h.gate g).2, h.cm u g < h.passed w g + 1 := by
  have f := bs.wf
  have nd := (bs.gk g hgl).nodup
  have gm := f.gm g hgl
  have lt := (bs.gk g hgl).lt
  have st8 : ∀ v ∈ (h.gate g).2, h.inn v g → (h.stg v).1 = 8 ∧ (h.stg v).2 < rnd (h.gate g).2.length ∧ h.vain v = true := fun v hv hi => by
    have hid := hr v hv
    have h10 := hi.2.1
    have hvn : h.vain v = true := by unfold Hl.idle at hid; simpa [h10] using hid
    have st := f.st (lt v hv) h10
    rw [hi.2.2] at st
    rw [vain_row (hi.2.2 ▸ c.cell)] at hvn
    have h8 : (h.stg v).1 = 8 := by simp at hvn; exact hvn.1
    refine ⟨h8, ?_, by unfold Hl.idle at hid; simpa [h10] using hid⟩
    rcases st with z | z | z | z
    · lia
    · lia
    · lia
    · exact z.2.2
  have go : ∀ v ∈ (h.gate g).2, h.inn v g → h.passed v g = h.passed w g → (∀ u ∈ (h.gate g).2, h.inn u g → h.passed u g = h.passed w g → (h.stg u).2 < (h.stg v).2 → ∃ u ∈ (h.gate g).2, h.cm u g < h.passed w g + 1) → ∃ u ∈ (h.gate g).2, h.cm u g < h.passed w g + 1 := by
    intro v hv hi hp nx
    obtain ⟨h8, hr8, hvn⟩ := st8 v hv hi
    have r4 := pow_lt _ (by exact Nat.le_trans (by assumption) (by decide)) _ hr8
    obtain ⟨i, hil, he⟩ := prev_at (m := (h.gate g).2.length) (j := (h.gate g).2.idxOf v) (k := 2 ^ (h.stg v).2) (List.idxOf_lt_length_iff.mpr hv) (by exact Nat.le_of_lt (by assumption))
    have hum : (h.gate g).2[i] ∈ (h.gate g).2 := List.getElem_mem hil
    have hix : (h.gate g).2.idxOf (h.gate g).2[i] = i := nd.idxOf_getElem i hil
    have vi := c.vain bs hgl hv hum hi.2.2 h8 hr8 (by refine rwE hix ?_; exact he)
    have nt : ¬ h.passed v g + 1 ≤ h.tl (h.gate g).2[i] g (h.stg v).2 := fun z => by rw [vi.mpr z] at hvn; cases hvn
    generalize (h.gate g).2[i] = u at *
    by_cases hc : h.cm u g < h.passed w g + 1
    · exact ⟨u, hum, hc⟩
    · have t1 := tl_le (h := h) (w := u) (g := g) (r := (h.stg v).2)
      have hiu : h.inn u g := by
        by_cases z : h.inn u g
        · exact z
        · have : h.cm u g = h.passed u g := by unfold Hl.cm; refine rwE (if_neg z) ?_; rfl
          exact (nt (by refine rwE hp ?_; exact Nat.le_trans (Nat.le_of_not_lt hc) (by refine rwE this ?_; exact t1.1))).elim
      have cu : h.cm u g = h.passed u g + 1 := by unfold Hl.cm; (refine rwE (if_pos hiu) ?_; with_reducible rfl)
      obtain ⟨u8, _, _⟩ := st8 u hum hiu
      refine nx u hum hiu (Nat.le_antisymm (Nat.le_trans t1.1 (by refine rwE (Eq.symm (hp)) ?_; exact Nat.le_of_lt_succ (Nat.lt_of_not_le nt))) (Nat.le_of_succ_le_succ (Nat.le_trans (Nat.le_of_not_lt hc) (Nat.le_of_eq cu)))) ?_
      have tu : ¬ toldR (h.stg u) (h.stg v).2 := fun z => by
        have : h.tl u g (h.stg v).2 = h.passed u g + 1 := by unfold Hl.tl; (refine rwE (if_pos ⟨hiu, z⟩) ?_; with_reducible rfl)
        exact nt (by (refine rwE hp ?_; refine rwE this ?_; refine rwE (Eq.symm (cu)) ?_); exact Nat.le_of_not_lt hc)
      exact Nat.lt_of_not_le fun y => tu (.inr (.inr ⟨u8, y⟩))
  have key : ∀ n, ∀ v ∈ (h.gate g).2, h.inn v g → h.passed v g = h.passed w g → (h.stg v).2 ≤ n → ∃ u ∈ (h.gate g).2, h.cm u g < h.passed w g + 1 := by
    intro n
    induction n with
    | zero =>
      intro v hv hi hp hn
      exact go v hv hi hp fun u hu hiu hpu hlt => by lia
    | succ n ih =>
      intro v hv hi hp hn
      exact go v hv hi hp fun u hu hiu hpu hlt => ih u hu hiu hpu (by lia)
  exact ⟨(st8 w hw hin).1, key _ w hw hin rfl (Nat.le_refl _)⟩
end
end Mini

set_option autoImplicit false
set_option linter.unusedVariables false
namespace Mini
/-- what holds in every hall -/
structure Inv (h : Hl) : Prop where
  base : Base h
  g0 : ∀ g, g < h.gates.length → (h.gate g).1 = 0 → ∃ tl K n left, CI h g tl K n left
  g1 : ∀ g, g < h.gates.length → (h.gate g).1 = 1 → ∃ b, RI h g b
section
variable {h : Hl} {w g : Nat}
theorem Inv.step (i : Inv h) (hw : w < h.rows.length) : Inv (h.step w) := by
  cases hi : h.idle w with
  | true => refine rwE (step_idle hi) ?_; exact i
  | false =>
    have eg : ∀ g, (h.step w).gate g = h.gate g := fun g => by unfold Hl.gate; (refine rwE Hl.step_gates ?_; with_reducible rfl)
    refine ⟨i.base.step hw, fun g hg h0 => ?_, fun g hg h1 => ?_⟩
    · rw [Hl.step_gates] at hg
      rw [eg] at h0
      obtain ⟨tl, K, n, left, c⟩ := i.g0 g hg h0
      obtain ⟨K', n', left', c'⟩ := c.step i.base hg h0 hw hi
      exact ⟨_, K', n', left', c'⟩
    · rw [Hl.step_gates] at hg
      rw [eg] at h1
      obtain ⟨b, c⟩ := i.g1 g hg h1
      exact c.step i.base hg h1 hw hi
theorem Inv.run (i : Inv h) {l : List Nat} (hl : ∀ w ∈ l, w < h.rows.length) : Inv (h.run l) := by
  induction l generalizing h with
  | nil => exact i
  | cons w l ih => exact ih (i.step (hl w (.head _))) fun v hv => by refine rwE Hl.step_rows ?_; exact hl v (.tail _ hv)
theorem HallOk.inv {gates : List (Nat × List Nat)} {rows : List (List Nat)} (k : HallOk gates rows) : Inv (Hl.init gates rows) :=
  ⟨k.base, fun g hg h0 => ⟨_, _, _, _, CI.init k hg h0⟩, fun g hg h1 => RI.init k hg h1⟩
/-- the counts over all gates -/
theorem count_sum {G : Nat} : ∀ {l : List Nat}, (∀ g ∈ l, g < G) → ((List.range G).map fun g => l.count g).sum = l.length
  | [], _ => by
    have : (List.range G).map (fun g => ([] : List Nat).count g) = (List.range G).map fun _ => 0 := rfl
    (refine rwE this ?_; refine rwE List.map_const' ?_; refine rwE List.sum_replicate_nat ?_); simp
  | a :: l, hl => by
    have ih := count_sum (G := G) (l := l) fun g hg => hl g (.tail _ hg)
    have ha := hl a (.head _)
    have : ∀ n, ((List.range n).map fun g => (a :: l).count g).sum = ((List.range n).map fun g => l.count g).sum + if a < n then 1 else 0 := by
      intro n
      induction n with
      | zero => rfl
      | succ n ihn =>
        (refine rwE List.range_succ ?_; refine rwE List.map_append ?_; refine rwE List.map_append ?_; refine rwE List.sum_append ?_; refine rwE List.sum_append ?_; refine rwE ihn ?_)
        simp only [List.map_cons, List.map_nil, List.sum_cons, List.sum_nil, Nat.add_zero, List.count_cons]
        by_cases h1 : a = n
        · subst h1; simp; lia
        · have : (a == n) = false := by simpa using h1
          (refine rwE this ?_; refine rwE (ite_iff (show a < n ↔ a < n + 1 by lia)) ?_)
          simp only [Bool.false_eq_true, if_false]; lia
    (rewrite [this]; refine rwE ih ?_; refine rwE (if_pos ha) ?_); rfl
theorem passed_sum (f : WF h) (hw : w < h.rows.length) : ((List.range h.gates.length).map fun g => h.passed w g).sum = h.dn w := by
  unfold Hl.passed
  (refine rwE (count_sum fun g hg => (f.rg w hw g (List.mem_of_mem_take hg)).1) ?_; refine rwE List.length_take ?_)
  rcases f.wk w hw with z | z
  · refine rwE z.2 ?_; exact Nat.min_self _
  · exact Nat.min_eq_left (Nat.le_of_lt z.1)
end
end Mini

set_option autoImplicit false
set_option linter.unusedVariables false
namespace Mini
/-- the word that a step is told by -/
noncomputable def Hl.wd (h : Hl) (w : Nat) : Nat := if h.vain w then 9 else (h.stg w).1
theorem told_eq {h : Hl} {w : Nat} : h.told w = if (h.stg w).1 = 10 then .tup [.int w, .none, .str 10] else .tup [.int w, .int (h.at_ w), .str (h.wd w)] := by
  unfold Hl.told Hl.wd
  split
  · rfl
  · split <;> rfl
noncomputable def gWhole : Fn := ⟨1, 4, [
  .ret (.and (.isinst (.var 0) .int) (.not (.isinst (.var 0) .bool)))]⟩
structure DrB (B : Nat → Prop) (σ : H) (ga ra : Nat) (gates : List (Nat × List Nat)) (rows : List (List Nat)) : Prop where
  ng : ¬ B ga
  nr : ¬ B ra
  gts : ∃ gv, σ[ga]? = some gv ∧ A2 (GateB B σ) gv gates
  rws : ∃ rv, σ[ra]? = some rv ∧ A2 (RowB B σ) rv rows
theorem Drawn.ex {σ σ' : H} {ga ra : Nat} {gates : List (Nat × List Nat)} {rows : List (List Nat)} (d : Drawn σ ga ra gates rows) (e : Ex σ σ') : Drawn σ' ga ra gates rows := by
  obtain ⟨⟨gv, h3, h4⟩, ⟨rv, h5, h6⟩, ok⟩ := d
  exact ⟨⟨gv, e.get h3, h4.mono fun _ _ k => k.ex e e.len⟩, ⟨rv, e.get h5, h6.mono fun _ _ k => k.ex e e.len⟩, ok⟩
/-- a row's place -/
inductive RowAt (B : Nat → Prop) (σ : H) (ra w : Nat) (l : List Nat) : Prop
  | mk (rv : List V) (a : Nat) : σ[ra]? = some rv → rv[w]? = some (.ref a) → ¬ B a → σ[a]? = some (l.map nv) → RowAt B σ ra w l
inductive GateAt (B : Nat → Prop) (σ : H) (ga g : Nat) (k : Nat × List Nat) : Prop
  | mk (gv : List V) (a : Nat) : σ[ga]? = some gv → gv[g]? = some (.tup [.str k.1, .ref a]) → ¬ B a → σ[a]? = some (k.2.map nv) → GateAt B σ ga g k
section
variable {wh : Nat} {Φ : Nat → Option Fn} {n : Nat} {σ : H} {Q : P} {x : X}
theorem c_isR {a : Nat} (h : Q (.bool false) σ) : Stq (cmpop .is (.ref a) .none σ Q) := Stq.mk <| fun c hc => by
  have : c = false := by
    cases c with
    | false => rfl
    | true => cases hc.mp rfl
  refine rwE this ?_; exact h
theorem w_whole (F : Φ wh = some gWhole) {a : Int} (hQ : Q (.bool true) σ) : cW Φ (n + 1) wh [.int a] σ Q x := by
  refine fn_in F rfl (?_ : Gs _ (.mk _ _ _ _) _)
  refine k_yes ?_
  refine vj (?_ : Gs _ (.mk _ _ _ _) _)
  exact hQ
end
end Mini

set_option autoImplicit false
set_option linter.unusedVariables false
namespace Mini
/-- a hall at rest -/
structure AtRest (h : Hl) : Prop where
  inv : Inv h
  idle : ∀ w, w < h.rows.length → h.idle w = true
theorem AtRest.st {h : Hl} (a : AtRest h) {w : Nat} (hw : w < h.rows.length) (h10 : (h.stg w).1 ≠ 10) : h.vain w = true ∧ ((h.stg w).1 = 5 ∨ (h.stg w).1 = 8) := by
  have := a.idle w hw
  unfold Hl.idle at this
  have hv : h.vain w = true := by simpa [h10] using this
  refine ⟨hv, ?_⟩
  unfold Hl.vain at hv
  cases hc : h.cell (h.at_ w) with
  | cnt l s => rw [hc] at hv; simp only [cellVain, Bool.and_eq_true, decide_eq_true_eq] at hv; exact .inl hv.1
  | row b => rw [hc] at hv; simp only [cellVain, Bool.and_eq_true, decide_eq_true_eq] at hv; exact .inr hv.1
/-- at a counting gate at rest: all have passed as often -/
theorem AtRest.cnt {h : Hl} (a : AtRest h) {g tl K n : Nat} {left : Int} (c : CI h g tl K n left) (hg : g < h.gates.length) : (∀ u ∈ (h.gate g).2, h.passed u g = K) ∧ left = (h.gate g).2.length - n ∧ n < (h.gate g).2.length := by
  have gl := (a.inv.base.gk g hg).lt
  have p1 : ∀ u ∈ (h.gate g).2, h.passed u g = K := fun u hu => by
    rcases c.ty u hu with z | z | z
    · exact z.2
    · exact z.2.1
    · exfalso
      obtain ⟨z1, z2, z3⟩ := z
      obtain ⟨hv, hs⟩ := a.st (gl u hu) z1.2.1
      have h5 : (h.stg u).1 = 5 := by lia
      unfold Hl.vain at hv
      have at_ := z1.2.2
      rw [at_, c.cell] at hv
      simp only [cellVain, Bool.and_eq_true, decide_eq_true_eq] at hv
      have ht : h.time u = K := by unfold Hl.time; refine rwE at_ ?_; exact z2
      rw [ht] at hv
      exact hv.2 rfl
  refine ⟨p1, ?_⟩
  rcases c.ph with z | ⟨z1, v, hv, z3, _⟩
  · exact ⟨z.1, z.2.1⟩
  · exfalso
    have h10 : (h.stg v).1 ≠ 10 := by lia
    have := (a.st (gl v hv) h10).2
    lia
/-- who has come less often to the gate within which a walker is -/
noncomputable def Hl.miss (h : Hl) (w : Nat) : List Nat := if (h.stg w).1 = 2 ∨ (h.stg w).1 = 10 then [] else (h.gate (h.at_ w)).2.filter fun u => decide (h.cm u (h.at_ w) < h.cm w (h.at_ w))
theorem rest_idle : ∀ (n : Nat) {h : Hl}, WF h → h.mu ≤ n → ∀ w, w < h.rows.length → (h.run h.rest).idle w = true
  | n, h, f, hn => by
    have e := f.rest_eq
    by_cases hb : h.busy h.rows.length = []
    · rw [if_pos hb] at e
      refine rwE e ?_
      exact fun w hw => Hl.busy_nil hb w hw
    · rw [if_neg hb] at e
      have mb := f.mu_busy (k := h.rows.length) (Nat.le_refl _)
      have hp := List.length_pos_iff.mpr hb
      cases n with
      | zero => lia
      | succ n =>
        have := rest_idle n (h := h.run (h.busy h.rows.length)) (f.run fun w hw => Hl.busy_lt w hw) (by lia)
        rw [Hl.run_rows] at this
        (refine rwE e ?_; refine rwE Hl.run_app ?_)
        exact this
theorem rest_lt {h : Hl} : ∀ w ∈ h.rest, w < h.rows.length := fun w hw => by
  obtain ⟨i, hi, rfl⟩ := List.getElem_of_mem hw
  exact (Hl.restN_ni (List.getElem?_eq_getElem hi)).1
theorem rest_len : ∀ (n : Nat) {h : Hl}, WF h → h.mu ≤ n → h.rest.length ≤ h.mu
  | n, h, f, hn => by
    have e := f.rest_eq
    by_cases hb : h.busy h.rows.length = []
    · rw [if_pos hb] at e
      refine rwE e ?_
      exact Nat.zero_le _
    · rw [if_neg hb] at e
      have mb := f.mu_busy (k := h.rows.length) (Nat.le_refl _)
      have hp := List.length_pos_iff.mpr hb
      cases n with
      | zero => lia
      | succ n =>
        have := rest_len n (h := h.run (h.busy h.rows.length)) (f.run fun w hw => Hl.busy_lt w hw) (by lia)
        (refine rwE e ?_; refine rwE List.length_append ?_)
        lia
theorem AtRest.miss {h : Hl} (a : AtRest h) {w : Nat} (hw : w < h.rows.length) (h10 : (h.stg w).1 ≠ 10) : h.miss w ≠ [] := by
  have f := a.inv.base.wf
  have s := (a.st hw h10).2
  obtain ⟨ha, hm⟩ := f.at_ hw h10
  have hin : h.inn w (h.at_ w) := ⟨by lia, h10, rfl⟩
  unfold Hl.miss
  refine rwE (if_neg (by lia)) ?_
  generalize h.at_ w = g at *
  have gk := a.inv.base.gk g ha
  have fin : (∃ u ∈ (h.gate g).2, h.cm u g < h.passed w g + 1) → (h.gate g).2.filter (fun u => decide (h.cm u g < h.cm w g)) ≠ [] := fun ⟨u, hu, lt⟩ z => by
    have : u ∈ (h.gate g).2.filter fun u => decide (h.cm u g < h.cm w g) := List.mem_filter.mpr ⟨hu, decide_eq_true (Nat.lt_of_lt_of_eq lt (by unfold Hl.cm; (refine rwE (if_pos hin) ?_; with_reducible rfl)))⟩
    rw [z] at this
    cases this
  refine fin ?_
  rcases gk.word with h0 | h1
  · obtain ⟨tl, K, n, left, c⟩ := a.inv.g0 g ha h0
    obtain ⟨p1, p2, p3⟩ := a.cnt c ha
    rw [c.cnt] at p3
    have : ∃ u ∈ (h.gate g).2, ¬ (h.inn u g ∧ h.passed u g = K) := by
      refine Classical.byContradiction fun z => ?_
      have : (h.gate g).2.countP (fun w => decide (h.inn w g ∧ h.passed w g = K)) = (h.gate g).2.length := List.countP_eq_length.mpr fun u hu => by
        refine decide_eq_true (Classical.byContradiction fun y => z ⟨u, hu, y⟩)
      lia
    obtain ⟨u, hu, nu⟩ := this
    have pu := p1 u hu
    have nin : ¬ h.inn u g := fun z => nu ⟨z, pu⟩
    refine ⟨u, hu, ?_⟩
    have pw := p1 w hm
    unfold Hl.cm
    (refine rwE (if_neg nin) ?_; refine rwE pu ?_; refine rwE pw ?_); lia
  · obtain ⟨b, c⟩ := a.inv.g1 g ha h1
    exact (c.rest a.inv.base ha h1 (fun v hv => a.idle v (gk.lt v hv)) hm hin).2
/-- who waits for whom -/
noncomputable def Hl.chN (h : Hl) : Nat → List Nat → List Nat
  | 0, l => l
  | n + 1, l => match l.getLast? with
    | none => l
    | some w => match h.miss w with
      | [] => l
      | u :: _ => if u ∈ l then l else h.chN n (l ++ [u])
noncomputable def Hl.waits (h : Hl) (k : Nat) : List Nat := (List.range k).filter fun w => decide ((h.stg w).1 ≠ 10)
noncomputable def Hl.chain (h : Hl) : List Nat := h.chN (13 - ((h.waits h.rows.length).take 1).length) ((h.waits h.rows.length).take 1)
end Mini

set_option autoImplicit false
set_option linter.unusedVariables false
namespace Mini
noncomputable def f24 : Fn := ⟨2, 8, [
  .unpC [2, 3] 14 [(.var 0), (.var 1)],
  .ite (.cmp .inn (.var 3) (.tup [(.str 2), (.str 10)])) [
    .ret (.disp [])] [],
  .setC 4 13 [(.var 0), (.var 1), (.var 2)],
  .ret (.compIf (.var 5) 5 (.list (.idx (.idx (.attr (.var 0) 0) (.var 2)) (.int (1)))) (.cmp .lt (.call 13 [(.var 0), (.var 5), (.var 2)]) (.var 4)))]⟩
noncomputable def f25 : Fn := ⟨1, 8, [
  .set 1 (.disp []),
  .for [2] (.range (.b1 .len (.attr (.var 0) 1))) [
    .ite (.not (.call 19 [(.var 0), (.var 2)])) [
      .raise 5] [],
    .ite (.cmp .ne (.idx (.call 14 [(.var 0), (.var 2)]) (.int (1))) (.str 10)) [
      .expr (.m1 .append (.var 1) (.var 2))] []],
  .set 3 (.upto (.var 1) (.int (1))),
  .while (.cmp .ne (.var 3) (.disp [])) [
    .setC 4 24 [(.var 0), (.idx (.var 3) (.neg (.int (1))))],
    .ite (.or (.cmp .eq (.var 4) (.disp [])) (.cmp .inn (.idx (.var 4) (.int (0))) (.var 3))) [
      .ret (.var 3)] [],
    .expr (.m1 .append (.var 3) (.idx (.var 4) (.int (0))))],
  .ret (.var 3)]⟩
noncomputable def f38 : Fn := ⟨1, 9, [
  .set 1 (.bin .add (.int (3)) (.bin .mod (.var 0) (.int (10)))),
  .set 2 (.disp []),
  .set 3 (.disp []),
  .for [4] (.range (.var 1)) [
    .expr (.m1 .append (.var 3) (.bin .mod (.bin .add (.bin .add (.var 4) (.int (1))) (.bin .mod (.call 30 [(.var 0), (.var 4)]) (.bin .sub (.var 1) (.int (1))))) (.var 1))),
    .expr (.m1 .append (.var 2) (.tup [(.idx (.disp [(.str 0), (.str 1)]) (.bin .mod (.call 30 [(.var 0), (.bin .add (.int (20)) (.var 4))]) (.int (2)))), (.disp [(.var 4), (.idx (.var 3) (.var 4))])]))],
  .set 5 (.disp []),
  .for [4] (.range (.var 1)) [
    .expr (.m1 .append (.var 5) (.bin .add (.disp [(.var 4)]) (.compIf (.var 6) 6 (.range (.var 1)) (.cmp .eq (.idx (.var 3) (.var 6)) (.var 4)))))],
  .ite (.cmp .eq (.bin .mod (.bin .fdiv (.var 0) (.int (10))) (.int (3))) (.int (1))) [
    .put (.var 5) (.bin .mod (.bin .fdiv (.var 0) (.int (30))) (.var 1)) (.disp [])] [],
  .ret (.disp [(.var 2), (.var 5)])]⟩
noncomputable def f39 : Fn := ⟨3, 9, [
  .set 3 (.comp (.comp (.bin .mul (.disp [(.int (0))]) (.var 2)) 7 (.range (.var 1))) 6 (.range (.int (2)))),
  .for [4] (.list (.var 0)) [
    .ite (.or (.cmp .eq (.idx (.var 4) (.int (2))) (.str 2)) (.cmp .eq (.idx (.var 4) (.int (2))) (.str 6))) [
      .set 5 (.idx (.idx (.var 3) (.b1 .intOf (.cmp .eq (.idx (.var 4) (.int (2))) (.str 6)))) (.idx (.var 4) (.int (0)))),
      .put (.var 5) (.idx (.var 4) (.int (1))) (.bin .add (.idx (.var 5) (.idx (.var 4) (.int (1)))) (.int (1)))] []],
  .ret (.var 3)]⟩
noncomputable def f40 : Fn := ⟨2, 6, [
  .ite (.or (.not (.isinst (.var 0) .list)) (.cmp .ne (.var 0) (.var 1))) [
    .ret (.bool false)] [],
  .for [2] (.list (.var 0)) [
    .ite (.not (.call 29 [(.var 2)])) [
      .ret (.bool false)] []],
  .ret (.bool true)]⟩
noncomputable def f41 : Fn := ⟨5, 13, [
  .set 5 (.b1 .sum (.idx (.idx (.var 4) (.int (1))) (.var 1))),
  .ite (.cmp .isNot (.call 19 [(.var 0), (.var 1)]) (.bool true)) [
    .ret .none] [],
  .set 6 (.idx (.call 23 [(.var 0), (.var 1)]) (.int (1))),
  .ite (.cmp .eq (.var 5) (.b1 .len (.var 3))) [
    .ite (.or (.cmp .ne (.var 6) (.tup [(.var 1), .none, (.str 10)])) (.or (.cmp .ne (.call 14 [(.var 0), (.var 1)]) (.tup [.none, (.str 10)])) (.cmp .ne (.call 24 [(.var 0), (.var 1)]) (.disp [])))) [
      .ret .none] [],
    .ret (.disp [])] [],
  .set 7 (.idx (.var 3) (.var 5)),
  .set 8 (.idx (.idx (.idx (.var 4) (.int (0))) (.var 1)) (.var 7)),
  .ite (.or (.cmp .ne (.var 6) (.tup [(.var 1), (.var 7), (.str 9)])) (.cmp .ne (.idx (.call 14 [(.var 0), (.var 1)]) (.int (0))) (.var 7))) [
    .ret .none] [],
  .ite (.cmp .ne (.var 8) (.bin .add (.idx (.idx (.idx (.var 4) (.int (1))) (.var 1)) (.var 7)) (.int (1)))) [
    .ret .none] [],
  .set 9 (.compIf (.var 10) 10 (.list (.idx (.idx (.var 2) (.var 7)) (.int (1)))) (.cmp .lt (.idx (.idx (.idx (.var 4) (.int (0))) (.var 10)) (.var 7)) (.var 8))),
  .ite (.or (.cmp .eq (.b1 .len (.var 9)) (.int (0))) (.not (.call 40 [(.call 24 [(.var 0), (.var 1)]), (.var 9)]))) [
    .ret .none] [],
  .ret (.var 9)]⟩
noncomputable def f42 : Fn := ⟨1, 7, [
  .set 1 (.disp []),
  .for [2] (.range (.b1 .len (.var 0))) [
    .ite (.and (.cmp .eq (.b1 .len (.var 1)) (.int (0))) (.cmp .gt (.b1 .len (.idx (.var 0) (.var 2))) (.int (0)))) [
      .expr (.m1 .append (.var 1) (.var 2))] []],
  .while (.and (.cmp .gt (.b1 .len (.var 1)) (.int (0))) (.cmp .gt (.b1 .len (.idx (.var 0) (.idx (.var 1) (.bin .sub (.b1 .len (.var 1)) (.int (1)))))) (.int (0)))) [
    .set 3 (.idx (.idx (.var 0) (.idx (.var 1) (.bin .sub (.b1 .len (.var 1)) (.int (1))))) (.int (0))),
    .ite (.cmp .inn (.var 3) (.var 1)) [
      .ret (.var 1)] [],
    .expr (.m1 .append (.var 1) (.var 3))],
  .ret (.var 1)]⟩
noncomputable def f43 : Fn := ⟨1, 4, [
  .try [
    .call 25 [(.var 0)]] [(5, none, [
      .ret (.bool true)])],
  .ret (.bool false)]⟩
noncomputable def f44 : Fn := ⟨1, 5, [
  .try [
    .call 25 [(.var 0)]] [(100, some 1, [
      .ret (.and (.isexc (.var 1) [101]) (.not (.isexc (.var 1) [1, 0, 2, 4, 3])))])],
  .ret (.bool false)]⟩
noncomputable def f45A : List S := [
  .setC 1 36 [(.var 0)],
  .ite (.cmp .eq (.bin .mod (.bin .fdiv (.call 28 [(.var 0), (.int (5))]) (.int (7))) (.int (4))) (.int (1))) [
    .setC 1 38 [(.call 28 [(.var 0), (.int (4))])]] []]
noncomputable def f45B : List S := [
  .set 2 (.idx (.var 1) (.int (0))),
  .set 3 (.idx (.var 1) (.int (1))),
  .set 4 (.b1 .len (.var 3)),
  .setC 5 26 [(.call 7 [(.var 2), (.var 3)]), (.call 37 [(.from_ (.var 0) (.int (6))), (.var 4)])],
  .set 6 (.bool false),
  .for [7] (.range (.var 4)) [
    .ite (.not (.call 19 [(.idx (.var 5) (.int (0))), (.var 7)])) [
      .set 6 (.bool true)] []],
  .ite (.or (.cmp .ne (.call 43 [(.idx (.var 5) (.int (0)))]) (.var 6)) (.cmp .ne (.call 44 [(.idx (.var 5) (.int (0)))]) (.var 6))) [
    .ret (.bool false)] []]
noncomputable def f45C : List S := [
  .setC 8 27 [(.idx (.var 5) (.int (0)))],
  .setC 9 39 [(.bin .add (.idx (.var 5) (.int (1))) (.idx (.var 8) (.int (1)))), (.var 4), (.b1 .len (.var 2))],
  .set 10 (.disp []),
  .for [7] (.range (.var 4)) [
    .expr (.m1 .append (.var 10) (.call 41 [(.idx (.var 8) (.int (0))), (.var 7), (.var 2), (.idx (.var 3) (.var 7)), (.var 9)])),
    .ite (.cmp .is (.idx (.var 10) (.var 7)) .none) [
      .ret (.bool false)] []],
  .expr (.m1 .append (.call 25 [(.idx (.var 8) (.int (0)))]) (.neg (.int (1)))),
  .ret (.call 40 [(.call 25 [(.idx (.var 8) (.int (0)))]), (.call 42 [(.var 10)])])]
noncomputable def f45 : Fn := ⟨1, 14, f45A ++ (f45B ++ f45C)⟩
structure F10 (Φ : Nat → Option Fn) : Prop where
  h : HF ix Φ
  r : RF ix rx Φ
  d : DG dx Φ
  whole : Φ 29 = some gWhole
  came : Φ 13 = some (gCame ix)
  missing : Φ 24 = some f24
  chain : Φ 25 = some f25
  rested : Φ 27 = some (gRested ix rx)
  weave : Φ 37 = some dWeave
  circle : Φ 38 = some f38
  tally : Φ 39 = some f39
  list : Φ 40 = some f40
  rests : Φ 41 = some f41
  due : Φ 42 = some f42
  noRest : Φ 43 = some f43
  any : Φ 44 = some f44
/-- somebody can go on -/
noncomputable def Hl.going (h : Hl) : Bool := (List.range h.rows.length).any fun w => !h.idle w
theorem going_f {h : Hl} (e : ∀ w, w < h.rows.length → h.idle w = true) : h.going = false := by
  unfold Hl.going
  rewrite [List.any_eq_false]
  intro w hw
  refine rwE (e w (List.mem_range.mp hw)) ?_; decide
theorem going_t {h : Hl} {w : Nat} (hw : w < h.rows.length) (e : h.idle w = false) : h.going = true := by
  unfold Hl.going
  rewrite [List.any_eq_true]
  exact ⟨w, List.mem_range.mpr hw, by refine rwE e ?_; rfl⟩
section
variable {Φ : Nat → Option Fn} {n : Nat} {σ σ' : H} {Q : P} {x : X} {g r d s c w : Nat} {h : Hl}
theorem c_in2 {a b c : Nat} (h : Q (.bool (decide (a = b ∨ a = c))) σ) : Stq (cmpop .inn (.str a) (.tup [.str b, .str c]) σ Q) := ⟨⟨.str a, [.str b, .str c], rfl, rfl, fun q hq => by
  have : q = decide (a = b ∨ a = c) := by
    (rewrite [Bool.eq_iff_iff]; rewrite [hq]); simp
  refine rwE this ?_; exact h⟩⟩
theorem filter_take {α : Type} {l : List α} {i : Nat} {u : α} {p : α → Bool} (h : l[i]? = some u) : (l.take (i + 1)).filter p = if p u then (l.take i).filter p ++ [u] else (l.take i).filter p := by
  (refine rwE (take_snoc h) ?_; rewrite [List.filter_append]; refine rwE List.filter_cons ?_)
  split
  · rfl
  · (refine rwE List.filter_nil ?_; (rewrite [List.append_nil]; with_reducible rfl))
theorem w_cm (F : F10 Φ) {t : Nat} (q : Rep' σ g r d s c h) (f : WF h) (ht : t < h.gates.length) (hw : w < h.rows.length) (hQ : ∀ σ', Ex σ σ' → Q (.int (h.cm w t : Nat)) σ') : cW Φ (n + 3) 13 [.inst [.ref g, .ref r, .ref d, .ref s, .ref c], .int w, .int t] σ Q x :=
  w_came F.h F.came ⟨_, _, _, _, _, rfl, q⟩ f ht hw hQ
theorem w_missing (F : F10 Φ) (q : Rep' σ g r d s c h) (b : Base h) (hw : w < h.rows.length) (hQ : ∀ σ' a, Ex σ σ' → σ'[a]? = some ((h.miss w).map nv) → Q (.ref a) σ') : cW Φ (n + 4) 24 [.inst [.ref g, .ref r, .ref d, .ref s, .ref c], .int w] σ Q x := by
  have f := b.wf
  refine fn_in F.missing rfl (?_ : Gs _ (.mk _ _ _ _) _)
  unfold Hl.miss at hQ
  refine w_ahead' F.h ⟨_, _, _, _, _, rfl, q⟩ f hw (fun z => ?_) fun z => ?_
  · rw [if_pos (.inr z)] at hQ
    refine vj (?_ : Gs _ (.mk _ _ _ _) _)
    refine c_in2 ?_
    refine vj (?_ : Gs _ (.mk _ _ _ _) _)
    refine k_pos (.inr rfl) ?_
    refine vj (?_ : Gs _ (.mk _ _ _ _) _)
    refine a_disp rfl ?_
    refine vj (?_ : Gs _ (.mk _ _ _ _) _)
    exact hQ _ _ Ex.one last_get
  · obtain ⟨ha, hm⟩ := f.at_ hw z
    refine vj (?_ : Gs _ (.mk _ _ _ _) _)
    refine c_in2 ?_
    refine vj (?_ : Gs _ (.mk _ _ _ _) _)
    refine k_dec (fun h2 => ?_) fun h2 => ?_
    · rw [if_pos h2] at hQ
      refine vj (?_ : Gs _ (.mk _ _ _ _) _)
      refine a_disp rfl ?_
      refine vj (?_ : Gs _ (.mk _ _ _ _) _)
      exact hQ _ _ Ex.one last_get
    · rw [if_neg h2] at hQ
      refine vj (?_ : Gs _ (.mk _ _ _ _) _)
      refine w_cm F q f ha hw fun σ1 e1 => ?_
      obtain ⟨gv, ma, g1, g2, g3, g4⟩ := (q.ex e1).gate ha
      refine vj (?_ : Gs _ (.mk _ _ _ _) _)
      refine x_item g1 g3 ?_
      refine vj (?_ : Gs _ (.mk _ _ _ _) _)
      refine r_lsK g4 ?_
      have m12 := f.gm _ ha
      refine compIf_rule (fun i acc σ' => Mini.Cj2 (Ex σ1 σ') (acc = (((h.gate (h.at_ w)).2.take i).filter fun u => decide (h.cm u (h.at_ w) < h.cm w (h.at_ w))).map nv)) (by rewrite [List.length_map]; exact Nat.le_trans m12 (by decide)) ⟨Ex.refl, rfl⟩ ?_ ?_
      · rintro i v acc σ2 Kt Kf hv ⟨e2, rfl⟩ h1 h2
        refine ⟨e2.get g4, ?_⟩
        obtain ⟨u, hu, rfl⟩ := nv_get hv
        have ul : u < h.rows.length := (b.gk _ ha).lt u (List.mem_of_getElem? hu)
        refine vjF (?_ : Gs _ (.mk _ _ _ _) _)
        refine w_cm F ((q.ex e1).ex e2) f ha ul fun σ3 e3 => ?_
        refine vj (vfT ?_)
        have ft := filter_take (p := fun u => decide (h.cm u (h.at_ w) < h.cm w (h.at_ w))) hu
        refine k_dec (fun z => ?_) fun z => ?_
        · rw [if_pos (decide_eq_true (Int.ofNat_lt.mp z))] at ft
          refine vjE (?_ : Gs _ (.mk _ _ _ _) _)
          refine h1 _ _ ⟨e2.trans e3, ?_⟩
          (refine rwE ft ?_; refine rwE List.map_append ?_); rfl
        · rw [if_neg (by refine rwE decide_eq_true_eq ?_; exact fun y => z (Int.ofNat_lt.mpr y))] at ft
          refine h2 _ ⟨e2.trans e3, ?_⟩
          (refine rwE ft ?_; with_reducible rfl)
      · rintro acc σ2 ⟨e2, rfl⟩
        refine ⟨e2.get g4, ?_⟩
        refine vj (?_ : Gs _ (.mk _ _ _ _) _)
        refine hQ _ _ (e1.trans (e2.trans Ex.one)) ?_
        (rewrite [List.length_map]; refine rwE List.take_length ?_)
        exact last_get
end
end Mini

set_option autoImplicit false
set_option linter.unusedVariables false
namespace Mini
section
variable {Φ : Nat → Option Fn} {n : Nat} {σ σ' : H} {Q : P} {x : X} {g r d s c : Nat} {h : Hl}
theorem x_last {a : Nat} {xs : List V} {v : V} (hx : σ[a]? = some (xs ++ [v])) (h : Q v σ) : Stq (item (.ref a) (.int (-1)) σ Q) := by
  refine ⟨_, v, hx, .inr ⟨by decide, by refine rwE List.length_append ?_; simp; lia, ?_⟩, h⟩
  (refine rwE List.length_append ?_; refine rwE (show ((-1 : Int) + ((xs.length + [v].length : Nat) : Int)).toNat = xs.length by simp; lia) ?_)
  exact List.getElem?_concat_length
theorem waits_succ {k : Nat} : h.waits (k + 1) = if (h.stg k).1 ≠ 10 then h.waits k ++ [k] else h.waits k := by
  unfold Hl.waits
  (refine rwE List.range_succ ?_; rewrite [List.filter_append]; refine rwE List.filter_cons ?_)
  by_cases z : (h.stg k).1 = 10
  · (refine rwE (if_neg (by simp [z])) ?_; refine rwE (if_neg (by simp [z])) ?_); simp
  · (refine rwE (if_pos (by simp [z])) ?_; refine rwE (if_pos z) ?_); rfl
theorem miss_lt {w : Nat} (o : Okh h) (b : Base h) (hw : w < h.rows.length) : ∀ u ∈ h.miss w, u < h.rows.length := fun u hu => by
  unfold Hl.miss at hu
  split at hu
  · cases hu
  · rename_i z
    exact (b.gk _ (o.wf.at_ hw fun y => z (.inr y)).1).lt u (List.mem_filter.mp hu).1
theorem miss_len {w : Nat} (o : Okh h) (b : Base h) (hw : w < h.rows.length) : (h.miss w).length ≤ 12 := by
  unfold Hl.miss
  split
  · simp
  · rename_i z
    exact Nat.le_trans (List.length_filter_le _ _) (o.wf.gm _ (o.wf.at_ hw fun y => z (.inr y)).1)
theorem chN_succ {m w : Nat} {l : List Nat} : h.chN (m + 1) (l ++ [w]) = (match h.miss w with
      | [] => l ++ [w]
      | u :: _ => if u ∈ l ++ [w] then l ++ [w] else h.chN m (l ++ [w] ++ [u])) := by
  show (match (l ++ [w]).getLast? with | none => _ | some w => _) = _
  (refine rwE List.getLast?_concat ?_; with_reducible rfl); first | done | rfl
theorem w_chain (F : F10 Φ) (q : Rep' σ g r d s c h) (o : Okh h) (b : Base h) (h0 : 0 < σ.length) (hX : h.going = true → ∀ σ', Ex σ σ' → x 5 σ') (hQ : h.going = false → ∀ σ' a, Ex σ σ' → σ.length ≤ a → σ'[a]? = some (h.chain.map nv) → h.chain.length ≤ 13 → Q (.ref a) σ') :
    cW Φ (n + 6) 25 [.inst [.ref g, .ref r, .ref d, .ref s, .ref c]] σ Q x := by
  refine fn_in F.chain rfl (?_ : Gs _ (.mk _ _ _ _) _)
  refine a_disp rfl ?_
  have r12 := o.r1
  have e1 : Ex σ (σ ++ [[]]) := Ex.one
  obtain ⟨rv, y1, y2⟩ := q.rows
  refine vj (?_ : Gs _ (.mk _ _ _ _) _)
  refine b_lenE (e1.get y1) y2.len ?_
  refine vj (?_ : Gs _ (.mk _ _ _ _) _)
  refine r_rgK (by lia) ?_
  refine forL_rule (fun i m σ' => Mini.Ek1 fun u2 => Mini.Cj5 (Ex σ σ') (σ'[σ.length]? = some ((h.waits i).map nv)) ((h.waits i).length ≤ i) ((∀ w, w < i → h.idle w = true)) (m = [some (.inst [.ref g, .ref r, .ref d, .ref s, .ref c]), some (.ref σ.length), u2, none, none, none, none, none])) ⟨_, e1, last_get, Nat.zero_le _, nofun, rfl⟩ ?_ ?_
  · rintro i v m σ1 K hv ⟨u2, e, t, wl, il, rfl⟩ hK
    obtain ⟨rfl, hi⟩ := rangeV_get hv
    have hi : i < h.rows.length := by lia
    refine ⟨trivial, _, rfl, ?_⟩
    refine vjB (?_ : Gs _ (.mk _ _ _ _) _)
    refine w_idle F.h F.r (q.ex e) o hi fun σ2 e2 => ?_
    have e12 := e.trans e2
    rw [waits_succ] at hK
    refine vj (?_ : Gs _ (.mk _ _ _ _) _)
    cases hid : h.idle i with
    | false =>
      refine k_nno ?_
      refine vj (?_ : Gs _ (.mk _ _ _ _) _)
      exact hX (going_t hi hid) _ e12
    | true =>
      have il : ∀ w, w < i + 1 → h.idle w = true := fun w hw => by
        by_cases hwi : w < i
        · exact il w hwi
        · refine rwE (show w = i by lia) ?_; exact hid
      refine k_nyes ?_
      refine vj (?_ : Gs _ (.mk _ _ _ _) _)
      refine w_ahead' F.h ⟨_, _, _, _, _, rfl, q.ex e12⟩ o.wf hi (fun z => ?_) fun z => ?_
      · refine vj (?_ : Gs _ (.mk _ _ _ _) _)
        refine k_neg (fun y => y rfl) ?_
        refine vj (?_ : Gs _ (.mk _ _ _ _) _)
        rw [if_neg fun y => y z] at hK
        exact hK _ _ ⟨_, e12, e2.get t, Nat.le_succ_of_le wl, il, rfl⟩
      · refine vj (?_ : Gs _ (.mk _ _ _ _) _)
        refine k_pos z ?_
        refine vj (?_ : Gs _ (.mk _ _ _ _) _)
        rw [if_pos z] at hK
        refine b_app (by exact Nat.ne_of_gt (by assumption)) (e2.get t) (by rewrite [List.length_map]; unfold lim; lia) ?_
        refine vj (?_ : Gs _ (.mk _ _ _ _) _)
        refine hK _ _ ⟨_, e12.set (Nat.le_refl _), ?_, by refine rwE List.length_append ?_; exact Nat.succ_le_succ wl, il, rfl⟩
        (refine rwE (get_set_eq (lt_of_get (e2.get t))) ?_; refine rwE List.map_append ?_); rfl
  rintro m σ1 ⟨u2, e, t, wl, il, rfl⟩
  refine ⟨trivial, ?_⟩
  rw [rangeV_length, Int.toNat_natCast] at t wl il
  have hQ := hQ (going_f il)
  clear hX il
  refine vj (?_ : Gs _ (.mk _ _ _ _) _)
  refine b_upto (k := 1) t (by rewrite [List.length_map]; unfold lim; lia) ?_
  have e2 : Ex σ1 (σ1 ++ [((h.waits h.rows.length).map nv).take 1]) := Ex.one
  have t2 : (σ1 ++ [((h.waits h.rows.length).map nv).take 1])[σ1.length]? = some (((h.waits h.rows.length).take 1).map nv) := by (refine rwE last_get ?_; (refine rwE List.map_take ?_; with_reducible rfl))
  have lb := e.len
  have e12 := e.trans e2
  have n0 : ((h.waits h.rows.length).take 1).Nodup := ((List.take_sublist _ _).trans List.filter_sublist).nodup List.nodup_range
  have l0 : ∀ u ∈ (h.waits h.rows.length).take 1, u < h.rows.length := fun u hu => List.mem_range.mp (List.mem_filter.mp (List.mem_of_mem_take hu)).1
  unfold Hl.chain at hQ
  generalize (h.waits h.rows.length).take 1 = l at t2 n0 l0 hQ
  generalize hC : h.chN (13 - l.length) l = C at hQ
  generalize σ1 ++ [((h.waits h.rows.length).map nv).take 1] = σ2 at e12 t2
  generalize σ1.length = ba at t2 lb
  clear e2 t e
  have ll := Nat.le_trans (pigeon _ l n0 l0) r12
  refine vj (?_ : Gs _ (.mk _ _ _ _) _)
  refine while_rule (fun k m σ' => Mini.Ek2 fun l u4 => Mini.Cj7 (Ex σ σ') (σ'[ba]? = some (l.map nv)) (l.Nodup) ((∀ u ∈ l, u < h.rows.length)) (h.chN (13 - l.length) l = C) (k = 13 - l.length) (m = [some (.inst [.ref g, .ref r, .ref d, .ref s, .ref c]), some (.ref σ.length), u2, some (.ref ba), u4, none, none, none])) (k := 13 - l.length) ⟨l, _, e12, t2, n0, l0, hC, rfl, rfl⟩ ?_
  clear hC t2 n0 l0 e12 ll
  rintro k m σ3 K ⟨l, u4, e3, t3, nd, lt, hC, rfl, rfl⟩ hK
  have ll := Nat.le_trans (pigeon _ l nd lt) r12
  refine vjT (?_ : Gs _ (.mk _ _ _ _) _)
  refine a_disp rfl ?_
  have e4 : Ex σ3 (σ3 ++ [[]]) := Ex.one
  refine vj (?_ : Gs _ (.mk _ _ _ _) _)
  refine c_neL (l := l.map Int.ofNat) (l' := []) (by rewrite [← nv_int]; exact e4.get t3) last_get ?_
  have e34 := e3.trans e4
  have t4 := e4.get t3
  generalize σ3 ++ [[]] = σ4 at e34 t4
  clear e3 t3 e4
  have hfin : l.length ≤ 13 := by exact Nat.le_trans (by assumption) (by decide)
  refine vj (vfT ?_)
  refine k_dec (fun z => ?_) fun z => ?_
  · obtain ⟨l', w, rfl⟩ : ∃ l' w, l = l' ++ [w] := by
      rcases List.eq_nil_or_concat l with e | ⟨l', w, e⟩
      · exact absurd (by refine rwE e ?_; rfl) z
      · exact ⟨l', w, by (refine rwE e ?_; (refine rwE List.concat_eq_append ?_; with_reducible rfl))⟩
    have hw := lt w (by simp)
    have m12 := miss_len o b hw
    have ec : 13 - (l' ++ [w]).length = (12 - (l' ++ [w]).length) + 1 := Nat.succ_sub ll
    rw [ec, chN_succ] at hC
    refine vjB (?_ : Gs _ (.mk _ _ _ _) _)
    refine x_last (xs := l'.map nv) (v := .int w) (by (refine rwE t4 ?_; refine rwE List.map_append ?_); rfl) ?_
    refine vj (?_ : Gs _ (.mk _ _ _ _) _)
    refine w_missing F (q.ex e34) b hw fun σ5 a e5 ha => ?_
    have e35 := e34.trans e5
    refine vj (?_ : Gs _ (.mk _ _ _ _) _)
    refine a_disp rfl ?_
    have e6 : Ex σ5 (σ5 ++ [[]]) := Ex.one
    have e36 := e35.trans e6
    have t6 := (e5.trans e6).get t4
    have ha6 := e6.get ha
    refine vj (?_ : Gs _ (.mk _ _ _ _) _)
    refine c_eqL (l := (h.miss w).map Int.ofNat) (l' := []) (by rewrite [← nv_int]; exact ha6) last_get ?_
    generalize σ5 ++ [[]] = σ6 at e36 t6 ha6
    have ml := miss_lt o b hw
    refine vj (?_ : Gs _ (.mk _ _ _ _) _)
    refine k_dec (fun y => ?_) fun y => ?_
    · have em : h.miss w = [] := List.map_eq_nil_iff.mp y
      rw [em] at hC
      have hC : l' ++ [w] = C := hC
      refine vj (?_ : Gs _ (.mk _ _ _ _) _)
      refine k_yes ?_
      refine vj (?_ : Gs _ (.mk _ _ _ _) _)
      exact hQ _ _ e36 lb (by refine rwE (Eq.symm (hC)) ?_; exact t6) (by refine rwE (Eq.symm (hC)) ?_; exact hfin)
    · cases em : h.miss w with
      | nil => exact absurd (by refine rwE em ?_; rfl) y
      | cons u us =>
        rw [em] at hC ha6 ml
        have hC : (if u ∈ l' ++ [w] then l' ++ [w] else h.chN (12 - (l' ++ [w]).length) (l' ++ [w] ++ [u])) = C := hC
        refine vj (?_ : Gs _ (.mk _ _ _ _) _)
        refine x_it (v := .int u) ha6 (by decide) rfl ?_
        refine vj (?_ : Gs _ (.mk _ _ _ _) _)
        refine c_in t6 ?_
        refine vj (?_ : Gs _ (.mk _ _ _ _) _)
        refine k_dec (fun i1 => ?_) fun i1 => ?_
        · rw [if_pos i1] at hC
          refine vj (?_ : Gs _ (.mk _ _ _ _) _)
          exact hQ _ _ e36 lb (by refine rwE (Eq.symm (hC)) ?_; exact t6) (by refine rwE (Eq.symm (hC)) ?_; exact hfin)
        · rw [if_neg i1] at hC
          refine vj (?_ : Gs _ (.mk _ _ _ _) _)
          refine x_it (v := .int u) ha6 (by decide) rfl ?_
          refine vj (?_ : Gs _ (.mk _ _ _ _) _)
          refine b_app (by exact Nat.ne_of_gt (Nat.lt_of_lt_of_le (by assumption) (by assumption))) t6 (by rewrite [List.length_map]; unfold lim; lia) ?_
          refine vj (?_ : Gs _ (.mk _ _ _ _) _)
          refine hK (13 - (l' ++ [w] ++ [u]).length) _ _ (by refine rwE (List.length_append (as := l' ++ [w])) ?_; exact Nat.sub_lt_sub_left (Nat.lt_succ_of_le ll) (Nat.lt_succ_self _)) ⟨l' ++ [w] ++ [u], _, e36.set lb, ?_, ?_, fun v hv => ?_, ?_, rfl, rfl⟩
          · (refine rwE (get_set_eq (lt_of_get t6)) ?_; refine rwE (List.map_append (l₁ := l' ++ [w])) ?_); rfl
          · exact List.nodup_append.mpr ⟨nd, by simp, fun a ha b hb z => i1 (by rw [List.mem_singleton.mp hb] at z; refine rwE (Eq.symm (z)) ?_; exact ha)⟩
          · rcases List.mem_append.mp hv with hv | hv
            · exact lt v hv
            · refine rwE (List.mem_singleton.mp hv) ?_; exact ml u (by simp)
          · refine rwE (Eq.symm (hC)) ?_
            congr 1
            simp only [List.length_append, List.length_singleton]
            lia
  · have el : l = [] := by
      have : l.map Int.ofNat = [] := Classical.byContradiction z
      exact List.map_eq_nil_iff.mp this
    subst el
    have hC : ([] : List Nat) = C := by refine rwE (Eq.symm (hC)) ?_; rfl
    refine vj (?_ : Gs _ (.mk _ _ _ _) _)
    exact hQ _ _ e34 lb (by refine rwE (Eq.symm (hC)) ?_; exact t4) (by refine rwE (Eq.symm (hC)) ?_; simp)
end
end Mini

set_option autoImplicit false
set_option linter.unusedVariables false
namespace Mini
section
variable {Φ : Nat → Option Fn} {n : Nat} {σ σ' : H} {Q : P} {x : X} {g r d s c : Nat} {h : Hl}
theorem w_noRest (F : F10 Φ) (q : Rep' σ g r d s c h) (o : Okh h) (b : Base h) (h0 : 0 < σ.length) (hQ : ∀ σ', Ex σ σ' → Q (.bool h.going) σ') : cW Φ (n + 7) 43 [.inst [.ref g, .ref r, .ref d, .ref s, .ref c]] σ Q x := by
  refine fn_in F.noRest rfl (?_ : Gs _ (.mk _ _ _ _) _)
  refine v_try (?_ : Gs _ (.mk _ _ _ _) _)
  refine w_chain F q o b h0 (fun hg σ1 e1 => ?_) fun hg σ1 a e1 _ _ _ => ?_
  · rw [hg] at hQ
    refine v_ha rfl (?_ : Gs _ (.mk _ _ _ _) _)
    exact hQ _ e1
  · rw [hg] at hQ
    refine vj (?_ : Gs _ (.mk _ _ _ _) _)
    refine v_end ?_
    refine vj (?_ : Gs _ (.mk _ _ _ _) _)
    exact hQ _ e1
theorem w_any (F : F10 Φ) (q : Rep' σ g r d s c h) (o : Okh h) (b : Base h) (h0 : 0 < σ.length) (hQ : ∀ σ', Ex σ σ' → Q (.bool h.going) σ') : cW Φ (n + 7) 44 [.inst [.ref g, .ref r, .ref d, .ref s, .ref c]] σ Q x := by
  refine fn_in F.any rfl (?_ : Gs _ (.mk _ _ _ _) _)
  refine v_try (?_ : Gs _ (.mk _ _ _ _) _)
  refine w_chain F q o b h0 (fun hg σ1 e1 => ?_) fun hg σ1 a e1 _ _ _ => ?_
  · rw [hg] at hQ
    refine v_ha rfl (?_ : Gs _ (.mk _ _ _ _) _)
    refine k_yes ?_
    refine vj (?_ : Gs _ (.mk _ _ _ _) _)
    exact hQ _ e1
  · rw [hg] at hQ
    refine vj (?_ : Gs _ (.mk _ _ _ _) _)
    refine v_end ?_
    refine vj (?_ : Gs _ (.mk _ _ _ _) _)
    exact hQ _ e1
end
end Mini

set_option autoImplicit false
set_option linter.unusedVariables false
namespace Mini
theorem snoc_get {α : Type} {l : List α} {a x : α} {j : Nat} (h : (l ++ [a])[j]? = some x) : l[j]? = some x ∨ (j = l.length ∧ x = a) := by
  by_cases hj : j < l.length
  · rw [List.getElem?_append_left hj] at h; exact .inl h
  · rw [List.getElem?_append_right (by lia)] at h
    have : j - l.length = 0 := by have := lt_of_get h; simpa using this
    rw [this] at h
    cases h
    exact .inr ⟨by lia, rfl⟩
theorem get_left {α : Type} {l : List α} {a x : α} {j : Nat} (h : l[j]? = some x) : (l ++ [a])[j]? = some x := by
  refine rwE (List.getElem?_append_left (lt_of_get h)) ?_; exact h
theorem draw_in {i u m : Nat} (hi : i < m) (hu : 1 + u < m) (h : (i + (1 + u)) % m = (i + 0) % m) : False := by
  rw [Nat.add_comm i, Nat.add_comm i] at h
  have := add_inj hu (Nat.zero_lt_of_lt hi) (Nat.le_of_lt hi) h
  rw [Nat.add_comm] at this
  cases this
/-- whom a walker has drawn -/
theorem draw_ne {i m : Nat} {z : Int} (hi : i < m) (hm : 3 ≤ m) : ∃ t : Nat, ((i : Int) + 1 + z % ((m : Int) - 1)) % (m : Int) = t ∧ t < m ∧ t ≠ i := by
  obtain ⟨u, hu, hu2⟩ := nat_mod (z := z) (m := m - 1) (by lia)
  have e1 : ((m : Int) - 1) = ((m - 1 : Nat) : Int) := by lia
  (refine rwE e1 ?_; refine rwE hu ?_)
  have e2 : (i : Int) + 1 + (u : Int) = ((i + (1 + u) : Nat) : Int) := by lia
  (refine rwE e2 ?_; rewrite [← Int.natCast_emod])
  refine ⟨_, rfl, Nat.mod_lt _ (by lia), ?_⟩
  intro e
  have : (i + (1 + u)) % m = (i + 0) % m := by (refine rwE e ?_; rewrite [Nat.add_zero]; (refine rwE (Nat.mod_eq_of_lt hi) ?_; with_reducible rfl))
  exact draw_in hi (by lia) this
/-- the circle's gates -/
structure CG (m : Nat) (af : List Nat) (gates : List (Nat × List Nat)) : Prop where
  len : gates.length = af.length
  at_ : ∀ j g, gates[j]? = some g → (g.1 = 0 ∨ g.1 = 1) ∧ ∃ t, af[j]? = some t ∧ g.2 = [j, t] ∧ t < m ∧ t ≠ j
theorem CG.snoc {m : Nat} {af : List Nat} {gates : List (Nat × List Nat)} (c : CG m af gates) {k t : Nat} (hk : k < 2) (ht : t < m) (hn : t ≠ af.length) : CG m (af ++ [t]) (gates ++ [(k, [af.length, t])]) := by
  refine ⟨by (refine rwE List.length_append ?_; refine rwE List.length_append ?_; refine rwE c.len ?_); rfl, fun j g hg => ?_⟩
  rcases snoc_get hg with z | ⟨rfl, rfl⟩
  · obtain ⟨h1, u, h2, h3⟩ := c.at_ j g z
    exact ⟨h1, u, get_left h2, h3⟩
  · refine rwE c.len ?_
    exact ⟨by show k = 0 ∨ k = 1; lia, t, List.getElem?_concat_length, rfl, ht, hn⟩
noncomputable def CR (af : List Nat) (rows : List (List Nat)) : Prop := ∀ (j : Nat) (row : List Nat), rows[j]? = some row → row.length ≤ 13 ∧ ∀ g ∈ row, g = j ∨ af[g]? = some j
section
variable {Φ : Nat → Option Fn} {n : Nat} {σ σ' : H} {Q : P} {x : X}
theorem CG.ok {m : Nat} {af : List Nat} {gates : List (Nat × List Nat)} {rows : List (List Nat)} (c : CG m af gates) (ha : af.length = m) (hm : 3 ≤ m) (hm2 : m ≤ 12) (hr : rows.length = m) (h : CR af rows) : HallOk gates rows := by
  have gl := c.len
  refine ⟨by lia, by lia, by lia, by lia, fun g hg => ?_, fun w row hw => ?_⟩
  · obtain ⟨j, hj, rfl⟩ := List.getElem_of_mem hg
    obtain ⟨h1, t, h2, h3, h4, h5⟩ := c.at_ j _ (List.getElem?_eq_getElem hj)
    have jl := lt_of_get h2
    refine ⟨h1, by refine rwE h3 ?_; simp, by refine rwE h3 ?_; simp [Ne.symm h5], fun u hu => ?_⟩
    rw [h3] at hu
    simp at hu
    lia
  · obtain ⟨h1, h2⟩ := h w row hw
    have hwl := lt_of_get hw
    refine ⟨by exact Nat.le_trans (by assumption) (by decide), fun g hg => ?_⟩
    have key : ∀ g, g < gates.length → g = w ∨ af[g]? = some w → w ∈ (gates.getD g (0, [])).2 := fun g hg hx => by
      obtain ⟨_, t, h3, h4, _⟩ := c.at_ g _ (get_of_lt (d := (0, [])) hg)
      refine rwE h4 ?_
      rcases hx with rfl | hx
      · simp
      · rw [h3] at hx; cases hx; simp
    have gg : g < gates.length := by
      rcases h2 g hg with rfl | z
      · lia
      · have := lt_of_get z; lia
    exact ⟨gg, key g gg (h2 g hg)⟩
theorem w_circle (F : F10 Φ) {c : Int} (hs : 0 < σ.length) (hQ : ∀ σ' b ga ra gates rows, Ex σ σ' → σ'[b]? = some [.ref ga, .ref ra] → Drawn σ' ga ra gates rows → Q (.ref b) σ') : cW Φ (n + 2) 38 [.int c] σ Q x := by
  obtain ⟨m0, hm0, hm1⟩ := nat_mod (z := c) (m := 10) (by decide)
  have hm0 : c % 10 = m0 := hm0
  refine fn_in F.circle rfl (?_ : Gs _ (.mk _ _ _ _) _)
  have em : (3 : Int) + c % 10 = ((3 + m0 : Nat) : Int) := by lia
  refine rwE em ?_
  have hm3 : 3 ≤ 3 + m0 := by lia
  have hm12 : 3 + m0 ≤ 12 := by lia
  generalize 3 + m0 = m at *
  refine a_disp rfl ?_
  refine vj (?_ : Gs _ (.mk _ _ _ _) _)
  refine a_disp rfl ?_
  have e0 : Ex σ (σ ++ [[]] ++ [[]]) := Ex.one.trans Ex.one
  have a0 : (σ ++ [[]] ++ [[]])[σ.length]? = some [] := Ex.one.get last_get
  have b0 : (σ ++ [[]] ++ [[]])[(σ ++ [[]]).length]? = some [] := last_get
  have hab : σ.length < (σ ++ [[]]).length := by refine rwE List.length_append ?_; exact Nat.lt_succ_self _
  generalize (σ ++ [[]]).length = B at *
  generalize σ ++ [[]] ++ [[]] = σ0 at *
  have ale : σ.length ≤ σ.length := Nat.le_refl _
  generalize hA : σ.length = A at hab a0 ale
  have hBn : σ.length ≤ B := by lia
  refine vj (?_ : Gs _ (.mk _ _ _ _) _)
  refine r_rgK (by lia) ?_
  refine forL_rule (fun i mm σ' => Mini.Ek4 fun af gv gates s4 => Mini.Cj7 (Ex σ σ') (af.length = i) (σ'[B]? = some (af.map nv)) (σ'[A]? = some gv) (A2 (GateB (fun a => a = A ∨ a = B) σ') gv gates) (CG m af gates) (mm = [some (.int c), some (.int m), some (.ref A), some (.ref B), s4, none, none, none, none]))
    ⟨[], [], [], none, e0, rfl, b0, a0, A2.nil, ⟨rfl, nofun⟩, rfl⟩ ?_ ?_
  · rintro i u mm σ1 K hu ⟨af, gv, gates, s4, e1, hl, h1, h2, q1, cg, rfl⟩ hK
    obtain ⟨rfl, hi⟩ := rangeV_get hu
    have hi : i < m := by lia
    refine ⟨trivial, _, rfl, ?_⟩
    have gl := q1.len
    have cl := cg.len
    refine vjB (?_ : Gs _ (.mk _ _ _ _) _)
    refine d_mixed F.d.f (by lia) fun c1 hc1 => ?_
    refine vj (?_ : Gs _ (.mk _ _ _ _) _)
    refine b_mod (by lia) ?_
    refine vj (?_ : Gs _ (.mk _ _ _ _) _)
    refine b_mod (by lia) ?_
    obtain ⟨t, ht, ht2, ht3⟩ := draw_ne (z := c1) hi hm3
    refine rwE ht ?_
    refine vj (?_ : Gs _ (.mk _ _ _ _) _)
    refine b_app (by exact Nat.ne_of_gt (Nat.lt_of_lt_of_le (by assumption) (by assumption))) h1 (by rewrite [List.length_map]; unfold lim; lia) ?_
    have e2 : Ex σ (σ1.set B (af.map nv ++ [.int t])) := e1.set hBn
    have h3 : (σ1.set B (af.map nv ++ [.int t]))[B]? = some ((af ++ [t]).map nv) := by (refine rwE (get_set_eq (lt_of_get h1)) ?_; refine rwE List.map_append ?_); rfl
    have h4 : (σ1.set B (af.map nv ++ [.int t]))[A]? = some gv := get_set_ne (by exact Nat.ne_of_gt (by assumption)) h2
    have q2 : A2 (GateB (fun a => a = A ∨ a = B) (σ1.set B (af.map nv ++ [.int t]))) gv gates := q1.mono fun _ _ q => q.ag (Ag.set (.inr rfl))
    generalize σ1.set B (af.map nv ++ [.int t]) = σ2 at *
    refine vj (?_ : Gs _ (.mk _ _ _ _) _)
    refine a_disp rfl ?_
    refine vj (?_ : Gs _ (.mk _ _ _ _) _)
    refine d_mixed F.d.f (by lia) fun c2 hc2 => ?_
    obtain ⟨k, hk, hk2⟩ := nat_mod (z := c2) (m := 2) (by decide)
    have hk : c2 % 2 = k := hk
    refine vj (?_ : Gs _ (.mk _ _ _ _) _)
    refine rwE hk ?_
    refine x_item (v := .str k) last_get (by rcases (lt2 (by assumption)) with rfl | rfl <;> rfl) ?_
    refine vj (?_ : Gs _ (.mk _ _ _ _) _)
    refine x_item (v := .int t) (Ex.one.get h3) (by (refine rwE List.map_append ?_; refine rwE (Eq.symm (hl)) ?_); exact List.getElem?_append_right (Nat.le_of_eq (List.length_map _)) |>.trans (by (rewrite [List.length_map]; rewrite [Nat.sub_self]); rfl)) ?_
    refine vj (?_ : Gs _ (.mk _ _ _ _) _)
    refine a_disp rfl ?_
    have e4 : Ex σ2 (σ2 ++ [[V.str 0, V.str 1]] ++ [[V.int i, V.int t]]) := Ex.one.trans Ex.one
    have l4 : (σ2 ++ [[V.str 0, V.str 1]] ++ [[V.int i, V.int t]])[(σ2 ++ [[V.str 0, V.str 1]]).length]? = some ([i, t].map nv) := last_get
    have l2 : σ2.length ≤ (σ2 ++ [[V.str 0, V.str 1]]).length := Ex.one.len
    generalize (σ2 ++ [[V.str 0, V.str 1]]).length = D at *
    generalize σ2 ++ [[V.str 0, V.str 1]] ++ [[V.int i, V.int t]] = σ3 at *
    have lA := lt_of_get h4
    have lB := lt_of_get h3
    refine vj (?_ : Gs _ (.mk _ _ _ _) _)
    refine b_app (by lia) (e4.get h4) (by unfold lim; lia) ?_
    refine vj (?_ : Gs _ (.mk _ _ _ _) _)
    have ag : Ag (fun a => a = A ∨ a = B) σ2 (σ3.set A (gv ++ [.tup [.str k, .ref D]])) := e4.ag.trans (Ag.set (.inl rfl))
    refine hK _ _ ⟨af ++ [t], _, gates ++ [(k, [i, t])], _, (e2.trans e4).set (by lia), by (refine rwE List.length_append ?_; refine rwE hl ?_); rfl, get_set_ne (by lia) (e4.get h3), get_set_eq (lt_of_get (e4.get h4)), (q2.mono fun _ _ q => q.ag ag).snoc ⟨D, rfl, by lia, get_set_ne (by lia) l4⟩, ?_, rfl⟩
    have := cg.snoc hk2 ht2 (by lia)
    rw [hl] at this
    exact this
  rintro mm σ1 ⟨af, gv, gates, s4, e1, hl, h1, h2, q1, cg, rfl⟩
  rw [rangeV_length, Int.toNat_natCast] at hl
  refine ⟨trivial, ?_⟩
  refine vj (?_ : Gs _ (.mk _ _ _ _) _)
  refine a_disp rfl ?_
  have e2 : Ex σ1 (σ1 ++ [[]]) := Ex.one
  have r2 : (σ1 ++ [[]])[σ1.length]? = some [] := last_get
  have lR := e1.len
  have lB := lt_of_get h1
  have lA := lt_of_get h2
  generalize σ1 ++ [[]] = σ2 at *
  generalize hR : σ1.length = R at *
  have ma : ∀ σ', Ex σ1 σ' → σ'[B]? = some (af.map nv) := fun σ' e => e.get h1
  refine vj (?_ : Gs _ (.mk _ _ _ _) _)
  refine r_rgK (by lia) ?_
  refine forL_rule (fun i mm σ' => Mini.Ek3 fun rv rows s4 => Mini.Cj6 (Ex σ1 σ') (rows.length = i) (σ'[R]? = some rv) (A2 (RowB (· = R) σ') rv rows) (CR af rows) (mm = [some (.int c), some (.int m), some (.ref A), some (.ref B), s4, some (.ref R), none, none, none]))
    ⟨[], [], _, e2, rfl, r2, A2.nil, (fun j row hj => by cases hj), rfl⟩ ?_ ?_
  · rintro i u mm σ3 K hu ⟨rv, rows, s4, e3, hl3, h3, q3, ok, rfl⟩ hK
    obtain ⟨rfl, hi⟩ := rangeV_get hu
    refine ⟨trivial, _, rfl, ?_⟩
    have rl := q3.len
    refine vjB (?_ : Gs _ (.mk _ _ _ _) _)
    refine a_disp rfl ?_
    have e4 : Ex σ3 (σ3 ++ [[.int i]]) := Ex.one
    have l4 : (σ3 ++ [[V.int i]])[σ3.length]? = some ([i].map nv) := last_get
    have lt3 := lt_of_get h3
    generalize σ3 ++ [[V.int i]] = σ4 at *
    generalize hD : σ3.length = D at *
    refine vj (?_ : Gs _ (.mk _ _ _ _) _)
    refine r_rgK (by lia) ?_
    refine compIf_rule (fun q acc σ' => Mini.Cj2 (σ' = σ4) (Mini.Ek1 fun (l : List Nat) => Mini.Cj3 (acc = l.map nv) (l.length ≤ q) (∀ t ∈ l, af[t]? = some i))) (by rewrite [rangeV_length]; unfold lim; exact Nat.le_trans (by assumption) (by decide)) ⟨rfl, [], rfl, Nat.le_refl _, nofun⟩ ?_ ?_
    · rintro j v acc σ' Kt Kf hv ⟨rfl, l, rfl, hll, hm⟩ h1' h2'
      obtain ⟨rfl, hj⟩ := rangeV_get hv
      have hja : j < af.length := by lia
      refine ⟨trivial, ?_⟩
      refine vjF (?_ : Gs _ (.mk _ _ _ _) _)
      refine x_item (ma _ (e3.trans e4)) (get_nv (List.getElem?_eq_getElem hja)) ?_
      refine vj (vfT ?_)
      refine k_dec (fun z => ?_) fun z => ?_
      · refine vjE (?_ : Gs _ (.mk _ _ _ _) _)
        refine h1' _ _ ⟨rfl, l ++ [j], by refine rwE List.map_append ?_; rfl, by refine rwE List.length_append ?_; exact Nat.succ_le_succ hll, fun y hy => ?_⟩
        rcases List.mem_append.mp hy with hy | hy
        · exact hm y hy
        · (refine rwE (List.mem_singleton.mp hy) ?_; refine rwE (List.getElem?_eq_getElem hja) ?_)
          exact congrArg some (Int.ofNat.inj z)
      · exact h2' _ ⟨rfl, l, rfl, Nat.le_succ_of_le hll, hm⟩
    rintro acc σ' ⟨rfl, l, rfl, hll, hm⟩
    rw [rangeV_length, Int.toNat_natCast] at hll
    refine ⟨trivial, ?_⟩
    refine vj (?_ : Gs _ (.mk _ _ _ _) _)
    refine b_cat (Ex.one.get l4) last_get (by (rewrite [List.length_map]; rewrite [List.length_map]); unfold lim; simp; lia) ?_
    refine rwE (Eq.symm (List.map_append)) ?_
    have e5 : Ex σ' (σ' ++ [l.map nv] ++ [([i] ++ l).map nv]) := Ex.one.trans Ex.one
    have l5 : (σ' ++ [l.map nv] ++ [([i] ++ l).map nv])[(σ' ++ [l.map nv]).length]? = some (([i] ++ l).map nv) := last_get
    have l2 : σ'.length ≤ (σ' ++ [l.map nv]).length := Ex.one.len
    have l3 := e4.len
    generalize (σ' ++ [l.map nv]).length = E at *
    generalize σ' ++ [l.map nv] ++ [([i] ++ l).map nv] = σ5 at *
    have e35 := e4.trans e5
    refine vj (?_ : Gs _ (.mk _ _ _ _) _)
    refine b_app (by exact Nat.ne_of_gt (Nat.lt_of_lt_of_le (by assumption) (by assumption))) (e35.get h3) (by unfold lim; lia) ?_
    refine vj (?_ : Gs _ (.mk _ _ _ _) _)
    have ag : Ag (· = R) σ3 (σ5.set R (rv ++ [.ref E])) := e35.ag.trans (Ag.set rfl)
    refine hK _ _ ⟨_, rows ++ [[i] ++ l], _, (e3.trans e35).set (by lia), by (refine rwE List.length_append ?_; refine rwE hl3 ?_); rfl, get_set_eq (lt_of_get (e35.get h3)), (q3.mono fun _ _ q => q.ag ag).snoc ⟨E, rfl, by lia, get_set_ne (by lia) l5⟩, fun j row hj => ?_, rfl⟩
    rcases snoc_get hj with z | ⟨rfl, rfl⟩
    · exact ok j row z
    · refine ⟨by refine rwE List.length_append ?_; simp; lia, fun g hg => ?_⟩
      refine rwE hl3 ?_
      rcases List.mem_append.mp hg with z | z
      · exact .inl (List.mem_singleton.mp z)
      · exact .inr (hm g z)
  rintro mm σ3 ⟨rv, rows, s4, e3, hl3, h3, q3, ok, rfl⟩
  rw [rangeV_length, Int.toNat_natCast] at hl3
  refine ⟨trivial, ?_⟩
  have rl := q3.len
  have fin : ∀ (σ4 : H) (rv : List V) (rows : List (List Nat)), Ex σ1 σ4 → rows.length = m → σ4[R]? = some rv → A2 (RowB (· = R) σ4) rv rows → CR af rows → Gs (.fn Φ (n + 1) x Q) (norm 400 [.sts [.ret (.disp [(.var 2), (.var 5)])]] [] [some (.int c), some (.int m), some (.ref A), some (.ref B), s4, some (.ref R), none, none, none]) σ4 := by
    intro σ4 rv rows e4 hl4 h4 q4 ok4
    refine (?_ : Gs _ (.mk _ _ _ _) _)
    refine a_disp rfl ?_
    refine vj (?_ : Gs _ (.mk _ _ _ _) _)
    have e5 : Ex σ4 (σ4 ++ [[.ref A, .ref R]]) := Ex.one
    have e15 := e4.trans e5
    refine hQ _ _ A R gates rows (e1.trans e15) last_get ⟨⟨gv, e15.get h2, q1.mono fun _ _ q => (q.ex e15).toR⟩, ⟨rv, e5.get h4, q4.mono fun _ _ q => (q.ex e5).toR⟩, cg.ok hl hm3 hm12 hl4 ok4⟩
  refine vj (?_ : Gs _ (.mk _ _ _ _) _)
  refine k_dec (fun _ => ?_) fun _ => vj (fin σ3 rv rows e3 hl3 h3 q3 ok)
  refine vj (?_ : Gs _ (.mk _ _ _ _) _)
  refine a_disp rfl ?_
  refine vj (?_ : Gs _ (.mk _ _ _ _) _)
  refine b_mod (by lia) ?_
  obtain ⟨j, hj, hj2⟩ := nat_mod (z := c / 30) (m := m) (by lia)
  refine vj (?_ : Gs _ (.mk _ _ _ _) _)
  refine rwE hj ?_
  have lt3 := lt_of_get h3
  refine s_puK (by exact Nat.ne_of_gt (Nat.lt_of_lt_of_le (by assumption) (by assumption))) (Ex.one.get h3) (by lia) (by lia) ?_
  rewrite [Int.toNat_natCast]
  refine vj (?_ : Gs _ (.mk _ _ _ _) _)
  have ag : Ag (· = R) σ3 ((σ3 ++ [[]]).set R (rv.set j (.ref σ3.length))) := Ex.one.ag.trans (Ag.set rfl)
  refine fin _ _ (rows.set j []) ((e3.trans Ex.one).set (by lia)) (by refine rwE List.length_set ?_; exact hl3) (get_set_eq (lt_of_get (Ex.one.get h3))) ((q3.mono fun _ _ q => q.ag ag).set ⟨_, rfl, by exact Nat.ne_of_gt (by assumption), get_set_ne (by lia) last_get⟩) fun i row hi => ?_
  by_cases hij : j = i
  · subst hij
    rw [List.getElem?_set_self (by lia)] at hi
    cases hi
    exact ⟨Nat.zero_le _, nofun⟩
  · rw [List.getElem?_set_ne hij] at hi
    exact ok i row hi
end
end Mini

set_option autoImplicit false
set_option linter.unusedVariables false
namespace Mini
/-- what the law counts: how often a walker has come to a gate (0), and passed it (1) -/
noncomputable def Hl.tab (h : Hl) (j w g : Nat) : Nat := if j = 0 then h.cm w g else h.passed w g
section
variable {h : Hl} {w : Nat}
theorem tab_step (f : WF h) (hw : w < h.rows.length) (hi : h.idle w = false) (j v g : Nat) : (h.step w).tab j v g = h.tab j v g + if w = v ∧ h.at_ w = g ∧ (((h.stg w).1 = 2 ∧ j = 0) ∨ ((h.stg w).1 = 6 ∧ j ≠ 0)) then 1 else 0 := by
  have h10 := (idle_not hi).1
  have sp := step_passed f hw hi v g
  have si := step_inn f hw hi v g
  unfold Hl.tab
  by_cases hj : j = 0
  · (refine rwE (if_pos hj) ?_; refine rwE (if_pos hj) ?_)
    unfold Hl.cm
    refine rwE sp ?_
    by_cases hv : w = v
    · subst hv
      rw [if_pos rfl] at si
      by_cases hg : h.at_ w = g
      · by_cases h6 : (h.stg w).1 = 6
        · (refine rwE (if_pos ⟨rfl, h6, hg⟩) ?_; refine rwE (if_neg fun z => (si.mp z).1 h6) ?_; refine rwE (if_pos ⟨by lia, by assumption, hg⟩) ?_; (refine rwE (if_neg fun z => by lia) ?_; with_reducible rfl))
        · (refine rwE (if_neg fun z => h6 z.2.1) ?_; refine rwE (if_pos (si.mpr ⟨h6, hg⟩)) ?_)
          by_cases h2 : (h.stg w).1 = 2
          · (refine rwE (if_neg fun z => z.1 h2) ?_; (refine rwE (if_pos ⟨rfl, hg, .inl ⟨h2, hj⟩⟩) ?_; with_reducible rfl))
          · (refine rwE (if_pos ⟨h2, h10, hg⟩) ?_; (refine rwE (if_neg fun z => by lia) ?_; with_reducible rfl))
      · (refine rwE (if_neg fun z => hg z.2.2) ?_; refine rwE (if_neg fun z => hg (si.mp z).2) ?_; refine rwE (if_neg fun z => hg z.2.2) ?_; (refine rwE (if_neg fun z => hg z.2.1) ?_; with_reducible rfl))
    · rw [if_neg hv] at si
      (refine rwE (if_neg fun z => hv z.1) ?_; refine rwE (ite_iff si) ?_; refine rwE (if_neg (c := w = v ∧ _) fun z => hv z.1) ?_); rfl
  · (refine rwE (if_neg hj) ?_; refine rwE (if_neg hj) ?_; refine rwE sp ?_)
    by_cases hc : w = v ∧ (h.stg w).1 = 6 ∧ h.at_ w = g
    · (refine rwE (if_pos hc) ?_; (refine rwE (if_pos ⟨hc.1, hc.2.2, .inr ⟨hc.2.1, hj⟩⟩) ?_; with_reducible rfl))
    · (refine rwE (if_neg hc) ?_; refine rwE (if_neg fun z => hc (by lia)) ?_); rfl
end
/-- the law's two tables, and the places at which their rows lie -/
structure TB (σ : H) (T : Nat) (A : Nat → Nat) (ad : Nat → Nat → Nat) (R G : Nat) (t : Nat → Nat → Nat → Nat) : Prop where
  tt : σ[T]? = some [.ref (A 0), .ref (A 1)]
  rows : ∀ j, j < 2 → σ[A j]? = some ((List.range R).map fun w => .ref (ad j w))
  row : ∀ j w, j < 2 → w < R → σ[ad j w]? = some ((List.range G).map fun g => nv (t j w g))
noncomputable def TP (ad : Nat → Nat → Nat) (R : Nat) : Nat → Prop := fun a => ∃ j w, j < 2 ∧ w < R ∧ a = ad j w
structure TA (T : Nat) (A : Nat → Nat) (ad : Nat → Nat → Nat) (R : Nat) : Prop where
  inj : ∀ j w j' w', j < 2 → w < R → j' < 2 → w' < R → ad j w = ad j' w' → j = j' ∧ w = w'
  nz : ∀ j w, j < 2 → w < R → ad j w ≠ 0
  nT : ¬ TP ad R T
  nA : ∀ j, j < 2 → ¬ TP ad R (A j)
theorem rg_get {α : Type} {f : Nat → α} {k i : Nat} (h : i < k) : ((List.range k).map f)[i]? = some (f i) := by
  (refine rwE List.getElem?_map ?_; refine rwE (List.getElem?_range h) ?_); rfl
section
variable {σ σ' : H} {Q : P} {T : Nat} {A : Nat → Nat} {ad : Nat → Nat → Nat} {R G : Nat} {t t' : Nat → Nat → Nat → Nat}
theorem TB.ex (b : TB σ T A ad R G t) (e : Ex σ σ') : TB σ' T A ad R G t := ⟨e.get b.tt, fun j hj => e.get (b.rows j hj), fun j w hj hw => e.get (b.row j w hj hw)⟩
theorem TB.eq (b : TB σ T A ad R G t) (e : ∀ j w g, t' j w g = t j w g) : TB σ T A ad R G t' := by
  have : t' = t := funext fun j => funext fun w => funext fun g => e j w g
  refine rwE this ?_; exact b
theorem tb_0 (b : TB σ T A ad R G t) (h : Q (.ref (A 0)) σ) : Stq (item (.ref T) (.int 0) σ Q) := x_item (k := 0) b.tt rfl h
theorem tb_1 (b : TB σ T A ad R G t) (h : Q (.ref (A 1)) σ) : Stq (item (.ref T) (.int 1) σ Q) := x_item (k := 1) b.tt rfl h
theorem tb_j (b : TB σ T A ad R G t) {j : Nat} (hj : j < 2) (h : Q (.ref (A j)) σ) : Stq (item (.ref T) (.int j) σ Q) := x_item (k := j) b.tt (by rcases (lt2 hj) with rfl | rfl <;> rfl) h
theorem tb_w (b : TB σ T A ad R G t) {j w : Nat} (hj : j < 2) (hw : w < R) (h : Q (.ref (ad j w)) σ) : Stq (item (.ref (A j)) (.int w) σ Q) := x_item (b.rows j hj) (rg_get hw) h
theorem tb_g (b : TB σ T A ad R G t) {j w g : Nat} (hj : j < 2) (hw : w < R) (hg : g < G) (h : Q (.int (t j w g)) σ) : Stq (item (.ref (ad j w)) (.int g) σ Q) := x_item (b.row j w hj hw) (rg_get hg) h
theorem sum_cast {l : List Nat} : (l.map Int.ofNat).sum = (l.sum : Nat) := by
  induction l with
  | nil => rfl
  | cons a l ih => (refine rwE List.map_cons ?_; refine rwE List.sum_cons ?_; refine rwE List.sum_cons ?_; refine rwE ih ?_); rfl
theorem tb_sum (b : TB σ T A ad R G t) {j w s : Nat} (hj : j < 2) (hw : w < R) (hs : ((List.range G).map fun g => t j w g).sum = s) (h : Q (.int s) σ) : Stq (bi1 .sum (.ref (ad j w)) σ Q) :=
  ⟨_, ((List.range G).map fun g => t j w g).map Int.ofNat, b.row j w hj hw, by (refine rwE List.map_map ?_; refine rwE List.map_map ?_); rfl, by (refine rwE sum_cast ?_; refine rwE hs ?_); exact h⟩
theorem TB.put (b : TB σ T A ad R G t) (ta : TA T A ad R) {j w g : Nat} (hj : j < 2) (hw : w < R) (hg : g < G) (ht : ∀ j' v k, j' < 2 → t' j' v k = t j' v k + if w = v ∧ g = k ∧ j' = j then 1 else 0) :
    TB (σ.set (ad j w) (((List.range G).map fun g => nv (t j w g)).set g (.int ((t j w g : Nat) + 1)))) T A ad R G t' := by
  have hm : TP ad R (ad j w) := ⟨j, w, hj, hw, rfl⟩
  refine ⟨get_set_ne (fun z => ta.nT (z ▸ hm)) b.tt, fun i hi => get_set_ne (fun z => ta.nA i hi (z ▸ hm)) (b.rows i hi), fun i v hi hv => ?_⟩
  by_cases e : ad j w = ad i v
  · obtain ⟨rfl, rfl⟩ := ta.inj j w i v hj hw hi hv e
    refine rwE (get_set_eq (lt_of_get (b.row j w hj hw))) ?_
    refine congrArg some (List.ext_getElem? fun k => ?_)
    by_cases hk : k < G
    · refine rwE (rg_get hk) ?_
      by_cases hgk : g = k
      · subst hgk
        (refine rwE (List.getElem?_set_self (by simp; assumption)) ?_; refine rwE (ht _ _ _ hj) ?_; refine rwE (if_pos ⟨rfl, rfl, rfl⟩) ?_); rfl
      · (refine rwE (List.getElem?_set_ne hgk) ?_; refine rwE (rg_get hk) ?_; refine rwE (ht _ _ _ hj) ?_; refine rwE (if_neg fun z => hgk z.2.1) ?_); rfl
    · (refine rwE (List.getElem?_eq_none (by simp; lia)) ?_; (refine rwE (List.getElem?_eq_none (by simp; lia)) ?_; with_reducible rfl))
  · (refine rwE (List.getElem?_set_ne e) ?_; refine rwE (b.row i v hi hv) ?_)
    refine congrArg some (List.map_congr_left fun k _ => ?_)
    have : ¬ (w = v ∧ g = k ∧ i = j) := fun z => e (by (refine rwE z.1 ?_; (refine rwE z.2.2 ?_; with_reducible rfl)))
    (refine rwE (ht _ _ _ hi) ?_; refine rwE (if_neg this) ?_); rfl
end
/-- where the tables lie -/
noncomputable def tA (o R j : Nat) : Nat := o + j * (2 * R + 1) + 2 * R
noncomputable def tD (o R j w : Nat) : Nat := o + j * (2 * R + 1) + 2 * w + 1
theorem tD_lt {o R j w : Nat} (hj : j < 2) (hw : w < R) : tD o R j w < o + (2 * R + 1 + (2 * R + 1)) := by
  unfold tD
  rcases (lt2 hj) with rfl | rfl <;> lia
theorem tA_ta {o R : Nat} : TA (o + (2 * R + 1 + (2 * R + 1))) (tA o R) (tD o R) R := by
  refine ⟨fun j w j' w' hj hw hj' hw' e => ?_, fun j w _ _ => by unfold tD; lia, fun ⟨j, w, hj, hw, e⟩ => ?_, fun i hi ⟨j, w, hj, hw, e⟩ => ?_⟩
  · unfold tD at e
    rcases (lt2 hj) with rfl | rfl <;> rcases (lt2 hj') with rfl | rfl <;> lia
  · have := tD_lt (o := o) hj hw; lia
  · unfold tA tD at e
    rcases (lt2 hj) with rfl | rfl <;> rcases (lt2 hi) with rfl | rfl <;> lia
theorem zeros {G : Nat} : (List.replicate G (0 : Int)).map V.int = (List.range G).map fun _ => nv 0 := by
  (refine rwE List.map_replicate ?_; refine rwE List.map_const' ?_; refine rwE List.length_range ?_); rfl
theorem rg_snoc {α : Type} {f : Nat → α} {k : Nat} : (List.range (k + 1)).map f = (List.range k).map f ++ [f k] := by (refine rwE List.range_succ ?_; refine rwE List.map_append ?_); rfl
theorem init_tab {gates : List (Nat × List Nat)} {rows : List (List Nat)} {j w g : Nat} (hw : w < rows.length) : (Hl.init gates rows).tab j w g = 0 := by
  obtain ⟨h1, h2⟩ := init_out (gates := gates) hw g
  unfold Hl.tab Hl.cm
  (refine rwE h2 ?_; refine rwE (if_neg h1) ?_); split <;> rfl
section
variable {Φ : Nat → Option Fn} {n : Nat} {σ σ' : H} {Q : P} {x : X}
theorem b_int {b : Bool} {j : Nat} (e : (if b then (1 : Int) else 0) = j) (h : Q (.int j) σ) : Stq (bi1 .intOf (.bool b) σ Q) := ⟨by show Q _ σ; refine rwE e ?_; exact h⟩
/-- the record counted -/
theorem w_tally (F : F10 Φ) {h : Hl} {L : List Nat} {ra R G : Nat} (f : WF h) (eR : h.rows.length = R) (eG : h.gates.length = G) (r12 : R ≤ 12) (g12 : G ≤ 12) (hz : ∀ j w g, w < R → h.tab j w g = 0) (hr : σ[ra]? = some (h.tells L)) (hL : ∀ w ∈ L, w < R)
    (hQ : ∀ σ' T A ad, Ex σ σ' → TB σ' T A ad R G (h.run L).tab → Q (.ref T) σ') : cW Φ (n + 1) 39 [.ref ra, .int R, .int G] σ Q x := by
  refine fn_in F.tally rfl (?_ : Gs _ (.mk _ _ _ _) _)
  refine r_rgK (by decide) ?_
  refine comp_rule (fun i acc σ' => Mini.Cj5 (Ex σ σ') (σ'.length = σ.length + i * (2 * R + 1)) (acc = (List.range i).map (fun j => .ref (tA σ.length R j))) ((∀ j, j < i → σ'[tA σ.length R j]? = some ((List.range R).map fun w => .ref (tD σ.length R j w)))) ((∀ j w, j < i → w < R → σ'[tD σ.length R j w]? = some ((List.range G).map fun _ => nv 0))))
    (by rewrite [rangeV_length]; decide) ⟨Ex.refl, by lia, rfl, nofun, nofun⟩ ?_ ?_
  · rintro i u acc σ1 K hu hl ⟨e1, l1, rfl, a1, b1⟩ hK
    refine ⟨trivial, ?_⟩
    refine vjE (?_ : Gs _ (.mk _ _ _ _) _)
    refine r_rgK (by lia) ?_
    refine comp_rule (fun k acc σ' => Mini.Cj4 (Ex σ1 σ') (σ'.length = σ1.length + 2 * k) (acc = (List.range k).map (fun w => .ref (tD σ.length R i w))) ((∀ w, w < k → σ'[tD σ.length R i w]? = some ((List.range G).map fun _ => nv 0))))
      (by rewrite [rangeV_length]; unfold lim; exact Nat.le_trans (by assumption) (by decide)) ⟨Ex.refl, by lia, rfl, nofun⟩ ?_ ?_
    · rintro k v acc σ2 K2 hv hl2 ⟨e2, l2, rfl, b2⟩ hK2
      refine ⟨trivial, ?_⟩
      refine vjE (?_ : Gs _ (.mk _ _ _ _) _)
      refine a_disp rfl ?_
      refine vj (?_ : Gs _ (.mk _ _ _ _) _)
      refine b_rep (i := 0) last_get (by exact Nat.le_trans (by assumption) (by decide)) ?_
      refine rwE zeros ?_
      have ea : (σ2 ++ [[V.int 0]]).length = tD σ.length R i k := by
        unfold tD; (refine rwE List.length_append ?_; refine rwE l2 ?_; refine rwE l1 ?_); simp only [List.length_cons, List.length_nil]
      refine hK2 _ _ ⟨e2.trans (Ex.one.trans Ex.one), by simp only [List.length_append, List.length_cons, List.length_nil]; lia, ?_, fun w hw => ?_⟩
      · (refine rwE rg_snoc ?_; (refine rwE ea ?_; with_reducible rfl))
      · by_cases hwk : w < k
        · exact (Ex.one.trans Ex.one).get (b2 w hwk)
        · have : w = k := by lia
          (refine rwE this ?_; refine rwE (Eq.symm (ea)) ?_); exact last_get
    · rintro acc σ2 _ ⟨e2, l2, rfl, b2⟩
      refine ⟨trivial, ?_⟩
      rw [rangeV_length, Int.toNat_natCast] at l2 b2 ⊢
      have ea : σ2.length = tA σ.length R i := by unfold tA; lia
      refine hK _ _ ⟨e1.trans (e2.trans Ex.one), ?_, ?_, fun j hj => ?_, fun j w hj hw => ?_⟩
      · have := Nat.add_one_mul i (2 * R + 1)
        (refine rwE List.length_append ?_; refine rwE l2 ?_; refine rwE l1 ?_; refine rwE this ?_); simp only [List.length_cons, List.length_nil]; lia
      · (refine rwE rg_snoc ?_; (refine rwE ea ?_; with_reducible rfl))
      · by_cases hji : j < i
        · exact (e2.trans Ex.one).get (a1 j hji)
        · have : j = i := by lia
          (refine rwE this ?_; refine rwE (Eq.symm (ea)) ?_); exact last_get
      · by_cases hji : j < i
        · exact (e2.trans Ex.one).get (b1 j w hji hw)
        · have : j = i := by lia
          refine rwE this ?_; exact Ex.one.get (b2 w hw)
  rintro acc σ1 _ ⟨e1, l1, rfl, a1, b1⟩
  refine ⟨trivial, ?_⟩
  have hl : (rangeV 2).length = 2 := rfl
  rw [hl] at l1 a1 b1 ⊢
  have ea : σ1.length = σ.length + (2 * R + 1 + (2 * R + 1)) := by lia
  have tb : TB (σ1 ++ [(List.range 2).map (fun j => .ref (tA σ.length R j))]) σ1.length (tA σ.length R) (tD σ.length R) R G h.tab := ⟨last_get, fun j hj => Ex.one.get (a1 j hj), fun j w hj hw => by
    refine rwE (Ex.one.get (b1 j w hj hw)) ?_
    exact congrArg some (List.map_congr_left fun g _ => by (refine rwE (hz j w g hw) ?_; with_reducible rfl))⟩
  have ta := tA_ta (o := σ.length) (R := R)
  rw [← ea] at ta
  have e2 : Ex σ (σ1 ++ [(List.range 2).map (fun j => .ref (tA σ.length R j))]) := e1.trans Ex.one
  have ge : ∀ j w, σ.length ≤ tD σ.length R j w := fun j w => by unfold tD; lia
  generalize σ1 ++ [(List.range 2).map (fun j => V.ref (tA σ.length R j))] = σ2 at *
  generalize tD σ.length R = ad at *
  generalize tA σ.length R = A at *
  generalize σ1.length = T at *
  clear a1 b1 e1 l1 ea
  refine vj (?_ : Gs _ (.mk _ _ _ _) _)
  refine r_lsK (e2.get hr) ?_
  refine forL_rule (fun i mm σ' => Mini.Ek2 fun s4 s5 => Mini.Cj3 (Ex σ σ') (TB σ' T A ad R G (h.run (L.take i)).tab) (mm = [some (.ref ra), some (.int R), some (.int G), some (.ref T), s4, s5, none, none, none])) ⟨none, none, e2, tb, rfl⟩ ?_ ?_
  · rintro i v mm σ3 K hv ⟨s4, s5, e3, b3, rfl⟩ hK
    refine ⟨e3.get hr, _, rfl, ?_⟩
    have hi := lt_of_get hv
    rw [Hl.tells_len] at hi
    have hw := List.getElem?_eq_getElem hi
    generalize L[i] = w at hw
    rw [Hl.tells_get hw] at hv
    cases hv
    have hwR := hL w (List.mem_of_getElem? hw)
    have f' := f.run (l := L.take i) fun u hu => by refine rwE eR ?_; exact hL u (List.mem_of_mem_take hu)
    have er : (h.run (L.take i)).rows.length = R := by refine rwE Hl.run_rows ?_; exact eR
    have eg : (h.run (L.take i)).gates.length = G := by refine rwE Hl.run_gates ?_; exact eG
    rw [take_snoc hw, Hl.run_app] at hK
    generalize h.run (L.take i) = h' at *
    have hs : h'.run [w] = h'.step w := rfl
    rw [hs] at hK
    have hw' : w < h'.rows.length := by refine rwE er ?_; exact hwR
    refine rwE told_eq ?_
    by_cases h10 : (h'.stg w).1 = 10
    · refine rwE (if_pos h10) ?_
      rw [step_idle (by unfold Hl.idle; refine rwE h10 ?_; rfl)] at hK
      refine vjB (?_ : Gs _ (.mk _ _ _ _) _)
      refine k_neg (by decide) ?_
      refine vj (?_ : Gs _ (.mk _ _ _ _) _)
      refine k_neg (by decide) ?_
      refine vj (?_ : Gs _ (.mk _ _ _ _) _)
      exact hK _ _ ⟨_, _, e3, b3, rfl⟩
    · refine rwE (if_neg h10) ?_
      obtain ⟨ha, hm⟩ := f'.at_ hw' h10
      rw [eg] at ha
      have body : ∀ j : Nat, j < 2 → h'.idle w = false → ((h'.stg w).1 = 2 ∧ j = 0) ∨ ((h'.stg w).1 = 6 ∧ j = 1) → (if decide (h'.wd w = 6) then (1 : Int) else 0) = j →
          Gs (.lp (.fn Φ n x Q) K) (norm 400 [.sts [
            .set 5 (.idx (.idx (.var 3) (.b1 .intOf (.cmp .eq (.idx (.var 4) (.int (2))) (.str 6)))) (.idx (.var 4) (.int (0)))),
            .put (.var 5) (.idx (.var 4) (.int (1))) (.bin .add (.idx (.var 5) (.idx (.var 4) (.int (1)))) (.int (1)))], .sts []] [] [some (.ref ra), some (.int R), some (.int G), some (.ref T), some (.tup [.int w, .int (h'.at_ w), .str (h'.wd w)]), s5, none, none, none]) σ3 := by
        intro j hj hi ej ei
        refine (?_ : Gs _ (.mk _ _ _ _) _)
        refine b_int ei ?_
        refine vj (?_ : Gs _ (.mk _ _ _ _) _)
        refine tb_j b3 hj ?_
        refine vj (?_ : Gs _ (.mk _ _ _ _) _)
        refine tb_w b3 hj hwR ?_
        refine vj (?_ : Gs _ (.mk _ _ _ _) _)
        refine tb_g b3 hj hwR ha ?_
        refine vj (?_ : Gs _ (.mk _ _ _ _) _)
        refine s_puK (ta.nz j w hj hwR) (b3.row j w hj hwR) (by lia) (by (rewrite [List.length_map]; refine rwE List.length_range ?_); lia) ?_
        rewrite [Int.toNat_natCast]
        refine vj (?_ : Gs _ (.mk _ _ _ _) _)
        have ts := tab_step f' hw' hi
        exact hK _ _ ⟨_, _, e3.set (ge j w), b3.put ta hj hwR ha fun j' v k hj' => (ts j' v k).trans (congrArg (h'.tab j' v k + ·) (ite_iff ⟨fun z => ⟨z.1, z.2.1, by lia⟩, fun z => ⟨z.1, z.2.1, by lia⟩⟩)), rfl⟩
      have ni : h'.wd w = 2 ∨ h'.wd w = 6 → h'.idle w = false ∧ h'.wd w = (h'.stg w).1 := fun hk => by
        have hv : h'.vain w = false := by
          cases hv : h'.vain w with
          | false => rfl
          | true =>
            have e : h'.wd w = 9 := by unfold Hl.wd; refine rwE hv ?_; rfl
            lia
        exact ⟨by unfold Hl.idle; (refine rwE hv ?_; rewrite [Bool.or_false]); exact decide_eq_false h10, by unfold Hl.wd; refine rwE hv ?_; rfl⟩
      refine vjB (?_ : Gs _ (.mk _ _ _ _) _)
      refine k_dec (fun h2 => ?_) fun h2 => ?_
      · obtain ⟨hi, e⟩ := ni (.inl h2)
        refine vj (?_ : Gs _ (.mk _ _ _ _) _)
        refine k_yes ?_
        exact vj (body 0 (by decide) hi (.inl ⟨by lia, rfl⟩) (by refine rwE (decide_eq_false (by lia)) ?_; rfl))
      · refine vj (?_ : Gs _ (.mk _ _ _ _) _)
        refine k_dec (fun h6 => ?_) fun h6 => ?_
        · obtain ⟨hi, e⟩ := ni (.inr h6)
          exact vj (body 1 (by decide) hi (.inr ⟨by lia, rfl⟩) (by refine rwE (decide_eq_true h6) ?_; rfl))
        · refine vj (?_ : Gs _ (.mk _ _ _ _) _)
          refine hK _ _ ⟨_, _, e3, b3.eq fun j v g => ?_, rfl⟩
          cases hi : h'.idle w with
          | true => (refine rwE (step_idle hi) ?_; with_reducible rfl)
          | false =>
            have e : h'.wd w = (h'.stg w).1 := by unfold Hl.wd; refine rwE ((idle_not hi).2) ?_; rfl
            (rewrite [tab_step f' hw' hi]; refine rwE (if_neg fun z => by lia) ?_); rfl
  · rintro mm σ3 ⟨s4, s5, e3, b3, rfl⟩
    refine ⟨e3.get hr, ?_⟩
    rw [Hl.tells_len, List.take_length] at b3
    refine vj (?_ : Gs _ (.mk _ _ _ _) _)
    exact hQ _ _ _ _ e3 b3
end
end Mini

set_option autoImplicit false
set_option linter.unusedVariables false
namespace Mini
section
variable {Φ : Nat → Option Fn} {n : Nat} {σ σ' : H} {Q : P} {x : X} {g r d s c w : Nat} {h : Hl}
theorem c_neS {u : V} {e : D} (hs : snap 12 σ u = some e) (h : Q (.bool false) σ) : Stq (cmpop .ne u u σ Q) := ⟨⟨e, e, hs, hs, fun b hb => by
  cases b with
  | false => exact h
  | true => exact absurd rfl (hb.mp rfl)⟩⟩
theorem c_isnot {a b : Bool} (h : Q (.bool (a != b)) σ) : Stq (cmpop .isNot (.bool a) (.bool b) σ Q) := ⟨h⟩
theorem w_list (F : F10 Φ) {fa da : Nat} {l : List Nat} (hf : σ[fa]? = some (l.map nv)) (hd : σ[da]? = some (l.map nv)) (hQ : Q (.bool true) σ) : cW Φ (n + 2) 40 [.ref fa, .ref da] σ Q x := by
  refine fn_in F.list rfl (?_ : Gs _ (.mk _ _ _ _) _)
  refine k_no ?_
  refine vj (?_ : Gs _ (.mk _ _ _ _) _)
  refine c_neL (l := l.map Int.ofNat) (l' := l.map Int.ofNat) (by rewrite [← nv_int]; exact hf) (by rewrite [← nv_int]; exact hd) ?_
  refine vj (?_ : Gs _ (.mk _ _ _ _) _)
  refine k_neg (fun z => z rfl) ?_
  refine vj (?_ : Gs _ (.mk _ _ _ _) _)
  refine r_lsK hf ?_
  refine forL_rule (fun i m σ' => Mini.Cj2 (σ' = σ) (∃ s2, m = [some (.ref fa), some (.ref da), s2, none, none, none])) ⟨rfl, none, rfl⟩ ?_ ?_
  · rintro i v m _ K hv ⟨rfl, s2, rfl⟩ hK
    refine ⟨hf, _, rfl, ?_⟩
    obtain ⟨u, hu, rfl⟩ := nv_get hv
    refine vjB (?_ : Gs _ (.mk _ _ _ _) _)
    refine w_whole F.whole ?_
    refine vj (?_ : Gs _ (.mk _ _ _ _) _)
    refine k_no ?_
    refine vj (?_ : Gs _ (.mk _ _ _ _) _)
    exact hK _ _ ⟨rfl, _, rfl⟩
  · rintro m _ ⟨rfl, s2, rfl⟩
    refine ⟨hf, ?_⟩
    refine vj (?_ : Gs _ (.mk _ _ _ _) _)
    exact hQ
theorem w_rests (F : F10 Φ) {ga ro T : Nat} {gv : List V} {A : Nat → Nat} {ad : Nat → Nat → Nat} (q : Rep' σ g r d s c h) (a : AtRest h) (o : Okh h) (h0 : 0 < σ.length) (b : TB σ T A ad h.rows.length h.gates.length h.tab) (hg : σ[ga]? = some gv) (gr : A2 (GateR σ.length σ) gv h.gates) (hr : σ[ro]? = some ((h.row w).map nv)) (hw : w < h.rows.length)
    (hQ : ∀ σ' b, Ex σ σ' → σ.length ≤ b → σ'[b]? = some ((h.miss w).map nv) → Q (.ref b) σ') : cW Φ (n + 6) 41 [.inst [.ref g, .ref r, .ref d, .ref s, .ref c], .int w, .ref ga, .ref ro, .ref T] σ Q x := by
  have bs := a.inv.base
  have f := bs.wf
  refine fn_in F.rests rfl (?_ : Gs _ (.mk _ _ _ _) _)
  refine tb_1 b ?_
  refine vj (?_ : Gs _ (.mk _ _ _ _) _)
  refine tb_w b (by decide) hw ?_
  refine vj (?_ : Gs _ (.mk _ _ _ _) _)
  refine tb_sum b (by decide) hw (passed_sum f hw) ?_
  refine vj (?_ : Gs _ (.mk _ _ _ _) _)
  refine w_idle F.h F.r q o hw fun σ1 e1 => ?_
  refine rwE (a.idle w hw) ?_
  refine vj (?_ : Gs _ (.mk _ _ _ _) _)
  refine c_isnot ?_
  refine vj (?_ : Gs _ (.mk _ _ _ _) _)
  refine k_no ?_
  refine vj (?_ : Gs _ (.mk _ _ _ _) _)
  refine w_steppedO F.h (q.ex e1) f o.g1 o.r1 hw (e1.pos h0) fun σ2 d' s' c' cv fs e2 _ => ?_
  have e12 := e1.trans e2
  refine vj (?_ : Gs _ (.mk _ _ _ _) _)
  refine b_lenE (e12.get hr) (List.length_map _) ?_
  refine vj (?_ : Gs _ (.mk _ _ _ _) _)
  refine k_dec (fun z => ?_) fun z => ?_
  · have h10 : (h.stg w).1 = 10 := by
      rcases f.wk w hw with y | y
      · exact y.1
      · lia
    have mi : h.miss w = [] := by unfold Hl.miss; (refine rwE (if_pos (.inr h10)) ?_; with_reducible rfl)
    rw [mi] at hQ
    (refine rwE told_eq ?_; refine rwE (if_pos h10) ?_)
    refine vj (?_ : Gs _ (.mk _ _ _ _) _)
    refine c_neS rfl ?_
    refine vj (?_ : Gs _ (.mk _ _ _ _) _)
    refine k_no ?_
    refine vj (?_ : Gs _ (.mk _ _ _ _) _)
    refine w_ahead' F.h ⟨_, _, _, _, _, rfl, q.ex e12⟩ f hw (fun _ => ?_) fun y => absurd h10 y
    refine vj (?_ : Gs _ (.mk _ _ _ _) _)
    refine c_neS rfl ?_
    refine vj (?_ : Gs _ (.mk _ _ _ _) _)
    refine k_no ?_
    refine vj (?_ : Gs _ (.mk _ _ _ _) _)
    refine w_missing F (q.ex e12) bs hw fun σ3 m3 e3 h3 => ?_
    rw [mi] at h3
    refine vj (?_ : Gs _ (.mk _ _ _ _) _)
    refine a_disp rfl ?_
    refine vj (?_ : Gs _ (.mk _ _ _ _) _)
    refine c_neL (l := []) (l' := []) (Ex.one.get h3) last_get ?_
    refine vj (?_ : Gs _ (.mk _ _ _ _) _)
    refine k_neg (fun y => y rfl) ?_
    refine vj (?_ : Gs _ (.mk _ _ _ _) _)
    refine a_disp rfl ?_
    refine vj (?_ : Gs _ (.mk _ _ _ _) _)
    exact hQ _ _ (e12.trans (e3.trans (Ex.one.trans Ex.one))) (e12.trans (e3.trans Ex.one)).len last_get
  · have h10 : (h.stg w).1 ≠ 10 := fun y => by
      rcases f.wk w hw with t | t
      · lia
      · rcases t.2 with t | t | t | t <;> lia
    obtain ⟨hv, hs⟩ := a.st hw h10
    obtain ⟨ha, hm⟩ := f.at_ hw h10
    have hd := f.lt hw h10
    have e9 : h.wd w = 9 := by unfold Hl.wd; refine rwE hv ?_; rfl
    have cp : h.tab 0 w (h.at_ w) = h.tab 1 w (h.at_ w) + 1 := by
      show h.cm w (h.at_ w) = h.passed w (h.at_ w) + 1
      unfold Hl.cm
      (refine rwE (if_pos ⟨by lia, h10, rfl⟩) ?_; with_reducible rfl)
    (refine rwE told_eq ?_; refine rwE (if_neg h10) ?_; refine rwE e9 ?_)
    have b2 := b.ex e12
    refine vj (?_ : Gs _ (.mk _ _ _ _) _)
    refine x_item (e12.get hr) (at_get hd) ?_
    refine vj (?_ : Gs _ (.mk _ _ _ _) _)
    refine tb_0 b2 ?_
    refine vj (?_ : Gs _ (.mk _ _ _ _) _)
    refine tb_w b2 (by decide) hw ?_
    refine vj (?_ : Gs _ (.mk _ _ _ _) _)
    refine tb_g b2 (by decide) hw ha ?_
    refine vj (?_ : Gs _ (.mk _ _ _ _) _)
    refine c_neS rfl ?_
    refine vj (?_ : Gs _ (.mk _ _ _ _) _)
    refine k_no ?_
    refine vj (?_ : Gs _ (.mk _ _ _ _) _)
    refine w_ahead' F.h ⟨_, _, _, _, _, rfl, q.ex e12⟩ f hw (fun y => absurd y h10) fun _ => ?_
    refine vj (?_ : Gs _ (.mk _ _ _ _) _)
    refine k_neg (fun y => y rfl) ?_
    refine vj (?_ : Gs _ (.mk _ _ _ _) _)
    refine tb_1 b2 ?_
    refine vj (?_ : Gs _ (.mk _ _ _ _) _)
    refine tb_w b2 (by decide) hw ?_
    refine vj (?_ : Gs _ (.mk _ _ _ _) _)
    refine tb_g b2 (by decide) hw ha ?_
    refine vj (?_ : Gs _ (.mk _ _ _ _) _)
    refine k_neg (fun y => y (by lia)) ?_
    obtain ⟨_, g3, ma, rfl, _, g4⟩ := gr.right (get_of_lt (d := (0, [])) ha)
    have g4 : σ[ma]? = some ((h.gate (h.at_ w)).2.map nv) := g4
    refine vj (?_ : Gs _ (.mk _ _ _ _) _)
    refine x_item (e12.get hg) g3 ?_
    refine vj (?_ : Gs _ (.mk _ _ _ _) _)
    refine r_lsK (e12.get g4) ?_
    have m12 := f.gm _ ha
    have mi : h.miss w = (h.gate (h.at_ w)).2.filter fun u => decide (h.tab 0 u (h.at_ w) < h.tab 0 w (h.at_ w)) := by unfold Hl.miss; refine rwE (if_neg (by lia)) ?_; rfl
    refine compIf_rule (fun i acc σ' => Mini.Cj2 (σ' = σ2) (acc = (((h.gate (h.at_ w)).2.take i).filter fun u => decide (h.tab 0 u (h.at_ w) < h.tab 0 w (h.at_ w))).map nv)) (by rewrite [List.length_map]; exact Nat.le_trans m12 (by decide)) ⟨rfl, rfl⟩ ?_ ?_
    · rintro i v acc σ3 Kt Kf hv ⟨rfl, rfl⟩ h1 h2
      refine ⟨e12.get g4, ?_⟩
      obtain ⟨u, hu, rfl⟩ := nv_get hv
      have ul : u < h.rows.length := (bs.gk _ ha).lt u (List.mem_of_getElem? hu)
      refine vjF (?_ : Gs _ (.mk _ _ _ _) _)
      refine tb_0 b2 ?_
      refine vj (?_ : Gs _ (.mk _ _ _ _) _)
      refine tb_w b2 (by decide) ul ?_
      refine vj (?_ : Gs _ (.mk _ _ _ _) _)
      refine tb_g b2 (by decide) ul ha ?_
      refine vj (vfT ?_)
      have ft := filter_take (p := fun u => decide (h.tab 0 u (h.at_ w) < h.tab 0 w (h.at_ w))) hu
      refine k_dec (fun z => ?_) fun z => ?_
      · rw [if_pos (decide_eq_true (Int.ofNat_lt.mp z))] at ft
        refine vjE (?_ : Gs _ (.mk _ _ _ _) _)
        refine h1 _ _ ⟨rfl, ?_⟩
        (refine rwE ft ?_; refine rwE List.map_append ?_); rfl
      · rw [if_neg (by refine rwE decide_eq_true_eq ?_; exact fun y => z (Int.ofNat_lt.mpr y))] at ft
        exact h2 _ ⟨rfl, by (refine rwE ft ?_; with_reducible rfl)⟩
    rintro acc σ3 ⟨rfl, rfl⟩
    refine ⟨e12.get g4, ?_⟩
    (rewrite [List.length_map]; refine rwE List.take_length ?_; refine rwE (Eq.symm (mi)) ?_)
    have e3 : Ex σ3 (σ3 ++ [(h.miss w).map nv]) := Ex.one
    have l3 : (σ3 ++ [(h.miss w).map nv])[σ3.length]? = some ((h.miss w).map nv) := last_get
    have e13 := e12.trans e3
    have lg := e12.len
    generalize σ3 ++ [(h.miss w).map nv] = σ4 at *
    generalize σ3.length = go at *
    refine vj (?_ : Gs _ (.mk _ _ _ _) _)
    refine b_lenE l3 (List.length_map _) ?_
    refine vj (?_ : Gs _ (.mk _ _ _ _) _)
    refine k_neg (fun y => a.miss hw h10 (List.length_eq_zero_iff.mp (by lia))) ?_
    refine vj (?_ : Gs _ (.mk _ _ _ _) _)
    refine w_missing F (q.ex e13) bs hw fun σ5 m5 e5 h5 => ?_
    refine vj (?_ : Gs _ (.mk _ _ _ _) _)
    refine w_list F h5 (e5.get l3) ?_
    refine vj (?_ : Gs _ (.mk _ _ _ _) _)
    refine k_no ?_
    refine vj (?_ : Gs _ (.mk _ _ _ _) _)
    exact hQ _ _ (e13.trans e5) lg (e5.get l3)
end
end Mini

set_option autoImplicit false
set_option linter.unusedVariables false
namespace Mini
section
variable {Φ : Nat → Option Fn} {n : Nat} {σ σ' : H} {Q : P} {x : X} {h : Hl}
theorem x_lst {a w : Nat} {l : List Nat} (hx : σ[a]? = some ((l ++ [w]).map nv)) (h : Q (.int w) σ) : Stq (item (.ref a) (.int (((l ++ [w]).length : Nat) - 1)) σ Q) := by
  have e : (((l ++ [w]).length : Nat) : Int) - 1 = (l.length : Nat) := by refine rwE List.length_append ?_; simp
  refine rwE e ?_
  exact x_item hx (get_nv List.getElem?_concat_length) h
theorem take1_nil {l : List Nat} (h : ¬ (l.take 1).length = 0) (w : Nat) : (l ++ [w]).take 1 = l.take 1 := by
  cases l with
  | nil => exact absurd rfl h
  | cons a l => rfl
theorem take1_len {l : List Nat} (h : (l.take 1).length = 0) : l = [] := by
  cases l with
  | nil => rfl
  | cons a l => cases h
theorem w_due (F : F10 Φ) {la : Nat} {lks : List Nat} (a : AtRest h) (o : Okh h) (h0 : 0 < σ.length) (hl : σ[la]? = some (lks.map V.ref)) (ll : lks.length = h.rows.length) (hm : ∀ j b, lks[j]? = some b → σ[b]? = some ((h.miss j).map nv)) (hQ : ∀ σ' b, Ex σ σ' → σ'[b]? = some (h.chain.map nv) → Q (.ref b) σ') : cW Φ (n + 1) 42 [.ref la] σ Q x := by
  have bs := a.inv.base
  have r12 := o.r1
  refine fn_in F.due rfl (?_ : Gs _ (.mk _ _ _ _) _)
  have at_ : ∀ {σ' : H} {w : Nat}, Ex σ σ' → w < h.rows.length → ∃ b, (lks.map V.ref)[w]? = some (.ref b) ∧ σ'[b]? = some ((h.miss w).map nv) := fun {σ' w} e hw => by
    have hw' : w < lks.length := by lia
    have := List.getElem?_eq_getElem hw'
    exact ⟨lks[w], by (refine rwE List.getElem?_map ?_; refine rwE this ?_); rfl, e.get (hm _ _ this)⟩
  refine a_disp rfl ?_
  have e1 : Ex σ (σ ++ [[]]) := Ex.one
  refine vj (?_ : Gs _ (.mk _ _ _ _) _)
  refine b_lenE (e1.get hl) ((List.length_map _).trans ll) ?_
  refine vj (?_ : Gs _ (.mk _ _ _ _) _)
  refine r_rgK (by lia) ?_
  refine forL_rule (fun i m σ' => Mini.Ek1 fun u2 => Mini.Cj3 (Ex σ σ') (σ'[σ.length]? = some (((h.waits i).take 1).map nv)) (m = [some (.ref la), some (.ref σ.length), u2, none, none, none, none])) ⟨none, e1, last_get, rfl⟩ ?_ ?_
  · rintro i v m σ1 K hv ⟨u2, e, t, rfl⟩ hK
    obtain ⟨rfl, hi⟩ := rangeV_get hv
    have hi : i < h.rows.length := by lia
    refine ⟨trivial, _, rfl, ?_⟩
    rw [waits_succ] at hK
    refine vjB (?_ : Gs _ (.mk _ _ _ _) _)
    refine b_lenE t (List.length_map _) ?_
    refine vj (?_ : Gs _ (.mk _ _ _ _) _)
    refine k_dec (fun z => ?_) fun z => ?_
    · have wn : h.waits i = [] := take1_len (by lia)
      rw [wn] at t hK
      obtain ⟨b, y1, y2⟩ := at_ e hi
      refine vj (?_ : Gs _ (.mk _ _ _ _) _)
      refine x_item (e.get hl) y1 ?_
      refine vj (?_ : Gs _ (.mk _ _ _ _) _)
      refine b_lenE y2 (List.length_map _) ?_
      refine vj (?_ : Gs _ (.mk _ _ _ _) _)
      refine k_dec (fun y => ?_) fun y => ?_
      · have h10 : (h.stg i).1 ≠ 10 := fun q => by
          have : h.miss i = [] := by unfold Hl.miss; (refine rwE (if_pos (.inr q)) ?_; with_reducible rfl)
          rw [this] at y; exact absurd y (by decide)
        rw [if_pos h10] at hK
        refine vj (?_ : Gs _ (.mk _ _ _ _) _)
        refine b_app (by exact Nat.ne_of_gt (by assumption)) t (by decide) ?_
        refine vj (?_ : Gs _ (.mk _ _ _ _) _)
        exact hK _ _ ⟨_, e.set (Nat.le_refl _), get_set_eq (lt_of_get t), rfl⟩
      · have h10 : ¬ (h.stg i).1 ≠ 10 := fun q => a.miss hi q (List.length_eq_zero_iff.mp (by lia))
        rw [if_neg h10] at hK
        refine vj (?_ : Gs _ (.mk _ _ _ _) _)
        exact hK _ _ ⟨_, e, t, rfl⟩
    · have et : (if (h.stg i).1 ≠ 10 then h.waits i ++ [i] else h.waits i).take 1 = (h.waits i).take 1 := by
        split
        · exact take1_nil (by lia) i
        · rfl
      rw [et] at hK
      refine vj (?_ : Gs _ (.mk _ _ _ _) _)
      refine k_no ?_
      refine vj (?_ : Gs _ (.mk _ _ _ _) _)
      exact hK _ _ ⟨_, e, t, rfl⟩
  rintro m σ2 ⟨u2, e12, t2, rfl⟩
  refine ⟨trivial, ?_⟩
  rw [rangeV_length, Int.toNat_natCast] at t2
  have n0 : ((h.waits h.rows.length).take 1).Nodup := ((List.take_sublist _ _).trans List.filter_sublist).nodup List.nodup_range
  have l0 : ∀ u ∈ (h.waits h.rows.length).take 1, u < h.rows.length := fun u hu => List.mem_range.mp (List.mem_filter.mp (List.mem_of_mem_take hu)).1
  unfold Hl.chain at hQ
  generalize (h.waits h.rows.length).take 1 = l at t2 n0 l0 hQ
  generalize hC : h.chN (13 - l.length) l = C at hQ
  have ln : σ.length ≤ σ.length := Nat.le_refl _
  refine vj (?_ : Gs _ (.mk _ _ _ _) _)
  refine while_rule (fun k m σ' => Mini.Ek2 fun l u3 => Mini.Cj7 (Ex σ σ') (σ'[σ.length]? = some (l.map nv)) (l.Nodup) ((∀ u ∈ l, u < h.rows.length)) (h.chN (13 - l.length) l = C) (k = 13 - l.length) (m = [some (.ref la), some (.ref σ.length), u2, u3, none, none, none])) (k := 13 - l.length) ⟨l, none, e12, t2, n0, l0, hC, rfl, rfl⟩ ?_
  clear hC t2 n0 l0 e12
  rintro k m σ3 K ⟨l, u3, e3, t3, nd, lt, hC, rfl, rfl⟩ hK
  have l12 := Nat.le_trans (pigeon _ l nd lt) r12
  refine vjT (?_ : Gs _ (.mk _ _ _ _) _)
  refine b_lenE t3 (List.length_map _) ?_
  refine vj (?_ : Gs _ (.mk _ _ _ _) _)
  refine k_dec (fun z => ?_) fun z => ?_
  · obtain ⟨l', w, rfl⟩ : ∃ l' w, l = l' ++ [w] := by
      rcases List.eq_nil_or_concat l with e | ⟨l', w, e⟩
      · rw [e] at z; exact absurd z (by decide)
      · exact ⟨l', w, by (refine rwE e ?_; (refine rwE List.concat_eq_append ?_; with_reducible rfl))⟩
    have hw := lt w (by simp)
    have ec : 13 - (l' ++ [w]).length = (12 - (l' ++ [w]).length) + 1 := Nat.succ_sub l12
    rw [ec, chN_succ] at hC
    obtain ⟨b, y1, y2⟩ := at_ e3 hw
    have ml := miss_lt o bs hw
    refine vj (?_ : Gs _ (.mk _ _ _ _) _)
    refine b_lenE t3 (List.length_map _) ?_
    refine vj (?_ : Gs _ (.mk _ _ _ _) _)
    refine x_lst t3 ?_
    refine vj (?_ : Gs _ (.mk _ _ _ _) _)
    refine x_item (e3.get hl) y1 ?_
    refine vj (?_ : Gs _ (.mk _ _ _ _) _)
    refine b_lenE y2 (List.length_map _) ?_
    refine vj (vfT ?_)
    refine k_dec (fun y => ?_) fun y => ?_
    · cases em : h.miss w with
      | nil => rw [em] at y; exact absurd y (by decide)
      | cons u us =>
        rw [em] at hC y2 ml
        have hC : (if u ∈ l' ++ [w] then l' ++ [w] else h.chN (12 - (l' ++ [w]).length) (l' ++ [w] ++ [u])) = C := hC
        refine vjB (?_ : Gs _ (.mk _ _ _ _) _)
        refine b_lenE t3 (List.length_map _) ?_
        refine vj (?_ : Gs _ (.mk _ _ _ _) _)
        refine x_lst t3 ?_
        refine vj (?_ : Gs _ (.mk _ _ _ _) _)
        refine x_item (e3.get hl) y1 ?_
        refine vj (?_ : Gs _ (.mk _ _ _ _) _)
        refine x_it (v := .int u) y2 (by decide) rfl ?_
        refine vj (?_ : Gs _ (.mk _ _ _ _) _)
        refine c_in t3 ?_
        refine vj (?_ : Gs _ (.mk _ _ _ _) _)
        refine k_dec (fun i1 => ?_) fun i1 => ?_
        · rw [if_pos i1] at hC
          refine vj (?_ : Gs _ (.mk _ _ _ _) _)
          exact hQ _ _ e3 (by refine rwE (Eq.symm (hC)) ?_; exact t3)
        · rw [if_neg i1] at hC
          refine vj (?_ : Gs _ (.mk _ _ _ _) _)
          refine b_app (by exact Nat.ne_of_gt (by assumption)) t3 (by rewrite [List.length_map]; unfold lim; lia) ?_
          refine vj (?_ : Gs _ (.mk _ _ _ _) _)
          refine hK (13 - (l' ++ [w] ++ [u]).length) _ _ (by refine rwE (List.length_append (as := l' ++ [w])) ?_; exact Nat.sub_lt_sub_left (Nat.lt_succ_of_le l12) (Nat.lt_succ_self _)) ⟨l' ++ [w] ++ [u], _, e3.set ln, ?_, ?_, fun v hv => ?_, ?_, rfl, rfl⟩
          · (refine rwE (get_set_eq (lt_of_get t3)) ?_; refine rwE (List.map_append (l₁ := l' ++ [w])) ?_); rfl
          · exact List.nodup_append.mpr ⟨nd, by simp, fun a ha b hb z => i1 (by rw [List.mem_singleton.mp hb] at z; refine rwE (Eq.symm (z)) ?_; exact ha)⟩
          · rcases List.mem_append.mp hv with hv | hv
            · exact lt v hv
            · refine rwE (List.mem_singleton.mp hv) ?_; exact ml u (by simp)
          · refine rwE (Eq.symm (hC)) ?_
            congr 1
            simp only [List.length_append, List.length_singleton]
            lia
    · have em : h.miss w = [] := List.length_eq_zero_iff.mp (by lia)
      rw [em] at hC
      have hC : l' ++ [w] = C := hC
      refine vj (?_ : Gs _ (.mk _ _ _ _) _)
      exact hQ _ _ e3 (by refine rwE (Eq.symm (hC)) ?_; exact t3)
  · have el : l = [] := List.length_eq_zero_iff.mp (by lia)
    subst el
    have hC : ([] : List Nat) = C := by refine rwE (Eq.symm (hC)) ?_; rfl
    refine vj (vfT ?_)
    refine k_no ?_
    refine vj (?_ : Gs _ (.mk _ _ _ _) _)
    exact hQ _ _ e3 (by refine rwE (Eq.symm (hC)) ?_; exact t3)
end
end Mini

set_option autoImplicit false
set_option linter.unusedVariables false
namespace Mini
section
variable {Φ : Nat → Option Fn} {n : Nat} {σ σ' : H} {x : X}
/-- what the law is to say -/
noncomputable def isT : P := fun v _ => v = .bool true
theorem any_succ {h : Hl} {i : Nat} : ((List.range (i + 1)).any fun w => !h.idle w) = (((List.range i).any fun w => !h.idle w) || !h.idle i) := by
  (refine rwE List.range_succ ?_; refine rwE List.any_append ?_); simp
/-- at rest -/
theorem w_law10C (F : F10 Φ) {g r d s c ga ra b3 b4 d1 s1 c1 : Nat} {u6 u7 : Option V} {v1 : V} {h0 : Hl} {L : List Nat} {gates : List (Nat × List Nat)} {rows : List (List Nat)} (p0 : 0 < σ.length) (D : Drawn σ ga ra gates rows) (e0 : h0 = Hl.init gates rows) (hL : ∀ w ∈ L, w < rows.length) (hl : L.length ≤ 100000)
    {L1 L2 : List Nat} (eL : L = L1 ++ L2) (t1 : σ[b3]? = some (h0.tells L1)) (t2 : σ[b4]? = some ((h0.run L1).tells L2)) (q : Rep' σ g r d s c (h0.run L)) (idl : ∀ w, w < rows.length → (h0.run L).idle w = true) :
    Gs (.fn Φ (n + 7) x isT) (norm 400 [.sts (f45C.drop 1)] [] [some (.ref 0), some v1, some (.ref ga), some (.ref ra), some (.int rows.length), some (.tup [.inst [.ref g, .ref r, .ref d1, .ref s1, .ref c1], .ref b3]), u6, u7, some (.tup [.inst [.ref g, .ref r, .ref d, .ref s, .ref c], .ref b4]), none, none, none, none, none]) σ := by
  have ok := D.ok
  have r2 := ok.r2
  have g2 := ok.g2
  obtain ⟨gv, gx, gy⟩ := D.gts
  obtain ⟨rv, rx, ry⟩ := D.rws
  have in0 : Inv h0 := by refine rwE e0 ?_; exact ok.inv
  have r0 : h0.rows = rows := by refine rwE e0 ?_; rfl
  have g0 : h0.gates = gates := by refine rwE e0 ?_; rfl
  have tz : ∀ j w g, w < rows.length → h0.tab j w g = 0 := fun j w g hw => by refine rwE e0 ?_; exact init_tab hw
  have hL0 : ∀ w ∈ L, w < h0.rows.length := by refine rwE r0 ?_; exact hL
  have at_ : AtRest (h0.run L) := ⟨in0.run hL0, fun w hw => idl w (by rw [Hl.run_rows, r0] at hw; exact hw)⟩
  have rr : (h0.run L).rows = rows := by (refine rwE Hl.run_rows ?_; (refine rwE r0 ?_; with_reducible rfl))
  have rg : (h0.run L).gates = gates := by (refine rwE Hl.run_gates ?_; (refine rwE g0 ?_; with_reducible rfl))
  have okh : Okh (h0.run L) := ⟨at_.inv.base.wf, by refine rwE rg ?_; exact g2, by refine rwE rr ?_; exact r2⟩
  have gof := going_f at_.idle
  refine (?_ : Gs _ (.mk _ _ _ _) _)
  refine b_cat t1 t2 (by (refine rwE Hl.tells_len ?_; refine rwE Hl.tells_len ?_; refine rwE (Eq.symm (List.length_append)) ?_; refine rwE (Eq.symm (eL)) ?_); unfold lim; exact Nat.le_trans (by assumption) (by decide)) ?_
  (refine rwE (Eq.symm (Hl.tells_app)) ?_; refine rwE (Eq.symm (eL)) ?_)
  have e1 : Ex σ (σ ++ [h0.tells L]) := Ex.one
  refine vj (?_ : Gs _ (.mk _ _ _ _) _)
  refine b_lenE (e1.get gx) gy.len ?_
  refine vj (?_ : Gs _ (.mk _ _ _ _) _)
  refine w_tally F in0.base.wf (by (refine rwE r0 ?_; with_reducible rfl)) (by (refine rwE g0 ?_; with_reducible rfl)) r2 g2 tz last_get hL fun σ2 T A ad e2 tb => ?_
  have e12 := e1.trans e2
  clear tz t1 t2 e1 e2
  rw [← rr, ← rg] at tb
  have hrows : rows.length = (h0.run L).rows.length := by (refine rwE rr ?_; with_reducible rfl)
  have hrow : ∀ {w : Nat}, w < rows.length → ∃ a, rv[w]? = some (.ref a) ∧ σ[a]? = some (((h0.run L).row w).map nv) := fun {w} hw => by
    obtain ⟨_, y1, a, rfl, _, y2⟩ := ry.right (get_of_lt (d := []) hw)
    exact ⟨a, y1, by unfold Hl.row; refine rwE rr ?_; exact y2⟩
  rw [← rg] at gy
  generalize h0.run L = h at *
  refine vj (?_ : Gs _ (.mk _ _ _ _) _)
  refine a_disp rfl ?_
  have e3 : Ex σ2 (σ2 ++ [[]]) := Ex.one
  have l3 : (σ2 ++ [[]])[σ2.length]? = some (([] : List Nat).map V.ref) := last_get
  have e13 := e12.trans e3
  have lr := e12.len
  have tbA : ∀ σ', Ag (· = σ2.length) (σ2 ++ [[]]) σ' → TB σ' T A ad h.rows.length h.gates.length h.tab := fun σ' ag =>
    ⟨ag.2 _ _ (Nat.ne_of_lt (lt_of_get tb.tt)) (e3.get tb.tt), fun j hj => ag.2 _ _ (Nat.ne_of_lt (lt_of_get (tb.rows j hj))) (e3.get (tb.rows j hj)), fun j w hj hw => ag.2 _ _ (Nat.ne_of_lt (lt_of_get (tb.row j w hj hw))) (e3.get (tb.row j w hj hw))⟩
  clear tb
  generalize σ2 ++ [[]] = σ3 at *
  generalize σ2.length = la at *
  clear e12 e3
  refine vj (?_ : Gs _ (.mk _ _ _ _) _)
  refine r_rgK (by lia) ?_
  refine forL_rule (fun i mm σ' => Mini.Ek2 fun lks u7 => Mini.Cj6 (Ex σ σ') (Ag (· = la) σ3 σ') (lks.length = i) (σ'[la]? = some (lks.map V.ref)) ((∀ j b, lks[j]? = some b → b ≠ la ∧ σ'[b]? = some ((h.miss j).map nv))) (mm = [some (.ref 0), some v1, some (.ref ga), some (.ref ra), some (.int rows.length), some (.tup [.inst [.ref g, .ref r, .ref d1, .ref s1, .ref c1], .ref b3]), u6, u7, some (.tup [.inst [.ref g, .ref r, .ref d, .ref s, .ref c], .ref b4]), some (.ref T), some (.ref la), none, none, none]))
    ⟨[], u7, e13, Ag.refl, rfl, l3, nofun, rfl⟩ ?_ ?_
  · rintro i v mm σ4 K hv ⟨lks, u7, e4, ag4, hl4, l4, m4, rfl⟩ hK
    obtain ⟨rfl, hi⟩ := rangeV_get hv
    have hi : i < rows.length := by lia
    refine ⟨trivial, _, rfl, ?_⟩
    obtain ⟨ro, y1, y2⟩ := hrow hi
    refine vjB (?_ : Gs _ (.mk _ _ _ _) _)
    refine x_item (e4.get rx) y1 ?_
    refine vj (?_ : Gs _ (.mk _ _ _ _) _)
    refine w_rests F (q.ex e4) at_ okh (e4.pos p0) (tbA _ ag4) (e4.get gx) (gy.mono fun _ _ k => k.ex e4 e4.len) (e4.get y2) (by refine rwE (Eq.symm (hrows)) ?_; exact hi) fun σ5 b5 e5 lb5 h5 => ?_
    have e45 := e4.trans e5
    have lt4 := lt_of_get l4
    have nb : b5 ≠ la := by exact Nat.ne_of_gt (Nat.lt_of_lt_of_le (by assumption) (by assumption))
    have l5 := e5.get l4
    refine vj (?_ : Gs _ (.mk _ _ _ _) _)
    refine b_app (by exact Nat.ne_of_gt (Nat.lt_of_lt_of_le (by assumption) (by assumption))) l5 (by rewrite [List.length_map]; unfold lim; lia) ?_
    have l6 : (σ5.set la (lks.map V.ref ++ [.ref b5]))[la]? = some ((lks ++ [b5]).map V.ref) := by (refine rwE (get_set_eq (lt_of_get l5)) ?_; refine rwE List.map_append ?_); rfl
    have m6 : ∀ j b, (lks ++ [b5])[j]? = some b → b ≠ la ∧ (σ5.set la (lks.map V.ref ++ [.ref b5]))[b]? = some ((h.miss j).map nv) := fun j b hb => by
      rcases snoc_get hb with z | ⟨rfl, rfl⟩
      · obtain ⟨z1, z2⟩ := m4 j b z
        exact ⟨z1, get_set_ne (Ne.symm z1) (e5.get z2)⟩
      · refine rwE hl4 ?_
        exact ⟨nb, get_set_ne (Ne.symm nb) h5⟩
    have ag6 : Ag (· = la) σ3 (σ5.set la (lks.map V.ref ++ [.ref b5])) := (ag4.trans e5.ag).trans (Ag.set rfl)
    have e6 : Ex σ (σ5.set la (lks.map V.ref ++ [.ref b5])) := e45.set lr
    generalize σ5.set la (lks.map V.ref ++ [.ref b5]) = σ6 at *
    refine vj (?_ : Gs _ (.mk _ _ _ _) _)
    refine x_item l6 (v := .ref b5) (by (refine rwE (Eq.symm (hl4)) ?_; refine rwE List.getElem?_map ?_; refine rwE List.getElem?_concat_length ?_); rfl) ?_
    refine vj (?_ : Gs _ (.mk _ _ _ _) _)
    refine c_isR ?_
    refine vj (?_ : Gs _ (.mk _ _ _ _) _)
    refine k_no ?_
    refine vj (?_ : Gs _ (.mk _ _ _ _) _)
    exact hK _ _ ⟨lks ++ [b5], _, e6, ag6, by (refine rwE List.length_append ?_; refine rwE hl4 ?_); rfl, l6, m6, rfl⟩
  rintro mm σ4 ⟨lks, u7, e4, ag4, hl4, l4, m4, rfl⟩
  rw [rangeV_length, Int.toNat_natCast, hrows] at hl4
  refine ⟨trivial, ?_⟩
  have bs := at_.inv.base
  refine vj (?_ : Gs _ (.mk _ _ _ _) _)
  refine w_chain F (q.ex e4) okh bs (e4.pos p0) (fun z => by rw [gof] at z; cases z) fun _ σ5 a5 e5 lb5 h5 c5 => ?_
  refine vj (?_ : Gs _ (.mk _ _ _ _) _)
  refine b_app (by have := e4.pos p0; exact Nat.ne_of_gt (Nat.lt_of_lt_of_le (by assumption) (by assumption))) h5 (by rewrite [List.length_map]; unfold lim; lia) ?_
  have e6 : Ex σ4 (σ5.set a5 (h.chain.map nv ++ [.int (-1)])) := e5.set lb5
  generalize σ5.set a5 (h.chain.map nv ++ [.int (-1)]) = σ6 at *
  have e46 := e4.trans e6
  refine vj (?_ : Gs _ (.mk _ _ _ _) _)
  refine w_chain F (q.ex e46) okh bs (e46.pos p0) (fun z => by rw [gof] at z; cases z) fun _ σ7 a7 e7 lb7 h7 c7 => ?_
  have e47 := e6.trans e7
  refine vj (?_ : Gs _ (.mk _ _ _ _) _)
  refine w_due F at_ okh ((e4.trans e47).pos p0) (e47.get l4) hl4 (fun j b hb => e47.get (m4 j b hb).2) fun σ8 a8 e8 h8 => ?_
  refine vj (?_ : Gs _ (.mk _ _ _ _) _)
  refine w_list F (e8.get h7) h8 ?_
  refine vj (?_ : Gs _ (.mk _ _ _ _) _)
  exact rfl
theorem w_law10B (F : F10 Φ) {is : List Int} {b ga ra : Nat} {gates : List (Nat × List Nat)} {rows : List (List Nat)} (s0 : σ[0]? = some (is.map V.int)) (hlen : is.length ≤ 63) (h1 : σ[b]? = some [.ref ga, .ref ra]) (D : Drawn σ ga ra gates rows) :
    Gs (.fn Φ (n + 7) x isT) (norm 400 [.sts (f45B ++ f45C)] [] [some (.ref 0), some (.ref b), none, none, none, none, none, none, none, none, none, none, none, none]) σ := by
  have p0 := lt_of_get s0
  have ok := D.ok
  have hr1 := ok.r1
  have hr2 := ok.r2
  obtain ⟨gv, g1, g2⟩ := D.gts
  obtain ⟨rv, r1, r2⟩ := D.rws
  refine (?_ : Gs _ (.mk _ _ _ _) _)
  refine x_item (k := 0) h1 rfl ?_
  refine vj (?_ : Gs _ (.mk _ _ _ _) _)
  refine x_item (k := 1) h1 rfl ?_
  refine vj (?_ : Gs _ (.mk _ _ _ _) _)
  refine b_lenE r1 r2.len ?_
  refine vj (?_ : Gs _ (.mk _ _ _ _) _)
  refine w_begun F.h g1 g2 r1 r2 ok fun σ2 hg hr hd hs hc e2 rep2 => ?_
  refine vj (?_ : Gs _ (.mk _ _ _ _) _)
  refine b_from (k := 6) (e2.get s0) (by rewrite [List.length_map]; unfold lim; exact Nat.le_trans (by assumption) (by decide)) ?_
  refine rwE (Eq.symm (List.map_drop)) ?_
  refine vj (?_ : Gs _ (.mk _ _ _ _) _)
  refine d_weave (is := is.drop 6) F.weave last_get (by refine rwE List.length_drop ?_; lia) hr1 hr2 fun σ3 wa l e3 h3 lt hl => ?_
  have e13 : Ex σ σ3 := e2.trans (Ex.one.trans e3)
  have e23 : Ex σ2 σ3 := Ex.one.trans e3
  have okh : Okh (Hl.init gates rows) := ⟨ok.inv.base.wf, ok.g2, hr2⟩
  refine vj (?_ : Gs _ (.mk _ _ _ _) _)
  refine w_woven F.h F.r (B := fun _ => False) ((rep2.rep.ex e23).repB fun _ z => z.elim) (fun _ z => z.elim) okh (e13.pos p0) h3 lt (by exact Nat.le_trans (by assumption) (by decide)) fun σ4 d4 s4 c4 t4 e4 q4 h4 _ => ?_
  have e14 := e13.trans e4
  have in1 := ok.inv.run lt
  have o1 := okh.run lt
  have rr : ((Hl.init gates rows).run l).rows = rows := by refine rwE Hl.run_rows ?_; rfl
  have hrows : rows.length = ((Hl.init gates rows).run l).rows.length := by (refine rwE rr ?_; with_reducible rfl)
  generalize hh : (Hl.init gates rows).run l = h at *
  refine vj (?_ : Gs _ (.mk _ _ _ _) _)
  refine r_rgK (by lia) ?_
  refine forL_rule (fun i mm σ' => Mini.Ek1 fun u7 => Mini.Cj2 (Ex σ4 σ') (mm = [some (.ref 0), some (.ref b), some (.ref ga), some (.ref ra), some (.int rows.length), some (.tup [.inst [.ref hg, .ref hr, .ref d4, .ref s4, .ref c4], .ref t4]), some (.bool ((List.range i).any fun w => !h.idle w)), u7, none, none, none, none, none, none])) ⟨none, Ex.refl, rfl⟩ ?_ ?_
  · rintro i v mm σ5 K hv ⟨u7, e5, rfl⟩ hK
    obtain ⟨rfl, hi⟩ := rangeV_get hv
    refine ⟨trivial, _, rfl, ?_⟩
    rw [any_succ] at hK
    refine vjB (?_ : Gs _ (.mk _ _ _ _) _)
    refine w_idle F.h F.r (q4.rep.ex e5) o1 (by lia) fun σ6 e6 => ?_
    refine vj (?_ : Gs _ (.mk _ _ _ _) _)
    cases hid : h.idle i with
    | true =>
      rw [hid, Bool.not_true, Bool.or_false] at hK
      refine k_nyes ?_
      refine vj (?_ : Gs _ (.mk _ _ _ _) _)
      exact hK _ _ ⟨_, e5.trans e6, rfl⟩
    | false =>
      rw [hid, Bool.not_false, Bool.or_true] at hK
      refine k_nno ?_
      refine vj (?_ : Gs _ (.mk _ _ _ _) _)
      exact hK _ _ ⟨_, e5.trans e6, rfl⟩
  rintro mm σ5 ⟨u7, e5, rfl⟩
  (rewrite [rangeV_length]; rewrite [Int.toNat_natCast])
  refine ⟨trivial, ?_⟩
  have eg : ((List.range rows.length).any fun w => !h.idle w) = h.going := by refine rwE hrows ?_; rfl
  refine rwE eg ?_
  have e15 := e14.trans e5
  have bs := in1.base
  refine vj (?_ : Gs _ (.mk _ _ _ _) _)
  refine w_noRest F (q4.rep.ex e5) o1 bs (e15.pos p0) fun σ6 e6 => ?_
  have e16 := e15.trans e6
  refine vj (?_ : Gs _ (.mk _ _ _ _) _)
  refine c_neS rfl ?_
  refine vj (?_ : Gs _ (.mk _ _ _ _) _)
  refine k_no ?_
  refine vj (?_ : Gs _ (.mk _ _ _ _) _)
  refine w_any F (q4.rep.ex (e5.trans e6)) o1 bs (e16.pos p0) fun σ7 e7 => ?_
  have e17 := e16.trans e7
  have e47 := (e5.trans e6).trans e7
  refine vj (?_ : Gs _ (.mk _ _ _ _) _)
  refine c_neS rfl ?_
  refine vj (?_ : Gs _ (.mk _ _ _ _) _)
  refine k_no ?_
  refine vj (?_ : Gs _ (.mk _ _ _ _) _)
  refine w_rested F.h F.r F.rested (q4.ag e47.ag) (fun _ z => z.elim) o1 (e17.pos p0) fun σ8 d8 s8 c8 t8 e8 q8 h8 _ => ?_
  have e18 := e17.trans e8
  have e48 := e47.trans e8
  have rl := rest_len _ o1.wf (Nat.le_refl _)
  have ml := o1.wf.mu_le o1.r1
  have idl := rest_idle _ o1.wf (Nat.le_refl h.mu)
  have rlt : ∀ w ∈ h.rest, w < rows.length := fun w hw => by refine rwE hrows ?_; exact rest_lt w hw
  have er : h.run h.rest = (Hl.init gates rows).run (l ++ h.rest) := by (refine rwE Hl.run_app ?_; (refine rwE hh ?_; with_reducible rfl))
  have et : h.tells h.rest = ((Hl.init gates rows).run l).tells h.rest := by (refine rwE hh ?_; with_reducible rfl)
  rw [er] at q8 idl
  rw [et] at h8
  rw [← hrows] at idl
  refine vj (?_ : Gs _ (.mk _ _ _ _) _)
  exact w_law10C F (e18.pos p0) (D.ex e18) rfl (fun w hw => (List.mem_append.mp hw).elim (lt w) (rlt w)) (by refine rwE List.length_append ?_; lia) rfl (e48.get h4) h8 q8.rep idl
theorem w_law10 (F : F10 Φ) (FL : Φ 45 = some f45) {is : List Int} (hlen : is.length ≤ 63) : callW Φ (n + 8) 45 [.ref 0] [is.map V.int] (fun v _ => v = .bool true) x := by
  have s0 : ([is.map V.int] : H)[0]? = some (is.map V.int) := rfl
  generalize ([is.map V.int] : H) = σ at *
  have p0 := lt_of_get s0
  refine Stq.out (?_ : cW Φ (n + 8) 45 [.ref 0] σ isT x)
  refine fn_in FL rfl (?_ : Gs _ (.mk _ _ _ _) _)
  refine d_hall F.d s0 fun σ1 b ga ra gates rows e1 h1 D1 => ?_
  refine vj (?_ : Gs _ (.mk _ _ _ _) _)
  refine d_cellAt (k := 5) F.d.f (e1.get s0) fun c => ?_
  refine vj (?_ : Gs _ (.mk _ _ _ _) _)
  refine k_dec (fun _ => ?_) fun _ => vj (w_law10B F (e1.get s0) hlen h1 D1)
  refine vj (?_ : Gs _ (.mk _ _ _ _) _)
  refine d_cellAt (k := 4) F.d.f (e1.get s0) fun c4 => ?_
  refine vj (?_ : Gs _ (.mk _ _ _ _) _)
  refine w_circle F (e1.pos p0) fun σ2 b ga ra gates rows e2 h2 D2 => ?_
  refine vj (?_ : Gs _ (.mk _ _ _ _) _)
  exact w_law10B F ((e1.trans e2).get s0) hlen h2 D2
end
end Mini
open PySem PySem.W PyProof.Rows
namespace Mini
noncomputable def dv : DefRec := (recsOf qv)[45]?.getD ⟨"", ⟨[], [], none, [], [], none, []⟩, [], ⟨.function, [], false, false, []⟩, ⟨0, 0, 0, 0⟩⟩
end Mini
open Mini in
set_option maxRecDepth 100000 in
set_option maxHeartbeats 8000000 in
theorem PySem.Challenge.cw_uf030039_10_holds : PySem.Challenge.rw_uf030039_10.Holds := by
  w_on
  refine PySem.W.holds_law (by decide +kernel) fun said => ?_
  refine holds_open (r := PySem.Challenge.rw_uf030039_10.row) (q := qv) (loose := []) (Xt := xv) (XP := XL qv []) (Yf := excHook.obs) (Ya := excHook.val) (YP := excHook.says) (d := dv) (kwd := []) (N := 20000) left0 excHook.of excHook.keeps (fun s e => xl_of s (Bool.and_eq_true_iff.mp e).1) XL.keeps (by kernel_rfl) (by kernel_rfl) (by kernel_rfl) (fun s e => recFacts_of (Bool.and_eq_true_iff.mp e).2) (by rfl) said (by decide +kernel) ⟨rfl, rfl, rfl, rfl, rfl, by decide +kernel⟩ ?hw ?hc
  case hw => w_witness2
  intro w s₀ s₁ mg mb G Y fa o pm cd doc dV kV ho hd hcd hD hmg hg args vals as hpre hlay hrd hwl hlo
  refine Ground.open G ?_
  intro T B D TE TW
  wrow_args hpre hlay hrd hwl hlo
  refine enter_call ?_
  rename_i is _ _ _ _ _ _ _ a vs _ hL _ hw _ hI _ hlen _
  exact Mini.law_hall (l := PySem.Challenge.rw_uf030039_10) (consts := [("MOST", 12), ("LONGEST", 40)]) (n := 8) T TE Y (by kernel_rfl) (by kernel_rfl) (by kernel_rfl) hw hL hI (by omega) hg hmg (li := 45) (by kernel_rfl) (by omega)
    (Mini.w_law10 (n := 0) ⟨⟨by kernel_rfl, by kernel_rfl, by kernel_rfl, by kernel_rfl, by kernel_rfl, by kernel_rfl, by kernel_rfl, by kernel_rfl, by kernel_rfl, by kernel_rfl, by kernel_rfl, by kernel_rfl, by kernel_rfl, by kernel_rfl, by kernel_rfl, by kernel_rfl, by kernel_rfl, by kernel_rfl, by kernel_rfl, by kernel_rfl, by kernel_rfl, by kernel_rfl⟩,
      ⟨by kernel_rfl, by kernel_rfl⟩, ⟨⟨by kernel_rfl, by kernel_rfl, by kernel_rfl, by kernel_rfl, by kernel_rfl, by kernel_rfl⟩, by kernel_rfl, by kernel_rfl⟩,
      by kernel_rfl, by kernel_rfl, by kernel_rfl, by kernel_rfl, by kernel_rfl, by kernel_rfl, by kernel_rfl, by kernel_rfl, by kernel_rfl, by kernel_rfl, by kernel_rfl, by kernel_rfl, by kernel_rfl⟩ (by kernel_rfl) (by omega))
