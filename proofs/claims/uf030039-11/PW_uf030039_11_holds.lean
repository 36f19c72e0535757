import PyProof.Rows.All
import Open.Line
import Wide.FinOn
import Open.Row
import PyProof.AssignAttr
import PyProof.CallI
import PyProof.CallType
import PyProof.Cells
import PyProof.CompFree
import PyProof.CompMap
import PyProof.Conv_int_bool
import PyProof.DefCall
import PyProof.EnumFor
import PyProof.FactsAll.list_3
import PyProof.InstStore
import PyProof.InstStoreFacts
import PyProof.IsRules
import PyProof.IsiHeapPairs
import PyProof.IsiNone
import PyProof.IsiPairs
import PyProof.ListCopy
import PyProof.ListIndex
import PyProof.ListIndexNeg
import PyProof.ListOps
import PyProof.ListRange
import PyProof.MeetsSeq
import PyProof.NeData
import PyProof.P3Eq
import PyProof.P3In
import PyProof.Raises
import PyProof.RangeFor
import PyProof.Rows.AttrNodeAny
import PyProof.Rows.CellsFrame
import PyProof.Rows.Chain
import PyProof.Rows.Frame
import PyProof.Rows.IntRules
import PyProof.Rows.ListMul
import PyProof.Rows.Lst
import PyProof.Rows.Nodes
import PyProof.Rows.PlainEq
import PyProof.Rows.PlainObj
import PyProof.Rows.RuleB_floordiv
import PyProof.Rows.RuleB_mod
import PyProof.Rows.RuleB_mul
import PyProof.Rows.RuleB_pow
import PyProof.Rows.RuleC_int
import PyProof.Rows.RuleU_int
import PyProof.Rows.SeqJoint
import PyProof.Rows.StrTemp
import PyProof.Rows.SumAny
import PyProof.Rows.Top
import PyProof.Rows.Tup
import PyProof.Rows.TupSub
import PyProof.RulesAssignMore
import PyProof.RulesMatch
import PyProof.RulesRaise
import PyProof.SeqI3
import PyProof.SliceList
import PyProof.TupleIter
import PyProof.TupleOps
import PyProof.WalkInts
import PyProof.WalksMore
import PyProof.ZipIter
import Wide.BridgeG
import Wide.Well
import PySem.Challenge.RW_uf030039_11
set_option Elab.async false
set_option genSizeOf false
set_option compiler.extract_closed false
set_option maxHeartbeats 4000000
local macro_rules | `(tactic| walk_at "o") => `(tactic| first | assumption | decide | exact Nat.le_trans (by assumption) (by decide) | exact Nat.lt_of_lt_of_le (by assumption) (by assumption) | exact Nat.le_trans (by assumption) (by assumption) | exact Nat.lt_of_le_of_lt (by assumption) (by assumption) | exact Nat.le_succ_of_le (by assumption) | exact Nat.le_of_lt (by assumption) | exact Nat.ne_of_gt (by assumption) | exact Nat.ne_of_gt (Nat.lt_of_lt_of_le (by assumption) (by assumption)) | lia | omega)
@[elab_as_elim] theorem Mini.rwE {α : Sort _} {a b : α} {p : α → Prop} (h : a = b) (m : p b) : p a := h ▸ m
local macro_rules | `(tactic| rw [$t:term]) => `(tactic| ((first | refine Mini.rwE $t ?_ | rewrite [$t:term]); try (with_reducible rfl)))
local macro_rules | `(tactic| rw [← $t:term]) => `(tactic| ((first | refine Mini.rwE (Eq.symm $t) ?_ | rewrite [← $t:term]); try (with_reducible rfl)))
open PySem PySem.W PyProof.Rows in
noncomputable def Mini.isNm0 : Stmt → Bool
  | .Assign [.Name x _] _ _ => x == ("__name__" : Str)
  | _ => false
open PySem PySem.W PyProof.Rows in
noncomputable def Mini.pv : Program := PySem.Challenge.rw_uf030039_11.row.toRowW.prog
open PySem PySem.W PyProof.Rows in
noncomputable def Mini.qv : Program := { Mini.pv with main := { Mini.pv.main with body := Mini.pv.main.body.filter fun s => !Mini.isNm0 s } }
open PySem PySem.W PyProof.Rows in
noncomputable def Mini.xv : Shared → Bool := fun s => xlAt Mini.qv [] s && recOk (RowW.records PySem.Challenge.rw_uf030039_11.row.toRowW) s
namespace Mini
open PySem PySem.W PyProof.Rows
set_option maxRecDepth 100000 in
set_option maxHeartbeats 8000000 in
theorem leftA : ∀ w, (openEnds treeTable pv w 20000).map (fun s => (seen ((recsOf qv).map (·.name)) (ownsOf qv) [] { s with gens := #[] }, s.heap.bltView,
   s.heap.keysOk (looseW qv []) ((recsOf qv).map (·.name)) ((litsOf qv).map (·.1)) ((clssOf qv (looseW qv [])).map (·.name)) && s.heap.accountedOkI (importedModules pv.main.body) && s.heap.isNs mainGlobals && s.heap.isNs builtinsNs && tablesOk qv s.heap && xv s && (if true then s.gens.size == 0 else !leftWithCleanup s.gens))) = some (expectedOf qv, bltViewBooted, true) := fun w => by kernel_rfl
set_option maxRecDepth 100000 in
set_option maxHeartbeats 8000000 in
theorem leftB : ∀ w, (openEnds treeTable pv w 20000).map (fun s => (tabsOk qv s, pinSeenD qv (drecsOf qv) s, plainSeenE qv (looseW qv []) s, plainSeenD qv [] s, wideSeen qv s, clsSeenW qv [] s)) = some (true, pinGoodD (drecsOf qv), plainGoodE qv (looseW qv []), plainGoodD qv [], wideGood qv, clsGoodW qv []) := fun w => by kernel_rfl
theorem map_two {α β γ δ : Type} {o : Option α} {f : α → β} {g : α → γ} {b : β} {c : γ} (h1 : o.map f = some b) (h2 : o.map g = some c) (k : β → γ → δ) : o.map (fun s => k (f s) (g s)) = some (k b c) := by
  cases o with
  | none => cases h1
  | some a => cases h1; cases h2; rfl
theorem left0 : LeftO pv qv [] xv (fun _ : Shared => ()) (fun _ : World => ()) 20000 := fun w => map_two (leftA w) (leftB w) fun a b => ((a.1, a.2.1, a.2.2, b), ())
end Mini
set_option autoImplicit false
namespace Mini
set_option genInjectivity false
set_option genSizeOfSpec false
inductive Cj2 (A1 A2 : Prop) : Prop | mk (h1 : A1) (h2 : A2)
inductive Cj3 (A1 A2 A3 : Prop) : Prop | mk (h1 : A1) (h2 : A2) (h3 : A3)
inductive Cj4 (A1 A2 A3 A4 : Prop) : Prop | mk (h1 : A1) (h2 : A2) (h3 : A3) (h4 : A4)
inductive Cj5 (A1 A2 A3 A4 A5 : Prop) : Prop | mk (h1 : A1) (h2 : A2) (h3 : A3) (h4 : A4) (h5 : A5)
inductive Cj6 (A1 A2 A3 A4 A5 A6 : Prop) : Prop | mk (h1 : A1) (h2 : A2) (h3 : A3) (h4 : A4) (h5 : A5) (h6 : A6)
inductive Cj7 (A1 A2 A3 A4 A5 A6 A7 : Prop) : Prop | mk (h1 : A1) (h2 : A2) (h3 : A3) (h4 : A4) (h5 : A5) (h6 : A6) (h7 : A7)
inductive Cj8 (A1 A2 A3 A4 A5 A6 A7 A8 : Prop) : Prop | mk (h1 : A1) (h2 : A2) (h3 : A3) (h4 : A4) (h5 : A5) (h6 : A6) (h7 : A7) (h8 : A8)
inductive Ek1 {A1 : Type} (P : A1 → Prop) : Prop | mk (x1 : A1) (h : P x1)
inductive Ek2 {A1 A2 : Type} (P : A1 → A2 → Prop) : Prop | mk (x1 : A1) (x2 : A2) (h : P x1 x2)
inductive Ek3 {A1 A2 A3 : Type} (P : A1 → A2 → A3 → Prop) : Prop | mk (x1 : A1) (x2 : A2) (x3 : A3) (h : P x1 x2 x3)
inductive Ek4 {A1 A2 A3 A4 : Type} (P : A1 → A2 → A3 → A4 → Prop) : Prop | mk (x1 : A1) (x2 : A2) (x3 : A3) (x4 : A4) (h : P x1 x2 x3 x4)
inductive Ek5 {A1 A2 A3 A4 A5 : Type} (P : A1 → A2 → A3 → A4 → A5 → Prop) : Prop | mk (x1 : A1) (x2 : A2) (x3 : A3) (x4 : A4) (x5 : A5) (h : P x1 x2 x3 x4 x5)
inductive Ek7 {A1 A2 A3 A4 A5 A6 A7 : Type} (P : A1 → A2 → A3 → A4 → A5 → A6 → A7 → Prop) : Prop | mk (x1 : A1) (x2 : A2) (x3 : A3) (x4 : A4) (x5 : A5) (x6 : A6) (x7 : A7) (h : P x1 x2 x3 x4 x5 x6 x7)
set_option genInjectivity true
set_option genSizeOfSpec true

/-- abstract values: tuples, instances of Hall and exceptions are plain values; lists live in the heap -/
inductive V where
  | none
  | bool (b : Bool)
  | int (i : Int)
  | str (k : Nat)
  | ref (a : Nat)
  | tup (xs : List V)
  | inst (xs : List V)

/-- the abstract heap: the lists; 0 is the script, never changed -/
abbrev H := List (List V)
/-- the locals -/
abbrev M := List (Option V)
/-- pure data, a bool being the int that it equals -/
inductive D where
  | none
  | int (i : Int)
  | str (k : Nat)
  | list (xs : List D)
  | tup (xs : List D)

noncomputable def lim : Nat := 16777216

inductive Bin where
  | add | sub | mul | fdiv | mod | pow
inductive Cmp where
  | eq | ne | lt | le | gt | ge | is | isNot | inn | notIn
inductive Kd where
  | int | bool | list | tup | str | inst
inductive B1 where
  | len | list | intOf | sum | max
inductive M0 where
  | reverse | clear
inductive M1 where
  | append | pop | count | index

set_option genInjectivity false
set_option genSizeOfSpec false
mutual
inductive E where
  | none
  | bool (b : Bool)
  | int (i : Int)
  | str (k : Nat)
  | var (x : Nat)
  | bin (o : Bin) (a b : E)
  | neg (a : E)
  | not (a : E)
  | and (a b : E)
  | or (a b : E)
  | cmp (o : Cmp) (a b : E)
  | cmp2 (o : Cmp) (a b : E) (p : Cmp) (c : E)
  | ite (t a b : E)
  | call (f : Nat) (as : List E)
  | hall (as : List E)
  | b1 (f : B1) (a : E)
  | max2 (a b : E)
  | listRange (a : E)
  | isinst (a : E) (k : Kd)
  | attr (a : E) (k : Nat)
  | idx (a b : E)
  | from_ (a b : E)
  | upto (a b : E)
  | disp (as : List E)
  | tup (as : List E)
  | m0 (f : M0) (a : E)
  | m1 (f : M1) (a b : E)
  | comp (elt : E) (x : Nat) (src : Src)
  | compIf (elt : E) (x : Nat) (src : Src) (test : E)
inductive Src where
  | list (a : E)
  | range (a : E)
  | rev (a : E)
  | enum (a : E)
  | zip (a b : E)
end

inductive S where
  | set (x : Nat) (e : E)
  | unpack (xs : List Nat) (e : E)
  | put (a i e : E)
  | expr (e : E)
  | ite (t : E) (a b : List S)
  | while (t : E) (b : List S)
  | for (xs : List Nat) (src : Src) (b : List S)
  | ret (e : E)
  | raise (c : Nat)

set_option genInjectivity true
set_option genSizeOfSpec true
structure Fn where
  np : Nat
  ns : Nat
  body : List S

noncomputable def get : M → Nat → Option V
  | [], _ => .none
  | v :: _, 0 => v
  | _ :: m, n + 1 => get m n
noncomputable def put : M → Nat → V → M
  | [], _, _ => []
  | _ :: m, 0, v => some v :: m
  | w :: m, n + 1, v => w :: put m n v
noncomputable def puts : M → List Nat → List V → Option M
  | m, [], [] => some m
  | m, x :: xs, v :: vs => puts (put m x v) xs vs
  | _, _, _ => .none

noncomputable def mapO {α β : Type} (f : α → Option β) : List α → Option (List β)
  | [] => some []
  | v :: vs => match f v, mapO f vs with
    | some d, some ds => some (d :: ds)
    | _, _ => .none

noncomputable def snap : Nat → H → V → Option D
  | n, σ, v => match v with
    | .none => some .none
    | .bool b => some (.int (if b then 1 else 0))
    | .int i => some (.int i)
    | .str k => some (.str k)
    | .ref a => match n with
      | 0 => .none
      | n + 1 => match σ[a]? with
        | some xs => (mapO (snap n σ) xs).map .list
        | .none => .none
    | .tup xs => match n with
      | 0 => .none
      | n + 1 => (mapO (snap n σ) xs).map .tup
    | .inst _ => .none

abbrev P := V → H → Prop
abbrev X := Nat → H → Prop
abbrev Cal := Nat → List V → H → P → X → Prop

noncomputable def alloc (xs : List V) (σ : H) (Q : P) : Prop := xs.length ≤ lim ∧ Q (.ref σ.length) (σ ++ [xs])

noncomputable def onI (a b : V) (f : Int → Int → Prop) : Prop := match a with
  | .int i => (match b with
    | .int j => f i j
    | _ => False)
  | _ => False
noncomputable def binI (o : Bin) (a b : Int) (σ : H) (Q : P) : Prop := match o with
  | .add => Q (.int (a + b)) σ
  | .sub => Q (.int (a - b)) σ
  | .mul => (-(2 ^ 63) < b ∧ b < 2 ^ 63) ∧ Q (.int (a * b)) σ
  | .fdiv => (0 < b ∧ b < 1073741824) ∧ Q (.int (a / b)) σ
  | .mod => 0 < b ∧ Q (.int (a % b)) σ
  | .pow => (a = 10 ∧ (b = 7 ∨ b = 9)) ∧ Q (.int (a ^ b.toNat)) σ
noncomputable def binop (o : Bin) (a b : V) (σ : H) (Q : P) : Prop := match a with
  | .int i => (match b with
    | .int j => binI o i j σ Q
    | _ => False)
  | .ref r => (match b with
    | .ref t => o = .add ∧ ∃ xs ys, σ[r]? = some xs ∧ σ[t]? = some ys ∧ alloc (xs ++ ys) σ Q
    | .int k => o = .mul ∧ ∃ xs, σ[r]? = some xs ∧ k < 2 ^ 24 ∧ -(2 ^ 24) < k ∧ alloc (List.replicate k.toNat xs).flatten σ Q
    | _ => False)
  | _ => False

noncomputable def truthy (K : Bool → H → Prop) : V → H → Prop
  | .bool b, σ => K b σ
  | _, _ => False

noncomputable def inL (a b : V) (σ : H) (f : D → List D → Prop) : Prop := match b with
  | .ref r => ∃ d xs ds, snap 12 σ a = some d ∧ σ[r]? = some xs ∧ mapO (snap 11 σ) xs = some ds ∧ f d ds
  | .tup xs => ∃ d ds, snap 12 σ a = some d ∧ mapO (snap 11 σ) xs = some ds ∧ f d ds
  | _ => False
noncomputable def cmpop (o : Cmp) (a b : V) (σ : H) (Q : P) : Prop := match o with
  | .eq => ∃ d e, snap 12 σ a = some d ∧ snap 12 σ b = some e ∧ ∀ c : Bool, (c = true ↔ d = e) → Q (.bool c) σ
  | .ne => ∃ d e, snap 12 σ a = some d ∧ snap 12 σ b = some e ∧ ∀ c : Bool, (c = true ↔ ¬ d = e) → Q (.bool c) σ
  | .lt => onI a b fun i j => Q (.bool (decide (i < j))) σ
  | .le => onI a b fun i j => Q (.bool (decide (i ≤ j))) σ
  | .gt => onI a b fun i j => Q (.bool (decide (j < i))) σ
  | .ge => onI a b fun i j => Q (.bool (decide (j ≤ i))) σ
  | .is => (match b with
    | .none => ∀ c : Bool, (c = true ↔ a = .none) → Q (.bool c) σ
    | _ => False)
  | .isNot => (match b with
    | .none => ∀ c : Bool, (c = true ↔ ¬ a = .none) → Q (.bool c) σ
    | .bool y => (match a with
      | .bool x => Q (.bool (x != y)) σ
      | _ => False)
    | _ => False)
  | .inn => inL a b σ fun d ds => ∀ c : Bool, (c = true ↔ d ∈ ds) → Q (.bool c) σ
  | .notIn => inL a b σ fun d ds => ∀ c : Bool, (c = true ↔ ¬ d ∈ ds) → Q (.bool c) σ

/-- isinstance, as far as it is asked -/
noncomputable def isKd : Kd → V → Option Bool
  | .int, .int _ => some true
  | .bool, .int _ => some false
  | .bool, .none => some false
  | .bool, .bool _ => some true
  | .list, .ref _ => some true
  | .list, .int _ => some false
  | .tup, .tup _ => some true
  | .str, .str _ => some true
  | .inst, .inst _ => some true
  | _, _ => .none

noncomputable def bi1 : B1 → V → H → P → Prop
  | .len, .ref a, σ, Q => ∃ xs, σ[a]? = some xs ∧ Q (.int xs.length) σ
  | .len, .tup xs, σ, Q => xs.length ≤ lim ∧ Q (.int xs.length) σ
  | .list, .ref a, σ, Q => ∃ xs, σ[a]? = some xs ∧ alloc xs σ Q
  | .intOf, .bool b, σ, Q => Q (.int (if b then 1 else 0)) σ
  | .sum, .ref a, σ, Q => ∃ (xs : List V) (is : List Int), σ[a]? = some xs ∧ xs = is.map V.int ∧ Q (.int is.sum) σ
  | .max, .ref a, σ, Q => ∃ (xs : List V) (i : Int) (is : List Int), σ[a]? = some xs ∧ xs = (i :: is).map V.int ∧ ∀ M, M ∈ i :: is → (∀ j ∈ i :: is, j ≤ M) → Q (.int M) σ
  | _, _, _, _ => False

noncomputable def me0 : M0 → V → H → P → Prop
  | .reverse, .ref a, σ, Q => ∃ xs, a ≠ 0 ∧ σ[a]? = some xs ∧ Q .none (σ.set a xs.reverse)
  | .clear, .ref a, σ, Q => ∃ xs, a ≠ 0 ∧ σ[a]? = some xs ∧ Q .none (σ.set a [])
  | _, _, _, _ => False

noncomputable def me1 : M1 → V → V → H → P → Prop
  | .append, .ref a, v, σ, Q => ∃ xs, a ≠ 0 ∧ σ[a]? = some xs ∧ xs.length < lim ∧ Q .none (σ.set a (xs ++ [v]))
  | .pop, .ref a, .int k, σ, Q => ∃ xs v, a ≠ 0 ∧ σ[a]? = some xs ∧ 0 ≤ k ∧ xs[k.toNat]? = some v ∧ Q v (σ.set a (xs.eraseIdx k.toNat))
  | .count, .ref a, .int i, σ, Q => ∃ (xs : List V) (is : List Int), σ[a]? = some xs ∧ xs = is.map V.int ∧ Q (.int (is.count i)) σ
  | .index, .ref a, .int i, σ, Q => ∃ (xs : List V) (is : List Int), σ[a]? = some xs ∧ xs = is.map V.int ∧ i ∈ is ∧ Q (.int (is.idxOf i)) σ
  | _, _, _, _, _ => False

noncomputable def isRef : V → Prop
  | .ref _ => True
  | _ => False

noncomputable def item : V → V → H → P → Prop
  | .ref a, .int k, σ, Q => ∃ xs v, σ[a]? = some xs ∧ ((0 ≤ k ∧ xs[k.toNat]? = some v) ∨ (k < 0 ∧ 0 ≤ k + xs.length ∧ xs[(k + xs.length).toNat]? = some v)) ∧ Q v σ
  | .tup xs, .int k, σ, Q => (0 ≤ k ∧ k < 2 ^ 62) ∧ ∃ v, xs[k.toNat]? = some v ∧ Q v σ
  | _, _, _, _ => False

noncomputable def sliceFrom : V → V → H → P → Prop
  | .ref a, .int k, σ, Q => ∃ xs, σ[a]? = some xs ∧ 0 ≤ k ∧ alloc (xs.drop k.toNat) σ Q
  | _, _, _, _ => False
noncomputable def sliceTo : V → V → H → P → Prop
  | .ref a, .int k, σ, Q => ∃ xs, σ[a]? = some xs ∧ 0 ≤ k ∧ alloc (xs.take k.toNat) σ Q
  | _, _, _, _ => False

noncomputable def field : V → Nat → H → P → Prop
  | .inst xs, k, σ, Q => ∃ v, xs[k]? = some v ∧ Q v σ
  | _, _, _, _ => False

noncomputable def rangeV (n : Int) : List V := (List.range n.toNat).map fun (i : Nat) => V.int (i : Int)
noncomputable def enumV (k : Nat) : List V → List V
  | [] => []
  | v :: vs => .tup [.int k, v] :: enumV (k + 1) vs
noncomputable def zipV : List V → List V → List V
  | x :: xs, y :: ys => .tup [x, y] :: zipV xs ys
  | _, _ => []

noncomputable def compL (T : V → H → (Bool → H → Prop) → Prop) (F : V → H → P → Prop) (ok : H → Prop) : List V → List V → H → P → Prop
  | [], acc, σ, Q => ok σ ∧ alloc acc σ Q
  | v :: vs, acc, σ, Q => ok σ ∧ T v σ fun b σ => if b then F v σ fun r σ => acc.length < lim ∧ compL T F ok vs (acc ++ [r]) σ Q else compL T F ok vs acc σ Q

mutual
noncomputable def WE (c : Cal) (x : X) : E → M → H → P → Prop
  | .none, _, σ, Q => Q .none σ
  | .bool b, _, σ, Q => Q (.bool b) σ
  | .int i, _, σ, Q => Q (.int i) σ
  | .str k, _, σ, Q => Q (.str k) σ
  | .var y, m, σ, Q => ∃ v, get m y = some v ∧ Q v σ
  | .bin o a b, m, σ, Q => WE c x a m σ fun v σ => WE c x b m σ fun w σ => binop o v w σ Q
  | .neg a, m, σ, Q => WE c x a m σ fun v σ => match v with
    | .int i => Q (.int (-i)) σ
    | _ => False
  | .not a, m, σ, Q => WE c x a m σ (truthy fun b σ => Q (.bool (!b)) σ)
  | .and a b, m, σ, Q => WE c x a m σ (truthy fun t σ => if t then WE c x b m σ Q else Q (.bool false) σ)
  | .or a b, m, σ, Q => WE c x a m σ (truthy fun t σ => if t then Q (.bool true) σ else WE c x b m σ Q)
  | .cmp o a b, m, σ, Q => WE c x a m σ fun v σ => WE c x b m σ fun w σ => cmpop o v w σ Q
  | .cmp2 o a b p d, m, σ, Q => WE c x a m σ fun v σ => WE c x b m σ fun w σ => cmpop o v w σ (truthy fun t σ => if t then WE c x d m σ fun u σ => cmpop p w u σ Q else Q (.bool false) σ)
  | .ite t a b, m, σ, Q => WT c x t m σ fun q σ => if q then WE c x a m σ Q else WE c x b m σ Q
  | .call f as, m, σ, Q => WEs c x as m σ fun vs σ => c f vs σ Q x
  | .hall as, m, σ, Q => WEs c x as m σ fun vs σ => vs.length = 5 ∧ Q (.inst vs) σ
  | .b1 f a, m, σ, Q => WE c x a m σ fun v σ => bi1 f v σ Q
  | .max2 a b, m, σ, Q => WE c x a m σ fun v σ => WE c x b m σ fun w σ => match v, w with
    | .int i, .int j => Q (.int (max i j)) σ
    | _, _ => False
  | .listRange a, m, σ, Q => WE c x a m σ fun v σ => match v with
    | .int n => (0 ≤ n ∧ n < 2 ^ 24) ∧ alloc (rangeV n) σ Q
    | _ => False
  | .isinst a k, m, σ, Q => WE c x a m σ fun v σ => ∃ b, isKd k v = some b ∧ Q (.bool b) σ
  | .attr a k, m, σ, Q => WE c x a m σ fun v σ => field v k σ Q
  | .idx a b, m, σ, Q => WE c x a m σ fun v σ => WE c x b m σ fun w σ => item v w σ Q
  | .from_ a b, m, σ, Q => WE c x a m σ fun v σ => WE c x b m σ fun w σ => sliceFrom v w σ Q
  | .upto a b, m, σ, Q => WE c x a m σ fun v σ => WE c x b m σ fun w σ => sliceTo v w σ Q
  | .disp as, m, σ, Q => WEs c x as m σ fun vs σ => alloc vs σ Q
  | .tup as, m, σ, Q => WEs c x as m σ fun vs σ => Q (.tup vs) σ
  | .m0 f a, m, σ, Q => WE c x a m σ fun v σ => me0 f v σ Q
  | .m1 f a b, m, σ, Q => WE c x a m σ fun v σ => isRef v ∧ WE c x b m σ fun w σ => me1 f v w σ Q
  | .comp e y s, m, σ, Q => WSrc c x s m σ fun its ok σ => compL (fun _ σ K => K true σ) (fun v σ Q => WE c x e (put m y v) σ Q) ok its [] σ Q
  | .compIf e y s t, m, σ, Q => WSrc c x s m σ fun its ok σ => compL (fun v σ K => WT c x t (put m y v) σ K) (fun v σ Q => WE c x e (put m y v) σ Q) ok its [] σ Q
noncomputable def WT (c : Cal) (x : X) : E → M → H → (Bool → H → Prop) → Prop
  | .not a, m, σ, K => WT c x a m σ fun b σ => K (!b) σ
  | .and a b, m, σ, K => WT c x a m σ fun t σ => if t then WT c x b m σ K else K false σ
  | .or a b, m, σ, K => WT c x a m σ fun t σ => if t then K true σ else WT c x b m σ K
  | .cmp o a b, m, σ, K => WE c x a m σ fun v σ => WE c x b m σ fun w σ => cmpop o v w σ (truthy K)
  | .cmp2 o a b p d, m, σ, K => WE c x a m σ fun v σ => WE c x b m σ fun w σ => cmpop o v w σ (truthy fun t σ => if t then WE c x d m σ fun u σ => cmpop p w u σ (truthy K) else K false σ)
  | .bool b, _, σ, K => K b σ
  | .var y, m, σ, K => ∃ v, get m y = some v ∧ truthy K v σ
  | .call f as, m, σ, K => WEs c x as m σ fun vs σ => c f vs σ (truthy K) x
  | .isinst a k, m, σ, K => WE c x a m σ fun v σ => ∃ b, isKd k v = some b ∧ K b σ
  | _, _, _, _ => False
noncomputable def WEs (c : Cal) (x : X) : List E → M → H → (List V → H → Prop) → Prop
  | [], _, σ, K => K [] σ
  | e :: es, m, σ, K => WE c x e m σ fun v σ => WEs c x es m σ fun vs σ => K (v :: vs) σ
noncomputable def WSrc (c : Cal) (x : X) : Src → M → H → (List V → (H → Prop) → H → Prop) → Prop
  | .list a, m, σ, K => WE c x a m σ fun v σ => match v with
    | .ref a => ∃ xs, σ[a]? = some xs ∧ K xs (fun σ => σ[a]? = some xs) σ
    | _ => False
  | .range a, m, σ, K => WE c x a m σ fun v σ => match v with
    | .int n => (0 ≤ n ∧ n < 2 ^ 24) ∧ K (rangeV n) (fun _ => True) σ
    | _ => False
  | .rev a, m, σ, K => WE c x a m σ fun v σ => match v with
    | .int n => (0 ≤ n ∧ n < 2 ^ 24) ∧ K (rangeV n).reverse (fun _ => True) σ
    | _ => False
  | .enum a, m, σ, K => WE c x a m σ fun v σ => match v with
    | .ref a => ∃ xs, σ[a]? = some xs ∧ K (enumV 0 xs) (fun σ => σ[a]? = some xs) σ
    | _ => False
  | .zip a b, m, σ, K => WE c x a m σ fun v σ => WE c x b m σ fun w σ => match v, w with
    | .ref a, .ref b => ∃ xs ys, σ[a]? = some xs ∧ σ[b]? = some ys ∧ K (zipV xs ys) (fun σ => σ[a]? = some xs ∧ σ[b]? = some ys) σ
    | _, _ => False
end

noncomputable def whileN (T : M → H → (Bool → H → Prop) → Prop) (B : M → H → (M → H → Prop) → Prop) (N : M → H → Prop) : Nat → M → H → Prop
  | 0, _, _ => False
  | n + 1, m, σ => T m σ fun b σ => if b then B m σ (whileN T B N n) else N m σ
noncomputable def bindV : List Nat → M → V → Option M
  | [x], m, v => some (put m x v)
  | xs, m, .tup vs => puts m xs vs
  | _, _, _ => .none
noncomputable def forL (B : M → H → (M → H → Prop) → Prop) (xs : List Nat) (ok : H → Prop) (N : M → H → Prop) : List V → M → H → Prop
  | [], m, σ => ok σ ∧ N m σ
  | v :: vs, m, σ => ok σ ∧ ∃ m', bindV xs m v = some m' ∧ B m' σ (forL B xs ok N vs)

mutual
noncomputable def WS (c : Cal) : S → X → M → H → (M → H → Prop) → P → Prop
  | .set y e, x, m, σ, N, _ => WE c x e m σ fun v σ => N (put m y v) σ
  | .unpack ys e, x, m, σ, N, _ => WE c x e m σ fun v σ => match v with
    | .tup vs => ∃ m', puts m ys vs = some m' ∧ N m' σ
    | _ => False
  | .put a i e, x, m, σ, N, _ => WE c x e m σ fun v σ => WE c x a m σ fun w σ => WE c x i m σ fun k σ => match w, k with
    | .ref a, .int k => ∃ xs, a ≠ 0 ∧ σ[a]? = some xs ∧ 0 ≤ k ∧ k < xs.length ∧ N m (σ.set a (xs.set k.toNat v))
    | _, _ => False
  | .expr e, x, m, σ, N, _ => WE c x e m σ fun _ σ => N m σ
  | .ite t a b, x, m, σ, N, R => WT c x t m σ fun q σ => if q then WSs c a x m σ N R else WSs c b x m σ N R
  | .while t b, x, m, σ, N, R => ∃ n, whileN (fun m σ K => WT c x t m σ K) (fun m σ K => WSs c b x m σ K R) N n m σ
  | .for ys s b, x, m, σ, N, R => WSrc c x s m σ fun its ok σ => forL (fun m σ K => WSs c b x m σ K R) ys ok N its m σ
  | .ret e, x, m, σ, _, R => WE c x e m σ R
  | .raise k, x, _, σ, _, _ => x k σ
noncomputable def WSs (c : Cal) : List S → X → M → H → (M → H → Prop) → P → Prop
  | [], _, m, σ, N, _ => N m σ
  | s :: ss, x, m, σ, N, R => WS c s x m σ (fun m σ => WSs c ss x m σ N R) R
end

noncomputable def start (f : Fn) (vs : List V) : M := vs.map some ++ List.replicate (f.ns - f.np) Option.none
noncomputable def callW (Φ : Nat → Option Fn) : Nat → Cal
  | 0 => fun _ _ _ _ _ => False
  | n + 1 => fun f vs σ Q x => ∃ fn, Φ f = some fn ∧ vs.length = fn.np ∧ WSs (callW Φ n) fn.body x (start fn vs) σ (fun _ σ => Q .none σ) Q

end Mini

set_option autoImplicit false
namespace Mini
open PySem

/-- the words of the programs -/
noncomputable def words : List Str := ["count", "row", "come", "fill", "turn", "look", "pass", "tell", "hear", "wait", "end",
  "", "rows", "Count", "count ", "ROW", "cou", "row7"]

/-- what is known of the run's ground -/
structure Ctx where
  prog : Program
  w : World
  hB : Heap
  mg : Str → Option Value
  mb : Str → Option Value
  Φ : Nat → Option Fn
  fa : Nat → Addr
  hallC : Addr
  fields : List Str

/-- ghosts: the lists' addresses; the addresses of what never changes -/
structure G where
  ρ : List Addr
  ι : Addr → Prop
noncomputable def G.own (g : G) (a : Addr) : Prop := a ∈ g.ρ ∨ g.ι a

/-- an object of the class at C, its attributes at d -/
structure InO (h : Heap) (C b d : Addr) (mA : Str → Option Value) : Prop where
  obj : ∃ o, h.get? b = some o ∧ o.cls = .ref C ∧ o.dict = some d ∧ ∀ c, o.data ≠ .cls c
  ne : d ≠ b
  ns : h.Ns1 d mA
theorem InO.keep {h h' : Heap} {C b d : Addr} {mA : Str → Option Value} (I : InO h C b d mA) (kb : ∀ o, h.get? b = some o → h'.get? b = some o) (kd : ∀ o, h.get? d = some o → h'.get? d = some o) : InO h' C b d mA :=
  ⟨let ⟨o, e, r⟩ := I.obj; ⟨o, kb o e, r⟩, I.ne, I.ns.at kd⟩
noncomputable def hasF (fs : List Str) (mA : Str → Option Value) (vs : List Value) : Prop := fs.length = vs.length ∧ ∀ (i : Nat) (f : Str) (v : Value), fs[i]? = some f → vs[i]? = some v → mA f = some v

mutual
noncomputable def VRel (K : Ctx) (g : G) (h : Heap) : V → Value → Prop
  | .none, w => w = .none
  | .bool b, w => w = .bool b
  | .int i, w => ∃ t, w = .int i t
  | .str k, w => ∃ s t, words[k]? = some s ∧ w = .str s t
  | .ref a, w => ∃ b, g.ρ[a]? = some b ∧ w = .ref b
  | .tup xs, w => ∃ b vs n, w = .ref b ∧ g.ι b ∧ h.get? b = some { cls := .type "tuple", data := .seq vs n } ∧ VRels K g h xs vs.toList
  | .inst xs, w => ∃ b d mA vs, w = .ref b ∧ g.ι b ∧ g.ι d ∧ InO h K.hallC b d mA ∧ hasF K.fields mA vs ∧ VRels K g h xs vs
noncomputable def VRels (K : Ctx) (g : G) (h : Heap) : List V → List Value → Prop
  | [], [] => True
  | x :: xs, v :: vs => VRel K g h x v ∧ VRels K g h xs vs
  | _, _ => False
end

structure St (K : Ctx) (g : G) (σ : H) (h : Heap) : Prop where
  base : ∀ b o, K.hB.get? b = some o → h.get? b = some o
  len : g.ρ.length = σ.length
  lists : ∀ (i : Nat) (b : Addr) (xs : List V), g.ρ[i]? = some b → σ[i]? = some xs → ∃ vs n, h.get? b = some { cls := .type "list", data := .seq vs n } ∧ VRels K g h xs vs.toList
  nodup : g.ρ.Nodup
  small : ∀ xs ∈ σ, xs.length ≤ lim
  fresh : ∀ (i : Nat) (b : Addr), g.ρ[i]? = some b → i ≠ 0 → K.hB.get? b = none
  imm : ∀ b, g.ι b → K.hB.get? b = none ∧ b ∉ g.ρ ∧ ∃ o, h.get? b = some o

structure Go (K : Ctx) (g : G) (h : Heap) (g' : G) (σ' : H) (h' : Heap) : Prop where
  st : St K g' σ' h'
  pre : g.ρ <+: g'.ρ
  imm : ∀ b, g.ι b → g'.ι b
  new : ∀ b, g'.own b → g.own b ∨ h.get? b = none
  keep : ∀ b o, h.get? b = some o → b ∉ g.ρ → h'.get? b = some o

section
variable {K : Ctx} {g g' g₁ g₂ : G} {σ σ' σ₁ σ₂ : H} {h h' h₁ h₂ : Heap}

mutual
theorem VRel.mono (hp : ∀ (i : Nat) (b : Addr), g.ρ[i]? = some b → g'.ρ[i]? = some b) (hi : ∀ b, g.ι b → g'.ι b) (hk : ∀ b o, g.ι b → h.get? b = some o → h'.get? b = some o) :
    ∀ (v : V) (w : Value), VRel K g h v w → VRel K g' h' v w
  | .none, _, q => q
  | .bool _, _, q => q
  | .int _, _, q => q
  | .str _, _, q => q
  | .ref _, _, ⟨b, e, q⟩ => ⟨b, hp _ _ e, q⟩
  | .tup xs, _, ⟨b, vs, n, e, i, o, q⟩ => ⟨b, vs, n, e, hi b i, hk _ _ i o, VRels.mono hp hi hk xs _ q⟩
  | .inst xs, _, ⟨b, d, mA, vs, e, ib, id, I, dd, q⟩ => ⟨b, d, mA, vs, e, hi b ib, hi d id, I.keep (fun o => hk b o ib) (fun o => hk d o id), dd, VRels.mono hp hi hk xs _ q⟩
theorem VRels.mono (hp : ∀ (i : Nat) (b : Addr), g.ρ[i]? = some b → g'.ρ[i]? = some b) (hi : ∀ b, g.ι b → g'.ι b) (hk : ∀ b o, g.ι b → h.get? b = some o → h'.get? b = some o) :
    ∀ (vs : List V) (ws : List Value), VRels K g h vs ws → VRels K g' h' vs ws
  | [], [], _ => trivial
  | v :: vs, w :: ws, ⟨a, b⟩ => ⟨VRel.mono hp hi hk v w a, VRels.mono hp hi hk vs ws b⟩
  | [], _ :: _, q => q.elim
  | _ :: _, [], q => q.elim
end

theorem VRels.length : ∀ {vs : List V} {ws : List Value}, VRels K g h vs ws → vs.length = ws.length
  | [], [], _ => rfl
  | _ :: _, _ :: _, q => congrArg (· + 1) (VRels.length q.2)
  | [], _ :: _, q => q.elim
  | _ :: _, [], q => q.elim
theorem VRels.get : ∀ {vs : List V} {ws : List Value} {i : Nat} {v : V}, VRels K g h vs ws → vs[i]? = some v → ∃ w, ws[i]? = some w ∧ VRel K g h v w
  | _ :: _, w :: _, 0, _, q, e => by cases e; exact ⟨w, rfl, q.1⟩
  | _ :: vs, _ :: ws, i + 1, _, q, e => VRels.get (vs := vs) (ws := ws) (i := i) q.2 (by simpa using e)
  | [], [], _, _, _, e => by simp at e
  | [], _ :: _, _, _, q, _ => q.elim
  | _ :: _, [], _, _, q, _ => q.elim
theorem VRels.append : ∀ {vs vs' : List V} {ws ws' : List Value}, VRels K g h vs ws → VRels K g h vs' ws' → VRels K g h (vs ++ vs') (ws ++ ws')
  | [], _, [], _, _, q => q
  | _ :: _, _, _ :: _, _, p, q => ⟨p.1, VRels.append p.2 q⟩
  | [], _, _ :: _, _, p, _ => p.elim
  | _ :: _, _, [], _, p, _ => p.elim
theorem VRels.take : ∀ {vs : List V} {ws : List Value} (n : Nat), VRels K g h vs ws → VRels K g h (vs.take n) (ws.take n)
  | [], [], n, _ => by (rw [List.take_nil]; rw [List.take_nil]); trivial
  | _ :: _, _ :: _, 0, _ => trivial
  | _ :: _, _ :: _, n + 1, p => ⟨p.1, VRels.take n p.2⟩
  | [], _ :: _, _, p => p.elim
  | _ :: _, [], _, p => p.elim
theorem VRels.drop : ∀ {vs : List V} {ws : List Value} (n : Nat), VRels K g h vs ws → VRels K g h (vs.drop n) (ws.drop n)
  | [], [], n, _ => by (rw [List.drop_nil]; rw [List.drop_nil]); trivial
  | _ :: _, _ :: _, 0, p => p
  | _ :: _, _ :: _, n + 1, p => VRels.drop n p.2
  | [], _ :: _, _, p => p.elim
  | _ :: _, [], _, p => p.elim
theorem VRels.set : ∀ {vs : List V} {ws : List Value} (n : Nat) {v : V} {w : Value}, VRels K g h vs ws → VRel K g h v w → VRels K g h (vs.set n v) (ws.set n w)
  | [], [], _, _, _, p, _ => by simpa using p
  | _ :: _, _ :: _, 0, _, _, p, q => ⟨q, p.2⟩
  | _ :: _, _ :: _, n + 1, _, _, p, q => ⟨p.1, VRels.set n p.2 q⟩
  | [], _ :: _, _, _, _, p, _ => p.elim
  | _ :: _, [], _, _, _, p, _ => p.elim
theorem VRels.eraseIdx : ∀ {vs : List V} {ws : List Value} (n : Nat), VRels K g h vs ws → VRels K g h (vs.eraseIdx n) (ws.eraseIdx n)
  | [], [], _, p => by simpa using p
  | _ :: _, _ :: _, 0, p => p.2
  | _ :: _, _ :: _, n + 1, p => ⟨p.1, VRels.eraseIdx n p.2⟩
  | [], _ :: _, _, p => p.elim
  | _ :: _, [], _, p => p.elim
theorem VRels.reverse : ∀ {vs : List V} {ws : List Value}, VRels K g h vs ws → VRels K g h vs.reverse ws.reverse
  | [], [], _ => trivial
  | _ :: _, _ :: _, p => by (rw [List.reverse_cons]; rw [List.reverse_cons]); exact VRels.append (VRels.reverse p.2) ⟨p.1, trivial⟩
  | [], _ :: _, p => p.elim
  | _ :: _, [], p => p.elim

theorem nodup_inj {l : List Addr} (h : l.Nodup) {i j : Nat} {a : Addr} (hi : l[i]? = some a) (hj : l[j]? = some a) : i = j := by
  obtain ⟨li, ei⟩ := List.getElem?_eq_some_iff.mp hi
  obtain ⟨lj, ej⟩ := List.getElem?_eq_some_iff.mp hj
  have q := List.pairwise_iff_getElem.mp h
  rcases Nat.lt_trichotomy i j with z | z | z
  · exact absurd (ei.trans ej.symm) (q i j li lj z)
  · exact z
  · exact absurd (ej.trans ei.symm) (q j i lj li z)
theorem pre_get {l l' : List Addr} (hp : l <+: l') {i : Nat} {b : Addr} (e : l[i]? = some b) : l'[i]? = some b := by
  obtain ⟨t, rfl⟩ := hp
  rw [List.getElem?_append_left (by
    obtain ⟨hl, _⟩ := List.getElem?_eq_some_iff.mp e; exact hl)]
  exact e

theorem Go.refl (q : St K g σ h) : Go K g h g σ h := ⟨q, List.prefix_refl _, fun _ i => i, fun _ o => .inl o, fun _ _ e _ => e⟩
theorem Go.rel (q : Go K g h g' σ' h') (s : St K g σ h) {v : V} {w : Value} (r : VRel K g h v w) : VRel K g' h' v w :=
  VRel.mono (fun _ _ e => pre_get q.pre e) q.imm (fun b o i e => q.keep b o e (s.imm b i).2.1) v w r
theorem Go.rels (q : Go K g h g' σ' h') (s : St K g σ h) {v : List V} {w : List Value} (r : VRels K g h v w) : VRels K g' h' v w :=
  VRels.mono (fun _ _ e => pre_get q.pre e) q.imm (fun b o i e => q.keep b o e (s.imm b i).2.1) v w r
theorem Go.priv (q : Go K g h g' σ' h') {b : Addr} {o : Obj} (e : h.get? b = some o) (n : ¬ g.own b) : ¬ g'.own b := fun x => by
  rcases q.new b x with y | y
  · exact n y
  · rw [e] at y; cases y
theorem Go.trans (q : Go K g h g₁ σ₁ h₁) (r : Go K g₁ h₁ g₂ σ₂ h₂) : Go K g h g₂ σ₂ h₂ where
  st := r.st
  pre := q.pre.trans r.pre
  imm := fun b i => r.imm b (q.imm b i)
  new := fun b o => by
    rcases r.new b o with x | x
    · exact q.new b x
    · cases e : h.get? b with
      | none => exact .inr rfl
      | some ob =>
        by_cases hb : b ∈ g.ρ
        · exact .inl (.inl hb)
        · rw [q.keep b ob e hb] at x; cases x
  keep := fun b o e n => by
    refine r.keep b o (q.keep b o e n) fun hb => ?_
    rcases q.new b (.inl hb) with x | x
    · rcases x with x | x
      · exact n x
      · exact (q.st.imm b (q.imm b x)).2.1 hb
    · rw [e] at x; cases x

/-- a private object changed, or things added: nothing of ours is touched -/
theorem St.change (q : St K g σ h) (hk : ∀ b o, h.get? b = some o → g.own b ∨ (∃ o', K.hB.get? b = some o') → h'.get? b = some o) : St K g σ h' where
  base := fun b o e => hk b o (q.base b o e) (.inr ⟨o, e⟩)
  len := q.len
  lists := fun i b xs e1 e2 => by
    obtain ⟨vs, n, e, r⟩ := q.lists i b xs e1 e2
    exact ⟨vs, n, hk b _ e (.inl (.inl (List.mem_of_getElem? e1))), VRels.mono (fun _ _ e => e) (fun _ e => e) (fun b o i e => hk b o e (.inl (.inr i))) _ _ r⟩
  nodup := q.nodup
  small := q.small
  fresh := q.fresh
  imm := fun b i => by
    obtain ⟨a1, a2, o, e⟩ := q.imm b i
    exact ⟨a1, a2, o, hk b o e (.inl (.inr i))⟩
theorem Go.change (q : St K g σ h) (hk : ∀ b o, h.get? b = some o → h'.get? b = some o) : Go K g h g σ h' :=
  ⟨q.change fun b o e _ => hk b o e, List.prefix_refl _, fun _ i => i, fun _ o => .inl o, fun b o e _ => hk b o e⟩
/-- a list is made -/
theorem Go.list (q : St K g σ h) {b : Addr} {xs : List V} {vs : Array Value} {n : Nat} (e0 : h.get? b = none) (hk : ∀ b o, h.get? b = some o → h'.get? b = some o)
    (e : h'.get? b = some { cls := .type "list", data := .seq vs n }) (r : VRels K g h xs vs.toList) (hl : xs.length ≤ lim) : Go K g h ⟨g.ρ ++ [b], g.ι⟩ (σ ++ [xs]) h' := by
  have nb : b ∉ g.ρ := fun hb => by
    obtain ⟨i, hi, rfl⟩ := List.getElem_of_mem hb
    have hl : i < σ.length := q.len ▸ hi
    obtain ⟨vs, n, e', _⟩ := q.lists i _ σ[i] (List.getElem?_eq_getElem hi) (List.getElem?_eq_getElem hl)
    rw [e0] at e'; cases e'
  have mono : ∀ {xs : List V} {ws : List Value}, VRels K g h xs ws → VRels K ⟨g.ρ ++ [b], g.ι⟩ h' xs ws := fun {xs ws} r => VRels.mono (g := g) (g' := ⟨g.ρ ++ [b], g.ι⟩) (fun _ _ e => pre_get (List.prefix_append _ _) e) (fun _ i => i) (fun b o _ e => hk b o e) _ _ r
  refine ⟨⟨fun b o x => hk b o (q.base b o x), by simp [q.len], fun i a ys h1 h2 => ?_, ?_, fun ys hy => ?_, fun i a h1 h2 => ?_, fun a i => ?_⟩, List.prefix_append _ _, fun _ i => i, fun a x => ?_, fun a o x _ => hk a o x⟩
  · by_cases hi : i < σ.length
    · rw [List.getElem?_append_left (by rw [q.len]; exact hi)] at h1
      rw [List.getElem?_append_left hi] at h2
      obtain ⟨vs, n, e', r'⟩ := q.lists i a ys h1 h2
      exact ⟨vs, n, hk _ _ e', mono r'⟩
    · have hi' : i = σ.length := by
        have := (List.getElem?_eq_some_iff.mp h2).1
        simp at this; walk_at "o"
      subst hi'
      rw [List.getElem?_append_right (by rw [q.len]; exact Nat.le_refl _)] at h1
      rw [List.getElem?_append_right (Nat.le_refl _)] at h2
      simp [q.len] at h1 h2
      subst h1 h2
      exact ⟨vs, n, e, mono r⟩
  · refine List.nodup_append.mpr ⟨q.nodup, by simp, ?_⟩
    intro a ha c hc
    simp at hc; subst hc
    exact fun z => nb (z ▸ ha)
  · rcases List.mem_append.mp hy with z | z
    · exact q.small ys z
    · simp at z; subst z; exact hl
  · by_cases hi : i < g.ρ.length
    · rw [List.getElem?_append_left hi] at h1
      exact q.fresh i a h1 h2
    · rw [List.getElem?_append_right (Nat.le_of_not_lt hi)] at h1
      have : a = b := by
        have := List.mem_of_getElem? h1
        simpa using this
      subst this
      cases z : K.hB.get? a with
      | none => rfl
      | some o => rw [q.base a o z] at e0; cases e0
  · obtain ⟨a1, a2, o, a3⟩ := q.imm a i
    refine ⟨a1, fun hb => ?_, o, hk _ _ a3⟩
    rcases List.mem_append.mp hb with x | x
    · exact a2 x
    · simp at x; subst x; rw [e0] at a3; cases a3
  · rcases x with x | x
    · rcases List.mem_append.mp x with x | x
      · exact .inl (.inl x)
      · simp at x; subst x; exact .inr e0
    · exact .inl (.inr x)
/-- something that never changes is made -/
theorem Go.imms (q : St K g σ h) (N : Addr → Prop) (e0 : ∀ b, N b → h.get? b = none) (e1 : ∀ b, N b → ∃ o, h'.get? b = some o) (hk : ∀ b o, h.get? b = some o → h'.get? b = some o) :
    Go K g h ⟨g.ρ, fun b => g.ι b ∨ N b⟩ σ h' := by
  have mono : ∀ {xs : List V} {ws : List Value}, VRels K g h xs ws → VRels K ⟨g.ρ, fun b => g.ι b ∨ N b⟩ h' xs ws := fun {xs ws} r => VRels.mono (g := g) (g' := ⟨g.ρ, fun b => g.ι b ∨ N b⟩) (fun _ _ e => e) (fun _ i => .inl i) (fun b o _ e => hk b o e) _ _ r
  refine ⟨⟨fun b o x => hk b o (q.base b o x), q.len, fun i a ys h1 h2 => ?_, q.nodup, q.small, q.fresh, fun a i => ?_⟩, List.prefix_refl _, fun _ i => .inl i, fun a x => ?_, fun a o x _ => hk a o x⟩
  · obtain ⟨vs, n, e', r'⟩ := q.lists i a ys h1 h2
    exact ⟨vs, n, hk _ _ e', mono r'⟩
  · rcases i with i | i
    · obtain ⟨a1, a2, o, a3⟩ := q.imm a i
      exact ⟨a1, a2, o, hk _ _ a3⟩
    · have n0 := e0 a i
      refine ⟨?_, fun hb => ?_, e1 a i⟩
      · cases z : K.hB.get? a with
        | none => rfl
        | some o => rw [q.base a o z] at n0; cases n0
      · obtain ⟨j, hj, hja⟩ := List.getElem_of_mem (l := g.ρ) hb
        have hl : j < σ.length := q.len ▸ hj
        obtain ⟨vs, n, e', _⟩ := q.lists j _ σ[j] (List.getElem?_eq_getElem hj) (List.getElem?_eq_getElem hl)
        rw [hja, n0] at e'; cases e'
  · rcases x with x | x
    · exact .inl (.inl x)
    · rcases x with x | x
      · exact .inl (.inr x)
      · exact .inr (e0 a x)
/-- a list is changed -/
theorem Go.put (q : St K g σ h) {i : Nat} {b : Addr} {xs ys : List V} {vs : Array Value} {n : Nat} (hb : g.ρ[i]? = some b) (hx : σ[i]? = some xs) (h0 : i ≠ 0) (hk : ∀ c, c ≠ b → h'.get? c = h.get? c)
    (e : h'.get? b = some { cls := .type "list", data := .seq vs n }) (r : VRels K g h ys vs.toList) (hl : ys.length ≤ lim) : Go K g h g (σ.set i ys) h' := by
  have mem := List.mem_of_getElem? hb
  have mono : ∀ {xs : List V} {ws : List Value}, VRels K g h xs ws → VRels K g h' xs ws := fun {xs ws} r => VRels.mono (fun _ _ e => e) (fun _ i => i) (fun c o i e => by
    rw [hk c (fun z => (q.imm c i).2.1 (z ▸ mem))]; exact e) _ _ r
  refine ⟨⟨fun c o x => ?_, by simp [q.len], fun j a zs h1 h2 => ?_, q.nodup, fun zs hz => ?_, q.fresh, fun a i => ?_⟩, List.prefix_refl _, fun _ i => i, fun _ o => .inl o, fun c o x nc => ?_⟩
  · rw [hk c]
    · exact q.base c o x
    · rintro rfl
      rw [q.fresh i c hb h0] at x; cases x
  · by_cases hj : j = i
    · subst hj
      rw [hb] at h1; cases h1
      have hl := (List.getElem?_eq_some_iff.mp hx).1
      rw [List.getElem?_set_self hl] at h2
      cases h2
      exact ⟨vs, n, e, mono r⟩
    · rw [List.getElem?_set_ne (Ne.symm hj)] at h2
      obtain ⟨vs, n, e', r'⟩ := q.lists j a zs h1 h2
      refine ⟨vs, n, ?_, mono r'⟩
      rw [hk a]
      · exact e'
      · rintro rfl
        exact hj (nodup_inj q.nodup h1 hb)
  · rcases List.mem_or_eq_of_mem_set hz with z | z
    · exact q.small zs z
    · exact z ▸ hl
  · obtain ⟨a1, a2, o, a3⟩ := q.imm a i
    exact ⟨a1, a2, o, by rw [hk a (fun z => a2 (z ▸ mem))]; exact a3⟩
  · rw [hk c (fun z => nc (z ▸ mem))]; exact x
end
end Mini

set_option autoImplicit false
namespace Mini
open PySem

structure Cx where
  names : List (Str × NameKind)
  slots : List (Str × Nat)

structure Fr (K : Ctx) (env : Env) (cx : Cx) (m : M) (g : G) (h : Heap) : Prop where
  kind : env.scope.kind = .function
  names : env.scope.names = cx.names
  glob : env.globals = mainGlobals
  blt : env.builtins = builtinsNs
  loc : ∃ ns, h.Ns env.locals ns ∧ ∀ x k v, cx.slots.lookup x = some k → cx.names.lookup x = some .local → get m k = some v → ∃ w, ns x = some w ∧ VRel K g h v w
  cell : ∀ x k, cx.slots.lookup x = some k → cx.names.lookup x = some .cell → ∃ c o, env.cells.lookup x = some c ∧ h.IsCell c o ∧ ∀ v, get m k = some v → ∃ w, o = some w ∧ VRel K g h v w
  priv : ¬ g.own env.locals ∧ K.hB.get? env.locals = none
  privC : ∀ x c, env.cells.lookup x = some c → ¬ g.own c ∧ K.hB.get? c = none ∧ ∃ o, h.IsCell c o
  apart : ∀ x y c, env.cells.lookup x = some c → env.cells.lookup y = some c → x = y
  inj : ∀ x y k, cx.slots.lookup x = some k → cx.slots.lookup y = some k → x = y
  bnd : ∀ x k, cx.slots.lookup x = some k → k < cx.slots.length
  hi : ∀ j, cx.slots.length ≤ j → get m j = none

noncomputable def Sx (s s' : Shared) : Prop := s'.os = s.os ∧ s'.gens = s.gens
theorem Sx.refl (s : Shared) : Sx s s := ⟨rfl, rfl⟩
theorem Sx.trans {a b c : Shared} (p : Sx a b) (q : Sx b c) : Sx a c := ⟨q.1.trans p.1, q.2.trans p.2⟩

structure Room (A : Around) (n : Nat) : Prop where
  handled : A.handled = none
  depth : A.depth + 3 * n + 10 < recursionLimit
  units : A.units + 10 * n + 300 < cLine

noncomputable def noX : X := fun _ _ => False

set_option genInjectivity false
set_option genSizeOfSpec false
inductive EndE (K : Ctx) (g : G) (s : Shared) (Q : P) (v : Value) (s' : Shared) : Prop
  | mk (r : V) (g' : G) (σ' : H) (go : Go K g s.heap g' σ' s'.heap) (sx : Sx s s') (rel : VRel K g' s'.heap r v) (q : Q r σ')
inductive EndB (K : Ctx) (g : G) (s : Shared) (Q : Bool → H → Prop) (b : Bool) (s' : Shared) : Prop
  | mk (g' : G) (σ' : H) (go : Go K g s.heap g' σ' s'.heap) (sx : Sx s s') (q : Q b σ')
inductive EndL (K : Ctx) (g : G) (s : Shared) (Q : List V → H → Prop) (vs : List Value) (s' : Shared) : Prop
  | mk (rs : List V) (g' : G) (σ' : H) (go : Go K g s.heap g' σ' s'.heap) (sx : Sx s s') (rel : VRels K g' s'.heap rs vs) (q : Q rs σ')
abbrev noE : Value → Shared → Prop := fun _ _ => False

section
variable {K : Ctx} {g g₁ : G} {σ σ₁ : H} {s s₁ s' : Shared} {cx : Cx} {env : Env} {m : M} {A : Around} {n : Nat}

theorem EndE.trans {Q : P} {v : Value} (p : Go K g s.heap g₁ σ₁ s₁.heap) (x : Sx s s₁) (q : EndE K g₁ s₁ Q v s') : EndE K g s Q v s' := by
  obtain ⟨r, g', σ', a, b, c, d⟩ := q
  exact ⟨r, g', σ', p.trans a, x.trans b, c, d⟩
theorem EndB.trans {Q : Bool → H → Prop} {v : Bool} (p : Go K g s.heap g₁ σ₁ s₁.heap) (x : Sx s s₁) (q : EndB K g₁ s₁ Q v s') : EndB K g s Q v s' := by
  obtain ⟨g', σ', a, b, d⟩ := q
  exact ⟨g', σ', p.trans a, x.trans b, d⟩
theorem Fr.go {h h' : Heap} {g' : G} {σ' : H} (F : Fr K env cx m g h) (S : St K g σ h) (q : Go K g h g' σ' h') : Fr K env cx m g' h' where
  kind := F.kind
  names := F.names
  glob := F.glob
  blt := F.blt
  loc := by
    obtain ⟨ns, hn, hv⟩ := F.loc
    refine ⟨ns, hn.at' fun o e => q.keep _ o e fun z => F.priv.1 (.inl z), fun x k v h1 h2 h3 => ?_⟩
    obtain ⟨w, e, r⟩ := hv x k v h1 h2 h3
    exact ⟨w, e, q.rel S r⟩
  cell := fun x k h1 h2 => by
    obtain ⟨c, o, e, hc, hv⟩ := F.cell x k h1 h2
    refine ⟨c, o, e, ?_, fun v h3 => ?_⟩
    · obtain ⟨ob, ho, hd⟩ := hc
      exact ⟨ob, q.keep _ _ ho fun z => (F.privC x c e).1 (.inl z), hd⟩
    · obtain ⟨w, e, r⟩ := hv v h3
      exact ⟨w, e, q.rel S r⟩
  priv := ⟨by
    obtain ⟨ns, ⟨o, es, ep, ho, _⟩, _⟩ := F.loc
    exact q.priv ho F.priv.1, F.priv.2⟩
  privC := fun x c e => by
    obtain ⟨h1, h2, o, ob, ho, hd⟩ := F.privC x c e
    exact ⟨q.priv ho h1, h2, o, ob, q.keep _ _ ho fun z => h1 (.inl z), hd⟩
  apart := F.apart
  inj := F.inj
  bnd := F.bnd
  hi := F.hi
end
end Mini

set_option autoImplicit false
namespace Mini
open PySem

theorem words_nodup : words.Nodup := by decide +kernel
theorem words_ok : words.all PyData.strOk = true := by decide +kernel
theorem words_inj {k l : Nat} {x y : Str} (h : words[k]? = some x) (h' : words[l]? = some y) : x = y ↔ k = l := by
  constructor
  · rintro rfl
    obtain ⟨li, ei⟩ := List.getElem?_eq_some_iff.mp h
    obtain ⟨lj, ej⟩ := List.getElem?_eq_some_iff.mp h'
    have q := List.pairwise_iff_getElem.mp words_nodup
    rcases Nat.lt_trichotomy k l with z | z | z
    · exact absurd (ei.trans ej.symm) (q k l li lj z)
    · exact z
    · exact absurd (ej.trans ei.symm) (q l k lj li z)
  · rintro rfl
    exact Option.some.inj (h.symm.trans h')

mutual
inductive DR : PyData → D → Prop where
  | none : DR .none .none
  | bool {b : Bool} : DR (.bool b) (.int (if b then 1 else 0))
  | int {i : Int} : DR (.int i) (.int i)
  | str {x : Str} {k : Nat} (h : words[k]? = some x) : DR (.str x) (.str k)
  | list {xs : List PyData} {ds : List D} (h : DRs xs ds) : DR (.list xs) (.list ds)
  | tup {xs : List PyData} {ds : List D} (h : DRs xs ds) : DR (.tuple xs) (.tup ds)
inductive DRs : List PyData → List D → Prop where
  | nil : DRs [] []
  | cons {x : PyData} {d : D} {xs : List PyData} {ds : List D} (h : DR x d) (t : DRs xs ds) : DRs (x :: xs) (d :: ds)
end

theorem b2i {a b : Bool} : (a = b) ↔ ((if a then 1 else 0 : Int) = if b then 1 else 0) := by cases a <;> cases b <;> decide
mutual
theorem DR.eqv : ∀ (p q : PyData) (d e : D), DR p d → DR q e → (PyData.eqv p q = true ↔ d = e)
  | .none, q, d, e, h1, h2 => by cases h1; cases h2 <;> simp [PyData.eqv]
  | .bool a, q, d, e, h1, h2 => by cases h1; cases h2 <;> simp [PyData.eqv] <;> (try exact b2i) <;> (try (cases a <;> simp <;> walk_at "o"))
  | .int a, q, d, e, h1, h2 => by cases h1; cases h2 <;> simp [PyData.eqv]
  | .str x, q, d, e, h1, h2 => by
    cases h1 with
    | str h => cases h2 with
      | str h' => simp only [PyData.eqv, beq_iff_eq, D.str.injEq]; exact words_inj h h'
      | _ => simp [PyData.eqv]
  | .list xs, q, d, e, h1, h2 => by
    cases h1 with
    | list h => cases h2 with
      | list h' => simp only [PyData.eqv, D.list.injEq]; exact DRs.eqv _ _ _ _ h h'
      | _ => simp [PyData.eqv]
  | .tuple xs, q, d, e, h1, h2 => by
    cases h1 with
    | tup h => cases h2 with
      | tup h' => simp only [PyData.eqv, D.tup.injEq]; exact DRs.eqv _ _ _ _ h h'
      | _ => simp [PyData.eqv]
  | .dict _, _, d, _, h1, _ => by cases h1
theorem DRs.eqv : ∀ (p q : List PyData) (d e : List D), DRs p d → DRs q e → (PyData.eqvAll p q = true ↔ d = e)
  | [], q, d, e, h1, h2 => by cases h1; cases h2 <;> simp [PyData.eqvAll]
  | x :: xs, q, d, e, h1, h2 => by
    cases h1 with
    | cons a b => cases h2 with
      | nil => simp [PyData.eqvAll]
      | cons a' b' => simp only [PyData.eqvAll, Bool.and_eq_true, DR.eqv _ _ _ _ a a', DRs.eqv _ _ _ _ b b', List.cons.injEq]
end
theorem DRs.any {q : PyData} {e : D} (h : DR q e) : ∀ {xs : List PyData} {ds : List D}, DRs xs ds → ((xs.any fun y => PyData.eqv y q) = true ↔ e ∈ ds)
  | [], ds, p => by cases p; simp
  | x :: xs, ds, p => by
    cases p with
    | cons a b =>
      simp only [List.any_cons, Bool.or_eq_true, List.mem_cons, DR.eqv _ _ _ _ a h, DRs.any h b]
      constructor <;> rintro (z | z) <;> simp [z]

section
variable {K : Ctx} {g : G} {σ : H} {h : Heap}

theorem mapO_cons {α β : Type} {f : α → Option β} {v : α} {vs : List α} {ds : List β} (e : mapO f (v :: vs) = some ds) : ∃ d ds', f v = some d ∧ mapO f vs = some ds' ∧ ds = d :: ds' := by
  unfold mapO at e
  cases h1 : f v with
  | none => simp [h1] at e
  | some d =>
    cases h2 : mapO f vs with
    | none => simp [h1, h2] at e
    | some ds' => simp [h1, h2] at e; exact ⟨d, ds', rfl, rfl, e.symm⟩

set_option genInjectivity false
set_option genSizeOfSpec false
inductive RdAt (h : Heap) (w : Value) (d : D) (n : Nat) : Prop
  | mk (p : PyData) (as : List Addr) (r : Reads h w p as) (e : DR p d) (c : p.canLay0 = true) (z : p.depth ≤ n)
inductive RdsAt (h : Heap) (ws : List Value) (ds : List D) (n : Nat) : Prop
  | mk (ps : List PyData) (as : List Addr) (r : ReadsAll h ws ps as) (e : DRs ps ds) (c : PyData.canLayAll0 ps = true) (z : PyData.depthAll ps ≤ n)
theorem reads_all {n : Nat} (ih : ∀ v d w, snap n σ v = some d → VRel K g h v w → RdAt h w d n) :
    ∀ (vs : List V) (ds : List D) (ws : List Value), mapO (snap n σ) vs = some ds → VRels K g h vs ws → RdsAt h ws ds n
  | [], ds, [], e, _ => by cases e; exact ⟨[], [], .nil, .nil, by simp [PyData.canLayAll0], by simp [PyData.depthAll]⟩
  | v :: vs, ds, w :: ws, e, r => by
    obtain ⟨d, ds', e1, e2, rfl⟩ := mapO_cons e
    obtain ⟨p, as, a1, a2, a3, a4⟩ := ih v d w e1 r.1
    obtain ⟨ps, bs, b1, b2, b3, b4⟩ := reads_all ih vs ds' ws e2 r.2
    exact ⟨p :: ps, as ++ bs, .cons a1 b1, .cons a2 b2, by simp [PyData.canLayAll0, a3, b3], by simp only [PyData.depthAll]; walk_at "o"⟩
  | [], _, _ :: _, _, r => r.elim
  | _ :: _, _, [], _, r => r.elim

theorem reads_of (S : St K g σ h) : ∀ (n : Nat) (v : V) (d : D) (w : Value), snap n σ v = some d → VRel K g h v w → RdAt h w d n := by
  intro n
  induction n with
  | zero =>
    intro v d w e r
    cases v with
    | none => cases e; cases r; exact ⟨_, _, .none, .none, rfl, by simp [PyData.depth]⟩
    | bool b => cases e; cases r; exact ⟨_, _, .bool b, .bool, rfl, by simp [PyData.depth]⟩
    | int i => cases e; obtain ⟨t, rfl⟩ := r; exact ⟨_, _, .int i t, .int, rfl, by simp [PyData.depth]⟩
    | str k =>
      cases e; obtain ⟨s, t, hk, rfl⟩ := r
      exact ⟨_, _, .str s t, .str hk, by simp only [PyData.canLay0]; exact List.all_eq_true.mp words_ok s (List.mem_of_getElem? hk), by simp [PyData.depth]⟩
    | ref a => cases e
    | tup xs => cases e
    | inst xs => cases e
  | succ n ih =>
    intro v d w e r
    cases v with
    | none => cases e; cases r; exact ⟨_, _, .none, .none, rfl, by simp [PyData.depth]⟩
    | bool b => cases e; cases r; exact ⟨_, _, .bool b, .bool, rfl, by simp [PyData.depth]⟩
    | int i => cases e; obtain ⟨t, rfl⟩ := r; exact ⟨_, _, .int i t, .int, rfl, by simp [PyData.depth]⟩
    | str k =>
      cases e; obtain ⟨s, t, hk, rfl⟩ := r
      exact ⟨_, _, .str s t, .str hk, by simp only [PyData.canLay0]; exact List.all_eq_true.mp words_ok s (List.mem_of_getElem? hk), by simp [PyData.depth]⟩
    | ref a =>
      obtain ⟨b, hb, rfl⟩ := r
      have e : (match σ[a]? with
        | some xs => (mapO (snap n σ) xs).map D.list
        | none => none) = some d := e
      cases hx : σ[a]? with
      | none => rw [hx] at e; cases e
      | some xs =>
        rw [hx] at e
        obtain ⟨ds, e1, rfl⟩ := Option.map_eq_some_iff.mp e
        obtain ⟨vs, k, ho, hr⟩ := S.lists a b xs hb hx
        obtain ⟨ps, as, a1, a2, a3, a4⟩ := reads_all ih xs ds _ e1 hr
        exact ⟨.list ps, _, .list ho rfl rfl a1, .list a2, by simpa only [PyData.canLay0] using a3, by simp only [PyData.depth]; walk_at "o"⟩
    | tup xs =>
      obtain ⟨b, vs, k, rfl, hi, ho, hr⟩ := r
      obtain ⟨ds, e1, rfl⟩ := Option.map_eq_some_iff.mp (show (mapO (snap n σ) xs).map D.tup = some d from e)
      obtain ⟨ps, as, a1, a2, a3, a4⟩ := reads_all ih xs ds _ e1 hr
      exact ⟨.tuple ps, _, .tuple ho rfl rfl a1, .tup a2, by simpa only [PyData.canLay0] using a3, by simp only [PyData.depth]; walk_at "o"⟩
    | inst xs => cases e
end
end Mini

set_option autoImplicit false
namespace Mini
open PySem PySem.SeqAt

section
variable {K : Ctx} {g : G} {σ : H} {s : Shared} {A : Around} {n : Nat} {Q : P}

theorem lim_eq : lim = sizeLine := rfl
theorem sizeLine_is : sizeLine = 16777216 := rfl

set_option genInjectivity false
set_option genSizeOfSpec false
inductive LAt (K : Ctx) (g : G) (h : Heap) (a : Nat) (xs : List V) (w : Value) : Prop
  | mk (b : Addr) (vs : Array Value) (k : Nat) (e : w = .ref b) (hb : g.ρ[a]? = some b) (l : IsL h b vs k) (r : VRels K g h xs vs.toList) (z : vs.size = xs.length) (zl : vs.size ≤ sizeLine)
theorem St.list (S : St K g σ s.heap) {a : Nat} {w : Value} {xs : List V} (r : VRel K g s.heap (.ref a) w) (hx : σ[a]? = some xs) : LAt K g s.heap a xs w := by
  obtain ⟨b, hb, rfl⟩ := r
  obtain ⟨vs, k, ho, hr⟩ := S.lists a b xs hb hx
  have e : vs.size = xs.length := by (rw [hr.length]; rw [Array.length_toList])
  exact ⟨b, vs, k, rfl, hb, ho, hr, e, by rw [e]; exact S.small xs (List.mem_of_getElem? hx)⟩

theorem end_same (S : St K g σ s.heap) {r : V} {v : Value} {tk : Nat} (e : VRel K g s.heap r v) (q : Q r σ) : EndE K g s Q v { s with toks := tk } := ⟨r, g, σ, Go.refl S, ⟨rfl, rfl⟩, e, q⟩
/-- a new list at the end of the heap, or later -/
theorem end_list (S : St K g σ s.heap) {h' : Heap} {tk : Nat} {b : Addr} {xs : List V} {vs : Array Value} {k : Nat} (hb : s.heap.get? b = none) (hk : ∀ b o, s.heap.get? b = some o → h'.get? b = some o)
    (e : h'.get? b = some { cls := .type "list", data := .seq vs k }) (r : VRels K g s.heap xs vs.toList) (q : alloc xs σ Q) : EndE K g s Q (.ref b) { s with heap := h', toks := tk } := by
  refine ⟨.ref σ.length, _, _, Go.list S hb hk e r q.1, ⟨rfl, rfl⟩, ⟨b, ?_, rfl⟩, q.2⟩
  show (g.ρ ++ [b])[σ.length]? = some b
  rw [← S.len]; simp
theorem none_at_size (h : Heap) : h.get? h.objs.size = none := by
  cases e : h.get? h.objs.size with
  | none => rfl
  | some o => exact absurd (Heap.lt_size e) (Nat.lt_irrefl _)
theorem none_above {h : Heap} {a : Addr} (ha : h.objs.size ≤ a) : h.get? a = none := by
  cases e : h.get? a with
  | none => rfl
  | some o => exact absurd (Heap.lt_size e) (Nat.not_lt.mpr ha)
theorem end_listP (S : St K g σ s.heap) {xs : List V} {vs : Array Value} (r : VRels K g s.heap xs vs.toList) (q : alloc xs σ Q) :
    EndE K g s Q (.ref s.heap.objs.size) { s with heap := s.heap.push { cls := .type "list", data := .seq vs } } :=
  end_list S (none_at_size _) (fun _ _ e => Heap.get?_push_of_some _ e) (Heap.get?_push_size _ rfl) r q
theorem end_tup (S : St K g σ s.heap) {xs : List V} {vs : List Value} (r : VRels K g s.heap xs vs) (q : Q (.tup xs) σ) :
    EndE K g s Q (.ref s.heap.objs.size) { s with heap := s.heap.push { cls := .type "tuple", data := .seq vs.toArray } } := by
  have go : Go K g s.heap _ σ (s.heap.push { cls := .type "tuple", data := .seq vs.toArray }) := Go.imms S (fun b => b = s.heap.objs.size) (fun b e => e ▸ none_at_size _) (fun b e => e ▸ ⟨_, Heap.get?_push_size _ rfl⟩) (fun _ _ e => Heap.get?_push_of_some _ e)
  exact ⟨.tup xs, _, σ, go, ⟨rfl, rfl⟩, ⟨_, vs.toArray, 0, rfl, .inr rfl, Heap.get?_push_size _ rfl, go.rels S r⟩, q⟩

noncomputable def opOf : Operator → Option Bin
  | .Add => some .add
  | .Sub => some .sub
  | .Mult => some .mul
  | .FloorDiv => some .fdiv
  | .Mod => some .mod
  | _ => none

theorem flat_rep (vs : Array Value) : ∀ (k : Nat) (acc : Array Value), (List.foldl (fun x1 x2 => x1 ++ x2) acc (List.replicate k vs)).toList = acc.toList ++ (List.replicate k vs.toList).flatten
  | 0, acc => by simp
  | k + 1, acc => by simp [List.replicate_succ, flat_rep vs k, List.append_assoc]
theorem VRels.rep {h : Heap} {xs : List V} {vs : List Value} (r : VRels K g h xs vs) : ∀ k : Nat, VRels K g h (List.replicate k xs).flatten (List.replicate k vs).flatten
  | 0 => trivial
  | k + 1 => by simpa [List.replicate_succ] using r.append (VRels.rep r k)

theorem vint (K : Ctx) (g : G) (h : Heap) (i : Int) (t : Tok) : VRel K g h (.int i) (.int i t) := ⟨t, rfl⟩
theorem vbool (K : Ctx) (g : G) (h : Heap) (b : Bool) : VRel K g h (.bool b) (.bool b) := rfl

theorem mul_sound (S : St K g σ s.heap) {a : Nat} {v : Value} {k : Int} {u : Tok} {xs : List V} (ra : VRel K g s.heap (.ref a) v) (hx : σ[a]? = some xs) (h1 : k < 2 ^ 24) (h2 : -(2 ^ 24) < k)
    (q : alloc (List.replicate k.toNat xs).flatten σ Q) : wpAny (model K.prog K.w) A (binaryOp .Mult v (.int k u)) (EndE K g s Q) noE s := by
  obtain ⟨b₁, vs, n₁, rfl, _, hl, r1, e1, z1⟩ := S.list ra hx
  have hlen : vs.size * k.toNat ≤ 2 ^ 24 := by
    have := q.1
    rw [List.length_flatten, List.map_replicate, List.sum_replicate_nat, ← e1] at this
    rw [Nat.mul_comm]; exact this
  refine wpAny_binaryOp_repeat_ref (T := "list") (U := "int") (by decide) ⟨_, hl, rfl⟩ (fun s' => typeIs_int s' k u) noFill_list_mul F.fills_int_mul F.slot_int_rmul repeat_list F.slot_int_index.lookup
    (call_meets F.slot_int_rmul (typeIs_int s k u) F.entry_int_rmul (F.args_int_rmul_2 _ _) (int___rmul___int_list k u b₁ vs n₁)
      ⟨hl, rfl, ⟨_, hl, rfl⟩, call_meets F.slot_list_mul ⟨_, hl, rfl⟩ F.entry_list_mul (F.args_list_mul_2 _ _)
        (AutoListH.list___mul___list_int_3 b₁ vs n₁ k u (by simp [Builtin.List.listFitsIndex]; walk_at "o") (by walk_at "o") (by simp [Builtin.List.listTooLong, sizeLine]; walk_at "o"))
        ⟨hl, end_listP S ?_ q⟩⟩)
  by_cases he : vs.isEmpty = true
  · have e0 : vs = #[] := by simpa using he
    subst e0
    have ex : xs = [] := by simpa using e1.symm
    subst ex
    have : (List.replicate k.toNat ([] : List V)).flatten = [] := by simp
    rw [this]
    trivial
  · (rw [if_neg he]; rw [flat_rep])
    exact r1.rep _

theorem onI_ok {f : Int → Int → Prop} {a b : V} {v w : Value} {h : Heap} {G : Value → Value → Prop} (ra : VRel K g h a v) (rb : VRel K g h b w) (W : onI a b f) (H : ∀ i t j u, f i j → G (.int i t) (.int j u)) : G v w := by
  cases a <;> try exact False.elim W
  cases b <;> try exact False.elim W
  obtain ⟨t, rfl⟩ := ra; obtain ⟨u, rfl⟩ := rb
  exact H _ t _ u W
theorem binI_sound (S : St K g σ s.heap) {op : Operator} {o : Bin} (ho : opOf op = some o) {i j : Int} {t u : Tok} (W : binI o i j σ Q) : wpAny (model K.prog K.w) A (binaryOp op (.int i t) (.int j u)) (EndE K g s Q) noE s := by
  cases op <;> cases ho
  · exact PyProof.Rows.add_int (end_same S (vint ..) W)
  · exact PyProof.Rows.sub_int (end_same S (vint ..) W)
  · refine PyProof.Rows.mul_int (end_same S (vint ..) W.2) ?_
    have := intBits_le_64 (k := j) (by have := W.1.1; walk_at "o") (by have := W.1.2; walk_at "o")
    unfold IntMulOk
    have h2 : ¬ (Builtin.Int.intBits j > shortFactorBits) := by
      show ¬ (Builtin.Int.intBits j > 64)
      exact Nat.not_lt.mpr this
    simp [h2]
  · refine PyProof.Rows.mod_int' (by have := W.1; walk_at "o") (end_same S (vint ..) ?_)
    rw [Int.fmod_eq_emod_of_nonneg _ (by have := W.1; walk_at "o")]; exact W.2
  · refine PyProof.Rows.floordiv_int (by have := W.1; walk_at "o") (end_same S (vint ..) ?_) (.inl (PyProof.noPylong_small (by have := W.1; walk_at "o")))
    rw [Int.fdiv_eq_ediv_of_nonneg _ (by have := W.1; walk_at "o")]; exact W.2
theorem op_add {op : Operator} (h : opOf op = some .add) : op = .Add := by cases op <;> first | rfl | cases h
theorem op_mul {op : Operator} (h : opOf op = some .mul) : op = .Mult := by cases op <;> first | rfl | cases h
theorem binop_sound (S : St K g σ s.heap) {op : Operator} {o : Bin} (ho : opOf op = some o) {a b : V} {v w : Value} (ra : VRel K g s.heap a v) (rb : VRel K g s.heap b w)
    (W : binop o a b σ Q) : wpAny (model K.prog K.w) A (binaryOp op v w) (EndE K g s Q) noE s := by
  cases a <;> try exact False.elim W
  · cases b <;> try exact False.elim W
    obtain ⟨t, rfl⟩ := ra; obtain ⟨u, rfl⟩ := rb
    exact binI_sound S ho W
  · cases b <;> try exact False.elim W
    · obtain ⟨rfl, xs, hx, h1, h2, q⟩ := W
      obtain ⟨u, rfl⟩ := rb
      rw [op_mul ho]
      exact mul_sound S ra hx h1 h2 q
    · obtain ⟨rfl, xs, ys, hx, hy, q⟩ := W
      obtain ⟨b₁, vs, k, rfl, _, h1, r1, e1, z1⟩ := S.list ra hx
      obtain ⟨b₂, ws, k₂, rfl, _, h2, r2, e2, z2⟩ := S.list rb hy
      rw [op_add ho]
      refine P.add_list h1 h2 (end_listP S (by rw [Array.toList_append]; exact r1.append r2) q) ?_
      have := q.1
      rw [List.length_append] at this
      (rw [e1]; rw [e2]); exact this

noncomputable def cmpOf : CmpOp → Option Cmp
  | .Eq => some .eq
  | .NotEq => some .ne
  | .Lt => some .lt
  | .LtE => some .le
  | .Gt => some .gt
  | .GtE => some .ge
  | .Is => some .is
  | .IsNot => none
  | .In => some .inn
  | .NotIn => some .notIn

theorem cmp_none (a : V) {v : Value} (ra : VRel K g s.heap a v) : plainIs v .none = true ∧ ((v == .none) = true ↔ a = .none) := by
  cases a with
  | none => cases ra; exact ⟨rfl, by simp⟩
  | bool b => cases ra; exact ⟨rfl, by simp⟩
  | int i => obtain ⟨t, rfl⟩ := ra; exact ⟨rfl, by simp⟩
  | str k => obtain ⟨x, t, _, rfl⟩ := ra; exact ⟨rfl, by simp⟩
  | ref a => obtain ⟨b, _, rfl⟩ := ra; exact ⟨rfl, by simp⟩
  | tup xs => obtain ⟨b, _, _, rfl, _⟩ := ra; exact ⟨rfl, by simp⟩
  | inst xs => obtain ⟨b, _, _, _, rfl, _⟩ := ra; exact ⟨rfl, by simp⟩

theorem cmpop_sound (R : Room A n) (S : St K g σ s.heap) {op : CmpOp} {o : Cmp} (ho : cmpOf op = some o) {a b : V} {v w : Value} (ra : VRel K g s.heap a v) (rb : VRel K g s.heap b w)
    (W : cmpop o a b σ Q) : wpAny (model K.prog K.w) A (compareOp op v w) (EndE K g s Q) noE s := by
  have hu := R.units
  cases op <;> cases ho
  · obtain ⟨d, e, h1, h2, q⟩ := W
    obtain ⟨p, as, r1, d1, c1, z1⟩ := reads_of S _ _ _ _ h1 ra
    obtain ⟨p', bs, r2, d2, c2, z2⟩ := reads_of S _ _ _ _ h2 rb
    exact compareEq_reads r1 r2 c1 c2 (by walk_at "o") (end_same S (vbool ..) (q _ (DR.eqv _ _ _ _ d1 d2)))
  · obtain ⟨d, e, h1, h2, q⟩ := W
    obtain ⟨p, as, r1, d1, c1, z1⟩ := reads_of S _ _ _ _ h1 ra
    obtain ⟨p', bs, r2, d2, c2, z2⟩ := reads_of S _ _ _ _ h2 rb
    refine compareNe_reads r1 r2 c1 c2 (by walk_at "o") (end_same S (vbool ..) (q _ ?_))
    rw [← DR.eqv _ _ _ _ d1 d2]; simp
  · exact onI_ok (G := fun v w => wpAny (model K.prog K.w) A (compareOp .Lt v w) (EndE K g s Q) noE s) ra rb W fun i t j u h => PyProof.Rows.lt_int (end_same S (vbool ..) h)
  · exact onI_ok (G := fun v w => wpAny (model K.prog K.w) A (compareOp .LtE v w) (EndE K g s Q) noE s) ra rb W fun i t j u h => PyProof.Rows.le_int (end_same S (vbool ..) h)
  · exact onI_ok (G := fun v w => wpAny (model K.prog K.w) A (compareOp .Gt v w) (EndE K g s Q) noE s) ra rb W fun i t j u h => PyProof.Rows.gt_int (end_same S (vbool ..) h)
  · exact onI_ok (G := fun v w => wpAny (model K.prog K.w) A (compareOp .GtE v w) (EndE K g s Q) noE s) ra rb W fun i t j u h => PyProof.Rows.ge_int (end_same S (vbool ..) h)
  · cases b <;> try exact False.elim W
    cases rb
    obtain ⟨p1, p2⟩ := cmp_none a ra
    exact wpAny_is_plain p1 (end_same S (vbool ..) (W _ p2))
  · cases b <;> try exact False.elim W
    · obtain ⟨d, xs, ds, h1, hx, h2, q⟩ := W
      obtain ⟨p, as, r1, d1, c1, z1⟩ := reads_of S _ _ _ _ h1 ra
      obtain ⟨b₁, vs, k, rfl, _, hl, r2, e1, _⟩ := S.list rb hx
      obtain ⟨ps, bs, p1, p2, p3, p4⟩ := reads_all (fun v d w => reads_of S _ v d w) _ _ _ h2 r2
      exact in_list_reads (.list hl rfl rfl p1) r1 p3 c1 (by walk_at "o") (end_same S (vbool ..) (q _ (DRs.any d1 p2)))
    · obtain ⟨d, ds, h1, h2, q⟩ := W
      obtain ⟨p, as, r1, d1, c1, z1⟩ := reads_of S _ _ _ _ h1 ra
      obtain ⟨b₁, vs, k, rfl, _, hl, r2⟩ := rb
      obtain ⟨ps, bs, p1, p2, p3, p4⟩ := reads_all (fun v d w => reads_of S _ v d w) _ _ _ h2 r2
      exact in_tuple_reads (.tuple hl rfl rfl p1) r1 p3 c1 (by walk_at "o") (end_same S (vbool ..) (q _ (DRs.any d1 p2)))
  · cases b <;> try exact False.elim W
    · obtain ⟨d, xs, ds, h1, hx, h2, q⟩ := W
      obtain ⟨p, as, r1, d1, c1, z1⟩ := reads_of S _ _ _ _ h1 ra
      obtain ⟨b₁, vs, k, rfl, _, hl, r2, e1, _⟩ := S.list rb hx
      obtain ⟨ps, bs, p1, p2, p3, p4⟩ := reads_all (fun v d w => reads_of S _ v d w) _ _ _ h2 r2
      exact notIn_list_reads (.list hl rfl rfl p1) r1 p3 c1 (by walk_at "o") (end_same S (vbool ..) (q _ (by rw [← DRs.any d1 p2]; simp)))
    · obtain ⟨d, ds, h1, h2, q⟩ := W
      obtain ⟨p, as, r1, d1, c1, z1⟩ := reads_of S _ _ _ _ h1 ra
      obtain ⟨b₁, vs, k, rfl, _, hl, r2⟩ := rb
      obtain ⟨ps, bs, p1, p2, p3, p4⟩ := reads_all (fun v d w => reads_of S _ v d w) _ _ _ h2 r2
      exact notIn_tuple_reads (.tuple hl rfl rfl p1) r1 p3 c1 (by walk_at "o") (end_same S (vbool ..) (q _ (by rw [← DRs.any d1 p2]; simp)))

theorem truthy_sound (S : St K g σ s.heap) {a : V} {v : Value} {k : Bool → H → Prop} (ra : VRel K g s.heap a v) (W : truthy k a σ) : wpAny (model K.prog K.w) A (PySem.truthy v) (EndB K g s k) noE s := by
  cases a <;> try exact False.elim W
  cases ra
  exact wpAny_truthy_bool ⟨g, σ, Go.refl S, Sx.refl s, W⟩
end
end Mini

set_option autoImplicit false
set_option linter.unusedVariables false
namespace Mini
open PySem

structure GoX (K : Ctx) (X : Addr → Prop) (g : G) (h : Heap) (g' : G) (σ' : H) (h' : Heap) : Prop where
  st : St K g' σ' h'
  pre : g.ρ <+: g'.ρ
  imm : ∀ b, g.ι b → g'.ι b
  new : ∀ b, g'.own b → g.own b ∨ h.get? b = none
  keep : ∀ b o, h.get? b = some o → b ∉ g.ρ → ¬ X b → h'.get? b = some o
  there : ∀ b o, h.get? b = some o → ∃ o', h'.get? b = some o'

section
variable {K : Ctx} {X Y : Addr → Prop} {g g' g₁ g₂ : G} {σ σ' σ₁ σ₂ : H} {h h' h₁ h₂ : Heap}

theorem St.there (s : St K g' σ' h') (hp : g.ρ <+: g'.ρ) {b : Addr} (hb : b ∈ g.ρ) : ∃ o', h'.get? b = some o' := by
  have hb' : b ∈ g'.ρ := hp.subset hb
  obtain ⟨j, hj, hja⟩ := List.getElem_of_mem hb'
  have hl : j < σ'.length := s.len ▸ hj
  obtain ⟨vs, n, e', _⟩ := s.lists j _ σ'[j] (List.getElem?_eq_getElem hj) (List.getElem?_eq_getElem hl)
  exact ⟨_, hja ▸ e'⟩
theorem Go.toX (q : Go K g h g' σ' h') : GoX K X g h g' σ' h' := ⟨q.st, q.pre, q.imm, q.new, fun b o e n _ => q.keep b o e n, fun b o e => by
  by_cases hb : b ∈ g.ρ
  · exact q.st.there q.pre hb
  · exact ⟨o, q.keep b o e hb⟩⟩
theorem GoX.toGo (q : GoX K X g h g' σ' h') (hx : ∀ b, X b → h.get? b = none) : Go K g h g' σ' h' := ⟨q.st, q.pre, q.imm, q.new, fun b o e n => q.keep b o e n fun z => by rw [hx b z] at e; cases e⟩
theorem GoX.shrink (q : GoX K X g h g' σ' h') (hx : ∀ b, X b → Y b ∨ h.get? b = none) : GoX K Y g h g' σ' h' := by
  refine ⟨q.st, q.pre, q.imm, q.new, fun b o e n ny => q.keep b o e n fun z => ?_, q.there⟩
  rcases hx b z with y | y
  · exact ny y
  · rw [y] at e; cases e
theorem GoX.rel (q : GoX K X g h g' σ' h') (s : St K g σ h) (hx : ∀ b, X b → ¬ g.own b) {v : V} {w : Value} (r : VRel K g h v w) : VRel K g' h' v w :=
  VRel.mono (fun _ _ e => pre_get q.pre e) q.imm (fun b o i e => q.keep b o e (s.imm b i).2.1 fun z => hx b z (.inr i)) v w r
theorem GoX.rels (q : GoX K X g h g' σ' h') (s : St K g σ h) (hx : ∀ b, X b → ¬ g.own b) {v : List V} {w : List Value} (r : VRels K g h v w) : VRels K g' h' v w :=
  VRels.mono (fun _ _ e => pre_get q.pre e) q.imm (fun b o i e => q.keep b o e (s.imm b i).2.1 fun z => hx b z (.inr i)) v w r
theorem GoX.priv (q : GoX K X g h g' σ' h') {b : Addr} {o : Obj} (e : h.get? b = some o) (n : ¬ g.own b) : ¬ g'.own b := fun x => by
  rcases q.new b x with y | y
  · exact n y
  · rw [e] at y; cases y
theorem GoX.trans (q : GoX K X g h g₁ σ₁ h₁) (r : GoX K X g₁ h₁ g₂ σ₂ h₂) : GoX K X g h g₂ σ₂ h₂ where
  st := r.st
  pre := q.pre.trans r.pre
  imm := fun b i => r.imm b (q.imm b i)
  new := fun b o => by
    rcases r.new b o with x | x
    · exact q.new b x
    · cases e : h.get? b with
      | none => exact .inr rfl
      | some ob => obtain ⟨o', e'⟩ := q.there b ob e; rw [e'] at x; cases x
  keep := fun b o e n nx => by
    refine r.keep b o (q.keep b o e n nx) (fun hb => ?_) nx
    rcases q.new b (.inl hb) with x | x
    · rcases x with x | x
      · exact n x
      · exact (q.st.imm b (q.imm b x)).2.1 hb
    · rw [e] at x; cases x
  there := fun b o e => by
    obtain ⟨o', e'⟩ := q.there b o e
    exact r.there b o' e'
/-- private things are changed, new private things made -/
theorem GoX.of (q : St K g σ h) (hk : ∀ b o, h.get? b = some o → ¬ X b → h'.get? b = some o) (ht : ∀ b, X b → ∃ o', h'.get? b = some o') (hp : ∀ b, X b → ¬ g.own b ∧ K.hB.get? b = none) : GoX K X g h g σ h' := by
  refine ⟨q.change fun b o e z => hk b o e fun x => ?_, List.prefix_refl _, fun _ i => i, fun _ o => .inl o, fun b o e _ nx => hk b o e nx, fun b o e => ?_⟩
  · rcases z with z | ⟨o', z⟩
    · exact (hp b x).1 z
    · rw [(hp b x).2] at z; cases z
  · by_cases x : X b
    · exact ht b x
    · exact ⟨o, hk b o e x⟩
theorem GoX.sameBut (q : St K g σ h) {a : Addr} {o' : Obj} (hp : ¬ g.own a ∧ K.hB.get? a = none) (e' : h'.get? a = some o') (hs : Heap.ExtBut a h h') : GoX K (· = a) g h g σ h' :=
  GoX.of q (fun b o e n => hs b o n e) (fun b e => e ▸ ⟨o', e'⟩) (fun b e => e ▸ hp)
end

/-- what a frame may change of its own -/
noncomputable def fpOf (env : Env) (b : Addr) : Prop := b = env.locals ∨ ∃ x, env.cells.lookup x = some b

section
variable {K : Ctx} {X : Addr → Prop} {g g₁ g' : G} {σ σ₁ σ' : H} {h h' : Heap} {s s₁ s' : Shared} {cx : Cx} {env : Env} {m : M} {A : Around} {n : Nat}

theorem Fr.fp (F : Fr K env cx m g h) : ∀ b, fpOf env b → ¬ g.own b ∧ K.hB.get? b = none ∧ ∃ o, h.get? b = some o ∧ ((∃ es ep, o.data = .dict es ep) ∨ ∃ v, o.data = .cell v) := by
  rintro b (rfl | ⟨x, e⟩)
  · obtain ⟨ns, ⟨o, es, ep, ho, hd, _⟩, _⟩ := F.loc
    exact ⟨F.priv.1, F.priv.2, o, ho, .inl ⟨es, ep, hd⟩⟩
  · obtain ⟨h1, h2, v, o, ho, hd⟩ := F.privC x b e
    exact ⟨h1, h2, o, ho, .inr ⟨v, hd⟩⟩
theorem Fr.goX (F : Fr K env cx m g h) (S : St K g σ h) (q : GoX K X g h g' σ' h') (hx : ∀ b, X b → ¬ fpOf env b) (hp : ∀ b, X b → ¬ g.own b) : Fr K env cx m g' h' where
  kind := F.kind
  names := F.names
  glob := F.glob
  blt := F.blt
  loc := by
    obtain ⟨ns, hn, hv⟩ := F.loc
    refine ⟨ns, hn.at' fun o e => q.keep _ o e (fun z => F.priv.1 (.inl z)) fun z => hx _ z (.inl rfl), fun x k v h1 h2 h3 => ?_⟩
    obtain ⟨w, e, r⟩ := hv x k v h1 h2 h3
    exact ⟨w, e, q.rel S hp r⟩
  cell := fun x k h1 h2 => by
    obtain ⟨c, o, e, hc, hv⟩ := F.cell x k h1 h2
    refine ⟨c, o, e, ?_, fun v h3 => ?_⟩
    · obtain ⟨ob, ho, hd⟩ := hc
      exact ⟨ob, q.keep _ _ ho (fun z => (F.privC x c e).1 (.inl z)) fun z => hx _ z (.inr ⟨x, e⟩), hd⟩
    · obtain ⟨w, e, r⟩ := hv v h3
      exact ⟨w, e, q.rel S hp r⟩
  priv := ⟨by
    obtain ⟨ns, ⟨o, es, ep, ho, _⟩, _⟩ := F.loc
    exact q.priv ho F.priv.1, F.priv.2⟩
  privC := fun x c e => by
    obtain ⟨h1, h2, o, ob, ho, hd⟩ := F.privC x c e
    exact ⟨q.priv ho h1, h2, o, ob, q.keep _ _ ho (fun z => h1 (.inl z)) fun z => hx _ z (.inr ⟨x, e⟩), hd⟩
  apart := F.apart
  inj := F.inj
  bnd := F.bnd
  hi := F.hi

theorem get_put : ∀ (m : M) (k j : Nat) (v w : V), get (put m k v) j = some w → (j = k ∧ w = v) ∨ (j ≠ k ∧ get m j = some w)
  | [], _, _, _, _, e => by simp [put, get] at e
  | u :: m, 0, 0, v, w, e => by simp [put, get] at e; exact .inl ⟨rfl, e.symm⟩
  | u :: m, 0, j + 1, v, w, e => by simp [put, get] at e; exact .inr ⟨by walk_at "o", by simpa [get] using e⟩
  | u :: m, k + 1, 0, v, w, e => by simp [put, get] at e; exact .inr ⟨by walk_at "o", by simpa [get] using e⟩
  | u :: m, k + 1, j + 1, v, w, e => by
    simp only [put, get] at e
    rcases get_put m k j v w e with ⟨a, b⟩ | ⟨a, b⟩
    · exact .inl ⟨by walk_at "o", b⟩
    · exact .inr ⟨by walk_at "o", b⟩

theorem Fr.hi_put (F : Fr K env cx m g h) {k : Nat} {v : V} {x : Str} (hx : cx.slots.lookup x = some k) : ∀ j, cx.slots.length ≤ j → get (put m k v) j = none := fun j hj => by
  cases e : get (put m k v) j with
  | none => rfl
  | some w =>
    rcases get_put _ _ _ _ _ e with ⟨a, _⟩ | ⟨_, b⟩
    · have := F.bnd x k hx; walk_at "o"
    · rw [F.hi j hj] at b; cases b

/-- where a name may be stored -/
noncomputable def slotOf (cx : Cx) (x : Str) : Option Nat := match cx.names.lookup x with
  | some .local => cx.slots.lookup x
  | some .cell => cx.slots.lookup x
  | _ => none

theorem store_local (F : Fr K env cx m g s.heap) (S : St K g σ s.heap) {x : Str} {k : Nat} (hl : cx.names.lookup x = some .local) (hx : cx.slots.lookup x = some k) {v : V} {w : Value} (r : VRel K g s.heap v w) {Q : Unit → Shared → Prop} {E : Value → Shared → Prop}
    (hQ : ∀ s', GoX K (· = env.locals) g s.heap g σ s'.heap → Sx s s' → Fr K env cx (put m k v) g s'.heap → Q () s') : wpAny (model K.prog K.w) A (storeName env x w) Q E s := by
  have hkind : env.kindOf x = cx.names.lookup x := by unfold Env.kindOf; rw [F.names]
  obtain ⟨ns, hn, hv⟩ := F.loc
  refine wpAny_storeName_local (hkind.trans hl) hn (fun h' hn' hs' => ?_) (by rw [F.kind]; rfl)
  have go : GoX K (· = env.locals) g s.heap g σ h' := by
    obtain ⟨o', es, ep, e', _⟩ := id hn'
    exact GoX.sameBut S F.priv e' hs'.extBut
  have rr : ∀ {v : V} {w : Value}, VRel K g s.heap v w → VRel K g h' v w := fun {v w} r => go.rel S (fun b e => e ▸ F.priv.1) r
  refine hQ _ go ⟨rfl, rfl⟩ ⟨F.kind, F.names, F.glob, F.blt, ⟨_, hn', fun y j u h1 h2 h3 => ?_⟩, fun y j h1 h2 => ?_, ⟨F.priv.1, F.priv.2⟩, fun y c e => ?_, F.apart, F.inj, F.bnd, F.hi_put hx⟩
  · rcases get_put _ _ _ _ _ h3 with ⟨e1, e2⟩ | ⟨e1, e2⟩
    · subst e1 e2
      have : y = x := F.inj _ _ _ h1 hx
      subst this
      exact ⟨w, by simp, rr r⟩
    · have : y ≠ x := fun z => e1 (by subst z; rw [h1] at hx; exact Option.some.inj hx)
      obtain ⟨w', e3, r'⟩ := hv y j u h1 h2 e2
      exact ⟨w', by rw [if_neg this]; exact e3, rr r'⟩
  · obtain ⟨c, o, e, hc, hv⟩ := F.cell y j h1 h2
    have hcL : c ≠ env.locals := by
      rintro rfl
      obtain ⟨_, _, _, ho, hd, _⟩ := hn
      obtain ⟨ob, ho', hd'⟩ := hc
      rw [ho] at ho'; cases ho'; rw [hd] at hd'; cases hd'
    refine ⟨c, o, e, hc.sameBut hs' hcL, fun u h3 => ?_⟩
    rcases get_put _ _ _ _ _ h3 with ⟨e1, e2⟩ | ⟨e1, e2⟩
    · subst e1
      have : y = x := F.inj _ _ _ h1 hx
      subst this
      rw [hl] at h2; cases h2
    · obtain ⟨w', e3, r'⟩ := hv u e2
      exact ⟨w', e3, rr r'⟩
  · obtain ⟨a1, a2, o, a3⟩ := F.privC y c e
    have hcL : c ≠ env.locals := by
      rintro rfl
      obtain ⟨_, _, _, ho, hd, _⟩ := hn
      obtain ⟨ob, ho', hd'⟩ := a3
      rw [ho] at ho'; cases ho'; rw [hd] at hd'; cases hd'
    exact ⟨a1, a2, o, a3.sameBut hs' hcL⟩
theorem store_cell (F : Fr K env cx m g s.heap) (S : St K g σ s.heap) {x : Str} {k : Nat} (hl : cx.names.lookup x = some .cell) (hx : cx.slots.lookup x = some k) {v : V} {w : Value} (r : VRel K g s.heap v w) {Q : Unit → Shared → Prop} {E : Value → Shared → Prop}
    (hQ : ∀ s', GoX K (fpOf env) g s.heap g σ s'.heap → Sx s s' → Fr K env cx (put m k v) g s'.heap → Q () s') : wpAny (model K.prog K.w) A (storeName env x w) Q E s := by
  have hkind : env.kindOf x = cx.names.lookup x := by unfold Env.kindOf; rw [F.names]
  obtain ⟨c, o, e, hc, hv⟩ := F.cell x k hx hl
  have pc := F.privC x c e
  refine wpAny_storeName_cell F.kind (hkind.trans hl) e hc fun h' hc' hs' => ?_
  have go : GoX K (· = c) g s.heap g σ h' := by
    obtain ⟨o', e', _⟩ := id hc'
    exact GoX.sameBut S ⟨pc.1, pc.2.1⟩ e' hs'.extBut
  have rr : ∀ {v : V} {w : Value}, VRel K g s.heap v w → VRel K g h' v w := fun {v w} r => go.rel S (fun b e => e ▸ pc.1) r
  obtain ⟨ns, hn, hv'⟩ := F.loc
  have hcL : env.locals ≠ c := by
    rintro rfl
    obtain ⟨_, _, _, ho, hd, _⟩ := hn
    obtain ⟨ob, ho', hd'⟩ := hc
    rw [ho] at ho'; cases ho'; rw [hd] at hd'; cases hd'
  refine hQ _ (go.shrink fun b z => .inl (.inr ⟨x, z ▸ e⟩)) ⟨rfl, rfl⟩ ⟨F.kind, F.names, F.glob, F.blt, ⟨ns, hn.sameBut hs' hcL, fun y j u h1 h2 h3 => ?_⟩, fun y j h1 h2 => ?_, ⟨F.priv.1, F.priv.2⟩, fun y d ed => ?_, F.apart, F.inj, F.bnd, F.hi_put hx⟩
  · rcases get_put _ _ _ _ _ h3 with ⟨e1, e2⟩ | ⟨e1, e2⟩
    · subst e1
      have : y = x := F.inj _ _ _ h1 hx
      subst this
      rw [hl] at h2; cases h2
    · obtain ⟨w', e3, r'⟩ := hv' y j u h1 h2 e2
      exact ⟨w', e3, rr r'⟩
  · by_cases hy : y = x
    · subst hy
      refine ⟨c, some w, e, hc', fun u h3 => ?_⟩
      rcases get_put _ _ _ _ _ h3 with ⟨e1, e2⟩ | ⟨e1, e2⟩
      · subst e2; exact ⟨w, rfl, rr r⟩
      · rw [h1] at hx; cases hx; exact absurd rfl e1
    · obtain ⟨d, o', ed, hd, hv''⟩ := F.cell y j h1 h2
      have : d ≠ c := fun z => hy (F.apart y x c (z ▸ ed) e)
      refine ⟨d, o', ed, hd.sameBut hs' this, fun u h3 => ?_⟩
      rcases get_put _ _ _ _ _ h3 with ⟨e1, e2⟩ | ⟨e1, e2⟩
      · subst e1; exact absurd (F.inj _ _ _ h1 hx) hy
      · obtain ⟨w', e3, r'⟩ := hv'' u e2
        exact ⟨w', e3, rr r'⟩
  · obtain ⟨a1, a2, o', a3⟩ := F.privC y d ed
    by_cases hy : d = c
    · subst hy; exact ⟨a1, a2, _, hc'⟩
    · exact ⟨a1, a2, o', a3.sameBut hs' hy⟩
theorem store_sound (F : Fr K env cx m g s.heap) (S : St K g σ s.heap) {x : Str} {k : Nat} (hx : slotOf cx x = some k) {v : V} {w : Value} (r : VRel K g s.heap v w) {Q : Unit → Shared → Prop} {E : Value → Shared → Prop}
    (hQ : ∀ s', GoX K (fpOf env) g s.heap g σ s'.heap → Sx s s' → Fr K env cx (put m k v) g s'.heap → Q () s') : wpAny (model K.prog K.w) A (storeName env x w) Q E s := by
  unfold slotOf at hx
  split at hx
  · rename_i hl
    exact store_local F S hl hx r fun s' go sx F' => hQ s' (go.shrink fun b e => .inl (.inl e)) sx F'
  · rename_i hl
    exact store_cell F S hl hx r hQ
  · cases hx
end
end Mini

set_option autoImplicit false
set_option linter.unusedVariables false
namespace Mini
open PySem

/-- what the names of the builtins stand for -/
noncomputable def blts : List (Str × Value) := [("len", .builtin "len"), ("list", .type "list"), ("isinstance", .builtin "isinstance"), ("max", .builtin "max"), ("sum", .builtin "sum"), ("int", .type "int"),
  ("range", .type "range"), ("enumerate", .type "enumerate"), ("zip", .type "zip"), ("reversed", .type "reversed"), ("bool", .type "bool"), ("tuple", .type "tuple"), ("str", .type "str")]

structure Pg where
  fns : List (Str × Nat)
  consts : List (Str × Int)
  hall : Str
  fields : List Str

/-- a call of a function of the text's own, at a depth -/
noncomputable def SF (K : Ctx) (n : Nat) : Prop := ∀ (f : Nat) (A : Around) (g : G) (σ : H) (s : Shared) (vs : List V) (ws : List Value) (Q : P), Room A n → St K g σ s.heap → VRels K g s.heap vs ws → callW K.Φ n f vs σ Q noX →
  codeAny (model K.prog K.w) A (.call (.ref (K.fa f)) ⟨ws, []⟩) (fun r s' => match r with | .ok (.ret v) => EndE K g s Q v s' | .ok _ => False | .error _ => False) s

structure Gr (K : Ctx) (pg : Pg) : Prop where
  g : K.hB.Ns mainGlobals K.mg
  b : K.hB.Ns builtinsNs K.mb
  nolimit : K.hB.NoLimit
  blt : ∀ x v, blts.lookup x = some v → K.mg x = none ∧ K.mb x = some v
  const : ∀ x i, pg.consts.lookup x = some i → ∃ t, K.mg x = some (.int i t)
  fn : ∀ x f, pg.fns.lookup x = some f → K.mg x = some (.ref (K.fa f)) ∧ ∃ o fd, K.hB.get? (K.fa f) = some o ∧ o.data = .func fd
  hall : ∀ (x : Str), x = pg.hall → x ≠ "" → K.mg x = some (.ref K.hallC) ∧ K.fields = pg.fields
  attr : ∀ (A : Around) (s : Shared) (Q : Value → Shared → Prop) (E : Value → Shared → Prop) (b d : Addr) (mA : Str → Option Value) (vs : List Value) (k : Nat) (f : Str) (w : Value), (∀ b o, K.hB.get? b = some o → s.heap.get? b = some o) →
    InO s.heap K.hallC b d mA → hasF K.fields mA vs → K.fields[k]? = some f → vs[k]? = some w → handedOut w = pure w → (∀ tk, Q w { s with toks := tk }) → wpAny (model K.prog K.w) A (getAttr (.ref b) f true) Q E s
  cls : pg.hall ≠ "" → ∃ N mN, PyProof.Rows.ClsAt K.hB K.hallC N mN
  make : pg.hall ≠ "" → ∀ (A : Around) (n : Nat) (s : Shared) (vs : List Value) (Q : Value → Shared → Prop) (E : Value → Shared → Prop), Room A n → (∀ b o, K.hB.get? b = some o → s.heap.get? b = some o) → vs.length = 5 →
    (∀ b d mA h' tk, s.heap.get? b = none → s.heap.get? d = none → InO h' K.hallC b d mA → hasF K.fields mA vs → (∀ c o, s.heap.get? c = some o → h'.get? c = some o) → Q (.ref b) { s with heap := h', toks := tk }) →
    wpAny (model K.prog K.w) A (call (.ref K.hallC) vs) Q E s

noncomputable def SE (K : Ctx) (n : Nat) (cx : Cx) (e : Expr) (p : E) : Prop := ∀ (env : Env) (A : Around) (m : M) (g : G) (σ : H) (s : Shared) (Q : P), Room A n → Fr K env cx m g s.heap → St K g σ s.heap →
  WE (callW K.Φ n) noX p m σ Q → wpAny (model K.prog K.w) A (eval e env) (EndE K g s Q) noE s
noncomputable def STr (K : Ctx) (n : Nat) (cx : Cx) (e : Expr) (p : E) : Prop := ∀ (env : Env) (A : Around) (m : M) (g : G) (σ : H) (s : Shared) (Q : Bool → H → Prop), Room A n → Fr K env cx m g s.heap → St K g σ s.heap →
  WT (callW K.Φ n) noX p m σ Q → wpAny (model K.prog K.w) A (isTrue e env (eval e env)) (EndB K g s Q) noE s
noncomputable def SEs (K : Ctx) (n : Nat) (cx : Cx) (es : List Expr) (ps : List E) : Prop := ∀ (env : Env) (A : Around) (m : M) (g : G) (σ : H) (s : Shared) (pos : Pos) (Q : List V → H → Prop), Room A n → Fr K env cx m g s.heap → St K g σ s.heap →
  WEs (callW K.Φ n) noX ps m σ Q → wpAny (model K.prog K.w) A (spliced (backTo pos (starEach es env))) (EndL K g s fun rs σ => rs.length = ps.length ∧ Q rs σ) noE s

section
variable {K : Ctx} {pg : Pg} {n : Nat} {cx : Cx}

theorem EndE.bind {A : Around} {g g₁ : G} {σ₁ : H} {s s₁ : Shared} {t : Sem Value} {Q : P} (p : Go K g s.heap g₁ σ₁ s₁.heap) (x : Sx s s₁) (h : wpAny (model K.prog K.w) A t (EndE K g₁ s₁ Q) noE s₁) :
    wpAny (model K.prog K.w) A t (EndE K g s Q) noE s₁ := wpAny_mono h (fun _ _ q => q.trans p x) fun _ _ f => f
theorem EndB.bind {A : Around} {g g₁ : G} {σ₁ : H} {s s₁ : Shared} {t : Sem Bool} {Q : Bool → H → Prop} (p : Go K g s.heap g₁ σ₁ s₁.heap) (x : Sx s s₁) (h : wpAny (model K.prog K.w) A t (EndB K g₁ s₁ Q) noE s₁) :
    wpAny (model K.prog K.w) A t (EndB K g s Q) noE s₁ := wpAny_mono h (fun _ _ q => q.trans p x) fun _ _ f => f

theorem se_none {k pos} : SE K n cx (.Constant .none k pos) .none := fun env A m g σ s Q R F S W => wpAny_Constant_none (end_same (r := .none) S rfl W)
theorem se_bool {b k pos} : SE K n cx (.Constant (.bool b) k pos) (.bool b) := fun env A m g σ s Q R F S W => wpAny_Constant_bool (end_same S (vbool ..) W)
theorem se_int {i k pos} : SE K n cx (.Constant (.int i) k pos) (.int i) := fun env A m g σ s Q R F S W => wpAny_Constant_int (end_same S (vint ..) W)
theorem se_str {x j k pos} (h : words[j]? = some x) : SE K n cx (.Constant (.str x) k pos) (.str j) := fun env A m g σ s Q R F S W => wpAny_Constant_str (end_same (r := .str j) S ⟨_, _, h, rfl⟩ W)

theorem load_var {env : Env} {A : Around} {m : M} {g : G} {s : Shared} {x : Str} {k : Nat} {v : V} {Q : Value → Shared → Prop} {E : Value → Shared → Prop} (F : Fr K env cx m g s.heap) (hx : slotOf cx x = some k) (hv : get m k = some v)
    (h : ∀ w, VRel K g s.heap v w → Q w s) : wpAny (model K.prog K.w) A (loadName env x) Q E s := by
  unfold slotOf at hx
  have hkind : env.kindOf x = cx.names.lookup x := by unfold Env.kindOf; rw [F.names]
  split at hx
  · rename_i hl
    obtain ⟨ns, hn, hs⟩ := F.loc
    obtain ⟨w, e, r⟩ := hs x k v hx hl hv
    exact wpAny_loadName_local F.kind (hkind.trans hl) hn e (h w r)
  · rename_i hl
    obtain ⟨c, o, e, hc, hs⟩ := F.cell x k hx hl
    obtain ⟨w, rfl, r⟩ := hs v hv
    exact wpAny_loadName_cell F.kind (hkind.trans hl) e hc (h w r)
  · cases hx
theorem se_var {x : Str} {k : Nat} {pos : Pos} (hx : slotOf cx x = some k) (hd : (x == ("__debug__" : Str)) = false) : SE K n cx (.Name x pos) (.var k) := fun env A m g σ s Q R F S W => by
  obtain ⟨v, hv, q⟩ := W
  exact wpAny_Name (load_var F hx hv fun w r => ⟨v, g, σ, Go.refl S, Sx.refl s, r, q⟩) hd

theorem load_glob (G₀ : Gr K pg) {env : Env} {A : Around} {m : M} {g : G} {σ : H} {s : Shared} {x : Str} {pos : Pos} {v : Value} {Q : Value → Shared → Prop} {E : Value → Shared → Prop} (F : Fr K env cx m g s.heap) (S : St K g σ s.heap)
    (hx : cx.names.lookup x = some .globalImplicit) (hd : (x == ("__debug__" : Str)) = false) (hv : K.mg x = some v) (h : Q v s) : wpAny (model K.prog K.w) A (eval (.Name x pos) env) Q E s := by
  have hkind : env.kindOf x = cx.names.lookup x := by unfold Env.kindOf; rw [F.names]
  exact Calls.Name_function_global F.kind (hkind.trans hx) (Calls.loadGlobal_global (mg := K.mg) (by rw [F.glob]; exact G₀.g.keeps S.base) hv h) hd
theorem load_blt (G₀ : Gr K pg) {env : Env} {A : Around} {m : M} {g : G} {σ : H} {s : Shared} {x : Str} {pos : Pos} {v : Value} {Q : Value → Shared → Prop} {E : Value → Shared → Prop} (F : Fr K env cx m g s.heap) (S : St K g σ s.heap)
    (hx : cx.names.lookup x = some .globalImplicit) (hd : (x == ("__debug__" : Str)) = false) (hv : blts.lookup x = some v) (h : Q v s) : wpAny (model K.prog K.w) A (eval (.Name x pos) env) Q E s := by
  have hkind : env.kindOf x = cx.names.lookup x := by unfold Env.kindOf; rw [F.names]
  exact Calls.Name_function_global F.kind (hkind.trans hx) (Calls.loadGlobal_builtin (mg := K.mg) (mb := K.mb) (by rw [F.glob]; exact G₀.g.keeps S.base) (G₀.blt x v hv).1 (by rw [F.blt]; exact G₀.b.keeps S.base) (G₀.blt x v hv).2 h) hd

theorem se_const (G₀ : Gr K pg) {x : Str} {i : Int} {pos : Pos} (hx : cx.names.lookup x = some .globalImplicit) (hd : (x == ("__debug__" : Str)) = false) (hi : pg.consts.lookup x = some i) : SE K n cx (.Name x pos) (.int i) := fun env A m g σ s Q R F S W => by
  obtain ⟨t, ht⟩ := G₀.const x i hi
  exact load_glob G₀ F S hx hd ht (end_same S (vint ..) W)

theorem se_bin {l r : Expr} {op : Operator} {o : Bin} {a b : E} {pos : Pos} (ho : opOf op = some o) (hl : SE K n cx l a) (hr : SE K n cx r b) : SE K n cx (.BinOp l op r pos) (.bin o a b) := fun env A m g σ s Q R F S W => by
  refine wpAny_BinOp (wpAny_mono (hl env A m g σ s _ R F S W) (fun v s₁ q => ?_) fun _ _ f => f)
  obtain ⟨r₁, g₁, σ₁, go₁, sx₁, rel₁, W₁⟩ := q
  refine wpAny_mono (hr env A m g₁ σ₁ s₁ _ R (F.go S go₁) go₁.st W₁) (fun v₂ s₂ q => ?_) fun _ _ f => f
  obtain ⟨r₂, g₂, σ₂, go₂, sx₂, rel₂, W₂⟩ := q
  exact EndE.bind (go₁.trans go₂) (sx₁.trans sx₂) (binop_sound go₂.st ho (go₂.rel go₁.st rel₁) rel₂ W₂)

theorem se_neg {e : Expr} {a : E} {pos : Pos} (h : SE K n cx e a) : SE K n cx (.UnaryOp .USub e pos) (.neg a) := fun env A m g σ s Q R F S W => by
  refine wpAny_UnaryOp (wpAny_mono (h env A m g σ s _ R F S W) (fun v s₁ q => ?_) fun _ _ f => f)
  obtain ⟨r₁, g₁, σ₁, go₁, sx₁, rel₁, W₁⟩ := q
  cases r₁ <;> try exact W₁.elim
  obtain ⟨t, rfl⟩ := rel₁
  exact EndE.bind go₁ sx₁ (PyProof.Rows.neg_int (end_same go₁.st (vint ..) W₁))

theorem se_cmp {l r : Expr} {op : CmpOp} {o : Cmp} {a b : E} {pos : Pos} (ho : cmpOf op = some o) (hl : SE K n cx l a) (hr : SE K n cx r b) (hm : behindInMarks op r = false) : SE K n cx (.Compare l [op] [r] pos) (.cmp o a b) := fun env A m g σ s Q R F S W => by
  refine wpAny_Compare1 (wpAny_mono (hl env A m g σ s _ R F S W) (fun v s₁ q => ?_) fun _ _ f => f) hm
  obtain ⟨r₁, g₁, σ₁, go₁, sx₁, rel₁, W₁⟩ := q
  refine wpAny_mono (hr env A m g₁ σ₁ s₁ _ R (F.go S go₁) go₁.st W₁) (fun v₂ s₂ q => ?_) fun _ _ f => f
  obtain ⟨r₂, g₂, σ₂, go₂, sx₂, rel₂, W₂⟩ := q
  exact EndE.bind (go₁.trans go₂) (sx₁.trans sx₂) (cmpop_sound R go₂.st ho (go₂.rel go₁.st rel₁) rel₂ W₂)
theorem st_cmp {l r : Expr} {op : CmpOp} {o : Cmp} {a b : E} {pos : Pos} (ho : cmpOf op = some o) (hl : SE K n cx l a) (hr : SE K n cx r b) (hm : behindInMarks op r = false) : STr K n cx (.Compare l [op] [r] pos) (.cmp o a b) := fun env A m g σ s Q R F S W => by
  refine wpAny_isTrue_Compare1 (wpAny_mono (hl env A m g σ s _ R F S W) (fun v s₁ q => ?_) fun _ _ f => f) hm
  obtain ⟨r₁, g₁, σ₁, go₁, sx₁, rel₁, W₁⟩ := q
  refine wpAny_mono (hr env A m g₁ σ₁ s₁ _ R (F.go S go₁) go₁.st W₁) (fun v₂ s₂ q => ?_) fun _ _ f => f
  obtain ⟨r₂, g₂, σ₂, go₂, sx₂, rel₂, W₂⟩ := q
  refine wpAny_mono (cmpop_sound R go₂.st ho (go₂.rel go₁.st rel₁) rel₂ W₂) (fun v₃ s₃ q => ?_) fun _ _ f => f
  obtain ⟨r₃, g₃, σ₃, go₃, sx₃, rel₃, W₃⟩ := q
  exact EndB.bind ((go₁.trans go₂).trans go₃) ((sx₁.trans sx₂).trans sx₃) (truthy_sound go₃.st rel₃ W₃)

theorem st_not {e : Expr} {a : E} {pos : Pos} (h : STr K n cx e a) : STr K n cx (.UnaryOp .Not e pos) (.not a) := fun env A m g σ s Q R F S W =>
  wpAny_isTrue_Not (wpAny_mono (h env A m g σ s (fun b σ => Q (!b) σ) R F S W) (fun _ _ ⟨g', σ', go, sx, q⟩ => ⟨g', σ', go, sx, q⟩) fun _ _ f => f)
theorem st_val {e : Expr} {a : E} (h : SE K n cx e a) (he : ∀ env whole, isTrue e env whole = (do let v ← whole; standAt e.pos; holding [v] (PySem.truthy v)))
    (hw : ∀ c x m σ k, WT c x a m σ k → WE c x a m σ (truthy k)) : STr K n cx e a := fun env A m g σ s Q R F S W => by
  refine wpAny_isTrue_value (wpAny_mono (h env A m g σ s _ R F S (hw _ _ _ _ _ W)) (fun v s₁ q => ?_) fun _ _ f => f) (he env _)
  obtain ⟨r₁, g₁, σ₁, go₁, sx₁, rel₁, W₁⟩ := q
  exact EndB.bind go₁ sx₁ (truthy_sound go₁.st rel₁ W₁)

theorem se_not {e : Expr} {a : E} {pos : Pos} (h : SE K n cx e a) : SE K n cx (.UnaryOp .Not e pos) (.not a) := fun env A m g σ s Q R F S W => by
  refine wpAny_UnaryOp (wpAny_mono (h env A m g σ s _ R F S W) (fun v s₁ q => ?_) fun _ _ f => f)
  obtain ⟨r₁, g₁, σ₁, go₁, sx₁, rel₁, W₁⟩ := q
  refine PyProof.Rows.not_of (wpAny_mono (truthy_sound go₁.st rel₁ W₁) (fun b s₂ q => ?_) fun _ _ f => f)
  obtain ⟨g₂, σ₂, go₂, sx₂, W₂⟩ := q
  exact ⟨.bool !b, g₂, σ₂, go₁.trans go₂, sx₁.trans sx₂, rfl, W₂⟩

theorem st_and {x : Expr} {rest : List Expr} {a b : E} (h : STr K n cx x a) (hr : ∀ env A m g σ s (Q : Bool → H → Prop), Room A n → Fr K env cx m g s.heap → St K g σ s.heap → WT (callW K.Φ n) noX b m σ Q → wpAny (model K.prog K.w) A (allTrue .And rest env) (EndB K g s Q) noE s) :
    ∀ env A m g σ s (Q : Bool → H → Prop), Room A n → Fr K env cx m g s.heap → St K g σ s.heap → WT (callW K.Φ n) noX (.and a b) m σ Q → wpAny (model K.prog K.w) A (allTrue .And (x :: rest) env) (EndB K g s Q) noE s := fun env A m g σ s Q R F S W => by
  refine wpAny_allTrue_And_cons (wpAny_mono (h env A m g σ s _ R F S W) (fun t s₁ q => ?_) fun _ _ f => f)
  obtain ⟨g₁, σ₁, go₁, sx₁, W₁⟩ := q
  cases t with
  | false => exact ⟨g₁, σ₁, go₁, sx₁, W₁⟩
  | true => exact EndB.bind go₁ sx₁ (hr env A m g₁ σ₁ s₁ Q R (F.go S go₁) go₁.st W₁)
theorem st_or {x : Expr} {rest : List Expr} {a b : E} (h : STr K n cx x a) (hr : ∀ env A m g σ s (Q : Bool → H → Prop), Room A n → Fr K env cx m g s.heap → St K g σ s.heap → WT (callW K.Φ n) noX b m σ Q → wpAny (model K.prog K.w) A (allTrue .Or rest env) (EndB K g s Q) noE s) :
    ∀ env A m g σ s (Q : Bool → H → Prop), Room A n → Fr K env cx m g s.heap → St K g σ s.heap → WT (callW K.Φ n) noX (.or a b) m σ Q → wpAny (model K.prog K.w) A (allTrue .Or (x :: rest) env) (EndB K g s Q) noE s := fun env A m g σ s Q R F S W => by
  refine wpAny_allTrue_Or_cons (wpAny_mono (h env A m g σ s _ R F S W) (fun t s₁ q => ?_) fun _ _ f => f)
  obtain ⟨g₁, σ₁, go₁, sx₁, W₁⟩ := q
  cases t with
  | true => exact ⟨g₁, σ₁, go₁, sx₁, W₁⟩
  | false => exact EndB.bind go₁ sx₁ (hr env A m g₁ σ₁ s₁ Q R (F.go S go₁) go₁.st W₁)
theorem st_lastAnd {x : Expr} {a : E} (h : STr K n cx x a) :
    ∀ env A m g σ s (Q : Bool → H → Prop), Room A n → Fr K env cx m g s.heap → St K g σ s.heap → WT (callW K.Φ n) noX a m σ Q → wpAny (model K.prog K.w) A (allTrue .And [x] env) (EndB K g s Q) noE s := fun env A m g σ s Q R F S W => by
  refine wpAny_allTrue_And_cons (wpAny_mono (h env A m g σ s _ R F S W) (fun t s₁ q => ?_) fun _ _ f => f)
  cases t with
  | false => exact q
  | true => exact wpAny_allTrue_And_nil q
theorem st_lastOr {x : Expr} {a : E} (h : STr K n cx x a) :
    ∀ env A m g σ s (Q : Bool → H → Prop), Room A n → Fr K env cx m g s.heap → St K g σ s.heap → WT (callW K.Φ n) noX a m σ Q → wpAny (model K.prog K.w) A (allTrue .Or [x] env) (EndB K g s Q) noE s := fun env A m g σ s Q R F S W => by
  refine wpAny_allTrue_Or_cons (wpAny_mono (h env A m g σ s _ R F S W) (fun t s₁ q => ?_) fun _ _ f => f)
  cases t with
  | true => exact q
  | false => exact wpAny_allTrue_Or_nil q

theorem bool_step {op : BoolOp} {t : Sem Value} {x : Sem Value} {rest : List (Sem Value)} {pos : Pos} {A : Around} {g : G} {s : Shared} {Q : P} {k : Bool → H → Prop}
    (h : wpAny (model K.prog K.w) A t (EndE K g s (truthy k)) noE s)
    (hk : ∀ b g₁ σ₁ s₁, Go K g s.heap g₁ σ₁ s₁.heap → Sx s s₁ → k b σ₁ → wpAny (model K.prog K.w) A (match op, b with | .And, false | .Or, true => pure (.bool b) | _, _ => boolOp pos op (x :: rest)) (EndE K g s Q) noE s₁) :
    wpAny (model K.prog K.w) A (boolOp pos op (t :: x :: rest)) (EndE K g s Q) noE s := by
  rw [boolOp]
  · refine wpAny_bind (wpAny_mono h (fun v s₁ q => ?_) fun _ _ f => f)
    obtain ⟨r₁, g₁, σ₁, go₁, sx₁, rel₁, W₁⟩ := q
    cases r₁ <;> try exact W₁.elim
    cases rel₁
    exact wpAny_bind (wpAny_standAt (wpAny_bind (wpAny_holding (wpAny_truthy_bool (hk _ g₁ σ₁ s₁ go₁ sx₁ W₁)))))
  · simp

/-- a call of something that is no object of the heap, with its arguments -/
theorem call_plain {f : Value} {A : Around} {env : Env} {m : M} {g : G} {σ : H} {s : Shared} {pos : Pos} {es : List Expr} {ps : List E} {k : List V → H → Prop} {Q : Value → Shared → Prop} (R : Room A n) (F : Fr K env cx m g s.heap) (S : St K g σ s.heap)
    (hf : (∃ id, f = .builtin id) ∨ (∃ T, f = .type T)) (he : SEs K n cx es ps) (hne : es ≠ []) (hst : (backTo pos (starEach es env)).any (·.1) = false) (hsh : ∃ x rest, backTo pos (starEach es env) = (false, x) :: rest) (W : WEs (callW K.Φ n) noX ps m σ k)
    (h : ∀ rs g₁ σ₁ s₁ vs, Go K g s.heap g₁ σ₁ s₁.heap → Sx s s₁ → VRels K g₁ s₁.heap rs vs → k rs σ₁ → wpAny (model K.prog K.w) A (call f vs []) Q noE s₁) :
    wpAny (model K.prog K.w) A (callWith pos f [] (backTo pos (starEach es env)) []) Q noE s := by
  obtain ⟨x, rest, hsh⟩ := hsh
  have main : wpAny (model K.prog K.w) A (evalArgs f true (backTo pos (starEach es env)) []) (fun a s₁ => wpAny (model K.prog K.w) A (call f ([] ++ a.pos) a.kw) Q noE s₁) noE s := by
    rw [hsh]
    refine Calls.evalArgs_plain ?_
    rw [← hsh]
    refine wpAny_mono (he env A m g σ s pos _ R F S W) (fun vs s₁ q => ?_) fun _ _ f => f
    obtain ⟨rs, g₁, σ₁, go₁, sx₁, rel₁, _, W₁⟩ := q
    exact h rs g₁ σ₁ s₁ vs go₁ sx₁ rel₁ W₁
  rcases hf with ⟨id, rfl⟩ | ⟨T, rfl⟩
  · exact Calls.callWith_builtin hst main
  · exact callWith_type hst main
end
end Mini

set_option autoImplicit false
set_option linter.unusedVariables false
namespace Mini
open PySem

noncomputable def isStar : Expr → Bool
  | .Starred .. => true
  | _ => false
theorem star_cons {e : Expr} {es : List Expr} {env : Env} {pos : Pos} (h : isStar e = false) : backTo pos (starEach (e :: es) env) = (false, eval e env) :: backTo pos (starEach es env) := by
  cases e <;> first | rfl | cases h
theorem star_cons' {e : Expr} {es : List Expr} {env : Env} (h : isStar e = false) : starEach (e :: es) env = (false, eval e env) :: starEach es env := by
  cases e <;> first | rfl | cases h

section
variable {K : Ctx} {pg : Pg} {n : Nat} {cx : Cx}

theorem ses_nil : SEs K n cx [] [] := fun env A m g σ s pos Q R F S W => Calls.spliced_nil ⟨[], g, σ, Go.refl S, Sx.refl s, trivial, rfl, W⟩
theorem ses_cons {e : Expr} {es : List Expr} {a : E} {as : List E} (hs : isStar e = false) (h : SE K n cx e a) (hr : SEs K n cx es as) : SEs K n cx (e :: es) (a :: as) := fun env A m g σ s pos Q R F S W => by
  rw [star_cons hs]
  refine Calls.spliced_cons (wpAny_mono (h env A m g σ s _ R F S W) (fun v s₁ q => ?_) fun _ _ f => f)
  obtain ⟨r₁, g₁, σ₁, go₁, sx₁, rel₁, W₁⟩ := q
  refine wpAny_mono (hr env A m g₁ σ₁ s₁ pos _ R (F.go S go₁) go₁.st W₁) (fun vs s₂ q => ?_) fun _ _ f => f
  obtain ⟨rs, g₂, σ₂, go₂, sx₂, rel₂, hl, W₂⟩ := q
  exact ⟨r₁ :: rs, g₂, σ₂, go₁.trans go₂, sx₁.trans sx₂, ⟨go₂.rel go₁.st rel₁, rel₂⟩, congrArg (· + 1) hl, W₂⟩

theorem se_disp {es : List Expr} {as : List E} {pos : Pos} (h : SEs K n cx es as) : SE K n cx (.List es pos) (.disp as) := fun env A m g σ s Q R F S W => by
  refine wpAny_List_spliced (wpAny_mono (h env A m g σ s pos _ R F S W) (fun vs s₁ q => ?_) fun _ _ f => f)
  obtain ⟨rs, g₁, σ₁, go₁, sx₁, rel₁, _, W₁⟩ := q
  refine ⟨by rw [← rel₁.length]; exact W₁.1, EndE.trans go₁ sx₁ ?_⟩
  exact end_listP go₁.st (by simpa using rel₁) W₁
theorem se_tup {es : List Expr} {as : List E} {k : Nat} {pos : Pos} (h : SEs K n cx es as) (hl : as.length ≤ 100) : SE K n cx (.Tuple es k pos) (.tup as) := fun env A m g σ s Q R F S W => by
  refine wpAny_Tuple_spliced (wpAny_mono (h env A m g σ s pos _ R F S W) (fun vs s₁ q => ?_) fun _ _ f => f)
  obtain ⟨rs, g₁, σ₁, go₁, sx₁, rel₁, hl₁, W₁⟩ := q
  refine ⟨by (rw [← rel₁.length]; rw [hl₁]; rw [sizeLine_is]); walk_at "o", EndE.trans go₁ sx₁ ?_⟩
  exact end_tup go₁.st rel₁ W₁

theorem se_ite {t a b : Expr} {pt pa pb : E} {pos : Pos} (ht : STr K n cx t pt) (ha : SE K n cx a pa) (hb : SE K n cx b pb) : SE K n cx (.IfExp t a b pos) (.ite pt pa pb) := fun env A m g σ s Q R F S W => by
  refine wpAny_IfExp (wpAny_mono (ht env A m g σ s _ R F S W) (fun c s₁ q => ?_) fun _ _ f => f)
  obtain ⟨g₁, σ₁, go₁, sx₁, W₁⟩ := q
  cases c with
  | true => exact EndE.bind go₁ sx₁ (ha env A m g₁ σ₁ s₁ Q R (F.go S go₁) go₁.st W₁)
  | false => exact EndE.bind go₁ sx₁ (hb env A m g₁ σ₁ s₁ Q R (F.go S go₁) go₁.st W₁)

theorem st_cmp2 {l r₁ r₂ : Expr} {o₁ o₂ : CmpOp} {p₁ p₂ : Cmp} {a b c : E} {pos : Pos} (h₁ : cmpOf o₁ = some p₁) (h₂ : cmpOf o₂ = some p₂) (hl : SE K n cx l a) (hr : SE K n cx r₁ b) (hr₂ : SE K n cx r₂ c) (hm : lastMarks [o₁, o₂] [r₁, r₂] = false) :
    STr K n cx (.Compare l [o₁, o₂] [r₁, r₂] pos) (.cmp2 p₁ a b p₂ c) := fun env A m g σ s Q R F S W => by
  refine PyProof.Rows.isTrue_chain (wpAny_mono (hl env A m g σ s _ R F S W) (fun v s₁ q => ?_) fun _ _ f => f) hm
  obtain ⟨x₁, g₁, σ₁, go₁, sx₁, rel₁, W₁⟩ := q
  show wpAny _ A (do
    let rv ← holding [v] (eval r₁ env)
    standAt pos
    let c ← holding [v, rv] (compareOp o₁ v rv)
    release [v, rv] [c]
    if ← holding [c, rv] (PySem.truthy c) then testChain pos rv [o₂] [eval r₂ env] else pure false) _ _ s₁
  refine wpAny_bind (wpAny_holding (wpAny_mono (hr env A m g₁ σ₁ s₁ _ R (F.go S go₁) go₁.st W₁) (fun v₂ s₂ q => ?_) fun _ _ f => f))
  obtain ⟨x₂, g₂, σ₂, go₂, sx₂, rel₂, W₂⟩ := q
  have go12 := go₁.trans go₂
  refine wpAny_bind (wpAny_standAt (wpAny_bind (wpAny_holding (wpAny_mono (cmpop_sound R go₂.st h₁ (go₂.rel go₁.st rel₁) rel₂ W₂) (fun v₃ s₃ q => ?_) fun _ _ f => f))))
  obtain ⟨x₃, g₃, σ₃, go₃, sx₃, rel₃, W₃⟩ := q
  refine wpAny_bind (PyProof.Rows.wpAny_release' (wpAny_bind (wpAny_holding (wpAny_mono (truthy_sound go₃.st rel₃ W₃) (fun t s₄ q => ?_) fun _ _ f => f))))
  obtain ⟨g₄, σ₄, go₄, sx₄, W₄⟩ := q
  have go4 := (go12.trans go₃).trans go₄
  have sx4 := ((sx₁.trans sx₂).trans sx₃).trans sx₄
  cases t with
  | false => exact wpAny_pure ⟨g₄, σ₄, go4, sx4, W₄⟩
  | true =>
    show wpAny _ A (do
      let rv ← holding [v₂] (eval r₂ env)
      standAt pos
      let c ← operate [v₂, rv] (compareOp o₂ v₂ rv)
      holding [c] (PySem.truthy c)) _ _ s₄
    refine wpAny_bind (wpAny_holding (wpAny_mono (hr₂ env A m g₄ σ₄ s₄ _ R (F.go S go4) go₄.st W₄) (fun v₅ s₅ q => ?_) fun _ _ f => f))
    obtain ⟨x₅, g₅, σ₅, go₅, sx₅, rel₅, W₅⟩ := q
    have r2 := go₅.rel go₄.st (go₄.rel go₃.st (go₃.rel go₂.st rel₂))
    refine wpAny_bind (wpAny_standAt (wpAny_bind (PyProof.Rows.wpAny_operate' (wpAny_mono (cmpop_sound R go₅.st h₂ r2 rel₅ W₅) (fun v₆ s₆ q => ?_) fun _ _ f => f))))
    obtain ⟨x₆, g₆, σ₆, go₆, sx₆, rel₆, W₆⟩ := q
    exact wpAny_holding (EndB.bind ((go4.trans go₅).trans go₆) ((sx4.trans sx₅).trans sx₆) (truthy_sound go₆.st rel₆ W₆))

/-- a function of the text's own is called -/
theorem se_call (G₀ : Gr K pg) (hf : SF K n) {x : Str} {p pos : Pos} {f : Nat} {es : List Expr} {as : List E} (hx : cx.names.lookup x = some .globalImplicit) (hd : (x == ("__debug__" : Str)) = false) (hfn : pg.fns.lookup x = some f) (h : SEs K n cx es as)
    (hst : ∀ e ∈ es, isStar e = false) (hlen : es.length = as.length) : SE K n cx (.Call (.Name x p) es [] pos) (.call f as) := fun env A m g σ s Q R F S W => by
  obtain ⟨hg, o, fd, ho, hdata⟩ := G₀.fn x f hfn
  refine wpAny_Call_ofName (load_glob G₀ F S hx hd hg ?_)
  show wpAny _ A (callWith pos (.ref (K.fa f)) [] (backTo pos (starEach es env)) []) _ _ s
  refine Calls.callWith_function (o := o) (fd := fd) ?_
  have fin : ∀ rs g₁ σ₁ s₁ vs, Go K g s.heap g₁ σ₁ s₁.heap → Sx s s₁ → VRels K g₁ s₁.heap rs vs → callW K.Φ n f rs σ₁ Q noX →
      (s₁.heap.get? (K.fa f) = some o ∧ o.data = .func fd) ∧ wpAny (model K.prog K.w) A (call (.ref (K.fa f)) ([] ++ vs) []) (EndE K g s Q) noE s₁ := fun rs g₁ σ₁ s₁ vs go₁ sx₁ rel₁ W₁ =>
    ⟨⟨go₁.st.base _ _ ho, hdata⟩, EndE.bind go₁ sx₁ (wpAny_call (codeAny_mono (hf f A g₁ σ₁ s₁ rs vs Q R go₁.st rel₁ W₁) fun r s' q => q))⟩
  cases es with
  | nil =>
    cases as with
    | cons a as => cases hlen
    | nil => exact evalArgs_none (fin [] g σ s [] (Go.refl S) (Sx.refl s) trivial W)
  | cons e es =>
    rw [star_cons (hst e (.head _))]
    refine Calls.evalArgs_plain ?_
    rw [← star_cons (hst e (.head _))]
    refine wpAny_mono (h env A m g σ s pos _ R F S W) (fun vs s₁ q => ?_) fun _ _ f => f
    obtain ⟨rs, g₁, σ₁, go₁, sx₁, rel₁, _, W₁⟩ := q
    exact fin rs g₁ σ₁ s₁ vs go₁ sx₁ rel₁ W₁

theorem any_back {es : List Expr} {env : Env} {pos : Pos} (hst : ∀ e ∈ es, isStar e = false) : (backTo pos (starEach es env)).any (·.1) = false := by
  induction es with
  | nil => rfl
  | cons e es ih =>
    (rw [star_cons (hst e (.head _))]; rw [List.any_cons]; rw [ih fun e he => hst e (.tail _ he)])
    rfl

/-- a builtin of one argument -/
theorem se_blt1 (G₀ : Gr K pg) {x : Str} {v : Value} {p pos : Pos} {e : Expr} {a b : E} (hx : cx.names.lookup x = some .globalImplicit) (hd : (x == ("__debug__" : Str)) = false) (hv : blts.lookup x = some v) (hp : (∃ id, v = .builtin id) ∨ ∃ T, v = .type T)
    (h : SE K n cx e a) (hst : isStar e = false) {op : V → H → P → Prop} (hw : ∀ c x m σ Q, WE c x b m σ Q → WE c x a m σ fun u σ => op u σ Q)
    (ho : ∀ (A : Around) (g : G) (σ : H) (s : Shared) (u : V) (w : Value) (Q : P), Room A n → St K g σ s.heap → VRel K g s.heap u w → op u σ Q → wpAny (model K.prog K.w) A (call v [w] []) (EndE K g s Q) noE s) :
    SE K n cx (.Call (.Name x p) [e] [] pos) b := fun env A m g σ s Q R F S W => by
  refine wpAny_Call_ofName (load_blt G₀ F S hx hd hv ?_)
  refine call_plain (ps := [a]) (k := fun vs σ => match vs with | [u] => op u σ Q | _ => False) R F S hp (ses_cons hst h ses_nil) (by simp) (any_back (by simpa using hst)) ⟨_, _, star_cons hst⟩ ?_ ?_
  · exact hw _ _ _ _ _ W
  · intro rs g₁ σ₁ s₁ vs go₁ sx₁ rel₁ W₁
    split at W₁
    · cases vs with
      | nil => exact rel₁.elim
      | cons w vs =>
        cases vs with
        | cons _ _ => exact rel₁.2.elim
        | nil => exact EndE.bind go₁ sx₁ (ho A g₁ σ₁ s₁ _ w Q R go₁.st rel₁.1 W₁)
    · exact W₁.elim
end
end Mini

set_option autoImplicit false
set_option linter.unusedVariables false
namespace Mini
open PySem

section
variable {K : Ctx} {pg : Pg} {n : Nat} {cx : Cx}

theorem len_sound {A : Around} {g : G} {σ : H} {s : Shared} {u : V} {w : Value} {Q : P} (S : St K g σ s.heap) (r : VRel K g s.heap u w) (W : bi1 .len u σ Q) : wpAny (model K.prog K.w) A (call (.builtin "len") [w] []) (EndE K g s Q) noE s := by
  cases u <;> try exact False.elim W
  · obtain ⟨xs, hx, q⟩ := W
    obtain ⟨b, vs, k, rfl, _, hl, _, e, z⟩ := S.list r hx
    refine Calls.call_len_list hl.isList (by rw [sizeLine_is] at z; walk_at "o") ?_
    rw [e]
    exact end_same S (vint ..) q
  · rename_i xs
    obtain ⟨b, vs, k, rfl, _, ho, rr⟩ := r
    have e : vs.size = xs.length := by rw [← Array.length_toList]; exact rr.length.symm
    have hlim : lim = 16777216 := rfl
    refine PyProof.Rows.len_tuple ⟨_, ho, rfl, k, rfl⟩ (by rw [e]; have := W.1; walk_at "o") ?_
    rw [e]
    exact end_same S (vint ..) W.2
theorem list_sound {A : Around} {g : G} {σ : H} {s : Shared} {u : V} {w : Value} {Q : P} (S : St K g σ s.heap) (r : VRel K g s.heap u w) (W : bi1 .list u σ Q) : wpAny (model K.prog K.w) A (call (.type "list") [w] []) (EndE K g s Q) noE s := by
  cases u <;> try exact False.elim W
  obtain ⟨xs, hx, q⟩ := W
  obtain ⟨b, vs, k, rfl, _, hl, rr, e, z⟩ := S.list r hx
  exact call_list_seq b (.inl rfl) hl rfl rfl (fun h' c' hk e' => end_list S (none_at_size _) hk e' rr q) z
theorem int_sound {A : Around} {g : G} {σ : H} {s : Shared} {u : V} {w : Value} {Q : P} (S : St K g σ s.heap) (r : VRel K g s.heap u w) (W : bi1 .intOf u σ Q) : wpAny (model K.prog K.w) A (call (.type "int") [w] []) (EndE K g s Q) noE s := by
  cases u <;> try exact False.elim W
  cases r
  exact call_int_bool (end_same S (vint ..) W)

theorem se_len (G₀ : Gr K pg) {x : Str} {p pos : Pos} {e : Expr} {a : E} (hx : cx.names.lookup x = some .globalImplicit) (hd : (x == ("__debug__" : Str)) = false) (hv : blts.lookup x = some (.builtin "len")) (h : SE K n cx e a) (hst : isStar e = false) : SE K n cx (.Call (.Name x p) [e] [] pos) (.b1 .len a) :=
  se_blt1 G₀ hx hd hv (.inl ⟨_, rfl⟩) h hst (op := bi1 .len) (fun _ _ _ _ _ W => W) fun A g σ s u w Q R S r W => len_sound S r W
theorem se_list (G₀ : Gr K pg) {x : Str} {p pos : Pos} {e : Expr} {a : E} (hx : cx.names.lookup x = some .globalImplicit) (hd : (x == ("__debug__" : Str)) = false) (hv : blts.lookup x = some (.type "list")) (h : SE K n cx e a) (hst : isStar e = false) : SE K n cx (.Call (.Name x p) [e] [] pos) (.b1 .list a) :=
  se_blt1 G₀ hx hd hv (.inr ⟨_, rfl⟩) h hst (op := bi1 .list) (fun _ _ _ _ _ W => W) fun A g σ s u w Q R S r W => list_sound S r W
theorem se_intOf (G₀ : Gr K pg) {x : Str} {p pos : Pos} {e : Expr} {a : E} (hx : cx.names.lookup x = some .globalImplicit) (hd : (x == ("__debug__" : Str)) = false) (hv : blts.lookup x = some (.type "int")) (h : SE K n cx e a) (hst : isStar e = false) : SE K n cx (.Call (.Name x p) [e] [] pos) (.b1 .intOf a) :=
  se_blt1 G₀ hx hd hv (.inr ⟨_, rfl⟩) h hst (op := bi1 .intOf) (fun _ _ _ _ _ W => W) fun A g σ s u w Q R S r W => int_sound S r W
noncomputable def kdOf : Str → Option (Kd × String) := fun x =>
  if x = "int" then some (.int, "int") else if x = "bool" then some (.bool, "bool") else if x = "list" then some (.list, "list") else if x = "tuple" then some (.tup, "tuple") else if x = "str" then some (.str, "str") else none

theorem isi_sound {A : Around} {g : G} {σ : H} {s : Shared} {u : V} {w : Value} {Q : P} {k : Kd} {T : String} {b : Bool} (S : St K g σ s.heap) (hT : (k, T) ∈ [(Kd.int, "int"), (.bool, "bool"), (.list, "list"), (.tup, "tuple"), (.str, "str")]) (r : VRel K g s.heap u w)
    (hb : isKd k u = some b) (W : Q (.bool b) σ) : wpAny (model K.prog K.w) A (call (.builtin "isinstance") [w, .type T] []) (EndE K g s Q) noE s := by
  simp only [List.mem_cons, Prod.mk.injEq, List.not_mem_nil, or_false] at hT
  rcases hT with ⟨rfl, rfl⟩ | ⟨rfl, rfl⟩ | ⟨rfl, rfl⟩ | ⟨rfl, rfl⟩ | ⟨rfl, rfl⟩ <;> cases u <;> cases hb
  · obtain ⟨t, rfl⟩ := r
    exact IsiPair.int_int (end_same S (vbool ..) W)
  · cases r
    exact IsiPair.NoneType_bool (end_same S (vbool ..) W)
  · cases r
    exact IsiPair.bool_bool (end_same S (vbool ..) W)
  · obtain ⟨t, rfl⟩ := r
    exact IsiPair.int_bool (end_same S (vbool ..) W)
  · obtain ⟨t, rfl⟩ := r
    exact IsiPair.int_list (end_same S (vbool ..) W)
  · obtain ⟨b, hb, rfl⟩ := r
    rename_i a
    have hl : a < σ.length := by rw [← S.len]; exact (List.getElem?_eq_some_iff.mp hb).1
    obtain ⟨vs, k, ho, _⟩ := S.lists a b σ[a] hb (List.getElem?_eq_getElem hl)
    exact IsiPair.list_list ho rfl (end_same S (vbool ..) W)
  · obtain ⟨b, vs, k, rfl, _, ho, _⟩ := r
    exact IsiPair.tuple_tuple ho rfl (end_same S (vbool ..) W)
  · obtain ⟨x, t, _, rfl⟩ := r
    exact IsiPair.str_str (end_same S (vbool ..) W)

theorem sub_plain {slice : Expr} {o i : Value} (h : ∀ a b c d, slice ≠ .Slice a b c d) : subscripted slice false o i = operate [o, i] (getItem o i) := by
  cases slice <;> first | rfl | exact absurd rfl (h _ _ _ _)

theorem se_idx {v i : Expr} {a b : E} {pos : Pos} (h : SE K n cx v a) (hi : SE K n cx i b) (hs : ∀ a b c d, i ≠ .Slice a b c d) : SE K n cx (.Subscript v i pos) (.idx a b) := fun env A m g σ s Q R F S W => by
  refine PyProof.Rows.Subscript_ (wpAny_mono (h env A m g σ s _ R F S W) (fun o s₁ q => ?_) fun _ _ f => f)
  obtain ⟨r₁, g₁, σ₁, go₁, sx₁, rel₁, W₁⟩ := q
  refine wpAny_mono (hi env A m g₁ σ₁ s₁ _ R (F.go S go₁) go₁.st W₁) (fun k s₂ q => ?_) fun _ _ f => f
  obtain ⟨r₂, g₂, σ₂, go₂, sx₂, rel₂, W₂⟩ := q
  have rel₁' := go₂.rel go₁.st rel₁
  refine EndE.bind (go₁.trans go₂) (sx₁.trans sx₂) ?_
  have S₂ := go₂.st
  cases r₁ <;> cases r₂ <;> try exact False.elim W₂
  · obtain ⟨xs, u, hx, hk, q⟩ := W₂
    obtain ⟨t, rfl⟩ := rel₂
    obtain ⟨b₁, vs, k₁, rfl, _, hl, rr, e, z⟩ := S₂.list rel₁' hx
    rw [sizeLine_is] at z
    rcases hk with ⟨h0, hk⟩ | ⟨h0, h1, hk⟩
    · obtain ⟨w, hw, rw'⟩ := rr.get hk
      have hlt := (List.getElem?_eq_some_iff.mp hk).1
      exact PyProof.Rows.tail_any hl.isList.typeIs slot_list_getitem.lookup (wpAny_getItem_list hl.isList h0 (by walk_at "o") (by simpa using hw) (end_same S₂ rw' q)) (sub_plain hs)
    · obtain ⟨w, hw, rw'⟩ := rr.get hk
      exact PyProof.Rows.tail_any hl.isList.typeIs slot_list_getitem.lookup (wpAny_getItem_list_neg hl.isList h0 (by walk_at "o") (by walk_at "o") (by rw [e]; simpa using hw) (end_same S₂ rw' q)) (sub_plain hs)
  · rename_i ys i
    obtain ⟨⟨h0, h1⟩, u, hk, q⟩ := W₂
    obtain ⟨t, rfl⟩ := rel₂
    obtain ⟨b₁, vs, k₁, rfl, _, ho, rr⟩ := rel₁'
    obtain ⟨w, hw, rw'⟩ := rr.get hk
    have hlt' : i.toNat < vs.size := by simpa using (List.getElem?_eq_some_iff.mp hw).1
    have hj : seqIndex? i vs.size = some i.toNat := by
      unfold seqIndex?
      have e1 : ¬ i < 0 := by walk_at "o"
      have e2 : (0 ≤ i && i < (vs.size : Int)) = true := by simp; walk_at "o"
      simp only [e1, if_false, e2, if_true]
    have ht : PyProof.Rows.IsTup s₂.heap b₁ vs := ⟨_, ho, rfl, k₁, rfl⟩
    exact PyProof.Rows.tail_any ht.typeIs PySem.F.slot_tuple_getitem.lookup (PyProof.Rows.getItem_tuple ht (by walk_at "o") (by walk_at "o") hj (by simpa using hw) (end_same S₂ rw' q)) (sub_plain hs)
end
end Mini

set_option autoImplicit false
set_option linter.unusedVariables false
namespace Mini
open PySem

noncomputable def plainBase : Expr → Bool
  | .Call (.Name _ _) [] [] _ => false
  | _ => true
theorem base_eq {o : Expr} {name : Str} {env : Env} {t : Sem Value} (h : plainBase o = true) : attributeBase o name env t = t := by
  cases o <;> try rfl
  rename_i f as ks p
  cases f <;> try rfl
  cases as <;> try rfl
  cases ks <;> try rfl
  cases h

section
variable {K : Ctx} {pg : Pg} {n : Nat} {cx : Cx}

theorem se_isinst (G₀ : Gr K pg) {x y : Str} {p p' pos : Pos} {e : Expr} {a : E} {k : Kd} {T : String} (hx : cx.names.lookup x = some .globalImplicit) (hd : (x == ("__debug__" : Str)) = false) (hv : blts.lookup x = some (.builtin "isinstance"))
    (hy : cx.names.lookup y = some .globalImplicit) (hdy : (y == ("__debug__" : Str)) = false) (hvy : blts.lookup y = some (.type T)) (hT : (k, T) ∈ [(Kd.int, "int"), (.bool, "bool"), (.list, "list"), (.tup, "tuple"), (.str, "str")])
    (h : SE K n cx e a) (hst : isStar e = false) : SE K n cx (.Call (.Name x p) [e, .Name y p'] [] pos) (.isinst a k) := fun env A m g σ s Q R F S W => by
  refine wpAny_Call_ofName (load_blt G₀ F S hx hd hv ?_)
  show wpAny _ A (callWith pos (.builtin "isinstance") [] (backTo pos (starEach [e, .Name y p'] env)) []) _ _ s
  (rw [star_cons hst]; rw [star_cons (e := .Name y p') rfl])
  refine Calls.callWith_builtin rfl (Calls.evalArgs_plain (Calls.spliced_cons (wpAny_mono (h env A m g σ s _ R F S W) (fun v s₁ q => ?_) fun _ _ f => f)))
  obtain ⟨r₁, g₁, σ₁, go₁, sx₁, rel₁, b, hb, W₁⟩ := q
  refine Calls.spliced_cons (load_blt G₀ (F.go S go₁) go₁.st hy hdy hvy (Calls.spliced_nil ?_))
  exact EndE.bind go₁ sx₁ (isi_sound go₁.st hT rel₁ hb W₁)

theorem VRels.of_get {g : G} {h : Heap} : ∀ {xs : List V} {vs : List Value}, xs.length = vs.length → (∀ (i : Nat) (x : V) (v : Value), xs[i]? = some x → vs[i]? = some v → VRel K g h x v) → VRels K g h xs vs
  | [], [], _, _ => trivial
  | x :: xs, v :: vs, e, h' => ⟨h' 0 x v rfl rfl, VRels.of_get (by simpa using e) fun i y w h1 h2 => h' (i + 1) y w (by simpa using h1) (by simpa using h2)⟩
  | [], _ :: _, e, _ => by cases e
  | _ :: _, [], e, _ => by cases e
theorem se_listRange (G₀ : Gr K pg) {x y : Str} {p p' pos pos' : Pos} {e : Expr} {a : E} (hx : cx.names.lookup x = some .globalImplicit) (hd : (x == ("__debug__" : Str)) = false) (hv : blts.lookup x = some (.type "list"))
    (hy : cx.names.lookup y = some .globalImplicit) (hdy : (y == ("__debug__" : Str)) = false) (hvy : blts.lookup y = some (.type "range"))
    (h : SE K n cx e a) (hst : isStar e = false) : SE K n cx (.Call (.Name x p) [.Call (.Name y p') [e] [] pos'] [] pos) (.listRange a) := fun env A m g σ s Q R F S W => by
  refine wpAny_Call_ofName (load_blt G₀ F S hx hd hv ?_)
  show wpAny _ A (callWith pos (.type "list") [] (backTo pos (starEach [.Call (.Name y p') [e] [] pos'] env)) []) _ _ s
  rw [star_cons (e := .Call (.Name y p') [e] [] pos') rfl]
  refine callWith_type rfl (Calls.evalArgs_plain (Calls.spliced_cons (wpAny_Call_ofName (load_blt G₀ F S hy hdy hvy ?_))))
  show wpAny _ A (callWith pos' (.type "range") [] (backTo pos' (starEach [e] env)) []) _ _ s
  rw [star_cons hst]
  refine callWith_type rfl (Calls.evalArgs_plain (Calls.spliced_cons (wpAny_mono (h env A m g σ s _ R F S W) (fun v s₁ q => ?_) fun _ _ f => f)))
  obtain ⟨r₁, g₁, σ₁, go₁, sx₁, rel₁, W₁⟩ := q
  refine Calls.spliced_nil ?_
  cases r₁ <;> try exact W₁.elim
  rename_i N
  obtain ⟨t, rfl⟩ := rel₁
  refine call_range_1 (Calls.spliced_nil ?_)
  obtain ⟨⟨h0, h1⟩, W₁⟩ := W₁
  have hsz : Builtin.Range.rangeSize 0 N 1 = (N.toNat : Int) := by rw [rangeSize_one]; split <;> walk_at "o"
  refine call_list_range R.handled (IsRange.new ..) (small_one (by decide) (by decide) (by walk_at "o") (by walk_at "o")) hsz (by walk_at "o") fun h' tk acc' c' hk e' hacc => ?_
  refine EndE.trans go₁ sx₁ ?_
  rw [Heap.size_push] at e' ⊢
  refine end_list go₁.st (none_above (Nat.le_succ _)) (fun b o e => hk b o (Heap.get?_push_of_some _ e)) e' ?_ W₁
  refine VRels.of_get (by have := hacc.1; simp [rangeV, this]) fun i x v h1 h2 => ?_
  obtain ⟨t, rfl⟩ := hacc.2 i v (by simpa using h2)
  simp only [rangeV, List.getElem?_map, Option.map_eq_some_iff] at h1
  obtain ⟨j, hj, rfl⟩ := h1
  have : j = i := by
    obtain ⟨hl, he⟩ := List.getElem?_eq_some_iff.mp hj
    simpa using he.symm
  subst this
  exact ⟨t, by simp⟩

theorem VRel.out {g : G} {h : Heap} : ∀ {v : V} {w : Value}, VRel K g h v w → handedOut w = pure w
  | .none, _, q => by cases q; rfl
  | .bool _, _, q => by cases q; rfl
  | .int _, _, ⟨_, q⟩ => by cases q; rfl
  | .str _, _, ⟨_, _, _, q⟩ => by cases q; rfl
  | .ref _, _, ⟨_, _, q⟩ => by cases q; rfl
  | .tup _, _, ⟨_, _, _, q, _⟩ => by cases q; rfl
  | .inst _, _, ⟨_, _, _, _, q, _⟩ => by cases q; rfl
theorem se_hall (G₀ : Gr K pg) {x : Str} {p pos : Pos} {es : List Expr} {as : List E} (hx : cx.names.lookup x = some .globalImplicit) (hd : (x == ("__debug__" : Str)) = false) (hh : x = pg.hall) (h0 : x ≠ "") (h : SEs K n cx es as)
    (hst : ∀ e ∈ es, isStar e = false) (hne : es ≠ []) : SE K n cx (.Call (.Name x p) es [] pos) (.hall as) := fun env A m g σ s Q R F S W => by
  obtain ⟨hg, hf⟩ := G₀.hall x hh h0
  refine wpAny_Call_ofName (load_glob G₀ F S hx hd hg ?_)
  obtain ⟨N, mN, X⟩ := G₀.cls (hh ▸ h0)
  cases es with
  | nil => exact absurd rfl hne
  | cons e es =>
    refine PyProof.Rows.callWith_cls (h₀ := K.hB) X (wpAny_mono (h env A m g σ s pos _ R F S W) (fun vs s₁ q => ?_) fun _ _ f => f) (star_cons' (hst e (.head _))) (any_back fun e he => hst e (.tail _ he))
    obtain ⟨rs, g₁, σ₁, go₁, sx₁, rel₁, _, hl, W₁⟩ := q
    refine ⟨go₁.st.base, G₀.make (hh ▸ h0) A n s₁ vs _ _ R go₁.st.base (by rw [← rel₁.length]; exact hl) fun b d mA h' tk hb hd' I hf hk => EndE.trans go₁ sx₁ ?_⟩
    have go : Go K g₁ s₁.heap _ σ₁ h' := Go.imms go₁.st (fun c => c = b ∨ c = d) (fun c e => by rcases e with rfl | rfl <;> assumption) (fun c e => by rcases e with rfl | rfl; exact let ⟨o, q, _⟩ := I.obj; ⟨o, q⟩; exact let ⟨o, _, _, q, _⟩ := I.ns; ⟨o, q⟩) hk
    exact ⟨.inst rs, _, σ₁, go, ⟨rfl, rfl⟩, ⟨b, d, mA, vs, rfl, .inr (.inl rfl), .inr (.inr rfl), I, hf, go.rels go₁.st rel₁⟩, W₁⟩

theorem se_attr (G₀ : Gr K pg) {v : Expr} {x : Str} {pos : Pos} {a : E} {k : Nat} (h : SE K n cx v a) (hb : plainBase v = true) (hk : K.fields[k]? = some x) : SE K n cx (.Attribute v x pos) (.attr a k) := fun env A m g σ s Q R F S W => by
  have he : eval (.Attribute v x pos) env = (do
      let o ← eval v env
      standAt pos.atName
      let r ← holding [o] (getAttr o x true)
      letTemporaryGo v o r
      pure r) := by
    show (do
      let o ← attributeBase v x env (eval v env)
      standAt pos.atName
      let r ← holding [o] (getAttr o x true)
      letTemporaryGo v o r
      pure r) = _
    rw [base_eq hb]
  refine PyProof.Rows.Attribute_any_ (wpAny_mono (h env A m g σ s _ R F S W) (fun o s₁ q => ?_) fun _ _ f => f) he
  obtain ⟨r₁, g₁, σ₁, go₁, sx₁, rel₁, W₁⟩ := q
  cases r₁ <;> try exact False.elim W₁
  obtain ⟨u, hu, q⟩ := W₁
  obtain ⟨b, d, mA, vs, rfl, ib, id, I, hf, rr⟩ := rel₁
  obtain ⟨w, hw, rw'⟩ := rr.get hu
  exact G₀.attr A s₁ _ _ b d mA vs k x w go₁.st.base I hf hk hw rw'.out fun tk => EndE.trans go₁ sx₁ (end_same go₁.st rw' q)

theorem sliceFrom_eq (items : Array Value) (k : Int) (h : 0 ≤ k) : slicePick items (some k) none none = (items.toList.drop k.toNat).toArray := by
  by_cases hk : k.toNat ≤ items.size
  · have := slicePick_from items k.toNat hk
    rwa [Int.toNat_of_nonneg h] at this
  · have e : sliceBounds (some k) none none items.size = sliceBounds (some (items.size : Int)) none none items.size := by
      simp only [sliceBounds, Option.getD_none]
      have h1 : ¬ (k < 0) := by walk_at "o"
      have h2 : ¬ ((items.size : Int) < 0) := by walk_at "o"
      simp only [h1, h2, if_false, show (1 : Int) > 0 by decide, if_true]
      congr 1
      walk_at "o"
    unfold slicePick
    rw [e]
    have := slicePick_from items items.size (Nat.le_refl _)
    unfold slicePick at this
    (rw [this]; rw [List.drop_of_length_le (by simp)]; rw [List.drop_of_length_le (by simp; walk_at "o")])
theorem sliceTo_eq (items : Array Value) (k : Int) (h : 0 ≤ k) : slicePick items none (some k) none = (items.toList.take k.toNat).toArray := by
  by_cases hk : k.toNat ≤ items.size
  · have := slicePick_upto items k.toNat hk
    rwa [Int.toNat_of_nonneg h] at this
  · have e : sliceBounds none (some k) none items.size = sliceBounds none (some (items.size : Int)) none items.size := by
      simp only [sliceBounds, Option.getD_none]
      have h1 : ¬ (k < 0) := by walk_at "o"
      have h2 : ¬ ((items.size : Int) < 0) := by walk_at "o"
      simp only [h1, h2, if_false, show (1 : Int) > 0 by decide, if_true]
      congr 1
      congr 1
      walk_at "o"
    unfold slicePick
    rw [e]
    have := slicePick_upto items items.size (Nat.le_refl _)
    unfold slicePick at this
    (rw [this]; rw [List.take_of_length_le (by simp)]; rw [List.take_of_length_le (by simp; walk_at "o")])

theorem push2 {h : Heap} {o o' : Obj} : ∀ b x, h.get? b = some x → ((h.push o).push o').get? b = some x := fun b x e => Heap.get?_push_of_some _ (Heap.get?_push_of_some _ e)

theorem se_from {v i : Expr} {a b : E} {p pos : Pos} (h : SE K n cx v a) (hi : SE K n cx i b) : SE K n cx (.Subscript v (.Slice (some i) none none p) pos) (.from_ a b) := fun env A m g σ s Q R F S W => by
  refine PyProof.Rows.Subscript_ (wpAny_mono (h env A m g σ s _ R F S W) (fun o s₁ q => ?_) fun _ _ f => f)
  obtain ⟨r₁, g₁, σ₁, go₁, sx₁, rel₁, W₁⟩ := q
  refine wpAny_Slice ?_
  show wpAny _ A (eval i env) _ _ s₁
  refine wpAny_mono (hi env A m g₁ σ₁ s₁ _ R (F.go S go₁) go₁.st W₁) (fun k s₂ q => ?_) fun _ _ f => f
  obtain ⟨r₂, g₂, σ₂, go₂, sx₂, rel₂, W₂⟩ := q
  have rel₁' := go₂.rel go₁.st rel₁
  refine wpAny_pure (wpAny_pure ?_)
  cases r₁ <;> cases r₂ <;> try exact False.elim W₂
  obtain ⟨xs, hx, hk, q⟩ := W₂
  obtain ⟨t, rfl⟩ := rel₂
  obtain ⟨b₁, vs, k₁, rfl, _, hl, rr, e, z⟩ := go₂.st.list rel₁' hx
  refine PyProof.Rows.tail_any (ops := _) (hl.push _).isList.typeIs slot_list_getitem.lookup (wpAny_getItem_list_slice (hl.push _).isList (Heap.IsSliceOf.new ..) (.int _ t) .none .none (by simp) ?_ z) rfl
  refine EndE.trans (go₁.trans go₂) (sx₁.trans sx₂) ?_
  refine end_list go₂.st (none_above (by rw [Heap.size_push]; exact Nat.le_succ _)) push2 (Heap.get?_push_size _ rfl) ?_ q
  rw [sliceFrom_eq _ _ hk]
  exact rr.drop _
theorem se_upto {v i : Expr} {a b : E} {p pos : Pos} (h : SE K n cx v a) (hi : SE K n cx i b) : SE K n cx (.Subscript v (.Slice none (some i) none p) pos) (.upto a b) := fun env A m g σ s Q R F S W => by
  refine PyProof.Rows.Subscript_ (wpAny_mono (h env A m g σ s _ R F S W) (fun o s₁ q => ?_) fun _ _ f => f)
  obtain ⟨r₁, g₁, σ₁, go₁, sx₁, rel₁, W₁⟩ := q
  refine wpAny_Slice (wpAny_pure ?_)
  show wpAny _ A (eval i env) _ _ s₁
  refine wpAny_mono (hi env A m g₁ σ₁ s₁ _ R (F.go S go₁) go₁.st W₁) (fun k s₂ q => ?_) fun _ _ f => f
  obtain ⟨r₂, g₂, σ₂, go₂, sx₂, rel₂, W₂⟩ := q
  have rel₁' := go₂.rel go₁.st rel₁
  refine wpAny_pure ?_
  cases r₁ <;> cases r₂ <;> try exact False.elim W₂
  obtain ⟨xs, hx, hk, q⟩ := W₂
  obtain ⟨t, rfl⟩ := rel₂
  obtain ⟨b₁, vs, k₁, rfl, _, hl, rr, e, z⟩ := go₂.st.list rel₁' hx
  refine PyProof.Rows.tail_any (ops := _) (hl.push _).isList.typeIs slot_list_getitem.lookup (wpAny_getItem_list_slice (hl.push _).isList (Heap.IsSliceOf.new ..) .none (.int _ t) .none (by simp) ?_ z) rfl
  refine EndE.trans (go₁.trans go₂) (sx₁.trans sx₂) ?_
  refine end_list go₂.st (none_above (by rw [Heap.size_push]; exact Nat.le_succ _)) push2 (Heap.get?_push_size _ rfl) ?_ q
  rw [sliceTo_eq _ _ hk]
  exact rr.take _
end
end Mini

set_option autoImplicit false
set_option linter.unusedVariables false
namespace Mini
open PySem

section
variable {K : Ctx} {pg : Pg} {n : Nat} {cx : Cx}

theorem upd_get {h : Heap} {b c : Addr} {f : Obj → Obj} (e : c ≠ b) : (h.update b f).get? c = h.get? c := Heap.get?_update_ne h c b f e

/-- a list of ours is changed -/
theorem end_put {g : G} {σ : H} {s : Shared} (S : St K g σ s.heap) {i : Nat} {b : Addr} {xs ys : List V} {vs ws : Array Value} {k : Nat} {Q : P} {u : V} {w : Value} {f : Array Value → Array Value} (hb : g.ρ[i]? = some b) (hx : σ[i]? = some xs) (h0 : i ≠ 0)
    (hl : IsL s.heap b vs k) (e : f vs = ws) (r : VRels K g s.heap ys ws.toList) (hz : ys.length ≤ lim) (ru : VRel K g s.heap u w) (q : Q u (σ.set i ys)) : EndE K g s Q w { s with heap := s.heap.update b (Obj.mapSeq f) } := by
  subst e
  have go : Go K g s.heap g (σ.set i ys) (s.heap.update b (Obj.mapSeq f)) := Go.put S hb hx h0 (fun c hc => upd_get hc) (hl.update f) r hz
  exact ⟨u, g, _, go, ⟨rfl, rfl⟩, go.rel S ru, q⟩

theorem few1 {e : Expr} {env : Env} {pos : Pos} (hst : isStar e = false) : ((backTo pos (starEach [e] env)).all (fun x => !x.1) && (backToKw pos (keywordEach [] env)).all (fun x => x.1.isSome)
      && decide (([e] : List Expr).length + ([] : List Keyword).length + (if ([] : List Keyword).isEmpty then 0 else 1) < 30)) = true := by
  rw [star_cons hst]; rfl

theorem meth_base {g : G} {σ : H} {s : Shared} (S : St K g σ s.heap) {a : Nat} {w : Value} (r : VRel K g s.heap (.ref a) w) : s.TypeIs w "list" ∧ ∀ a, w = .ref a → ∃ ob, s.heap.get? a = some ob ∧ ob.dict = none := by
  obtain ⟨b, hb, rfl⟩ := r
  have hl : a < σ.length := by rw [← S.len]; exact (List.getElem?_eq_some_iff.mp hb).1
  obtain ⟨vs, k, ho, _⟩ := S.lists a b σ[a] hb (List.getElem?_eq_getElem hl)
  exact ⟨⟨_, ho, rfl⟩, fun c e => by cases e; exact ⟨_, ho, rfl⟩⟩

set_option genInjectivity false
set_option genSizeOfSpec false
inductive M1E (K : Ctx) (f : M1) (l : Addr) (R : Value → Shared → Prop) (w : Value) (s₂ : Shared) : Prop
  | mk (i : Nat) (g₂ : G) (σ₂ : H) (r₂ : V) (Q : P) (S : St K g₂ σ₂ s₂.heap) (rl : VRel K g₂ s₂.heap (.ref i) (.ref l)) (rel : VRel K g₂ s₂.heap r₂ w) (W : me1 f (.ref i) r₂ σ₂ Q) (hR : ∀ v s₃, EndE K g₂ s₂ Q v s₃ → R v s₃)
/-- a method of a list, of one argument -/
theorem se_meth1 {o e : Expr} {name : Str} {apos pos : Pos} {a b : E} {f : M1} {id : String} (ho : SE K n cx o a) (he : SE K n cx e b) (hb : plainBase o = true) (hst : isStar e = false) (hline : (apos.endLine == pos.line) = true) (slot : Slot "list" name id) (hty : typeOf (.builtin id) = pure (.type "method_descriptor"))
    (hm : ∀ (A : Around) (s : Shared) (x : Sem Value) (l : Addr) (R : Value → Shared → Prop), wpAny (model K.prog K.w) A x (M1E K f l R) noE s →
      wpAny (model K.prog K.w) A (callWith pos (.builtin id) [.ref l] [(false, x)] []) R noE s) :
    SE K n cx (.Call (.Attribute o name apos) [e] [] pos) (.m1 f a b) := fun env A m g σ s Q R F S W => by
  refine wpAny_Call_method (T := "list") (id := id) (base_eq hb) (few1 hst) hline PySem.F.plainAttrs_list slot hty (wpAny_mono (ho env A m g σ s _ R F S W) (fun v s₁ q => ?_) fun _ _ f => f)
  obtain ⟨r₁, g₁, σ₁, go₁, sx₁, rel₁, hr, W₁⟩ := q
  cases r₁ <;> try exact hr.elim
  rename_i i
  obtain ⟨t1, t2⟩ := meth_base go₁.st rel₁
  refine ⟨t1, t2, ?_⟩
  rw [star_cons hst]
  obtain ⟨b₁, hb₁, rfl⟩ := _root_.id rel₁
  refine hm A s₁ _ b₁ _ (wpAny_mono (he env A m g₁ σ₁ s₁ _ R (F.go S go₁) go₁.st W₁) (fun w s₂ q => ?_) fun _ _ f => f)
  obtain ⟨r₂, g₂, σ₂, go₂, sx₂, rel₂, W₂⟩ := q
  exact ⟨i, g₂, σ₂, r₂, Q, go₂.st, go₂.rel go₁.st rel₁, rel₂, W₂, fun v s₃ q => EndE.trans (go₁.trans go₂) (sx₁.trans sx₂) q⟩

theorem se_append {o e : Expr} {apos pos : Pos} {a b : E} (ho : SE K n cx o a) (he : SE K n cx e b) (hb : plainBase o = true) (hst : isStar e = false) (hline : (apos.endLine == pos.line) = true) :
    SE K n cx (.Call (.Attribute o "append" apos) [e] [] pos) (.m1 .append a b) := by
  refine se_meth1 ho he hb hst hline PySem.F.slot_list_append PySem.F.type_list_append fun A s x l R h => P.append_list (wpAny_mono h (fun w s₂ q => ?_) fun _ _ f => f)
  obtain ⟨i, g₂, σ₂, r₂, Q, S₂, rl, rel₂, ⟨xs, h0, hx, hz, q⟩, hR⟩ := q
  obtain ⟨b₂, vs, k, e1, hb₂, hl, rr, e, z⟩ := S₂.list rl hx
  cases e1
  exact ⟨vs, k, z, hl, hR _ _ (end_put (u := .none) S₂ hb₂ hx h0 hl rfl (by rw [Array.toList_push]; exact rr.append ⟨rel₂, trivial⟩) (by simp; walk_at "o") rfl q)⟩

theorem se_pop {o e : Expr} {apos pos : Pos} {a b : E} (ho : SE K n cx o a) (he : SE K n cx e b) (hb : plainBase o = true) (hst : isStar e = false) (hline : (apos.endLine == pos.line) = true) :
    SE K n cx (.Call (.Attribute o "pop" apos) [e] [] pos) (.m1 .pop a b) := by
  refine se_meth1 ho he hb hst hline PySem.F.slot_list_pop PySem.F.type_list_pop fun A s x l R h => P.pop_at_list (wpAny_mono h (fun w s₂ q => ?_) fun _ _ f => f)
  obtain ⟨i, g₂, σ₂, r₂, Q, S₂, rl, rel₂, W, hR⟩ := q
  cases r₂ <;> try exact False.elim W
  rename_i j
  obtain ⟨xs, u, h0, hx, hj, hu, q⟩ := W
  obtain ⟨b₂, vs, k, e1, hb₂, hl, rr, e, z⟩ := S₂.list rl hx
  cases e1
  obtain ⟨t, rfl⟩ := rel₂
  obtain ⟨w, hw, rw'⟩ := rr.get hu
  have hlt : j.toNat < vs.size := by simpa using (List.getElem?_eq_some_iff.mp hw).1
  rw [sizeLine_is] at z
  have hk : seqIndex? j vs.size = some j.toNat := by
    unfold seqIndex?
    have e1 : ¬ j < 0 := by walk_at "o"
    have e2 : (0 ≤ j && j < (vs.size : Int)) = true := by simp; walk_at "o"
    simp only [e1, if_false, e2, if_true]
  refine ⟨vs, k, j, t, j.toNat, w, by rw [sizeLine_is]; exact z, rfl, hl, by simp [Builtin.List.listFitsIndex]; walk_at "o", hk, by simpa using hw, hR _ _ (end_put S₂ hb₂ hx h0 hl rfl ?_ ?_ rw' q)⟩
  · have : (vs.eraseIdxIfInBounds j.toNat).toList = vs.toList.eraseIdx j.toNat := by
      (rw [Array.eraseIdxIfInBounds]; rw [dif_pos hlt]; rw [Array.toList_eraseIdx])
    rw [this]
    exact rr.eraseIdx _
  · have := S₂.small xs (List.mem_of_getElem? hx)
    have h2 := List.length_eraseIdx_le xs j.toNat
    walk_at "o"

theorem ints_rel {g : G} {h : Heap} : ∀ {is : List Int} {vs : List Value}, VRels K g h (is.map V.int) vs → ∀ v ∈ vs, ∃ i t, v = .int i t
  | [], [], _, v, hv => nomatch hv
  | i :: is, w :: vs, r, v, hv => by
    rcases List.mem_cons.mp hv with rfl | hv
    · obtain ⟨t, e⟩ := r.1; exact ⟨i, t, e⟩
    · exact ints_rel (is := is) r.2 v hv
  | [], _ :: _, r, _, _ => r.elim
  | _ :: _, [], r, _, _ => r.elim
noncomputable def isInt (i : Int) : Value → Bool
  | .int j _ => j == i
  | _ => false
theorem ints_count {g : G} {h : Heap} (j : Int) : ∀ {is : List Int} {vs : List Value}, VRels K g h (is.map V.int) vs → vs.countP (isInt j) = is.count j
  | [], [], _ => rfl
  | i :: is, w :: vs, r => by
    obtain ⟨t, rfl⟩ := r.1
    (rw [List.countP_cons]; rw [List.count_cons]; rw [ints_count j (is := is) r.2])
    rfl
  | [], _ :: _, r => r.elim
  | _ :: _, [], r => r.elim
theorem ints_get {g : G} {h : Heap} {is : List Int} {vs : List Value} (r : VRels K g h (is.map V.int) vs) {k : Nat} {v : Value} (hv : vs[k]? = some v) : ∃ i t, is[k]? = some i ∧ v = .int i t := by
  have hl := r.length
  have hk := (List.getElem?_eq_some_iff.mp hv).1
  simp at hl
  have hk' : k < is.length := by walk_at "o"
  obtain ⟨w, hw, rw'⟩ := r.get (i := k) (v := .int is[k]) (by simp [hk'])
  rw [hv] at hw; cases hw
  obtain ⟨t, e⟩ := rw'
  exact ⟨is[k], t, by simp [hk'], e⟩

theorem se_count {o e : Expr} {apos pos : Pos} {a b : E} (ho : SE K n cx o a) (he : SE K n cx e b) (hb : plainBase o = true) (hst : isStar e = false) (hline : (apos.endLine == pos.line) = true) :
    SE K n cx (.Call (.Attribute o "count" apos) [e] [] pos) (.m1 .count a b) := by
  refine se_meth1 ho he hb hst hline PySem.F.slot_list_count PySem.F.type_list_count fun A s x l R h => P.count_list (wpAny_mono h (fun w s₂ q => ?_) fun _ _ f => f)
  obtain ⟨i, g₂, σ₂, r₂, Q, S₂, rl, rel₂, W, hR⟩ := q
  cases r₂ <;> try exact False.elim W
  rename_i j
  obtain ⟨xs, is, hx, rfl, q⟩ := W
  obtain ⟨b₂, vs, k, e1, hb₂, hl, rr, e, z⟩ := S₂.list rl hx
  cases e1
  obtain ⟨t, rfl⟩ := rel₂
  refine ⟨vs, k, isInt j, hl, fun y hy => ?_, hR _ _ ?_⟩
  · obtain ⟨i, u, rfl⟩ := ints_rel rr y (by simpa using hy)
    exact MeetsSeq.EqGives.int i j u t
  · rw [ints_count j rr]
    exact end_same S₂ (vint ..) q
theorem se_index {o e : Expr} {apos pos : Pos} {a b : E} (ho : SE K n cx o a) (he : SE K n cx e b) (hb : plainBase o = true) (hst : isStar e = false) (hline : (apos.endLine == pos.line) = true) :
    SE K n cx (.Call (.Attribute o "index" apos) [e] [] pos) (.m1 .index a b) := by
  refine se_meth1 ho he hb hst hline PySem.F.slot_list_index PySem.F.type_list_index fun A s x l R h => P.index_list (wpAny_mono h (fun w s₂ q => ?_) fun _ _ f => f)
  obtain ⟨i, g₂, σ₂, r₂, Q, S₂, rl, rel₂, W, hR⟩ := q
  cases r₂ <;> try exact False.elim W
  rename_i j
  obtain ⟨xs, is, hx, rfl, hm, q⟩ := W
  obtain ⟨b₂, vs, k, e1, hb₂, hl, rr, e, z⟩ := S₂.list rl hx
  cases e1
  obtain ⟨t, rfl⟩ := rel₂
  have hlt := List.idxOf_lt_length_of_mem hm
  have hlt' : is.idxOf j < vs.size := by simpa [e] using hlt
  rw [sizeLine_is] at z
  refine ⟨vs, k, isInt j, is.idxOf j, hlt', hl, fun y hy => ?_, by walk_at "o", ?_, fun m hm' hlt2 => ?_, hR _ _ (end_same S₂ (vint ..) q)⟩
  · obtain ⟨i, u, rfl⟩ := ints_rel rr y (by simpa using hy)
    exact MeetsSeq.EqGives.int i j u t
  · obtain ⟨i, u, h1, h2⟩ := ints_get rr (k := is.idxOf j) (v := vs[is.idxOf j]) (by simp [hlt'])
    rw [h2]
    have : is[is.idxOf j]? = some j := by rw [List.getElem?_eq_getElem hlt]; simp
    rw [this] at h1; cases h1
    simp [isInt]
  · obtain ⟨i, u, h1, h2⟩ := ints_get rr (k := m) (v := vs[m]) (by simp [hm'])
    rw [h2]
    have hne := List.not_of_lt_findIdx (xs := is) (p := (· == j)) (i := m) (by simpa [List.idxOf] using hlt2)
    obtain ⟨hlm, hem⟩ := List.getElem?_eq_some_iff.mp h1
    simp [isInt]
    rw [← hem]
    simpa using hne


theorem se_meth0 {o : Expr} {name : Str} {apos pos : Pos} {a : E} {f : M0} {id : String} (ho : SE K n cx o a) (hb : plainBase o = true) (hline : (apos.endLine == pos.line) = true) (slot : Slot "list" name id) (hty : typeOf (.builtin id) = pure (.type "method_descriptor"))
    (hm : ∀ (A : Around) (s : Shared) (i : Nat) (l : Addr) (g : G) (σ : H) (Q : P), St K g σ s.heap → VRel K g s.heap (.ref i) (.ref l) → me0 f (.ref i) σ Q → wpAny (model K.prog K.w) A (callWith pos (.builtin id) [.ref l] [] []) (EndE K g s Q) noE s) :
    SE K n cx (.Call (.Attribute o name apos) [] [] pos) (.m0 f a) := fun env A m g σ s Q R F S W => by
  refine wpAny_Call_method (T := "list") (id := id) (base_eq hb) rfl hline PySem.F.plainAttrs_list slot hty (wpAny_mono (ho env A m g σ s _ R F S W) (fun v s₁ q => ?_) fun _ _ f => f)
  obtain ⟨r₁, g₁, σ₁, go₁, sx₁, rel₁, W₁⟩ := q
  cases r₁ <;> try (cases f <;> exact W₁.elim)
  rename_i i
  obtain ⟨t1, t2⟩ := meth_base go₁.st rel₁
  refine ⟨t1, t2, ?_⟩
  obtain ⟨b₁, hb₁, rfl⟩ := _root_.id rel₁
  exact EndE.bind go₁ sx₁ (hm A s₁ i b₁ g₁ σ₁ Q go₁.st rel₁ W₁)
theorem se_reverse {o : Expr} {apos pos : Pos} {a : E} (ho : SE K n cx o a) (hb : plainBase o = true) (hline : (apos.endLine == pos.line) = true) : SE K n cx (.Call (.Attribute o "reverse" apos) [] [] pos) (.m0 .reverse a) := by
  refine se_meth0 ho hb hline PySem.F.slot_list_reverse PySem.F.type_list_reverse fun A s i l g σ Q S rl W => ?_
  obtain ⟨xs, h0, hx, q⟩ := W
  obtain ⟨b₂, vs, k, e1, hb₂, hl, rr, e, z⟩ := S.list rl hx
  cases e1
  refine P.reverse_list hl (end_put (u := .none) S hb₂ hx h0 hl rfl (by rw [Array.toList_reverse]; exact rr.reverse) ?_ rfl q) z
  rw [List.length_reverse]; exact S.small xs (List.mem_of_getElem? hx)
theorem se_clear {o : Expr} {apos pos : Pos} {a : E} (ho : SE K n cx o a) (hb : plainBase o = true) (hline : (apos.endLine == pos.line) = true) : SE K n cx (.Call (.Attribute o "clear" apos) [] [] pos) (.m0 .clear a) := by
  refine se_meth0 ho hb hline PySem.F.slot_list_clear PySem.F.type_list_clear fun A s i l g σ Q S rl W => ?_
  obtain ⟨xs, h0, hx, q⟩ := W
  obtain ⟨b₂, vs, k, e1, hb₂, hl, rr, e, z⟩ := S.list rl hx
  cases e1
  exact P.clear_list hl (end_put (u := .none) (ws := #[]) (ys := []) S hb₂ hx h0 hl rfl trivial (Nat.zero_le _) rfl q) z
end
end Mini

set_option autoImplicit false
set_option linter.unusedVariables false
namespace Mini
open PySem

/-- an object that is no frame's and no cell -/
noncomputable def Apart (o : Obj) : Prop := (∀ es ep, o.data ≠ .dict es ep) ∧ ∀ v, o.data ≠ .cell v

set_option genInjectivity false
set_option genSizeOfSpec false
inductive Pv (K : Ctx) (g : G) (h : Heap) (b : Addr) : Prop
  | mk (n1 : ¬ g.own b) (n2 : K.hB.get? b = none) (o : Obj) (e : h.get? b = some o) (ap : Apart o)
theorem Pv.n1 {K : Ctx} {g : G} {h : Heap} {b : Addr} (p : Pv K g h b) : ¬ g.own b := by cases p; assumption
inductive Nx (K : Ctx) (X : Addr → Prop) (g : G) (s : Shared) (σ : H) (v : V) (w : Value) (J : G → Heap → Prop) (s' : Shared) : Prop
  | mk (g' : G) (go : GoX K X g s.heap g' σ s'.heap) (sx : Sx s s') (rel : VRel K g' s'.heap v w) (j : J g' s'.heap)
inductive NxS (K : Ctx) (X : Addr → Prop) (g : G) (s : Shared) (σ : H) (v : V) (J : G → Heap → Prop) (r : Option Value) (s' : Shared) : Prop
  | mk (w : Value) (g' : G) (hr : r = some w) (go : GoX K X g s.heap g' σ s'.heap) (sx : Sx s s') (rel : VRel K g' s'.heap v w) (j : J g' s'.heap)
inductive Sto (K : Ctx) (X : Addr → Prop) (g : G) (s : Shared) (σ : H) (r : Option Value) (s' : Shared) : Prop
  | mk (hr : r = none) (st : St K g σ s'.heap) (hk : ∀ b o, s.heap.get? b = some o → ¬ X b → s'.heap.get? b = some o) (sx : Sx s s')
structure Itr (K : Ctx) (A : Around) (tgt : Expr) (it : Value) (X : Addr → Prop) (vs : List V) (ok : H → Prop) (J : Nat → G → Heap → Prop) : Prop where
  priv : ∀ i g h, J i g h → ∀ b, X b → Pv K g h b
  stay : ∀ i (Y : Addr → Prop) g σ h g' σ' h', J i g h → St K g σ h → GoX K Y g h g' σ' h' → (∀ b, Y b → ¬ X b) → J i g' h'
  next : ∀ i g σ (s : Shared) v, J i g s.heap → St K g σ s.heap → ok σ → vs[i]? = some v →
    wpAny (model K.prog K.w) A (pyNext it) (fun r s' => ∃ w, r = some w ∧ wpAny (model K.prog K.w) A (letOwnedTupleGo tgt it w) (fun _ s'' => Nx K X g s σ v w (J (i + 1)) s'') noE s') noE s
  nextN : (∃ x p, tgt = .Name x p) → ∀ i g σ (s : Shared) v, J i g s.heap → St K g σ s.heap → ok σ → vs[i]? = some v →
    wpAny (model K.prog K.w) A (pyNext it) (NxS K X g s σ v (J (i + 1))) noE s
  self : ∀ i g (s : Shared) (Q : Value → Shared → Prop), J i g s.heap → Q it s → wpAny (model K.prog K.w) A (pyIter it) Q noE s
  stop : ∀ i g σ (s : Shared), J i g s.heap → St K g σ s.heap → ok σ → vs[i]? = none →
    wpAny (model K.prog K.w) A (pyNext it) (Sto K X g s σ) noE s
inductive JL (K : Ctx) (I b : Addr) (a : Nat) (i : Nat) (g : G) (h : Heap) : Prop
  | mk (hi : h.IsListIter I b i) (h2 : ¬ g.own I) (h3 : K.hB.get? I = none) (h4 : g.ρ[a]? = some b)
inductive JR (K : Ctx) (I : Addr) (N : Int) (i : Nat) (g : G) (h : Heap) : Prop
  | mk (hi : IsRangeIter h I i (N - i) 1) (h2 : ¬ g.own I) (h3 : K.hB.get? I = none)
inductive JE (K : Ctx) (e I b : Addr) (a : Nat) (i : Nat) (g : G) (h : Heap) : Prop
  | mk (old : Value) (he : IsEnum h e I i old) (hi : h.IsListIter I b i) (h2 : ¬ g.own I) (h3 : K.hB.get? I = none) (h4 : ¬ g.own e) (h5 : K.hB.get? e = none) (h6 : g.ρ[a]? = some b)
theorem or2 {P : Addr → Prop} {a b : Addr} (h1 : P a) (h2 : P b) : ∀ x, (x = a ∨ x = b) → P x := by
  rintro x (rfl | rfl)
  · exact h1
  · exact h2
section
variable {K : Ctx} {pg : Pg} {n : Nat} {cx : Cx} {A : Around}

theorem GoX.step {X Y : Addr → Prop} {g g₁ g₂ : G} {σ₁ σ₂ : H} {h h₁ h₂ : Heap} (q : GoX K Y g h g₁ σ₁ h₁) (r : GoX K X g₁ h₁ g₂ σ₂ h₂) (hx : ∀ b, X b → Y b ∨ h.get? b = none) : GoX K Y g h g₂ σ₂ h₂ where
  st := r.st
  pre := q.pre.trans r.pre
  imm := fun b i => r.imm b (q.imm b i)
  new := fun b o => by
    rcases r.new b o with x | x
    · exact q.new b x
    · cases e : h.get? b with
      | none => exact .inr rfl
      | some ob => obtain ⟨o', e'⟩ := q.there b ob e; rw [e'] at x; cases x
  keep := fun b o e n nx => by
    refine r.keep b o (q.keep b o e n nx) (fun hb => ?_) fun z => ?_
    · rcases q.new b (.inl hb) with x | x
      · rcases x with x | x
        · exact n x
        · exact (q.st.imm b (q.imm b x)).2.1 hb
      · rw [e] at x; cases x
    · rcases hx b z with y | y
      · exact nx y
      · rw [y] at e; cases e
  there := fun b o e => by
    obtain ⟨o', e'⟩ := q.there b o e
    exact r.there b o' e'
theorem GoX.halt {X Y : Addr → Prop} {g g₁ : G} {σ₁ : H} {h h₁ h₂ : Heap} (q : GoX K Y g h g₁ σ₁ h₁) (S : St K g₁ σ₁ h₂) (hk : ∀ b o, h₁.get? b = some o → ¬ X b → h₂.get? b = some o) (hx : ∀ b, X b → h.get? b = none) : GoX K Y g h g₁ σ₁ h₂ where
  st := S
  pre := q.pre
  imm := q.imm
  new := q.new
  keep := fun b o e n nx => hk b o (q.keep b o e n nx) fun z => by rw [hx b z] at e; cases e
  there := fun b o e => by
    obtain ⟨o', e'⟩ := q.there b o e
    exact ⟨o', hk b o' e' fun z => by rw [hx b z] at e; cases e⟩

/-- a walk over a list of ours -/
theorem itr_list {tgt : Expr} {I b : Addr} {a : Nat} {xs : List V} (hh : A.handled = none) (ht : ∀ it w, letOwnedTupleGo tgt it w = pure ()) :
    Itr K A tgt (.ref I) (· = I) xs (fun σ => σ[a]? = some xs) (JL K I b a) where
  priv := by
    rintro i g h ⟨⟨o, ho, _, hd⟩, h2, h3, _⟩ c e
    subst e
    exact ⟨h2, h3, o, ho, by (rw [Apart]; rw [hd]); exact ⟨fun _ _ e => (nomatch e), fun _ e => (nomatch e)⟩⟩
  stay := by
    rintro i Y g σ h g' σ' h' ⟨⟨o, ho, hc, hd⟩, h2, h3, h4⟩ S q hY
    refine ⟨⟨o, q.keep I o ho (fun z => h2 (.inl z)) fun z => hY I z rfl, hc, hd⟩, q.priv ho h2, h3, pre_get q.pre h4⟩
  next := by
    rintro i g σ s v ⟨hi, h2, h3, h4⟩ S ok hv
    obtain ⟨b₁, vs, k, e1, hb₁, hl, rr, e, z⟩ := S.list (w := .ref b) ⟨b, h4, rfl⟩ ok
    cases e1
    obtain ⟨w, hw, rw'⟩ := rr.get hv
    refine wpAny_pyNext_list_item hi hl.isList (by simpa using hw) fun h' hi' hs' => ⟨w, rfl, ?_⟩
    rw [ht]
    obtain ⟨o', ho', _⟩ := id hi'
    have go : GoX K (· = I) g s.heap g σ h' := GoX.sameBut S ⟨h2, h3⟩ ho' hs'.extBut
    exact wpAny_pure ⟨g, go, ⟨rfl, rfl⟩, go.rel S (fun c e => e ▸ h2) rw', hi', h2, h3, h4⟩
  nextN := by
    rintro _ i g σ s v ⟨hi, h2, h3, h4⟩ S ok hv
    obtain ⟨b₁, vs, k, e1, hb₁, hl, rr, e, z⟩ := S.list (w := .ref b) ⟨b, h4, rfl⟩ ok
    cases e1
    obtain ⟨w, hw, rw'⟩ := rr.get hv
    refine wpAny_pyNext_list_item hi hl.isList (by simpa using hw) fun h' hi' hs' => ?_
    obtain ⟨o', ho', _⟩ := id hi'
    have go : GoX K (· = I) g s.heap g σ h' := GoX.sameBut S ⟨h2, h3⟩ ho' hs'.extBut
    exact ⟨w, g, rfl, go, ⟨rfl, rfl⟩, go.rel S (fun c e => e ▸ h2) rw', hi', h2, h3, h4⟩
  self := by
    rintro i g s Q ⟨hi, _⟩ q
    exact wpAny_pyIter_listiter hi q
  stop := by
    rintro i g σ s ⟨hi, h2, h3, h4⟩ S ok hv
    obtain ⟨b₁, vs, k, e1, hb₁, hl, rr, e, z⟩ := S.list (w := .ref b) ⟨b, h4, rfl⟩ ok
    cases e1
    have hx : vs[i]? = none := by
      rw [List.getElem?_eq_none_iff] at hv
      rw [Array.getElem?_eq_none_iff]; walk_at "o"
    refine wpAny_pyNext_list_end hh hi hl.isList hx fun h' he => ⟨rfl, ?_, fun c o e n => he c o n e, ⟨rfl, rfl⟩⟩
    exact S.change fun c o e z => he c o (by
      rintro rfl
      rcases z with z | ⟨o', z⟩
      · exact h2 z
      · rw [h3] at z; cases z) e

theorem itr_range {tgt : Expr} {I : Addr} {N : Int} (hh : A.handled = none) (ht : ∀ it w, letOwnedTupleGo tgt it w = pure ()) (h0 : 0 ≤ N) :
    Itr K A tgt (.ref I) (· = I) (rangeV N) (fun _ => True) (JR K I N) where
  priv := by
    rintro i g h ⟨ho, h2, h3⟩ c e
    subst e
    exact ⟨h2, h3, _, ho, ⟨fun _ _ e => (nomatch e), fun _ e => (nomatch e)⟩⟩
  stay := by
    rintro i Y g σ h g' σ' h' ⟨ho, h2, h3⟩ S q hY
    exact ⟨q.keep I _ ho (fun z => h2 (.inl z)) fun z => hY I z rfl, q.priv ho h2, h3⟩
  next := by
    rintro i g σ s v ⟨hi, h2, h3⟩ S ok hv
    have hv' : v = .int i ∧ (i : Int) < N := by
      simp only [rangeV, List.getElem?_map, Option.map_eq_some_iff] at hv
      obtain ⟨j, hj, rfl⟩ := hv
      obtain ⟨hl, he⟩ := List.getElem?_eq_some_iff.mp hj
      simp at hl he
      subst he
      exact ⟨rfl, by walk_at "o"⟩
    obtain ⟨rfl, hlt⟩ := hv'
    refine wpAny_pyNext_range_item hi (by walk_at "o") fun h' hi' hs' => ⟨_, rfl, ?_⟩
    rw [ht]
    have go : GoX K (· = I) g s.heap g σ h' := GoX.sameBut S ⟨h2, h3⟩ hi' hs'.extBut
    refine wpAny_pure ⟨g, go, ⟨rfl, rfl⟩, ⟨_, rfl⟩, ?_, h2, h3⟩
    have e1 : (((i + 1 : Nat) : Int)) = (i : Int) + 1 := by walk_at "o"
    (rw [e1]; rw [show N - ((i : Int) + 1) = N - i - 1 by walk_at "o"])
    exact hi'
  nextN := by
    rintro _ i g σ s v ⟨hi, h2, h3⟩ S ok hv
    have hv' : v = .int i ∧ (i : Int) < N := by
      simp only [rangeV, List.getElem?_map, Option.map_eq_some_iff] at hv
      obtain ⟨j, hj, rfl⟩ := hv
      obtain ⟨hl, he⟩ := List.getElem?_eq_some_iff.mp hj
      simp at hl he
      subst he
      exact ⟨rfl, by walk_at "o"⟩
    obtain ⟨rfl, hlt⟩ := hv'
    refine wpAny_pyNext_range_item hi (by walk_at "o") fun h' hi' hs' => ?_
    have go : GoX K (· = I) g s.heap g σ h' := GoX.sameBut S ⟨h2, h3⟩ hi' hs'.extBut
    refine ⟨_, g, rfl, go, ⟨rfl, rfl⟩, ⟨_, rfl⟩, ?_, h2, h3⟩
    have e1 : (((i + 1 : Nat) : Int)) = (i : Int) + 1 := by walk_at "o"
    (rw [e1]; rw [show N - ((i : Int) + 1) = N - i - 1 by walk_at "o"])
    exact hi'
  self := by
    rintro i g s Q ⟨hi, _⟩ q
    exact wpAny_pyIter_rangeiter hi q
  stop := by
    rintro i g σ s ⟨hi, h2, h3⟩ S ok hv
    have hlt : N ≤ i := by
      simp [rangeV] at hv
      walk_at "o"
    refine wpAny_pyNext_range_end hh hi (by walk_at "o") fun h' he => ⟨rfl, ?_, fun c o e n => he c o n e, ⟨rfl, rfl⟩⟩
    exact S.change fun c o e z => he c o (by
      rintro rfl
      rcases z with z | ⟨o', z⟩
      · exact h2 z
      · rw [h3] at z; cases z) e
theorem GoX.gain {X : Addr → Prop} {g g₁ : G} {σ₁ : H} {h h₁ : Heap} (q : GoX K X g h g₁ σ₁ h₁) (N : Addr → Prop) (hN : ∀ b, N b → h.get? b = none ∧ b ∉ g₁.ρ ∧ K.hB.get? b = none ∧ ∃ o, h₁.get? b = some o) : GoX K X g h ⟨g₁.ρ, fun b => g₁.ι b ∨ N b⟩ σ₁ h₁ := by
  have mono : ∀ {xs : List V} {ws : List Value}, VRels K g₁ h₁ xs ws → VRels K ⟨g₁.ρ, fun b => g₁.ι b ∨ N b⟩ h₁ xs ws := fun {xs ws} r => VRels.mono (g := g₁) (g' := ⟨g₁.ρ, fun b => g₁.ι b ∨ N b⟩) (fun _ _ e => e) (fun _ i => .inl i) (fun b o _ e => e) _ _ r
  refine ⟨⟨q.st.base, q.st.len, fun i a ys h1 h2 => ?_, q.st.nodup, q.st.small, q.st.fresh, fun a i => ?_⟩, q.pre, fun b i => .inl (q.imm b i), fun a x => ?_, q.keep, q.there⟩
  · obtain ⟨vs, n, e', r'⟩ := q.st.lists i a ys h1 h2
    exact ⟨vs, n, e', mono r'⟩
  · rcases i with i | i
    · exact q.st.imm a i
    · obtain ⟨_, h2, h3, h4⟩ := hN a i
      exact ⟨h3, h2, h4⟩
  · rcases x with x | x
    · exact q.new a (.inl x)
    · rcases x with x | x
      · exact q.new a (.inr x)
      · exact .inr (hN a x).1
theorem fresh_not {g : G} {σ : H} {h : Heap} (S : St K g σ h) {b : Addr} (e : h.get? b = none) : ¬ g.own b ∧ K.hB.get? b = none := by
  refine ⟨fun z => ?_, ?_⟩
  · rcases z with z | z
    · obtain ⟨o, e'⟩ := S.there (g := g) (List.prefix_refl _) z
      rw [e] at e'; cases e'
    · obtain ⟨_, _, o, e'⟩ := S.imm b z
      rw [e] at e'; cases e'
  · cases z : K.hB.get? b with
    | none => rfl
    | some o => rw [S.base b o z] at e; cases e

theorem enumV_get : ∀ (xs : List V) (k i : Nat) (v : V), (enumV k xs)[i]? = some v → ∃ x, xs[i]? = some x ∧ v = .tup [.int ((k + i : Nat) : Int), x]
  | [], k, i, v, h => by simp [enumV] at h
  | x :: xs, k, 0, v, h => by simp [enumV] at h; exact ⟨x, rfl, by simpa using h.symm⟩
  | x :: xs, k, i + 1, v, h => by
    obtain ⟨y, h1, h2⟩ := enumV_get xs (k + 1) i v (by simpa [enumV] using h)
    exact ⟨y, by simpa using h1, by (rw [h2]; rw [show k + 1 + i = k + (i + 1) by walk_at "o"])⟩
theorem enumV_len : ∀ (xs : List V) (k : Nat), (enumV k xs).length = xs.length
  | [], _ => rfl
  | _ :: xs, k => congrArg (· + 1) (enumV_len xs (k + 1))

theorem itr_enum {elts : List Expr} {x1 : Nat} {pos : Pos} {e I b : Addr} {a : Nat} {xs : List V} (hh : A.handled = none) (hne : e ≠ I) :
    Itr K A (.Tuple elts x1 pos) (.ref e) (fun c => c = e ∨ c = I) (enumV 0 xs) (fun σ => σ[a]? = some xs) (JE K e I b a) where
  priv := by
    rintro i g h ⟨old, he, ⟨o, ho, _, hd⟩, h2, h3, h4, h5, _⟩ c ec
    exact or2 (P := Pv K g h) ⟨h4, h5, _, he, ⟨fun _ _ e => (nomatch e), fun _ e => (nomatch e)⟩⟩ ⟨h2, h3, o, ho, by (rw [Apart]; rw [hd]); exact ⟨fun _ _ e => (nomatch e), fun _ e => (nomatch e)⟩⟩ c ec
  stay := fun i Y g σ h g' σ' h' ⟨old, he, ⟨o, ho, hc, hd⟩, h2, h3, h4, h5, h6⟩ S q hY =>
    ⟨old, q.keep e _ he (fun z => h4 (.inl z)) fun z => hY e z (.inl rfl), ⟨o, q.keep I o ho (fun z => h2 (.inl z)) fun z => hY I z (.inr rfl), hc, hd⟩, q.priv ho h2, h3, q.priv he h4, h5, pre_get q.pre h6⟩
  next := by
    rintro i g σ s v ⟨old, he, hi, h2, h3, h4, h5, h6⟩ S ok hv
    obtain ⟨x, hx, rfl⟩ := enumV_get xs 0 i v hv
    obtain ⟨b₁, vs, k, e1, hb₁, hl, rr, _, z⟩ := S.list (w := .ref b) ⟨b, h6, rfl⟩ ok
    cases e1
    obtain ⟨w, hw, rw'⟩ := rr.get hx
    refine wpAny_pyNext_enum_item he hi hl.isList (by simpa using hw) hne fun h' heo hi' ht' hsz hk => ⟨_, rfl, wpAny_letOwnedTupleGo_enum heo fun h'' he'' hs'' => ?_⟩
    have nI : I ≠ e := Ne.symm hne
    have nn : s.heap.objs.size ≠ e := Nat.ne_of_gt (Heap.lt_size he)
    have hi'' : h''.IsListIter I b (i + 1) := hi'.extBut hs''.extBut nI
    obtain ⟨oI, hoI, _⟩ := id hi''
    have ht'' : h''.get? s.heap.objs.size = some { cls := .type "tuple", data := .seq #[.int i s.toks, w] } := (hs''.2 _ nn).trans ht'
    have go : GoX K (fun c => c = e ∨ c = I) g s.heap g σ h'' := GoX.of S (fun c o ec nc => by
        rw [hs''.2 c fun z => nc (.inl z)]
        exact hk c o (fun z => nc (.inl z)) (fun z => nc (.inr z)) ec)
      (or2 (P := fun c => ∃ o, h''.get? c = some o) ⟨_, he''⟩ ⟨_, hoI⟩) (or2 (P := fun c => ¬ g.own c ∧ K.hB.get? c = none) ⟨h4, h5⟩ ⟨h2, h3⟩)
    have hxp : ∀ c, (c = e ∨ c = I) → ¬ g.own c := or2 (P := fun c => ¬ g.own c) h4 h2
    have fn := fresh_not S (none_at_size s.heap)
    have go' := go.gain (fun c => c = s.heap.objs.size) fun c ec => by
      subst ec
      exact ⟨none_at_size _, fun z => fn.1 (.inl z), fn.2, _, ht''⟩
    refine ⟨_, go', ⟨rfl, rfl⟩, ⟨s.heap.objs.size, #[.int i s.toks, w], 0, rfl, .inr rfl, ht'', ?_⟩, w, ?_, hi'', ?_, h3, ?_, h5, h6⟩
    · refine ⟨⟨s.toks, by simp⟩, ?_, trivial⟩
      exact go'.rel S hxp rw'
    · have : (((i + 1 : Nat) : Int)) = (i : Int) + 1 := by walk_at "o"
      rw [this]; exact he''
    · obtain ⟨o, ho, _⟩ := hi
      exact go'.priv ho h2
    · exact go'.priv he h4
  nextN := fun ⟨_, _, e⟩ => (nomatch e)
  self := by
    rintro i g s Q ⟨old, he, _⟩ q
    exact wpAny_pyIter_enum he q
  stop := by
    rintro i g σ s ⟨old, he, hi, h2, h3, h4, h5, h6⟩ S ok hv
    obtain ⟨b₁, vs, k, e1, hb₁, hl, rr, ez, z⟩ := S.list (w := .ref b) ⟨b, h6, rfl⟩ ok
    cases e1
    have hx : vs[i]? = none := by
      rw [List.getElem?_eq_none_iff, enumV_len] at hv
      rw [Array.getElem?_eq_none_iff]; walk_at "o"
    refine wpAny_pyNext_enum_end hh he hi hl.isList hx fun h' hk => ⟨rfl, ?_, fun c o ec nc => hk c o (fun z => nc (.inr z)) ec, ⟨rfl, rfl⟩⟩
    exact S.change fun c o ec zc => hk c o (by
      rintro rfl
      rcases zc with z | ⟨o', z⟩
      · exact h2 z
      · rw [h3] at z; cases z) ec

end
end Mini

set_option autoImplicit false
set_option linter.unusedVariables false
namespace Mini
open PySem

noncomputable def m2 {α β γ : Type} (f : α → β → γ) (a : Option α) (b : Option β) : Option γ := a.bind fun x => b.map (f x)
theorem m2_some {α β γ : Type} {f : α → β → γ} {a : Option α} {b : Option β} {c : γ} (h : m2 f a b = some c) : ∃ x y, a = some x ∧ b = some y ∧ c = f x y := by
  cases a <;> cases b <;> first | cases h; done | exact ⟨_, _, rfl, rfl, (Option.some.inj h).symm⟩
noncomputable def cNames (cx : Cx) : List Expr → Option (List Nat)
  | [] => some []
  | e :: es => match e with
    | .Name x _ => m2 List.cons (slotOf cx x) (cNames cx es)
    | _ => none
noncomputable def two : Option (List Nat) → Option (List Nat)
  | some (a :: b :: r) => some (a :: b :: r)
  | _ => none
theorem two_some {o : Option (List Nat)} {ks : List Nat} (h : two o = some ks) : ∃ a b r, o = some (a :: b :: r) ∧ ks = a :: b :: r := by
  rcases o with _ | _ | ⟨a, _ | ⟨b, r⟩⟩
  · cases h
  · cases h
  · cases h
  · cases h; exact ⟨a, b, r, rfl, rfl⟩
noncomputable def cTgt (cx : Cx) : Expr → Option (List Nat)
  | .Name x _ => (slotOf cx x).map fun k => [k]
  | .Tuple es _ _ => two (cNames cx es)
  | _ => none
theorem no_l {l : List Nat} (h : (none : Option (List Nat)) = some l) : False := by cases h
theorem nm_of {cx : Cx} {e : Expr} {es : List Expr} {ks : List Nat} (h : cNames cx (e :: es) = some ks) : ∃ x p, e = .Name x p := by
  cases e with
  | Name x p => exact ⟨x, p, rfl⟩
  | _ => exact (no_l h).elim

set_option genInjectivity false
set_option genSizeOfSpec false
inductive EndN (K : Ctx) (env : Env) (cx : Cx) (g : G) (s : Shared) (N : M → H → Prop) (s' : Shared) : Prop
  | mk (m' : M) (g' : G) (σ' : H) (go : GoX K (fpOf env) g s.heap g' σ' s'.heap) (sx : Sx s s') (fr : Fr K env cx m' g' s'.heap) (n : N m' σ')
inductive EndR (K : Ctx) (env : Env) (g : G) (s : Shared) (Rt : P) (v : Value) (s' : Shared) : Prop
  | mk (r : V) (g' : G) (σ' : H) (go : GoX K (fpOf env) g s.heap g' σ' s'.heap) (sx : Sx s s') (rel : VRel K g' s'.heap r v) (q : Rt r σ')
noncomputable def EndS (K : Ctx) (env : Env) (cx : Cx) (g : G) (s : Shared) (N : M → H → Prop) (Rt : P) : Flow → Shared → Prop := fun f s' => match f with
  | .next => EndN K env cx g s N s'
  | .ret v => EndR K env g s Rt v s'
  | _ => False

section
variable {K : Ctx} {pg : Pg} {n : Nat} {cx : Cx} {A : Around}

theorem EndS.trans {env : Env} {g g₁ : G} {σ₁ : H} {s s₁ s' : Shared} {N : M → H → Prop} {Rt : P} {f : Flow} (p : GoX K (fpOf env) g s.heap g₁ σ₁ s₁.heap) (x : Sx s s₁) (q : EndS K env cx g₁ s₁ N Rt f s') : EndS K env cx g s N Rt f s' := by
  cases f with
  | next =>
    obtain ⟨m', g', σ', a, b, c, d⟩ := q
    exact ⟨m', g', σ', p.trans a, x.trans b, c, d⟩
  | ret v =>
    obtain ⟨r, g', σ', a, b, c, d⟩ := q
    exact ⟨r, g', σ', p.trans a, x.trans b, c, d⟩
  | brk => exact q
  | cont => exact q
theorem EndS.bind {env : Env} {g g₁ : G} {σ₁ : H} {s s₁ : Shared} {t : Sem Flow} {N : M → H → Prop} {Rt : P} (p : GoX K (fpOf env) g s.heap g₁ σ₁ s₁.heap) (x : Sx s s₁) (h : wpAny (model K.prog K.w) A t (EndS K env cx g₁ s₁ N Rt) noE s₁) :
    wpAny (model K.prog K.w) A t (EndS K env cx g s N Rt) noE s₁ := wpAny_mono h (fun _ _ q => q.trans p x) fun _ _ f => f

theorem names_each {env : Env} : ∀ {es : List Expr} {ks : List Nat}, cNames cx es = some ks → (assignEach es env).findIdx? (·.1) = none ∧ (assignEach es env).length = ks.length
  | [], ks, h => by cases h; exact ⟨rfl, rfl⟩
  | e :: es, ks, h => by
    obtain ⟨x, p, rfl⟩ := nm_of h
    obtain ⟨k, ks', h1, h2, rfl⟩ := m2_some h
    obtain ⟨a, b⟩ := names_each (env := env) h2
    refine ⟨?_, congrArg (· + 1) b⟩
    show (_ :: assignEach es env).findIdx? (·.1) = none
    (rw [List.findIdx?_cons]; rw [a]); rfl
theorem names_sound {env : Env} {g : G} : ∀ {es : List Expr} {ks : List Nat} {us : List V} {ws : List Value} {m m' : M} {σ : H} {s : Shared} {Q : Unit → Shared → Prop}, cNames cx es = some ks → puts m ks us = some m' → Fr K env cx m g s.heap → St K g σ s.heap → VRels K g s.heap us ws →
    (∀ s', GoX K (fpOf env) g s.heap g σ s'.heap → Sx s s' → Fr K env cx m' g s'.heap → Q () s') → wpAny (model K.prog K.w) A (assignInOrder ((assignEach es env).map (·.2)) ws) Q noE s
  | [], ks, us, ws, m, m', σ, s, Q, h, hp, F, S, r, hQ => by
    cases h
    cases us with
    | cons _ _ => cases hp
    | nil =>
      cases ws with
      | cons _ _ => exact r.elim
      | nil => cases hp; exact wpAny_pure (hQ s (Go.refl S).toX (Sx.refl s) F)
  | e :: es, ks, us, ws, m, m', σ, s, Q, h, hp, F, S, r, hQ => by
    obtain ⟨x, p, rfl⟩ := nm_of h
    obtain ⟨k, ks', h1, h2, rfl⟩ := m2_some h
    cases us with
    | nil => cases hp
    | cons u us =>
      cases ws with
      | nil => exact r.elim
      | cons w ws =>
        refine wpAny_assignInOrder_more (wpAny_assign_Name (store_sound F S h1 r.1 fun s₁ go₁ sx₁ F₁ => ?_))
        refine names_sound h2 hp F₁ go₁.st (go₁.rels S (fun b hb => (F.fp b hb).1) r.2) fun s₂ go₂ sx₂ F₂ => ?_
        exact hQ s₂ (go₁.trans go₂) (sx₁.trans sx₂) F₂

theorem puts_len : ∀ (ks : List Nat) (m : M) (us : List V) (m' : M), puts m ks us = some m' → us.length = ks.length
  | [], _, [], _, _ => rfl
  | [], _, _ :: _, _, e => by cases e
  | _ :: _, _, [], _, e => by cases e
  | k :: ks, m, u :: us, m', e => congrArg (· + 1) (puts_len ks (put m k u) us m' e)
theorem assign_sound {env : Env} {g : G} {σ : H} {s : Shared} {m m' : M} {tgt : Expr} {ks : List Nat} {v : V} {w : Value} {Q : Unit → Shared → Prop} (hh : A.handled = none) (F : Fr K env cx m g s.heap) (S : St K g σ s.heap) (ht : cTgt cx tgt = some ks) (hb : bindV ks m v = some m')
    (r : VRel K g s.heap v w) (hQ : ∀ s', GoX K (fpOf env) g s.heap g σ s'.heap → Sx s s' → Fr K env cx m' g s'.heap → Q () s') : wpAny (model K.prog K.w) A (assign tgt env w) Q noE s := by
  cases tgt with
  | Name x p =>
    have ht : (slotOf cx x).map (fun k => [k]) = some ks := ht
    obtain ⟨k, h1, rfl⟩ := Option.map_eq_some_iff.mp ht
    cases hb
    exact wpAny_assign_Name (store_sound F S h1 r hQ)
  | Tuple es k p =>
    obtain ⟨a, b, rr, h1, rfl⟩ := two_some ht
    cases v <;> try (cases hb; done)
    rename_i us
    obtain ⟨t, vs, k', rfl, it, ho, rs⟩ := r
    have hl : us.length = (a :: b :: rr).length := puts_len _ _ _ _ hb
    obtain ⟨f1, f2⟩ := names_each (env := env) h1
    have hsz : vs.size = us.length := by
      have := rs.length
      simpa using this.symm
    refine wpAny_assign_Tuple (items := vs) hh ⟨_, ho, rfl, k', rfl⟩ (by (rw [f2]; rw [hsz]; rw [hl])) f1 fun h' he => ?_
    have hk : ∀ b o, s.heap.get? b = some o → h'.get? b = some o := fun b o e => he b o (Nat.ne_of_lt (Heap.lt_size e)) e
    have go := Go.change S hk
    refine names_sound (s := { s with heap := h' }) h1 hb (F.go S go) go.st (go.rels S rs) fun s₂ go₂ sx₂ F₂ => hQ s₂ (go.toX.trans go₂) ⟨sx₂.1, sx₂.2⟩ F₂
  | _ => exact (no_l ht).elim

theorem fp_apart {env : Env} {g : G} {h : Heap} {m : M} (F : Fr K env cx m g h) : ∀ b, fpOf env b → ∀ o, h.get? b = some o → ¬ Apart o := fun b hb o e ha => by
  obtain ⟨_, _, o', e', hd⟩ := F.fp b hb
  rw [e] at e'; cases e'
  rcases hd with ⟨es, ep, hd⟩ | ⟨v, hd⟩
  · exact ha.1 es ep hd
  · exact ha.2 v hd

theorem Fr.stay {env : Env} {m : M} {X : Addr → Prop} {g : G} {h h' : Heap} {σ : H} (F : Fr K env cx m g h) (S : St K g σ h) (hk : ∀ b o, h.get? b = some o → ¬ X b → h'.get? b = some o) (hx : ∀ b, X b → ¬ fpOf env b) (hp : ∀ b, X b → ¬ g.own b) : Fr K env cx m g h' where
  kind := F.kind
  names := F.names
  glob := F.glob
  blt := F.blt
  loc := by
    obtain ⟨ns, hn, hv⟩ := F.loc
    refine ⟨ns, hn.at' fun o e => hk _ o e fun z => hx _ z (.inl rfl), fun x k v h1 h2 h3 => ?_⟩
    obtain ⟨w, e, r⟩ := hv x k v h1 h2 h3
    exact ⟨w, e, VRel.mono (fun _ _ e => e) (fun _ i => i) (fun b o i e => hk b o e fun z => hp b z (.inr i)) _ _ r⟩
  cell := fun x k h1 h2 => by
    obtain ⟨c, o, e, hc, hv⟩ := F.cell x k h1 h2
    refine ⟨c, o, e, ?_, fun v h3 => ?_⟩
    · obtain ⟨ob, ho, hd⟩ := hc
      exact ⟨ob, hk _ _ ho fun z => hx _ z (.inr ⟨x, e⟩), hd⟩
    · obtain ⟨w, e, r⟩ := hv v h3
      exact ⟨w, e, VRel.mono (fun _ _ e => e) (fun _ i => i) (fun b o i e => hk b o e fun z => hp b z (.inr i)) _ _ r⟩
  priv := F.priv
  privC := fun x c e => by
    obtain ⟨h1, h2, o, ob, ho, hd⟩ := F.privC x c e
    exact ⟨h1, h2, o, ob, hk _ _ ho fun z => hx _ z (.inr ⟨x, e⟩), hd⟩
  apart := F.apart
  inj := F.inj
  bnd := F.bnd
  hi := F.hi

inductive ForI (K : Ctx) (env : Env) (cx : Cx) (vs : List V) (J : Nat → G → Heap → Prop) (L : Nat → M → H → Prop) (g₀ : G) (s₀ : Shared) (k : Nat) (s : Shared) : Prop
  | mk (i : Nat) (m : M) (g : G) (σ : H) (hk : k = vs.length - i) (hi : i ≤ vs.length) (hJ : J i g s.heap) (F : Fr K env cx m g s.heap) (go : GoX K (fpOf env) g₀ s₀.heap g σ s.heap) (sx : Sx s₀ s) (hW : L i m σ)
inductive WhI (K : Ctx) (env : Env) (cx : Cx) (L : Nat → M → H → Prop) (g₀ : G) (s₀ : Shared) (k : Nat) (s : Shared) : Prop
  | mk (m : M) (g : G) (σ : H) (F : Fr K env cx m g s.heap) (go : GoX K (fpOf env) g₀ s₀.heap g σ s.heap) (sx : Sx s₀ s) (hW : L k m σ)
/-- the for loop, its iterator at hand -/
theorem for_sound {env : Env} {g₀ : G} {s₀ : Shared} {tgt : Expr} {body : List Stmt} {ks : List Nat} {it : Value} {X : Addr → Prop} {vs : List V} {ok : H → Prop} {J : Nat → G → Heap → Prop} {B : M → H → (M → H → Prop) → Prop} {N : M → H → Prop} {Rt : P}
    (hh : A.handled = none) (I : Itr K A tgt it X vs ok J) (ht : cTgt cx tgt = some ks) (hX : ∀ b, X b → s₀.heap.get? b = none)
    (hB : ∀ m g σ s (L : M → H → Prop), Fr K env cx m g s.heap → St K g σ s.heap → B m σ L → wpAny (model K.prog K.w) A (execs body env) (EndS K env cx g s L Rt) noE s)
    {m : M} {g : G} {σ : H} {s : Shared} (hJ : J 0 g s.heap) (F : Fr K env cx m g s.heap) (go : GoX K (fpOf env) g₀ s₀.heap g σ s.heap) (sx : Sx s₀ s) (hW : forL B ks ok N vs m σ) :
    codeAny (model K.prog K.w) A (.forLoop tgt it body [] env) (fun r s' => match r with | .ok f => EndS K env cx g₀ s₀ N Rt f s' | .error e => False) s := by
  refine codeAny_loop' rfl (ForI K env cx vs J (fun i m σ => forL B ks ok N (vs.drop i) m σ) g₀ s₀) ?_ vs.length ⟨0, m, g, σ, by simp, Nat.zero_le _, hJ, F, go, sx, by simpa using hW⟩
  rintro k s ⟨i, m, g, σ, rfl, hi, hJ, F, go, sx, hW⟩
  show wpAny _ A ((forTurn tgt it body [] env).onRaise (fun x => do noteFrame x env; theTreesLotGoes x)) _ _ s
  refine wpAny_noted (wpAny_mono (Q := fun fin s' => match fin with | .done f => EndS K env cx g₀ s₀ N Rt f s' | .again c' => (c' = .forLoop tgt it body [] env ∧ ∃ m, m < vs.length - i ∧ ForI K env cx vs J (fun i m σ => forL B ks ok N (vs.drop i) m σ) g₀ s₀ m s') ∨ (c'.quiet = true ∧ codeAny (model K.prog K.w) A c' (fun r s' => match r with | .ok f => EndS K env cx g₀ s₀ N Rt f s' | .error e => False) s')) (E := noE) ?_ (fun _ _ q => q) fun _ _ f => f.elim)
  simp only [forTurn]
  refine wpAny_bind (wpAny_standAt (wpAny_bind (wpAny_onRaise ?_)))
  cases hv : vs[i]? with
  | none =>
    have hd : vs.drop i = [] := by
      rw [List.getElem?_eq_none_iff] at hv
      exact List.drop_of_length_le hv
    rw [hd] at hW
    refine wpAny_mono (I.stop i g σ s hJ go.st hW.1 hv) (fun r s₁ q => ?_) fun _ _ f => f.elim
    obtain ⟨rfl, S₁, hk, sx₁⟩ := q
    refine wpAny_pure (.inr ⟨rfl, codeAny_block (wpAny_execs_nil ?_)⟩)
    have pv := I.priv i g s.heap hJ
    have go₁ : GoX K (fpOf env) g₀ s₀.heap g σ s₁.heap := go.halt S₁ hk hX
    refine ⟨m, g, σ, go₁, sx.trans sx₁, ?_, hW.2⟩
    exact F.stay go.st hk (fun b hb hf => by
      obtain ⟨_, _, o, e, ha⟩ := pv b hb
      exact fp_apart F b hf o e ha) fun b hb => (pv b hb).n1
  | some v =>
    have hlt := (List.getElem?_eq_some_iff.mp hv).1
    have hd : vs.drop i = v :: vs.drop (i + 1) := by
      rw [List.drop_eq_getElem_cons hlt]
      congr 1
      exact (List.getElem?_eq_some_iff.mp hv).2
    rw [hd] at hW
    obtain ⟨hok, m', hb, hW⟩ := hW
    refine wpAny_mono (I.next i g σ s v hJ go.st hok hv) (fun r s₁ q => ?_) fun _ _ f => f.elim
    obtain ⟨w, rfl, q⟩ := q
    refine wpAny_bind (wpAny_mono q (fun _ s₂ q => ?_) fun _ _ f => f)
    obtain ⟨g₂, go₂, sx₂, rel₂, hJ₂⟩ := q
    have pv := I.priv i g s.heap hJ
    have dis : ∀ b, X b → ¬ fpOf env b := fun b hb hf => by
      obtain ⟨_, _, o, e, ha⟩ := pv b hb
      exact fp_apart F b hf o e ha
    have F₂ := F.goX go.st go₂ dis fun b hb => (pv b hb).n1
    have go02 : GoX K (fpOf env) g₀ s₀.heap g₂ σ s₂.heap := go.step go₂ fun b hb => .inr (hX b hb)
    refine wpAny_bind (assign_sound hh F₂ go₂.st ht hb rel₂ fun s₃ go₃ sx₃ F₃ => ?_)
    have hJ₃ : J (i + 1) g₂ s₃.heap := I.stay (i + 1) (fpOf env) g₂ σ s₂.heap g₂ σ s₃.heap hJ₂ go₂.st go₃ fun b hb hx => dis b hx hb
    refine wpAny_bind (wpAny_mono (hB m' g₂ σ s₃ _ F₃ go₃.st hW) (fun f s₄ q => ?_) fun _ _ f => f.elim)
    have go03 := go02.trans go₃
    have sx03 := (sx.trans sx₂).trans sx₃
    cases f with
    | next =>
      obtain ⟨m₄, g₄, σ₄, go₄, sx₄, F₄, hW₄⟩ := q
      refine wpAny_pure (.inl ⟨rfl, vs.length - (i + 1), by walk_at "o", i + 1, m₄, g₄, σ₄, rfl, by walk_at "o", ?_, F₄, go03.trans go₄, sx03.trans sx₄, hW₄⟩)
      exact I.stay (i + 1) (fpOf env) g₂ σ s₃.heap g₄ σ₄ s₄.heap hJ₃ go₃.st go₄ fun b hb hx => dis b hx hb
    | ret u =>
      obtain ⟨r, g₄, σ₄, go₄, sx₄, rel₄, hW₄⟩ := q
      exact wpAny_pure ⟨r, g₄, σ₄, go03.trans go₄, sx03.trans sx₄, rel₄, hW₄⟩
    | brk => exact q.elim
    | cont => exact q.elim

theorem while_sound {env : Env} {g₀ : G} {s₀ : Shared} {test : Expr} {body : List Stmt} {T : M → H → (Bool → H → Prop) → Prop} {B : M → H → (M → H → Prop) → Prop} {N : M → H → Prop} {Rt : P}
    (hT : ∀ m g σ s (L : Bool → H → Prop), Fr K env cx m g s.heap → St K g σ s.heap → T m σ L → wpAny (model K.prog K.w) A (isTrue test env (eval test env)) (EndB K g s L) noE s)
    (hB : ∀ m g σ s (L : M → H → Prop), Fr K env cx m g s.heap → St K g σ s.heap → B m σ L → wpAny (model K.prog K.w) A (execs body env) (EndS K env cx g s L Rt) noE s)
    {m : M} {g : G} {σ : H} {s : Shared} (F : Fr K env cx m g s.heap) (go : GoX K (fpOf env) g₀ s₀.heap g σ s.heap) (sx : Sx s₀ s) {k : Nat} (hW : whileN T B N k m σ) :
    codeAny (model K.prog K.w) A (.whileLoop test body [] env) (fun r s' => match r with | .ok f => EndS K env cx g₀ s₀ N Rt f s' | .error e => False) s := by
  refine codeAny_whileLoop (WhI K env cx (whileN T B N) g₀ s₀) ?_ k ⟨m, g, σ, F, go, sx, hW⟩
  rintro k s ⟨m, g, σ, F, go, sx, hW⟩
  cases k with
  | zero => exact hW.elim
  | succ k =>
    refine wpAny_mono (hT m g σ s _ F go.st hW) (fun b s₁ q => ?_) fun _ _ f => f.elim
    obtain ⟨g₁, σ₁, go₁, sx₁, W₁⟩ := q
    have F₁ := F.go go.st go₁
    have go01 := go.trans go₁.toX
    cases b with
    | false => exact wpAny_execs_nil ⟨m, g₁, σ₁, go01, sx.trans sx₁, F₁, W₁⟩
    | true =>
      refine wpAny_mono (hB m g₁ σ₁ s₁ _ F₁ go₁.st W₁) (fun f s₂ q => ?_) fun _ _ f => f.elim
      cases f with
      | next =>
        obtain ⟨m₂, g₂, σ₂, go₂, sx₂, F₂, W₂⟩ := q
        exact ⟨k, Nat.lt_succ_self _, m₂, g₂, σ₂, F₂, go01.trans go₂, (sx.trans sx₁).trans sx₂, W₂⟩
      | ret u =>
        obtain ⟨r, g₂, σ₂, go₂, sx₂, rel₂, W₂⟩ := q
        exact ⟨r, g₂, σ₂, go01.trans go₂, (sx.trans sx₁).trans sx₂, rel₂, W₂⟩
      | brk => exact q.elim
      | cont => exact q.elim
end
end Mini

set_option autoImplicit false
set_option linter.unusedVariables false
namespace Mini
open PySem

/-- the loop's target fits the source -/
noncomputable def tgtOk : Src → Expr → Prop
  | .list _, t | .range _, t | .rev _, t => ∃ x p, t = .Name x p
  | .enum _, t | .zip _ _, t => ∃ es k p, t = .Tuple es k p

set_option genInjectivity false
set_option genSizeOfSpec false
inductive SrcE (K : Ctx) (A : Around) (g : G) (s : Shared) (tgt : Expr) (L : List V → (H → Prop) → H → Prop) (it : Value) (s₂ : Shared) : Prop
  | mk (g₂ : G) (σ₂ : H) (vs : List V) (ok : H → Prop) (X : Addr → Prop) (J : Nat → G → Heap → Prop) (go : Go K g s.heap g₂ σ₂ s₂.heap) (sx : Sx s s₂) (I : Itr K A tgt it X vs ok J) (j : J 0 g₂ s₂.heap) (fr : ∀ b, X b → s.heap.get? b = none) (l : L vs ok σ₂)
noncomputable def SSrc (K : Ctx) (n : Nat) (cx : Cx) (e : Expr) (p : Src) : Prop := ∀ (env : Env) (A : Around) (m : M) (g : G) (σ : H) (s : Shared) (tgt : Expr) (L : List V → (H → Prop) → H → Prop), Room A n → Fr K env cx m g s.heap → St K g σ s.heap → tgtOk p tgt →
  WSrc (callW K.Φ n) noX p m σ L → wpAny (model K.prog K.w) A (eval e env) (fun v s₁ => wpAny (model K.prog K.w) A (pyIter v) (SrcE K A g s tgt L) noE s₁) noE s

section
variable {K : Ctx} {pg : Pg} {n : Nat} {cx : Cx}

theorem ne_ad {a b : Nat} (h : a < b ∨ b < a) : @Ne Addr a b := fun e => by have e' : (a : Nat) = b := e; walk_at "o"
theorem go_none {g g₁ : G} {σ₁ : H} {h h₁ : Heap} (go : Go K g h g₁ σ₁ h₁) {b : Addr} (e : h₁.get? b = none) : h.get? b = none := by
  cases z : h.get? b with
  | none => rfl
  | some o =>
    obtain ⟨o', e'⟩ := (go.toX (X := fun _ => False)).there b o z
    rw [e] at e'; cases e'

theorem src_list {e : Expr} {a : E} (h : SE K n cx e a) : SSrc K n cx e (.list a) := fun env A m g σ s tgt L R F S ht W => by
  refine wpAny_mono (h env A m g σ s _ R F S W) (fun v s₁ q => ?_) fun _ _ f => f
  obtain ⟨r₁, g₁, σ₁, go₁, sx₁, rel₁, W₁⟩ := q
  cases r₁ <;> try exact W₁.elim
  rename_i i
  obtain ⟨xs, hx, q⟩ := W₁
  obtain ⟨b, vs, k, rfl, hb, hl, rr, e, z⟩ := go₁.st.list rel₁ hx
  obtain ⟨x, p, rfl⟩ := ht
  refine wpAny_pyIter_list hl.isList ?_
  have hk : ∀ c o, s₁.heap.get? c = some o → (s₁.heap.push { cls := .type "list_iterator", data := .fields #[.ref b, .int 0 0] }).get? c = some o := fun c o e => Heap.get?_push_of_some _ e
  have go₂ := Go.change go₁.st hk
  have fn := fresh_not go₁.st (none_at_size s₁.heap)
  refine ⟨g₁, σ₁, xs, _, _, _, go₁.trans go₂, ⟨sx₁.1, sx₁.2⟩, itr_list (I := s₁.heap.objs.size) (b := b) (a := i) R.handled (fun _ _ => rfl), ⟨⟨_, Heap.get?_push_size _ rfl, rfl, rfl⟩, fn.1, fn.2, hb⟩, fun c e => e ▸ go_none go₁ (none_at_size _), q⟩

theorem src_range (G₀ : Gr K pg) {x : Str} {p pos : Pos} {e : Expr} {a : E} (hx : cx.names.lookup x = some .globalImplicit) (hd : (x == ("__debug__" : Str)) = false) (hv : blts.lookup x = some (.type "range")) (h : SE K n cx e a) (hst : isStar e = false) :
    SSrc K n cx (.Call (.Name x p) [e] [] pos) (.range a) := fun env A m g σ s tgt L R F S ht W => by
  refine wpAny_Call_ofName (load_blt G₀ F S hx hd hv ?_)
  show wpAny _ A (callWith pos (.type "range") [] (backTo pos (starEach [e] env)) []) _ _ s
  rw [star_cons hst]
  refine callWith_type rfl (Calls.evalArgs_plain (Calls.spliced_cons (wpAny_mono (h env A m g σ s _ R F S W) (fun v s₁ q => ?_) fun _ _ f => f)))
  obtain ⟨r₁, g₁, σ₁, go₁, sx₁, rel₁, W₁⟩ := q
  refine Calls.spliced_nil ?_
  cases r₁ <;> try exact W₁.elim
  rename_i N
  obtain ⟨t, rfl⟩ := rel₁
  obtain ⟨⟨h0, h1⟩, W₁⟩ := W₁
  obtain ⟨y, py, rfl⟩ := ht
  refine call_range_1 (wpAny_pyIter_range (IsRange.new ..) (small_one (by decide) (by decide) (by walk_at "o") (by walk_at "o")) ?_)
  have hsz : Builtin.Range.rangeSize 0 N 1 = N := by rw [rangeSize_one]; split <;> walk_at "o"
  have go₂ := Go.change (h' := (s₁.heap.push { cls := .type "range", data := .fields #[.int 0 s₁.toks, .int N t, .int 1 (s₁.toks + 1)] }).push { cls := .type "range_iterator", data := .fields #[rawInt 0, rawInt (Builtin.Range.rangeSize 0 N 1), rawInt 1] }) go₁.st push2
  have e0 : s₁.heap.get? (s₁.heap.objs.size + 1) = none := none_above (Nat.le_succ _)
  have fn := fresh_not go₁.st e0
  have e1 : (s₁.heap.push { cls := .type "range", data := .fields #[.int 0 s₁.toks, .int N t, .int 1 (s₁.toks + 1)] }).objs.size = s₁.heap.objs.size + 1 := Heap.size_push ..
  refine ⟨g₁, σ₁, rangeV N, fun _ => True, (· = s₁.heap.objs.size + 1), JR K (s₁.heap.objs.size + 1) N, go₁.trans go₂, ⟨sx₁.1, sx₁.2⟩, by rw [e1]; exact itr_range (I := s₁.heap.objs.size + 1) R.handled (fun _ _ => rfl) h0, ⟨?_, fn.1, fn.2⟩, fun c e => e ▸ go_none go₁ e0, W₁⟩
  rw [← e1]
  show IsRangeIter _ _ ((0 : Nat) : Int) (N - ((0 : Nat) : Int)) 1
  rw [hsz]
  have := Heap.get?_push_size (s₁.heap.push { cls := .type "range", data := .fields #[.int 0 s₁.toks, .int N t, .int 1 (s₁.toks + 1)] }) (o := { cls := .type "range_iterator", data := .fields #[rawInt 0, rawInt N, rawInt 1] }) rfl
  simpa [IsRangeIter, rawInt] using this

theorem src_enum (G₀ : Gr K pg) {x : Str} {p pos : Pos} {e : Expr} {a : E} (hx : cx.names.lookup x = some .globalImplicit) (hd : (x == ("__debug__" : Str)) = false) (hv : blts.lookup x = some (.type "enumerate")) (h : SE K n cx e a) (hst : isStar e = false) :
    SSrc K n cx (.Call (.Name x p) [e] [] pos) (.enum a) := fun env A m g σ s tgt L R F S ht W => by
  refine wpAny_Call_ofName (load_blt G₀ F S hx hd hv ?_)
  show wpAny _ A (callWith pos (.type "enumerate") [] (backTo pos (starEach [e] env)) []) _ _ s
  rw [star_cons hst]
  refine callWith_type rfl (Calls.evalArgs_plain (Calls.spliced_cons (wpAny_mono (h env A m g σ s _ R F S W) (fun v s₁ q => ?_) fun _ _ f => f)))
  obtain ⟨r₁, g₁, σ₁, go₁, sx₁, rel₁, W₁⟩ := q
  refine Calls.spliced_nil ?_
  cases r₁ <;> try exact W₁.elim
  rename_i i
  obtain ⟨xs, hx, q⟩ := W₁
  obtain ⟨b, vs, k, rfl, hb, hl, rr, e, z⟩ := go₁.st.list rel₁ hx
  obtain ⟨es, k', p', rfl⟩ := ht
  refine call_enumerate_1 hl fun h' he hi hsz hk => wpAny_pyIter_enum he ?_
  have go₂ := Go.change go₁.st hk
  have e1 : s₁.heap.get? (s₁.heap.objs.size + 1) = none := none_above (Nat.le_succ _)
  have fn := fresh_not go₁.st (none_at_size s₁.heap)
  have fn1 := fresh_not go₁.st e1
  refine ⟨g₁, σ₁, _, _, _, _, go₁.trans go₂, ⟨sx₁.1, sx₁.2⟩, itr_enum (e := s₁.heap.objs.size + 1) (I := s₁.heap.objs.size) (b := b) (a := i) (xs := xs) R.handled (ne_ad (.inr (Nat.lt_succ_self _))), ⟨_, he, hi, fn.1, fn.2, fn1.1, fn1.2, hb⟩, fun c e => ?_, q⟩
  exact or2 (P := fun c => s.heap.get? c = none) (go_none go₁ e1) (go_none go₁ (none_at_size _)) c e

end
end Mini

set_option autoImplicit false
set_option linter.unusedVariables false
namespace Mini
open PySem

noncomputable def relN (cn names : List (Str × NameKind)) : List (Str × NameKind) := names.map fun p => if p.2 == .free && cn.lookup p.1 == some .cell then (p.1, .cell) else p
noncomputable def compCx (cx : Cx) (names : List (Str × NameKind)) (x : Str) : Cx := ⟨relN cx.names names, (x, cx.slots.length) :: cx.slots⟩
noncomputable def compOk (cx : Cx) (scope : Scope) (x : Str) : Bool :=
  scope.kind == .function && scope.names.all (fun p => p.2 != .cell) && scope.names.lookup x == some .local &&
  scope.names.all (fun p => p.2 != .local || ((p.1 == x || p.1 == (".0" : Str)) && scope.names.lookup p.1 == some .local)) &&
  scope.names.all (fun p => p.2 != .free || (cx.names.lookup p.1 == some .cell && (cx.slots.lookup p.1).isSome)) && (cx.slots.lookup (".0" : Str)).isNone && x != (".0" : Str)

structure CompOk (cx : Cx) (scope : Scope) (x : Str) : Prop where
  kind : scope.kind = .function
  nocell : ∀ p ∈ scope.names, p.2 ≠ .cell
  own : scope.names.lookup x = some .local
  loc : ∀ p ∈ scope.names, p.2 = .local → (p.1 = x ∨ p.1 = (".0" : Str)) ∧ scope.names.lookup p.1 = some .local
  free : ∀ p ∈ scope.names, p.2 = .free → cx.names.lookup p.1 = some .cell ∧ ∃ k, cx.slots.lookup p.1 = some k
  dot : cx.slots.lookup (".0" : Str) = none
  xdot : x ≠ (".0" : Str)
theorem compOk_ok {cx : Cx} {scope : Scope} {x : Str} (h : compOk cx scope x = true) : CompOk cx scope x := by
  unfold compOk at h
  simp only [Bool.and_eq_true, beq_iff_eq, bne_iff_ne, ne_eq, List.all_eq_true, Bool.or_eq_true, Option.isNone_iff_eq_none, Option.isSome_iff_exists] at h
  obtain ⟨⟨⟨⟨⟨⟨h1, h2⟩, h3⟩, h4⟩, h5⟩, h6⟩, h7⟩ := h
  exact ⟨h1, h2, h3, fun p hp hl => (h4 p hp).resolve_left fun z => z hl, fun p hp hl => (h5 p hp).resolve_left fun z => z hl, h6, h7⟩

theorem forIn_pure {α β : Type} {f : α → β → Sem (ForInStep β)} {u : β → α → β} : ∀ (l : List α) (c : β), (∀ x ∈ l, ∀ c, f x c = pure (.yield (u c x))) → forIn l c f = pure (l.foldl u c)
  | [], c, _ => rfl
  | x :: l, c, h => by
    (rw [List.forIn_cons]; rw [h x (.head _)]; rw [pure_bind])
    exact forIn_pure l _ fun y hy => h y (.tail _ hy)

noncomputable def clOf (env : Env) (names : List (Str × NameKind)) : List (Str × Addr) := names.foldl (fun cs p => if p.2 == .free then (p.1, (env.cells.lookup p.1).getD 0) :: cs else cs) []
theorem closure_eq {env : Env} {scope : Scope} (h : ∀ p ∈ scope.names, p.2 = .free → ∃ c, env.cells.lookup p.1 = some c) : closureFor scope env = pure (clOf env scope.names) := by
  unfold closureFor clOf
  have := forIn_pure (f := fun (x : Str × NameKind) (r : List (Str × Addr)) => (match x with | (name, kind) => if (kind == .free) = true then do let __do_lift ← cellOf env name; pure (ForInStep.yield ((name, __do_lift) :: r)) else pure (ForInStep.yield r) : Sem (ForInStep (List (Str × Addr)))))
    (u := fun cs p => if p.2 == .free then (p.1, (env.cells.lookup p.1).getD 0) :: cs else cs) scope.names [] (fun p hp c => by
      obtain ⟨nm, kd⟩ := p
      by_cases hk : kd = .free
      · obtain ⟨a, ha⟩ := h _ hp hk
        have ha' : env.cells.lookup nm = some a := ha
        simp only [hk, beq_self_eq_true, if_true, cellOf, ha', Option.getD_some]
        rfl
      · have hk' : (kd == NameKind.free) = false := by simpa using hk
        simp only [hk', Bool.false_eq_true, if_false])
  simp only [bind_pure]
  exact this
theorem cl_sound {env : Env} {y : Str} {c : Addr} (names : List (Str × NameKind)) (h : ∀ p ∈ names, p.2 = .free → ∃ c, env.cells.lookup p.1 = some c) : (clOf env names).lookup y = some c → env.cells.lookup y = some c := by
  unfold clOf
  have key : ∀ (names : List (Str × NameKind)) (acc : List (Str × Addr)), (∀ p ∈ names, p.2 = .free → ∃ c, env.cells.lookup p.1 = some c) → (acc.lookup y = some c → env.cells.lookup y = some c) →
      (names.foldl (fun cs p => if p.2 == .free then (p.1, (env.cells.lookup p.1).getD 0) :: cs else cs) acc).lookup y = some c → env.cells.lookup y = some c := by
    intro names
    induction names with
    | nil => intro acc _ ha; exact ha
    | cons p names ih =>
      intro acc h ha
      rw [List.foldl_cons]
      refine ih _ (fun q hq => h q (.tail _ hq)) ?_
      by_cases hk : p.2 = .free
      · obtain ⟨a, e⟩ := h p (.head _) hk
        simp only [hk, beq_self_eq_true, if_true, List.lookup_cons]
        cases hy : y == p.1 with
        | true =>
          have : y = p.1 := by simpa using hy
          subst this
          intro z
          rw [e]; simpa [e] using z
        | false => exact ha
      · have hk' : (p.2 == NameKind.free) = false := by simpa using hk
        simp only [hk', Bool.false_eq_true, if_false]
        exact ha
  exact key names [] h (by simp)
theorem cl_some {env : Env} {y : Str} (names : List (Str × NameKind)) (h : (y, NameKind.free) ∈ names) : ∃ c, (clOf env names).lookup y = some c := by
  unfold clOf
  have key : ∀ (names : List (Str × NameKind)) (acc : List (Str × Addr)), ((y, NameKind.free) ∈ names ∨ ∃ c, acc.lookup y = some c) →
      ∃ c, (names.foldl (fun cs p => if p.2 == .free then (p.1, (env.cells.lookup p.1).getD 0) :: cs else cs) acc).lookup y = some c := by
    intro names
    induction names with
    | nil => rintro acc (h | h); cases h; exact h
    | cons p names ih =>
      intro acc h
      rw [List.foldl_cons]
      refine ih _ ?_
      rcases h with h | ⟨c, h⟩
      · rcases List.mem_cons.mp h with e | h
        · right
          subst e
          exact ⟨(env.cells.lookup y).getD 0, by simp⟩
        · exact .inl h
      · right
        by_cases hk : (p.2 == NameKind.free) = true
        · (rw [if_pos hk]; rw [List.lookup_cons])
          cases hy : y == p.1 with
          | true => exact ⟨_, rfl⟩
          | false => exact ⟨c, h⟩
        · rw [if_neg hk]; exact ⟨c, h⟩
  exact key names [] (.inl h)

theorem rel_lookup {cn : List (Str × NameKind)} : ∀ {names : List (Str × NameKind)} {y : Str} {k : NameKind}, (relN cn names).lookup y = some k →
    ∃ k', names.lookup y = some k' ∧ ((k' = .free ∧ cn.lookup y = some .cell ∧ k = .cell) ∨ (k = k' ∧ ¬ (k' = .free ∧ cn.lookup y = some .cell)))
  | [], _, _, h => by simp [relN] at h
  | p :: names, y, k, h => by
    unfold relN at h
    rw [List.map_cons] at h
    have e1 : (if (p.2 == .free && cn.lookup p.1 == some .cell) = true then (p.1, NameKind.cell) else p).1 = p.1 := by split <;> rfl
    rw [List.lookup_cons] at h
    rw [e1] at h
    cases hy : y == p.1 with
    | true =>
      rw [hy] at h
      have : y = p.1 := by simpa using hy
      subst this
      refine ⟨p.2, by rw [show p = (p.1, p.2) from rfl]; simp, ?_⟩
      by_cases hc : (p.2 == .free && cn.lookup p.1 == some .cell) = true
      · rw [if_pos hc] at h
        simp only [Bool.and_eq_true, beq_iff_eq] at hc
        exact .inl ⟨hc.1, hc.2, (Option.some.inj h).symm⟩
      · rw [if_neg hc] at h
        refine .inr ⟨(Option.some.inj h).symm, ?_⟩
        simpa using hc
    | false =>
      rw [hy] at h
      obtain ⟨k', h1, h2⟩ := rel_lookup (names := names) h
      exact ⟨k', by (rw [show p = (p.1, p.2) from rfl]; rw [List.lookup_cons]; rw [hy]); exact h1, h2⟩
theorem relabel_eq {K : Ctx} {env : Env} {cx : Cx} {m : M} {g : G} {h : Heap} (F : Fr K env cx m g h) (scope : Scope) : (relabel scope env).names = relN cx.names scope.names := by
  unfold relabel relN
  show List.map _ scope.names = _
  apply List.map_congr_left
  intro p hp
  obtain ⟨nm, kd⟩ := p
  have : env.kindOf nm = cx.names.lookup nm := by unfold Env.kindOf; rw [F.names]
  simp only [F.kind, this, beq_self_eq_true, Bool.and_true]

theorem put_put : ∀ (m : M) (k : Nat) (a b : V), put (put m k a) k b = put m k b
  | [], _, _, _ => rfl
  | _ :: _, 0, _, _ => rfl
  | w :: m, k + 1, a, b => by simp only [put]; rw [put_put m k a b]

section
variable {K : Ctx} {pg : Pg} {n : Nat} {cx : Cx}

theorem GoX.gainList {X : Addr → Prop} {g g₁ : G} {σ₁ : H} {h h₁ : Heap} (q : GoX K X g h g₁ σ₁ h₁) {D : Addr} {xs : List V} {vs : Array Value} {k : Nat} (h0 : h.get? D = none) (hD : ¬ g₁.own D ∧ K.hB.get? D = none) (e : h₁.get? D = some { cls := .type "list", data := .seq vs k })
    (r : VRels K g₁ h₁ xs vs.toList) (hl : xs.length ≤ lim) : GoX K X g h ⟨g₁.ρ ++ [D], g₁.ι⟩ (σ₁ ++ [xs]) h₁ := by
  have S := q.st
  have mono : ∀ {xs : List V} {ws : List Value}, VRels K g₁ h₁ xs ws → VRels K ⟨g₁.ρ ++ [D], g₁.ι⟩ h₁ xs ws := fun {xs ws} r => VRels.mono (g := g₁) (g' := ⟨g₁.ρ ++ [D], g₁.ι⟩) (fun _ _ e => pre_get (List.prefix_append _ _) e) (fun _ i => i) (fun b o _ e => e) _ _ r
  refine ⟨⟨S.base, by simp [S.len], fun i a ys h1 h2 => ?_, ?_, fun ys hy => ?_, fun i a h1 h2 => ?_, fun a i => ?_⟩, q.pre.trans (List.prefix_append _ _), q.imm, fun a x => ?_, q.keep, q.there⟩
  · by_cases hi : i < σ₁.length
    · rw [List.getElem?_append_left (by rw [S.len]; exact hi)] at h1
      rw [List.getElem?_append_left hi] at h2
      obtain ⟨vs, n, e', r'⟩ := S.lists i a ys h1 h2
      exact ⟨vs, n, e', mono r'⟩
    · have hi' : i = σ₁.length := by
        have := (List.getElem?_eq_some_iff.mp h2).1
        simp at this; walk_at "o"
      subst hi'
      rw [List.getElem?_append_right (by rw [S.len]; exact Nat.le_refl _)] at h1
      rw [List.getElem?_append_right (Nat.le_refl _)] at h2
      simp [S.len] at h1 h2
      subst h1 h2
      exact ⟨vs, k, e, mono r⟩
  · refine List.nodup_append.mpr ⟨S.nodup, by simp, ?_⟩
    intro a ha c hc
    simp at hc; subst hc
    exact fun z => hD.1 (.inl (z ▸ ha))
  · rcases List.mem_append.mp hy with z | z
    · exact S.small ys z
    · simp at z; subst z; exact hl
  · by_cases hi : i < g₁.ρ.length
    · rw [List.getElem?_append_left hi] at h1
      exact S.fresh i a h1 h2
    · rw [List.getElem?_append_right (Nat.le_of_not_lt hi)] at h1
      have : a = D := by
        have := List.mem_of_getElem? h1
        simpa using this
      subst this
      exact hD.2
  · obtain ⟨a1, a2, o, a3⟩ := S.imm a i
    refine ⟨a1, fun hb => ?_, o, a3⟩
    rcases List.mem_append.mp hb with x | x
    · exact a2 x
    · simp at x; subst x; exact hD.1 (.inr i)
  · rcases x with x | x
    · rcases List.mem_append.mp x with x | x
      · exact q.new a (.inl x)
      · simp at x; subst x; exact .inr h0
    · exact q.new a (.inr x)

/-- the block's own frame -/
theorem comp_frame {env : Env} {m : M} {g g₁ : G} {h h' : Heap} {scope : Scope} {x : Str} {C : Addr} {σ : H} {ns : Str → Option Value} (F : Fr K env cx m g h) (ok : CompOk cx scope x) (hn : h.Ns C ns) (hC : ¬ g.own C ∧ K.hB.get? C = none) :
    Fr K (compEnvC scope (clOf env scope.names) C env) (compCx cx scope.names x) m g h := by
  have hcell : ∀ p ∈ scope.names, p.2 = .free → ∃ c, env.cells.lookup p.1 = some c := fun p hp hf => by
    obtain ⟨h1, k, h2⟩ := ok.free p hp hf
    obtain ⟨c, o, e, _⟩ := F.cell p.1 k h2 h1
    exact ⟨c, e⟩
  have up : ∀ y c, (clOf env scope.names).lookup y = some c → env.cells.lookup y = some c := fun y c => cl_sound scope.names hcell
  refine ⟨ok.kind, relabel_eq F scope, F.glob, F.blt, ⟨ns, hn, fun y k v h1 h2 h3 => ?_⟩, fun y k h1 h2 => ?_, hC, fun y c e => F.privC y c (up y c e), fun y z c e1 e2 => F.apart y z c (up y c e1) (up z c e2), fun y z k h1 h2 => ?_, fun y k h1 => ?_, fun j hj => F.hi j (by simp [compCx] at hj; walk_at "o")⟩
  · obtain ⟨k', e, hk⟩ := rel_lookup h2
    have hk' : k' = .local := by
      rcases hk with ⟨rfl, _, z⟩ | ⟨rfl, _⟩
      · cases z
      · rfl
    subst hk'
    obtain ⟨hy, _⟩ := ok.loc (y, .local) (mem_of_lookup e) rfl
    rcases hy with hy | hy
    · have hy' : y = x := hy
      subst hy'
      simp [compCx] at h1
      subst h1
      rw [F.hi _ (Nat.le_refl _)] at h3; cases h3
    · have hy' : y = (".0" : Str) := hy
      subst hy'
      have : (compCx cx scope.names x).slots.lookup (".0" : Str) = none := by
        show List.lookup _ ((x, _) :: cx.slots) = none
        rw [List.lookup_cons]
        have : ((".0" : Str) == x) = false := by simpa using fun z => ok.xdot z.symm
        rw [this]; exact ok.dot
      rw [this] at h1; cases h1
  · obtain ⟨k', e, hk⟩ := rel_lookup h2
    have hk' : k' = .free ∧ cx.names.lookup y = some .cell := by
      rcases hk with ⟨a, b, _⟩ | ⟨rfl, _⟩
      · exact ⟨a, b⟩
      · exact absurd rfl (ok.nocell _ (mem_of_lookup e))
    obtain ⟨rfl, hc⟩ := hk'
    have hyx : y ≠ x := by
      rintro rfl
      rw [ok.own] at e; cases e
    have h1' : cx.slots.lookup y = some k := by
      have : List.lookup y ((x, cx.slots.length) :: cx.slots) = some k := h1
      rw [List.lookup_cons] at this
      have hb : (y == x) = false := by simpa using hyx
      rw [hb] at this; exact this
    obtain ⟨c, o, ec, ho, hv⟩ := F.cell y k h1' hc
    obtain ⟨c', e'⟩ := cl_some (env := env) scope.names (mem_of_lookup e)
    have : c' = c := by
      have := up y c' e'
      rw [ec] at this; exact (Option.some.inj this).symm
    subst this
    exact ⟨c', o, e', ho, hv⟩
  · have lk : ∀ y k, (compCx cx scope.names x).slots.lookup y = some k → (y = x ∧ k = cx.slots.length) ∨ (y ≠ x ∧ cx.slots.lookup y = some k) := fun y k h => by
      have h' : List.lookup y ((x, cx.slots.length) :: cx.slots) = some k := h
      rw [List.lookup_cons] at h'
      cases hb : y == x with
      | true => rw [hb] at h'; exact .inl ⟨by simpa using hb, (Option.some.inj h').symm⟩
      | false => rw [hb] at h'; exact .inr ⟨by simpa using hb, h'⟩
    rcases lk y k h1 with ⟨a, b⟩ | ⟨a, b⟩ <;> rcases lk z k h2 with ⟨c, d⟩ | ⟨c, d⟩
    · (rw [a]; rw [c])
    · have := F.bnd z k d; walk_at "o"
    · have := F.bnd y k b; walk_at "o"
    · exact F.inj y z k b d
  · have h' : List.lookup y ((x, cx.slots.length) :: cx.slots) = some k := h1
    rw [List.lookup_cons] at h'
    show k < cx.slots.length + 1
    cases hb : y == x with
    | true => rw [hb] at h'; have := Option.some.inj h'; walk_at "o"
    | false => rw [hb] at h'; have := F.bnd y k h'; walk_at "o"
end
end Mini

set_option autoImplicit false
set_option linter.unusedVariables false
namespace Mini
open PySem

section
variable {K : Ctx} {pg : Pg} {n : Nat} {cx : Cx} {A : Around}

set_option genInjectivity false
set_option genSizeOfSpec false
inductive CmI (K : Ctx) (cenv : Env) (cx' : Cx) (vs : List V) (J : Nat → G → Heap → Prop) (m : M) (k : Nat) (D : Addr) (g₀ : G) (s₀ : Shared) (L : Nat → List V → H → Prop) (q : Nat) (s : Shared) : Prop
  | mk (i : Nat) (m₁ : M) (g : G) (σ : H) (acc : List V) (ws : Array Value) (kD : Nat) (hq : q = vs.length + 1 - i) (hi : i ≤ vs.length) (hJ : J i g s.heap) (F : Fr K cenv cx' m₁ g s.heap) (hm : ∀ v, put m₁ k v = put m k v) (go : Go K g₀ s₀.heap g σ s.heap) (sx : Sx s₀ s) (hl : IsL s.heap D ws kD) (hr : VRels K g s.heap acc ws.toList)
    (hDp : ¬ g.own D ∧ K.hB.get? D = none) (hW : L i acc σ)
/-- the block's loop -/
theorem comp_loop {cenv : Env} {cx' : Cx} {g₀ : G} {s₀ : Shared} {elt iter : Expr} {x : Str} {px pos : Pos} {ifs : List Expr} {scope : Scope} {k : Nat} {it : Value} {X : Addr → Prop} {vs : List V} {ok : H → Prop} {J : Nat → G → Heap → Prop} {m : M} {D : Addr}
    {T : V → H → (Bool → H → Prop) → Prop} {Fe : V → H → P → Prop} {Q : P} {RR : Result → Shared → Prop}
    (I : Itr K A (.Name x px) it X vs ok J) (hxl : cx'.names.lookup x = some .local) (hxs : cx'.slots.lookup x = some k) (hX : ∀ b, X b → s₀.heap.get? b = none) (hC : s₀.heap.get? cenv.locals = none) (hD : s₀.heap.get? D = none) (hXD : ¬ X D)
    (hT : ∀ v g σ s (L : Bool → H → Prop), Fr K cenv cx' (put m k v) g s.heap → St K g σ s.heap → T v σ L → wpAny (model K.prog K.w) A (forIn ifs true fun c r => if r = true then do let ok ← isTrue c cenv (eval c cenv); pure (ForInStep.yield ok) else pure (ForInStep.yield r)) (EndB K g s L) noE s)
    (hF : ∀ v g σ s (L : P), Fr K cenv cx' (put m k v) g s.heap → St K g σ s.heap → Fe v σ L → wpAny (model K.prog K.w) A (eval elt cenv) (EndE K g s L) noE s)
    (hRR : ∀ s' g' σ' acc ws kD ns, Go K g₀ s₀.heap g' σ' s'.heap → Sx s₀ s' → IsL s'.heap D ws kD → VRels K g' s'.heap acc ws.toList → (¬ g'.own D ∧ K.hB.get? D = none) → (¬ g'.own cenv.locals ∧ K.hB.get? cenv.locals = none) → s'.heap.Ns cenv.locals ns → alloc acc σ' Q → RR (.ok .next) s')
    {g : G} {σ : H} {s : Shared} {kD : Nat} (hJ : J 0 g s.heap) (F : Fr K cenv cx' m g s.heap) (go : Go K g₀ s₀.heap g σ s.heap) (sx : Sx s₀ s) (hl : IsL s.heap D #[] kD) (hDp : ¬ g.own D ∧ K.hB.get? D = none) (hW : compL T Fe ok vs [] σ Q) :
    codeAny (model K.prog K.w) A (.compLoop (.ListComp elt [⟨.Name x px, iter, ifs, 0⟩] scope pos) 0 it (.ref D) cenv) RR s := by
  refine codeAny_compLoop_tests (CmI K cenv cx' vs J m k D g₀ s₀ (fun i acc σ => compL T Fe ok (vs.drop i) acc σ Q))
    ?_ (vs.length + 1) ⟨0, m, g, σ, [], #[], kD, by simp, Nat.zero_le _, hJ, F, fun _ => rfl, go, sx, hl, trivial, hDp, by simpa using hW⟩
  rintro q s ⟨i, m₁, g, σ, acc, ws, kD, rfl, hi, hJ, F, hm, go, sx, hl, hr, hDp, hW⟩
  have pv := I.priv i g s.heap hJ
  have dis : ∀ b, X b → ¬ fpOf cenv b := fun b hb hf => by
    obtain ⟨_, _, o, e, ha⟩ := pv b hb
    exact fp_apart F b hf o e ha
  have hCl : cenv.locals ≠ D := by
    rintro rfl
    obtain ⟨_, ⟨o, es, ep, ho, hd, _⟩, _⟩ := F.loc
    rw [hl] at ho; cases ho; cases hd
  cases hv : vs[i]? with
  | none =>
    have hd : vs.drop i = [] := by
      rw [List.getElem?_eq_none_iff] at hv
      exact List.drop_of_length_le hv
    rw [hd] at hW
    refine wpAny_mono (I.stop i g σ s hJ go.st hW.1 hv) (fun r s₁ q => ?_) fun _ _ f => f.elim
    obtain ⟨rfl, S₁, hk, sx₁⟩ := q
    have F₁ := F.stay go.st hk dis fun b hb => (pv b hb).n1
    have go₁ : Go K g₀ s₀.heap g σ s₁.heap := ((go.toX (X := fun _ => False)).halt S₁ hk hX).toGo fun _ f => f.elim
    obtain ⟨ns, hn, _⟩ := F₁.loc
    refine hRR s₁ g σ acc ws kD ns go₁ (sx.trans sx₁) (hk D _ hl hXD) ?_ hDp F₁.priv hn hW.2
    exact VRels.mono (fun _ _ e => e) (fun _ i => i) (fun b o i e => hk b o e fun z => (pv b z).n1 (.inr i)) _ _ hr
  | some v =>
    have hlt := (List.getElem?_eq_some_iff.mp hv).1
    have hd : vs.drop i = v :: vs.drop (i + 1) := by
      rw [List.drop_eq_getElem_cons hlt]
      congr 1
      exact (List.getElem?_eq_some_iff.mp hv).2
    rw [hd] at hW
    obtain ⟨hok, hW⟩ := hW
    refine wpAny_mono (I.nextN ⟨_, _, rfl⟩ i g σ s v hJ go.st hok hv) (fun r s₁ q => ?_) fun _ _ f => f.elim
    obtain ⟨w, g₂, rfl, go₂, sx₂, rel₂, hJ₂⟩ := q
    have F₂ := F.goX go.st go₂ dis fun b hb => (pv b hb).n1
    have go02 : Go K g₀ s₀.heap g₂ σ s₁.heap := ((go.toX (X := fun _ => False)).step go₂ fun b hb => .inr (hX b hb)).toGo fun _ f => f.elim
    have hl₂ : IsL s₁.heap D ws kD := go₂.keep D _ hl (fun z => hDp.1 (.inl z)) hXD
    have hr₂ := go₂.rels go.st (fun b hb => (pv b hb).n1) hr
    have hDp₂ : ¬ g₂.own D ∧ K.hB.get? D = none := ⟨go₂.priv hl hDp.1, hDp.2⟩
    refine wpAny_assign_Name (store_local F₂ go₂.st hxl hxs rel₂ fun s₃ go₃ sx₃ F₃ => ?_)
    rw [hm] at F₃
    have go03 : Go K g₀ s₀.heap g₂ σ s₃.heap := ((go02.toX (X := fun _ => False)).step go₃ fun b hb => .inr (hb ▸ hC)).toGo fun _ f => f.elim
    have hl₃ : IsL s₃.heap D ws kD := go₃.keep D _ hl₂ (fun z => hDp₂.1 (.inl z)) (Ne.symm hCl)
    have hr₃ := go₃.rels go₂.st (fun b hb => hb ▸ F₂.priv.1) hr₂
    have hJ₃ : J (i + 1) g₂ s₃.heap := I.stay (i + 1) _ g₂ σ s₁.heap g₂ σ s₃.heap hJ₂ go₂.st go₃ fun b hb hx => dis b hx (.inl hb)
    have sx03 := (sx.trans sx₂).trans sx₃
    refine wpAny_mono (hT v g₂ σ s₃ _ F₃ go₃.st hW) (fun b s₄ q => ?_) fun _ _ f => f.elim
    obtain ⟨g₄, σ₄, go₄, sx₄, W₄⟩ := q
    have F₄ := F₃.go go₃.st go₄
    have hl₄ : IsL s₄.heap D ws kD := go₄.keep D _ hl₃ (fun z => hDp₂.1 (.inl z))
    have hr₄ := go₄.rels go₃.st hr₃
    have hDp₄ : ¬ g₄.own D ∧ K.hB.get? D = none := ⟨go₄.priv hl₃ hDp₂.1, hDp₂.2⟩
    have hJ₄ : J (i + 1) g₄ s₄.heap := I.stay (i + 1) (fun _ => False) g₂ σ s₃.heap g₄ σ₄ s₄.heap hJ₃ go₃.st go₄.toX fun b hb => hb.elim
    cases b with
    | false =>
      simp only [Bool.false_eq_true, if_false] at W₄ ⊢
      exact ⟨vs.length + 1 - (i + 1), by walk_at "o", i + 1, _, g₄, σ₄, acc, ws, kD, rfl, by walk_at "o", hJ₄, F₄, fun u => put_put m k v u, go03.trans go₄, sx03.trans sx₄, hl₄, hr₄, hDp₄, W₄⟩
    | true =>
      simp only [if_true] at W₄ ⊢
      refine wpAny_mono (hF v g₄ σ₄ s₄ _ F₄ go₄.st W₄) (fun y s₅ q => ?_) fun _ _ f => f.elim
      obtain ⟨r₅, g₅, σ₅, go₅, sx₅, rel₅, hz, W₅⟩ := q
      have F₅ := F₄.go go₄.st go₅
      have hl₅ : IsL s₅.heap D ws kD := go₅.keep D _ hl₄ (fun z => hDp₄.1 (.inl z))
      have hr₅ := go₅.rels go₄.st hr₄
      have hDp₅ : ¬ g₅.own D ∧ K.hB.get? D = none := ⟨go₅.priv hl₄ hDp₄.1, hDp₄.2⟩
      have hJ₅ : J (i + 1) g₅ s₅.heap := I.stay (i + 1) (fun _ => False) g₄ σ₄ s₄.heap g₅ σ₅ s₅.heap hJ₄ go₄.st go₅.toX fun b hb => hb.elim
      have go05 := (go03.trans go₄).trans go₅
      have hsz : ws.size ≤ sizeLine := by
        have := hr₅.length
        have h2 : ws.toList.length = ws.size := by simp
        rw [← lim_eq]; walk_at "o"
      refine wpAny_list_append_plain (hsz := hsz) ⟨kD, hl₅⟩ fun h₆ hl₆ hs₆ => ?_
      obtain ⟨k₆, hl₆⟩ := hl₆
      have go₆ : GoX K (· = D) g₅ s₅.heap g₅ σ₅ h₆ := GoX.sameBut go₅.st hDp₅ hl₆ hs₆.extBut
      have go06 : Go K g₀ s₀.heap g₅ σ₅ h₆ := ((go05.toX (X := fun _ => False)).step go₆ fun b hb => .inr (hb ▸ hD)).toGo fun _ f => f.elim
      have hpD : ∀ b, b = D → ¬ g₅.own b := fun b hb => hb ▸ hDp₅.1
      have F₆ := F₅.goX go₅.st go₆ (fun b hb hf => by
        subst hb
        have := fp_apart F₅ b hf _ hl₅
        exact this ⟨fun _ _ e => (nomatch e), fun _ e => (nomatch e)⟩) hpD
      refine ⟨vs.length + 1 - (i + 1), by walk_at "o", i + 1, _, g₅, σ₅, acc ++ [r₅], ws.push y, k₆, rfl, by walk_at "o", ?_, F₆, fun u => put_put m k v u, go06, ⟨((sx03.trans sx₄).trans sx₅).1, ((sx03.trans sx₄).trans sx₅).2⟩, hl₆, ?_, hDp₅, W₅⟩
      · exact I.stay (i + 1) _ g₅ σ₅ s₅.heap g₅ σ₅ h₆ hJ₅ go₅.st go₆ fun b hb hx => hXD (hb ▸ hx)
      · rw [Array.toList_push]
        exact (go₆.rels go₅.st hpD hr₅).append ⟨go₆.rel go₅.st hpD rel₅, trivial⟩
end
end Mini

set_option autoImplicit false
set_option linter.unusedVariables false
namespace Mini
open PySem

section
variable {K : Ctx} {pg : Pg} {n : Nat} {cx : Cx}

theorem comp_all {env : Env} {A : Around} {m : M} {g : G} {σ : H} {s : Shared} {elt iter : Expr} {x : Str} {px pos : Pos} {ifs : List Expr} {scope : Scope} {src : Src} {T : V → H → (Bool → H → Prop) → Prop} {pe : E} {Q : P} {RR : Value → Addr → Result → Shared → Prop}
    (R : Room A n) (F : Fr K env cx m g s.heap) (S : St K g σ s.heap) (ok : CompOk cx scope x) (hsrc : SSrc K n cx iter src) (htg : tgtOk src (.Name x px)) (helt : SE K n (compCx cx scope.names x) elt pe)
    (hT : ∀ cenv v g σ s (L : Bool → H → Prop), Fr K cenv (compCx cx scope.names x) (put m cx.slots.length v) g s.heap → St K g σ s.heap → T v σ L → wpAny (model K.prog K.w) A (forIn ifs true fun c r => if r = true then do let ok ← isTrue c cenv (eval c cenv); pure (ForInStep.yield ok) else pure (ForInStep.yield r)) (EndB K g s L) noE s)
    (W : WSrc (callW K.Φ n) noX src m σ fun its okk σ => compL T (fun v σ Q => WE (callW K.Φ n) noX pe (put m cx.slots.length v) σ Q) okk its [] σ Q)
    (hRR : ∀ D C s' g' σ' acc ws kD ns, Go K g s.heap g' σ' s'.heap → Sx s s' → IsL s'.heap D ws kD → VRels K g' s'.heap acc ws.toList → s.heap.get? D = none → s.heap.get? C = none → C ≠ D → (¬ g'.own D ∧ K.hB.get? D = none) → (¬ g'.own C ∧ K.hB.get? C = none) → s'.heap.Ns C ns → alloc acc σ' Q → RR (.ref D) C (.ok .next) s') :
    wpAny (model K.prog K.w) A (eval iter env) (fun xv s₁ => wpAny (model K.prog K.w) A (pyIter xv) (fun it s₂ => wpAny (model K.prog K.w) A (newList []) (fun acc s₃ =>
      wpAny (model K.prog K.w) A (newFunctionEnv scope env.globals (clOf env scope.names) [] env.qual none .none (some env)) (fun cenv s₄ =>
        codeAny (model K.prog K.w) A (.compStart (.ListComp elt [⟨.Name x px, iter, ifs, 0⟩] scope pos) 0 it acc { cenv with scope := relabel scope env }) (RR acc cenv.locals) s₄) noE s₃) noE s₂) noE s₁) noE s := by
  refine wpAny_mono (hsrc env A m g σ s (.Name x px) _ R F S htg W) (fun xv s₁ q => wpAny_mono q (fun it s₂ q => ?_) fun _ _ f => f) fun _ _ f => f
  obtain ⟨g₂, σ₂, vs, okk, X, J, go₂, sx₂, I, hJ, hX, W₂⟩ := q
  refine wpAny_newObj_type (wpAny_newFunctionEnv ok.nocell (by intro y hy; simp at hy) (fun h₁ hns₁ hsb₁ => ?_) ok.kind)
  dsimp only at hns₁ hsb₁ ⊢
  generalize hH2 : s₂.heap.push { cls := .type "list", dict := none, data := .seq ([] : List Value).toArray } = H2 at hns₁ hsb₁ ⊢
  have hC : H2.objs.size = s₂.heap.objs.size + 1 := by (rw [← hH2]; rw [Heap.size_push])
  have nD : s₂.heap.get? s₂.heap.objs.size = none := none_at_size _
  have nC : s₂.heap.get? H2.objs.size = none := none_above (by rw [hC]; exact Nat.le_succ _)
  have hCD : H2.objs.size ≠ s₂.heap.objs.size := by rw [hC]; exact ne_ad (.inr (Nat.lt_succ_self _))
  have old : ∀ b o, s₂.heap.get? b = some o → h₁.get? b = some o := fun b o e => by
    refine hsb₁.extBut b o ?_ (Heap.get?_push_of_some _ (hH2 ▸ Heap.get?_push_of_some _ e))
    rintro rfl
    rw [nC] at e; cases e
  have hl : IsL h₁ s₂.heap.objs.size #[] 0 := hsb₁.extBut _ _ (Ne.symm hCD) (Heap.get?_push_of_some _ (hH2 ▸ Heap.get?_push_size _ rfl))
  have fC := fresh_not go₂.st nC
  have fD := fresh_not go₂.st nD
  have go₃ : Go K g₂ s₂.heap g₂ σ₂ h₁ := Go.change go₂.st old
  have F₃ := (F.go S go₂).go go₂.st go₃
  have Fc : Fr K (compEnvC scope (clOf env scope.names) H2.objs.size env) (compCx cx scope.names x) m g₂ h₁ := comp_frame (h' := h₁) (g₁ := g₂) (σ := σ₂) F₃ ok hns₁ fC
  have hxl : (compCx cx scope.names x).names.lookup x = some .local := by
    have e := relabel_eq F scope
    show List.lookup x (relN cx.names scope.names) = _
    rw [← e]
    exact lookup_relabel_local ok.own
  have hxs : (compCx cx scope.names x).slots.lookup x = some cx.slots.length := by simp [compCx]
  have hXD : ¬ X s₂.heap.objs.size := fun z => by
    obtain ⟨_, _, o, e, _⟩ := I.priv 0 g₂ s₂.heap hJ _ z
    rw [nD] at e; cases e
  have hXC : ¬ X H2.objs.size := fun z => by
    obtain ⟨_, _, o, e, _⟩ := I.priv 0 g₂ s₂.heap hJ _ z
    rw [nC] at e; cases e
  have hJ₃ : J 0 g₂ h₁ := I.stay 0 (fun _ => False) g₂ σ₂ s₂.heap g₂ σ₂ h₁ hJ go₂.st go₃.toX fun b hb => hb.elim
  have loop : ∀ s₃ : Shared, s₃ = { s₂ with heap := h₁, toks := s₂.toks + ([] : List (Str × Value)).length } →
      codeAny (model K.prog K.w) A (.compLoop (.ListComp elt [⟨.Name x px, iter, ifs, 0⟩] scope pos) 0 it (.ref s₂.heap.objs.size) (compEnvC scope (clOf env scope.names) H2.objs.size env)) (RR (.ref s₂.heap.objs.size) H2.objs.size) s₃ := by
    rintro s₃ rfl
    refine comp_loop (s₀ := s) (g₀ := g) (cenv := compEnvC scope (clOf env scope.names) H2.objs.size env) (m := m) (T := T) I hxl hxs hX (go_none go₂ nC) (go_none go₂ nD) hXD (fun v g σ s L F' S' W' => hT _ v g σ s L F' S' W') (fun v g σ s L F' S' W' => helt _ A _ g σ s L R F' S' W') ?_
      hJ₃ Fc (go₂.trans go₃) ⟨sx₂.1, sx₂.2⟩ hl fD W₂
    intro s' g' σ' acc ws kD ns a1 a2 a3 a4 a5 a6 a7 a8
    exact hRR _ _ s' g' σ' acc ws kD ns a1 a2 a3 a4 (go_none go₂ nD) (go_none go₂ nC) hCD a5 a6 a7 a8
  exact codeAny_compStart_list (loop _ rfl) (wpAny_mono (I.self 0 g₂ _ (fun it' s' => it' = it ∧ s' = { s₂ with heap := h₁, toks := s₂.toks + ([] : List (Str × Value)).length }) hJ₃ ⟨rfl, rfl⟩) (fun it' s' q => by
    obtain ⟨rfl, rfl⟩ := q
    exact loop _ rfl) fun _ _ f => f.elim)

theorem comp_end {g g' : G} {σ' : H} {s s' : Shared} {D C : Addr} {acc : List V} {ws : Array Value} {kD : Nat} {Q : P} {h' : Heap} {tk : Nat} (go : Go K g s.heap g' σ' s'.heap) (sx : Sx s s') (hl : IsL s'.heap D ws kD) (hr : VRels K g' s'.heap acc ws.toList) (hD : s.heap.get? D = none) (hC : s.heap.get? C = none) (hCD : C ≠ D)
    (pD : ¬ g'.own D ∧ K.hB.get? D = none) (pC : ¬ g'.own C ∧ K.hB.get? C = none) (hs : Heap.SameBut C s'.heap h') (q : alloc acc σ' Q) : EndE K g s Q (.ref D) { s' with heap := h' } := by
  have hk : ∀ b o, s'.heap.get? b = some o → ¬ (b = C) → h'.get? b = some o := fun b o e n => hs.extBut b o n e
  have S' : St K g' σ' h' := go.st.change fun b o e z => hk b o e (by
    rintro rfl
    rcases z with z | ⟨o', z⟩
    · exact pC.1 z
    · rw [pC.2] at z; cases z)
  have go' : GoX K (fun _ => False) g s.heap g' σ' h' := (go.toX).halt S' hk fun b hb => hb ▸ hC
  have hr' : VRels K g' h' acc ws.toList := VRels.mono (fun _ _ e => e) (fun _ i => i) (fun b o i e => hk b o e fun z => pC.1 (z ▸ .inr i)) _ _ hr
  have fin := go'.gainList hD pD (hk D _ hl (Ne.symm hCD)) hr' q.1
  refine ⟨.ref σ'.length, _, _, fin.toGo fun _ f => f.elim, ⟨sx.1, sx.2⟩, ⟨D, ?_, rfl⟩, q.2⟩
  show (g'.ρ ++ [D])[σ'.length]? = some D
  rw [← go.st.len]; simp

theorem hnames_of {scope : Scope} {x : Str} (ok : CompOk cx scope x) : ∀ y ∈ scope.names, y.2 = .local → scope.names.lookup y.1 = some .local := fun y hy hl => (ok.loc y hy hl).2
theorem cells_of {env : Env} {m : M} {g : G} {h : Heap} {scope : Scope} {x : Str} (F : Fr K env cx m g h) (ok : CompOk cx scope x) : ∀ p ∈ scope.names, p.2 = .free → ∃ c, env.cells.lookup p.1 = some c := fun p hp hf => by
  obtain ⟨h1, k, h2⟩ := ok.free p hp hf
  obtain ⟨c, o, e, _⟩ := F.cell p.1 k h2 h1
  exact ⟨c, e⟩

/-- how a block's tests are compiled -/
inductive Tests (K : Ctx) (n : Nat) (cx : Cx) (src : Src) (k : Nat) (pe : E) : List Expr → E → Prop where
  | none : Tests K n cx src k pe [] (.comp pe k src)
  | one {t : Expr} {pt : E} (h : STr K n cx t pt) : Tests K n cx src k pe [t] (.compIf pe k src pt)

theorem tests_go {env : Env} {A : Around} {m : M} {g : G} {σ : H} {s : Shared} {iter elt : Expr} {x : Str} {px pos : Pos} {ifs : List Expr} {scope : Scope} {src : Src} {pe e : E} {Q : P} {RR : Value → Addr → Result → Shared → Prop}
    (R : Room A n) (F : Fr K env cx m g s.heap) (S : St K g σ s.heap) (ok : CompOk cx scope x) (hsrc : SSrc K n cx iter src) (htg : tgtOk src (.Name x px)) (helt : SE K n (compCx cx scope.names x) elt pe) (ht : Tests K n (compCx cx scope.names x) src cx.slots.length pe ifs e)
    (W : WE (callW K.Φ n) noX e m σ Q)
    (hRR : ∀ D C s' g' σ' acc ws kD ns, Go K g s.heap g' σ' s'.heap → Sx s s' → IsL s'.heap D ws kD → VRels K g' s'.heap acc ws.toList → s.heap.get? D = none → s.heap.get? C = none → C ≠ D → (¬ g'.own D ∧ K.hB.get? D = none) → (¬ g'.own C ∧ K.hB.get? C = none) → s'.heap.Ns C ns → alloc acc σ' Q → RR (.ref D) C (.ok .next) s') :
    wpAny (model K.prog K.w) A (eval iter env) (fun xv s₁ => wpAny (model K.prog K.w) A (pyIter xv) (fun it s₂ => wpAny (model K.prog K.w) A (newList []) (fun acc s₃ =>
      wpAny (model K.prog K.w) A (newFunctionEnv scope env.globals (clOf env scope.names) [] env.qual none .none (some env)) (fun cenv s₄ =>
        codeAny (model K.prog K.w) A (.compStart (.ListComp elt [⟨.Name x px, iter, ifs, 0⟩] scope pos) 0 it acc { cenv with scope := relabel scope env }) (RR acc cenv.locals) s₄) noE s₃) noE s₂) noE s₁) noE s := by
  cases ht with
  | none => exact comp_all (T := fun _ σ L => L true σ) R F S ok hsrc htg helt (fun cenv v g σ s L F' S' W' => wpAny_tests_nil ⟨g, σ, Go.refl S', Sx.refl s, W'⟩) W hRR
  | one h => exact comp_all R F S ok hsrc htg helt (fun cenv v g σ s L F' S' W' => wpAny_tests_one (h cenv A _ g σ s L R F' S' W')) W hRR

theorem se_comp {iter elt : Expr} {x : Str} {px pos : Pos} {ifs : List Expr} {scope : Scope} {src : Src} {pe e : E} (ok : CompOk cx scope x) (hset : ∀ env v, foldedSetIterable iter env v = pure v) (hsrc : SSrc K n cx iter src) (htg : tgtOk src (.Name x px)) (helt : SE K n (compCx cx scope.names x) elt pe)
    (ht : Tests K n (compCx cx scope.names x) src cx.slots.length pe ifs e) : SE K n cx (.ListComp elt [⟨.Name x px, iter, ifs, 0⟩] scope pos) e := fun env A m g σ s Q R F S W => by
  rw [eval_ListComp]
  refine wpAny_comprehension_free (use := none) rfl (hset env) (closure_eq (cells_of F ok)) ok.kind (hnames_of ok) ?_
  refine tests_go (RR := fun acc C => compPost (model K.prog K.w) A noE none (EndE K g s Q) acc C) R F S ok hsrc htg helt ht W ?_
  intro D C s' g' σ' acc ws kD ns a1 a2 a3 a4 a5 a6 a7 a8 a9 a10 a11
  exact ⟨ns, a10, fun h' hs' => comp_end (tk := 0) a1 a2 a3 a4 a5 a6 a7 a8 a9 hs' a11⟩

/-- a comprehension stored by a plain name of its own line: the stores are exchanged -/
theorem ss_comp {iter elt : Expr} {x y : Str} {px py pos spos : Pos} {ifs : List Expr} {scope : Scope} {src : Src} {pe e : E} {k : Nat} (ok : CompOk cx scope x) (hset : ∀ env v, foldedSetIterable iter env v = pure v) (hsrc : SSrc K n cx iter src) (htg : tgtOk src (.Name x px)) (helt : SE K n (compCx cx scope.names x) elt pe)
    (ht : Tests K n (compCx cx scope.names x) src cx.slots.length pe ifs e) (hy : cx.names.lookup y = some .local) (hk : cx.slots.lookup y = some k)
    {env : Env} {A : Around} {m : M} {g : G} {σ : H} {s : Shared} {N : M → H → Prop} {Rt : P} (R : Room A n) (F : Fr K env cx m g s.heap) (S : St K g σ s.heap) (hsw : swapsWith (.ListComp elt [⟨.Name x px, iter, ifs, 0⟩] scope pos) (some (.Name y py)) spos.line env = pure true)
    (W : WE (callW K.Φ n) noX e m σ fun v σ => N (put m k v) σ) : wpAny (model K.prog K.w) A (exec (.Assign [.Name y py] (.ListComp elt [⟨.Name x px, iter, ifs, 0⟩] scope pos) spos) env) (EndS K env cx g s N Rt) noE s := by
  rw [exec_Assign_Name_used _ _ _ _ hsw]
  refine wpAny_bind (wpAny_standAt (wpAny_bind ?_))
  show wpAny _ A (do let _ ← comprehension (.ListComp elt [⟨.Name x px, iter, ifs, 0⟩] scope pos) scope env _ (newList []) false (eval iter env) (some (assign (.Name y py) env))) _ _ s
  refine wpAny_bind (wpAny_mono (wpAny_comprehension_free (use := some (assign (.Name y py) env)) (Q := fun _ s' => EndS K env cx g s N Rt .next s') rfl (hset env) (closure_eq (cells_of F ok)) ok.kind (hnames_of ok) ?_) (fun _ s' hq => wpAny_pure (wpAny_pure hq)) fun _ _ e => e)
  refine tests_go (RR := fun acc C => compPost (model K.prog K.w) A noE (some (assign (.Name y py) env)) (fun _ s' => EndS K env cx g s N Rt .next s') acc C) R F S ok hsrc htg helt ht W ?_
  intro D C s' g' σ' acc ws kD ns a1 a2 a3 a4 a5 a6 a7 a8 a9 a10 a11
  show wpAny _ A (assign (.Name y py) env (.ref D)) _ _ _
  have fin := (a1.toX (X := fun _ => False)).gainList a5 a8 a3 a4 a11.1
  have finG : Go K g s.heap ⟨g'.ρ ++ [D], g'.ι⟩ (σ' ++ [acc]) s'.heap := fin.toGo fun _ f => f.elim
  have F' := F.go S finG
  have hrel : VRel K ⟨g'.ρ ++ [D], g'.ι⟩ s'.heap (.ref σ'.length) (.ref D) := ⟨D, by show (g'.ρ ++ [D])[σ'.length]? = some D; rw [← a1.st.len]; simp, rfl⟩
  refine wpAny_assign_Name (store_local F' finG.st hy hk hrel fun s₂ go₂ sx₂ F₂ => ?_)
  have hLC : C ≠ env.locals := by
    rintro rfl
    obtain ⟨_, ⟨o, es, ep, ho, _⟩, _⟩ := F.loc
    rw [a6] at ho; cases ho
  obtain ⟨oC, esC, epC, hoC, hrC⟩ := a10
  have hC2 : s₂.heap.get? C = some oC := go₂.keep C _ hoC (fun z => by
    rcases List.mem_append.mp z with z | z
    · exact a9.1 (.inl z)
    · simp at z; exact a7 z) hLC
  refine ⟨ns, ⟨oC, esC, epC, hC2, hrC⟩, fun h' hs' => ?_⟩
  have pC : ¬ (⟨g'.ρ ++ [D], g'.ι⟩ : G).own C := fun z => by
    rcases z with z | z
    · rcases List.mem_append.mp z with z | z
      · exact a9.1 (.inl z)
      · simp at z; exact a7 z
    · exact a9.1 (.inr z)
  have hkp : ∀ b o, s₂.heap.get? b = some o → ¬ (b = C) → h'.get? b = some o := fun b o e n => hs'.extBut b o n e
  have S' : St K ⟨g'.ρ ++ [D], g'.ι⟩ (σ' ++ [acc]) h' := go₂.st.change fun b o e z => hkp b o e (by
    rintro rfl
    rcases z with z | ⟨o', z⟩
    · exact pC z
    · rw [a9.2] at z; cases z)
  have go3 : GoX K (fpOf env) g s.heap ⟨g'.ρ ++ [D], g'.ι⟩ (σ' ++ [acc]) s₂.heap := (finG.toX).step go₂ fun b hb => .inl (.inl hb)
  have go4 := go3.halt S' hkp fun b hb => hb ▸ a6
  have F₃ := F₂.stay go₂.st hkp (fun b hb hf => by
    subst hb
    rcases hf with hf | ⟨z, hf⟩
    · exact hLC hf
    · obtain ⟨_, _, v, o, ho, _⟩ := F.privC z b hf
      rw [a6] at ho; cases ho) fun b hb => hb ▸ pC
  exact ⟨_, _, _, go4, ⟨(a2.trans sx₂).1, (a2.trans sx₂).2⟩, F₃, a11.2⟩
end
end Mini

set_option autoImplicit false
set_option linter.unusedVariables false
namespace Mini
open PySem

structure C3 where
  v : Option E
  t : Option E
  s : Option Src

noncomputable def C3.no : C3 := ⟨none, none, none⟩
noncomputable def C3.ofV (v : Option E) : C3 := ⟨v, none, v.map .list⟩
noncomputable def C3.ofVT (v : Option E) : C3 := ⟨v, v, v.map .list⟩

noncomputable def cConst : Const → C3
  | .none => .ofV (some .none)
  | .bool b => .ofVT (some (.bool b))
  | .int i => .ofV (some (.int i))
  | .str x => .ofV ((words.idxOf? x).map .str)
  | _ => .no

noncomputable def isG (cx : Cx) (x : Str) : Bool := cx.names.lookup x == some .globalImplicit && !(x == ("__debug__" : Str))
noncomputable def cName (pg : Pg) (cx : Cx) (x : Str) : C3 :=
  if x == ("__debug__" : Str) then .no else match slotOf cx x with
    | some k => .ofVT (some (.var k))
    | none => if cx.names.lookup x == some .globalImplicit then .ofV ((pg.consts.lookup x).map .int) else .no

noncomputable def foldB (f : E → E → E) : List (Option E) → Option E
  | [] => none
  | [a] => a
  | a :: r => match a, foldB f r with
    | some x, some y => some (f x y)
    | _, _ => none
noncomputable def allV : List C3 → Option (List E)
  | [] => some []
  | c :: cs => m2 List.cons c.v (allV cs)

set_option genInjectivity false
set_option genSizeOfSpec false
inductive Bk where
  | len | list | isi | max | sum | int | range | enum | zip | rev | bool | tup | str
noncomputable def bkV (k : Bk) : Value := match k with
  | .len => .builtin "len"
  | .list => .type "list"
  | .isi => .builtin "isinstance"
  | .max => .builtin "max"
  | .sum => .builtin "sum"
  | .int => .type "int"
  | .range => .type "range"
  | .enum => .type "enumerate"
  | .zip => .type "zip"
  | .rev => .type "reversed"
  | .bool => .type "bool"
  | .tup => .type "tuple"
  | .str => .type "str"
noncomputable def bks : List (Str × Bk) := [("len", .len), ("list", .list), ("isinstance", .isi), ("max", .max), ("sum", .sum), ("int", .int), ("range", .range), ("enumerate", .enum), ("zip", .zip), ("reversed", .rev), ("bool", .bool), ("tuple", .tup), ("str", .str)]
theorem look_map {f : Bk → Value} {x : Str} {k : Bk} : ∀ {l : List (Str × Bk)}, l.lookup x = some k → (l.map fun p => (p.1, f p.2)).lookup x = some (f k)
  | [], h => by cases h
  | (y, j) :: l, h => by
    (rw [List.map_cons]; rw [List.lookup_cons])
    rw [List.lookup_cons] at h
    cases hy : x == y with
    | true => rw [hy] at h; cases h; rfl
    | false => rw [hy] at h; exact look_map h
theorem bk_ok {x : Str} {k : Bk} (h : bks.lookup x = some k) : blts.lookup x = some (bkV k) := look_map (f := bkV) h
noncomputable def bkD (k : Bk) : Option Kd := match k with
  | .int => some .int
  | .bool => some .bool
  | .list => some .list
  | .tup => some .tup
  | .str => some .str
  | _ => none
noncomputable def kdT (y : Str) : Option Kd := (bks.lookup y).bind bkD

/-- a builtin by its name, upon what its arguments are -/
noncomputable def cB1 (c : C3) (k : Bk) : C3 := match k with
  | .len => .ofV (c.v.map (.b1 .len))
  | .list => match c.s with
    | some (.range a) => .ofV (some (.listRange a))
    | _ => .ofV (c.v.map (.b1 .list))
  | .int => .ofV (c.v.map (.b1 .intOf))
  | .range => ⟨none, none, c.v.map .range⟩
  | .enum => ⟨none, none, c.v.map .enum⟩
  | _ => .no
noncomputable def cB2 (c d : C3) (k : Bk) : C3 := match k with
  | _ => .no
noncomputable def onBk (x : Str) (f : Bk → C3) : C3 := match bks.lookup x with
  | some k => f k
  | none => .no
noncomputable def cBlt (x : Str) (cs : List C3) : C3 := match cs with
  | [] => .no
  | c :: cs => match cs with
    | [] => onBk x (cB1 c)
    | d :: cs => match cs with
      | [] => onBk x (cB2 c d)
      | _ :: _ => .no

noncomputable def cMeth (name : Str) (o : Option E) : List C3 → C3
  | [] => if name = "reverse" then .ofV (o.map (.m0 .reverse)) else if name = "clear" then .ofV (o.map (.m0 .clear)) else .no
  | [c] => match o, c.v with
    | some a, some b => if name = "append" then .ofV (some (.m1 .append a b)) else if name = "pop" then .ofV (some (.m1 .pop a b)) else if name = "count" then .ofV (some (.m1 .count a b)) else if name = "index" then .ofV (some (.m1 .index a b)) else .no
    | _, _ => .no
  | _ => .no

noncomputable def srcN : Option Src → Option Src
  | some (.list a) => some (.list a)
  | some (.range a) => some (.range a)
  | _ => none

noncomputable def isSlice : Expr → Bool
  | .Slice .. => true
  | _ => false
noncomputable def nameO (e : Expr) : Option Str := match e with
  | .Name y _ => some y
  | _ => none
noncomputable def name2 (as : List Expr) : Option Str := match as with
  | [] => none
  | _ :: as => match as with
    | [] => none
    | e :: as => match as with
      | [] => nameO e
      | _ :: _ => none
noncomputable def firstV : List C3 → Option E
  | c :: _ => c.v
  | [] => none
noncomputable def isIsi (k : Bk) : Bool := match k with
  | .isi => true
  | _ => false
noncomputable def isiOf (x : Str) (as : List Expr) : Option Str := if (bks.lookup x).any isIsi then name2 as else none
noncomputable def cCallN (pg : Pg) (cx : Cx) (as : List Expr) (cs : List C3) (x : Str) : C3 := if isG cx x then (match pg.fns.lookup x with
      | some i => .ofVT ((allV cs).map (.call i))
      | none => if x = pg.hall ∧ x ≠ "" then (if as.isEmpty then .no else .ofV ((allV cs).map .hall)) else match isiOf x as with
        | some y => if isG cx y then .ofVT (m2 .isinst (firstV cs) (kdT y)) else .no
        | none => cBlt x cs) else .no
noncomputable def cCall (pg : Pg) (cx : Cx) (as : List Expr) (pos : Pos) (o : Option E) (cs : List C3) : Expr → C3
  | .Name x _ => cCallN pg cx as cs x
  | .Attribute ob name apos => if plainBase ob && apos.endLine == pos.line then cMeth name o cs else .no
  | _ => .no

noncomputable def m3 {α β γ δ : Type} (f : α → β → γ → δ) (a : Option α) (b : Option β) (c : Option γ) : Option δ := a.bind fun x => m2 (f x) b c
theorem m3_some {α β γ δ : Type} {f : α → β → γ → δ} {a : Option α} {b : Option β} {c : Option γ} {d : δ} (h : m3 f a b c = some d) : ∃ x y z, a = some x ∧ b = some y ∧ c = some z ∧ d = f x y z := by
  cases a with
  | none => cases h
  | some x => obtain ⟨y, z, h1, h2, h3⟩ := m2_some h; exact ⟨x, y, z, rfl, h1, h2, h3⟩
theorem m2_ok {α β γ : Type} {f : α → β → γ} {a : Option α} {b : Option β} {G : γ → Prop} (h : ∀ x y, a = some x → b = some y → G (f x y)) : ∀ q, m2 f a b = some q → G q := fun q hq => by
  obtain ⟨x, y, h1, h2, rfl⟩ := m2_some hq; exact h x y h1 h2
theorem m3_ok {α β γ δ : Type} {f : α → β → γ → δ} {a : Option α} {b : Option β} {c : Option γ} {G : δ → Prop} (h : ∀ x y z, a = some x → b = some y → c = some z → G (f x y z)) : ∀ q, m3 f a b c = some q → G q := fun q hq => by
  obtain ⟨x, y, z, h1, h2, h3, rfl⟩ := m3_some hq; exact h x y z h1 h2 h3
theorem map_ok {α β : Type} {f : α → β} {a : Option α} {G : β → Prop} (h : ∀ x, a = some x → G (f x)) : ∀ q, a.map f = some q → G q := fun q hq => by
  obtain ⟨x, h1, rfl⟩ := Option.map_eq_some_iff.mp hq; exact h x h1
mutual
noncomputable def cB (pg : Pg) : Cx → Expr → C3
  | _, .Constant c _ _ => cConst c
  | cx, .Name x _ => cName pg cx x
  | cx, .BinOp l op r _ => .ofV (m3 E.bin (opOf op) (cB pg cx l).v (cB pg cx r).v)
  | cx, .UnaryOp .Not e _ => ⟨(cB pg cx e).v.map .not, (cB pg cx e).t.map .not, none⟩
  | cx, .UnaryOp .USub e _ => .ofV ((cB pg cx e).v.map .neg)
  | cx, .BoolOp .And vs _ => ⟨foldB .and ((cBs pg cx vs).map C3.v), foldB .and ((cBs pg cx vs).map C3.t), none⟩
  | cx, .BoolOp .Or vs _ => ⟨foldB .or ((cBs pg cx vs).map C3.v), foldB .or ((cBs pg cx vs).map C3.t), none⟩
  | cx, .Compare l [op] [r] _ => if behindInMarks op r then .no else ⟨m3 E.cmp (cmpOf op) (cB pg cx l).v (cB pg cx r).v, m3 E.cmp (cmpOf op) (cB pg cx l).v (cB pg cx r).v, none⟩
  | cx, .Compare l [o₁, o₂] [r₁, r₂] _ => if lastMarks [o₁, o₂] [r₁, r₂] then .no else ⟨none, m3 (fun g p c => g p c) (m3 E.cmp2 (cmpOf o₁) (cB pg cx l).v (cB pg cx r₁).v) (cmpOf o₂) (cB pg cx r₂).v, none⟩
  | cx, .IfExp t a b _ => .ofV (m3 E.ite (cB pg cx t).t (cB pg cx a).v (cB pg cx b).v)
  | cx, .Call (.Attribute o name apos) as [] pos => if as.any isStar then .no else cCall pg cx as pos (cB pg cx o).v (cBs pg cx as) (.Attribute o name apos)
  | cx, .Call (.Name x p) as [] pos => if as.any isStar then .no else cCall pg cx as pos none (cBs pg cx as) (.Name x p)
  | cx, .Attribute v x _ => if !plainBase v then .no else .ofV (m2 E.attr (cB pg cx v).v (pg.fields.idxOf? x))
  | cx, .Subscript v (.Slice (some l) none none _) _ => .ofV (m2 E.from_ (cB pg cx v).v (cB pg cx l).v)
  | cx, .Subscript v (.Slice none (some u) none _) _ => .ofV (m2 E.upto (cB pg cx v).v (cB pg cx u).v)
  | cx, .Subscript v i _ => if isSlice i then .no else .ofV (m2 E.idx (cB pg cx v).v (cB pg cx i).v)
  | cx, .List es _ => if es.any isStar then .no else .ofV ((allV (cBs pg cx es)).map .disp)
  | cx, .Tuple es _ _ => if es.any isStar || !(decide (es.length ≤ 100)) then .no else .ofV ((allV (cBs pg cx es)).map .tup)
  | cx, .ListComp elt [⟨.Name x _, iter, [], 0⟩] scope _ => if !compOk cx scope x then .no else .ofV (m2 (fun src pe => .comp pe cx.slots.length src) (srcN (cB pg cx iter).s) (cB pg (compCx cx scope.names x) elt).v)
  | cx, .ListComp elt [⟨.Name x _, iter, [t], 0⟩] scope _ => if !compOk cx scope x then .no else .ofV (m3 (fun src pe pt => .compIf pe cx.slots.length src pt) (srcN (cB pg cx iter).s) (cB pg (compCx cx scope.names x) elt).v (cB pg (compCx cx scope.names x) t).t)
  | _, _ => .no
noncomputable def cBs (pg : Pg) : Cx → List Expr → List C3
  | _, [] => []
  | cx, e :: es => cB pg cx e :: cBs pg cx es
end

/-- no comprehension whose stores are exchanged -/
noncomputable def isComp : Expr → Bool
  | .ListComp .. => true
  | .SetComp .. => true
  | .DictComp .. => true
  | _ => false
noncomputable def isTup : Expr → Bool
  | .Tuple .. => true
  | _ => false
/-- whether the stores are exchanged -/
noncomputable def swaps (cx : Cx) (x : Str) (px : Pos) : Expr → Bool
  | .ListComp _ _ s p => cx.names.lookup x == some .local && px.line == p.line && !(s.names.any fun q => q.1 == x && (q.2 == .local || q.2 == .cell))
  | _ => false

/-- a comprehension is stored into a cell: nothing is exchanged -/
noncomputable def cellComp (cx : Cx) (x : Str) : Expr → Bool
  | .ListComp .. => cx.names.lookup x == some .cell
  | _ => false

noncomputable def cAsg (pg : Pg) (cx : Cx) (v : Expr) : Expr → Option S
  | .Name x px => if isComp v && !(swaps cx x px v) && !(cellComp cx x v) then none else m2 S.set (slotOf cx x) (cB pg cx v).v
  | .Tuple es k p => if isComp v || isTup v then none else m2 S.unpack (cTgt cx (.Tuple es k p)) (cB pg cx v).v
  | .Subscript o i _ => if isSlice i || isComp v then none else m3 S.put (cB pg cx o).v (cB pg cx i).v (cB pg cx v).v
  | _ => none
noncomputable def isNm : Expr → Bool
  | .Name .. => true
  | _ => false
noncomputable def forOk : Src → Expr → Bool
  | .list _, t => isNm t
  | .range _, t => isNm t
  | .enum _, t => isTup t
  | .zip _ _, t => isTup t
  | .rev _, _ => false
mutual
noncomputable def cS (pg : Pg) (cx : Cx) : Stmt → Option S
  | .Assign [t] v _ => cAsg pg cx v t
  | .Expr e _ => if isComp e then none else (cB pg cx e).v.map .expr
  | .If t a b _ => m3 S.ite (cB pg cx t).t (cSs pg cx a) (cSs pg cx b)
  | .While t a [] _ => m2 S.while (cB pg cx t).t (cSs pg cx a)
  | .For t i a [] _ => if ((cB pg cx i).s.map fun src => forOk src t) == some true then m3 S.for (cTgt cx t) (cB pg cx i).s (cSs pg cx a) else none
  | .Return (some e) _ => (cB pg cx e).v.map .ret
  | .Raise _ _ _ => some (.raise 0)
  | _ => none
noncomputable def cSs (pg : Pg) (cx : Cx) : List Stmt → Option (List S)
  | [] => some []
  | st :: r => m2 List.cons (cS pg cx st) (cSs pg cx r)
end
noncomputable def slotsOf (names : List (Str × NameKind)) : List (Str × Nat) := ((names.filter fun p => p.2 == .local || p.2 == .cell).map (·.1)).zipIdx
noncomputable def cFn (pg : Pg) (ps : Arguments) (sc : Scope) (body : List Stmt) : Option Fn :=
  let slots := slotsOf sc.names
  if sc.kind == .function && !sc.isCoroutine && !sc.isGenerator && ps.posonlyargs.isEmpty && ps.vararg.isNone && ps.kwonlyargs.isEmpty && ps.kwarg.isNone && ps.defaults.isEmpty &&
    (slots.map (·.1)).take ps.args.length == ps.args.map (·.arg) && decide (slots.map (·.1)).Nodup && ps.args.all (fun a => sc.names.lookup a.arg == some .local || sc.names.lookup a.arg == some .cell) then
    (cSs pg ⟨sc.names, slots⟩ body).map fun b => ⟨ps.args.length, slots.length + 3, b⟩
  else none
end Mini

set_option autoImplicit false
set_option linter.unusedVariables false
namespace Mini
open PySem

/-- a range, called upon one number -/
noncomputable def RgC (K : Ctx) (n : Nat) (cx : Cx) (e : Expr) (a : E) : Prop := ∃ x p e' pos, e = .Call (.Name x p) [e'] [] pos ∧ isG cx x = true ∧ blts.lookup x = some (.type "range") ∧ SE K n cx e' a ∧ isStar e' = false
structure Ok3 (K : Ctx) (n : Nat) (cx : Cx) (e : Expr) (c : C3) : Prop where
  v : ∀ p, c.v = some p → SE K n cx e p
  t : ∀ p, c.t = some p → STr K n cx e p
  s : ∀ p, c.s = some p → SSrc K n cx e p
  r : ∀ a, c.s = some (.range a) → RgC K n cx e a

section
variable {K : Ctx} {pg : Pg} {n : Nat} {cx : Cx}

theorem Ok3.no {e : Expr} : Ok3 K n cx e .no := ⟨nofun, nofun, nofun, nofun⟩
theorem src_of {e : Expr} {v : Option E} (h : ∀ p, v = some p → SE K n cx e p) : ∀ p, v.map .list = some p → SSrc K n cx e p := fun p hp => by
  cases v with
  | none => cases hp
  | some q => cases hp; exact src_list (h q rfl)
theorem no_rg {e : Expr} {v : Option E} : ∀ a, v.map Src.list = some (.range a) → RgC K n cx e a := fun a h => by cases v <;> cases h
theorem Ok3.ofV {e : Expr} {v : Option E} (h : ∀ p, v = some p → SE K n cx e p) : Ok3 K n cx e (.ofV v) := ⟨h, nofun, src_of h, no_rg⟩
theorem Ok3.ofVT {e : Expr} {v : Option E} (h : ∀ p, v = some p → SE K n cx e p) (ht : ∀ p, v = some p → STr K n cx e p) : Ok3 K n cx e (.ofVT v) := ⟨h, ht, src_of h, no_rg⟩
theorem Ok3.ofS {e : Expr} {s : Option Src} (h : ∀ p, s = some p → SSrc K n cx e p) (hr : ∀ a, s = some (.range a) → RgC K n cx e a) : Ok3 K n cx e ⟨none, none, s⟩ := ⟨nofun, nofun, h, hr⟩
theorem Ok3.ofS' {e : Expr} {v : Option E} {t : Option E} (h : ∀ p, v = some p → SE K n cx e p) (ht : ∀ p, t = some p → STr K n cx e p) : Ok3 K n cx e ⟨v, t, none⟩ := ⟨h, ht, nofun, nofun⟩

inductive All2 {α β : Type} (R : α → β → Prop) : List α → List β → Prop where
  | nil : All2 R [] []
  | cons {a : α} {b : β} {as : List α} {bs : List β} : R a b → All2 R as bs → All2 R (a :: as) (b :: bs)

theorem isG_ok {x : Str} (h : isG cx x = true) : cx.names.lookup x = some .globalImplicit ∧ (x == ("__debug__" : Str)) = false := by
  simpa [isG] using h

theorem const_ok {c : Const} {k : Nat} {pos : Pos} : Ok3 K n cx (.Constant c k pos) (cConst c) := by
  unfold cConst
  split
  · exact .ofV fun p h => by cases h; exact se_none
  · exact .ofVT (fun p h => by cases h; exact se_bool) fun p h => by cases h; exact st_val se_bool (fun _ _ => rfl) fun c x m σ k W => W
  · exact .ofV fun p h => by cases h; exact se_int
  · rename_i x
    exact .ofV fun p h => by
      simp only [Option.map_eq_some_iff] at h
      obtain ⟨j, hj, rfl⟩ := h
      refine se_str ?_
      rw [List.idxOf?_eq_some_iff] at hj
      obtain ⟨h1, h2, h3⟩ := hj
      simp [h1, h2]
  · exact .no
theorem name_ok (G₀ : Gr K pg) {x : Str} {pos : Pos} : Ok3 K n cx (.Name x pos) (cName pg cx x) := by
  unfold cName
  split
  · exact .no
  · rename_i hd
    simp only [Bool.not_eq_true] at hd
    split
    · rename_i k hk
      exact .ofVT (fun p h => by cases h; exact se_var hk hd) fun p h => by cases h; exact st_val (se_var hk hd) (fun _ _ => rfl) fun c x m σ k W => W
    · split
      · rename_i hg
        exact .ofV fun p h => by
          simp only [Option.map_eq_some_iff] at h
          obtain ⟨j, hj, rfl⟩ := h
          exact se_const G₀ (by simpa using hg) hd hj
      · exact .no

theorem foldB_some {f : E → E → E} {a : Option E} {b : Option E} {r : List (Option E)} {p : E} (h : foldB f (a :: b :: r) = some p) : ∃ x y, a = some x ∧ foldB f (b :: r) = some y ∧ p = f x y := by
  simp only [foldB] at h
  split at h
  · rename_i x y hy; cases h; exact ⟨x, y, rfl, hy, rfl⟩
  · cases h

theorem and_v {pos : Pos} : ∀ {es : List Expr} {cs : List (Option E)} {p : E}, (All2 (fun e c => ∀ p, c = some p → SE K n cx e p) es cs) → foldB .and cs = some p → SE K n cx (.BoolOp .And es pos) p := by
  intro es cs p hf hp env A m g σ s Q R F S W
  rw [arm_eval_BoolOp]
  induction hf generalizing p g σ s with
  | nil => cases hp
  | @cons e c es cs h1 h2 ih =>
    cases h2 with
    | nil =>
      simp only [foldB] at hp
      exact h1 p hp env A m g σ s Q R F S W
    | @cons e' c' es' cs' h1' h2' =>
      obtain ⟨x, y, rfl, hy, rfl⟩ := foldB_some hp
      (rw [arm_evalEach_cons]; rw [arm_evalEach_cons])
      refine bool_step (h1 x rfl env A m g σ s _ R F S W) fun b g₁ σ₁ s₁ go sx hk => ?_
      cases b with
      | false => exact wpAny_pure ⟨.bool false, g₁, σ₁, go, sx, rfl, hk⟩
      | true => exact EndE.bind go sx (ih hy g₁ σ₁ s₁ (F.go S go) go.st hk)
theorem or_v {pos : Pos} : ∀ {es : List Expr} {cs : List (Option E)} {p : E}, (All2 (fun e c => ∀ p, c = some p → SE K n cx e p) es cs) → foldB .or cs = some p → SE K n cx (.BoolOp .Or es pos) p := by
  intro es cs p hf hp env A m g σ s Q R F S W
  rw [arm_eval_BoolOp]
  induction hf generalizing p g σ s with
  | nil => cases hp
  | @cons e c es cs h1 h2 ih =>
    cases h2 with
    | nil =>
      simp only [foldB] at hp
      exact h1 p hp env A m g σ s Q R F S W
    | @cons e' c' es' cs' h1' h2' =>
      obtain ⟨x, y, rfl, hy, rfl⟩ := foldB_some hp
      (rw [arm_evalEach_cons]; rw [arm_evalEach_cons])
      refine bool_step (h1 x rfl env A m g σ s _ R F S W) fun b g₁ σ₁ s₁ go sx hk => ?_
      cases b with
      | true => exact wpAny_pure ⟨.bool true, g₁, σ₁, go, sx, rfl, hk⟩
      | false => exact EndE.bind go sx (ih hy g₁ σ₁ s₁ (F.go S go) go.st hk)
theorem and_t : ∀ {es : List Expr} {cs : List (Option E)} {p : E}, (All2 (fun e c => ∀ p, c = some p → STr K n cx e p) es cs) → foldB .and cs = some p →
    ∀ env A m g σ s (Q : Bool → H → Prop), Room A n → Fr K env cx m g s.heap → St K g σ s.heap → WT (callW K.Φ n) noX p m σ Q → wpAny (model K.prog K.w) A (allTrue .And es env) (EndB K g s Q) noE s := by
  intro es cs p hf hp
  induction hf generalizing p with
  | nil => cases hp
  | @cons e c es cs h1 h2 ih =>
    cases h2 with
    | nil => simp only [foldB] at hp; exact st_lastAnd (h1 p hp)
    | @cons e' c' es' cs' h1' h2' =>
      obtain ⟨x, y, rfl, hy, rfl⟩ := foldB_some hp
      exact st_and (h1 x rfl) (ih hy)
theorem or_t : ∀ {es : List Expr} {cs : List (Option E)} {p : E}, (All2 (fun e c => ∀ p, c = some p → STr K n cx e p) es cs) → foldB .or cs = some p →
    ∀ env A m g σ s (Q : Bool → H → Prop), Room A n → Fr K env cx m g s.heap → St K g σ s.heap → WT (callW K.Φ n) noX p m σ Q → wpAny (model K.prog K.w) A (allTrue .Or es env) (EndB K g s Q) noE s := by
  intro es cs p hf hp
  induction hf generalizing p with
  | nil => cases hp
  | @cons e c es cs h1 h2 ih =>
    cases h2 with
    | nil => simp only [foldB] at hp; exact st_lastOr (h1 p hp)
    | @cons e' c' es' cs' h1' h2' =>
      obtain ⟨x, y, rfl, hy, rfl⟩ := foldB_some hp
      exact st_or (h1 x rfl) (ih hy)

theorem allV_ok : ∀ {es : List Expr} {as : List E}, (∀ e ∈ es, Ok3 K n cx e (cB pg cx e)) → (∀ e ∈ es, isStar e = false) → allV (cBs pg cx es) = some as → SEs K n cx es as ∧ es.length = as.length
  | [], as, _, _, h => by cases h; exact ⟨ses_nil, rfl⟩
  | e :: es, as, hk, hs, h => by
    obtain ⟨a, r, h1, h2, rfl⟩ := m2_some h
    obtain ⟨x, y⟩ := allV_ok (fun e he => hk e (.tail _ he)) (fun e he => hs e (.tail _ he)) h2
    exact ⟨ses_cons (hs e (.head _)) ((hk e (.head _)).v a h1) x, congrArg (· + 1) y⟩
theorem stars {es : List Expr} (h : ¬ (es.any isStar = true)) : ∀ e ∈ es, isStar e = false := by
  intro e he
  cases hb : isStar e with
  | false => rfl
  | true => exact absurd (List.any_eq_true.mpr ⟨e, he, hb⟩) h
theorem kd_ok {y : Str} {k : Kd} (h : kdT y = some k) : ∃ T, blts.lookup y = some (.type T) ∧ (k, T) ∈ [(Kd.int, "int"), (.bool, "bool"), (.list, "list"), (.tup, "tuple"), (.str, "str")] := by
  obtain ⟨j, h1, h2⟩ := Option.bind_eq_some_iff.mp h
  have h1 := bk_ok h1
  cases j <;> cases h2
  · exact ⟨_, h1, .tail _ (.tail _ (.head _))⟩
  · exact ⟨_, h1, .head _⟩
  · exact ⟨_, h1, .tail _ (.head _)⟩
  · exact ⟨_, h1, .tail _ (.tail _ (.tail _ (.head _)))⟩
  · exact ⟨_, h1, .tail _ (.tail _ (.tail _ (.tail _ (.head _))))⟩

end
end Mini

set_option autoImplicit false
set_option linter.unusedVariables false
namespace Mini
open PySem
section
variable {K : Ctx} {pg : Pg} {n : Nat} {cx : Cx}

theorem call_t {f : Expr} {as : List Expr} {pos : Pos} {i : Nat} {bs : List E} (h : SE K n cx (.Call f as [] pos) (.call i bs)) : STr K n cx (.Call f as [] pos) (.call i bs) := st_val h (fun _ _ => rfl) fun c x m σ k W => W
theorem isi_t {f : Expr} {as : List Expr} {pos : Pos} {a : E} {k : Kd} (h : SE K n cx (.Call f as [] pos) (.isinst a k)) : STr K n cx (.Call f as [] pos) (.isinst a k) := st_val h (fun _ _ => rfl) fun c x m σ k W => W

theorem one_of {es : List Expr} {c : C3} (h : cBs pg cx es = [c]) : ∃ e, es = [e] ∧ c = cB pg cx e := by
  match es, h with
  | [e], h => cases h; exact ⟨e, rfl, rfl⟩
theorem onBk_ok {x : Str} {e : Expr} {f : Bk → C3} (h : ∀ k, blts.lookup x = some (bkV k) → Ok3 K n cx e (f k)) : Ok3 K n cx e (onBk x f) := by
  unfold onBk
  cases hk : bks.lookup x with
  | none => exact .no
  | some k => exact h k (bk_ok hk)
theorem blt_ok (G₀ : Gr K pg) {x : Str} {p pos : Pos} {es : List Expr} (hg : isG cx x = true) (hk : ∀ e ∈ es, Ok3 K n cx e (cB pg cx e)) (hst : ∀ e ∈ es, isStar e = false) : Ok3 K n cx (.Call (.Name x p) es [] pos) (cBlt x (cBs pg cx es)) := by
  obtain ⟨hx, hd⟩ := isG_ok hg
  cases es with
  | nil => exact .no
  | cons e es =>
    have he := hk e (.head _)
    have hs := hst e (.head _)
    cases es with
    | nil =>
      clear hk hst
      refine onBk_ok fun k hb => ?_
      cases k with
      | len => exact .ofV <| map_ok fun a ha => se_len G₀ hx hd hb (he.v a ha) hs
      | list =>
        have gen : Ok3 K n cx (.Call (.Name x p) [e] [] pos) (.ofV ((cB pg cx e).v.map (.b1 .list))) := .ofV <| map_ok fun a ha => se_list G₀ hx hd hb (he.v a ha) hs
        show Ok3 K n cx _ (match (cB pg cx e).s with
          | some (.range a) => .ofV (some (.listRange a))
          | _ => .ofV ((cB pg cx e).v.map (.b1 .list)))
        cases hc : (cB pg cx e).s with
        | none => exact gen
        | some src =>
          cases src with
          | range a =>
            refine .ofV fun q hq => ?_
            cases hq
            obtain ⟨y, p', e', pos', rfl, hg', hb', k1, k2⟩ := he.r a hc
            obtain ⟨hy, hdy⟩ := isG_ok hg'
            exact se_listRange G₀ hx hd hb hy hdy hb' k1 k2
          | _ => exact gen
      | int => exact .ofV <| map_ok fun a ha => se_intOf G₀ hx hd hb (he.v a ha) hs
      | range =>
        exact .ofS (map_ok fun a ha => src_range G₀ hx hd hb (he.v a ha) hs) fun b hq => by
          obtain ⟨a, ha, hq⟩ := Option.map_eq_some_iff.mp hq
          cases hq
          exact ⟨x, p, e, pos, rfl, hg, hb, he.v _ ha, hs⟩
      | enum =>
        exact .ofS (map_ok fun a ha => src_enum G₀ hx hd hb (he.v a ha) hs) fun b hq => by
          obtain ⟨a, ha, hq⟩ := Option.map_eq_some_iff.mp hq
          cases hq
      | _ => exact .no
    | cons e' es =>
      cases es with
      | cons _ _ => exact .no
      | nil =>
        have he' := hk e' (.tail _ (.head _))
        have hs' := hst e' (.tail _ (.head _))
        clear hk hst
        refine onBk_ok fun k hb => ?_
        cases k with
        | _ => exact .no

theorem meth_ok {o : Expr} {name : Str} {apos pos : Pos} {es : List Expr} (ho : Ok3 K n cx o (cB pg cx o)) (hb : plainBase o = true) (hl : (apos.endLine == pos.line) = true) (hk : ∀ e ∈ es, Ok3 K n cx e (cB pg cx e)) (hst : ∀ e ∈ es, isStar e = false) :
    Ok3 K n cx (.Call (.Attribute o name apos) es [] pos) (cMeth name (cB pg cx o).v (cBs pg cx es)) := by
  unfold cMeth
  split
  · rename_i hc
    have : es = [] := by cases es with | nil => rfl | cons e es => cases hc
    subst this
    split
    · rename_i hn; subst hn
      exact .ofV fun q hq => by
        simp only [Option.map_eq_some_iff] at hq
        obtain ⟨a, ha, rfl⟩ := hq
        exact se_reverse (ho.v a ha) hb hl
    · split
      · rename_i hn; subst hn
        exact .ofV fun q hq => by
          simp only [Option.map_eq_some_iff] at hq
          obtain ⟨a, ha, rfl⟩ := hq
          exact se_clear (ho.v a ha) hb hl
      · exact .no
  · rename_i c hc
    obtain ⟨e, rfl, rfl⟩ := one_of hc
    have he := hk e (.head _)
    have hs := hst e (.head _)
    split
    · rename_i a b ha hb'
      split
      · rename_i hn; subst hn
        exact .ofV fun q hq => by cases hq; exact se_append (ho.v a ha) (he.v b hb') hb hs hl
      split
      · rename_i hn; subst hn
        exact .ofV fun q hq => by cases hq; exact se_pop (ho.v a ha) (he.v b hb') hb hs hl
      split
      · rename_i hn; subst hn
        exact .ofV fun q hq => by cases hq; exact se_count (ho.v a ha) (he.v b hb') hb hs hl
      split
      · rename_i hn; subst hn
        exact .ofV fun q hq => by cases hq; exact se_index (ho.v a ha) (he.v b hb') hb hs hl
      · exact .no
    · exact .no
  · exact .no

theorem isIsi_ok {j : Bk} (h : isIsi j = true) : j = .isi := by cases j <;> first | rfl | cases h
theorem no_o {y : Str} (h : (none : Option Str) = some y) : False := by cases h
theorem nameO_ok {e : Expr} {y : Str} (h : nameO e = some y) : ∃ p, e = .Name y p := by
  cases e with
  | Name z p => cases h; exact ⟨p, rfl⟩
  | _ => exact (no_o h).elim
theorem isi_inv {x y : Str} {as : List Expr} (h : isiOf x as = some y) : ∃ e p, as = [e, .Name y p] ∧ blts.lookup x = some (.builtin "isinstance") := by
  unfold isiOf at h
  cases hj : (bks.lookup x).any isIsi with
  | false => rw [hj] at h; cases h
  | true =>
    rw [hj] at h
    have h : name2 as = some y := h
    have : ∃ j, bks.lookup x = some j ∧ isIsi j = true := by
      cases hb : bks.lookup x with
      | none => rw [hb] at hj; cases hj
      | some j => rw [hb] at hj; exact ⟨j, rfl, hj⟩
    obtain ⟨j, h1, h2⟩ := this
    rw [isIsi_ok h2] at h1
    have hb := bk_ok h1
    cases as with
    | nil => cases h
    | cons e as =>
      cases as with
      | nil => cases h
      | cons e' as =>
        cases as with
        | cons _ _ => cases h
        | nil =>
          obtain ⟨p, rfl⟩ := nameO_ok h
          exact ⟨e, p, rfl, hb⟩
theorem call_ok (G₀ : Gr K pg) (hf : SF K n) {x : Str} {p pos : Pos} {es : List Expr} (hk : ∀ e ∈ es, Ok3 K n cx e (cB pg cx e)) (hst : ∀ e ∈ es, isStar e = false) :
    Ok3 K n cx (.Call (.Name x p) es [] pos) (cCall pg cx es pos none (cBs pg cx es) (.Name x p)) := by
  show Ok3 K n cx _ (cCallN pg cx es (cBs pg cx es) x)
  unfold cCallN
  split
  · rename_i hg
    obtain ⟨hx, hd⟩ := isG_ok hg
    split
    · rename_i i hi
      have key : ∀ q, Option.map (E.call i) (allV (cBs pg cx es)) = some q → ∃ as, q = .call i as ∧ SE K n cx (.Call (.Name x p) es [] pos) (.call i as) := fun q hq => by
        simp only [Option.map_eq_some_iff] at hq
        obtain ⟨as, ha, rfl⟩ := hq
        obtain ⟨h1, h2⟩ := allV_ok hk hst ha
        exact ⟨as, rfl, se_call G₀ hf hx hd hi h1 hst h2⟩
      exact .ofVT (fun q hq => by obtain ⟨as, rfl, h⟩ := key q hq; exact h) fun q hq => by obtain ⟨as, rfl, h⟩ := key q hq; exact call_t h
    split
    · rename_i hh
      split
      · exact .no
      · rename_i hne
        exact .ofV fun q hq => by
          simp only [Option.map_eq_some_iff] at hq
          obtain ⟨as, ha, rfl⟩ := hq
          exact se_hall G₀ hx hd hh.1 hh.2 (allV_ok hk hst ha).1 hst (by rintro rfl; exact hne rfl)
    split
    · rename_i y hy
      split
      · rename_i hg'
        obtain ⟨hy', hdy⟩ := isG_ok hg'
        have key : ∀ a k, firstV (cBs pg cx es) = some a → kdT y = some k → SE K n cx (.Call (.Name x p) es [] pos) (.isinst a k) := fun a k h1 h2 => by
          obtain ⟨T, hT, hm⟩ := kd_ok h2
          obtain ⟨e, p', rfl, hb⟩ := isi_inv hy
          exact se_isinst G₀ hx hd hb hy' hdy hT hm ((hk e (.head _)).v a h1) (hst e (.head _))
        exact .ofVT (m2_ok key) (m2_ok fun a k h1 h2 => isi_t (key a k h1 h2))
      · exact .no
    · exact blt_ok G₀ hg hk hst
  · exact .no

theorem set_plain {e : Expr} {src : Src} (h : (cB pg cx e).s = some src) : ∀ env v, foldedSetIterable e env v = pure v := by
  intro env v
  cases e <;> first | rfl | cases h

theorem all2_map {es : List Expr} {R : Expr → Option E → Prop} (f : C3 → Option E) (h : ∀ e ∈ es, R e (f (cB pg cx e))) : All2 R es ((cBs pg cx es).map f) := by
  induction es with
  | nil => exact .nil
  | cons e es ih => exact .cons (h e (.head _)) (ih fun e he => h e (.tail _ he))

end
end Mini

set_option autoImplicit false
set_option linter.unusedVariables false
namespace Mini
open PySem
section
variable {K : Ctx} {pg : Pg} {n : Nat}

theorem src_tgt {o : Option Src} {src : Src} {x : Str} {px : Pos} (h : srcN o = some src) : o = some src ∧ tgtOk src (.Name x px) := by
  unfold srcN at h
  split at h <;> first | (cases h; exact ⟨rfl, _, _, rfl⟩) | cases h

theorem zr {a b N : Nat} (h : a + b < N) : a < N := Nat.lt_of_le_of_lt (Nat.le_add_right a b) h
theorem z0 {a N : Nat} (h : 1 + a < N + 1) : a < N := by walk_at "o"
theorem z1 {a b N : Nat} (h : 1 + a + b < N + 1) : b < N := by walk_at "o"
theorem z2 {a b c N : Nat} (h : 1 + a + b + c < N + 1) : c < N := by walk_at "o"
theorem zl {a b N : Nat} (h : 1 + a + b < N + 1) : b ≤ N := by walk_at "o"
theorem zk {a N : Nat} (h : 1 + a < N + 1) : a ≤ N := by walk_at "o"
theorem ok_ite {cx : Cx} {b : Bool} {e : Expr} {c : C3} (h : b = false → Ok3 K n cx e c) : Ok3 K n cx e (if b then .no else c) := by
  cases b
  · exact h rfl
  · exact .no
theorem of_not {b : Bool} (h : (!b) = false) : b = true := by cases b <;> first | rfl | cases h
theorem stars' {es : List Expr} (h : es.any isStar = false) : ∀ e ∈ es, isStar e = false := stars (by rw [h]; exact Bool.false_ne_true)

set_option maxHeartbeats 4000000 in
theorem cB_all (G₀ : Gr K pg) (hf : SF K n) (hfld : pg.hall ≠ "" → K.fields = pg.fields) (hfl : pg.hall = "" → pg.fields = []) : ∀ (N : Nat) (e : Expr) (cx : Cx), sizeOf e < N → Ok3 K n cx e (cB pg cx e)
  | 0, _, _, h => absurd h (Nat.not_lt_zero _)
  | N + 1, e, cx, hN => by
    have ih : ∀ (e : Expr) (cx : Cx), sizeOf e < N → Ok3 K n cx e (cB pg cx e) := cB_all G₀ hf hfld hfl N
    have ihs : ∀ (es : List Expr) (cx : Cx), sizeOf es ≤ N → ∀ e ∈ es, Ok3 K n cx e (cB pg cx e) := fun es cx h e he => ih e cx (Nat.lt_of_lt_of_le (List.sizeOf_lt_of_mem he) h)
    cases e with
    | Constant c k p => exact const_ok
    | Name x p => exact name_ok G₀
    | BinOp l op r p =>
      have hN : 1 + sizeOf l + sizeOf op + sizeOf r + sizeOf p < N + 1 := hN
      have hl := ih l cx (z0 (zr (zr (zr hN))))
      have hr := ih r cx (z2 (zr hN))
      exact .ofV <| m3_ok fun o a b h1 h2 h3 => se_bin h1 (hl.v a h2) (hr.v b h3)
    | UnaryOp op e p =>
      have hN : 1 + sizeOf op + sizeOf e + sizeOf p < N + 1 := hN
      have h := ih e cx (z1 (zr hN))
      cases op with
      | Not => exact .ofS' (map_ok fun a ha => se_not (h.v a ha)) <| map_ok fun a ha => st_not (h.t a ha)
      | USub => exact .ofV (map_ok fun a ha => se_neg (h.v a ha))
      | _ => exact .no
    | BoolOp op vs p =>
      have hN : 1 + sizeOf op + sizeOf vs + sizeOf p < N + 1 := by rw [← Expr.BoolOp.sizeOf_spec]; exact hN
      have h := ihs vs cx (zl (zr hN))
      cases op with
      | And => exact .ofS' (fun q hq => and_v (all2_map C3.v fun e he => (h e he).v) hq) fun q hq env A m g σ s Q R F S W => wpAny_isTrue_BoolOp (and_t (all2_map C3.t fun e he => (h e he).t) hq env A m g σ s Q R F S W)
      | Or => exact .ofS' (fun q hq => or_v (all2_map C3.v fun e he => (h e he).v) hq) fun q hq env A m g σ s Q R F S W => wpAny_isTrue_BoolOp (or_t (all2_map C3.t fun e he => (h e he).t) hq env A m g σ s Q R F S W)
    | Compare l ops rs p =>
      have hN : 1 + sizeOf l + sizeOf ops + sizeOf rs + sizeOf p < N + 1 := by rw [← Expr.Compare.sizeOf_spec]; exact hN
      have hl := ih l cx (z0 (zr (zr (zr hN))))
      have hr := ihs rs cx (Nat.le_of_lt (z2 (zr hN)))
      rcases ops with _ | ⟨o₁, _ | ⟨o₂, _ | ⟨o₃, os⟩⟩⟩
      · exact .no
      · rcases rs with _ | ⟨r₁, _ | ⟨r₂, rs⟩⟩
        · exact .no
        · exact ok_ite fun hm => .ofS' (m3_ok fun o a b h1 h2 h3 => se_cmp h1 (hl.v a h2) ((hr r₁ (.head _)).v b h3) hm) <| m3_ok fun o a b h1 h2 h3 => st_cmp h1 (hl.v a h2) ((hr r₁ (.head _)).v b h3) hm
        · exact .no
      · rcases rs with _ | ⟨r₁, _ | ⟨r₂, _ | ⟨r₃, rs⟩⟩⟩
        · exact .no
        · exact .no
        · exact ok_ite fun hm => .ofS' nofun <| m3_ok fun g o c h1 h2 h3 => m3_ok (G := fun g => STr K n cx _ (g o c)) (fun o' a b h4 h5 h6 => st_cmp2 h4 h2 (hl.v a h5) ((hr r₁ (.head _)).v b h6) ((hr r₂ (.tail _ (.head _))).v c h3) hm) g h1
        · exact .no
      · exact .no
    | IfExp t a b p =>
      have hN : 1 + sizeOf t + sizeOf a + sizeOf b + sizeOf p < N + 1 := hN
      have ht := ih t cx (z0 (zr (zr (zr hN))))
      have ha := ih a cx (z1 (zr (zr hN)))
      have hb := ih b cx (z2 (zr hN))
      exact .ofV <| m3_ok fun x y z h1 h2 h3 => se_ite (ht.t x h1) (ha.v y h2) (hb.v z h3)
    | Call f as kw pos =>
      have hN : 1 + sizeOf f + sizeOf as + sizeOf kw + sizeOf pos < N + 1 := by rw [← Expr.Call.sizeOf_spec]; exact hN
      have hs := ihs as cx (zl (zr (zr hN)))
      have hF := z0 (zr (zr (zr hN)))
      clear hN
      cases f with
      | Attribute o name apos =>
        cases kw with
        | cons _ _ => exact .no
        | nil =>
          have hF : 1 + sizeOf o + sizeOf name + sizeOf apos < N := hF
          have ho := ih o cx (Nat.lt_of_le_of_lt (Nat.le_add_left _ _) (zr (zr hF)))
          refine ok_ite fun hst => ?_
          show Ok3 K n cx _ (if plainBase o && apos.endLine == pos.line then cMeth name (cB pg cx o).v (cBs pg cx as) else .no)
          split
          · rename_i hc
            rw [Bool.and_eq_true] at hc
            exact meth_ok ho hc.1 hc.2 hs (stars' hst)
          · exact .no
      | Name x p =>
        cases kw with
        | cons _ _ => exact .no
        | nil => exact ok_ite fun hst => call_ok G₀ hf hs (stars' hst)
      | _ => exact .no
    | Attribute v x p =>
      have hN : 1 + sizeOf v + sizeOf x + sizeOf p < N + 1 := hN
      have hv := ih v cx (z0 (zr (zr hN)))
      refine ok_ite fun hb => .ofV <| m2_ok fun a k ha hk => ?_
      refine se_attr G₀ (hv.v a ha) (of_not hb) ?_
      rw [List.idxOf?_eq_some_iff] at hk
      obtain ⟨h1, h2, h3⟩ := hk
      rw [hfld (fun z => by rw [hfl z] at h1; simp at h1)]
      simp [h1, h2]
    | Subscript v i p =>
      have hN : 1 + sizeOf v + sizeOf i + sizeOf p < N + 1 := hN
      have hv := ih v cx (z0 (zr (zr hN)))
      have hi := ih i cx (z1 (zr hN))
      have gen : isSlice i = false → Ok3 K n cx (.Subscript v i p) (.ofV (m2 E.idx (cB pg cx v).v (cB pg cx i).v)) := fun hsl => .ofV <| m2_ok fun a b h1 h2 => by
        exact se_idx (hv.v a h1) (hi.v b h2) fun a b c d z => by subst z; cases hsl
      clear hi
      cases i with
      | Slice l u s p' =>
        clear gen
        have hN : 1 + sizeOf v + (1 + sizeOf l + sizeOf u + sizeOf s + sizeOf p') + sizeOf p < N + 1 := by rw [← Expr.Slice.sizeOf_spec]; exact hN
        rcases l with _ | l <;> rcases u with _ | u <;> rcases s with _ | s
        · exact .no
        · exact .no
        · have hu := ih u cx (by have : sizeOf (some u) = 1 + sizeOf u := rfl; walk_at "o")
          exact .ofV <| m2_ok fun a b h1 h2 => se_upto (hv.v a h1) (hu.v b h2)
        · exact .no
        · have hu := ih l cx (by have : sizeOf (some l) = 1 + sizeOf l := rfl; walk_at "o")
          exact .ofV <| m2_ok fun a b h1 h2 => se_from (hv.v a h1) (hu.v b h2)
        · exact .no
        · exact .no
        · exact .no
      | _ => exact gen rfl
    | List es p =>
      have hN : 1 + sizeOf es + sizeOf p < N + 1 := by rw [← Expr.List.sizeOf_spec]; exact hN
      have h := ihs es cx (zk (zr hN))
      exact ok_ite fun hst => .ofV <| map_ok fun as ha => by
        exact se_disp (allV_ok h (stars' hst) ha).1
    | Tuple es k p =>
      have hN : 1 + sizeOf es + sizeOf k + sizeOf p < N + 1 := by rw [← Expr.Tuple.sizeOf_spec]; exact hN
      have h := ihs es cx (zk (zr (zr hN)))
      refine ok_ite fun hst => .ofV <| map_ok fun as ha => ?_
      simp only [Bool.or_eq_false_iff, Bool.not_eq_false', decide_eq_true_eq] at hst
      obtain ⟨h1, h2⟩ := allV_ok h (stars' hst.1) ha
      exact se_tup h1 (h2 ▸ hst.2)
    | ListComp elt gens scope p =>
      have hN : 1 + sizeOf elt + sizeOf gens + sizeOf scope + sizeOf p < N + 1 := by rw [← Expr.ListComp.sizeOf_spec]; exact hN
      have he : ∀ cx, Ok3 K n cx elt (cB pg cx elt) := fun cx => ih elt cx (z0 (zr (zr (zr hN))))
      have hN := z1 (zr (zr hN))
      rcases gens with _ | ⟨⟨t, iter, ifs, z⟩, gs⟩
      · exact .no
      have hN : 1 + (1 + sizeOf t + sizeOf iter + sizeOf ifs + sizeOf z) + sizeOf gs < N := by rw [← Comprehension.mk.sizeOf_spec]; exact hN
      have hit := ih iter cx (by walk_at "o")
      have hif : ∀ t, sizeOf t < sizeOf ifs → ∀ cx, Ok3 K n cx t (cB pg cx t) := fun t ht cx => ih t cx (by walk_at "o")
      clear hN ih ihs
      cases t with
      | Name x px =>
        rcases ifs with _ | ⟨t, _ | ⟨t', ts⟩⟩
        · rcases z with (_ | z) | z
          · rcases gs with _ | ⟨g', gs⟩
            · refine ok_ite fun hok => .ofV <| m2_ok fun src pe h1 h2 => ?_
              obtain ⟨h3, h4⟩ := src_tgt (x := x) (px := px) h1
              exact se_comp (compOk_ok (of_not hok)) (set_plain h3) (hit.s src h3) h4 ((he _).v pe h2) .none
            · exact .no
          · exact .no
          · exact .no
        · rcases z with (_ | z) | z
          · rcases gs with _ | ⟨g', gs⟩
            · refine ok_ite fun hok => .ofV <| m3_ok fun src pe pt h1 h2 h5 => ?_
              obtain ⟨h3, h4⟩ := src_tgt (x := x) (px := px) h1
              exact se_comp (compOk_ok (of_not hok)) (set_plain h3) (hit.s src h3) h4 ((he _).v pe h2) (.one ((hif t (by show _ < 1 + sizeOf t + _; walk_at "o") _).t pt h5))
            · exact .no
          · exact .no
          · exact .no
        · exact .no
      | _ => exact .no
    | _ => exact .no
end
end Mini

set_option autoImplicit false
set_option linter.unusedVariables false
namespace Mini
open PySem

noncomputable def SS (K : Ctx) (n : Nat) (cx : Cx) (st : Stmt) (p : S) : Prop := ∀ (env : Env) (A : Around) (m : M) (g : G) (σ : H) (s : Shared) (N : M → H → Prop) (Rt : P), Room A n → Fr K env cx m g s.heap → St K g σ s.heap →
  WS (callW K.Φ n) p noX m σ N Rt → wpAny (model K.prog K.w) A (exec st env) (EndS K env cx g s N Rt) noE s
noncomputable def SSs (K : Ctx) (n : Nat) (cx : Cx) (sts : List Stmt) (ps : List S) : Prop := ∀ (env : Env) (A : Around) (m : M) (g : G) (σ : H) (s : Shared) (N : M → H → Prop) (Rt : P), Room A n → Fr K env cx m g s.heap → St K g σ s.heap →
  WSs (callW K.Φ n) ps noX m σ N Rt → wpAny (model K.prog K.w) A (execs sts env) (EndS K env cx g s N Rt) noE s

section
variable {K : Ctx} {pg : Pg} {n : Nat} {cx : Cx}

/-- an item of a list is set: the list's object is known to the last part -/
theorem set_exact {A : Around} {E : Value → Shared → Prop} {s : Shared} {l : Addr} {vs : Array Value} {kk : Nat} {k : Int} {t : Tok} {v : Value} {Q : Unit → Shared → Prop} (ho : s.heap.get? l = some { cls := .type "list", data := .seq vs kk })
    (h0 : 0 ≤ k) (hfit : k < 2 ^ 63) (hk : k < vs.size) (hQ : Q () { s with heap := s.heap.update l (Obj.mapSeq (·.setIfInBounds k.toNat v)) }) : wpAny (model K.prog K.w) A (setItem (.ref l) (.int k t) v) Q E s := by
  have hl : s.heap.IsList l vs := ⟨_, ho, rfl, kk, rfl⟩
  unfold setItem
  try with_reducible refine wpAny_holding ?_
  try refine wpAny_bind (wpAny_pure ?_)
  refine wpAny_bind (wpAny_sequenceKey hl.typeIs (by decide) (wpAny_bind (wpAny_callSpecial?_slot (name := Str.ofString "__setitem__") hl.typeIs slot_list_setitem (wpAny_call_entry slot_list_setitem hl.typeIs entry_list_setitem ?_ (args_list_setitem _ _ _)))))
  show wpAny _ _ (Builtin.List.listSubscript? (.int k t) >>= _) _ _ s
  refine wpAny_bind (wpAny_listSubscript_int (fitsIndex_of h0 hfit) ?_)
  clear hfit
  obtain ⟨j, rfl⟩ := Int.eq_ofNat_of_zero_le h0
  have hj : j < vs.size := by walk_at "o"
  have hx : vs[j]? = some vs[j] := Array.getElem?_eq_getElem hj
  show wpAny _ _ ((seqItemAt l j >>= fun r => pure (r.map (j, ·))) >>= _) _ _ s
  refine wpAny_bind (wpAny_bind (wpAny_seqItemAt ho rfl (wpAny_pure ?_)))
  rw [hx]
  show wpAny _ _ (setSeqItemAt l j v >>= _) _ _ s
  have fin := wpAny_pure (M := model K.prog K.w) (A := A) (E := E) hQ
  exact wpAny_bind (wpAny_setSeqItemAt ho rfl (by first | exact wpAny_bind (wpAny_pure (wpAny_pure ⟨.none, rfl, fin⟩)) | exact wpAny_pure ⟨.none, rfl, fin⟩))
theorem no_swap {v : Expr} {t : Option Expr} {l : Nat} {env : Env} (h : isComp v = false) : swapsWith v t l env = pure false := by
  cases v <;> first | rfl | cases h

theorem ss_set {x : Str} {px pos : Pos} {v : Expr} {k : Nat} {e : E} (hk : slotOf cx x = some k) (h : SE K n cx v e) (hc : isComp v = false) : SS K n cx (.Assign [.Name x px] v pos) (.set k e) := fun env A m g σ s N Rt R F S W => by
  refine wpAny_Assign_Name (wpAny_mono (h env A m g σ s _ R F S W) (fun w s₁ q => ?_) fun _ _ f => f) (no_swap hc)
  obtain ⟨r₁, g₁, σ₁, go₁, sx₁, rel₁, W₁⟩ := q
  exact store_sound (F.go S go₁) go₁.st hk rel₁ fun s' go sx F' => ⟨_, g₁, σ₁, go₁.toX.trans go, sx₁.trans sx, F', W₁⟩

theorem ss_unpack {es : List Expr} {k : Nat} {p pos : Pos} {v : Expr} {ks : List Nat} {e : E} (ht : cTgt cx (.Tuple es k p) = some ks) (h : SE K n cx v e) (hc : isComp v = false) (hv : isTup v = false) : SS K n cx (.Assign [.Tuple es k p] v pos) (.unpack ks e) := fun env A m g σ s N Rt R F S W => by
  refine wpAny_Assign_stores (wpAny_mono (h env A m g σ s _ R F S W) (fun w s₁ q => ?_) fun _ _ f => f) (by rw [swapsWithSole]; exact no_swap hc) (by cases v <;> first | rfl | cases hv)
  obtain ⟨r₁, g₁, σ₁, go₁, sx₁, rel₁, W₁⟩ := q
  cases r₁ <;> try exact W₁.elim
  rename_i us
  obtain ⟨m', hp, W₁⟩ := W₁
  have hb : bindV ks m (.tup us) = some m' := by
    have : ∃ a b rr, ks = a :: b :: rr := by
      obtain ⟨a, b, rr, _, h2⟩ := two_some ht
      exact ⟨a, b, rr, h2⟩
    obtain ⟨a, b, rr, rfl⟩ := this
    exact hp
  show wpAny _ A (assign (.Tuple es k p) env w) _ _ s₁
  exact assign_sound R.handled (F.go S go₁) go₁.st ht hb rel₁ fun s' go sx F' => ⟨_, g₁, σ₁, go₁.toX.trans go, sx₁.trans sx, F', W₁⟩

theorem ss_put {o i v : Expr} {p pos : Pos} {a b e : E} (ho : SE K n cx o a) (hi : SE K n cx i b) (h : SE K n cx v e) (hc : isComp v = false) : SS K n cx (.Assign [.Subscript o i p] v pos) (.put a b e) := fun env A m g σ s N Rt R F S W => by
  refine wpAny_Assign_Subscript (wpAny_mono (h env A m g σ s _ R F S W) (fun w s₁ q => ?_) fun _ _ f => f) (no_swap hc)
  obtain ⟨r₁, g₁, σ₁, go₁, sx₁, rel₁, W₁⟩ := q
  refine wpAny_mono (ho env A m g₁ σ₁ s₁ _ R (F.go S go₁) go₁.st W₁) (fun w₂ s₂ q => ?_) fun _ _ f => f
  obtain ⟨r₂, g₂, σ₂, go₂, sx₂, rel₂, W₂⟩ := q
  refine wpAny_mono (hi env A m g₂ σ₂ s₂ _ R (F.go S (go₁.trans go₂)) go₂.st W₂) (fun w₃ s₃ q => ?_) fun _ _ f => f
  obtain ⟨r₃, g₃, σ₃, go₃, sx₃, rel₃, W₃⟩ := q
  have go := (go₁.trans go₂).trans go₃
  have rel₂' := go₃.rel go₂.st rel₂
  cases r₂ <;> try exact W₃.elim
  cases r₃ <;> try exact W₃.elim
  rename_i j k
  obtain ⟨xs, hj, hx, h0, hk, W₃⟩ := W₃
  obtain ⟨l, hl, rfl⟩ := rel₂'
  obtain ⟨t, rfl⟩ := rel₃
  obtain ⟨vs, kk, hobj, hrs⟩ := go₃.st.lists j l xs hl hx
  have hlen := go₃.st.small xs (List.mem_of_getElem? hx)
  have hsz : vs.size = xs.length := by have := hrs.length; simpa using this.symm
  have hbig : xs.length ≤ 16777216 := hlen
  refine set_exact (kk := kk) hobj h0 (by walk_at "o") (by walk_at "o") ?_
  have hp := Go.put (h' := s₃.heap.update l (Obj.mapSeq (·.setIfInBounds k.toNat w))) (vs := vs.setIfInBounds k.toNat w) go₃.st hl hx hj (fun c hc => upd_get hc) (PySem.IsL.update hobj _) (ys := xs.set k.toNat r₁) (by
    rw [Array.toList_setIfInBounds]
    exact VRels.set _ hrs ((go₂.trans go₃).rel go₁.st rel₁)) (by rw [List.length_set]; exact hlen)
  exact ⟨m, g₃, _, (go.trans hp).toX, ((sx₁.trans sx₂).trans sx₃).trans ⟨rfl, rfl⟩, F.go S (go.trans hp), W₃⟩

theorem ss_expr {e : Expr} {a : E} {pos : Pos} (h : SE K n cx e a) (hc : isComp e = false) : SS K n cx (.Expr e pos) (.expr a) := fun env A m g σ s N Rt R F S W => by
  refine wpAny_Expr_any (wpAny_mono (h env A m g σ s _ R F S W) (fun w s₁ q => ?_) fun _ _ f => f) (by unfold interactive; rw [F.kind]; rfl) (no_swap hc)
  obtain ⟨r₁, g₁, σ₁, go₁, sx₁, rel₁, W₁⟩ := q
  exact ⟨m, g₁, σ₁, go₁.toX, sx₁, F.go S go₁, W₁⟩

theorem ss_ret {e : Expr} {a : E} {pos : Pos} (h : SE K n cx e a) : SS K n cx (.Return (some e) pos) (.ret a) := fun env A m g σ s N Rt R F S W => by
  refine wpAny_Return_some (wpAny_mono (h env A m g σ s _ R F S W) (fun w s₁ q => ?_) fun _ _ f => f)
  obtain ⟨r₁, g₁, σ₁, go₁, sx₁, rel₁, W₁⟩ := q
  exact ⟨r₁, g₁, σ₁, go₁.toX, sx₁, rel₁, W₁⟩

theorem ss_if {t : Expr} {a b : List Stmt} {pt : E} {pa pb : List S} {pos : Pos} (ht : STr K n cx t pt) (ha : SSs K n cx a pa) (hb : SSs K n cx b pb) : SS K n cx (.If t a b pos) (.ite pt pa pb) := fun env A m g σ s N Rt R F S W => by
  refine wpAny_If (wpAny_mono (ht env A m g σ s _ R F S W) (fun c s₁ q => ?_) fun _ _ f => f)
  obtain ⟨g₁, σ₁, go₁, sx₁, W₁⟩ := q
  cases c with
  | true => exact EndS.bind go₁.toX sx₁ (ha env A m g₁ σ₁ s₁ N Rt R (F.go S go₁) go₁.st W₁)
  | false => exact EndS.bind go₁.toX sx₁ (hb env A m g₁ σ₁ s₁ N Rt R (F.go S go₁) go₁.st W₁)

theorem codeAny_okE {A : Around} {env : Env} {c : Code} {s : Shared} {Q : Flow → Shared → Prop} (h : codeAny (model K.prog K.w) A c (fun r s' => match r with | .ok f => Q f s' | .error e => False) s) :
    codeAny (model K.prog K.w) A c (fun r s' => match r with | .ok f => Q f s' | .error e => cameBackBy (model K.prog K.w) A env noE e s') s :=
  codeAny_mono h fun r s' q => by cases r with | ok f => exact q | error e => exact q.elim

theorem ss_while {t : Expr} {b : List Stmt} {pt : E} {pb : List S} {pos : Pos} (ht : STr K n cx t pt) (hb : SSs K n cx b pb) : SS K n cx (.While t b [] pos) (.while pt pb) := fun env A m g σ s N Rt R F S W => by
  obtain ⟨k, W⟩ := W
  refine wpAny_While (codeAny_okE ?_)
  exact while_sound (fun m g σ s L F S W => ht env A m g σ s L R F S W) (fun m g σ s L F S W => hb env A m g σ s L Rt R F S W) F (Go.refl S).toX (Sx.refl s) W

theorem ss_for {t i : Expr} {b : List Stmt} {ks : List Nat} {src : Src} {pb : List S} {pos : Pos} (ht : cTgt cx t = some ks) (hset : ∀ env v, foldedSetIterable i env v = pure v) (hs : SSrc K n cx i src) (htg : tgtOk src t) (hb : SSs K n cx b pb) : SS K n cx (.For t i b [] pos) (.for ks src pb) := fun env A m g σ s N Rt R F S W => by
  refine wpAny_For (wpAny_mono (hs env A m g σ s t _ R F S htg W) (fun v s₁ q => wpAny_mono q (fun it s₂ q => ?_) fun _ _ f => f) fun _ _ f => f) (hset env)
  obtain ⟨g₂, σ₂, vs, ok, X, J, go, sx, I, hJ, hX, W₂⟩ := q
  exact codeAny_okE (for_sound R.handled I ht hX (fun m g σ s L F S W => hb env A m g σ s L Rt R F S W) hJ (F.go S go) go.toX sx W₂)

theorem sss_nil : SSs K n cx [] [] := fun env A m g σ s N Rt R F S W => wpAny_execs_nil ⟨m, g, σ, (Go.refl S).toX, Sx.refl s, F, W⟩
theorem sss_cons {st : Stmt} {r : List Stmt} {p : S} {ps : List S} (h : SS K n cx st p) (hr : SSs K n cx r ps) : SSs K n cx (st :: r) (p :: ps) := fun env A m g σ s N Rt R F S W => by
  refine wpAny_execs_cons (wpAny_mono (h env A m g σ s _ Rt R F S W) (fun f s₁ q => ?_) fun _ _ f => f)
  cases f with
  | next =>
    obtain ⟨m₁, g₁, σ₁, go, sx, F₁, W₁⟩ := q
    exact EndS.bind go sx (hr env A m₁ g₁ σ₁ s₁ N Rt R F₁ go.st W₁)
  | ret v => exact q
  | _ => exact q.elim
end
end Mini

set_option autoImplicit false
set_option linter.unusedVariables false
namespace Mini
open PySem
section
variable {K : Ctx} {pg : Pg} {n : Nat} {cx : Cx}

theorem swap_true {env : Env} {m : M} {g : G} {h : Heap} {elt : Expr} {gens : List Comprehension} {sc : Scope} {pos px : Pos} {x : Str} {l : Nat} (F : Fr K env cx m g h) (hs : swaps cx x px (.ListComp elt gens sc pos) = true) :
    swapsWith (.ListComp elt gens sc pos) (some (.Name x px)) l env = pure true ∧ cx.names.lookup x = some .local := by
  have hs : (cx.names.lookup x == some .local && px.line == pos.line && !(sc.names.any fun q => q.1 == x && (q.2 == .local || q.2 == .cell))) = true := hs
  rw [Bool.and_eq_true, Bool.and_eq_true] at hs
  obtain ⟨⟨h1, h2⟩, h3⟩ := hs
  refine ⟨?_, by simpa using h1⟩
  show (pure (env.blockKind == .function && env.kindOf x == some .local && px.line == pos.line && !(sc.names.any fun q => q.1 == x && (q.2 == .local || q.2 == .cell))) : Sem Bool) = pure true
  have hb : env.blockKind = .function := by unfold Env.blockKind; rw [F.kind]; rfl
  have hk : env.kindOf x = cx.names.lookup x := by unfold Env.kindOf; rw [F.names]
  (rw [hb]; rw [hk]; rw [h1]; rw [h2]; rw [h3])
  rfl

theorem swap_cell {env : Env} {m : M} {g : G} {h : Heap} {v : Expr} {px : Pos} {x : Str} {l : Nat} (F : Fr K env cx m g h) (hs : cellComp cx x v = true) : swapsWith v (some (.Name x px)) l env = pure false := by
  cases v <;> first | cases hs | skip
  rename_i elt gens sc pos
  have hs : (cx.names.lookup x == some .cell) = true := hs
  show (pure (env.blockKind == .function && env.kindOf x == some .local && px.line == pos.line && !(sc.names.any fun q => q.1 == x && (q.2 == .local || q.2 == .cell))) : Sem Bool) = pure false
  have hk : env.kindOf x = cx.names.lookup x := by unfold Env.kindOf; rw [F.names]
  (rw [hk]; rw [show cx.names.lookup x = some .cell by simpa using hs]; rw [Bool.and_assoc]; rw [Bool.and_assoc]; rw [Bool.and_comm])
  rfl
theorem ss_setC {x : Str} {px pos : Pos} {v : Expr} {k : Nat} {e : E} (hk : slotOf cx x = some k) (h : SE K n cx v e) (hc : cellComp cx x v = true) : SS K n cx (.Assign [.Name x px] v pos) (.set k e) := fun env A m g σ s N Rt R F S W => by
  refine wpAny_Assign_Name (wpAny_mono (h env A m g σ s _ R F S W) (fun w s₁ q => ?_) fun _ _ f => f) (swap_cell F hc)
  obtain ⟨r₁, g₁, σ₁, go₁, sx₁, rel₁, W₁⟩ := q
  exact store_sound (F.go S go₁) go₁.st hk rel₁ fun s' go sx F' => ⟨_, g₁, σ₁, go₁.toX.trans go, sx₁.trans sx, F', W₁⟩
/-- what a comprehension that compiles is -/
inductive CompV (pg : Pg) (cx : Cx) (elt : Expr) (sc : Scope) : List Comprehension → E → Prop where
  | plain {x : Str} {px : Pos} {iter : Expr} {src : Src} {pe : E} (h0 : compOk cx sc x = true) (h1 : srcN (cB pg cx iter).s = some src) (h2 : (cB pg (compCx cx sc.names x) elt).v = some pe) : CompV pg cx elt sc [⟨.Name x px, iter, [], 0⟩] (.comp pe cx.slots.length src)
  | test {x : Str} {px : Pos} {iter t : Expr} {src : Src} {pe pt : E} (h0 : compOk cx sc x = true) (h1 : srcN (cB pg cx iter).s = some src) (h2 : (cB pg (compCx cx sc.names x) elt).v = some pe) (h5 : (cB pg (compCx cx sc.names x) t).t = some pt) : CompV pg cx elt sc [⟨.Name x px, iter, [t], 0⟩] (.compIf pe cx.slots.length src pt)
theorem no_v {e : E} (h : C3.no.v = some e) : False := by cases h
theorem no_s {p : S} (h : (none : Option S) = some p) : False := by cases h
theorem comp_inv {elt : Expr} {gens : List Comprehension} {sc : Scope} {p : Pos} {e : E} (he : (cB pg cx (.ListComp elt gens sc p)).v = some e) : CompV pg cx elt sc gens e := by
  have ite_v : ∀ {b : Bool} {c : C3}, (if b then C3.no else c).v = some e → b = false ∧ c.v = some e := fun {b c} h => by
    cases b
    · exact ⟨rfl, h⟩
    · exact (no_v h).elim
  rcases gens with _ | ⟨⟨t, iter, ifs, z⟩, gs⟩
  · exact (no_v he).elim
  cases t with
  | Name y py =>
    rcases ifs with _ | ⟨t, _ | ⟨t', ts⟩⟩
    · rcases z with (_ | z) | z
      · rcases gs with _ | ⟨g', gs⟩
        · obtain ⟨hok, he⟩ := ite_v he
          obtain ⟨src, pe, h1, h2, rfl⟩ := m2_some he
          exact .plain (of_not hok) h1 h2
        · exact (no_v he).elim
      · exact (no_v he).elim
      · exact (no_v he).elim
    · rcases z with (_ | z) | z
      · rcases gs with _ | ⟨g', gs⟩
        · obtain ⟨hok, he⟩ := ite_v he
          obtain ⟨src, pe, pt, h1, h2, h5, rfl⟩ := m3_some he
          exact .test (of_not hok) h1 h2 h5
        · exact (no_v he).elim
      · exact (no_v he).elim
      · exact (no_v he).elim
    · exact (no_v he).elim
  | _ => exact (no_v he).elim

theorem ss_swap (hB : ∀ (e : Expr) (cx : Cx), Ok3 K n cx e (cB pg cx e)) {x : Str} {px pos : Pos} {v : Expr} {k : Nat} {e : E} (hk : slotOf cx x = some k) (he : (cB pg cx v).v = some e) (hs : swaps cx x px v = true) : SS K n cx (.Assign [.Name x px] v pos) (.set k e) := fun env A m g σ s N Rt R F S W => by
  obtain ⟨elt, gens, sc, p, rfl⟩ : ∃ elt gens sc p, v = .ListComp elt gens sc p := by
    cases v <;> first | (cases hs; done) | exact ⟨_, _, _, _, rfl⟩
  obtain ⟨hsw, hloc⟩ := swap_true (l := pos.line) F (show swaps cx x px (.ListComp elt gens sc p) = true from hs)
  have hk' : cx.slots.lookup x = some k := by
    unfold slotOf at hk
    rw [hloc] at hk
    exact hk
  cases comp_inv he with
  | plain h0 h1 h2 =>
    obtain ⟨h3, h4⟩ := src_tgt h1
    exact ss_comp (compOk_ok h0) (set_plain h3) ((hB _ _).s _ h3) h4 ((hB elt _).v _ h2) .none hloc hk' R F S hsw W
  | test h0 h1 h2 h5 =>
    obtain ⟨h3, h4⟩ := src_tgt h1
    exact ss_comp (compOk_ok h0) (set_plain h3) ((hB _ _).s _ h3) h4 ((hB elt _).v _ h2) (.one ((hB _ _).t _ h5)) hloc hk' R F S hsw W

theorem asg_ok (hB : ∀ (e : Expr) (cx : Cx), Ok3 K n cx e (cB pg cx e)) {v t : Expr} {pos : Pos} {p : S} (hp : cAsg pg cx v t = some p) : SS K n cx (.Assign [t] v pos) p := by
  have ite_n : ∀ {b : Bool} {c : Option S}, (if b then none else c) = some p → b = false ∧ c = some p := fun {b c} h => by
    cases b
    · exact ⟨rfl, h⟩
    · cases h
  cases t with
  | Name x px =>
    obtain ⟨hc, hp⟩ := ite_n hp
    obtain ⟨k, e, h1, h2, rfl⟩ := m2_some hp
    by_cases hcc : isComp v = true
    · by_cases hce : cellComp cx x v = true
      · exact ss_setC h1 ((hB v cx).v e h2) hce
      · refine ss_swap hB h1 h2 ?_
        simpa [hcc, hce] using hc
    · exact ss_set h1 ((hB v cx).v e h2) (by simpa using hcc)
  | Tuple es k tp =>
    obtain ⟨hc, hp⟩ := ite_n hp
    obtain ⟨ks, e, h1, h2, rfl⟩ := m2_some hp
    rw [Bool.or_eq_false_iff] at hc
    exact ss_unpack h1 ((hB v cx).v e h2) hc.1 hc.2
  | Subscript o i tp =>
    obtain ⟨hc, hp⟩ := ite_n hp
    obtain ⟨a, b, e, h1, h2, h3, rfl⟩ := m3_some hp
    rw [Bool.or_eq_false_iff] at hc
    exact ss_put ((hB o cx).v a h1) ((hB i cx).v b h2) ((hB v cx).v e h3) hc.2
  | _ => exact (no_s hp).elim
theorem is_name {t : Expr} (h : isNm t = true) : ∃ x p, t = .Name x p := by
  cases t with
  | Name x p => exact ⟨x, p, rfl⟩
  | _ => exact absurd h Bool.false_ne_true
theorem is_tup {t : Expr} (h : isTup t = true) : ∃ es k p, t = .Tuple es k p := by
  cases t with
  | Tuple es k p => exact ⟨es, k, p, rfl⟩
  | _ => exact absurd h Bool.false_ne_true
theorem for_ok {src : Src} {t : Expr} (h : forOk src t = true) : tgtOk src t := by
  cases src with
  | list a => exact is_name h
  | range a => exact is_name h
  | rev a => cases h
  | enum a => exact is_tup h
  | zip a b => exact is_tup h

set_option maxHeartbeats 4000000 in
theorem cS_all (hB : ∀ (e : Expr) (cx : Cx), Ok3 K n cx e (cB pg cx e)) : ∀ (N : Nat), (∀ (st : Stmt) (p : S), sizeOf st < N → cS pg cx st = some p → SS K n cx st p) ∧ (∀ (sts : List Stmt) (ps : List S), sizeOf sts < N → cSs pg cx sts = some ps → SSs K n cx sts ps)
  | 0 => ⟨fun _ _ h => absurd h (Nat.not_lt_zero _), fun _ _ h => absurd h (Nat.not_lt_zero _)⟩
  | N + 1 => by
    obtain ⟨ih, ihs⟩ := cS_all hB N
    constructor
    · intro st p hN hp
      cases st with
      | Assign ts v pos =>
        clear hN
        rcases ts with _ | ⟨t, _ | ⟨t', ts⟩⟩
        · exact (no_s hp).elim
        · exact asg_ok hB hp
        · exact (no_s hp).elim
      | Expr e pos =>
        clear hN
        have hp : (if isComp e then none else (cB pg cx e).v.map S.expr) = some p := hp
        cases hc : isComp e with
        | true => rw [hc] at hp; cases hp
        | false =>
          rw [hc] at hp
          have hp : (cB pg cx e).v.map S.expr = some p := hp
          obtain ⟨a, ha, rfl⟩ := Option.map_eq_some_iff.mp hp
          exact ss_expr ((hB e cx).v a ha) hc
      | If t a b pos =>
        have hN : 1 + sizeOf t + sizeOf a + sizeOf b + sizeOf pos < N + 1 := by rw [← Stmt.If.sizeOf_spec]; exact hN
        obtain ⟨x, y, z, h1, h2, h3, rfl⟩ := m3_some hp
        exact ss_if ((hB t cx).t x h1) (ihs a y (z1 (zr (zr hN))) h2) (ihs b z (z2 (zr hN)) h3)
      | While t a o pos =>
        have hN : 1 + sizeOf t + sizeOf a + sizeOf o + sizeOf pos < N + 1 := by rw [← Stmt.While.sizeOf_spec]; exact hN
        cases o with
        | nil =>
          obtain ⟨x, y, h1, h2, rfl⟩ := m2_some hp
          exact ss_while ((hB t cx).t x h1) (ihs a y (z1 (zr (zr hN))) h2)
        | cons _ _ => exact (no_s hp).elim
      | For t i a o pos =>
        have hN : 1 + sizeOf t + sizeOf i + sizeOf a + sizeOf o + sizeOf pos < N + 1 := by rw [← Stmt.For.sizeOf_spec]; exact hN
        cases o with
        | nil =>
          have hp : (if ((cB pg cx i).s.map fun src => forOk src t) == some true then m3 S.for (cTgt cx t) (cB pg cx i).s (cSs pg cx a) else none) = some p := hp
          cases hf : ((cB pg cx i).s.map fun src => forOk src t) == some true with
          | false => rw [hf] at hp; cases hp
          | true =>
            rw [hf] at hp
            obtain ⟨ks, src, y, h1, h2, h3, rfl⟩ := m3_some hp
            rw [h2] at hf
            exact ss_for h1 (set_plain h2) ((hB i cx).s _ h2) (for_ok (by simpa using hf)) (ihs a y (z2 (zr (zr hN))) h3)
        | cons _ _ => exact (no_s hp).elim
      | Return v pos =>
        cases v with
        | none => exact (no_s hp).elim
        | some e =>
          have hp : (cB pg cx e).v.map S.ret = some p := hp
          obtain ⟨a, ha, rfl⟩ := Option.map_eq_some_iff.mp hp
          exact ss_ret ((hB e cx).v a ha)
      | Raise e c pos =>
        cases hp
        exact fun env A m g σ s N Rt R F S W => W.elim
      | _ => exact (no_s hp).elim
    · intro sts ps hN hp
      cases sts with
      | nil => cases hp; exact sss_nil
      | cons st r =>
        have hN : 1 + sizeOf st + sizeOf r < N + 1 := hN
        obtain ⟨a, b, h1, h2, rfl⟩ := m2_some hp
        exact sss_cons (ih st a (z0 (zr hN)) h1) (ihs r b (z1 hN) h2)
end
end Mini

set_option autoImplicit false
namespace Mini
open PySem
theorem zip_lookup {ns : List Str} : ∀ {vs : List Value} {x : Str}, vs.length = ns.length → x ∈ ns → ∃ v, (ns.zip vs).lookup x = some v := by
  induction ns with
  | nil => intro vs x _ h; cases h
  | cons n ns ih =>
    intro vs x hl h
    cases vs with
    | nil => cases hl
    | cons v vs =>
      (rw [List.zip_cons_cons]; rw [List.lookup_cons])
      split
      · exact ⟨v, rfl⟩
      · rename_i hne
        rcases List.mem_cons.mp h with rfl | h
        · simp at hne
        · exact ih (by simpa using hl) h
theorem fm_congr {α β : Type} {f g : α → Option β} : ∀ (l : List α), (∀ x ∈ l, f x = g x) → l.filterMap f = l.filterMap g
  | [], _ => rfl
  | x :: l, h => by (rw [List.filterMap_cons]; rw [List.filterMap_cons]; rw [h x (.head _)]; rw [fm_congr l fun y hy => h y (.tail _ hy)])
theorem zip_filterMap {ns : List Str} : ∀ {vs : List Value}, vs.length = ns.length → ns.Nodup → ns.filterMap (fun n => Option.map (fun x => (n, x)) ((ns.zip vs).lookup n)) = ns.zip vs := by
  induction ns with
  | nil => intro vs _ _; rfl
  | cons n ns ih =>
    intro vs hl hn
    cases vs with
    | nil => cases hl
    | cons v vs =>
      (rw [List.zip_cons_cons]; rw [List.filterMap_cons])
      simp only [List.lookup_cons, beq_self_eq_true, Option.map_some]
      congr 1
      rw [List.nodup_cons] at hn
      refine Eq.trans (fm_congr ns fun x hx => ?_) (ih (vs := vs) (by simpa using hl) hn.2)
      have : (x == n) = false := by rw [beq_eq_false_iff_ne]; rintro rfl; exact hn.1 hx
      rw [this]
theorem bind_try {name qual : Str} {ar : List Arg} {kd : List (Option Expr)} {df : List Expr} {body : List Stmt} {scope : Scope} {pm cd doc : Value} {vals : List Value} (hl : ¬ vals.length > (ar.map (·.arg)).length)
  (hm : ((ar.map (·.arg)).take ((ar.map (·.arg)).length - (List.drop (0 - (ar.map (·.arg)).length) ([] : List Value)).length)).filter (fun n => (((ar.map (·.arg)).zip vals).lookup n).isNone) = [])
  (hz : ((ar.map fun x : Arg => x.arg) ++ []).filterMap (fun n => (((ar.map fun x : Arg => x.arg).zip vals).lookup n).map (n, ·)) = (ar.map fun x : Arg => x.arg).zip vals) :
  bindArgs (PyProof.Rows.methDef name qual ⟨[], ar, none, [], kd, none, df⟩ body scope pm cd doc) ⟨vals, []⟩ = pure ((ar.map (·.arg)).zip vals) := by
  have h1 : (decide (vals.length > (ar.map (·.arg)).length) && true) = false := by rw [Bool.and_true]; simpa using hl
  show (if (decide (vals.length > (ar.map (·.arg)).length) && true) = true then _ else _) = _
  rw [if_neg (by rw [h1]; decide)]
  show (if (!(List.filter (fun n => (((ar.map (·.arg)).zip vals).lookup n).isNone) ((ar.map (·.arg)).take ((ar.map (·.arg)).length - (List.drop (0 - (ar.map (·.arg)).length) ([] : List Value)).length))).isEmpty) = true then _ else _) = _
  rw [if_neg (by rw [hm]; decide)]
  show (forIn (((ar.map (·.arg)).drop ((ar.map (·.arg)).length - (List.drop (0 - (ar.map (·.arg)).length) ([] : List Value)).length)).zip (List.drop (0 - (ar.map (·.arg)).length) ([] : List Value))) _ _ >>= _) = _
  have hd : (((ar.map (·.arg)).drop ((ar.map (·.arg)).length - (List.drop (0 - (ar.map (·.arg)).length) ([] : List Value)).length)).zip (List.drop (0 - (ar.map (·.arg)).length) ([] : List Value))) = [] := by (rw [List.drop_nil]; rw [List.zip_nil_right])
  rw [hd]
  show (pure (((ar.map fun x : Arg => x.arg) ++ []).filterMap (fun n => (((ar.map fun x : Arg => x.arg).zip vals).lookup n).map (n, ·))) : Sem (List (Str × Value))) = _
  rw [hz]
theorem bind_all {name qual : Str} {params : Arguments} {body : List Stmt} {scope : Scope} {pm cd doc : Value} {vals : List Value} (h1 : params.posonlyargs = []) (h2 : params.vararg = none) (h3 : params.kwonlyargs = []) (h4 : params.kwarg = none)
    (hl : vals.length = params.args.length) (hn : (params.args.map (·.arg)).Nodup) : bindArgs (PyProof.Rows.methDef name qual params body scope pm cd doc) ⟨vals, []⟩ = pure ((params.args.map (·.arg)).zip vals) := by
  obtain ⟨po, ar, va, ko, kd, kw, df⟩ := params
  have h1 : po = [] := h1
  have h2 : va = none := h2
  have h3 : ko = [] := h3
  have h4 : kw = none := h4
  subst h1 h2 h3 h4
  have hl' : vals.length = (ar.map (·.arg)).length := by rw [List.length_map]; exact hl
  refine bind_try (by walk_at "o") ?_ ?_
  · (rw [List.drop_nil]; rw [List.length_nil]; rw [Nat.sub_zero]; rw [List.take_length]; rw [List.filter_eq_nil_iff])
    intro x hx
    obtain ⟨v, e⟩ := zip_lookup hl' hx
    rw [e]; exact Bool.false_ne_true
  · rw [List.append_nil]; exact zip_filterMap hl' hn

/-- a function of the text's own stands in the heap, compiled -/
noncomputable def FnOk (K : Ctx) (pg : Pg) (f : Nat) (fn : Fn) : Prop := ∃ (name : Str) (params : Arguments) (body : List Stmt) (scope : Scope) (pm cd doc : Value) (o : Obj),
  K.hB.get? (K.fa f) = some o ∧ o.data = .func (Calls.docDef name params body scope pm cd doc) ∧ K.hB.CodeRec cd name ∧ cFn pg params scope body = some fn

theorem zipIdx_lookup : ∀ {l : List Str} {i k : Nat} {x : Str}, (l.zipIdx i).lookup x = some k → i ≤ k ∧ l[k - i]? = some x
  | [], _, _, _, h => by simp at h
  | y :: l, i, k, x, h => by
    rw [List.zipIdx_cons, List.lookup_cons] at h
    split at h
    · rename_i he
      cases h
      exact ⟨Nat.le_refl _, by simp at he; simp [he]⟩
    · obtain ⟨h1, h2⟩ := zipIdx_lookup h
      refine ⟨by walk_at "o", ?_⟩
      rw [show k - i = (k - (i + 1)) + 1 by walk_at "o"]
      simpa using h2
theorem bindL_skip {kf : Str → Option NameKind} {x : Str} : ∀ {bs : List (Str × Value)} {m : Str → Option Value}, x ∉ bs.map (·.1) → bindL kf bs m x = m x
  | [], _, _ => rfl
  | (n, v) :: bs, m, h => by
    simp only [List.map_cons, List.mem_cons, not_or] at h
    (rw [bindL]; rw [bindL_skip h.2])
    split
    · simp [h.1]
    · rfl
theorem bindC_skip {kf : Str → Option NameKind} {x : Str} : ∀ {bs : List (Str × Value)} {m : Str → Option Value}, x ∉ bs.map (·.1) → bindC kf bs m x = m x
  | [], _, _ => rfl
  | (n, v) :: bs, m, h => by
    simp only [List.map_cons, List.mem_cons, not_or] at h
    (rw [bindC]; rw [bindC_skip h.2])
    split
    · rfl
    · simp [h.1]
theorem bindL_get {kf : Str → Option NameKind} {x : Str} {w : Value} (hk : kf x = some .local) : ∀ {bs : List (Str × Value)} {m : Str → Option Value}, (bs.map (·.1)).Nodup → (x, w) ∈ bs → bindL kf bs m x = some w
  | (n, v) :: bs, m, hn, h => by
    rw [List.map_cons, List.nodup_cons] at hn
    rw [bindL]
    rcases List.mem_cons.mp h with h | h
    · cases h
      (rw [bindL_skip hn.1]; rw [if_pos hk]); simp
    · exact bindL_get hk hn.2 h
theorem bindC_get {kf : Str → Option NameKind} {x : Str} {w : Value} (hk : kf x ≠ some .local) : ∀ {bs : List (Str × Value)} {m : Str → Option Value}, (bs.map (·.1)).Nodup → (x, w) ∈ bs → bindC kf bs m x = some w
  | (n, v) :: bs, m, hn, h => by
    rw [List.map_cons, List.nodup_cons] at hn
    rw [bindC]
    rcases List.mem_cons.mp h with h | h
    · cases h
      (rw [bindC_skip hn.1]; rw [if_neg hk]); simp
    · exact bindC_get hk hn.2 h
theorem cells_some {x : Str} : ∀ {names : List (Str × NameKind)} {n : Nat} {acc : List (Str × Addr)}, (∃ c, acc.lookup x = some c) ∨ (x, NameKind.cell) ∈ names → ∃ c, (cellsFrom n names acc).lookup x = some c
  | [], n, acc, h => by
    rcases h with h | h
    · exact h
    · cases h
  | (y, k) :: names, n, acc, h => by
    rw [cellsFrom]
    split
    · refine cells_some ?_
      rcases h with ⟨c, h⟩ | h
      · left
        rw [List.lookup_cons]
        split
        · exact ⟨_, rfl⟩
        · exact ⟨c, h⟩
      · rcases List.mem_cons.mp h with h | h
        · cases h
          left
          exact ⟨n, by simp⟩
        · exact .inr h
    · rename_i hk
      refine cells_some ?_
      rcases h with h | h
      · exact .inl h
      · rcases List.mem_cons.mp h with h | h
        · cases h; simp at hk
        · exact .inr h
theorem get_start {f : Fn} {vs : List V} {k : Nat} {v : V} (h : get (start f vs) k = some v) : vs[k]? = some v := by
  unfold start at h
  generalize f.ns - f.np = j at h
  induction vs generalizing k with
  | nil =>
    exfalso
    simp only [List.map_nil, List.nil_append] at h
    induction j generalizing k with
    | zero => cases h
    | succ j ih => cases k with
      | zero => cases h
      | succ k => exact ih h
  | cons u us ih => cases k with
    | zero => exact h
    | succ k => exact ih h

theorem own_there {K : Ctx} {g : G} {σ : H} {h : Heap} (S : St K g σ h) {b : Addr} (hb : g.own b) : ∃ o, h.get? b = some o := by
  rcases hb with hb | hb
  · exact S.there (List.prefix_refl _) hb
  · exact (S.imm b hb).2.2
theorem lookup_mem {α : Type} : ∀ {l : List (Str × α)} {n : Str} {c : α}, l.lookup n = some c → (n, c) ∈ l := PySem.mem_of_lookup

set_option genInjectivity false
set_option genSizeOfSpec false
inductive CFn (pg : Pg) (ps : Arguments) (sc : Scope) (body : List Stmt) (fn : Fn) : Prop
  | mk (c1 : sc.kind = .function) (c2 : sc.isCoroutine = false) (c3 : sc.isGenerator = false) (c4 : ps.posonlyargs = []) (c5 : ps.vararg = none) (c6 : ps.kwonlyargs = []) (c7 : ps.kwarg = none) (c8 : ((slotsOf sc.names).map (·.1)).take ps.args.length = ps.args.map (·.arg)) (c9 : ((slotsOf sc.names).map (·.1)).Nodup)
      (c10 : ∀ a ∈ ps.args, sc.names.lookup a.arg = some .local ∨ sc.names.lookup a.arg = some .cell) (b : List S) (cb : cSs pg ⟨sc.names, slotsOf sc.names⟩ body = some b) (hf : fn = ⟨ps.args.length, (slotsOf sc.names).length + 3, b⟩)
theorem cFn_some {pg : Pg} {ps : Arguments} {sc : Scope} {body : List Stmt} {fn : Fn} (h : cFn pg ps sc body = some fn) : CFn pg ps sc body fn := by
  unfold cFn at h
  dsimp only at h
  split at h
  · rename_i hc
    simp only [Bool.and_eq_true, Bool.not_eq_true', beq_iff_eq, List.isEmpty_iff, Option.isNone_iff_eq_none, decide_eq_true_eq, List.all_eq_true, Bool.or_eq_true] at hc
    obtain ⟨⟨⟨⟨⟨⟨⟨⟨⟨⟨h1, h2⟩, h3⟩, h4⟩, h5⟩, h6⟩, h7⟩, h8⟩, h9⟩, h10⟩, h11⟩ := hc
    simp only [Option.map_eq_some_iff] at h
    obtain ⟨b, hb, rfl⟩ := h
    exact ⟨h1, h2, h3, h4, h5, h6, h7, h9, h10, h11, b, hb, rfl⟩
  · cases h

theorem sf_all {K : Ctx} {pg : Pg} (G₀ : Gr K pg) (hΦ : ∀ f fn, K.Φ f = some fn → FnOk K pg f fn) (hfld : pg.hall ≠ "" → K.fields = pg.fields) (hfl : pg.hall = "" → pg.fields = []) : ∀ n, SF K n
  | 0 => fun f A g σ s vs ws Q R S r W => W.elim
  | n + 1 => fun f A g σ s vs ws Q R S r W => by
    have hf := sf_all G₀ hΦ hfld hfl n
    obtain ⟨fn, hfn, hlen, W⟩ := W
    obtain ⟨name, ps, body, sc, pm, cd, doc, o, ho, hd, hcd, hc⟩ := hΦ f fn hfn
    obtain ⟨c1, c2, c3, c4, c5, c6, c7, c8, c9, c10, b, cb, rfl⟩ := cFn_some hc
    have hlen : vs.length = ps.args.length := hlen
    have hwl : ws.length = ps.args.length := r.length ▸ hlen
    have hnd : (ps.args.map (·.arg)).Nodup := c8 ▸ (List.Sublist.nodup (List.take_sublist _ _) c9)
    have hbind := bind_all (name := name) (qual := name) (body := body) (scope := sc) (pm := pm) (cd := cd) (doc := doc) (vals := ws) c4 c5 c6 c7 hwl hnd
    have hslots : (slotsOf sc.names).map (·.1) = (sc.names.filter fun p => p.2 == .local || p.2 == .cell).map (·.1) := by unfold slotsOf; rw [List.zipIdx_map_fst]
    have hsl : ∀ x k, (slotsOf sc.names).lookup x = some k → ((slotsOf sc.names).map (·.1))[k]? = some x := fun x k h => by
      rw [hslots]
      have := (zipIdx_lookup (i := 0) h).2
      simpa using this
    have hkeys : ((ps.args.map (·.arg)).zip ws).map (·.1) = ps.args.map (·.arg) := by
      rw [List.map_fst_zip]; simp [hwl]
    have hbnd : (((ps.args.map (·.arg)).zip ws).map (·.1)).Nodup := by rw [hkeys]; exact hnd
    have hmem : ∀ x k v, (slotsOf sc.names).lookup x = some k → get (start ⟨ps.args.length, (slotsOf sc.names).length + 3, b⟩ vs) k = some v → ∃ w, (x, w) ∈ (ps.args.map (·.arg)).zip ws ∧ VRel K g s.heap v w := fun x k v h1 h2 => by
      have h3 := get_start h2
      obtain ⟨w, h4, h5⟩ := r.get h3
      refine ⟨w, ?_, h5⟩
      have hk : k < ps.args.length := by rw [← hlen]; exact (List.getElem?_eq_some_iff.mp h3).1
      have h6 : (ps.args.map (·.arg))[k]? = some x := by
        (rw [← c8]; rw [List.getElem?_take]; rw [if_pos hk]); exact hsl x k h1
      refine List.mem_of_getElem? (i := k) ?_
      rw [List.getElem?_zip_eq_some]
      exact ⟨h6, h4⟩
    have hbase := fun b o e => S.base b o e
    refine PyProof.Rows.call_cells_ret (args := ws) (o := o) (by have := R.depth; walk_at "o") (hbase _ _ ho) hd (G₀.nolimit.at fun o e => hbase _ o e) (hcd.keeps hbase) hbind (fun x hx => ?_) (fun h₁ tk F X => ?_) c2 c3 c1
    · have : x.1 ∈ ps.args.map (·.arg) := by
        rw [← hkeys]; exact List.mem_map_of_mem hx
      obtain ⟨a, ha, e⟩ := List.mem_map.mp this
      have e : a.arg = x.1 := e
      rcases c10 a ha with h | h
      · exact .inl (e ▸ h)
      · refine .inr ⟨e ▸ h, ?_⟩
        obtain ⟨c, hc⟩ := cells_some (n := s.heap.objs.size + 1) (acc := []) (.inr (lookup_mem h))
        (rw [← e]; rw [hc]); rfl
    · have go₀ : Go K g s.heap g σ h₁ := Go.change S F.keep
      have hno : ∀ c : Addr, (s.heap.objs.size : Nat) ≤ c → s.heap.get? c = none := fun c h => by
        cases e : s.heap.get? c with
        | none => rfl
        | some o => exact absurd (Heap.lt_size e) (Nat.not_lt.mpr h)
      have hpr : ∀ c : Addr, (s.heap.objs.size : Nat) ≤ c → ¬ g.own c ∧ K.hB.get? c = none := fun c h => by
        refine ⟨fun z => ?_, ?_⟩
        · obtain ⟨o, e⟩ := own_there S z
          rw [hno c h] at e; cases e
        · cases e : K.hB.get? c with
          | none => rfl
          | some o => have := S.base c o e; rw [hno c h] at this; cases this
      have hcl : ∀ x c, (cellsFrom (s.heap.objs.size + 1) sc.names []).lookup x = some c → (s.heap.objs.size : Nat) ≤ c := fun x c h => Nat.le_of_lt (X.above x c (lookup_mem h))
      have FR : Fr K (PyProof.Rows.envOfC name sc s.heap.objs.size (K.fa f) cd) ⟨sc.names, slotsOf sc.names⟩ (start ⟨ps.args.length, (slotsOf sc.names).length + 3, b⟩ vs) g h₁ := by
        refine ⟨c1, rfl, rfl, rfl, ⟨_, F.ns, fun x k v h1 h2 h3 => ?_⟩, fun x k h1 h2 => ?_, hpr _ (Nat.le_refl _), fun x c h => ?_, fun x y c h1 h2 => ?_, fun x y k h1 h2 => ?_, fun x k h => ?_, fun j hj => ?_⟩
        · obtain ⟨w, h4, h5⟩ := hmem x k v h1 h3
          exact ⟨w, bindL_get h2 hbnd h4, go₀.rel S h5⟩
        · obtain ⟨c, hc⟩ := cells_some (n := s.heap.objs.size + 1) (acc := []) (.inr (lookup_mem h2))
          refine ⟨c, _, hc, X.cell x c hc, fun v h3 => ?_⟩
          obtain ⟨w, h4, h5⟩ := hmem x k v h1 h3
          exact ⟨w, bindC_get (by show sc.names.lookup x ≠ _; rw [show sc.names.lookup x = some .cell from h2]; intro z; cases z) hbnd h4, go₀.rel S h5⟩
        · exact ⟨(hpr c (hcl x c h)).1, (hpr c (hcl x c h)).2, _, X.cell x c h⟩
        · exact PySem.name_of_addr X.apart (lookup_mem h1) (lookup_mem h2)
        · have a1 := hsl x k h1
          have a2 := hsl y k h2
          rw [a1] at a2; cases a2; rfl
        · have := (List.getElem?_eq_some_iff.mp (hsl x k h)).1
          simpa using this
        · cases e : get (start ⟨ps.args.length, (slotsOf sc.names).length + 3, b⟩ vs) j with
          | none => rfl
          | some v =>
            have h3 := (List.getElem?_eq_some_iff.mp (get_start e)).1
            have h4 : ps.args.length ≤ (slotsOf sc.names).length := by
              have := congrArg List.length c8
              simp at this
              walk_at "o"
            have hj : (slotsOf sc.names).length ≤ j := hj
            walk_at "o"
      have R' : Room (A.deeper (PyProof.Rows.envOfC name sc s.heap.objs.size (K.fa f) cd)) n := by
        have h1 := R.depth
        have h2 := R.units
        refine ⟨R.handled, ?_, ?_⟩
        · show A.depth + 1 + 3 * n + 10 < _; walk_at "o"
        · show A.units + 3 + 10 * n + 300 < _; walk_at "o"
      have hB : ∀ (e : Expr) (cx : Cx), Ok3 K n cx e (cB pg cx e) := fun e cx => cB_all G₀ hf hfld hfl _ e cx (Nat.lt_succ_self _)
      have body_ok := (cS_all hB _).2 body b (Nat.lt_succ_self _) cb
      refine wpAny_mono (body_ok _ _ _ g σ { s with heap := h₁, toks := tk } _ Q R' FR go₀.st W) (fun fl s' q => ?_) fun _ _ f => f
      have hfp : ∀ b, fpOf (PyProof.Rows.envOfC name sc s.heap.objs.size (K.fa f) cd) b → s.heap.get? b = none := fun b hb => by
        rcases hb with hb | ⟨x, hb⟩
        · rw [hb]; exact hno _ (Nat.le_refl _)
        · exact hno _ (hcl x b hb)
      cases fl with
      | next =>
        obtain ⟨m', g', σ', go, sx, F', W'⟩ := q
        exact ⟨.none, g', σ', (go₀.toX.trans go).toGo hfp, ⟨sx.1, sx.2⟩, rfl, W'⟩
      | ret v =>
        obtain ⟨rr, g', σ', go, sx, rel, W'⟩ := q
        exact ⟨rr, g', σ', (go₀.toX.trans go).toGo hfp, ⟨sx.1, sx.2⟩, rel, W'⟩
      | _ => exact q.elim
end Mini

set_option autoImplicit false
set_option linter.unusedVariables false
namespace Mini
open PySem PyProof.Rows

noncomputable def mkPg (p : Program) (consts : List (Str × Int)) (hall : Str) (fields : List Str) : Pg := ⟨((recsOf p).map (·.name)).zipIdx, consts, hall, fields⟩
noncomputable def phi (p : Program) (pg : Pg) (i : Nat) : Option Fn := match (recsOf p)[i]? with
  | some d => cFn pg d.params d.scope d.body
  | none => none
noncomputable def faOf (p : Program) (mg : Str → Option Value) (i : Nat) : Addr := match (recsOf p)[i]? with
  | some d => (match mg d.name with | some (.ref a) => a | _ => 0)
  | none => 0
noncomputable def mkCtx (prog p : Program) (w : World) (hB : Heap) (mg mb : Str → Option Value) (pg : Pg) (C : Addr) (fields : List Str) : Ctx := ⟨prog, w, hB, mg, mb, phi p pg, faOf p mg, C, fields⟩

/-- what is to be looked at in a text: its names take no builtin's place, its constants are ints -/
noncomputable def textOk (p : Program) (loose : List Str) (pg : Pg) : Bool :=
  blts.all (fun q => !(startupNames.contains q.1) && !(loose.contains q.1) && !(((recsOf p).map (·.name)).contains q.1) && !(((litsOf p).map (·.1)).contains q.1) && !(((clssOf p loose).map (·.name)).contains q.1)) &&
  pg.consts.all fun q => match valOf p q.1 with | some (.int i) => i == q.2 | _ => false
theorem bk_all : bks.map (fun q => bootBuiltins q.1) = bks.map fun q => some (bkV q.2) := by kernel_rfl
theorem bk_boot : ∀ q ∈ bks, bootBuiltins q.1 = some (bkV q.2) := List.map_inj_left.mp bk_all
theorem blts_boot : ∀ q ∈ blts, bootBuiltins q.1 = some q.2 := by
  intro q hq
  have e : blts = bks.map fun p => (p.1, bkV p.2) := rfl
  rw [e] at hq
  obtain ⟨p, h1, rfl⟩ := List.mem_map.mp hq
  exact bk_boot p h1

section
variable {prog p : Program} {w : World} {hB : Heap} {mg mb : Str → Option Value} {loose : List Str} {mean : ExcName → Option Value} {consts : List (Str × Int)} {hall : Str} {fields : List Str} {C : Addr}

theorem fa_of (T : Top p loose mean mg mb hB) {i : Nat} {d : DefRec} (h : (recsOf p)[i]? = some d) : mg d.name = some (.ref (faOf p mg i)) ∧ ∃ o pm cd doc, hB.get? (faOf p mg i) = some o ∧ o.data = .func (Calls.docDef d.name d.params d.body d.scope pm cd doc) ∧ hB.CodeRec cd d.name := by
  obtain ⟨a, o, pm, cd, doc, h1, h2, h3, h4⟩ := T.fn d (List.mem_of_getElem? h)
  have : faOf p mg i = a := by unfold faOf; rw [h]; simp only [h1]
  rw [this]
  exact ⟨h1, o, pm, cd, doc, h2, h3, h4⟩

theorem fns_ok (T : Top p loose mean mg mb hB) {pg : Pg} : ∀ f fn, (mkCtx prog p w hB mg mb pg C fields).Φ f = some fn → FnOk (mkCtx prog p w hB mg mb pg C fields) pg f fn := fun f fn h => by
  have h : phi p pg f = some fn := h
  unfold phi at h
  split at h
  · rename_i d hd
    obtain ⟨_, o, pm, cd, doc, h2, h3, h4⟩ := fa_of T hd
    exact ⟨d.name, d.params, d.body, d.scope, pm, cd, doc, o, h2, h3, h4, h⟩
  · cases h

theorem gr_of (T : Top p loose mean mg mb hB) (ok : textOk p loose (mkPg p consts hall fields) = true)
    (hhall : hall ≠ "" → mg hall = some (.ref C))
    (hattr : ∀ (A : Around) (s : Shared) (Q : Value → Shared → Prop) (E : Value → Shared → Prop) (b d : Addr) (mA : Str → Option Value) (vs : List Value) (k : Nat) (f : Str) (w' : Value), (∀ b o, hB.get? b = some o → s.heap.get? b = some o) →
      InO s.heap C b d mA → hasF fields mA vs → fields[k]? = some f → vs[k]? = some w' → handedOut w' = pure w' → (∀ tk, Q w' { s with toks := tk }) → wpAny (model prog w) A (getAttr (.ref b) f true) Q E s)
    (hcls : hall ≠ "" → ∃ N mN, ClsAt hB C N mN)
    (hmake : hall ≠ "" → ∀ (A : Around) (n : Nat) (s : Shared) (vs : List Value) (Q : Value → Shared → Prop) (E : Value → Shared → Prop), Room A n → (∀ b o, hB.get? b = some o → s.heap.get? b = some o) → vs.length = 5 →
      (∀ b d mA h' tk, s.heap.get? b = none → s.heap.get? d = none → InO h' C b d mA → hasF fields mA vs → (∀ c o, s.heap.get? c = some o → h'.get? c = some o) → Q (.ref b) { s with heap := h', toks := tk }) →
      wpAny (model prog w) A (call (.ref C) vs) Q E s) :
    Gr (mkCtx prog p w hB mg mb (mkPg p consts hall fields) C fields) (mkPg p consts hall fields) := by
  simp only [textOk, Bool.and_eq_true, List.all_eq_true] at ok
  refine ⟨T.g, T.b, T.nolimit, fun x v h => ?_, fun x i h => ?_, fun x f h => ?_, fun x hx h0 => ⟨by subst hx; exact hhall h0, rfl⟩, hattr, hcls, hmake⟩
  · have hm := lookup_mem h
    have h1 := ok.1 _ hm
    simp only [Bool.not_eq_true', List.contains_eq_mem, decide_eq_false_iff_not] at h1
    obtain ⟨⟨⟨⟨a1, a2⟩, a3⟩, a4⟩, a5⟩ := h1
    refine ⟨T.free x a1 a2 a3 a4 a5, ?_⟩
    have hn : x ≠ "__name__" := fun z => a1 (z ▸ .head _)
    exact (T.builtins x hn).trans (blts_boot _ hm)
  · have h1 := ok.2 _ (lookup_mem h)
    split at h1
    · rename_i j hj
      obtain ⟨v, h2, h3⟩ := T.const x _ hj
      have e : j = i := beq_iff_eq.mp h1
      subst e
      cases h3 hB
      exact ⟨_, h2⟩
    · cases h1
  · have h1 := (zipIdx_lookup (i := 0) h).2
    rw [Nat.sub_zero, List.getElem?_map, Option.map_eq_some_iff] at h1
    obtain ⟨d, hd, rfl⟩ := h1
    obtain ⟨h2, o, pm, cd, doc, h3, h4, h5⟩ := fa_of T hd
    exact ⟨h2, o, _, h3, h4⟩

theorem ints_rels {K : Ctx} {g : G} {h : Heap} {is : List Int} {vs : List Value} (r : IntsAre vs is) : VRels K g h (is.map V.int) vs := by
  induction r with
  | nil => trivial
  | cons n t r ih => exact ⟨⟨_, rfl⟩, ih⟩

/-- the law is called with the script -/
theorem enter {K : Ctx} {pg : Pg} (G₀ : Gr K pg) (hΦ : ∀ f fn, K.Φ f = some fn → FnOk K pg f fn) (hfld : pg.hall ≠ "" → K.fields = pg.fields) (hfl : pg.hall = "" → pg.fields = []) {s₁ : Shared} (hs : K.hB = s₁.heap) {a : Addr} {is : List Int} {vs : List Value} {k : Nat}
    (ho : s₁.heap.get? a = some { cls := .type "list", data := .seq vs.toArray k }) (hi : IntsAre vs is) (hl : is.length ≤ 63) {n : Nat} (hn : n ≤ 40) {li : Nat} {fa : Addr} (hfa : K.fa li = fa) {R : Result → Shared → Prop}
    (hR : ∀ s', (∀ b o, s₁.heap.get? b = some o → s'.heap.get? b = some o) → s'.os = s₁.os → s'.gens = s₁.gens → R (.ok (.ret (.bool true))) s')
    (W : callW K.Φ n li [.ref 0] [is.map V.int] (fun v _ => v = .bool true) noX) : codeAny (model K.prog K.w) callerA (.call (.ref fa) ⟨[.ref a], []⟩) R s₁ := by
  have S : St K ⟨[a], fun _ => False⟩ [is.map V.int] s₁.heap := by
    refine ⟨fun b o e => hs ▸ e, rfl, fun i b xs h1 h2 => ?_, by simp, fun xs h => ?_, fun i b h1 h2 => ?_, fun b h => h.elim⟩
    · cases i with
      | zero =>
        simp at h1 h2
        subst h1 h2
        exact ⟨_, _, ho, ints_rels hi⟩
      | succ i => simp at h1
    · simp at h; subst h; show (is.map V.int).length ≤ 16777216; rw [List.length_map]; walk_at "o"
    · cases i with
      | zero => exact absurd rfl h2
      | succ i => simp at h1
  have R' : Room callerA n := ⟨rfl, by show 1 + claimMargin + 3 * n + 10 < 1000; have : claimMargin ≤ 800 := by decide +kernel
                                       walk_at "o", by show 4 + 10 * n + 300 < 9900; walk_at "o"⟩
  subst hfa
  refine codeAny_mono (sf_all G₀ hΦ hfld hfl n li callerA ⟨[a], fun _ => False⟩ _ s₁ [.ref 0] [.ref a] _ R' S ⟨⟨a, rfl, rfl⟩, trivial⟩ W) fun r s' q => ?_
  match r, q with
  | .ok (.ret v), ⟨rv, g', σ', go, sx, rel, e⟩ =>
    subst e
    cases rel
    exact hR s' (fun b o e => go.st.base b o (hs ▸ e)) sx.1 sx.2
end
end Mini

set_option autoImplicit false
set_option linter.unusedVariables false
namespace Mini
open PySem PyProof.Rows PySem.W

theorem post_ok (l : OpenLaw) (args : List WData) : l.row.toRowW.claim.post args (.bool true) args = true := by
  show (WShape.has [] (.bool true) .bool && (WTm.eq .res (.lit (.bool true))).holds [] { args := args, res := some (.bool true), after := args }) = true
  with_unfolding_all rfl
theorem reads_ok (l : OpenLaw) (cl : Str → Option Addr) (h : Heap) : ReadsW l.row.toRowW.claim.records cl h (.bool true) (.bool true) [] := by
  constructor
theorem good_ok (l : OpenLaw) {cl : Str → Option Addr} {mean : ExcName → Option Value} {args : List WData} {s₁ s' : Shared} (hg : s₁.gens = #[]) (h1 : ∀ b o, s₁.heap.get? b = some o → s'.heap.get? b = some o) (h2 : s'.os = s₁.os) (h3 : s'.gens = s₁.gens) :
    GoodWG l.row.toRowW.claim cl mean args s₁ (.ok (.ret (.bool true))) s' :=
  GoodW.toG ⟨.inl ⟨_, .bool true, [], rfl, fun _ => rfl, reads_ok l cl _, post_ok l args, fun _ => ⟨.nil, nofun⟩⟩, h1, h2, h3.trans hg⟩
theorem script_obj {P : Params} {h : Heap} {a : Addr} {vs : List Value} {xs : List PyData} (w : Well P h (.ref a) (ofPy (.list xs))) (hl : h.IsList a vs.toArray) : h.get? a = some { cls := .type "list", data := .seq vs.toArray } := by
  obtain ⟨o, ho, hc, n, hd⟩ := hl
  rw [show ofPy (.list xs) = .list (ofPys xs) from by simp only [ofPy]] at w
  cases w with
  | list h1 h2 =>
    rw [ho] at h1
    cases h1
    cases hd
    exact ho

end Mini

set_option autoImplicit false
set_option linter.unusedVariables false
namespace Mini
open PySem PyProof.Rows

/-- the assignments of __init__ -/
noncomputable def ini : List (Str × Pos × Pos × Pos × Pos) → List Stmt
  | [] => []
  | (f, p, q, r, t) :: l => .Assign [.Attribute (.Name "self" p) f q] (.Name f r) t :: ini l
/-- what holds of an attribute's name -/
structure FldOk (sc : Scope) (mN : Str → Option Value) (f : Str) : Prop where
  loc : sc.names.lookup f = some .local
  dbg : (f == ("__debug__" : Str)) = false
  ns : mN f = none
  ob : typeLookup (.type "object") f = pure none

section
variable {prog : Program} {w : World} {A : Around} {E : Value → Shared → Prop} {C N x dx L : Addr} {mN ms : Str → Option Value} {env : Env} {hB : Heap}

theorem ini_walk (X : ClsAt hB C N mN) (hset : mN "__setattr__" = none) (hk : env.scope.kind = .function) (hL : env.locals = L) (hself : env.scope.names.lookup ("self" : Str) = some .local) (hsv : ms "self" = some (.ref x)) (hxC : hB.get? x = none) (hdC : hB.get? dx = none) (hLx : L ≠ x) (hLd : L ≠ dx) {H₀ : Heap} (hx0 : H₀.get? x = none) (hd0 : H₀.get? dx = none) :
    ∀ (l : List (Str × Pos × Pos × Pos × Pos)) (vs : List Value) (mA : Str → Option Value) (ns : List Str) (s : Shared) (Q : Flow → Shared → Prop), (∀ f ∈ l.map (·.1), FldOk env.scope mN f) → (∀ (i : Nat) (f : Str) (v : Value), (l.map (·.1))[i]? = some f → vs[i]? = some v → ms f = some v) → l.length = vs.length → (l.map (·.1)).Nodup →
    InO s.heap C x dx mA → s.heap.Ns L ms → (∀ b o, hB.get? b = some o → s.heap.get? b = some o) → (∀ b o, H₀.get? b = some o → s.heap.get? b = some o) → Within mA ns → ns.length + l.length ≤ sizeLine →
    (∀ h' tk mA', InO h' C x dx mA' → (∀ b o, H₀.get? b = some o → h'.get? b = some o) → (∀ y, y ∉ l.map (·.1) → mA' y = mA y) → (∀ (i : Nat) (f : Str) (v : Value), (l.map (·.1))[i]? = some f → vs[i]? = some v → mA' f = some v) → Q .next { s with heap := h', toks := tk }) →
    wpAny (model prog w) A (execs (ini l) env) Q E s
  | [], vs, mA, ns, s, Q, _, _, _, _, I, _, _, k0, _, _, hQ => wpAny_execs_nil (by
      have := hQ s.heap s.toks mA I k0 (fun _ _ => rfl) (fun i f v h => by simp at h)
      exact this)
  | (f, p, q, r, t) :: l, [], mA, ns, s, Q, _, _, hl, _, _, _, _, _, _, _, _ => by simp at hl
  | (f, p, q, r, t) :: l, v :: vs, mA, ns, s, Q, hok, hv, hl, hnd, I, hns, kB, k0, hw, hsz, hQ => by
    obtain ⟨hh, g, d, tk, os⟩ := s
    have fo := hok f (by simp)
    have hvf : ms f = some v := hv 0 f v rfl rfl
    have hkind : ∀ y, env.kindOf y = env.scope.names.lookup y := fun y => rfl
    rw [List.map_cons, List.nodup_cons] at hnd
    refine wpAny_execs_cons (plainObj_wpAny_Assign_Attribute ?_ rfl)
    refine wpAny_Name (wpAny_loadName_local hk ((hkind f).trans fo.loc) (hL ▸ hns) hvf ?_) fo.dbg
    refine wpAny_Name (wpAny_loadName_local hk ((hkind ("self" : Str)).trans hself) (hL ▸ hns) hsv ?_) (by decide)
    obtain ⟨nm, qn, bs, sn, sub, col, dd, k0', k1, k2, k3, k5, hC⟩ := (X.keeps kB).obj
    obtain ⟨o, hx, hc, hdt, hnc⟩ := I.obj
    have hxC' : x ≠ C := by
      rintro rfl
      obtain ⟨_, _, _, _, _, _, _, _, _, _, _, _, hC0⟩ := X.obj
      rw [hxC] at hC0; cases hC0
    have inst : hh.Inst x C mA := ⟨o, hx, hc, hnc, .inr ⟨dx, hdt, I.ne, I.ns⟩⟩
    refine store_attr PySem.F.store_object hC (X.keeps kB).ns hset fo.ns fo.ob hxC' inst (fun h' tk' I' hkp hsame => ?_) hw (by simp at hsz; walk_at "o")
    have kk : ∀ b o, b ≠ x → b ≠ dx → hh.get? b = some o → h'.get? b = some o := fun b o h1 h2 e => hkp b o h1 (fun o₀ d' e₀ ed => by
      obtain rfl := Option.some.inj (hx.symm.trans e₀); obtain rfl := Option.some.inj (hdt.symm.trans ed); exact h2) e
    obtain ⟨o₁, e₁, c₁, dt₁, _, dk₁⟩ := hsame o hx
    have IO : InO h' C x dx (fun y => if y = f then some v else mA y) := by
      obtain ⟨o', e', _, _, hd'⟩ := I'
      obtain rfl := Option.some.inj (e₁.symm.trans e')
      rcases hd' with ⟨hn0, _⟩ | ⟨d', hd', _, hns'⟩
      · rw [dk₁ dx hdt] at hn0; cases hn0
      · obtain rfl := Option.some.inj ((dk₁ dx hdt).symm.trans hd')
        exact ⟨⟨o₁, e₁, c₁.trans hc, dk₁ _ hdt, fun c => dt₁ ▸ hnc c⟩, I.ne, hns'⟩
    refine ini_walk X hset hk hL hself hsv hxC hdC hLx hLd hx0 hd0 l vs _ (f :: ns) ⟨h', g, d, tk', os⟩ Q (fun y hy => hok y (by simp [hy])) (fun i y u h1 h2 => hv (i + 1) y u (by simpa using h1) (by simpa using h2)) (by simpa using hl) hnd.2 IO ?_ ?_ ?_ ?_ ?_ ?_
    · obtain ⟨oL, es, ep, eL, rL⟩ := hns
      exact ⟨oL, es, ep, kk L oL hLx hLd eL, rL⟩
    · exact fun b o e => kk b o (by rintro rfl; rw [hxC] at e; cases e) (by rintro rfl; rw [hdC] at e; cases e) (kB b o e)
    · exact fun b o e => kk b o (by rintro rfl; rw [hx0] at e; cases e) (by rintro rfl; rw [hd0] at e; cases e) (k0 b o e)
    · intro y hy
      by_cases hyf : y = f
      · simp [hyf]
      · simp only [if_neg hyf] at hy
        exact List.mem_cons_of_mem _ (hw y hy)
    · simp at hsz ⊢; walk_at "o"
    · intro h'' tk'' mA' J k' hn hm
      refine hQ h'' tk'' mA' J k' (fun y hy => ?_) (fun i y u h1 h2 => ?_)
      · simp only [List.map_cons, List.mem_cons, not_or] at hy
        (rw [hn y hy.2]; rw [if_neg hy.1])
      · cases i with
        | zero =>
          simp at h1 h2
          subst h1 h2
          (rw [hn f hnd.1]; rw [if_pos rfl])
        | succ i => exact hm i y u (by simpa using h1) (by simpa using h2)
theorem hall_attr (X : ClsAt hB C N mN) (hga : mN "__getattribute__" = none) {fields : List Str} (hf : ∀ f ∈ fields, mN f = none ∧ typeLookup (.type "object") f = pure none)
    (A : Around) (s : Shared) (Q : Value → Shared → Prop) (E : Value → Shared → Prop) (b d : Addr) (mA : Str → Option Value) (vs : List Value) (k : Nat) (f : Str) (u : Value) (kB : ∀ b o, hB.get? b = some o → s.heap.get? b = some o)
    (I : InO s.heap C b d mA) (hF : hasF fields mA vs) (hk : fields[k]? = some f) (hu : vs[k]? = some u) (ho : handedOut u = pure u) (hq : ∀ tk, Q u { s with toks := tk }) : wpAny (model prog w) A (getAttr (.ref b) f true) Q E s := by
  obtain ⟨hh, g, dr, t, os⟩ := s
  obtain ⟨nm, qn, bs, sn, sub, col, dd, k0', k1, k2, k3, k5, hC⟩ := (X.keeps kB).obj
  obtain ⟨o, hx, hc, hdt, hnc⟩ := I.obj
  have h1 := hf f (List.mem_of_getElem? hk)
  exact load_attr hC (X.keeps kB).ns hga h1.1 h1.2 ⟨o, hx, hc, hnc, .inr ⟨d, hdt, I.ne, I.ns⟩⟩ (hF.2 k f u hk hu) ho (hq _)

theorem hall_make (X : ClsAt hB C N mN) (hlim : hB.NoLimit) {fI : Addr} {oI : Obj} {qual : Str} {params : Arguments} {l : List (Str × Pos × Pos × Pos × Pos)} {scope : Scope} {pm doc cdv : Value} (hi : mN "__init__" = some (.ref fI)) (hset : mN "__setattr__" = none)
    (ho : hB.get? fI = some oI) (hfc : oI.cls = .type "function") (hdat : oI.data = .func (methDef "__init__" qual params (ini l) scope pm cdv doc)) (hcd : hB.CodeRec cdv qual) {fields : List Str} (hl : l.map (·.1) = fields) (hlen : fields.length = 5) (hnd : fields.Nodup)
    (hok : ∀ f ∈ fields, FldOk scope mN f) (hself : scope.names.lookup ("self" : Str) = some .local)
    (hb : ∀ (x : Addr) (vs : List Value), vs.length = 5 → ∃ binds, bindArgs (methDef "__init__" qual params (ini l) scope pm cdv doc) ⟨.ref x :: vs, []⟩ = pure binds ∧ (∀ y ∈ binds, scope.names.lookup y.1 = some .local) ∧ binds.reverse.lookup ("self" : Str) = some (.ref x) ∧ ∀ (i : Nat) (f : Str) (v : Value), fields[i]? = some f → vs[i]? = some v → binds.reverse.lookup f = some v)
    (hco : scope.isCoroutine = false) (hgen : scope.isGenerator = false) (hk : scope.kind = .function) (hcell : ∀ x ∈ scope.names, x.2 ≠ .cell)
    (A : Around) (n : Nat) (s : Shared) (vs : List Value) (Q : Value → Shared → Prop) (E : Value → Shared → Prop) (R : Room A n) (kB : ∀ b o, hB.get? b = some o → s.heap.get? b = some o) (hvs : vs.length = 5)
    (hq : ∀ b d mA h' tk, s.heap.get? b = none → s.heap.get? d = none → InO h' C b d mA → hasF fields mA vs → (∀ c o, s.heap.get? c = some o → h'.get? c = some o) → Q (.ref b) { s with heap := h', toks := tk }) :
    wpAny (model prog w) A (call (.ref C) vs) Q E s := by
  obtain ⟨hh, g, d, t, os⟩ := s
  obtain ⟨nm, qn, bs, sn, sub, col, dd, k0', k1, k2, k3, k5, hC⟩ := (X.keeps kB).obj
  refine wpAny_call_obj_init PySem.F.objNew hC (X.keeps kB).ns hi (kB _ _ ho) hfc fun h' x dx Mk => ?_
  have kk : ∀ b o, hB.get? b = some o → h'.get? b = some o := fun b o e => Mk.keeps _ _ (kB b o e)
  obtain ⟨binds, hbind, hloc, hsv, hvv⟩ := hb x vs hvs
  obtain ⟨ox, hx, hcx, hncx, hdx⟩ := Mk.inst
  have hdd := Mk.dict ox hx
  obtain ⟨hne, hnsd⟩ : dx ≠ x ∧ h'.Ns1 dx fun _ => none := by
    rcases hdx with ⟨hn0, _⟩ | ⟨d', hd', hne', hns'⟩
    · rw [hn0] at hdd; cases hdd
    · obtain rfl := Option.some.inj (hd'.symm.trans hdd); exact ⟨hne', hns'⟩
  have hlt := R.depth
  have h5 : l.length = 5 := by (rw [← hlen]; rw [← hl]; rw [List.length_map])
  have hn0 : ∀ {a : Addr}, hh.get? a = none → hB.get? a = none := fun {a} e => by
    cases hq : hB.get? a with
    | none => rfl
    | some o => have := kB a o hq; rw [e] at this; cases this
  refine wpAny_call (codeAny_call_def (fd := methDef "__init__" qual params (ini l) scope pm cdv doc) (body := ini l) (binds := binds) (by show A.depth + 1 < _; walk_at "o") (kk _ _ ho) hdat (hlim.keeps kk) (hcd.keeps kk) rfl (.of_eq hbind) hcell hloc
    (fun h₁ hns hk₁ => ?_) hco hgen hk)
  refine ini_walk (H₀ := hh) (ms := fun y => binds.reverse.lookup y) X hset hk rfl hself hsv (hn0 Mk.newX) (hn0 Mk.newD) (fun z => by have := Heap.lt_size hx; rw [← z] at this; exact Nat.lt_irrefl _ this) (fun z => by have := hnsd.lt; rw [← z] at this; exact Nat.lt_irrefl _ this) Mk.newX Mk.newD l vs (fun _ => none) [] _ _ (by rw [hl]; exact hok) (by rw [hl]; exact hvv) (by (rw [hvs]; rw [← hlen]; rw [← hl]; rw [List.length_map])) (by rw [hl]; exact hnd)
    ⟨⟨ox, hk₁ _ _ hx, hcx, hdd, hncx⟩, hne, hnsd.keeps hk₁⟩ hns (fun b o e => hk₁ _ _ (kk b o e)) (fun b o e => hk₁ _ _ (Mk.keeps b o e)) Within.nil (by rw [h5]; decide) ?_
  intro h'' tk mA' J k' hn hm
  rw [hl] at hm
  exact ⟨rfl, hq x dx mA' h'' tk Mk.newX Mk.newD J ⟨by (rw [hlen]; rw [hvs]), hm⟩ k'⟩
end
end Mini

set_option autoImplicit false
set_option linter.unusedVariables false
namespace Mini
open PySem PyProof.Rows PySem.W

noncomputable def flds : List Str := ["gates", "rows", "done", "stages", "cells"]
theorem flds_ob : ∀ f ∈ flds, typeLookup (.type "object") f = pure none := by
  intro f hf
  simp only [flds, List.mem_cons, List.not_mem_nil, or_false] at hf
  rcases hf with rfl | rfl | rfl | rfl | rfl <;> ((rw [typeLookup_type]; rw [builtinLookup_eq_fast]); kernel_rfl)
noncomputable def ext : Stmt → Str × Pos × Pos × Pos × Pos
  | .Assign [.Attribute (.Name _ p) f q] (.Name _ r) t => (f, p, q, r, t)
  | _ => ("", ⟨0, 0, 0, 0⟩, ⟨0, 0, 0, 0⟩, ⟨0, 0, 0, 0⟩, ⟨0, 0, 0, 0⟩)
noncomputable def hallRec (p : Program) (loose : List Str) : ClsRec := ((plainsOf p loose).find? fun c => c.name == ("Hall" : Str)).getD ⟨"", none, [], [], 0, []⟩
noncomputable def hallIni (p : Program) (loose : List Str) : MethRec := (hallRec p loose).meths.headD ⟨"", ⟨[], [], none, [], [], none, []⟩, [], ⟨.function, [], false, false, []⟩⟩
noncomputable def hallOk (p : Program) (loose : List Str) : Bool :=
  ((plainsOf p loose).find? fun c => c.name == ("Hall" : Str)).isSome && !(hallRec p loose).meths.isEmpty && (hallIni p loose).name == ("__init__" : Str) &&
  (hallIni p loose).params.posonlyargs.isEmpty && (hallIni p loose).params.vararg.isNone && (hallIni p loose).params.kwonlyargs.isEmpty && (hallIni p loose).params.kwarg.isNone &&
  ((hallIni p loose).params.args.map (·.arg) == ("self" : Str) :: flds) && (((hallIni p loose).body.map ext).map (·.1) == flds) &&
  (hallIni p loose).scope.kind == .function && !(hallIni p loose).scope.isCoroutine && !(hallIni p loose).scope.isGenerator && (hallIni p loose).scope.names.all (fun q => q.2 != .cell) &&
  (("self" : Str) :: flds).all (fun f => (hallIni p loose).scope.names.lookup f == some .local) && flds.all (fun f => (hallRec p loose).statics.contains f)

inductive HallS (p : Program) (loose : List Str) : Prop
  | mk (o1 : ((plainsOf p loose).find? fun c => c.name == ("Hall" : Str)).isSome = true) (o2 : (!(hallRec p loose).meths.isEmpty) = true) (o3 : ((hallIni p loose).name == ("__init__" : Str)) = true) (o4 : (hallIni p loose).params.posonlyargs.isEmpty = true) (o5 : (hallIni p loose).params.vararg.isNone = true) (o6 : (hallIni p loose).params.kwonlyargs.isEmpty = true) (o7 : (hallIni p loose).params.kwarg.isNone = true) (o8 : ((hallIni p loose).params.args.map (·.arg) == ("self" : Str) :: flds) = true) (o9 : (((hallIni p loose).body.map ext).map (·.1) == flds) = true) (o10 : ((hallIni p loose).scope.kind == .function) = true) (o11 : (!(hallIni p loose).scope.isCoroutine) = true) (o12 : (!(hallIni p loose).scope.isGenerator) = true) (o13 : (hallIni p loose).scope.names.all (fun q => q.2 != .cell) = true) (o14 : (("self" : Str) :: flds).all (fun f => (hallIni p loose).scope.names.lookup f == some .local) = true) (o15 : flds.all (fun f => (hallRec p loose).statics.contains f) = true)
theorem hall_s {p : Program} {loose : List Str} (h : hallOk p loose = true) : HallS p loose := by
  simp only [hallOk, Bool.and_eq_true] at h
  obtain ⟨⟨⟨⟨⟨⟨⟨⟨⟨⟨⟨⟨⟨⟨o1, o2⟩, o3⟩, o4⟩, o5⟩, o6⟩, o7⟩, o8⟩, o9⟩, o10⟩, o11⟩, o12⟩, o13⟩, o14⟩, o15⟩ := h
  exact ⟨o1, o2, o3, o4, o5, o6, o7, o8, o9, o10, o11, o12, o13, o14, o15⟩
theorem zip_look {ns : List Str} {vs : List Value} (hn : ns.Nodup) (hl : ns.length = vs.length) : ∀ (i : Nat) (f : Str) (v : Value), ns[i]? = some f → vs[i]? = some v → (ns.zip vs).reverse.lookup f = some v := by
  intro i f v h1 h2
  have hm : (f, v) ∈ (ns.zip vs).reverse := by
    rw [List.mem_reverse]
    exact List.mem_of_getElem? (i := i) (by rw [List.getElem?_zip_eq_some]; exact ⟨h1, h2⟩)
  have hk : ((ns.zip vs).reverse.map (·.1)).Nodup := by
    (rw [List.map_reverse]; rw [List.map_fst_zip (by walk_at "o")])
    unfold List.Nodup
    rw [List.pairwise_reverse]
    exact List.Pairwise.imp (fun h => Ne.symm h) hn
  generalize (ns.zip vs).reverse = l at *
  induction l with
  | nil => cases hm
  | cons a l ih =>
    obtain ⟨k, u⟩ := a
    rw [List.map_cons, List.nodup_cons] at hk
    rw [List.lookup_cons]
    by_cases hf : f = k
    · subst hf
      rw [beq_self_eq_true]
      rcases List.mem_cons.mp hm with e | e
      · cases e; rfl
      · exact absurd (List.mem_map.mpr ⟨_, e, rfl⟩) hk.1
    · rw [beq_eq_false_iff_ne.mpr hf]
      rcases List.mem_cons.mp hm with e | e
      · cases e; exact absurd rfl hf
      · exact ih e hk.2

/-- the claim, of a text with the class Hall -/
theorem law_hall {l : OpenLaw} {p : Program} {loose : List Str} {w : World} {mean : ExcName → Option Value} {cl : Str → Option Addr} {mg mb : Str → Option Value} {s₁ : Shared} {consts : List (Str × Int)} {is : List Int} {vs : List Value} {a fa : Addr} {n li : Nat} {args : List WData} {prog : Program} {d : DefRec}
    (T : Top p loose mean mg mb s₁.heap) (TE : TopE p loose mg s₁.heap) (ok : textOk p loose (mkPg p consts "Hall" flds) = true) (hok : hallOk p loose = true) (hbody : (hallIni p loose).body = ini ((hallIni p loose).body.map ext))
    (hw : Well w.params s₁.heap (.ref a) (ofPy (.list (is.map .int)))) (hl : s₁.heap.IsList a vs.toArray) (hi : IntsAre vs is) (hlen : is.length ≤ 63) (hg : s₁.gens = #[])
    (hmg : mg d.name = some (.ref fa)) (hd : (recsOf p)[li]? = some d) (hn : n ≤ 40) (W : callW (phi p (mkPg p consts "Hall" flds)) n li [.ref 0] [is.map V.int] (fun v _ => v = .bool true) noX) :
    codeAny (model prog w) callerA (.call (.ref fa) ⟨[.ref a], []⟩) (GoodWG l.row.toRowW.claim cl mean args s₁) s₁ := by
  obtain ⟨o1, o2, o3, o4, o5, o6, o7, o8, o9, o10, o11, o12, o13, o14, o15⟩ := hall_s hok
  obtain ⟨c, hc⟩ := Option.isSome_iff_exists.mp o1
  have ec : hallRec p loose = c := by unfold hallRec; rw [hc]; rfl
  have hcn : c.name = "Hall" := beq_iff_eq.mp (List.find?_some (p := fun c : ClsRec => c.name == ("Hall" : Str)) hc)
  obtain ⟨C, N, mN, hC, P⟩ := TE c (List.mem_of_find?_eq_some hc)
  have hin : hallIni p loose ∈ c.withCmp.meths := by
    show hallIni p loose ∈ c.meths
    unfold hallIni
    rw [ec] at o2 ⊢
    cases hm : c.meths with
    | nil => rw [hm] at o2; cases o2
    | cons m ms => exact .head _
  generalize hallIni p loose = mI at *
  obtain ⟨mname, params, body, scope⟩ := mI
  obtain ⟨fI, oI, pm, cdv, doc, h1, h2, h3, h4, h5⟩ := P.meths _ hin
  have e3 : mname = "__init__" := beq_iff_eq.mp o3
  subst e3
  have e8 : params.args.map (·.arg) = ("self" : Str) :: flds := beq_iff_eq.mp o8
  have e9 : (body.map ext).map (·.1) = flds := beq_iff_eq.mp o9
  have hst : ∀ f ∈ flds, mN f = none := fun f hf => P.quiet f (List.mem_append_right _ (List.mem_append_left _ (by
    have := List.all_eq_true.mp o15 f hf
    rw [ec] at this
    exact List.contains_iff_mem.mp this)))
  have hloc : ∀ f ∈ ("self" : Str) :: flds, scope.names.lookup f = some .local := fun f hf => beq_iff_eq.mp (List.all_eq_true.mp o14 f hf)
  have hbody : body = ini (body.map ext) := hbody
  have hnd : (("self" : Str) :: flds).Nodup := by decide +kernel
  have pargs : params.args.length = 6 := by have := congrArg List.length e8; simpa [flds] using this
  rw [hbody] at h4
  refine enter (K := mkCtx prog p w s₁.heap mg mb (mkPg p consts "Hall" flds) C flds) (gr_of T ok (fun _ => hcn ▸ hC) (hall_attr P.cls (P.quiet _ (List.mem_append_left _ (.tail _ (.head _)))) fun f hf => ⟨hst f hf, flds_ob f hf⟩) (fun _ => ⟨N, mN, P.cls⟩)
    (fun _ => hall_make P.cls T.nolimit h1 (P.quiet _ (List.mem_append_left _ (.head _))) h2 h3 h4 h5 e9 rfl (List.nodup_cons.mp hnd).2 (fun f hf => ⟨hloc f (.tail _ hf), ?_, hst f hf, flds_ob f hf⟩) (hloc _ (.head _)) (fun x us hus => ?_) (by simpa using o11) (by simpa using o12) (by simpa using o10) (fun q hq => by simpa using List.all_eq_true.mp o13 q hq)))
    (fns_ok T) (fun _ => rfl) (fun z => absurd z (show ¬ ("Hall" : Str) = "" by decide)) rfl (script_obj hw hl) hi hlen hn (li := li) ?_ (fun s' h1 h2 h3 => good_ok l hg h1 h2 h3) W
  · have : ∀ f ∈ flds, (f == ("__debug__" : Str)) = false := by decide +kernel
    exact this f hf
  · refine ⟨_, bind_all (by simpa using o4) (by simpa using o5) (by simpa using o6) (by simpa using o7) (by simp [hus, pargs]) (by rw [e8]; exact hnd), ?_, ?_, ?_⟩
    · intro y hy
      exact hloc _ (by rw [← e8]; exact (List.of_mem_zip (a := y.1) (b := y.2) hy).1)
    · rw [e8]; exact zip_look hnd (by simp [flds, hus]) 0 _ _ rfl rfl
    · intro i f v hf hv
      rw [e8]
      exact zip_look hnd (by simp [flds, hus]) (i + 1) f v (by simpa using hf) (by simpa using hv)
  · have := (fa_of T hd).1
    rw [hmg] at this; cases this; rfl
end Mini

set_option autoImplicit false
set_option linter.unusedVariables false
namespace Mini

theorem forL_go {B : M → H → (M → H → Prop) → Prop} {xs : List Nat} {ok : H → Prop} {N : M → H → Prop} (I : Nat → M → H → Prop) :
    ∀ (its : List V) (k : Nat), (∀ i v m σ K, its[i]? = some v → I (k + i) m σ → (∀ m σ, I (k + i + 1) m σ → K m σ) → ok σ ∧ ∃ m', bindV xs m v = some m' ∧ B m' σ K) →
    (∀ m σ, I (k + its.length) m σ → ok σ ∧ N m σ) → ∀ m σ, I k m σ → forL B xs ok N its m σ
  | [], k, _, fin, m, σ, h => fin m σ h
  | v :: vs, k, step, fin, m, σ, h => by
    refine step 0 v m σ _ rfl h fun m σ h' => ?_
    refine forL_go I vs (k + 1) (fun i v m σ K e hi hK => step (i + 1) v m σ K (by simpa using e) (by rw [show k + (i + 1) = k + 1 + i by walk_at "o"]; exact hi) (fun m σ q => hK m σ (by rw [show k + 1 + i + 1 = k + (i + 1) + 1 by walk_at "o"]; exact q))) (fun m σ q => fin m σ (by rw [show k + (v :: vs).length = k + 1 + vs.length by simp; walk_at "o"]; exact q)) m σ h'
theorem forL_rule {B : M → H → (M → H → Prop) → Prop} {xs : List Nat} {ok : H → Prop} {N : M → H → Prop} (I : Nat → M → H → Prop) {its : List V} {m : M} {σ : H}
    (h0 : I 0 m σ) (step : ∀ i v m σ K, its[i]? = some v → I i m σ → (∀ m σ, I (i + 1) m σ → K m σ) → ok σ ∧ ∃ m', bindV xs m v = some m' ∧ B m' σ K)
    (fin : ∀ m σ, I its.length m σ → ok σ ∧ N m σ) : forL B xs ok N its m σ :=
  forL_go I its 0 (fun i v m σ K e hi hK => step i v m σ K e (by simpa using hi) (fun m σ q => hK m σ (by simpa using q))) (fun m σ q => fin m σ (by simpa using q)) m σ h0
theorem while_go {T : M → H → (Bool → H → Prop) → Prop} {B : M → H → (M → H → Prop) → Prop} {N : M → H → Prop} (I : Nat → M → H → Prop)
    (step : ∀ k m σ (K : M → H → Prop), I k m σ → (∀ j m σ, j < k → I j m σ → K m σ) → T m σ (fun b σ => if b then B m σ K else N m σ)) : ∀ n k m σ, k < n → I k m σ → whileN T B N n m σ
  | 0, _, _, _, h, _ => absurd h (Nat.not_lt_zero _)
  | n + 1, k, m, σ, h, hi => step k m σ _ hi fun j m σ hj hi' => while_go I step n j m σ (by walk_at "o") hi'
theorem while_rule {T : M → H → (Bool → H → Prop) → Prop} {B : M → H → (M → H → Prop) → Prop} {N : M → H → Prop} (I : Nat → M → H → Prop) {k : Nat} {m : M} {σ : H} (h0 : I k m σ)
    (step : ∀ k m σ (K : M → H → Prop), I k m σ → (∀ j m σ, j < k → I j m σ → K m σ) → T m σ (fun b σ => if b then B m σ K else N m σ)) : ∃ n, whileN T B N n m σ := ⟨k + 1, while_go I step (k + 1) k m σ (Nat.lt_succ_self _) h0⟩
theorem rangeV_get {n : Int} {i : Nat} {v : V} (h : (rangeV n)[i]? = some v) : v = .int i ∧ (i : Int) < n := by
  unfold rangeV at h
  rw [List.getElem?_map, Option.map_eq_some_iff] at h
  obtain ⟨j, h1, h2⟩ := h
  rw [List.getElem?_eq_some_iff] at h1
  obtain ⟨h3, h4⟩ := h1
  rw [List.getElem_range] at h4
  rw [List.length_range] at h3
  subst h4
  exact ⟨h2.symm, by walk_at "o"⟩
theorem e_eq {a b : Int} {σ : H} {Q : P} (h : Q (.bool (decide (a = b))) σ) : cmpop .eq (.int a) (.int b) σ Q := ⟨.int a, .int b, rfl, rfl, fun c hc => by
  have : c = decide (a = b) := by
    (rw [Bool.eq_iff_iff]; rw [hc]); simp
  rw [this]; exact h⟩
theorem e_ne {a b : Int} {σ : H} {Q : P} (h : Q (.bool (decide (a ≠ b))) σ) : cmpop .ne (.int a) (.int b) σ Q := ⟨.int a, .int b, rfl, rfl, fun c hc => by
  have : c = decide (a ≠ b) := by
    (rw [Bool.eq_iff_iff]; rw [hc]); simp
  rw [this]; exact h⟩
theorem e_seq {a b : Nat} {σ : H} {Q : P} (h : Q (.bool (decide (a = b))) σ) : cmpop .eq (.str a) (.str b) σ Q := ⟨.str a, .str b, rfl, rfl, fun c hc => by
  have : c = decide (a = b) := by
    (rw [Bool.eq_iff_iff]; rw [hc]); simp
  rw [this]; exact h⟩
theorem e_sne {a b : Nat} {σ : H} {Q : P} (h : Q (.bool (decide (a ≠ b))) σ) : cmpop .ne (.str a) (.str b) σ Q := ⟨.str a, .str b, rfl, rfl, fun c hc => by
  have : c = decide (a ≠ b) := by
    (rw [Bool.eq_iff_iff]; rw [hc]); simp
  rw [this]; exact h⟩
theorem e_rev {a : Nat} {σ : H} {Q : P} : me0 .reverse (.ref a) σ Q = ∃ xs, a ≠ 0 ∧ σ[a]? = some xs ∧ Q .none (σ.set a xs.reverse) := rfl
theorem e_app {a : Nat} {v : V} {σ : H} {Q : P} : me1 .append (.ref a) v σ Q = ∃ xs, a ≠ 0 ∧ σ[a]? = some xs ∧ xs.length < lim ∧ Q .none (σ.set a (xs ++ [v])) := rfl
theorem e_pop {a : Nat} {k : Int} {σ : H} {Q : P} : me1 .pop (.ref a) (.int k) σ Q = ∃ xs v, a ≠ 0 ∧ σ[a]? = some xs ∧ 0 ≤ k ∧ xs[k.toNat]? = some v ∧ Q v (σ.set a (xs.eraseIdx k.toNat)) := rfl
theorem rangeV_length (n : Int) : (rangeV n).length = n.toNat := by simp [rangeV]
theorem WSs_append {c : Cal} {B : List S} {x : X} {N : M → H → Prop} {Rt : P} : ∀ {A : List S} {m : M} {σ : H}, WSs c A x m σ (fun m σ => WSs c B x m σ N Rt) Rt → WSs c (A ++ B) x m σ N Rt
  | [], _, _, h => h
  | s :: A, m, σ, h => by
    have e : (fun m σ => WSs c (A ++ B) x m σ N Rt) = fun m σ => WSs c A x m σ (fun m σ => WSs c B x m σ N Rt) Rt := by
      funext m σ
      exact propext ⟨fun h => WSs_split h, fun h => WSs_append h⟩
    show WS c s x m σ (fun m σ => WSs c (A ++ B) x m σ N Rt) Rt
    rw [e]
    exact h
where
  WSs_split : ∀ {A : List S} {m : M} {σ : H}, WSs c (A ++ B) x m σ N Rt → WSs c A x m σ (fun m σ => WSs c B x m σ N Rt) Rt
    | [], _, _, h => h
    | s :: A, m, σ, h => by
      have e : (fun m σ => WSs c (A ++ B) x m σ N Rt) = fun m σ => WSs c A x m σ (fun m σ => WSs c B x m σ N Rt) Rt := by
        funext m σ
        exact propext ⟨fun h => WSs_split h, fun h => WSs_append h⟩
      have h : WS c s x m σ (fun m σ => WSs c (A ++ B) x m σ N Rt) Rt := h
      rw [e] at h
      exact h
end Mini

set_option autoImplicit false
set_option linter.unusedVariables false
namespace Mini
section
variable {c : Cal} {x : X} {m : M} {σ : H} {N : M → H → Prop} {R Q : P} {ss : List S} {K : Bool → H → Prop}

noncomputable def unK (m : M) (ys : List Nat) (L : M → H → Prop) : P := fun v σ => match v with
    | .tup vs => ∃ m', puts m ys vs = some m' ∧ L m' σ
    | _ => False
noncomputable def puK (m : M) (L : M → H → Prop) (v : V) (w k : V) (σ : H) : Prop := match w, k with
    | .ref a, .int k => ∃ xs, a ≠ 0 ∧ σ[a]? = some xs ∧ 0 ≤ k ∧ k < xs.length ∧ L m (σ.set a (xs.set k.toNat v))
    | _, _ => False
theorem s_nil (h : N m σ) : WSs c [] x m σ N R := h
theorem s_set {y : Nat} {e : E} (h : WE c x e m σ fun v σ => WSs c ss x (put m y v) σ N R) : WSs c (.set y e :: ss) x m σ N R := h
theorem s_unpack {ys : List Nat} {e : E} (h : WE c x e m σ (unK m ys fun m σ => WSs c ss x m σ N R)) : WSs c (.unpack ys e :: ss) x m σ N R := h
theorem s_unK {ys : List Nat} {L : M → H → Prop} {vs : List V} {m' : M} (e : puts m ys vs = some m') (h : L m' σ) : unK m ys L (.tup vs) σ := ⟨m', e, h⟩
theorem s_put {a i e : E} (h : WE c x e m σ fun v σ => WE c x a m σ fun w σ => WE c x i m σ fun k σ => puK m (fun m σ => WSs c ss x m σ N R) v w k σ) : WSs c (.put a i e :: ss) x m σ N R := h
theorem s_puK {L : M → H → Prop} {v : V} {a : Nat} {k : Int} {xs : List V} (ha : a ≠ 0) (hx : σ[a]? = some xs) (h0 : 0 ≤ k) (h1 : k < xs.length) (h : L m (σ.set a (xs.set k.toNat v))) : puK m L v (.ref a) (.int k) σ := ⟨xs, ha, hx, h0, h1, h⟩
theorem s_expr {e : E} (h : WE c x e m σ fun _ σ => WSs c ss x m σ N R) : WSs c (.expr e :: ss) x m σ N R := h
theorem s_ite {t : E} {a b : List S} (h : WT c x t m σ fun q σ => if q then WSs c a x m σ (fun m σ => WSs c ss x m σ N R) R else WSs c b x m σ (fun m σ => WSs c ss x m σ N R) R) : WSs c (.ite t a b :: ss) x m σ N R := h
theorem s_if1 {t : E} {a : List S} (h : WT c x t m σ fun q σ => if q then WSs c a x m σ (fun m σ => WSs c ss x m σ N R) R else WSs c ss x m σ N R) : WSs c (.ite t a [] :: ss) x m σ N R := h
theorem s_while {t : E} {b : List S} (h : ∃ n, whileN (fun m σ K => WT c x t m σ K) (fun m σ K => WSs c b x m σ K R) (fun m σ => WSs c ss x m σ N R) n m σ) : WSs c (.while t b :: ss) x m σ N R := h
theorem s_for {ys : List Nat} {s : Src} {b : List S} (h : WSrc c x s m σ fun its ok σ => forL (fun m σ K => WSs c b x m σ K R) ys ok (fun m σ => WSs c ss x m σ N R) its m σ) : WSs c (.for ys s b :: ss) x m σ N R := h
theorem s_ret {e : E} (h : WE c x e m σ R) : WSs c (.ret e :: ss) x m σ N R := h
end
noncomputable def atom (m : M) (e : E) : Option V := match e with
  | .var y => get m y
  | .int i => some (.int i)
  | .str k => some (.str k)
  | .bool b => some (.bool b)
  | .none => some .none
  | _ => .none
noncomputable def atoms (m : M) : List E → Option (List V)
  | [] => some []
  | e :: es => match atom m e with
    | some v => (match atoms m es with
      | some vs => some (v :: vs)
      | .none => .none)
    | .none => .none
theorem no_at {v : V} (h : (Option.none : Option V) = some v) : False := by cases h
theorem x_atom {c : Cal} {x : X} {m : M} {σ : H} {Q : P} {e : E} {v : V} (q : atom m e = some v) (h : Q v σ) : WE c x e m σ Q := by
  cases e with
  | var y => exact ⟨v, q, h⟩
  | int i => cases q; exact h
  | str i => cases q; exact h
  | bool i => cases q; exact h
  | none => cases q; exact h
  | _ => exact (no_at q).elim
theorem l_atoms {c : Cal} {x : X} {m : M} {σ : H} : ∀ {es : List E} {vs : List V} {K : List V → H → Prop}, atoms m es = some vs → K vs σ → WEs c x es m σ K
  | [], _, _, e, h => by cases e; exact h
  | e :: es, vs, K, q, h => by
    unfold atoms at q
    cases ha : atom m e with
    | none => rw [ha] at q; cases q
    | some v =>
      rw [ha] at q
      cases hb : atoms m es with
      | none => rw [hb] at q; cases q
      | some ws =>
        rw [hb] at q
        cases q
        exact x_atom ha (l_atoms (es := es) hb h)
section
variable {c : Cal} {x : X} {m : M} {σ : H} {N : M → H → Prop} {R Q : P} {ss : List S} {K : Bool → H → Prop}
theorem x_bin {o : Bin} {a b : E} (h : WE c x a m σ fun v σ => WE c x b m σ fun w σ => binop o v w σ Q) : WE c x (.bin o a b) m σ Q := h
theorem x_neg {i : Int} (h : Q (.int (-i)) σ) : WE c x (.neg (.int i)) m σ Q := h
theorem x_not {a : E} (h : WE c x a m σ (truthy fun b σ => Q (.bool (!b)) σ)) : WE c x (.not a) m σ Q := h
theorem x_and {a b : E} (h : WE c x a m σ (truthy fun t σ => if t then WE c x b m σ Q else Q (.bool false) σ)) : WE c x (.and a b) m σ Q := h
theorem x_or {a b : E} (h : WE c x a m σ (truthy fun t σ => if t then Q (.bool true) σ else WE c x b m σ Q)) : WE c x (.or a b) m σ Q := h
theorem x_cmp {o : Cmp} {a b : E} (h : WE c x a m σ fun v σ => WE c x b m σ fun w σ => cmpop o v w σ Q) : WE c x (.cmp o a b) m σ Q := h
theorem x_ite {t a b : E} (h : WT c x t m σ fun q σ => if q then WE c x a m σ Q else WE c x b m σ Q) : WE c x (.ite t a b) m σ Q := h
theorem x_call {f : Nat} {as : List E} (h : WEs c x as m σ fun vs σ => c f vs σ Q x) : WE c x (.call f as) m σ Q := h
theorem x_hall {as : List E} (h : WEs c x as m σ fun vs σ => vs.length = 5 ∧ Q (.inst vs) σ) : WE c x (.hall as) m σ Q := h
theorem x_b1 {f : B1} {a : E} (h : WE c x a m σ fun v σ => bi1 f v σ Q) : WE c x (.b1 f a) m σ Q := h
noncomputable def mxK (Q : P) (v w : V) (σ : H) : Prop := match v, w with
    | .int i, .int j => Q (.int (max i j)) σ
    | _, _ => False
noncomputable def lrK (Q : P) : P := fun v σ => match v with
    | .int n => (0 ≤ n ∧ n < 2 ^ 24) ∧ alloc (rangeV n) σ Q
    | _ => False
theorem x_isinst {a : E} {k : Kd} (h : WE c x a m σ fun v σ => ∃ b, isKd k v = some b ∧ Q (.bool b) σ) : WE c x (.isinst a k) m σ Q := h
theorem x_attr {a : E} {k : Nat} (h : WE c x a m σ fun v σ => field v k σ Q) : WE c x (.attr a k) m σ Q := h
theorem x_field {xs : List V} {k : Nat} {v : V} (e : xs[k]? = some v) (h : Q v σ) : field (.inst xs) k σ Q := ⟨v, e, h⟩
theorem x_idx {a b : E} (h : WE c x a m σ fun v σ => WE c x b m σ fun w σ => item v w σ Q) : WE c x (.idx a b) m σ Q := h
theorem x_item {a k : Nat} {xs : List V} {v : V} (hx : σ[a]? = some xs) (hv : xs[k]? = some v) (h : Q v σ) : item (.ref a) (.int k) σ Q := ⟨xs, v, hx, .inl ⟨by walk_at "o", by simpa using hv⟩, h⟩
theorem x_from {a b : E} (h : WE c x a m σ fun v σ => WE c x b m σ fun w σ => sliceFrom v w σ Q) : WE c x (.from_ a b) m σ Q := h
theorem x_upto {a b : E} (h : WE c x a m σ fun v σ => WE c x b m σ fun w σ => sliceTo v w σ Q) : WE c x (.upto a b) m σ Q := h
theorem x_disp {as : List E} (h : WEs c x as m σ fun vs σ => alloc vs σ Q) : WE c x (.disp as) m σ Q := h
theorem x_tup {as : List E} (h : WEs c x as m σ fun vs σ => Q (.tup vs) σ) : WE c x (.tup as) m σ Q := h
theorem x_m0 {f : M0} {a : E} (h : WE c x a m σ fun v σ => me0 f v σ Q) : WE c x (.m0 f a) m σ Q := h
theorem x_m1 {f : M1} {a b : E} (h : WE c x a m σ fun v σ => isRef v ∧ WE c x b m σ fun w σ => me1 f v w σ Q) : WE c x (.m1 f a b) m σ Q := h
theorem x_isRef {a : Nat} {p : Prop} (h : p) : isRef (.ref a) ∧ p := ⟨trivial, h⟩
theorem x_comp {e : E} {y : Nat} {s : Src} (h : WSrc c x s m σ fun its ok σ => compL (fun _ σ K => K true σ) (fun v σ Q => WE c x e (put m y v) σ Q) ok its [] σ Q) : WE c x (.comp e y s) m σ Q := h
theorem x_compIf {e t : E} {y : Nat} {s : Src} (h : WSrc c x s m σ fun its ok σ => compL (fun v σ K => WT c x t (put m y v) σ K) (fun v σ Q => WE c x e (put m y v) σ Q) ok its [] σ Q) : WE c x (.compIf e y s t) m σ Q := h

theorem t_not {a : E} (h : WT c x a m σ fun b σ => K (!b) σ) : WT c x (.not a) m σ K := h
theorem t_and {a b : E} (h : WT c x a m σ fun t σ => if t then WT c x b m σ K else K false σ) : WT c x (.and a b) m σ K := h
theorem t_or {a b : E} (h : WT c x a m σ fun t σ => if t then K true σ else WT c x b m σ K) : WT c x (.or a b) m σ K := h
theorem t_cmp {o : Cmp} {a b : E} (h : WE c x a m σ fun v σ => WE c x b m σ fun w σ => cmpop o v w σ (truthy K)) : WT c x (.cmp o a b) m σ K := h
theorem t_cmp2 {o p : Cmp} {a b d : E} (h : WE c x a m σ fun v σ => WE c x b m σ fun w σ => cmpop o v w σ (truthy fun t σ => if t then WE c x d m σ fun u σ => cmpop p w u σ (truthy K) else K false σ)) : WT c x (.cmp2 o a b p d) m σ K := h
theorem t_var {y : Nat} {v : V} (e : get m y = some v) (h : truthy K v σ) : WT c x (.var y) m σ K := ⟨v, e, h⟩
theorem t_call {f : Nat} {as : List E} (h : WEs c x as m σ fun vs σ => c f vs σ (truthy K) x) : WT c x (.call f as) m σ K := h
theorem t_isinst {a : E} {k : Kd} (h : WE c x a m σ fun v σ => ∃ b, isKd k v = some b ∧ K b σ) : WT c x (.isinst a k) m σ K := h
theorem x_kd {v : V} {k : Kd} {b : Bool} {L : Bool → Prop} (e : isKd k v = some b) (h : L b) : ∃ b, isKd k v = some b ∧ L b := ⟨b, e, h⟩
theorem l_cons {e : E} {es : List E} {K : List V → H → Prop} (h : WE c x e m σ fun v σ => WEs c x es m σ fun vs σ => K (v :: vs) σ) : WEs c x (e :: es) m σ K := h
section
variable {L : List V → (H → Prop) → H → Prop}
noncomputable def lsK (L : List V → (H → Prop) → H → Prop) : P := fun v σ => match v with
    | .ref a => ∃ xs, σ[a]? = some xs ∧ L xs (fun σ => σ[a]? = some xs) σ
    | _ => False
theorem r_list {a : E} (h : WE c x a m σ (lsK L)) : WSrc c x (.list a) m σ L := h
theorem r_lsK {a : Nat} {xs : List V} (hx : σ[a]? = some xs) (h : L xs (fun σ => σ[a]? = some xs) σ) : lsK L (.ref a) σ := ⟨xs, hx, h⟩
noncomputable def rgK (L : List V → (H → Prop) → H → Prop) : P := fun v σ => match v with
    | .int n => (0 ≤ n ∧ n < 2 ^ 24) ∧ L (rangeV n) (fun _ => True) σ
    | _ => False
theorem r_range {a : E} (h : WE c x a m σ (rgK L)) : WSrc c x (.range a) m σ L := h
theorem r_rgK {n : Int} (hn : 0 ≤ n ∧ n < 2 ^ 24) (h : L (rangeV n) (fun _ => True) σ) : rgK L (.int n) σ := ⟨hn, h⟩
noncomputable def enK (L : List V → (H → Prop) → H → Prop) : P := fun v σ => match v with
    | .ref a => ∃ xs, σ[a]? = some xs ∧ L (enumV 0 xs) (fun σ => σ[a]? = some xs) σ
    | _ => False
theorem r_enum {a : E} (h : WE c x a m σ (enK L)) : WSrc c x (.enum a) m σ L := h
theorem r_enK {a : Nat} {xs : List V} (hx : σ[a]? = some xs) (h : L (enumV 0 xs) (fun σ => σ[a]? = some xs) σ) : enK L (.ref a) σ := ⟨xs, hx, h⟩
end
theorem b_add {a b : Int} (h : Q (.int (a + b)) σ) : binop .add (.int a) (.int b) σ Q := h
theorem b_sub {a b : Int} (h : Q (.int (a - b)) σ) : binop .sub (.int a) (.int b) σ Q := h
theorem b_mul {a b : Int} (h1 : -(2 ^ 63) < b ∧ b < 2 ^ 63) (h : Q (.int (a * b)) σ) : binop .mul (.int a) (.int b) σ Q := ⟨h1, h⟩
theorem b_fdiv {a b : Int} (h1 : 0 < b ∧ b < 1073741824) (h : Q (.int (a / b)) σ) : binop .fdiv (.int a) (.int b) σ Q := ⟨h1, h⟩
theorem b_mod {a b : Int} (h1 : 0 < b) (h : Q (.int (a % b)) σ) : binop .mod (.int a) (.int b) σ Q := ⟨h1, h⟩
theorem c_lt {a b : Int} (h : Q (.bool (decide (a < b))) σ) : cmpop .lt (.int a) (.int b) σ Q := h
theorem c_le {a b : Int} (h : Q (.bool (decide (a ≤ b))) σ) : cmpop .le (.int a) (.int b) σ Q := h
theorem c_gt {a b : Int} (h : Q (.bool (decide (b < a))) σ) : cmpop .gt (.int a) (.int b) σ Q := h
theorem x_t0 {v : V} {r : List V} (h : Q v σ) : item (.tup (v :: r)) (.int 0) σ Q := ⟨by walk_at "o", v, rfl, h⟩
theorem x_t1 {u v : V} {r : List V} (h : Q v σ) : item (.tup (u :: v :: r)) (.int 1) σ Q := ⟨by walk_at "o", v, rfl, h⟩
theorem x_t2 {t u v : V} {r : List V} (h : Q v σ) : item (.tup (t :: u :: v :: r)) (.int 2) σ Q := ⟨by walk_at "o", v, rfl, h⟩
theorem a_disp {vs : List V} (e : Nat.ble vs.length 1000 = true) (h : Q (.ref σ.length) (σ ++ [vs])) : alloc vs σ Q := ⟨Nat.le_trans (Nat.le_of_ble_eq_true e) (by decide), h⟩
theorem b_len {a : Nat} {xs : List V} (hx : σ[a]? = some xs) (h : Q (.int xs.length) σ) : bi1 .len (.ref a) σ Q := ⟨xs, hx, h⟩
theorem b_lenE {a n : Nat} {xs : List V} (hx : σ[a]? = some xs) (e : xs.length = n) (h : Q (.int n) σ) : bi1 .len (.ref a) σ Q := ⟨xs, hx, by rw [e]; exact h⟩
theorem b_list {a : Nat} {xs : List V} (hx : σ[a]? = some xs) (hl : xs.length ≤ lim) (h : Q (.ref σ.length) (σ ++ [xs])) : bi1 .list (.ref a) σ Q := ⟨xs, hx, hl, h⟩
theorem x_it {a : Nat} {k : Int} {xs : List V} {v : V} (hx : σ[a]? = some xs) (hk : 0 ≤ k) (hv : xs[k.toNat]? = some v) (h : Q v σ) : item (.ref a) (.int k) σ Q := ⟨xs, v, hx, .inl ⟨hk, hv⟩, h⟩
theorem k_tru {b : Bool} (h : K b σ) : truthy K (.bool b) σ := h
theorem k_dec {p : Prop} [Decidable p] {A B : Prop} (h1 : p → A) (h2 : ¬ p → B) : if decide p = true then A else B := by
  by_cases h : p
  · simp only [h, decide_true, if_true]; exact h1 h
  · simp only [h, decide_false, Bool.false_eq_true, if_false]; exact h2 h
theorem k_yes {A B : Prop} (h : A) : if true = true then A else B := by simpa using h
theorem k_no {A B : Prop} (h : B) : if false = true then A else B := by simpa using h
theorem k_pos {p : Prop} [Decidable p] {A B : Prop} (hp : p) (h : A) : if decide p = true then A else B := k_dec (fun _ => h) (fun z => absurd hp z)
theorem k_neg {p : Prop} [Decidable p] {A B : Prop} (hp : ¬ p) (h : B) : if decide p = true then A else B := k_dec (fun z => absurd z hp) (fun _ => h)
theorem k_npos {p : Prop} [Decidable p] {A B : Prop} (hp : p) (h : B) : if (!decide p) = true then A else B := by simpa [hp] using h
theorem k_nyes {A B : Prop} (h : B) : if (!true) = true then A else B := by simpa using h
theorem k_nno {A B : Prop} (h : A) : if (!false) = true then A else B := by simpa using h
end
section
variable {c : Cal} {x : X} {m : M} {σ : H} {N : M → H → Prop} {R Q : P} {ss : List S} {K : Bool → H → Prop} {a b : E} {v w : V} {as : List E} {vs : List V}
theorem x_idxA (p : atom m a = some v) (q : atom m b = some w) (h : item v w σ Q) : WE c x (.idx a b) m σ Q := x_idx (x_atom p (x_atom q h))
theorem x_binA {o : Bin} (p : atom m a = some v) (q : atom m b = some w) (h : binop o v w σ Q) : WE c x (.bin o a b) m σ Q := x_bin (x_atom p (x_atom q h))
theorem t_cmpA {o : Cmp} (p : atom m a = some v) (q : atom m b = some w) (h : cmpop o v w σ (truthy K)) : WT c x (.cmp o a b) m σ K := t_cmp (x_atom p (x_atom q h))
theorem x_cmpA {o : Cmp} (p : atom m a = some v) (q : atom m b = some w) (h : cmpop o v w σ Q) : WE c x (.cmp o a b) m σ Q := x_cmp (x_atom p (x_atom q h))
theorem x_b1A {f : B1} (p : atom m a = some v) (h : bi1 f v σ Q) : WE c x (.b1 f a) m σ Q := x_b1 (x_atom p h)
theorem x_callA {f : Nat} (p : atoms m as = some vs) (h : c f vs σ Q x) : WE c x (.call f as) m σ Q := x_call (l_atoms p h)
theorem t_callA {f : Nat} (p : atoms m as = some vs) (h : c f vs σ (truthy K) x) : WT c x (.call f as) m σ K := t_call (l_atoms p h)
theorem x_dispA (p : atoms m as = some vs) (e : Nat.ble vs.length 1000 = true) (h : Q (.ref σ.length) (σ ++ [vs])) : WE c x (.disp as) m σ Q := x_disp (l_atoms p (a_disp e h))
theorem x_tupA (p : atoms m as = some vs) (h : Q (.tup vs) σ) : WE c x (.tup as) m σ Q := x_tup (l_atoms p h)
theorem s_retA (p : atom m a = some v) (h : R v σ) : WSs c (.ret a :: ss) x m σ N R := s_ret (x_atom p h)
theorem s_setA {y : Nat} (p : atom m a = some v) (h : WSs c ss x (put m y v) σ N R) : WSs c (.set y a :: ss) x m σ N R := s_set (x_atom p h)
theorem x_attrF {k : Nat} {xs : List V} (p : atom m a = some (.inst xs)) (e : xs[k]? = some v) (h : Q v σ) : WE c x (.attr a k) m σ Q := x_attr (x_atom p (x_field e h))
theorem r_listA {L : List V → (H → Prop) → H → Prop} (p : atom m a = some v) (h : lsK L v σ) : WSrc c x (.list a) m σ L := r_list (x_atom p h)
end
end Mini

set_option autoImplicit false
set_option linter.unusedVariables false
namespace Mini
/-- the heap has grown -/
noncomputable def Ex (σ σ' : H) : Prop := ∃ τ, σ' = σ ++ τ
theorem Ex.refl {σ : H} : Ex σ σ := ⟨[], by simp⟩
theorem Ex.trans {a b c : H} (h : Ex a b) (k : Ex b c) : Ex a c := by
  obtain ⟨t, rfl⟩ := h; obtain ⟨u, rfl⟩ := k; exact ⟨t ++ u, by simp⟩
theorem Ex.one {σ : H} {xs : List V} : Ex σ (σ ++ [xs]) := ⟨_, rfl⟩
theorem Ex.get {σ σ' : H} (h : Ex σ σ') {a : Nat} {xs : List V} (k : σ[a]? = some xs) : σ'[a]? = some xs := by
  obtain ⟨t, rfl⟩ := h
  rw [List.getElem?_append_left (List.getElem?_eq_some_iff.mp k).1]; exact k
theorem Ex.len {σ σ' : H} (h : Ex σ σ') : σ.length ≤ σ'.length := by
  obtain ⟨t, rfl⟩ := h; simp
theorem Ex.pos {σ σ' : H} (h : Ex σ σ') (k : 0 < σ.length) : 0 < σ'.length := Nat.lt_of_lt_of_le k h.len
theorem Ex.set {σ σ' : H} (h : Ex σ σ') {a : Nat} {xs : List V} (k : σ.length ≤ a) : Ex σ (σ'.set a xs) := by
  obtain ⟨t, rfl⟩ := h
  exact ⟨t.set (a - σ.length) xs, by rw [List.set_append_right _ _ k]⟩
theorem last_get {σ : H} {xs : List V} : (σ ++ [xs])[σ.length]? = some xs := by simp
theorem lt_of_get {α : Type} {σ : List α} {a : Nat} {xs : α} (k : σ[a]? = some xs) : a < σ.length := (List.getElem?_eq_some_iff.mp k).1
theorem get_set_ne {σ : H} {a b : Nat} {xs ys : List V} (h : a ≠ b) (k : σ[b]? = some ys) : (σ.set a xs)[b]? = some ys := by
  rw [List.getElem?_set_ne h]; exact k
theorem get_set_eq {σ : H} {a : Nat} {xs : List V} (h : a < σ.length) : (σ.set a xs)[a]? = some xs := by
  rw [List.getElem?_set_self h]

/-- two lists, place by place -/
structure A2 {α β : Type} (R : α → β → Prop) (xs : List α) (ys : List β) : Prop where
  len : xs.length = ys.length
  at_ : ∀ {i : Nat} {x : α} {y : β}, xs[i]? = some x → ys[i]? = some y → R x y
section
variable {α β : Type} {R R' : α → β → Prop} {xs : List α} {ys : List β}
theorem A2.mono (h : A2 R xs ys) (k : ∀ x y, R x y → R' x y) : A2 R' xs ys := ⟨h.len, fun a b => k _ _ (h.at_ a b)⟩
theorem A2.nil : A2 R [] [] := ⟨rfl, fun h => by simp at h⟩
theorem A2.snoc {x : α} {y : β} (h : A2 R xs ys) (k : R x y) : A2 R (xs ++ [x]) (ys ++ [y]) := ⟨by simp [h.len], fun {i a b} h1 h2 => by
  have hl := h.len
  rcases Nat.lt_trichotomy i xs.length with hi | hi | hi
  · rw [List.getElem?_append_left hi] at h1
    rw [List.getElem?_append_left (by walk_at "o")] at h2
    exact h.at_ h1 h2
  · subst hi
    rw [List.getElem?_append_right (Nat.le_refl _)] at h1
    rw [hl, List.getElem?_append_right (Nat.le_refl _)] at h2
    simp at h1 h2
    subst h1 h2; exact k
  · have := lt_of_get h1
    simp at this; walk_at "o"⟩
theorem A2.right (h : A2 R xs ys) {i : Nat} {y : β} (k : ys[i]? = some y) : ∃ x, xs[i]? = some x ∧ R x y := by
  have := lt_of_get k
  have hi : i < xs.length := by rw [h.len]; exact this
  exact ⟨xs[i], by simp [hi], h.at_ (by simp [hi]) k⟩
theorem A2.left (h : A2 R xs ys) {i : Nat} {x : α} (k : xs[i]? = some x) : ∃ y, ys[i]? = some y ∧ R x y := by
  have := lt_of_get k
  have hi : i < ys.length := by rw [← h.len]; exact this
  exact ⟨ys[i], by simp [hi], h.at_ k (by simp [hi])⟩
end

theorem compL_go {F : V → H → P → Prop} {ok : H → Prop} {Q : P} (I : Nat → List V → H → Prop) :
    ∀ (its acc : List V) (σ : H) (k : Nat), acc.length = k → k + its.length ≤ lim → (∀ i v acc σ K, its[i]? = some v → acc.length = k + i → I (k + i) acc σ → (∀ r σ', I (k + i + 1) (acc ++ [r]) σ' → K r σ') → ok σ ∧ F v σ K) →
    (∀ acc σ, acc.length = k + its.length → I (k + its.length) acc σ → ok σ ∧ Q (.ref σ.length) (σ ++ [acc])) → I k acc σ → compL (fun _ σ K => K true σ) F ok its acc σ Q
  | [], acc, σ, k, hl, hn, step, fin, h => ⟨(fin acc σ hl h).1, by rw [hl]; simpa using hn, (fin acc σ hl h).2⟩
  | v :: vs, acc, σ, k, hl, hn, step, fin, h => by
    simp only [List.length_cons] at hn
    obtain ⟨h1, h2⟩ := step 0 v acc σ _ (by rfl) hl h (fun r σ' h' => show acc.length < lim ∧ compL (fun _ σ K => K true σ) F ok vs (acc ++ [r]) σ' Q from ⟨by walk_at "o", compL_go I vs (acc ++ [r]) σ' (k + 1) (by simp [hl]) (by walk_at "o") (fun i v acc σ K e hl hi hK => step (i + 1) v acc σ K (by simpa using e) (by walk_at "o") (by rw [show k + (i + 1) = k + 1 + i by walk_at "o"]; exact hi) (fun r σ q => hK r σ (by rw [show k + 1 + i + 1 = k + (i + 1) + 1 by walk_at "o"]; exact q))) (fun acc σ hl q => fin acc σ (by simp only [List.length_cons]; walk_at "o") (by rw [show k + (v :: vs).length = k + 1 + vs.length by simp only [List.length_cons]; walk_at "o"]; exact q)) h'⟩)
    exact ⟨h1, by simpa using h2⟩
theorem comp_rule {F : V → H → P → Prop} {ok : H → Prop} {Q : P} (I : Nat → List V → H → Prop) {its : List V} {σ : H} (hn : its.length ≤ lim) (h0 : I 0 [] σ)
    (step : ∀ i v acc σ K, its[i]? = some v → acc.length = i → I i acc σ → (∀ r σ', I (i + 1) (acc ++ [r]) σ' → K r σ') → ok σ ∧ F v σ K)
    (fin : ∀ acc σ, acc.length = its.length → I its.length acc σ → ok σ ∧ Q (.ref σ.length) (σ ++ [acc])) : compL (fun _ σ K => K true σ) F ok its [] σ Q :=
  compL_go I its [] σ 0 rfl (by simpa using hn) (fun i v acc σ K e hl hi hK => step i v acc σ K e (by simpa using hl) (by simpa using hi) (fun r σ q => hK r σ (by simpa using q))) (fun acc σ hl q => fin acc σ (by simpa using hl) (by simpa using q)) h0

noncomputable def nv (n : Nat) : V := .int n
theorem nv_get {l : List Nat} {i : Nat} {v : V} (h : (l.map nv)[i]? = some v) : ∃ t, l[i]? = some t ∧ v = .int t := by
  rw [List.getElem?_map, Option.map_eq_some_iff] at h
  obtain ⟨t, h1, h2⟩ := h
  exact ⟨t, h1, h2.symm⟩
theorem get_nv {l : List Nat} {i t : Nat} (h : l[i]? = some t) : (l.map nv)[i]? = some (.int t) := by
  (rw [List.getElem?_map]; rw [h]); rfl

inductive Cell where
  | cnt (left side : Int)
  | row (b : List (List Int))
structure Hl where
  gates : List (Nat × List Nat)
  rows : List (List Nat)
  done : List Nat
  stages : List (Nat × Nat)
  cells : List Cell
noncomputable def stV (s : Nat × Nat) : V := .tup [.str s.1, .int s.2]
noncomputable def Hl.gate (h : Hl) (g : Nat) : Nat × List Nat := h.gates.getD g (0, [])
noncomputable def Hl.row (h : Hl) (w : Nat) : List Nat := h.rows.getD w []
noncomputable def Hl.dn (h : Hl) (w : Nat) : Nat := h.done.getD w 0
noncomputable def Hl.stg (h : Hl) (w : Nat) : Nat × Nat := h.stages.getD w (10, 0)
noncomputable def Hl.cell (h : Hl) (g : Nat) : Cell := h.cells.getD g (.cnt 0 0)
noncomputable def Hl.at_ (h : Hl) (w : Nat) : Nat := (h.row w).getD (h.dn w) 0
theorem getD_of {α : Type} {l : List α} {i : Nat} {x d : α} (h : l[i]? = some x) : l.getD i d = x := by
  (rw [List.getD_eq_getElem?_getD]; rw [h]); rfl
theorem get_of_lt {α : Type} {l : List α} {i : Nat} {d : α} (h : i < l.length) : l[i]? = some (l.getD i d) := by
  (rw [List.getD_eq_getElem?_getD]; rw [List.getElem?_eq_getElem h]); rfl

/-- a list of numbers at a place below n -/
noncomputable def RowR (n : Nat) (σ : H) (v : V) (l : List Nat) : Prop := ∃ a, v = .ref a ∧ a < n ∧ σ[a]? = some (l.map nv)
noncomputable def GateR (n : Nat) (σ : H) (v : V) (g : Nat × List Nat) : Prop := ∃ a, v = .tup [.str g.1, .ref a] ∧ a < n ∧ σ[a]? = some (g.2.map nv)
noncomputable def BoxR (σ : H) (a : Nat) (l : List Int) : Prop := σ[a]? = some (l.map V.int)
/-- a gate's cells, and the places that they take -/
noncomputable def CellR (σ : H) : V → Cell → List Nat → Prop
  | v, .cnt l s, f => ∃ a, v = .ref a ∧ f = [a] ∧ σ[a]? = some [.int l, .int s]
  | v, .row b, f => ∃ a as, v = .ref a ∧ f = a :: as ∧ σ[a]? = some (as.map V.ref) ∧ A2 (BoxR σ) as b
theorem CellR.ex {σ σ' : H} (e : Ex σ σ') {v : V} : ∀ {c : Cell} {f : List Nat}, CellR σ v c f → CellR σ' v c f
  | .cnt l s, f, ⟨a, h1, h2, h3⟩ => ⟨a, h1, h2, e.get h3⟩
  | .row b, f, ⟨a, as, h1, h2, h3, h4⟩ => ⟨a, as, h1, h2, e.get h3, h4.mono fun x y k => e.get k⟩
theorem CellR.set {σ : H} {a : Nat} {xs : List V} {v : V} : ∀ {c : Cell} {f : List Nat}, CellR σ v c f → a ∉ f → CellR (σ.set a xs) v c f
  | .cnt l s, f, ⟨b, h1, h2, h3⟩, k => ⟨b, h1, h2, get_set_ne (fun z => k (by subst h2 z; simp)) h3⟩
  | .row b, f, ⟨c, as, h1, h2, h3, h4⟩, k => ⟨c, as, h1, h2, get_set_ne (fun z => k (by subst h2 z; simp)) h3, ⟨h4.len, fun {i x y} p q => get_set_ne (fun z => k (by subst h2 z; exact List.mem_cons_of_mem _ (List.mem_of_getElem? p))) (h4.at_ p q)⟩⟩
/-- the cells of all gates -/
structure CellsR (σ : H) (vs : List V) (cs : List Cell) (fs : List (List Nat)) : Prop where
  l1 : vs.length = cs.length
  l2 : fs.length = cs.length
  at_ : ∀ {i : Nat} {v : V} {c : Cell} {f : List Nat}, vs[i]? = some v → cs[i]? = some c → fs[i]? = some f → CellR σ v c f
/-- a hall that the function at hand has made itself: nothing else lies at the places that may change -/
structure Own (n : Nat) (σ : H) (g r d s c : Nat) (cv : List V) (fs : List (List Nat)) (h : Hl) : Prop where
  gates : ∃ gv, σ[g]? = some gv ∧ g < n ∧ A2 (GateR n σ) gv h.gates
  rows : ∃ rv, σ[r]? = some rv ∧ r < n ∧ A2 (RowR n σ) rv h.rows
  done : σ[d]? = some (h.done.map nv)
  stages : σ[s]? = some (h.stages.map stV)
  cells : σ[c]? = some cv
  cellsR : CellsR σ cv h.cells fs
  nodup : (d :: s :: c :: fs.flatten).Nodup
  ge : ∀ a ∈ d :: s :: c :: fs.flatten, n ≤ a
/-- what a hall is -/
structure Rep' (σ : H) (g r d s c : Nat) (h : Hl) : Prop where
  gates : ∃ gv, σ[g]? = some gv ∧ A2 (GateR σ.length σ) gv h.gates
  rows : ∃ rv, σ[r]? = some rv ∧ A2 (RowR σ.length σ) rv h.rows
  done : σ[d]? = some (h.done.map nv)
  stages : σ[s]? = some (h.stages.map stV)
  cells : ∃ cv fs, σ[c]? = some cv ∧ CellsR σ cv h.cells fs
noncomputable def Rep (σ : H) (v : V) (h : Hl) : Prop := ∃ g r d s c, v = .inst [.ref g, .ref r, .ref d, .ref s, .ref c] ∧ Rep' σ g r d s c h
theorem RowR.ex {n n' : Nat} {σ σ' : H} (e : Ex σ σ') (k : n ≤ n') {v : V} {l : List Nat} : RowR n σ v l → RowR n' σ' v l
  | ⟨a, h1, h2, h3⟩ => ⟨a, h1, by walk_at "o", e.get h3⟩
theorem GateR.ex {n n' : Nat} {σ σ' : H} (e : Ex σ σ') (k : n ≤ n') {v : V} {g : Nat × List Nat} : GateR n σ v g → GateR n' σ' v g
  | ⟨a, h1, h2, h3⟩ => ⟨a, h1, by walk_at "o", e.get h3⟩
theorem RowR.set {n a : Nat} {σ : H} {xs : List V} (k : n ≤ a) {v : V} {l : List Nat} : RowR n σ v l → RowR n (σ.set a xs) v l
  | ⟨b, h1, h2, h3⟩ => ⟨b, h1, h2, get_set_ne (by walk_at "o") h3⟩
theorem GateR.set {n a : Nat} {σ : H} {xs : List V} (k : n ≤ a) {v : V} {g : Nat × List Nat} : GateR n σ v g → GateR n (σ.set a xs) v g
  | ⟨b, h1, h2, h3⟩ => ⟨b, h1, h2, get_set_ne (by walk_at "o") h3⟩
theorem CellsR.ex {σ σ' : H} (e : Ex σ σ') {vs : List V} {cs : List Cell} {fs : List (List Nat)} (h : CellsR σ vs cs fs) : CellsR σ' vs cs fs := ⟨h.l1, h.l2, fun a b c => (h.at_ a b c).ex e⟩
theorem Rep'.ex {σ σ' : H} (e : Ex σ σ') {g r d s c : Nat} {h : Hl} (k : Rep' σ g r d s c h) : Rep' σ' g r d s c h := by
  obtain ⟨⟨gv, a1, a2⟩, ⟨rv, b1, b2⟩, h3, h4, ⟨cv, fs, c1, c2⟩⟩ := k
  exact ⟨⟨gv, e.get a1, a2.mono fun _ _ q => q.ex e e.len⟩, ⟨rv, e.get b1, b2.mono fun _ _ q => q.ex e e.len⟩, e.get h3, e.get h4, cv, fs, e.get c1, c2.ex e⟩
section
variable {n : Nat} {σ : H} {g r d s c : Nat} {cv : List V} {fs : List (List Nat)} {h : Hl}
theorem Own.rep (o : Own n σ g r d s c cv fs h) : Rep' σ g r d s c h := by
  obtain ⟨⟨gv, a1, a2, a3⟩, ⟨rv, b1, b2, b3⟩, h3, h4, h5, h6, h7, h8⟩ := o
  have hn : n ≤ σ.length := Nat.le_trans (h8 d (by simp)) (Nat.le_of_lt (lt_of_get h3))
  exact ⟨⟨gv, a1, a3.mono fun _ _ q => q.ex Ex.refl hn⟩, ⟨rv, b1, b3.mono fun _ _ q => q.ex Ex.refl hn⟩, h3, h4, cv, fs, h5, h6⟩
theorem mem_flat {f : List Nat} {i a : Nat} (h : fs[i]? = some f) (k : a ∈ f) : a ∈ fs.flatten := List.mem_flatten.mpr ⟨f, List.mem_of_getElem? h, k⟩
theorem Own.setStage (o : Own n σ g r d s c cv fs h) {w : Nat} {t : Nat × Nat} : Own n (σ.set s ((h.stages.map stV).set w (stV t))) g r d s c cv fs { h with stages := h.stages.set w t } := by
  obtain ⟨⟨gv, a1, a2, a3⟩, ⟨rv, b1, b2, b3⟩, h3, h4, h5, h6, h7, h8⟩ := o
  have hs := h8 s (by simp)
  have n1 := List.nodup_cons.mp h7
  have n2 := List.nodup_cons.mp n1.2
  have e1 : s ≠ d := fun z => n1.1 (by simp [z])
  have e2 : s ≠ c := fun z => n2.1 (by simp [z])
  have e3 : s ∉ fs.flatten := fun z => n2.1 (by simp [z])
  refine ⟨⟨gv, get_set_ne (by walk_at "o") a1, a2, a3.mono fun _ _ q => q.set hs⟩, ⟨rv, get_set_ne (by walk_at "o") b1, b2, b3.mono fun _ _ q => q.set hs⟩, get_set_ne e1 h3, ?_, get_set_ne e2 h5, ⟨h6.l1, h6.l2, fun a b k => (h6.at_ a b k).set fun z => e3 (mem_flat k z)⟩, h7, h8⟩
  (rw [get_set_eq (lt_of_get h4)]; rw [List.map_set])
theorem Own.setDone (o : Own n σ g r d s c cv fs h) {w t : Nat} : Own n (σ.set d ((h.done.map nv).set w (nv t))) g r d s c cv fs { h with done := h.done.set w t } := by
  obtain ⟨⟨gv, a1, a2, a3⟩, ⟨rv, b1, b2, b3⟩, h3, h4, h5, h6, h7, h8⟩ := o
  have hs := h8 d (by simp)
  have n1 := List.nodup_cons.mp h7
  have e1 : d ≠ s := fun z => n1.1 (by simp [z])
  have e2 : d ≠ c := fun z => n1.1 (by simp [z])
  have e3 : d ∉ fs.flatten := fun z => n1.1 (by simp [z])
  refine ⟨⟨gv, get_set_ne (by walk_at "o") a1, a2, a3.mono fun _ _ q => q.set hs⟩, ⟨rv, get_set_ne (by walk_at "o") b1, b2, b3.mono fun _ _ q => q.set hs⟩, ?_, get_set_ne e1 h4, get_set_ne e2 h5, ⟨h6.l1, h6.l2, fun a b k => (h6.at_ a b k).set fun z => e3 (mem_flat k z)⟩, h7, h8⟩
  (rw [get_set_eq (lt_of_get h3)]; rw [List.map_set])
theorem flat_apart {fs : List (List Nat)} (h : fs.flatten.Nodup) {i j a : Nat} {f f' : List Nat} (h1 : fs[i]? = some f) (h2 : fs[j]? = some f') (k1 : a ∈ f) (k2 : a ∈ f') : i = j := by
  induction fs generalizing i j with
  | nil => simp at h1
  | cons x xs ih =>
    rw [List.flatten_cons, List.nodup_append] at h
    cases i with
    | zero =>
      cases j with
      | zero => rfl
      | succ j =>
        simp at h1 h2; subst h1
        exact absurd rfl (h.2.2 a k1 a (mem_flat h2 k2))
    | succ i =>
      cases j with
      | zero =>
        simp at h1 h2; subst h2
        exact absurd rfl (h.2.2 a k2 a (mem_flat h1 k1))
      | succ j => exact congrArg (· + 1) (ih h.2.1 (by simpa using h1) (by simpa using h2))
theorem Own.setCell (o : Own n σ g r d s c cv fs h) {i a : Nat} {f : List Nat} {v : V} {cl : Cell} {xs : List V} (hf : fs[i]? = some f) (ha : a ∈ f) (hv : cv[i]? = some v) (hc : CellR (σ.set a xs) v cl f) : Own n (σ.set a xs) g r d s c cv fs { h with cells := h.cells.set i cl } := by
  obtain ⟨⟨gv, a1, a2, a3⟩, ⟨rv, b1, b2, b3⟩, h3, h4, h5, h6, h7, h8⟩ := o
  have hm := mem_flat hf ha
  have hs := h8 a (by simp [hm])
  have n1 := List.nodup_cons.mp h7
  have n2 := List.nodup_cons.mp n1.2
  have n3 := List.nodup_cons.mp n2.2
  have e1 : a ≠ d := fun z => n1.1 (by subst z; simp [hm])
  have e2 : a ≠ s := fun z => n2.1 (by subst z; simp [hm])
  have e3 : a ≠ c := fun z => n3.1 (by subst z; simp [hm])
  refine ⟨⟨gv, get_set_ne (by walk_at "o") a1, a2, a3.mono fun _ _ q => q.set hs⟩, ⟨rv, get_set_ne (by walk_at "o") b1, b2, b3.mono fun _ _ q => q.set hs⟩, get_set_ne e1 h3, get_set_ne e2 h4, get_set_ne e3 h5, ⟨by simpa using h6.l1, by simpa using h6.l2, fun {j v' c' f'} p q k => ?_⟩, h7, h8⟩
  by_cases hij : i = j
  · subst hij
    have hl : i < h.cells.length := by rw [← h6.l2]; exact lt_of_get hf
    have q : (h.cells.set i cl)[i]? = some c' := q
    rw [List.getElem?_set_self hl] at q
    rw [hv] at p; rw [hf] at k
    cases p; cases k; cases q
    exact hc
  · have q : (h.cells.set i cl)[j]? = some c' := q
    rw [List.getElem?_set_ne hij] at q
    exact (h6.at_ p q k).set fun z => hij (flat_apart n3.2 hf k ha z)
end
end Mini

set_option autoImplicit false
set_option linter.unusedVariables false


namespace Mini
set_option genInjectivity false in
set_option genSizeOfSpec false in
structure Ix where
  power : Nat
  rounds : Nat
  partner : Nat
  checkGate : Nat
  checkRow : Nat
  fresh : Nat
  firstWord : Nat
  begun : Nat
  copied : Nat
  twin : Nat
  needWalker : Nat
  needGate : Nat
  passed : Nat
  came : Nat
  boxes : Nat
  ahead : Nat
  timeOf : Nat
  signOf : Nat
  boxOf : Nat
  vain : Nat
  counted : Nat
  rowed : Nat
  through : Nat
  stepped : Nat
noncomputable def gPower : Fn := ⟨1, 6, [
  .set 1 (.int (1)),
  .for [2] (.range (.var 0)) [
    .set 1 (.bin .mul (.var 1) (.int (2)))],
  .ret (.var 1)]⟩
noncomputable def gRounds (ix : Ix) : Fn := ⟨1, 5, [
  .set 1 (.int (0)),
  .while (.cmp .lt (.call ix.power [(.var 1)]) (.var 0)) [
    .set 1 (.bin .add (.var 1) (.int (1)))],
  .ret (.var 1)]⟩
noncomputable def gPartner (ix : Ix) : Fn := ⟨3, 6, [
  .ret (.bin .mod (.bin .add (.var 0) (.call ix.power [(.var 1)])) (.var 2))]⟩
noncomputable def gCheckGate : Fn := ⟨2, 9, [
  .unpack [2, 3] (.var 0),
  .ite (.or (.cmp .notIn (.var 2) (.tup [(.str 0), (.str 1)])) (.cmp .eq (.b1 .len (.var 3)) (.int (0)))) [
    .raise 0] [],
  .for [4, 5] (.enum (.var 3)) [
    .ite (.or (.not (.cmp2 .le (.int (0)) (.var 5) .lt (.var 1))) (.cmp .inn (.var 5) (.upto (.var 3) (.var 4)))) [
      .raise 0] []]]⟩
noncomputable def gCheckRow : Fn := ⟨3, 7, [
  .ite (.cmp .gt (.b1 .len (.var 1)) (.int (40))) [
    .raise 0] [],
  .for [3] (.list (.var 1)) [
    .ite (.not (.cmp2 .le (.int (0)) (.var 3) .lt (.b1 .len (.var 2)))) [
      .raise 0] [],
    .ite (.cmp .notIn (.var 0) (.idx (.idx (.var 2) (.var 3)) (.int (1)))) [
      .raise 0] []]]⟩
noncomputable def gFresh (ix : Ix) : Fn := ⟨1, 7, [
  .unpack [1, 2] (.var 0),
  .set 3 (.b1 .len (.var 2)),
  .ite (.cmp .eq (.var 1) (.str 0)) [
    .ret (.disp [(.var 3), (.int (0))])] [],
  .ret (.comp (.bin .mul (.disp [(.int (0))]) (.bin .mul (.int (2)) (.call ix.rounds [(.var 3)]))) 4 (.list (.var 2)))]⟩
noncomputable def gFirstWord : Fn := ⟨1, 4, [
  .ite (.cmp .eq (.var 0) (.disp [])) [
    .ret (.tup [(.str 10), (.int (0))])] [],
  .ret (.tup [(.str 2), (.int (0))])]⟩
noncomputable def gBegun (ix : Ix) : Fn := ⟨2, 10, [
  .ite (.or (.not (.cmp2 .le (.int (1)) (.b1 .len (.var 1)) .le (.int (12)))) (.not (.cmp2 .le (.int (1)) (.b1 .len (.var 0)) .le (.int (12))))) [
    .raise 0] [],
  .for [2] (.list (.var 0)) [
    .expr (.call ix.checkGate [(.var 2), (.b1 .len (.var 1))])],
  .for [3, 4] (.enum (.var 1)) [
    .expr (.call ix.checkRow [(.var 3), (.var 4), (.var 0)])],
  .set 5 (.comp (.tup [(.idx (.var 7) (.int (0))), (.b1 .list (.idx (.var 7) (.int (1))))]) 7 (.list (.var 0))),
  .set 6 (.comp (.b1 .list (.var 7)) 7 (.list (.var 1))),
  .ret (.hall [(.var 5), (.var 6), (.bin .mul (.disp [(.int (0))]) (.b1 .len (.var 6))), (.comp (.call ix.firstWord [(.var 7)]) 7 (.list (.var 6))), (.comp (.call ix.fresh [(.var 7)]) 7 (.list (.var 5)))])]⟩
noncomputable def gCopied : Fn := ⟨1, 4, [
  .ret (.comp (.ite (.isinst (.var 1) .list) (.b1 .list (.var 1)) (.var 1)) 1 (.list (.var 0)))]⟩
noncomputable def gTwin (ix : Ix) : Fn := ⟨1, 5, [
  .set 1 (.comp (.call ix.copied [(.var 2)]) 2 (.list (.attr (.var 0) 4))),
  .ret (.hall [(.attr (.var 0) 0), (.attr (.var 0) 1), (.b1 .list (.attr (.var 0) 2)), (.b1 .list (.attr (.var 0) 3)), (.var 1)])]⟩
noncomputable def gNeedWalker : Fn := ⟨2, 5, [
  .ite (.not (.cmp2 .le (.int (0)) (.var 1) .lt (.b1 .len (.attr (.var 0) 1)))) [
    .raise 0] []]⟩
noncomputable def gNeedGate : Fn := ⟨2, 5, [
  .ite (.not (.cmp2 .le (.int (0)) (.var 1) .lt (.b1 .len (.attr (.var 0) 0)))) [
    .raise 0] []]⟩
noncomputable def gPassed (ix : Ix) : Fn := ⟨3, 6, [
  .expr (.call ix.needWalker [(.var 0), (.var 1)]),
  .expr (.call ix.needGate [(.var 0), (.var 2)]),
  .ret (.m1 .count (.upto (.idx (.attr (.var 0) 1) (.var 1)) (.idx (.attr (.var 0) 2) (.var 1))) (.var 2))]⟩
noncomputable def gCame (ix : Ix) : Fn := ⟨3, 7, [
  .set 3 (.call ix.passed [(.var 0), (.var 1), (.var 2)]),
  .ite (.and (.cmp .notIn (.idx (.idx (.attr (.var 0) 3) (.var 1)) (.int (0))) (.tup [(.str 2), (.str 10)])) (.cmp .eq (.idx (.idx (.attr (.var 0) 1) (.var 1)) (.idx (.attr (.var 0) 2) (.var 1))) (.var 2))) [
    .set 3 (.bin .add (.var 3) (.int (1)))] [],
  .ret (.var 3)]⟩
noncomputable def gBoxes (ix : Ix) : Fn := ⟨2, 5, [
  .expr (.call ix.needGate [(.var 0), (.var 1)]),
  .ret (.call ix.copied [(.idx (.attr (.var 0) 4) (.var 1))])]⟩
noncomputable def gAhead (ix : Ix) : Fn := ⟨2, 6, [
  .expr (.call ix.needWalker [(.var 0), (.var 1)]),
  .set 2 (.idx (.idx (.attr (.var 0) 3) (.var 1)) (.int (0))),
  .ite (.cmp .eq (.var 2) (.str 10)) [
    .ret (.tup [.none, (.str 10)])] [],
  .ret (.tup [(.idx (.idx (.attr (.var 0) 1) (.var 1)) (.idx (.attr (.var 0) 2) (.var 1))), (.var 2)])]⟩
noncomputable def gTimeOf (ix : Ix) : Fn := ⟨3, 6, [
  .ret (.bin .add (.call ix.passed [(.var 0), (.var 1), (.var 2)]) (.int (1)))]⟩
noncomputable def gSignOf : Fn := ⟨2, 5, [
  .ite (.cmp .eq (.var 0) (.str 0)) [
    .ret (.bin .mod (.var 1) (.int (2)))] [],
  .ret (.bin .sub (.int (1)) (.bin .mod (.bin .fdiv (.bin .sub (.var 1) (.int (1))) (.int (2))) (.int (2))))]⟩
noncomputable def gBoxOf (ix : Ix) : Fn := ⟨3, 6, [
  .ite (.cmp .eq (.bin .mod (.var 1) (.int (2))) (.int (0))) [
    .ret (.var 0)] [],
  .ret (.bin .add (.call ix.rounds [(.var 2)]) (.var 0))]⟩
noncomputable def gVain (ix : Ix) : Fn := ⟨2, 12, [
  .unpack [2, 3] (.call ix.ahead [(.var 0), (.var 1)]),
  .ite (.cmp .notIn (.var 3) (.tup [(.str 5), (.str 8)])) [
    .ret (.bool false)] [],
  .unpack [4, 5] (.idx (.attr (.var 0) 0) (.var 2)),
  .set 6 (.call ix.timeOf [(.var 0), (.var 1), (.var 2)]),
  .set 7 (.call ix.signOf [(.var 4), (.var 6)]),
  .ite (.cmp .eq (.var 3) (.str 5)) [
    .ret (.cmp .ne (.idx (.idx (.attr (.var 0) 4) (.var 2)) (.int (1))) (.var 7))] [],
  .set 8 (.m1 .index (.var 5) (.var 1)),
  .ret (.cmp .ne (.idx (.idx (.idx (.attr (.var 0) 4) (.var 2)) (.var 8)) (.call ix.boxOf [(.idx (.idx (.attr (.var 0) 3) (.var 1)) (.int (1))), (.var 6), (.b1 .len (.var 5))])) (.var 7))]⟩
noncomputable def gCounted (ix : Ix) : Fn := ⟨4, 9, [
  .set 4 (.idx (.attr (.var 0) 4) (.var 2)),
  .set 5 (.b1 .len (.idx (.idx (.attr (.var 0) 0) (.var 2)) (.int (1)))),
  .ite (.cmp .eq (.var 3) (.str 2)) [
    .put (.var 4) (.int (0)) (.bin .sub (.idx (.var 4) (.int (0))) (.int (1))),
    .ite (.cmp .eq (.idx (.var 4) (.int (0))) (.int (0))) [
      .ret (.tup [(.str 3), (.int (0))])] [],
    .ret (.tup [(.str 5), (.int (0))])] [],
  .ite (.cmp .eq (.var 3) (.str 3)) [
    .put (.var 4) (.int (0)) (.var 5),
    .ret (.tup [(.str 4), (.int (0))])] [],
  .ite (.cmp .eq (.var 3) (.str 4)) [
    .put (.var 4) (.int (1)) (.call ix.signOf [(.str 0), (.call ix.timeOf [(.var 0), (.var 1), (.var 2)])])] [],
  .ret (.tup [(.str 6), (.int (0))])]⟩
noncomputable def gRowed (ix : Ix) : Fn := ⟨4, 12, [
  .set 4 (.idx (.idx (.attr (.var 0) 0) (.var 2)) (.int (1))),
  .set 5 (.b1 .len (.var 4)),
  .set 6 (.idx (.idx (.attr (.var 0) 3) (.var 1)) (.int (1))),
  .ite (.cmp .eq (.var 3) (.str 2)) [
    .set 6 (.int (0))] [
    .ite (.cmp .eq (.var 3) (.str 7)) [
      .set 7 (.call ix.timeOf [(.var 0), (.var 1), (.var 2)]),
      .set 8 (.call ix.partner [(.m1 .index (.var 4) (.var 1)), (.var 6), (.var 5)]),
      .put (.idx (.idx (.attr (.var 0) 4) (.var 2)) (.var 8)) (.call ix.boxOf [(.var 6), (.var 7), (.var 5)]) (.call ix.signOf [(.str 1), (.var 7)]),
      .ret (.tup [(.str 8), (.var 6)])] [
      .set 6 (.bin .add (.var 6) (.int (1)))]],
  .ite (.cmp .eq (.var 6) (.call ix.rounds [(.var 5)])) [
    .ret (.tup [(.str 6), (.int (0))])] [],
  .ret (.tup [(.str 7), (.var 6)])]⟩
noncomputable def gThrough : Fn := ⟨2, 5, [
  .put (.attr (.var 0) 2) (.var 1) (.bin .add (.idx (.attr (.var 0) 2) (.var 1)) (.int (1))),
  .ite (.cmp .eq (.idx (.attr (.var 0) 2) (.var 1)) (.b1 .len (.idx (.attr (.var 0) 1) (.var 1)))) [
    .ret (.tup [(.str 10), (.int (0))])] [],
  .ret (.tup [(.str 2), (.int (0))])]⟩
noncomputable def gStepped (ix : Ix) : Fn := ⟨2, 9, [
  .expr (.call ix.needWalker [(.var 0), (.var 1)]),
  .unpack [2, 3] (.call ix.ahead [(.var 0), (.var 1)]),
  .set 4 (.call ix.twin [(.var 0)]),
  .ite (.cmp .eq (.var 3) (.str 10)) [
    .ret (.tup [(.var 4), (.tup [(.var 1), .none, (.str 10)])])] [],
  .ite (.call ix.vain [(.var 0), (.var 1)]) [
    .ret (.tup [(.var 4), (.tup [(.var 1), (.var 2), (.str 9)])])] [],
  .ite (.cmp .eq (.var 3) (.str 6)) [
    .set 5 (.call ix.through [(.var 4), (.var 1)])] [
    .ite (.cmp .eq (.idx (.idx (.attr (.var 0) 0) (.var 2)) (.int (0))) (.str 0)) [
      .set 5 (.call ix.counted [(.var 4), (.var 1), (.var 2), (.var 3)])] [
      .set 5 (.call ix.rowed [(.var 4), (.var 1), (.var 2), (.var 3)])]],
  .put (.attr (.var 4) 3) (.var 1) (.var 5),
  .ret (.tup [(.var 4), (.tup [(.var 1), (.var 2), (.var 3)])])]⟩
noncomputable def ix : Ix := ⟨0, 1, 2, 3, 4, 5, 6, 7, 8, 9, 10, 11, 12, 13, 14, 15, 16, 17, 18, 19, 21, 22, 23, 24⟩
structure HF (ix : Ix) (Φ : Nat → Option Fn) : Prop where
  power : Φ ix.power = some gPower
  rounds : Φ ix.rounds = some (gRounds ix)
  partner : Φ ix.partner = some (gPartner ix)
  checkGate : Φ ix.checkGate = some gCheckGate
  checkRow : Φ ix.checkRow = some gCheckRow
  fresh : Φ ix.fresh = some (gFresh ix)
  firstWord : Φ ix.firstWord = some gFirstWord
  begun : Φ ix.begun = some (gBegun ix)
  copied : Φ ix.copied = some gCopied
  twin : Φ ix.twin = some (gTwin ix)
  needWalker : Φ ix.needWalker = some gNeedWalker
  needGate : Φ ix.needGate = some gNeedGate
  passed : Φ ix.passed = some (gPassed ix)
  ahead : Φ ix.ahead = some (gAhead ix)
  timeOf : Φ ix.timeOf = some (gTimeOf ix)
  signOf : Φ ix.signOf = some gSignOf
  boxOf : Φ ix.boxOf = some (gBoxOf ix)
  vain : Φ ix.vain = some (gVain ix)
  counted : Φ ix.counted = some (gCounted ix)
  rowed : Φ ix.rowed = some (gRowed ix)
  through : Φ ix.through = some gThrough
  stepped : Φ ix.stepped = some (gStepped ix)

section
variable {σ : H} {Q : P} {x : X}
theorem c_notin2 {a b c : Nat} (h : Q (.bool (decide (a ≠ b ∧ a ≠ c))) σ) : cmpop .notIn (.str a) (.tup [.str b, .str c]) σ Q := ⟨.str a, [.str b, .str c], rfl, rfl, fun q hq => by
  have : q = decide (a ≠ b ∧ a ≠ c) := by
    (rw [Bool.eq_iff_iff]; rw [hq]); simp
  rw [this]; exact h⟩
theorem b_upto {a : Nat} {k : Nat} {xs : List V} (hx : σ[a]? = some xs) (hl : xs.length ≤ lim) (h : Q (.ref σ.length) (σ ++ [xs.take k])) : sliceTo (.ref a) (.int k) σ Q := ⟨xs, hx, by walk_at "o", by simp; walk_at "o", by simpa using h⟩
theorem count_nv (l : List Nat) (g : Nat) : (l.map Int.ofNat).count (g : Int) = l.count g := by
  induction l with
  | nil => rfl
  | cons a l ih =>
    (rw [List.map_cons]; rw [List.count_cons]; rw [List.count_cons]; rw [ih])
    congr 1
    by_cases h : a = g
    · subst h; simp
    · simp [h]; walk_at "o"
theorem nv_int (l : List Nat) : l.map nv = (l.map Int.ofNat).map V.int := by rw [List.map_map]; rfl
theorem b_count {a g : Nat} {l : List Nat} (hx : σ[a]? = some (l.map nv)) (h : Q (.int (l.count g)) σ) : me1 .count (.ref a) (.int g) σ Q := ⟨l.map nv, l.map Int.ofNat, hx, nv_int l, by rw [count_nv]; exact h⟩
theorem idx_nv (l : List Nat) (g : Nat) : (l.map Int.ofNat).idxOf (g : Int) = l.idxOf g := by
  induction l with
  | nil => rfl
  | cons a l ih =>
    have e : (Int.ofNat a == (g : Int)) = (a == g) := by
      (rw [Bool.eq_iff_iff]; rw [beq_iff_eq]; rw [beq_iff_eq])
      exact ⟨fun z => Int.ofNat.inj z, fun z => by rw [z]; rfl⟩
    (rw [List.map_cons]; rw [List.idxOf_cons]; rw [List.idxOf_cons]; rw [ih]; rw [e])
theorem b_index {a g : Nat} {l : List Nat} (hx : σ[a]? = some (l.map nv)) (hm : g ∈ l) (h : Q (.int (l.idxOf g)) σ) : me1 .index (.ref a) (.int g) σ Q := ⟨l.map nv, l.map Int.ofNat, hx, nv_int l, List.mem_map.mpr ⟨g, hm, rfl⟩, by rw [idx_nv]; exact h⟩
end
noncomputable def rnd (m : Nat) : Nat := if m ≤ 1 then 0 else if m ≤ 2 then 1 else if m ≤ 4 then 2 else if m ≤ 8 then 3 else 4
theorem rnd_spec : ∀ m : Nat, m ≤ 16 → ∀ i : Nat, i ≤ 4 → (((2 : Int) ^ i < (m : Int)) ↔ i < rnd m) := by
  have : ∀ m : Fin 17, ∀ i : Fin 5, (((2 : Int) ^ i.1 < (m.1 : Int)) ↔ i.1 < rnd m.1) := by decide +kernel
  exact fun m hm i hi => this ⟨m, by walk_at "o"⟩ ⟨i, by walk_at "o"⟩
theorem rnd_le (m : Nat) : rnd m ≤ 4 := by unfold rnd; repeat' split
                                           all_goals walk_at "o"
noncomputable def Hl.passed (h : Hl) (w g : Nat) : Nat := ((h.row w).take (h.dn w)).count g
noncomputable def signOf (k time : Nat) : Int := if k = 0 then (time : Int) % 2 else 1 - ((time : Int) - 1) / 2 % 2
noncomputable def boxOf (turn time many : Nat) : Nat := if time % 2 = 0 then turn else rnd many + turn
section
variable {n : Nat} {σ : H} {g r d s c : Nat} {h : Hl}
theorem Rep'.row (k : Rep' σ g r d s c h) {w : Nat} (hw : w < h.rows.length) : ∃ rv a, σ[r]? = some rv ∧ rv.length = h.rows.length ∧ rv[w]? = some (.ref a) ∧ σ[a]? = some ((h.row w).map nv) := by
  obtain ⟨rv, b1, b2⟩ := k.rows
  obtain ⟨v, e1, a, rfl, _, e2⟩ := b2.right (get_of_lt (d := []) hw)
  exact ⟨rv, a, b1, b2.len, e1, e2⟩
theorem Rep'.gate (k : Rep' σ g r d s c h) {w : Nat} (hw : w < h.gates.length) : ∃ gv a, σ[g]? = some gv ∧ gv.length = h.gates.length ∧ gv[w]? = some (.tup [.str (h.gate w).1, .ref a]) ∧ σ[a]? = some ((h.gate w).2.map nv) := by
  obtain ⟨rv, b1, b2⟩ := k.gates
  obtain ⟨v, e1, a, rfl, _, e2⟩ := b2.right (get_of_lt (d := (0, [])) hw)
  exact ⟨rv, a, b1, b2.len, e1, e2⟩
theorem Rep'.cell (k : Rep' σ g r d s c h) {w : Nat} (hw : w < h.cells.length) : ∃ cv v f, σ[c]? = some cv ∧ cv[w]? = some v ∧ CellR σ v (h.cell w) f := by
  obtain ⟨cv, fs, b1, b2⟩ := k.cells
  have h1 : w < cv.length := by rw [b2.l1]; exact hw
  have h2 : w < fs.length := by rw [b2.l2]; exact hw
  exact ⟨cv, cv[w], fs[w], b1, by simp [h1], b2.at_ (by simp [h1]) (get_of_lt hw) (by simp [h2])⟩
theorem dn_get (hw : n < h.done.length) : (h.done.map nv)[n]? = some (.int (h.dn n)) := get_nv (get_of_lt hw)
theorem stg_get (hw : n < h.stages.length) : (h.stages.map stV)[n]? = some (.tup [.str (h.stg n).1, .int (h.stg n).2]) := by
  (rw [List.getElem?_map]; rw [get_of_lt (d := (10, 0)) hw]); rfl
theorem at_get {w : Nat} (hw : h.dn w < (h.row w).length) : ((h.row w).map nv)[h.dn w]? = some (.int (h.at_ w)) := get_nv (get_of_lt hw)
end
section
variable {Φ : Nat → Option Fn} {n : Nat} {σ : H} {Q : P} {x : X}
theorem w_power (F : HF ix Φ) {t : Nat} (h1 : t < 1000) (hQ : Q (.int (2 ^ t)) σ) : callW Φ (n + 1) ix.power [.int t] σ Q x := by
  refine ⟨_, F.power, rfl, ?_⟩
  unfold gPower
  (try dsimp only [start, List.map, List.replicate, List.cons_append, List.nil_append, Nat.reduceSub])
  (with_reducible (refine s_setA (by with_unfolding_all rfl) ?_; refine s_for ?_; refine r_range ?_; refine x_atom (by with_unfolding_all rfl) ?_); dsimp only [put])
  refine r_rgK (by walk_at "o") ?_
  refine forL_rule (fun i m σ' => Mini.Cj2 (σ' = σ) (∃ s, m = [some (.int t), some (.int (2 ^ i)), s, none, none, none])) ⟨rfl, _, rfl⟩ ?_ ?_
  · rintro i v m _ K hv ⟨rfl, s, rfl⟩ hK
    obtain ⟨rfl, hi⟩ := rangeV_get hv
    refine ⟨trivial, _, rfl, ?_⟩
    (with_reducible (refine s_set ?_; refine x_binA (by with_unfolding_all rfl) (by with_unfolding_all rfl) ?_; refine b_mul (by decide) ?_; refine s_nil ?_); dsimp only [put])
    exact hK _ _ ⟨rfl, some (.int i), by rw [Int.pow_succ]⟩
  · rintro m _ ⟨rfl, s, rfl⟩
    (rw [rangeV_length]; rw [Int.toNat_natCast])
    refine ⟨trivial, ?_⟩
    with_reducible (refine s_retA (by with_unfolding_all rfl) ?_)
    exact hQ
theorem w_rounds (F : HF ix Φ) {a : Nat} (ha : a ≤ 16) (hQ : Q (.int (rnd a)) σ) : callW Φ (n + 2) ix.rounds [.int a] σ Q x := by
  refine ⟨_, F.rounds, rfl, ?_⟩
  unfold gRounds
  (try dsimp only [start, List.map, List.replicate, List.cons_append, List.nil_append, Nat.reduceSub])
  (with_reducible (refine s_setA (by with_unfolding_all rfl) ?_; refine s_while ?_); dsimp only [put])
  have r4 := rnd_le a
  refine while_rule (fun k m σ' => Mini.Cj2 (σ' = σ) (Mini.Ek1 fun (i : Nat) => Mini.Cj3 (k = 4 - i) (i ≤ rnd a) (m = [some (.int a), some (.int i), none, none, none]))) (k := 4) ⟨rfl, 0, rfl, by walk_at "o", rfl⟩ ?_
  rintro k m _ K ⟨rfl, i, rfl, hi, rfl⟩ hK
  with_reducible (refine t_cmp ?_; refine x_callA (by with_unfolding_all rfl) ?_)
  refine w_power F (by walk_at "o") ?_
  with_reducible (refine x_atom (by with_unfolding_all rfl) ?_; refine c_lt ?_; refine k_tru ?_)
  have sp := rnd_spec a ha i (by walk_at "o")
  refine k_dec (fun hlt => ?_) fun hge => ?_
  · have := sp.mp hlt
    (with_reducible (refine s_set ?_; refine x_binA (by with_unfolding_all rfl) (by with_unfolding_all rfl) ?_; refine b_add ?_; refine s_nil ?_); dsimp only [put])
    exact hK (4 - (i + 1)) _ _ (by walk_at "o") ⟨rfl, i + 1, rfl, by walk_at "o", by simp⟩
  · have : ¬ i < rnd a := fun z => hge (sp.mpr z)
    have : i = rnd a := by walk_at "o"
    subst this
    with_reducible (refine s_retA (by with_unfolding_all rfl) ?_)
    exact hQ
theorem w_partner (F : HF ix Φ) {a t many : Nat} (ht : t < 1000) (hm : 0 < many) (hQ : Q (.int ((a + 2 ^ t : Nat) % many : Nat)) σ) : callW Φ (n + 2) ix.partner [.int a, .int t, .int many] σ Q x := by
  refine ⟨_, F.partner, rfl, ?_⟩
  unfold gPartner
  (try dsimp only [start, List.map, List.replicate, List.cons_append, List.nil_append, Nat.reduceSub])
  with_reducible (refine s_ret ?_; refine x_bin ?_; refine x_bin ?_; refine x_atom (by with_unfolding_all rfl) ?_; refine x_callA (by with_unfolding_all rfl) ?_)
  refine w_power F ht ?_
  with_reducible (refine b_add ?_; refine x_atom (by with_unfolding_all rfl) ?_; refine b_mod (by walk_at "o") ?_)
  simpa using hQ
theorem w_needWalker (F : HF ix Φ) {g r d s c w : Nat} {h : Hl} (k : Rep' σ g r d s c h) (hw : w < h.rows.length) (hQ : Q .none σ) : callW Φ (n + 1) ix.needWalker [.inst [.ref g, .ref r, .ref d, .ref s, .ref c], .int w] σ Q x := by
  refine ⟨_, F.needWalker, rfl, ?_⟩
  unfold gNeedWalker
  (try dsimp only [start, List.map, List.replicate, List.cons_append, List.nil_append, Nat.reduceSub])
  obtain ⟨rv, b1, b2⟩ := k.rows
  with_reducible (refine s_if1 ?_; refine t_not ?_; refine t_cmp2 ?_; refine x_atom (by with_unfolding_all rfl) ?_; refine x_atom (by with_unfolding_all rfl) ?_; refine c_le ?_; refine k_tru ?_)
  refine k_pos (by walk_at "o") ?_
  with_reducible (refine x_b1 ?_; refine x_attrF (by with_unfolding_all rfl) (by with_unfolding_all rfl) ?_)
  refine b_lenE b1 (by rw [b2.len]) ?_
  with_reducible (refine c_lt ?_; refine k_tru ?_)
  refine k_npos (by walk_at "o") ?_
  with_reducible (refine s_nil ?_)
  exact hQ
theorem w_needGate (F : HF ix Φ) {g r d s c w : Nat} {h : Hl} (k : Rep' σ g r d s c h) (hw : w < h.gates.length) (hQ : Q .none σ) : callW Φ (n + 1) ix.needGate [.inst [.ref g, .ref r, .ref d, .ref s, .ref c], .int w] σ Q x := by
  refine ⟨_, F.needGate, rfl, ?_⟩
  unfold gNeedGate
  (try dsimp only [start, List.map, List.replicate, List.cons_append, List.nil_append, Nat.reduceSub])
  obtain ⟨rv, b1, b2⟩ := k.gates
  with_reducible (refine s_if1 ?_; refine t_not ?_; refine t_cmp2 ?_; refine x_atom (by with_unfolding_all rfl) ?_; refine x_atom (by with_unfolding_all rfl) ?_; refine c_le ?_; refine k_tru ?_)
  refine k_pos (by walk_at "o") ?_
  with_reducible (refine x_b1 ?_; refine x_attrF (by with_unfolding_all rfl) (by with_unfolding_all rfl) ?_)
  refine b_lenE b1 (by rw [b2.len]) ?_
  with_reducible (refine c_lt ?_; refine k_tru ?_)
  refine k_npos (by walk_at "o") ?_
  with_reducible (refine s_nil ?_)
  exact hQ
theorem w_passed (F : HF ix Φ) {g r d s c w t : Nat} {h : Hl} (k : Rep' σ g r d s c h) (hw : w < h.rows.length) (hd : h.done.length = h.rows.length) (hl : (h.row w).length ≤ 40) (ht : t < h.gates.length) (hQ : ∀ σ', Ex σ σ' → Q (.int (h.passed w t)) σ') :
    callW Φ (n + 2) ix.passed [.inst [.ref g, .ref r, .ref d, .ref s, .ref c], .int w, .int t] σ Q x := by
  refine ⟨_, F.passed, rfl, ?_⟩
  unfold gPassed
  (try dsimp only [start, List.map, List.replicate, List.cons_append, List.nil_append, Nat.reduceSub])
  with_reducible (refine s_expr ?_; refine x_callA (by with_unfolding_all rfl) ?_)
  refine w_needWalker F k hw ?_
  with_reducible (refine s_expr ?_; refine x_callA (by with_unfolding_all rfl) ?_)
  refine w_needGate F k ht ?_
  obtain ⟨rv, a, e1, e2, e3, e4⟩ := k.row hw
  with_reducible (refine s_ret ?_; refine x_m1 ?_; refine x_upto ?_; refine x_idx ?_; refine x_attrF (by with_unfolding_all rfl) (by with_unfolding_all rfl) ?_; refine x_atom (by with_unfolding_all rfl) ?_)
  refine x_item e1 e3 ?_
  with_reducible (refine x_idx ?_; refine x_attrF (by with_unfolding_all rfl) (by with_unfolding_all rfl) ?_; refine x_atom (by with_unfolding_all rfl) ?_)
  refine x_item k.done (dn_get (by walk_at "o")) ?_
  skip
  refine b_upto e4 (by simp [lim]; walk_at "o") ?_
  with_reducible (refine x_isRef ?_; refine x_atom (by with_unfolding_all rfl) ?_)
  refine b_count (l := (h.row w).take (h.dn w)) (by rw [List.map_take]; exact last_get) (hQ _ Ex.one)
theorem w_ahead (F : HF ix Φ) {g r d s c w : Nat} {h : Hl} (k : Rep' σ g r d s c h) (hw : w < h.rows.length) (hd : h.done.length = h.rows.length) (hs : h.stages.length = h.rows.length) (hl : (h.stg w).1 = 10 ∨ h.dn w < (h.row w).length)
    (h1 : (h.stg w).1 = 10 → Q (.tup [.none, .str 10]) σ) (h2 : (h.stg w).1 ≠ 10 → Q (.tup [.int (h.at_ w), .str (h.stg w).1]) σ) : callW Φ (n + 2) ix.ahead [.inst [.ref g, .ref r, .ref d, .ref s, .ref c], .int w] σ Q x := by
  refine ⟨_, F.ahead, rfl, ?_⟩
  unfold gAhead
  (try dsimp only [start, List.map, List.replicate, List.cons_append, List.nil_append, Nat.reduceSub])
  with_reducible (refine s_expr ?_; refine x_callA (by with_unfolding_all rfl) ?_)
  refine w_needWalker F k hw ?_
  (with_reducible (refine s_set ?_; refine x_idx ?_; refine x_idx ?_; refine x_attrF (by with_unfolding_all rfl) (by with_unfolding_all rfl) ?_; refine x_atom (by with_unfolding_all rfl) ?_); dsimp only [put])
  refine x_item k.stages (stg_get (by walk_at "o")) ?_
  with_reducible (refine x_atom (by with_unfolding_all rfl) ?_; refine x_t0 ?_; refine s_if1 ?_; refine t_cmpA (by with_unfolding_all rfl) (by with_unfolding_all rfl) ?_; refine e_seq ?_; refine k_tru ?_)
  refine k_dec (fun e => ?_) fun e => ?_
  · with_reducible (refine s_ret ?_; refine x_tupA (by with_unfolding_all rfl) ?_)
    exact h1 e
  · obtain ⟨rv, a, e1, e2, e3, e4⟩ := k.row hw
    with_reducible (refine s_ret ?_; refine x_tup ?_; refine l_cons ?_; refine x_idx ?_; refine x_idx ?_; refine x_attrF (by with_unfolding_all rfl) (by with_unfolding_all rfl) ?_; refine x_atom (by with_unfolding_all rfl) ?_)
    refine x_item e1 e3 ?_
    with_reducible (refine x_idx ?_; refine x_attrF (by with_unfolding_all rfl) (by with_unfolding_all rfl) ?_; refine x_atom (by with_unfolding_all rfl) ?_)
    refine x_item k.done (dn_get (by walk_at "o")) ?_
    skip
    refine x_item e4 (at_get (by walk_at "o")) ?_
    with_reducible (refine l_atoms (by with_unfolding_all rfl) ?_)
    exact h2 e
theorem w_timeOf (F : HF ix Φ) {g r d s c w t : Nat} {h : Hl} (k : Rep' σ g r d s c h) (hw : w < h.rows.length) (hd : h.done.length = h.rows.length) (hl : (h.row w).length ≤ 40) (ht : t < h.gates.length) (hQ : ∀ σ', Ex σ σ' → Q (.int (h.passed w t + 1 : Nat)) σ') :
    callW Φ (n + 3) ix.timeOf [.inst [.ref g, .ref r, .ref d, .ref s, .ref c], .int w, .int t] σ Q x := by
  refine ⟨_, F.timeOf, rfl, ?_⟩
  unfold gTimeOf
  (try dsimp only [start, List.map, List.replicate, List.cons_append, List.nil_append, Nat.reduceSub])
  with_reducible (refine s_ret ?_; refine x_bin ?_; refine x_callA (by with_unfolding_all rfl) ?_)
  refine w_passed F k hw hd hl ht fun σ' e => ?_
  with_reducible (refine x_atom (by with_unfolding_all rfl) ?_; refine b_add ?_)
  exact hQ _ e
theorem w_signOf (F : HF ix Φ) {k t : Nat} (hQ : Q (.int (signOf k t)) σ) : callW Φ (n + 1) ix.signOf [.str k, .int t] σ Q x := by
  refine ⟨_, F.signOf, rfl, ?_⟩
  unfold gSignOf
  (try dsimp only [start, List.map, List.replicate, List.cons_append, List.nil_append, Nat.reduceSub])
  with_reducible (refine s_if1 ?_; refine t_cmpA (by with_unfolding_all rfl) (by with_unfolding_all rfl) ?_; refine e_seq ?_; refine k_tru ?_)
  refine k_dec (fun e => ?_) fun e => ?_
  · with_reducible (refine s_ret ?_; refine x_binA (by with_unfolding_all rfl) (by with_unfolding_all rfl) ?_; refine b_mod (by decide) ?_)
    rw [signOf, if_pos e] at hQ
    exact hQ
  · with_reducible (refine s_ret ?_; refine x_bin ?_; refine x_atom (by with_unfolding_all rfl) ?_; refine x_bin ?_; refine x_bin ?_; refine x_binA (by with_unfolding_all rfl) (by with_unfolding_all rfl) ?_; refine b_sub ?_; refine x_atom (by with_unfolding_all rfl) ?_; refine b_fdiv (by decide) ?_; refine x_atom (by with_unfolding_all rfl) ?_; refine b_mod (by decide) ?_; refine b_sub ?_)
    rw [signOf, if_neg e] at hQ
    exact hQ
theorem w_boxOf (F : HF ix Φ) {u t m : Nat} (hm : m ≤ 16) (hQ : Q (.int (boxOf u t m)) σ) : callW Φ (n + 3) ix.boxOf [.int u, .int t, .int m] σ Q x := by
  refine ⟨_, F.boxOf, rfl, ?_⟩
  unfold gBoxOf
  (try dsimp only [start, List.map, List.replicate, List.cons_append, List.nil_append, Nat.reduceSub])
  with_reducible (refine s_if1 ?_; refine t_cmp ?_; refine x_binA (by with_unfolding_all rfl) (by with_unfolding_all rfl) ?_; refine b_mod (by decide) ?_; refine x_atom (by with_unfolding_all rfl) ?_; refine e_eq ?_; refine k_tru ?_)
  refine k_dec (fun e => ?_) fun e => ?_
  · with_reducible (refine s_retA (by with_unfolding_all rfl) ?_)
    rw [boxOf, if_pos (by walk_at "o")] at hQ
    exact hQ
  · with_reducible (refine s_ret ?_; refine x_bin ?_; refine x_callA (by with_unfolding_all rfl) ?_)
    refine w_rounds F hm ?_
    with_reducible (refine x_atom (by with_unfolding_all rfl) ?_; refine b_add ?_)
    rw [boxOf, if_neg (by walk_at "o")] at hQ
    exact hQ
end
end Mini

set_option autoImplicit false
set_option linter.unusedVariables false


namespace Mini
noncomputable def put2 (b : List (List Int)) (i j : Nat) (v : Int) : List (List Int) := b.set i ((b.getD i []).set j v)
noncomputable def cellStep (g : Nat × List Nat) (w time : Nat) (st : Nat × Nat) : Cell → Cell × (Nat × Nat)
  | .cnt l s => if st.1 = 2 then (.cnt (l - 1) s, if l - 1 = 0 then (3, 0) else (5, 0)) else if st.1 = 3 then (.cnt g.2.length s, (4, 0)) else if st.1 = 4 then (.cnt l (signOf 0 time), (6, 0)) else (.cnt l s, (6, 0))
  | .row b => if st.1 = 2 then (.row b, if 0 = rnd g.2.length then (6, 0) else (7, 0)) else if st.1 = 7 then (.row (put2 b ((g.2.idxOf w + 2 ^ st.2) % g.2.length) (boxOf st.2 time g.2.length) (signOf 1 time)), (8, st.2))
    else (.row b, if st.2 + 1 = rnd g.2.length then (6, 0) else (7, st.2 + 1))
noncomputable def cellVain (g : Nat × List Nat) (w time : Nat) (st : Nat × Nat) : Cell → Bool
  | .cnt l s => decide (st.1 = 5) && decide (s ≠ signOf 0 time)
  | .row b => decide (st.1 = 8) && decide ((b.getD (g.2.idxOf w) []).getD (boxOf st.2 time g.2.length) 0 ≠ signOf 1 time)
noncomputable def Hl.time (h : Hl) (w : Nat) : Nat := h.passed w (h.at_ w) + 1
noncomputable def Hl.vain (h : Hl) (w : Nat) : Bool := cellVain (h.gate (h.at_ w)) w (h.time w) (h.stg w) (h.cell (h.at_ w))
noncomputable def Hl.cstep (h : Hl) (w : Nat) : Cell × (Nat × Nat) := cellStep (h.gate (h.at_ w)) w (h.time w) (h.stg w) (h.cell (h.at_ w))
noncomputable def Hl.step (h : Hl) (w : Nat) : Hl := if (h.stg w).1 = 10 then h else if h.vain w then h
  else if (h.stg w).1 = 6 then { h with done := h.done.set w (h.dn w + 1), stages := h.stages.set w (if h.dn w + 1 = (h.row w).length then (10, 0) else (2, 0)) }
  else { h with cells := h.cells.set (h.at_ w) (h.cstep w).1, stages := h.stages.set w (h.cstep w).2 }
noncomputable def Hl.told (h : Hl) (w : Nat) : V := if (h.stg w).1 = 10 then .tup [.int w, .none, .str 10] else if h.vain w then .tup [.int w, .int (h.at_ w), .str 9] else .tup [.int w, .int (h.at_ w), .str (h.stg w).1]
/-- a gate's cells are as its word and its members say -/
noncomputable def CellOk (g : Nat × List Nat) : Cell → Prop
  | .cnt _ _ => g.1 = 0
  | .row b => g.1 = 1 ∧ b.length = g.2.length ∧ ∀ x ∈ b, x.length = 2 * rnd g.2.length
/-- what a walker stands at -/
noncomputable def StOk (g : Nat × List Nat) (st : Nat × Nat) : Prop := st.1 = 2 ∨ st.1 = 6 ∨ (g.1 = 0 ∧ (st.1 = 3 ∨ st.1 = 4 ∨ st.1 = 5)) ∨ (g.1 = 1 ∧ (st.1 = 7 ∨ st.1 = 8) ∧ st.2 < rnd g.2.length)
structure WF (h : Hl) : Prop where
  ld : h.done.length = h.rows.length
  ls : h.stages.length = h.rows.length
  lc : h.cells.length = h.gates.length
  gm : ∀ g, g < h.gates.length → (h.gate g).2.length ≤ 12
  cell : ∀ g, g < h.gates.length → CellOk (h.gate g) (h.cell g)
  rl : ∀ w, w < h.rows.length → (h.row w).length ≤ 40
  rg : ∀ w, w < h.rows.length → ∀ g ∈ h.row w, g < h.gates.length ∧ w ∈ (h.gate g).2
  wk : ∀ w, w < h.rows.length → ((h.stg w).1 = 10 ∧ h.dn w = (h.row w).length) ∨ (h.dn w < (h.row w).length ∧ StOk (h.gate (h.at_ w)) (h.stg w))
theorem WF.lt {h : Hl} (f : WF h) {w : Nat} (hw : w < h.rows.length) (hs : (h.stg w).1 ≠ 10) : h.dn w < (h.row w).length := by
  rcases f.wk w hw with h1 | h1
  · exact absurd h1.1 hs
  · exact h1.1
theorem WF.at_ {h : Hl} (f : WF h) {w : Nat} (hw : w < h.rows.length) (hs : (h.stg w).1 ≠ 10) : h.at_ w < h.gates.length ∧ w ∈ (h.gate (h.at_ w)).2 :=
  f.rg w hw _ (List.mem_of_getElem? (get_of_lt (d := 0) (f.lt hw hs)))
theorem WF.st {h : Hl} (f : WF h) {w : Nat} (hw : w < h.rows.length) (hs : (h.stg w).1 ≠ 10) : StOk (h.gate (h.at_ w)) (h.stg w) := by
  rcases f.wk w hw with h1 | h1
  · exact absurd h1.1 hs
  · exact h1.2
theorem box_lt {u t m : Nat} (h : u < rnd m) : boxOf u t m < 2 * rnd m := by unfold boxOf; split <;> walk_at "o"
section
variable {Φ : Nat → Option Fn} {n : Nat} {σ : H} {Q : P} {x : X}
theorem w_vain (F : HF ix Φ) {g r d s c w : Nat} {h : Hl} (k : Rep' σ g r d s c h) (f : WF h) (hw : w < h.rows.length) (hQ : ∀ σ', Ex σ σ' → Q (.bool (h.vain w)) σ') :
    callW Φ (n + 4) ix.vain [.inst [.ref g, .ref r, .ref d, .ref s, .ref c], .int w] σ Q x := by
  refine ⟨_, F.vain, rfl, ?_⟩
  unfold gVain
  (try dsimp only [start, List.map, List.replicate, List.cons_append, List.nil_append, Nat.reduceSub])
  with_reducible (refine s_unpack ?_; refine x_callA (by with_unfolding_all rfl) ?_)
  have vf : ¬ ((h.stg w).1 = 5 ∨ (h.stg w).1 = 8) → h.vain w = false := by
    intro z
    unfold Hl.vain cellVain
    split <;> simp <;> intro z' <;> exact absurd (by simp [z']) z
  refine w_ahead F k hw f.ld f.ls ?_ (fun e => ?_) fun e => ?_
  · rcases f.wk w hw with h1 | h1
    · exact .inl h1.1
    · exact .inr h1.1
  · (with_reducible (refine s_unK (by with_unfolding_all rfl) ?_; refine s_if1 ?_; refine t_cmp ?_; refine x_atom (by with_unfolding_all rfl) ?_; refine x_tupA (by with_unfolding_all rfl) ?_); dsimp only [put])
    refine c_notin2 ?_
    with_reducible (refine k_tru ?_)
    refine k_pos (by decide) ?_
    with_reducible (refine s_retA (by with_unfolding_all rfl) ?_)
    rw [← vf (by walk_at "o")]
    exact hQ _ Ex.refl
  (with_reducible (refine s_unK (by with_unfolding_all rfl) ?_; refine s_if1 ?_; refine t_cmp ?_; refine x_atom (by with_unfolding_all rfl) ?_; refine x_tupA (by with_unfolding_all rfl) ?_); dsimp only [put])
  refine c_notin2 ?_
  with_reducible (refine k_tru ?_)
  refine k_dec (fun e1 => ?_) fun e1 => ?_
  · with_reducible (refine s_retA (by with_unfolding_all rfl) ?_)
    rw [← vf (by walk_at "o")]
    exact hQ _ Ex.refl
  obtain ⟨at1, at2⟩ := f.at_ hw e
  have so := f.st hw e
  have ck := f.cell _ at1
  have gm := f.gm _ at1
  unfold StOk at so
  obtain ⟨gv, ga, g1, _, g2, g3⟩ := k.gate at1
  with_reducible (refine s_unpack ?_; refine x_idx ?_; refine x_attrF (by with_unfolding_all rfl) (by with_unfolding_all rfl) ?_; refine x_atom (by with_unfolding_all rfl) ?_)
  refine x_item g1 g2 ?_
  (with_reducible (refine s_unK (by with_unfolding_all rfl) ?_; refine s_set ?_; refine x_callA (by with_unfolding_all rfl) ?_); dsimp only [put])
  refine w_timeOf F k hw f.ld (f.rl w hw) at1 fun σ' e' => ?_
  have k' := k.ex e'
  (with_reducible (refine s_set ?_; refine x_callA (by with_unfolding_all rfl) ?_); dsimp only [put])
  refine w_signOf F ?_
  with_reducible (refine s_if1 ?_; refine t_cmpA (by with_unfolding_all rfl) (by with_unfolding_all rfl) ?_; refine e_seq ?_; refine k_tru ?_)
  obtain ⟨cv, v, fp, c1, c2, c3⟩ := k'.cell (w := h.at_ w) (by rw [f.lc]; exact at1)
  refine k_dec (fun e2 => ?_) fun e2 => ?_
  · have g0 : (h.gate (h.at_ w)).1 = 0 := by walk_at "o"
    with_reducible (refine s_ret ?_; refine x_cmp ?_; refine x_idx ?_; refine x_idx ?_; refine x_attrF (by with_unfolding_all rfl) (by with_unfolding_all rfl) ?_; refine x_atom (by with_unfolding_all rfl) ?_)
    refine x_item c1 c2 ?_
    have hv : h.vain w = cellVain (h.gate (h.at_ w)) w (h.time w) (h.stg w) (h.cell (h.at_ w)) := rfl
    cases hc : h.cell (h.at_ w) with
    | row b => rw [hc] at ck; exact absurd ck.1 (by walk_at "o")
    | cnt l sd =>
      rw [hc] at c3 hv
      obtain ⟨a, rfl, _, c4⟩ := c3
      with_reducible (refine x_atom (by with_unfolding_all rfl) ?_)
      refine x_it (v := .int sd) c4 (by walk_at "o") rfl ?_
      with_reducible (refine x_atom (by with_unfolding_all rfl) ?_)
      refine e_ne ?_
      rw [g0]
      have : h.vain w = decide (sd ≠ signOf 0 (h.passed w (h.at_ w) + 1)) := by
        (rw [hv]; rw [Bool.eq_iff_iff]); simp only [cellVain, e2, Hl.time, Bool.and_eq_true, decide_eq_true_eq, true_and]; exact decide_eq_true_iff
      rw [← this]
      exact hQ _ e'
  · have g0 : (h.gate (h.at_ w)).1 = 1 := by walk_at "o"
    (with_reducible (refine s_set ?_; refine x_m1 ?_; refine x_atom (by with_unfolding_all rfl) ?_; refine x_isRef ?_; refine x_atom (by with_unfolding_all rfl) ?_); dsimp only [put])
    refine b_index (e'.get g3) at2 ?_
    with_reducible (refine s_ret ?_; refine x_cmp ?_; refine x_idx ?_; refine x_idx ?_; refine x_idx ?_; refine x_attrF (by with_unfolding_all rfl) (by with_unfolding_all rfl) ?_; refine x_atom (by with_unfolding_all rfl) ?_)
    refine x_item c1 c2 ?_
    have hv : h.vain w = cellVain (h.gate (h.at_ w)) w (h.time w) (h.stg w) (h.cell (h.at_ w)) := rfl
    cases hc : h.cell (h.at_ w) with
    | cnt l sd => rw [hc] at ck; exact absurd ck (by rw [CellOk]; walk_at "o")
    | row b =>
      rw [hc] at c3 hv ck
      obtain ⟨a, as, rfl, _, c4, c5⟩ := c3
      have hpl : (h.gate (h.at_ w)).2.idxOf w < b.length := by rw [ck.2.1]; exact List.idxOf_lt_length_of_mem at2
      obtain ⟨bx, d1, d2⟩ := c5.right (get_of_lt (d := []) hpl)
      with_reducible (refine x_atom (by with_unfolding_all rfl) ?_)
      refine x_item c4 (v := .ref bx) (by (rw [List.getElem?_map]; rw [d1]); rfl) ?_
      with_reducible (refine x_call ?_; refine l_cons ?_; refine x_idx ?_; refine x_idx ?_; refine x_attrF (by with_unfolding_all rfl) (by with_unfolding_all rfl) ?_; refine x_atom (by with_unfolding_all rfl) ?_)
      refine x_item k'.stages (stg_get (by rw [f.ls]; exact hw)) ?_
      with_reducible (refine x_atom (by with_unfolding_all rfl) ?_; refine x_t1 ?_; refine l_cons ?_; refine x_atom (by with_unfolding_all rfl) ?_; refine l_cons ?_; refine x_b1A (by with_unfolding_all rfl) ?_)
      refine b_lenE (e'.get g3) (by rw [List.length_map]) ?_
      with_reducible (refine l_atoms (by with_unfolding_all rfl) ?_)
      refine w_boxOf F (by walk_at "o") ?_
      have hbl : boxOf (h.stg w).2 (h.passed w (h.at_ w) + 1) (h.gate (h.at_ w)).2.length < (b.getD ((h.gate (h.at_ w)).2.idxOf w) []).length := by
        rw [ck.2.2 _ (List.mem_of_getElem? (get_of_lt hpl))]
        exact box_lt (by walk_at "o")
      refine x_item d2 (v := .int _) (by (rw [List.getElem?_map]; rw [get_of_lt (d := 0) hbl]); rfl) ?_
      with_reducible (refine x_atom (by with_unfolding_all rfl) ?_)
      refine e_ne ?_
      rw [g0]
      have : h.vain w = decide (((b.getD ((h.gate (h.at_ w)).2.idxOf w) []).getD (boxOf (h.stg w).2 (h.passed w (h.at_ w) + 1) (h.gate (h.at_ w)).2.length) 0) ≠ signOf 1 (h.passed w (h.at_ w) + 1)) := by
        (rw [hv]; rw [Bool.eq_iff_iff]); simp only [cellVain, show (h.stg w).1 = 8 by walk_at "o", Hl.time, Bool.and_eq_true, decide_eq_true_eq, true_and]; exact decide_eq_true_iff
      rw [← this]
      exact hQ _ e'
/-- the cells are few -/
noncomputable def CellSm : Cell → Prop
  | .cnt _ _ => True
  | .row b => b.length ≤ 12 ∧ ∀ x ∈ b, x.length ≤ 100
theorem CellOk.sm {g : Nat × List Nat} (hl : g.2.length ≤ 12) : ∀ {c : Cell}, CellOk g c → CellSm c
  | .cnt _ _, _ => trivial
  | .row b, ⟨h1, h2, h3⟩ => ⟨by walk_at "o", fun x hx => by have := h3 x hx; have := rnd_le g.2.length; walk_at "o"⟩
theorem w_copied (F : HF ix Φ) {v : V} {c : Cell} {f : List Nat} (hc : CellR σ v c f) (sm : CellSm c) (hQ : ∀ σ' v' f', Ex σ σ' → CellR σ' v' c f' → f'.Nodup → (∀ a ∈ f', σ.length ≤ a ∧ a < σ'.length) → Q v' σ') :
    callW Φ (n + 1) ix.copied [v] σ Q x := by
  refine ⟨_, F.copied, rfl, ?_⟩
  unfold gCopied
  (try dsimp only [start, List.map, List.replicate, List.cons_append, List.nil_append, Nat.reduceSub])
  (with_reducible (refine s_ret ?_; refine x_comp ?_; refine r_listA (by with_unfolding_all rfl) ?_); dsimp only [put])
  cases c with
  | cnt l s =>
    obtain ⟨a, rfl, _, h1⟩ := hc
    refine r_lsK h1 ?_
    refine comp_rule (fun i acc σ' => Mini.Cj2 (σ' = σ) (acc = [V.int l, V.int s].take i)) (by simp [lim]) ⟨rfl, rfl⟩ ?_ ?_
    · rintro i v acc _ K hv hl ⟨rfl, rfl⟩ hK
      refine ⟨h1, ?_⟩
      have hi : (∃ j : Int, v = .int j) ∧ [V.int l, V.int s].take (i + 1) = [V.int l, V.int s].take i ++ [v] := by
        refine ⟨?_, by (rw [List.take_add_one]; rw [hv]); rfl⟩
        have := List.mem_of_getElem? hv
        simp at this
        rcases this with rfl | rfl
        · exact ⟨_, rfl⟩
        · exact ⟨_, rfl⟩
      obtain ⟨⟨j, rfl⟩, hi⟩ := hi
      with_reducible (refine x_ite ?_; refine t_isinst ?_; refine x_atom (by with_unfolding_all rfl) ?_; refine x_kd (by with_unfolding_all rfl) ?_; refine k_no ?_; refine x_atom (by with_unfolding_all rfl) ?_)
      exact hK _ _ ⟨rfl, hi.symm⟩
    · rintro acc _ _ ⟨rfl, rfl⟩
      exact ⟨h1, hQ _ _ [_] Ex.one ⟨_, rfl, rfl, last_get⟩ (by simp) (by simp)⟩
  | row b =>
    obtain ⟨a, as, rfl, _, h1, h2⟩ := hc
    refine r_lsK h1 ?_
    have hb : as.length = b.length := h2.len
    refine comp_rule (fun i acc σ' => Mini.Cj2 (Ex σ σ') (Mini.Ek1 fun (as' : List Nat) => Mini.Cj4 (acc = as'.map V.ref) (A2 (BoxR σ') as' (b.take i)) (as'.Nodup) (∀ a ∈ as', σ.length ≤ a ∧ a < σ'.length))) (by have := sm.1; simp [lim]; walk_at "o") ⟨Ex.refl, [], rfl, A2.nil, by simp, by simp⟩ ?_ ?_
    · rintro i v acc σ' K hv hl ⟨e, as', rfl, q1, q2, q3⟩ hK
      refine ⟨e.get h1, ?_⟩
      rw [List.getElem?_map, Option.map_eq_some_iff] at hv
      obtain ⟨bx, hbx, rfl⟩ := hv
      obtain ⟨y, hy, hby⟩ := h2.left hbx
      have hys := sm.2 y (List.mem_of_getElem? hy)
      with_reducible (refine x_ite ?_; refine t_isinst ?_; refine x_atom (by with_unfolding_all rfl) ?_; refine x_kd (by with_unfolding_all rfl) ?_; refine k_yes ?_; refine x_b1A (by with_unfolding_all rfl) ?_)
      refine b_list (e.get hby) (by simp [lim]; walk_at "o") ?_
      refine hK _ _ ⟨e.trans Ex.one, as' ++ [σ'.length], by simp, ?_, ?_, ?_⟩
      · (rw [List.take_add_one]; rw [hy])
        exact (q1.mono fun _ _ k => Ex.one.get k).snoc last_get
      · rw [List.nodup_append]
        refine ⟨q2, by simp, ?_⟩
        intro u hu w hw
        simp at hw; have := q3 u hu; walk_at "o"
      · intro u hu
        rcases List.mem_append.mp hu with h | h
        · have := q3 u h; simp; walk_at "o"
        · simp at h; subst h; have := e.len; simp; walk_at "o"
    · rintro acc σ' _ ⟨e, as', rfl, q1, q2, q3⟩
      have el := e.len
      rw [List.length_map, hb, List.take_length] at q1
      refine ⟨e.get h1, hQ _ _ (σ'.length :: as') (e.trans Ex.one) ⟨_, as', rfl, rfl, last_get, q1.mono fun _ _ k => Ex.one.get k⟩ ?_ ?_⟩
      · rw [List.nodup_cons]
        exact ⟨fun z => by have := q3 _ z; walk_at "o", q2⟩
      · intro u hu
        rcases List.mem_cons.mp hu with h | h
        · subst h; simp; walk_at "o"
        · have := q3 u h; simp; walk_at "o"
end
end Mini

set_option autoImplicit false
set_option linter.unusedVariables false


namespace Mini
section
variable {n : Nat} {σ σ' : H} {g r d s c : Nat} {cv : List V} {fs : List (List Nat)} {h : Hl}
theorem Own.ex (o : Own n σ g r d s c cv fs h) (e : Ex σ σ') : Own n σ' g r d s c cv fs h := by
  obtain ⟨⟨gv, a1, a2, a3⟩, ⟨rv, b1, b2, b3⟩, h3, h4, h5, h6, h7, h8⟩ := o
  exact ⟨⟨gv, e.get a1, a2, a3.mono fun _ _ q => q.ex e (Nat.le_refl _)⟩, ⟨rv, e.get b1, b2, b3.mono fun _ _ q => q.ex e (Nat.le_refl _)⟩, e.get h3, e.get h4, e.get h5, h6.ex e, h7, h8⟩
theorem set_same (t : Nat) : h.cells.set t (h.cell t) = h.cells := by
  by_cases ht : t < h.cells.length
  · have : h.cell t = h.cells[t] := by unfold Hl.cell; (rw [List.getD_eq_getElem?_getD]; rw [List.getElem?_eq_getElem ht]); rfl
    (rw [this]; rw [List.set_getElem_self])
  · rw [List.set_eq_of_length_le (by walk_at "o")]
theorem Own.cell (o : Own n σ g r d s c cv fs h) {w : Nat} (hw : w < h.cells.length) : ∃ v f, cv[w]? = some v ∧ fs[w]? = some f ∧ CellR σ v (h.cell w) f := by
  have b2 := o.cellsR
  have h1 : w < cv.length := by rw [b2.l1]; exact hw
  have h2 : w < fs.length := by rw [b2.l2]; exact hw
  exact ⟨cv[w], fs[w], by simp [h1], by simp [h2], b2.at_ (by simp [h1]) (get_of_lt hw) (by simp [h2])⟩
end
section
variable {Φ : Nat → Option Fn} {n : Nat} {σ σ₀ : H} {Q : P} {x : X}
theorem w_twin (F : HF ix Φ) {g r d s c : Nat} {h : Hl} (k : Rep' σ g r d s c h) (sm : ∀ cl ∈ h.cells, CellSm cl) (hl : h.cells.length ≤ 100) (hd : h.done.length ≤ 100) (hs : h.stages.length ≤ 100)
    (hQ : ∀ σ' d' s' c' cv fs, Ex σ σ' → Own σ.length σ' g r d' s' c' cv fs h → Q (.inst [.ref g, .ref r, .ref d', .ref s', .ref c']) σ') :
    callW Φ (n + 2) ix.twin [.inst [.ref g, .ref r, .ref d, .ref s, .ref c]] σ Q x := by
  refine ⟨_, F.twin, rfl, ?_⟩
  unfold gTwin
  (try dsimp only [start, List.map, List.replicate, List.cons_append, List.nil_append, Nat.reduceSub])
  (with_reducible (refine s_set ?_; refine x_comp ?_; refine r_list ?_; refine x_attrF (by with_unfolding_all rfl) (by with_unfolding_all rfl) ?_); dsimp only [put])
  obtain ⟨cv, fs, c1, c2⟩ := k.cells
  refine r_lsK c1 ?_
  refine comp_rule (fun i acc σ' => Mini.Cj2 (Ex σ σ') (Mini.Ek1 fun fs' => Mini.Cj3 (CellsR σ' acc (h.cells.take i) fs') (fs'.flatten.Nodup) (∀ a ∈ fs'.flatten, σ.length ≤ a ∧ a < σ'.length))) (by rw [c2.l1]; simp [lim]; walk_at "o") ⟨Ex.refl, [], ⟨rfl, rfl, fun z => by simp at z⟩, by simp, by simp⟩ ?_ ?_
  · rintro i v acc σ' K hv hl ⟨e, fs', q1, q2, q3⟩ hK
    refine ⟨e.get c1, ?_⟩
    have hi : i < h.cells.length := by rw [← c2.l1]; exact lt_of_get hv
    have hf : i < fs.length := by rw [c2.l2]; exact hi
    have hci : h.cells[i]? = some h.cells[i] := by simp [hi]
    have cr := c2.at_ hv hci (show fs[i]? = some fs[i] by simp [hf])
    with_reducible (refine x_callA (by with_unfolding_all rfl) ?_)
    refine w_copied F (cr.ex e) (sm _ (List.mem_of_getElem? hci)) fun σ'' v' f' e' k1 k2 k3 => ?_
    refine hK _ _ ⟨e.trans e', fs' ++ [f'], ?_, ?_, ?_⟩
    · have q4 : fs'.length = acc.length := by (rw [q1.l2]; rw [q1.l1])
      have q5 : (h.cells.take i).length = acc.length := q1.l1.symm
      (rw [List.take_add_one]; rw [hci]; rw [show (some h.cells[i]).toList = [h.cells[i]] from rfl])
      refine ⟨by (rw [List.length_append]; rw [List.length_append]; rw [q1.l1]); rfl, by (rw [List.length_append]; rw [List.length_append]; rw [q1.l2]); rfl, fun {j v c f} p1 p2 p3 => ?_⟩
      rcases Nat.lt_trichotomy j acc.length with hj | hj | hj
      · rw [List.getElem?_append_left hj] at p1
        rw [List.getElem?_append_left (by walk_at "o")] at p2 p3
        exact (q1.at_ p1 p2 p3).ex e'
      · subst hj
        rw [List.getElem?_append_right (Nat.le_refl _)] at p1
        rw [List.getElem?_append_right (by walk_at "o"), q5] at p2
        rw [List.getElem?_append_right (by walk_at "o"), q4] at p3
        simp at p1 p2 p3
        subst p1 p2 p3
        exact k1
      · have := lt_of_get p1
        simp at this; walk_at "o"
    · (rw [List.flatten_append]; rw [List.nodup_append])
      refine ⟨q2, by simpa using k2, ?_⟩
      intro u hu w hw
      simp at hw
      have := q3 u hu; have := k3 w hw; walk_at "o"
    · intro u hu
      rw [List.flatten_append, List.mem_append] at hu
      have := e'.len
      have := e.len
      rcases hu with hu | hu
      · have := q3 u hu; walk_at "o"
      · have := k3 u (by simpa using hu); walk_at "o"
  · rintro acc σ' ha ⟨e, fs', q1, q2, q3⟩
    refine ⟨e.get c1, ?_⟩
    rw [c2.l1, List.take_length] at q1
    have el := e.len
    with_reducible (refine s_ret ?_; refine x_hall ?_; refine l_cons ?_; refine x_attrF (by with_unfolding_all rfl) (by with_unfolding_all rfl) ?_; refine l_cons ?_; refine x_attrF (by with_unfolding_all rfl) (by with_unfolding_all rfl) ?_; refine l_cons ?_; refine x_b1 ?_; refine x_attrF (by with_unfolding_all rfl) (by with_unfolding_all rfl) ?_)
    have e1 : Ex σ (σ' ++ [acc]) := e.trans Ex.one
    refine b_list (e1.get k.done) (by simp [lim]; walk_at "o") ?_
    with_reducible (refine l_cons ?_; refine x_b1 ?_; refine x_attrF (by with_unfolding_all rfl) (by with_unfolding_all rfl) ?_)
    have e2 : Ex σ (σ' ++ [acc] ++ [h.done.map nv]) := e1.trans Ex.one
    refine b_list (e2.get k.stages) (by simp [lim]; walk_at "o") ?_
    with_reducible (refine l_atoms (by with_unfolding_all rfl) ?_)
    have e3 : Ex σ (σ' ++ [acc] ++ [h.done.map nv] ++ [h.stages.map stV]) := e2.trans Ex.one
    have z1 : Ex (σ' ++ [acc]) (σ' ++ [acc] ++ [h.done.map nv] ++ [h.stages.map stV]) := Ex.one.trans Ex.one
    refine ⟨rfl, hQ _ _ _ _ acc fs' e3 ?_⟩
    obtain ⟨gv, a1, a2⟩ := k.gates
    obtain ⟨rv, b1, b2⟩ := k.rows
    refine ⟨⟨gv, e3.get a1, lt_of_get a1, a2.mono fun _ _ q => q.ex e3 (Nat.le_refl _)⟩, ⟨rv, e3.get b1, lt_of_get b1, b2.mono fun _ _ q => q.ex e3 (Nat.le_refl _)⟩, Ex.one.get last_get, last_get, z1.get last_get, q1.ex (Ex.one.trans z1), ?_, ?_⟩
    · have hn : ∀ a, σ'.length ≤ a → a ∉ fs'.flatten := fun a ha z => by have := q3 a z; walk_at "o"
      simp only [List.nodup_cons, List.mem_cons, not_or, List.length_append, List.length_cons, List.length_nil]
      exact ⟨⟨by walk_at "o", by walk_at "o", hn _ (by walk_at "o")⟩, ⟨by walk_at "o", hn _ (by walk_at "o")⟩, hn _ (by walk_at "o"), q2⟩
    · intro a ha
      simp only [List.mem_cons, List.length_append, List.length_cons, List.length_nil] at ha
      rcases ha with rfl | rfl | rfl | ha
      · walk_at "o"
      · walk_at "o"
      · walk_at "o"
      · exact (q3 a ha).1
theorem w_through (F : HF ix Φ) {g r d s c w : Nat} {cv : List V} {fs : List (List Nat)} {h : Hl} (h0 : 0 < σ₀.length) (e : Ex σ₀ σ) (o : Own σ₀.length σ g r d s c cv fs h) (hw : w < h.rows.length) (hd : h.done.length = h.rows.length)
    (hQ : ∀ σ', Ex σ₀ σ' → Own σ₀.length σ' g r d s c cv fs { h with done := h.done.set w (h.dn w + 1) } → Q (stV (if h.dn w + 1 = (h.row w).length then (10, 0) else (2, 0))) σ') :
    callW Φ (n + 1) ix.through [.inst [.ref g, .ref r, .ref d, .ref s, .ref c], .int w] σ Q x := by
  refine ⟨_, F.through, rfl, ?_⟩
  unfold gThrough
  (try dsimp only [start, List.map, List.replicate, List.cons_append, List.nil_append, Nat.reduceSub])
  with_reducible (refine s_put ?_; refine x_bin ?_; refine x_idx ?_; refine x_attrF (by with_unfolding_all rfl) (by with_unfolding_all rfl) ?_; refine x_atom (by with_unfolding_all rfl) ?_)
  have hdl : w < h.done.length := by walk_at "o"
  have ge := o.ge d (by simp)
  refine x_item o.done (dn_get hdl) ?_
  with_reducible (refine x_atom (by with_unfolding_all rfl) ?_; refine b_add ?_; refine x_attrF (by with_unfolding_all rfl) (by with_unfolding_all rfl) ?_; refine x_atom (by with_unfolding_all rfl) ?_)
  refine s_puK (by walk_at "o") o.done (by walk_at "o") (by simp; walk_at "o") ?_
  have o' := o.setDone (w := w) (t := h.dn w + 1)
  have e' : Ex σ₀ (σ.set d ((h.done.map nv).set w (nv (h.dn w + 1)))) := e.set ge
  show WSs _ _ _ _ (σ.set d ((h.done.map nv).set w (nv (h.dn w + 1)))) _ _
  generalize σ.set d ((h.done.map nv).set w (nv (h.dn w + 1))) = σ' at *
  with_reducible (refine s_if1 ?_; refine t_cmp ?_; refine x_idx ?_; refine x_attrF (by with_unfolding_all rfl) (by with_unfolding_all rfl) ?_; refine x_atom (by with_unfolding_all rfl) ?_)
  refine x_item (v := .int (h.dn w + 1 : Nat)) o'.done (by (rw [List.map_set]; rw [List.getElem?_set_self (by simpa using hdl)]); rfl) ?_
  obtain ⟨rv, a, e1, e2, e3, e4⟩ := o'.rep.row (w := w) hw
  with_reducible (refine x_b1 ?_; refine x_idx ?_; refine x_attrF (by with_unfolding_all rfl) (by with_unfolding_all rfl) ?_; refine x_atom (by with_unfolding_all rfl) ?_)
  refine x_item e1 e3 ?_
  skip
  refine b_len e4 ?_
  with_reducible (refine e_eq ?_; refine k_tru ?_)
  have hq := hQ σ' e' o'
  rw [List.length_map]
  refine k_dec (fun z => ?_) fun z => ?_
  · with_reducible (refine s_ret ?_; refine x_tupA (by with_unfolding_all rfl) ?_)
    rw [if_pos (show h.dn w + 1 = (h.row w).length from Int.ofNat.inj z)] at hq
    exact hq
  · with_reducible (refine s_ret ?_; refine x_tupA (by with_unfolding_all rfl) ?_)
    rw [if_neg (show ¬ (h.dn w + 1 = (h.row w).length) from fun q => z (congrArg Int.ofNat q))] at hq
    exact hq
theorem w_counted (F : HF ix Φ) {g r d s c w t k : Nat} {cv : List V} {fs : List (List Nat)} {h : Hl} {l sd : Int} (h0 : 0 < σ₀.length) (e : Ex σ₀ σ) (o : Own σ₀.length σ g r d s c cv fs h) (f : WF h) (hw : w < h.rows.length) (ht : t < h.gates.length) (hc : h.cell t = .cnt l sd) {u : Nat}
    (hQ : ∀ σ', Ex σ₀ σ' → Own σ₀.length σ' g r d s c cv fs { h with cells := h.cells.set t (cellStep (h.gate t) w (h.passed w t + 1) (k, u) (.cnt l sd)).1 } → Q (stV (cellStep (h.gate t) w (h.passed w t + 1) (k, u) (.cnt l sd)).2) σ') :
    callW Φ (n + 4) ix.counted [.inst [.ref g, .ref r, .ref d, .ref s, .ref c], .int w, .int t, .str k] σ Q x := by
  refine ⟨_, F.counted, rfl, ?_⟩
  unfold gCounted
  (try dsimp only [start, List.map, List.replicate, List.cons_append, List.nil_append, Nat.reduceSub])
  (with_reducible (refine s_set ?_; refine x_idx ?_; refine x_attrF (by with_unfolding_all rfl) (by with_unfolding_all rfl) ?_; refine x_atom (by with_unfolding_all rfl) ?_); dsimp only [put])
  have htc : t < h.cells.length := by rw [f.lc]; exact ht
  obtain ⟨v, fp, c1, c2, c3⟩ := o.cell htc
  rw [hc] at c3
  obtain ⟨a, rfl, rfl, c4⟩ := c3
  have ge := o.ge a (by simp [mem_flat c2 (List.mem_singleton.mpr rfl)])
  have al := lt_of_get c4
  refine x_item o.cells c1 ?_
  (with_reducible (refine s_set ?_; refine x_b1 ?_; refine x_idx ?_; refine x_idx ?_; refine x_attrF (by with_unfolding_all rfl) (by with_unfolding_all rfl) ?_; refine x_atom (by with_unfolding_all rfl) ?_); dsimp only [put])
  obtain ⟨gv, ga, g1, _, g2, g3⟩ := o.rep.gate ht
  refine x_item g1 g2 ?_
  with_reducible (refine x_atom (by with_unfolding_all rfl) ?_; refine x_t1 ?_)
  refine b_lenE g3 (by rw [List.length_map]) ?_
  with_reducible (refine s_if1 ?_; refine t_cmpA (by with_unfolding_all rfl) (by with_unfolding_all rfl) ?_; refine e_seq ?_; refine k_tru ?_)
  refine k_dec (fun e1 => ?_) fun e1 => ?_
  · subst e1
    with_reducible (refine s_put ?_; refine x_bin ?_; refine x_idxA (by with_unfolding_all rfl) (by with_unfolding_all rfl) ?_)
    refine x_it (v := .int l) c4 (by walk_at "o") rfl ?_
    with_reducible (refine x_atom (by with_unfolding_all rfl) ?_; refine b_sub ?_; refine x_atom (by with_unfolding_all rfl) ?_; refine x_atom (by with_unfolding_all rfl) ?_)
    refine s_puK (by walk_at "o") c4 (by walk_at "o") (by simp) ?_
    have o' := o.setCell (cl := .cnt (l - 1) sd) (xs := [.int (l - 1), .int sd]) c2 (List.mem_singleton.mpr rfl) c1 ⟨a, rfl, rfl, get_set_eq al⟩
    have e' : Ex σ₀ (σ.set a [.int (l - 1), .int sd]) := e.set ge
    have hq := hQ _ e' (by simpa [cellStep] using o')
    show WSs _ _ _ _ (σ.set a [.int (l - 1), .int sd]) _ _
    with_reducible (refine s_if1 ?_; refine t_cmp ?_; refine x_idxA (by with_unfolding_all rfl) (by with_unfolding_all rfl) ?_)
    refine x_it (v := .int (l - 1)) (get_set_eq al) (by walk_at "o") rfl ?_
    with_reducible (refine x_atom (by with_unfolding_all rfl) ?_; refine e_eq ?_; refine k_tru ?_)
    refine k_dec (fun z => ?_) fun z => ?_
    · with_reducible (refine s_ret ?_; refine x_tupA (by with_unfolding_all rfl) ?_)
      simpa [cellStep, z, stV] using hq
    · with_reducible (refine s_ret ?_; refine x_tupA (by with_unfolding_all rfl) ?_)
      simpa [cellStep, z, stV] using hq
  with_reducible (refine s_if1 ?_; refine t_cmpA (by with_unfolding_all rfl) (by with_unfolding_all rfl) ?_; refine e_seq ?_; refine k_tru ?_)
  refine k_dec (fun e2 => ?_) fun e2 => ?_
  · subst e2
    with_reducible (refine s_put ?_; refine x_atom (by with_unfolding_all rfl) ?_; refine x_atom (by with_unfolding_all rfl) ?_; refine x_atom (by with_unfolding_all rfl) ?_)
    refine s_puK (by walk_at "o") c4 (by walk_at "o") (by simp) ?_
    have o' := o.setCell (cl := .cnt (h.gate t).2.length sd) (xs := [.int (h.gate t).2.length, .int sd]) c2 (List.mem_singleton.mpr rfl) c1 ⟨a, rfl, rfl, get_set_eq al⟩
    have e' : Ex σ₀ (σ.set a [.int (h.gate t).2.length, .int sd]) := e.set ge
    have hq := hQ _ e' (by simpa [cellStep] using o')
    show WSs _ _ _ _ (σ.set a [.int (h.gate t).2.length, .int sd]) _ _
    with_reducible (refine s_ret ?_; refine x_tupA (by with_unfolding_all rfl) ?_)
    simpa [cellStep, stV] using hq
  with_reducible (refine s_if1 ?_; refine t_cmpA (by with_unfolding_all rfl) (by with_unfolding_all rfl) ?_; refine e_seq ?_; refine k_tru ?_)
  refine k_dec (fun e3 => ?_) fun e3 => ?_
  · subst e3
    with_reducible (refine s_put ?_; refine x_call ?_; refine l_cons ?_; refine x_atom (by with_unfolding_all rfl) ?_; refine l_cons ?_; refine x_callA (by with_unfolding_all rfl) ?_)
    refine w_timeOf F o.rep hw f.ld (f.rl w hw) ht fun σ' e' => ?_
    have o' := o.ex e'
    have e'' := e.trans e'
    have c4' := e'.get c4
    have al' := lt_of_get c4'
    with_reducible (refine l_atoms (by with_unfolding_all rfl) ?_)
    refine w_signOf F ?_
    with_reducible (refine x_atom (by with_unfolding_all rfl) ?_; refine x_atom (by with_unfolding_all rfl) ?_)
    refine s_puK (by walk_at "o") c4' (by walk_at "o") (by simp) ?_
    have o'' := o'.setCell (cl := .cnt l (signOf 0 (h.passed w t + 1))) (xs := [.int l, .int (signOf 0 (h.passed w t + 1))]) c2 (List.mem_singleton.mpr rfl) c1 ⟨a, rfl, rfl, get_set_eq al'⟩
    have e3 : Ex σ₀ (σ'.set a [.int l, .int (signOf 0 (h.passed w t + 1))]) := e''.set ge
    have hq := hQ _ e3 (by simpa [cellStep] using o'')
    show WSs _ _ _ _ (σ'.set a [.int l, .int (signOf 0 (h.passed w t + 1))]) _ _
    with_reducible (refine s_nil ?_; refine s_ret ?_; refine x_tupA (by with_unfolding_all rfl) ?_)
    simpa [cellStep, stV] using hq
  · with_reducible (refine s_ret ?_; refine x_tupA (by with_unfolding_all rfl) ?_)
    have hst : cellStep (h.gate t) w (h.passed w t + 1) (k, u) (.cnt l sd) = (.cnt l sd, (6, 0)) := by simp [cellStep, e1, e2, e3]
    rw [hst] at hQ
    have hq := hQ σ e (by (rw [← hc]; rw [set_same]); exact o)
    exact hq
end
end Mini

set_option autoImplicit false
set_option linter.unusedVariables false


namespace Mini
section
variable {Φ : Nat → Option Fn} {n : Nat} {σ σ₀ : H} {Q : P} {x : X}
theorem w_rowed (F : HF ix Φ) {g r d s c w t k u : Nat} {cv : List V} {fs : List (List Nat)} {h : Hl} {b : List (List Int)} (h0 : 0 < σ₀.length) (e : Ex σ₀ σ) (o : Own σ₀.length σ g r d s c cv fs h) (f : WF h) (hw : w < h.rows.length) (ht : t < h.gates.length) (hm : w ∈ (h.gate t).2) (hc : h.cell t = .row b)
    (hst : h.stg w = (k, u)) (hu : k = 2 ∨ u < rnd (h.gate t).2.length)
    (hQ : ∀ σ', Ex σ₀ σ' → Own σ₀.length σ' g r d s c cv fs { h with cells := h.cells.set t (cellStep (h.gate t) w (h.passed w t + 1) (k, u) (.row b)).1 } → Q (stV (cellStep (h.gate t) w (h.passed w t + 1) (k, u) (.row b)).2) σ') :
    callW Φ (n + 4) ix.rowed [.inst [.ref g, .ref r, .ref d, .ref s, .ref c], .int w, .int t, .str k] σ Q x := by
  refine ⟨_, F.rowed, rfl, ?_⟩
  unfold gRowed
  (try dsimp only [start, List.map, List.replicate, List.cons_append, List.nil_append, Nat.reduceSub])
  (with_reducible (refine s_set ?_; refine x_idx ?_; refine x_idx ?_; refine x_attrF (by with_unfolding_all rfl) (by with_unfolding_all rfl) ?_; refine x_atom (by with_unfolding_all rfl) ?_); dsimp only [put])
  have htc : t < h.cells.length := by rw [f.lc]; exact ht
  have ck := f.cell t ht
  have gm := f.gm t ht
  have r4 := rnd_le (h.gate t).2.length
  rw [hc] at ck
  have pos : 0 < (h.gate t).2.length := List.length_pos_of_mem hm
  obtain ⟨gv, ga, g1, _, g2, g3⟩ := o.rep.gate ht
  have same : Own σ₀.length σ g r d s c cv fs { h with cells := h.cells.set t (.row b) } := by
    (rw [← hc]; rw [set_same]); exact o
  have hsg := stg_get (h := h) (n := w) (by rw [f.ls]; exact hw)
  rw [hst] at hsg
  refine x_item g1 g2 ?_
  (with_reducible (refine x_atom (by with_unfolding_all rfl) ?_; refine x_t1 ?_; refine s_set ?_; refine x_b1A (by with_unfolding_all rfl) ?_); dsimp only [put])
  refine b_lenE g3 (by rw [List.length_map]) ?_
  (with_reducible (refine s_set ?_; refine x_idx ?_; refine x_idx ?_; refine x_attrF (by with_unfolding_all rfl) (by with_unfolding_all rfl) ?_; refine x_atom (by with_unfolding_all rfl) ?_); dsimp only [put])
  refine x_item o.stages hsg ?_
  (with_reducible (refine x_atom (by with_unfolding_all rfl) ?_; refine x_t1 ?_; refine s_ite ?_; refine t_cmpA (by with_unfolding_all rfl) (by with_unfolding_all rfl) ?_; refine e_seq ?_; refine k_tru ?_); dsimp only [put])
  refine k_dec (fun e1 => ?_) fun e1 => ?_
  · subst e1
    (with_reducible (refine s_setA (by with_unfolding_all rfl) ?_; refine s_nil ?_; refine s_if1 ?_; refine t_cmp ?_; refine x_atom (by with_unfolding_all rfl) ?_; refine x_callA (by with_unfolding_all rfl) ?_); dsimp only [put])
    refine w_rounds F (by walk_at "o") ?_
    with_reducible (refine e_eq ?_; refine k_tru ?_)
    simp only [cellStep, if_true] at hQ
    have hq := hQ σ e same
    refine k_dec (fun z => ?_) fun z => ?_
    · with_reducible (refine s_ret ?_; refine x_tupA (by with_unfolding_all rfl) ?_)
      rw [if_pos (show 0 = rnd (h.gate t).2.length from Int.ofNat.inj z)] at hq
      exact hq
    · with_reducible (refine s_ret ?_; refine x_tupA (by with_unfolding_all rfl) ?_)
      rw [if_neg (show ¬ (0 = rnd (h.gate t).2.length) from fun q => z (congrArg Int.ofNat q))] at hq
      exact hq
  have hu : u < rnd (h.gate t).2.length := by walk_at "o"
  with_reducible (refine s_ite ?_; refine t_cmpA (by with_unfolding_all rfl) (by with_unfolding_all rfl) ?_; refine e_seq ?_; refine k_tru ?_)
  refine k_dec (fun e2 => ?_) fun e2 => ?_
  · subst e2
    (with_reducible (refine s_set ?_; refine x_callA (by with_unfolding_all rfl) ?_); dsimp only [put])
    refine w_timeOf F o.rep hw f.ld (f.rl w hw) ht fun σ' e' => ?_
    have o' := o.ex e'
    have e'' := e.trans e'
    (with_reducible (refine s_set ?_; refine x_call ?_; refine l_cons ?_; refine x_m1 ?_; refine x_atom (by with_unfolding_all rfl) ?_; refine x_isRef ?_; refine x_atom (by with_unfolding_all rfl) ?_); dsimp only [put])
    refine b_index (e'.get g3) hm ?_
    with_reducible (refine l_atoms (by with_unfolding_all rfl) ?_)
    refine w_partner F (by walk_at "o") pos ?_
    with_reducible (refine s_put ?_; refine x_callA (by with_unfolding_all rfl) ?_)
    refine w_signOf F ?_
    with_reducible (refine x_idx ?_; refine x_idx ?_; refine x_attrF (by with_unfolding_all rfl) (by with_unfolding_all rfl) ?_; refine x_atom (by with_unfolding_all rfl) ?_)
    obtain ⟨v, fp, c1, c2, c3⟩ := o'.cell htc
    rw [hc] at c3
    obtain ⟨a, as, rfl, rfl, c4, c5⟩ := c3
    refine x_item o'.cells c1 ?_
    with_reducible (refine x_atom (by with_unfolding_all rfl) ?_)
    generalize hot : ((h.gate t).2.idxOf w + 2 ^ u) % (h.gate t).2.length = ot
    have hol : ot < b.length := by (rw [ck.2.1]; rw [← hot]); exact Nat.mod_lt _ pos
    obtain ⟨bx, d1, d2⟩ := c5.right (get_of_lt (d := []) hol)
    refine x_item (v := .ref bx) c4 (by (rw [List.getElem?_map]; rw [d1]); rfl) ?_
    with_reducible (refine x_callA (by with_unfolding_all rfl) ?_)
    refine w_boxOf F (by walk_at "o") ?_
    generalize htm : h.passed w t + 1 = tm at *
    have hbl : boxOf u tm (h.gate t).2.length < (b.getD ot []).length := by
      rw [ck.2.2 _ (List.mem_of_getElem? (get_of_lt hol))]
      exact box_lt (by walk_at "o")
    have hmem : bx ∈ a :: as := List.mem_cons_of_mem _ (List.mem_of_getElem? d1)
    have ge := o'.ge bx (by simp [mem_flat c2 hmem])
    have hbx := lt_of_get d2
    refine s_puK (by walk_at "o") d2 (by walk_at "o") (by rw [List.length_map]; walk_at "o") ?_
    have nd : (a :: as).Nodup := by
      have h1 := (List.nodup_cons.mp (List.nodup_cons.mp (List.nodup_cons.mp o'.nodup).2).2).2
      exact (List.sublist_flatten_of_mem (List.mem_of_getElem? c2)).nodup h1
    (rw [Int.toNat_natCast]; rw [show ((b.getD ot []).map V.int).set (boxOf u tm (h.gate t).2.length) (V.int (signOf 1 tm)) = ((b.getD ot []).set (boxOf u tm (h.gate t).2.length) (signOf 1 tm)).map V.int by rw [List.map_set]])
    have o'' := o'.setCell (cl := .row (put2 b ot (boxOf u tm (h.gate t).2.length) (signOf 1 tm))) (xs := ((b.getD ot []).set (boxOf u tm (h.gate t).2.length) (signOf 1 tm)).map V.int) c2 hmem c1 ⟨a, as, rfl, rfl, get_set_ne (fun z => (List.nodup_cons.mp nd).1 (by rw [← z]; exact List.mem_of_getElem? d1)) c4, ?_⟩
    · have hq := hQ _ (e''.set ge) (by simp only [cellStep, hot]; exact o'')
      simp only [cellStep] at hq
      with_reducible (refine s_ret ?_; refine x_tupA (by with_unfolding_all rfl) ?_)
      exact hq
    · refine ⟨by (rw [put2]; rw [List.length_set]); exact c5.len, fun {i y z} p q => ?_⟩
      by_cases hi : ot = i
      · subst hi
        rw [put2, List.getElem?_set_self hol] at q
        rw [d1] at p
        cases p; cases q
        exact get_set_eq hbx
      · rw [put2, List.getElem?_set_ne hi] at q
        refine get_set_ne (fun z => hi ?_) (c5.at_ p q)
        subst z
        have n2 := (List.nodup_cons.mp nd).2
        have l1 := lt_of_get d1
        have l2 := lt_of_get p
        exact (List.getElem_inj n2).mp ((List.getElem?_eq_some_iff.mp d1).2.trans (List.getElem?_eq_some_iff.mp p).2.symm)
  · (with_reducible (refine s_set ?_; refine x_binA (by with_unfolding_all rfl) (by with_unfolding_all rfl) ?_; refine b_add ?_; refine s_nil ?_; refine s_nil ?_; refine s_if1 ?_; refine t_cmp ?_; refine x_atom (by with_unfolding_all rfl) ?_; refine x_callA (by with_unfolding_all rfl) ?_); dsimp only [put])
    refine w_rounds F (by walk_at "o") ?_
    with_reducible (refine e_eq ?_; refine k_tru ?_)
    simp only [cellStep, e1, e2, if_false] at hQ
    have hq := hQ σ e same
    refine k_dec (fun z => ?_) fun z => ?_
    · with_reducible (refine s_ret ?_; refine x_tupA (by with_unfolding_all rfl) ?_)
      rw [if_pos (show u + 1 = rnd (h.gate t).2.length from Int.ofNat.inj z)] at hq
      exact hq
    · with_reducible (refine s_ret ?_; refine x_tupA (by with_unfolding_all rfl) ?_)
      rw [if_neg (show ¬ (u + 1 = rnd (h.gate t).2.length) from fun q => z (congrArg Int.ofNat q))] at hq
      exact hq
end
end Mini

set_option autoImplicit false
set_option linter.unusedVariables false


namespace Mini
section
variable {Φ : Nat → Option Fn} {n : Nat} {σ σ₀ : H} {Q : P} {x : X}
theorem WF.sm {h : Hl} (f : WF h) : ∀ cl ∈ h.cells, CellSm cl := by
  intro cl hcl
  obtain ⟨i, hi, rfl⟩ := List.getElem_of_mem hcl
  have hg : i < h.gates.length := by rw [← f.lc]; exact hi
  have : h.cell i = h.cells[i] := getD_of (by simp [hi])
  rw [← this]
  exact (f.cell i hg).sm (f.gm i hg)
theorem w_steppedO (F : HF ix Φ) {w g r d s c : Nat} {h : Hl} (k : Rep' σ g r d s c h) (f : WF h) (hg : h.gates.length ≤ 12) (hr : h.rows.length ≤ 12) (hw : w < h.rows.length) (h0 : 0 < σ.length)
    (hQ : ∀ σ' d' s' c' cv fs, Ex σ σ' → Own σ.length σ' g r d' s' c' cv fs (h.step w) → Q (.tup [.inst [.ref g, .ref r, .ref d', .ref s', .ref c'], h.told w]) σ') : callW Φ (n + 5) ix.stepped [.inst [.ref g, .ref r, .ref d, .ref s, .ref c], .int w] σ Q x := by
  refine ⟨_, F.stepped, rfl, ?_⟩
  unfold gStepped
  (try dsimp only [start, List.map, List.replicate, List.cons_append, List.nil_append, Nat.reduceSub])
  with_reducible (refine s_expr ?_; refine x_callA (by with_unfolding_all rfl) ?_)
  refine w_needWalker F k hw ?_
  with_reducible (refine s_unpack ?_; refine x_callA (by with_unfolding_all rfl) ?_)
  have hc := f.lc
  have hd := f.ld
  have hs := f.ls
  refine w_ahead F k hw f.ld f.ls ?_ (fun e => ?_) fun e => ?_
  · rcases f.wk w hw with h1 | h1
    · exact .inl h1.1
    · exact .inr h1.1
  · (with_reducible (refine s_unK (by with_unfolding_all rfl) ?_; refine s_set ?_; refine x_callA (by with_unfolding_all rfl) ?_); dsimp only [put])
    refine w_twin F k f.sm (by walk_at "o") (by walk_at "o") (by walk_at "o") fun σ' d' s' c' cv fs e1 o => ?_
    with_reducible (refine s_if1 ?_; refine t_cmpA (by with_unfolding_all rfl) (by with_unfolding_all rfl) ?_; refine e_seq ?_; refine k_tru ?_)
    refine k_pos rfl ?_
    with_reducible (refine s_ret ?_; refine x_tup ?_; refine l_cons ?_; refine x_atom (by with_unfolding_all rfl) ?_; refine l_cons ?_; refine x_tupA (by with_unfolding_all rfl) ?_; refine l_atoms (by with_unfolding_all rfl) ?_)
    have hq := hQ σ' _ _ _ cv fs e1 (by (rw [Hl.step]; rw [if_pos e]); exact o)
    rw [Hl.told, if_pos e] at hq
    exact hq
  (with_reducible (refine s_unK (by with_unfolding_all rfl) ?_; refine s_set ?_; refine x_callA (by with_unfolding_all rfl) ?_); dsimp only [put])
  refine w_twin F k f.sm (by walk_at "o") (by walk_at "o") (by walk_at "o") fun σ1 d' s' c' cv fs e1 o => ?_
  with_reducible (refine s_if1 ?_; refine t_cmpA (by with_unfolding_all rfl) (by with_unfolding_all rfl) ?_; refine e_seq ?_; refine k_tru ?_)
  refine k_neg e ?_
  with_reducible (refine s_if1 ?_; refine t_callA (by with_unfolding_all rfl) ?_)
  refine w_vain F (k.ex e1) f hw fun σ2 e2 => ?_
  have o2 := o.ex e2
  have e12 := e1.trans e2
  obtain ⟨at1, at2⟩ := f.at_ hw e
  have so := f.st hw e
  have ck := f.cell _ at1
  unfold StOk at so
  with_reducible (refine k_tru ?_)
  cases hv : h.vain w with
  | true =>
    with_reducible (refine k_yes ?_; refine s_ret ?_; refine x_tup ?_; refine l_cons ?_; refine x_atom (by with_unfolding_all rfl) ?_; refine l_cons ?_; refine x_tupA (by with_unfolding_all rfl) ?_; refine l_atoms (by with_unfolding_all rfl) ?_)
    have hq := hQ σ2 _ _ _ cv fs e12 (by (rw [Hl.step]; rw [if_neg e]; rw [if_pos hv]); exact o2)
    rw [Hl.told, if_neg e, if_pos hv] at hq
    exact hq
  | false =>
    have hv' : ¬ h.vain w = true := by rw [hv]; decide
    simp only [Hl.told, if_neg e, if_neg hv'] at hQ
    with_reducible (refine k_no ?_; refine s_ite ?_; refine t_cmpA (by with_unfolding_all rfl) (by with_unfolding_all rfl) ?_; refine e_seq ?_; refine k_tru ?_)
    refine k_dec (fun z => ?_) fun z => ?_
    · (with_reducible (refine s_set ?_; refine x_callA (by with_unfolding_all rfl) ?_); dsimp only [put])
      refine w_through F h0 e12 o2 hw f.ld fun σ3 e3 o3 => ?_
      with_reducible (refine s_nil ?_; refine s_put ?_; refine x_atom (by with_unfolding_all rfl) ?_; refine x_attrF (by with_unfolding_all rfl) (by with_unfolding_all rfl) ?_; refine x_atom (by with_unfolding_all rfl) ?_)
      have ge := o3.ge s' (by simp)
      refine s_puK (by walk_at "o") o3.stages (by walk_at "o") (by simp; walk_at "o") ?_
      (with_reducible (refine s_ret ?_; refine x_tup ?_; refine l_cons ?_; refine x_atom (by with_unfolding_all rfl) ?_; refine l_cons ?_; refine x_tupA (by with_unfolding_all rfl) ?_; refine l_atoms (by with_unfolding_all rfl) ?_); dsimp only [put])
      refine hQ _ _ _ _ cv fs (e3.set ge) ?_
      (rw [Hl.step]; rw [if_neg e]; rw [if_neg hv']; rw [if_pos z])
      exact o3.setStage
    · obtain ⟨gv, ga, g1, _, g2, g3⟩ := (k.ex e12).gate at1
      with_reducible (refine s_ite ?_; refine t_cmp ?_; refine x_idx ?_; refine x_idx ?_; refine x_attrF (by with_unfolding_all rfl) (by with_unfolding_all rfl) ?_; refine x_atom (by with_unfolding_all rfl) ?_)
      refine x_item g1 g2 ?_
      with_reducible (refine x_atom (by with_unfolding_all rfl) ?_; refine x_t0 ?_; refine x_atom (by with_unfolding_all rfl) ?_; refine e_seq ?_; refine k_tru ?_)
      have fin : ∀ σ3, Ex σ σ3 → Own σ.length σ3 g r d' s' c' cv fs { h with cells := h.cells.set (h.at_ w) (h.cstep w).1 } →
          WSs (callW Φ (n + 4)) [.put (.attr (.var 4) 3) (.var 1) (.var 5), .ret (.tup [(.var 4), (.tup [(.var 1), (.var 2), (.var 3)])])] x
            [some (.inst [.ref g, .ref r, .ref d, .ref s, .ref c]), some (.int w), some (.int (h.at_ w)), some (.str (h.stg w).1), some (.inst [.ref g, .ref r, .ref d', .ref s', .ref c']), some (stV (h.cstep w).2), none, none, none] σ3 (fun _ σ => Q .none σ) Q := by
        intro σ3 e3 o3
        with_reducible (refine s_put ?_; refine x_atom (by with_unfolding_all rfl) ?_; refine x_attrF (by with_unfolding_all rfl) (by with_unfolding_all rfl) ?_; refine x_atom (by with_unfolding_all rfl) ?_)
        have ge := o3.ge s' (by simp)
        refine s_puK (by walk_at "o") o3.stages (by walk_at "o") (by simp; walk_at "o") ?_
        (with_reducible (refine s_ret ?_; refine x_tup ?_; refine l_cons ?_; refine x_atom (by with_unfolding_all rfl) ?_; refine l_cons ?_; refine x_tupA (by with_unfolding_all rfl) ?_; refine l_atoms (by with_unfolding_all rfl) ?_); dsimp only [put])
        refine hQ _ _ _ _ cv fs (e3.set ge) ?_
        (rw [Hl.step]; rw [if_neg e]; rw [if_neg hv']; rw [if_neg z])
        exact o3.setStage
      refine k_dec (fun z2 => ?_) fun z2 => ?_
      · (with_reducible (refine s_set ?_; refine x_callA (by with_unfolding_all rfl) ?_); dsimp only [put])
        cases hcl : h.cell (h.at_ w) with
        | row b => rw [hcl] at ck; exact absurd ck.1 (by walk_at "o")
        | cnt l sd =>
          refine w_counted F h0 e12 o2 f hw at1 hcl (u := (h.stg w).2) fun σ3 e3 o3 => ?_
          have hcs : cellStep (h.gate (h.at_ w)) w (h.passed w (h.at_ w) + 1) ((h.stg w).1, (h.stg w).2) (.cnt l sd) = h.cstep w := by rw [← hcl]; rfl
          rw [hcs] at o3 ⊢
          exact fin σ3 e3 o3
      · (with_reducible (refine s_set ?_; refine x_callA (by with_unfolding_all rfl) ?_); dsimp only [put])
        cases hcl : h.cell (h.at_ w) with
        | cnt l sd => rw [hcl] at ck; exact absurd ck z2
        | row b =>
          refine w_rowed F h0 e12 o2 f hw at1 at2 hcl (u := (h.stg w).2) rfl (by walk_at "o") fun σ3 e3 o3 => ?_
          have hcs : cellStep (h.gate (h.at_ w)) w (h.passed w (h.at_ w) + 1) ((h.stg w).1, (h.stg w).2) (.row b) = h.cstep w := by rw [← hcl]; rfl
          rw [hcs] at o3 ⊢
          exact fin σ3 e3 o3
end
end Mini

set_option autoImplicit false
set_option linter.unusedVariables false


namespace Mini
theorem getD_set {α : Type} {l : List α} {i j : Nat} {x d : α} (hi : i < l.length) : (l.set i x).getD j d = if i = j then x else l.getD j d := by
  (rw [List.getD_eq_getElem?_getD]; rw [List.getD_eq_getElem?_getD])
  by_cases h : i = j
  · subst h; (rw [List.getElem?_set_self hi]; rw [if_pos rfl]); rfl
  · (rw [List.getElem?_set_ne h]; rw [if_neg h])
theorem cellStep_ok {g : Nat × List Nat} {w t : Nat} {st : Nat × Nat} (hs : StOk g st) (h6 : st.1 ≠ 6) : ∀ {c : Cell}, CellOk g c → CellOk g (cellStep g w t st c).1 ∧ StOk g (cellStep g w t st c).2
  | .cnt l s, h => by
    have h : g.1 = 0 := h
    unfold StOk at *
    unfold cellStep
    dsimp only
    repeat' split
    all_goals exact ⟨h, by simp [h]⟩
  | .row b, ⟨h1, h2, h3⟩ => by
    unfold StOk at hs
    unfold cellStep
    dsimp only
    split
    · refine ⟨⟨h1, h2, h3⟩, ?_⟩
      unfold StOk
      split
      · exact .inr (.inl rfl)
      · exact .inr (.inr (.inr ⟨h1, .inl rfl, by dsimp only; walk_at "o"⟩))
    split
    · refine ⟨⟨h1, by (rw [put2]; rw [List.length_set]); exact h2, fun y hy => ?_⟩, ?_⟩
      · rw [put2] at hy
        rcases List.mem_or_eq_of_mem_set hy with hy | hy
        · exact h3 y hy
        · subst hy
          rw [List.length_set]
          by_cases hl : ((g.2.idxOf w + 2 ^ st.2) % g.2.length) < b.length
          · exact h3 _ (List.mem_of_getElem? (get_of_lt hl))
          · rw [List.set_eq_of_length_le (by walk_at "o")] at hy
            have hp : 0 < g.2.length := by rw [← h2]; exact List.length_pos_of_mem hy
            have := Nat.mod_lt (g.2.idxOf w + 2 ^ st.2) hp
            walk_at "o"
      · exact .inr (.inr (.inr ⟨h1, .inr rfl, by dsimp only; walk_at "o"⟩))
    · refine ⟨⟨h1, h2, h3⟩, ?_⟩
      unfold StOk
      split
      · exact .inr (.inl rfl)
      · exact .inr (.inr (.inr ⟨h1, .inl rfl, by dsimp only; walk_at "o"⟩))
theorem Hl.step_gates {h : Hl} {w : Nat} : (h.step w).gates = h.gates := by unfold Hl.step; repeat' split
                                                                            all_goals rfl
theorem Hl.step_rows {h : Hl} {w : Nat} : (h.step w).rows = h.rows := by unfold Hl.step; repeat' split
                                                                         all_goals rfl
theorem WF.step {h : Hl} (f : WF h) {w : Nat} (hw : w < h.rows.length) : WF (h.step w) := by
  have hs := f.ls
  have hd := f.ld
  unfold Hl.step
  split
  · exact f
  rename_i e
  split
  · exact f
  split
  · refine ⟨by simpa using f.ld, by simpa using f.ls, f.lc, f.gm, f.cell, f.rl, f.rg, fun w' hw' => ?_⟩
    have e1 : ∀ t, Hl.stg { h with done := h.done.set w (h.dn w + 1), stages := h.stages.set w t } w' = if w = w' then t else h.stg w' := fun t => getD_set (by walk_at "o")
    have e2 : ∀ t, Hl.dn { h with done := h.done.set w (h.dn w + 1), stages := h.stages.set w t } w' = if w = w' then h.dn w + 1 else h.dn w' := fun t => getD_set (by walk_at "o")
    have lt := f.lt hw e
    by_cases hww : w = w'
    · subst hww
      simp only [e1, e2, if_true]
      by_cases hl : h.dn w + 1 = (h.row w).length
      · exact .inl ⟨by rw [if_pos hl], hl⟩
      · refine .inr ⟨?_, by rw [if_neg hl]; exact .inl rfl⟩
        show h.dn w + 1 < (h.row w).length
        walk_at "o"
    · have := f.wk w' hw'
      simp only [Hl.at_, e1, e2, if_neg hww]
      exact this
  · rename_i z
    obtain ⟨at1, at2⟩ := f.at_ hw e
    have so := f.st hw e
    obtain ⟨k1, k2⟩ := cellStep_ok (w := w) (t := h.time w) so z (f.cell _ at1)
    refine ⟨f.ld, by simpa using f.ls, by simpa using f.lc, f.gm, fun t ht => ?_, f.rl, f.rg, fun w' hw' => ?_⟩
    · have e1 : Hl.cell { h with cells := h.cells.set (h.at_ w) (h.cstep w).1, stages := h.stages.set w (h.cstep w).2 } t = if h.at_ w = t then (h.cstep w).1 else h.cell t := getD_set (by rw [f.lc]; exact at1)
      rw [e1]
      split
      · rename_i q; subst q; exact k1
      · exact f.cell t ht
    · have e1 : Hl.stg { h with cells := h.cells.set (h.at_ w) (h.cstep w).1, stages := h.stages.set w (h.cstep w).2 } w' = if w = w' then (h.cstep w).2 else h.stg w' := getD_set (by walk_at "o")
      rw [e1]
      split
      · rename_i q; subst q; exact .inr ⟨f.lt hw e, k2⟩
      · exact f.wk w' hw'
section
variable {Φ : Nat → Option Fn} {n : Nat} {σ σ₀ : H} {Q : P} {x : X}
theorem w_boxes (F : HF ix Φ) (FB : Φ ix.boxes = some (gBoxes ix)) {t : Nat} {v : V} {h : Hl} (k : Rep σ v h) (f : WF h) (ht : t < h.gates.length)
    (hQ : ∀ σ' v' f', Ex σ σ' → CellR σ' v' (h.cell t) f' → f'.Nodup → (∀ a ∈ f', σ.length ≤ a ∧ a < σ'.length) → Q v' σ') : callW Φ (n + 2) ix.boxes [v, .int t] σ Q x := by
  obtain ⟨g, r, d, s, c, rfl, k⟩ := k
  refine ⟨_, FB, rfl, ?_⟩
  unfold gBoxes
  (try dsimp only [start, List.map, List.replicate, List.cons_append, List.nil_append, Nat.reduceSub])
  with_reducible (refine s_expr ?_; refine x_callA (by with_unfolding_all rfl) ?_)
  refine w_needGate F k ht ?_
  with_reducible (refine s_ret ?_; refine x_call ?_; refine l_cons ?_; refine x_idx ?_; refine x_attrF (by with_unfolding_all rfl) (by with_unfolding_all rfl) ?_; refine x_atom (by with_unfolding_all rfl) ?_)
  obtain ⟨cv, v, fp, c1, c2, c3⟩ := k.cell (w := t) (by rw [f.lc]; exact ht)
  refine x_item c1 c2 ?_
  with_reducible (refine l_atoms (by with_unfolding_all rfl) ?_)
  exact w_copied F c3 ((f.cell t ht).sm (f.gm t ht)) hQ
theorem w_came (F : HF ix Φ) (FC : Φ ix.came = some (gCame ix)) {t w : Nat} {v : V} {h : Hl} (k : Rep σ v h) (f : WF h) (ht : t < h.gates.length) (hw : w < h.rows.length)
    (hQ : ∀ σ', Ex σ σ' → Q (.int ((h.passed w t + if (h.stg w).1 ≠ 2 ∧ (h.stg w).1 ≠ 10 ∧ h.at_ w = t then 1 else 0 : Nat))) σ') : callW Φ (n + 3) ix.came [v, .int w, .int t] σ Q x := by
  obtain ⟨g, r, d, s, c, rfl, k⟩ := k
  refine ⟨_, FC, rfl, ?_⟩
  unfold gCame
  (try dsimp only [start, List.map, List.replicate, List.cons_append, List.nil_append, Nat.reduceSub])
  (with_reducible (refine s_set ?_; refine x_callA (by with_unfolding_all rfl) ?_); dsimp only [put])
  refine w_passed F k hw f.ld (f.rl w hw) ht fun σ' e => ?_
  have k' := k.ex e
  with_reducible (refine s_if1 ?_; refine t_and ?_; refine t_cmp ?_; refine x_idx ?_; refine x_idx ?_; refine x_attrF (by with_unfolding_all rfl) (by with_unfolding_all rfl) ?_; refine x_atom (by with_unfolding_all rfl) ?_)
  refine x_item k'.stages (stg_get (by rw [f.ls]; exact hw)) ?_
  with_reducible (refine x_atom (by with_unfolding_all rfl) ?_; refine x_t0 ?_; refine x_tupA (by with_unfolding_all rfl) ?_)
  refine c_notin2 ?_
  with_reducible (refine k_tru ?_)
  refine k_dec (fun z => ?_) fun z => ?_
  · obtain ⟨rv, a, e1, e2, e3, e4⟩ := k'.row hw
    with_reducible (refine t_cmp ?_; refine x_idx ?_; refine x_idx ?_; refine x_attrF (by with_unfolding_all rfl) (by with_unfolding_all rfl) ?_; refine x_atom (by with_unfolding_all rfl) ?_)
    refine x_item e1 e3 ?_
    with_reducible (refine x_idx ?_; refine x_attrF (by with_unfolding_all rfl) (by with_unfolding_all rfl) ?_; refine x_atom (by with_unfolding_all rfl) ?_)
    refine x_item k'.done (dn_get (by rw [f.ld]; exact hw)) ?_
    skip
    refine x_item e4 (at_get (f.lt hw z.2)) ?_
    with_reducible (refine x_atom (by with_unfolding_all rfl) ?_; refine e_eq ?_; refine k_tru ?_)
    refine k_dec (fun z2 => ?_) fun z2 => ?_
    · with_reducible (refine s_set ?_; refine x_binA (by with_unfolding_all rfl) (by with_unfolding_all rfl) ?_; refine b_add ?_; refine s_nil ?_; refine s_retA (by with_unfolding_all rfl) ?_)
      have hq := hQ σ' e
      rw [if_pos ⟨z.1, z.2, Int.ofNat.inj z2⟩] at hq
      exact hq
    · with_reducible (refine s_retA (by with_unfolding_all rfl) ?_)
      have hq := hQ σ' e
      rw [if_neg (fun q => z2 (congrArg Int.ofNat q.2.2))] at hq
      exact hq
  · with_reducible (refine k_no ?_; refine s_retA (by with_unfolding_all rfl) ?_)
    have hq := hQ σ' e
    rw [if_neg (fun q => z ⟨q.1, q.2.1⟩)] at hq
    exact hq
theorem w_passed' (F : HF ix Φ) {t w : Nat} {v : V} {h : Hl} (k : Rep σ v h) (f : WF h) (ht : t < h.gates.length) (hw : w < h.rows.length) (hQ : ∀ σ', Ex σ σ' → Q (.int (h.passed w t)) σ') : callW Φ (n + 2) ix.passed [v, .int w, .int t] σ Q x := by
  obtain ⟨g, r, d, s, c, rfl, k⟩ := k
  exact w_passed F k hw f.ld (f.rl w hw) ht hQ
theorem w_ahead' (F : HF ix Φ) {w : Nat} {v : V} {h : Hl} (k : Rep σ v h) (f : WF h) (hw : w < h.rows.length)
    (h1 : (h.stg w).1 = 10 → Q (.tup [.none, .str 10]) σ) (h2 : (h.stg w).1 ≠ 10 → Q (.tup [.int (h.at_ w), .str (h.stg w).1]) σ) : callW Φ (n + 2) ix.ahead [v, .int w] σ Q x := by
  obtain ⟨g, r, d, s, c, rfl, k⟩ := k
  refine w_ahead F k hw f.ld f.ls ?_ h1 h2
  rcases f.wk w hw with h1 | h1
  · exact .inl h1.1
  · exact .inr h1.1
end
end Mini

set_option autoImplicit false
set_option linter.unusedVariables false


namespace Mini
theorem snap_ints (n : Nat) (σ : H) : ∀ l : List Int, mapO (snap n σ) (l.map V.int) = some (l.map D.int)
  | [] => rfl
  | i :: l => by
    have h : snap n σ (.int i) = some (.int i) := by unfold snap; rfl
    simp only [List.map_cons, mapO, h, snap_ints n σ l]
theorem dint_inj {l l' : List Int} : l.map D.int = l'.map D.int ↔ l = l' := by
  constructor
  · intro h
    exact List.map_inj_right (fun a b z => by cases z; rfl) |>.mp h
  · exact congrArg _
theorem dint_mem {l : List Int} {i : Int} : D.int i ∈ l.map D.int ↔ i ∈ l := by
  rw [List.mem_map]
  exact ⟨fun ⟨j, h1, h2⟩ => by cases h2; exact h1, fun h => ⟨i, h, rfl⟩⟩
theorem of_mem {l : List Nat} {m : Nat} : (m : Int) ∈ l.map Int.ofNat ↔ m ∈ l := by
  rw [List.mem_map]
  exact ⟨fun ⟨j, h1, h2⟩ => by cases h2; exact h1, fun h => ⟨m, h, rfl⟩⟩
section
variable {σ : H} {Q : P} {x : X}
theorem c_in {m b : Nat} {l : List Nat} (hx : σ[b]? = some (l.map nv)) (h : Q (.bool (decide (m ∈ l))) σ) : cmpop .inn (.int m) (.ref b) σ Q := ⟨.int m, l.map nv, _, rfl, hx, (by rw [nv_int]; exact snap_ints 11 σ _), fun q hq => by
  have : q = decide (m ∈ l) := by (rw [Bool.eq_iff_iff]; rw [hq]; rw [dint_mem]; rw [of_mem]); simp
  rw [this]; exact h⟩
theorem c_notIn {m b : Nat} {l : List Nat} (hx : σ[b]? = some (l.map nv)) (h : Q (.bool (decide (m ∉ l))) σ) : cmpop .notIn (.int m) (.ref b) σ Q := ⟨.int m, l.map nv, _, rfl, hx, (by rw [nv_int]; exact snap_ints 11 σ _), fun q hq => by
  have : q = decide (m ∉ l) := by (rw [Bool.eq_iff_iff]; rw [hq]; rw [dint_mem]; rw [of_mem]); simp
  rw [this]; exact h⟩
theorem snap_list {a : Nat} {l : List Int} (hx : σ[a]? = some (l.map V.int)) : snap 12 σ (.ref a) = some (.list (l.map D.int)) := by
  show (match σ[a]? with | some xs => (mapO (snap 11 σ) xs).map D.list | .none => .none) = _
  rw [hx]
  show (mapO (snap 11 σ) (l.map V.int)).map D.list = _
  rw [snap_ints]; rfl
theorem c_eqL {a b : Nat} {l l' : List Int} (hx : σ[a]? = some (l.map V.int)) (hy : σ[b]? = some (l'.map V.int)) (h : Q (.bool (decide (l = l'))) σ) : cmpop .eq (.ref a) (.ref b) σ Q := ⟨_, _, snap_list hx, snap_list hy, fun q hq => by
  have : q = decide (l = l') := by
    (rw [Bool.eq_iff_iff]; rw [hq]); simp only [D.list.injEq, dint_inj, decide_eq_true_eq]
  rw [this]; exact h⟩
theorem c_neL {a b : Nat} {l l' : List Int} (hx : σ[a]? = some (l.map V.int)) (hy : σ[b]? = some (l'.map V.int)) (h : Q (.bool (decide (l ≠ l'))) σ) : cmpop .ne (.ref a) (.ref b) σ Q := ⟨_, _, snap_list hx, snap_list hy, fun q hq => by
  have : q = decide (l ≠ l') := by
    (rw [Bool.eq_iff_iff]; rw [hq]); simp only [D.list.injEq, dint_inj, decide_eq_true_eq, ne_eq]
  rw [this]; exact h⟩
theorem b_rep {a k : Nat} {i : Int} (hx : σ[a]? = some [.int i]) (hk : k ≤ 100) (h : Q (.ref σ.length) (σ ++ [(List.replicate k i).map V.int])) : binop .mul (.ref a) (.int k) σ Q := by
  have e : (List.replicate k [V.int i]).flatten = (List.replicate k i).map V.int := by
    induction k with
    | zero => rfl
    | succ k ih => simp [List.replicate_succ]
  refine ⟨rfl, _, hx, by walk_at "o", by walk_at "o", ?_, ?_⟩
  · (rw [Int.toNat_natCast]; rw [e]); simp [lim]; walk_at "o"
  · (rw [Int.toNat_natCast]; rw [e]); exact h
end
theorem enum_get : ∀ {xs : List V} {k i : Nat} {v : V}, (enumV k xs)[i]? = some v → ∃ u, xs[i]? = some u ∧ v = .tup [.int (k + i : Nat), u]
  | [], k, i, v, h => by simp [enumV] at h
  | y :: ys, k, 0, v, h => by simp [enumV] at h; exact ⟨y, rfl, h.symm⟩
  | y :: ys, k, i + 1, v, h => by
    simp only [enumV, List.getElem?_cons_succ] at h
    obtain ⟨u, h1, h2⟩ := enum_get h
    exact ⟨u, by simpa using h1, by rw [h2]; congr 4; walk_at "o"⟩
theorem enum_len : ∀ (xs : List V) (k : Nat), (enumV k xs).length = xs.length
  | [], _ => rfl
  | y :: ys, k => by simp [enumV, enum_len ys]
noncomputable def initCell (g : Nat × List Nat) : Cell := if g.1 = 0 then .cnt g.2.length 0 else .row (List.replicate g.2.length (List.replicate (2 * rnd g.2.length) 0))
noncomputable def initSt (row : List Nat) : Nat × Nat := if row = [] then (10, 0) else (2, 0)
noncomputable def Hl.init (gates : List (Nat × List Nat)) (rows : List (List Nat)) : Hl := ⟨gates, rows, List.replicate rows.length 0, rows.map initSt, gates.map initCell⟩
structure GateOk (k : Nat) (g : Nat × List Nat) : Prop where
  word : g.1 = 0 ∨ g.1 = 1
  some : g.2 ≠ []
  nodup : g.2.Nodup
  lt : ∀ m ∈ g.2, m < k
structure RowOk (gates : List (Nat × List Nat)) (w : Nat) (row : List Nat) : Prop where
  len : row.length ≤ 40
  lt : ∀ g ∈ row, g < gates.length ∧ w ∈ (gates.getD g (0, [])).2
structure HallOk (gates : List (Nat × List Nat)) (rows : List (List Nat)) : Prop where
  r1 : 1 ≤ rows.length
  r2 : rows.length ≤ 12
  g1 : 1 ≤ gates.length
  g2 : gates.length ≤ 12
  gate : ∀ g ∈ gates, GateOk rows.length g
  row : ∀ w row, rows[w]? = some row → RowOk gates w row
theorem pigeon : ∀ (k : Nat) (l : List Nat), l.Nodup → (∀ m ∈ l, m < k) → l.length ≤ k
  | 0, [], _, _ => Nat.le_refl _
  | 0, a :: l, _, h => absurd (h a (by simp)) (Nat.not_lt_zero _)
  | k + 1, l, hn, h => by
    have := pigeon k (l.erase k) (hn.erase k) (fun m hm => by
      rw [hn.mem_erase_iff] at hm
      have := h m hm.2; walk_at "o")
    rw [List.length_erase] at this
    split at this <;> walk_at "o"
theorem GateOk.len {k : Nat} {g : Nat × List Nat} (h : GateOk k g) : g.2.length ≤ k := pigeon k _ h.nodup h.lt
theorem HallOk.wf {gates : List (Nat × List Nat)} {rows : List (List Nat)} (h : HallOk gates rows) : WF (Hl.init gates rows) := by
  have gk : ∀ g, g < gates.length → GateOk rows.length ((Hl.init gates rows).gate g) := fun g hg => h.gate _ (List.mem_of_getElem? (get_of_lt hg))
  refine ⟨by simp [Hl.init], by simp [Hl.init], by simp [Hl.init], fun g hg => Nat.le_trans (gk g hg).len h.r2, fun g (hg : g < gates.length) => ?_, fun w hw => (h.row w _ (get_of_lt hw)).len, fun w hw g hg => (h.row w _ (get_of_lt hw)).lt g hg, fun w hw => ?_⟩
  · have e : (Hl.init gates rows).cell g = initCell ((Hl.init gates rows).gate g) := getD_of (by
      show (gates.map initCell)[g]? = _
      (rw [List.getElem?_map]; rw [get_of_lt (d := (0, [])) hg]); rfl)
    rw [e]
    unfold initCell
    rcases (gk g hg).word with z | z
    · rw [if_pos z]; exact z
    · rw [if_neg (by walk_at "o")]
      exact ⟨z, by simp, fun y hy => by rw [List.eq_of_mem_replicate hy]; simp⟩
  · have hw : w < rows.length := hw
    have e : (Hl.init gates rows).stg w = initSt ((Hl.init gates rows).row w) := getD_of (by
      show (rows.map initSt)[w]? = _
      (rw [List.getElem?_map]; rw [get_of_lt (d := []) hw]); rfl)
    have e2 : (Hl.init gates rows).dn w = 0 := getD_of (by
      show (List.replicate rows.length 0)[w]? = _
      simp [hw])
    (rw [e]; rw [e2])
    unfold initSt
    split
    · rename_i z; exact .inl ⟨rfl, by rw [z]; rfl⟩
    · rename_i z; exact .inr ⟨List.length_pos_iff.mpr z, .inl rfl⟩
end Mini

set_option autoImplicit false
set_option linter.unusedVariables false


namespace Mini
section
variable {Φ : Nat → Option Fn} {n : Nat} {σ σ₀ : H} {Q : P} {x : X}
theorem w_checkGate (F : HF ix Φ) {g : Nat × List Nat} {a k : Nat} (ha : σ[a]? = some (g.2.map nv)) (ok : GateOk k g) (hk : k ≤ 12) (hQ : ∀ σ', Ex σ σ' → Q .none σ') : callW Φ (n + 1) ix.checkGate [.tup [.str g.1, .ref a], .int k] σ Q x := by
  refine ⟨_, F.checkGate, rfl, ?_⟩
  unfold gCheckGate
  (try dsimp only [start, List.map, List.replicate, List.cons_append, List.nil_append, Nat.reduceSub])
  (with_reducible (refine s_unpack ?_; refine x_atom (by with_unfolding_all rfl) ?_; refine s_unK (by with_unfolding_all rfl) ?_; refine s_if1 ?_; refine t_or ?_; refine t_cmp ?_; refine x_atom (by with_unfolding_all rfl) ?_; refine x_tupA (by with_unfolding_all rfl) ?_); dsimp only [put])
  have hl := ok.len
  have hp := List.length_pos_iff.mpr ok.some
  have hw := ok.word
  refine c_notin2 ?_
  with_reducible (refine k_tru ?_)
  refine k_neg (by walk_at "o") ?_
  with_reducible (refine t_cmp ?_; refine x_b1A (by with_unfolding_all rfl) ?_)
  refine b_lenE ha (by rw [List.length_map]) ?_
  with_reducible (refine x_atom (by with_unfolding_all rfl) ?_; refine e_eq ?_; refine k_tru ?_)
  refine k_neg (by walk_at "o") ?_
  with_reducible (refine s_for ?_; refine r_enum ?_; refine x_atom (by with_unfolding_all rfl) ?_)
  refine r_enK ha ?_
  refine forL_rule (fun i m σ' => Mini.Cj2 (Ex σ σ') (Mini.Ek2 fun s4 s5 => m = [some (.tup [.str g.1, .ref a]), some (.int k), some (.str g.1), some (.ref a), s4, s5, none, none, none])) ⟨Ex.refl, _, _, rfl⟩ ?_ ?_
  · rintro i v m σ' K hv ⟨e, s4, s5, rfl⟩ hK
    refine ⟨e.get ha, ?_⟩
    obtain ⟨u, h1, rfl⟩ := enum_get hv
    obtain ⟨t, h2, rfl⟩ := nv_get h1
    rw [Nat.zero_add]
    refine ⟨_, rfl, ?_⟩
    have := ok.lt t (List.mem_of_getElem? h2)
    (with_reducible (refine s_if1 ?_; refine t_or ?_; refine t_not ?_; refine t_cmp2 ?_; refine x_atom (by with_unfolding_all rfl) ?_; refine x_atom (by with_unfolding_all rfl) ?_; refine c_le ?_; refine k_tru ?_); dsimp only [put])
    refine k_pos (by walk_at "o") ?_
    with_reducible (refine x_atom (by with_unfolding_all rfl) ?_; refine c_lt ?_; refine k_tru ?_)
    refine k_npos (by walk_at "o") ?_
    with_reducible (refine t_cmp ?_; refine x_atom (by with_unfolding_all rfl) ?_; refine x_upto ?_; refine x_atom (by with_unfolding_all rfl) ?_; refine x_atom (by with_unfolding_all rfl) ?_)
    refine b_upto (e.get ha) (by simp [lim]; walk_at "o") ?_
    skip
    refine c_in (l := g.2.take i) (by rw [List.map_take]; exact last_get) ?_
    with_reducible (refine k_tru ?_)
    refine k_neg (fun z => ?_) ?_
    · have hi := lt_of_get h2
      have e1 : g.2[i] = t := (List.getElem?_eq_some_iff.mp h2).2
      have := ok.nodup
      rw [← List.take_append_drop i g.2, List.nodup_append] at this
      exact absurd rfl (this.2.2 t z t (by (rw [List.drop_eq_getElem_cons hi]; rw [e1]); simp))
    · with_reducible (refine s_nil ?_)
      exact hK _ _ ⟨e.trans Ex.one, _, _, rfl⟩
  · rintro m σ' ⟨e, s4, s5, rfl⟩
    refine ⟨e.get ha, ?_⟩
    with_reducible (refine s_nil ?_)
    exact hQ _ e
theorem w_checkRow (F : HF ix Φ) {gates : List (Nat × List Nat)} {gv : List V} {row : List Nat} {w a b N : Nat} (ha : σ[a]? = some (row.map nv)) (hb : σ[b]? = some gv) (hg : A2 (GateR N σ) gv gates) (ok : RowOk gates w row) (hQ : Q .none σ) : callW Φ (n + 1) ix.checkRow [.int w, .ref a, .ref b] σ Q x := by
  refine ⟨_, F.checkRow, rfl, ?_⟩
  unfold gCheckRow
  (try dsimp only [start, List.map, List.replicate, List.cons_append, List.nil_append, Nat.reduceSub])
  with_reducible (refine s_if1 ?_; refine t_cmp ?_; refine x_b1A (by with_unfolding_all rfl) ?_)
  have hl := ok.len
  refine b_lenE ha (by rw [List.length_map]) ?_
  with_reducible (refine x_atom (by with_unfolding_all rfl) ?_; refine c_gt ?_; refine k_tru ?_)
  refine k_neg (by walk_at "o") ?_
  with_reducible (refine s_for ?_; refine r_listA (by with_unfolding_all rfl) ?_)
  refine r_lsK ha ?_
  refine forL_rule (fun i m σ' => Mini.Cj2 (σ' = σ) (∃ s3, m = [some (.int w), some (.ref a), some (.ref b), s3, none, none, none])) ⟨rfl, _, rfl⟩ ?_ ?_
  · rintro i v m _ K hv ⟨rfl, s3, rfl⟩ hK
    refine ⟨ha, ?_⟩
    obtain ⟨t, h2, rfl⟩ := nv_get hv
    refine ⟨_, rfl, ?_⟩
    obtain ⟨q1, q2⟩ := ok.lt t (List.mem_of_getElem? h2)
    (with_reducible (refine s_if1 ?_; refine t_not ?_; refine t_cmp2 ?_; refine x_atom (by with_unfolding_all rfl) ?_; refine x_atom (by with_unfolding_all rfl) ?_; refine c_le ?_; refine k_tru ?_); dsimp only [put])
    refine k_pos (by walk_at "o") ?_
    with_reducible (refine x_b1A (by with_unfolding_all rfl) ?_)
    refine b_lenE hb (by rw [hg.len]) ?_
    with_reducible (refine c_lt ?_; refine k_tru ?_)
    refine k_npos (by walk_at "o") ?_
    with_reducible (refine s_if1 ?_; refine t_cmp ?_; refine x_atom (by with_unfolding_all rfl) ?_; refine x_idx ?_; refine x_idxA (by with_unfolding_all rfl) (by with_unfolding_all rfl) ?_)
    obtain ⟨y, y1, ga, rfl, _, y2⟩ := hg.right (get_of_lt (d := (0, [])) q1)
    refine x_item hb y1 ?_
    with_reducible (refine x_atom (by with_unfolding_all rfl) ?_; refine x_t1 ?_)
    refine c_notIn y2 ?_
    with_reducible (refine k_tru ?_)
    refine k_neg (fun z => z q2) ?_
    with_reducible (refine s_nil ?_)
    exact hK _ _ ⟨rfl, _, rfl⟩
  · rintro m _ ⟨rfl, s3, rfl⟩
    refine ⟨ha, ?_⟩
    with_reducible (refine s_nil ?_)
    exact hQ
theorem w_firstWord (F : HF ix Φ) {row : List Nat} {a : Nat} (ha : σ[a]? = some (row.map nv)) (hQ : ∀ σ', Ex σ σ' → Q (stV (initSt row)) σ') : callW Φ (n + 1) ix.firstWord [.ref a] σ Q x := by
  refine ⟨_, F.firstWord, rfl, ?_⟩
  unfold gFirstWord
  (try dsimp only [start, List.map, List.replicate, List.cons_append, List.nil_append, Nat.reduceSub])
  with_reducible (refine s_if1 ?_; refine t_cmp ?_; refine x_atom (by with_unfolding_all rfl) ?_; refine x_dispA (by with_unfolding_all rfl) (by with_unfolding_all rfl) ?_)
  refine c_eqL (l := row.map Int.ofNat) (l' := []) (by rw [← nv_int]; exact Ex.one.get ha) last_get ?_
  with_reducible (refine k_tru ?_)
  have hq := hQ _ (Ex.one (σ := σ) (xs := []))
  unfold initSt at hq
  refine k_dec (fun z => ?_) fun z => ?_
  · with_reducible (refine s_ret ?_; refine x_tupA (by with_unfolding_all rfl) ?_)
    rw [if_pos (List.map_eq_nil_iff.mp z)] at hq
    exact hq
  · with_reducible (refine s_ret ?_; refine x_tupA (by with_unfolding_all rfl) ?_)
    rw [if_neg (fun q => z (List.map_eq_nil_iff.mpr q))] at hq
    exact hq
theorem w_fresh (F : HF ix Φ) {g : Nat × List Nat} {a k : Nat} (ha : σ[a]? = some (g.2.map nv)) (ok : GateOk k g) (hk : k ≤ 12) (hQ : ∀ σ' v f, Ex σ σ' → CellR σ' v (initCell g) f → (∀ a ∈ f, σ.length ≤ a) → Q v σ') : callW Φ (n + 3) ix.fresh [.tup [.str g.1, .ref a]] σ Q x := by
  refine ⟨_, F.fresh, rfl, ?_⟩
  unfold gFresh
  (try dsimp only [start, List.map, List.replicate, List.cons_append, List.nil_append, Nat.reduceSub])
  have hl := ok.len
  have r4 := rnd_le g.2.length
  (with_reducible (refine s_unpack ?_; refine x_atom (by with_unfolding_all rfl) ?_; refine s_unK (by with_unfolding_all rfl) ?_; refine s_set ?_; refine x_b1A (by with_unfolding_all rfl) ?_); dsimp only [put])
  refine b_lenE ha (by rw [List.length_map]) ?_
  with_reducible (refine s_if1 ?_; refine t_cmpA (by with_unfolding_all rfl) (by with_unfolding_all rfl) ?_; refine e_seq ?_; refine k_tru ?_)
  unfold initCell at hQ
  refine k_dec (fun z => ?_) fun z => ?_
  · rw [if_pos z] at hQ
    with_reducible (refine s_ret ?_; refine x_dispA (by with_unfolding_all rfl) (by with_unfolding_all rfl) ?_)
    exact hQ _ _ _ Ex.one ⟨_, rfl, rfl, last_get⟩ fun a ha => by rw [List.mem_singleton.mp ha]; exact Nat.le_refl _
  · rw [if_neg z] at hQ
    (with_reducible (refine s_ret ?_; refine x_comp ?_; refine r_listA (by with_unfolding_all rfl) ?_); dsimp only [put])
    refine r_lsK ha ?_
    refine comp_rule (fun i acc σ' => Mini.Cj2 (Ex σ σ') (Mini.Ek1 fun (as : List Nat) => Mini.Cj3 (acc = as.map V.ref) ((∀ a ∈ as, σ.length ≤ a)) (A2 (BoxR σ') as (List.replicate i (List.replicate (2 * rnd g.2.length) (0 : Int)))))) (by simp [lim]; walk_at "o") ⟨Ex.refl, [], rfl, nofun, A2.nil⟩ ?_ ?_
    · rintro i v acc σ' K hv hl ⟨e, as, rfl, fr, q1⟩ hK
      refine ⟨e.get ha, ?_⟩
      with_reducible (refine x_bin ?_; refine x_dispA (by with_unfolding_all rfl) (by with_unfolding_all rfl) ?_; refine x_bin ?_; refine x_atom (by with_unfolding_all rfl) ?_; refine x_callA (by with_unfolding_all rfl) ?_)
      refine w_rounds F (by walk_at "o") ?_
      with_reducible (refine b_mul (by walk_at "o") ?_)
      refine b_rep (k := 2 * rnd g.2.length) (i := 0) last_get (by walk_at "o") ?_
      refine hK _ _ ⟨e.trans (Ex.one.trans Ex.one), as ++ [_], by rw [List.map_append]; rfl, fun b hb => (List.mem_append.mp hb).elim (fr b) fun z => by rw [List.mem_singleton.mp z]; exact (e.trans Ex.one).len, ?_⟩
      rw [List.replicate_succ']
      exact (q1.mono fun _ _ k => (Ex.one.trans Ex.one).get k).snoc last_get
    · rintro acc σ' _ ⟨e, as, rfl, fr, q1⟩
      rw [List.length_map] at q1
      exact ⟨e.get ha, hQ _ _ _ (e.trans Ex.one) ⟨_, as, rfl, rfl, last_get, q1.mono fun _ _ k => Ex.one.get k⟩ fun b hb => (List.mem_cons.mp hb).elim (fun z => by rw [z]; exact e.len) (fr b)⟩
end
end Mini

set_option autoImplicit false
set_option linter.unusedVariables false


namespace Mini
noncomputable def GateB (B : Nat → Prop) (σ : H) (v : V) (g : Nat × List Nat) : Prop := ∃ a, v = .tup [.str g.1, .ref a] ∧ ¬ B a ∧ σ[a]? = some (g.2.map nv)
noncomputable def RowB (B : Nat → Prop) (σ : H) (v : V) (l : List Nat) : Prop := ∃ a, v = .ref a ∧ ¬ B a ∧ σ[a]? = some (l.map nv)
/-- a hall none of whose places is one of B -/
structure RepB (B : Nat → Prop) (σ : H) (g r d s c : Nat) (h : Hl) : Prop where
  ng : ¬ B g
  nr : ¬ B r
  nd : ¬ B d
  ns : ¬ B s
  nc : ¬ B c
  gates : ∃ gv, σ[g]? = some gv ∧ A2 (GateB B σ) gv h.gates
  rows : ∃ rv, σ[r]? = some rv ∧ A2 (RowB B σ) rv h.rows
  done : σ[d]? = some (h.done.map nv)
  stages : σ[s]? = some (h.stages.map stV)
  cells : ∃ cv fs, σ[c]? = some cv ∧ CellsR σ cv h.cells fs ∧ ∀ a ∈ fs.flatten, ¬ B a
theorem GateB.toR {B : Nat → Prop} {σ : H} {v : V} {y : Nat × List Nat} (h : GateB B σ v y) : GateR σ.length σ v y := let ⟨a, e1, e2, e3⟩ := h; ⟨a, e1, lt_of_get e3, e3⟩
theorem RowB.toR {B : Nat → Prop} {σ : H} {v : V} {y : List Nat} (h : RowB B σ v y) : RowR σ.length σ v y := let ⟨a, e1, e2, e3⟩ := h; ⟨a, e1, lt_of_get e3, e3⟩
theorem GateB.ex {B : Nat → Prop} {σ σ' : H} {v : V} {y : Nat × List Nat} (h : GateB B σ v y) (e : Ex σ σ') : GateB B σ' v y := let ⟨a, e1, e2, e3⟩ := h; ⟨a, e1, e2, e.get e3⟩
theorem RowB.ex {B : Nat → Prop} {σ σ' : H} {v : V} {y : List Nat} (h : RowB B σ v y) (e : Ex σ σ') : RowB B σ' v y := let ⟨a, e1, e2, e3⟩ := h; ⟨a, e1, e2, e.get e3⟩
section
variable {Φ : Nat → Option Fn} {n : Nat} {σ σ₀ : H} {Q : P} {x : X}
theorem take_snoc {α : Type} {l : List α} {i : Nat} {y : α} (h : l[i]? = some y) : l.take (i + 1) = l.take i ++ [y] := by (rw [List.take_add_one]; rw [h]); rfl
theorem w_begun (F : HF ix Φ) {gates : List (Nat × List Nat)} {rows : List (List Nat)} {ga ra : Nat} {gv rv : List V} (hga : σ[ga]? = some gv) (hgv : A2 (GateR σ.length σ) gv gates) (hra : σ[ra]? = some rv) (hrv : A2 (RowR σ.length σ) rv rows) (ok : HallOk gates rows)
    (hQ : ∀ σ' g r d s c, Ex σ σ' → RepB (· < σ.length) σ' g r d s c (Hl.init gates rows) → Q (.inst [.ref g, .ref r, .ref d, .ref s, .ref c]) σ') : callW Φ (n + 4) ix.begun [.ref ga, .ref ra] σ Q x := by
  refine ⟨_, F.begun, rfl, ?_⟩
  unfold gBegun
  (try dsimp only [start, List.map, List.replicate, List.cons_append, List.nil_append, Nat.reduceSub])
  have g1 := ok.g1
  have g2 := ok.g2
  have r1 := ok.r1
  have r2 := ok.r2
  have gl := hgv.len
  have rl := hrv.len
  with_reducible (refine s_if1 ?_; refine t_or ?_; refine t_not ?_; refine t_cmp2 ?_; refine x_atom (by with_unfolding_all rfl) ?_; refine x_b1A (by with_unfolding_all rfl) ?_)
  refine b_lenE hra (by rw [hrv.len]) ?_
  with_reducible (refine c_le ?_; refine k_tru ?_)
  refine k_pos (by walk_at "o") ?_
  with_reducible (refine x_atom (by with_unfolding_all rfl) ?_; refine c_le ?_; refine k_tru ?_)
  refine k_npos (by walk_at "o") ?_
  with_reducible (refine t_not ?_; refine t_cmp2 ?_; refine x_atom (by with_unfolding_all rfl) ?_; refine x_b1A (by with_unfolding_all rfl) ?_)
  refine b_lenE hga (by rw [hgv.len]) ?_
  with_reducible (refine c_le ?_; refine k_tru ?_)
  refine k_pos (by walk_at "o") ?_
  with_reducible (refine x_atom (by with_unfolding_all rfl) ?_; refine c_le ?_; refine k_tru ?_)
  refine k_npos (by walk_at "o") ?_
  with_reducible (refine s_for ?_; refine r_listA (by with_unfolding_all rfl) ?_)
  refine r_lsK hga ?_
  refine forL_rule (fun i m σ' => Mini.Cj2 (Ex σ σ') (∃ s2, m = [some (.ref ga), some (.ref ra), s2, none, none, none, none, none, none, none])) ⟨Ex.refl, _, rfl⟩ ?_ ?_
  · rintro i v m σ' K hv ⟨e, s2, rfl⟩ hK
    refine ⟨e.get hga, _, rfl, ?_⟩
    obtain ⟨y, h1, a, rfl, _, h2⟩ := hgv.left hv
    (with_reducible (refine s_expr ?_; refine x_call ?_; refine l_cons ?_; refine x_atom (by with_unfolding_all rfl) ?_; refine l_cons ?_; refine x_b1A (by with_unfolding_all rfl) ?_); dsimp only [put])
    refine b_lenE (e.get hra) (by rw [hrv.len]) ?_
    with_reducible (refine l_atoms (by with_unfolding_all rfl) ?_)
    refine w_checkGate F (e.get h2) (ok.gate _ (List.mem_of_getElem? h1)) r2 fun σ2 e2 => ?_
    with_reducible (refine s_nil ?_)
    exact hK _ _ ⟨e.trans e2, _, rfl⟩
  rintro m σ1 ⟨e1, s2, rfl⟩
  refine ⟨e1.get hga, ?_⟩
  have hga1 := e1.get hga
  have hra1 := e1.get hra
  with_reducible (refine s_for ?_; refine r_enum ?_; refine x_atom (by with_unfolding_all rfl) ?_)
  refine r_enK hra1 ?_
  refine forL_rule (fun i m σ' => Mini.Cj2 (σ' = σ1) (Mini.Ek2 fun s3 s4 => m = [some (.ref ga), some (.ref ra), s2, s3, s4, none, none, none, none, none])) ⟨rfl, _, _, rfl⟩ ?_ ?_
  · rintro i v m _ K hv ⟨rfl, s3, s4, rfl⟩ hK
    refine ⟨hra1, ?_⟩
    obtain ⟨u, h1, rfl⟩ := enum_get hv
    obtain ⟨y, h2, a, rfl, _, h3⟩ := hrv.left h1
    rw [Nat.zero_add]
    refine ⟨_, rfl, ?_⟩
    (with_reducible (refine s_expr ?_; refine x_callA (by with_unfolding_all rfl) ?_); dsimp only [put])
    refine w_checkRow F (e1.get h3) hga1 (hgv.mono fun _ _ q => q.ex e1 (Nat.le_refl _)) (ok.row i y h2) ?_
    with_reducible (refine s_nil ?_)
    exact hK _ _ ⟨rfl, _, _, rfl⟩
  rintro m σx ⟨hσ, s3, s4, rfl⟩
  rw [hσ]
  clear hσ
  refine ⟨hra1, ?_⟩
  (with_reducible (refine s_set ?_; refine x_comp ?_; refine r_listA (by with_unfolding_all rfl) ?_); dsimp only [put])
  refine r_lsK hga1 ?_
  refine comp_rule (fun i acc σ' => Mini.Cj2 (Ex σ1 σ') (A2 (GateB (· < σ.length) σ') acc (gates.take i))) (by simp only [lim]; walk_at "o") ⟨Ex.refl, A2.nil⟩ ?_ ?_
  · rintro i v acc σ' K hv hl ⟨e, q⟩ hK
    refine ⟨e.get hga1, ?_⟩
    obtain ⟨y, h1, a, rfl, _, h2⟩ := hgv.left hv
    have hyl := (ok.gate _ (List.mem_of_getElem? h1)).len
    with_reducible (refine x_tup ?_; refine l_cons ?_; refine x_idxA (by with_unfolding_all rfl) (by with_unfolding_all rfl) ?_; refine x_t0 ?_; refine l_cons ?_; refine x_b1 ?_; refine x_idxA (by with_unfolding_all rfl) (by with_unfolding_all rfl) ?_; refine x_t1 ?_)
    refine b_list ((e1.trans e).get h2) (by simp [lim]; walk_at "o") ?_
    with_reducible (refine l_atoms (by with_unfolding_all rfl) ?_)
    refine hK _ _ ⟨e.trans Ex.one, ?_⟩
    rw [take_snoc h1]
    exact (q.mono fun _ _ k => k.ex Ex.one).snoc ⟨_, rfl, Nat.not_lt.mpr (e1.trans e).len, last_get⟩
  rintro acc σ2 _ ⟨e2, q2⟩
  refine ⟨e2.get hga1, ?_⟩
  rw [gl, List.take_length] at q2
  have e12 : Ex σ (σ2 ++ [acc]) := (e1.trans e2).trans Ex.one
  have hra2 := e12.get hra
  (with_reducible (refine s_set ?_; refine x_comp ?_; refine r_listA (by with_unfolding_all rfl) ?_); dsimp only [put])
  refine r_lsK hra2 ?_
  refine comp_rule (fun i acc' σ' => Mini.Cj2 (Ex (σ2 ++ [acc]) σ') (A2 (RowB (· < σ.length) σ') acc' (rows.take i))) (by simp only [lim]; walk_at "o") ⟨Ex.refl, A2.nil⟩ ?_ ?_
  · rintro i v acc' σ' K hv hl ⟨e, q⟩ hK
    refine ⟨e.get hra2, ?_⟩
    obtain ⟨y, h1, a, rfl, _, h2⟩ := hrv.left hv
    have hyl := (ok.row _ _ h1).len
    with_reducible (refine x_b1A (by with_unfolding_all rfl) ?_)
    refine b_list ((e12.trans e).get h2) (by simp [lim]; walk_at "o") ?_
    refine hK _ _ ⟨e.trans Ex.one, ?_⟩
    rw [take_snoc h1]
    exact (q.mono fun _ _ k => k.ex Ex.one).snoc ⟨_, rfl, Nat.not_lt.mpr (e12.trans e).len, last_get⟩
  rintro acc' σ3 _ ⟨e3, q3⟩
  refine ⟨e3.get hra2, ?_⟩
  rw [rl, List.take_length] at q3
  have l3 : acc'.length = rows.length := q3.len
  have b3 : (σ3 ++ [acc'])[σ3.length]? = some acc' := last_get
  have a3 : (σ3 ++ [acc'])[σ2.length]? = some acc := Ex.one.get (e3.get last_get)
  have q2' : A2 (GateB (· < σ.length) (σ3 ++ [acc'])) acc gates := q2.mono fun _ _ k => k.ex (Ex.one.trans (e3.trans Ex.one))
  have q3' : A2 (RowB (· < σ.length) (σ3 ++ [acc'])) acc' rows := q3.mono fun _ _ k => k.ex Ex.one
  have e13 : Ex σ (σ3 ++ [acc']) := e12.trans (e3.trans Ex.one)
  have nk : ¬ σ2.length < σ.length := Nat.not_lt.mpr (e1.trans e2).len
  have nw : ¬ σ3.length < σ.length := Nat.not_lt.mpr (e12.trans e3).len
  generalize σ2.length = kk at *
  generalize σ3.length = ww at *
  generalize σ3 ++ [acc'] = σ4 at *
  with_reducible (refine s_ret ?_; refine x_hall ?_; refine l_cons ?_; refine x_atom (by with_unfolding_all rfl) ?_; refine l_cons ?_; refine x_atom (by with_unfolding_all rfl) ?_; refine l_cons ?_; refine x_bin ?_; refine x_dispA (by with_unfolding_all rfl) (by with_unfolding_all rfl) ?_; refine x_b1A (by with_unfolding_all rfl) ?_)
  refine b_lenE (Ex.one.get b3) (by rw [l3]) ?_
  skip
  refine b_rep (i := 0) last_get (by walk_at "o") ?_
  have e5 : Ex σ4 (σ4 ++ [[V.int 0]] ++ [(List.replicate rows.length 0).map V.int]) := Ex.one.trans Ex.one
  have d5 : (σ4 ++ [[V.int 0]] ++ [(List.replicate rows.length (0 : Int)).map V.int])[(σ4 ++ [[V.int 0]]).length]? = some ((List.replicate rows.length 0).map V.int) := last_get
  have nd : ¬ (σ4 ++ [[V.int 0]]).length < σ.length := Nat.not_lt.mpr (e13.trans Ex.one).len
  generalize (σ4 ++ [[V.int 0]]).length = dd at *
  generalize σ4 ++ [[V.int 0]] ++ [(List.replicate rows.length (0 : Int)).map V.int] = σ5 at *
  (with_reducible (refine l_cons ?_; refine x_comp ?_; refine r_listA (by with_unfolding_all rfl) ?_); dsimp only [put])
  refine r_lsK (e5.get b3) ?_
  refine comp_rule (fun i ac σ' => Mini.Cj2 (Ex σ5 σ') (ac = (rows.map fun r => stV (initSt r)).take i)) (by simp only [lim]; walk_at "o") ⟨Ex.refl, rfl⟩ ?_ ?_
  · rintro i v ac σ' K hv hl ⟨e, rfl⟩ hK
    refine ⟨e.get (e5.get b3), ?_⟩
    obtain ⟨y, h1, a, rfl, _, h2⟩ := q3'.left hv
    with_reducible (refine x_callA (by with_unfolding_all rfl) ?_)
    refine w_firstWord F (e.get (e5.get h2)) fun σ'' e'' => ?_
    exact hK _ _ ⟨e.trans e'', by rw [← take_snoc (by (rw [List.getElem?_map]; rw [h1]); rfl)]⟩
  rintro ac σ6 _ ⟨e6, rfl⟩
  refine ⟨e6.get (e5.get b3), ?_⟩
  (rw [l3]; rw [show rows.length = (rows.map fun r => stV (initSt r)).length by simp]; rw [List.take_length])
  have e6' : Ex σ5 (σ6 ++ [rows.map fun r => stV (initSt r)]) := e6.trans Ex.one
  have s6 : (σ6 ++ [rows.map fun r => stV (initSt r)])[σ6.length]? = some (rows.map fun r => stV (initSt r)) := last_get
  have nsk : ¬ σ6.length < σ.length := Nat.not_lt.mpr ((e13.trans e5).trans e6).len
  generalize σ6.length = sk at *
  generalize σ6 ++ [rows.map fun r => stV (initSt r)] = σ7 at *
  (with_reducible (refine l_cons ?_; refine x_comp ?_; refine r_listA (by with_unfolding_all rfl) ?_); dsimp only [put])
  have e7 := e5.trans e6'
  refine r_lsK (e7.get a3) ?_
  refine comp_rule (fun i ac σ' => Mini.Cj2 (Ex σ7 σ') (Mini.Ek1 fun fs => Mini.Cj2 (CellsR σ' ac ((gates.map initCell).take i) fs) (∀ a ∈ fs.flatten, ¬ a < σ.length))) (by simp only [lim]; walk_at "o") ⟨Ex.refl, [], ⟨rfl, rfl, fun z => by simp at z⟩, nofun⟩ ?_ ?_
  · rintro i v ac σ' K hv hl ⟨e, fs, q, nf⟩ hK
    refine ⟨e.get (e7.get a3), ?_⟩
    obtain ⟨y, h1, a, rfl, _, h2⟩ := q2'.left hv
    with_reducible (refine x_callA (by with_unfolding_all rfl) ?_)
    refine w_fresh F (e.get (e7.get h2)) (ok.gate _ (List.mem_of_getElem? h1)) r2 fun σ'' v'' f'' e'' k'' fr => ?_
    refine hK _ _ ⟨e.trans e'', fs ++ [f''], ?_, fun a ha => ?_⟩
    rotate_left
    · rw [List.flatten_append] at ha
      rcases List.mem_append.mp ha with z | z
      · exact nf a z
      · exact Nat.not_lt.mpr (Nat.le_trans ((e13.trans (e7.trans e)).len) (fr a (by simpa using z)))
    have hy : (gates.map initCell)[i]? = some (initCell y) := by (rw [List.getElem?_map]; rw [h1]); rfl
    have p4 : fs.length = ac.length := by (rw [q.l2]; rw [q.l1])
    have p5 : ((gates.map initCell).take i).length = ac.length := q.l1.symm
    rw [take_snoc hy]
    refine ⟨by (rw [List.length_append]; rw [List.length_append]; rw [q.l1]); rfl, by (rw [List.length_append]; rw [List.length_append]; rw [q.l2]); rfl, fun {j v c f} p1 p2 p3 => ?_⟩
    rcases Nat.lt_trichotomy j ac.length with hj | hj | hj
    · rw [List.getElem?_append_left hj] at p1
      rw [List.getElem?_append_left (by walk_at "o")] at p2 p3
      exact (q.at_ p1 p2 p3).ex e''
    · subst hj
      rw [List.getElem?_append_right (Nat.le_refl _)] at p1
      rw [List.getElem?_append_right (by walk_at "o"), p5] at p2
      rw [List.getElem?_append_right (by walk_at "o"), p4] at p3
      simp at p1 p2 p3
      subst p1 p2 p3
      exact k''
    · have := lt_of_get p1
      simp at this; walk_at "o"
  rintro ac σ8 _ ⟨e8, fs, q8, nf⟩
  refine ⟨e8.get (e7.get a3), ?_⟩
  rw [q2'.len, show gates.length = (gates.map initCell).length by simp, List.take_length] at q8
  with_reducible (refine l_atoms (by with_unfolding_all rfl) ?_)
  have e9 : Ex σ7 (σ8 ++ [ac]) := e8.trans Ex.one
  have e49 := e7.trans e9
  refine ⟨rfl, hQ _ _ _ _ _ _ (e13.trans e49) ⟨nk, nw, nd, nsk, Nat.not_lt.mpr (e13.trans (e7.trans e8)).len, ⟨acc, e49.get a3, q2'.mono fun _ _ k => k.ex e49⟩, ⟨acc', e49.get b3, q3'.mono fun _ _ k => k.ex e49⟩, ?_, ?_, ac, fs, last_get, q8.ex Ex.one, nf⟩⟩
  · have := (e6'.trans e9).get d5
    rw [this]
    simp [Hl.init, nv]
  · have := e9.get s6
    rw [this]
    simp [Hl.init]
end
end Mini

set_option autoImplicit false
set_option linter.unusedVariables false


namespace Mini
/-- the heap has grown and changed at the places B alone -/
noncomputable def Ag (B : Nat → Prop) (σ σ' : H) : Prop := σ.length ≤ σ'.length ∧ ∀ (a : Nat) (xs : List V), ¬ B a → σ[a]? = some xs → σ'[a]? = some xs
section
variable {B : Nat → Prop} {σ σ' σ'' : H}
theorem Ag.refl : Ag B σ σ := ⟨Nat.le_refl _, fun _ _ _ h => h⟩
theorem Ag.trans (h : Ag B σ σ') (k : Ag B σ' σ'') : Ag B σ σ'' := ⟨Nat.le_trans h.1 k.1, fun a xs n e => k.2 a xs n (h.2 a xs n e)⟩
theorem Ex.ag (h : Ex σ σ') : Ag B σ σ' := ⟨h.len, fun a xs _ e => h.get e⟩
theorem Ag.set {a : Nat} {xs : List V} (h : B a) : Ag B σ (σ.set a xs) := ⟨by simp, fun b ys n e => get_set_ne (fun z => n (z ▸ h)) e⟩
theorem CellR.ag {v : V} (k : Ag B σ σ') : ∀ {c : Cell} {f : List Nat}, CellR σ v c f → (∀ a ∈ f, ¬ B a) → CellR σ' v c f
  | .cnt l s, f, ⟨a, h1, h2, h3⟩, n => ⟨a, h1, h2, k.2 _ _ (n a (by rw [h2]; simp)) h3⟩
  | .row b, f, ⟨a, as, h1, h2, h3, h4⟩, n => ⟨a, as, h1, h2, k.2 _ _ (n a (by rw [h2]; simp)) h3, ⟨h4.len, fun {i x y} p q => k.2 _ _ (n x (by rw [h2]; exact List.mem_cons_of_mem _ (List.mem_of_getElem? p))) (h4.at_ p q)⟩⟩
theorem CellR.lt {v : V} : ∀ {c : Cell} {f : List Nat}, CellR σ v c f → ∀ a ∈ f, a < σ.length
  | .cnt l s, f, ⟨b, _, e2, e3⟩, a, ha => by rw [e2] at ha; simp at ha; subst ha; exact lt_of_get e3
  | .row m, f, ⟨b, as, _, e2, e3, e4⟩, a, ha => by
    rw [e2] at ha
    rcases List.mem_cons.mp ha with z | z
    · subst z; exact lt_of_get e3
    · obtain ⟨j, hj, rfl⟩ := List.getElem_of_mem z
      have j1 : j < m.length := by rw [← e4.len]; exact hj
      exact lt_of_get (e4.at_ (show as[j]? = some as[j] by simp [hj]) (show m[j]? = some m[j] by simp [j1]))
theorem CellsR.lt {cv : List V} {cs : List Cell} {fs : List (List Nat)} (c2 : CellsR σ cv cs fs) : ∀ a ∈ fs.flatten, a < σ.length := fun a ha => by
  obtain ⟨f, hf, ha⟩ := List.mem_flatten.mp ha
  obtain ⟨i, hi, rfl⟩ := List.getElem_of_mem hf
  have i1 : i < cv.length := by (rw [c2.l1]; rw [← c2.l2]); exact hi
  have i2 : i < cs.length := by rw [← c2.l2]; exact hi
  exact (c2.at_ (show cv[i]? = some cv[i] by simp [i1]) (show cs[i]? = some cs[i] by simp [i2]) (show fs[i]? = some fs[i] by simp [hi])).lt a ha
variable {g r d s c : Nat} {h h' : Hl}
theorem RepB.rep (k : RepB B σ g r d s c h) : Rep' σ g r d s c h := by
  obtain ⟨_, _, _, _, _, ⟨gv, a1, a2⟩, ⟨rv, b1, b2⟩, h3, h4, cv, fs, c1, c2, _⟩ := k
  exact ⟨⟨gv, a1, a2.mono fun _ _ ⟨a, e1, _, e3⟩ => ⟨a, e1, lt_of_get e3, e3⟩⟩, ⟨rv, b1, b2.mono fun _ _ ⟨a, e1, _, e3⟩ => ⟨a, e1, lt_of_get e3, e3⟩⟩, h3, h4, cv, fs, c1, c2⟩
theorem RepB.ag (k : RepB B σ g r d s c h) (e : Ag B σ σ') : RepB B σ' g r d s c h := by
  obtain ⟨n1, n2, n3, n4, n5, ⟨gv, a1, a2⟩, ⟨rv, b1, b2⟩, h3, h4, cv, fs, c1, c2, c3⟩ := k
  exact ⟨n1, n2, n3, n4, n5, ⟨gv, e.2 _ _ n1 a1, a2.mono fun _ _ ⟨a, e1, e2, e3⟩ => ⟨a, e1, e2, e.2 _ _ e2 e3⟩⟩, ⟨rv, e.2 _ _ n2 b1, b2.mono fun _ _ ⟨a, e1, e2, e3⟩ => ⟨a, e1, e2, e.2 _ _ e2 e3⟩⟩, e.2 _ _ n3 h3, e.2 _ _ n4 h4, cv, fs, e.2 _ _ n5 c1,
    ⟨c2.l1, c2.l2, fun p1 p2 p3 => (c2.at_ p1 p2 p3).ag e fun a ha => c3 a (mem_flat p3 ha)⟩, c3⟩
theorem RepB.own (k : RepB B σ g r d s c h) (hB : ∀ a, B a → a < σ.length) (e : Ex σ σ') {d' s' c' : Nat} {cv : List V} {fs : List (List Nat)} (o : Own σ.length σ' g r d' s' c' cv fs h') (hg : h'.gates = h.gates) (hr : h'.rows = h.rows) : RepB B σ' g r d' s' c' h' := by
  have nb : ∀ a, σ.length ≤ a → ¬ B a := fun a ha z => Nat.lt_irrefl _ (Nat.lt_of_lt_of_le (hB a z) ha)
  obtain ⟨gv, a1, a2⟩ := k.gates
  obtain ⟨rv, b1, b2⟩ := k.rows
  refine ⟨k.ng, k.nr, nb _ (o.ge _ (by simp)), nb _ (o.ge _ (by simp)), nb _ (o.ge _ (by simp)), ⟨gv, e.get a1, ?_⟩, ⟨rv, e.get b1, ?_⟩, o.done, o.stages, cv, fs, o.cells, o.cellsR, fun a ha => nb a (o.ge a (by simp [ha]))⟩
  · rw [hg]; exact a2.mono fun _ _ ⟨a, e1, e2, e3⟩ => ⟨a, e1, e2, e.get e3⟩
  · rw [hr]; exact b2.mono fun _ _ ⟨a, e1, e2, e3⟩ => ⟨a, e1, e2, e.get e3⟩
theorem Rep'.repB (k : Rep' σ g r d s c h) (hB : ∀ a, B a → σ.length ≤ a) : RepB B σ g r d s c h := by
  have nb : ∀ a, a < σ.length → ¬ B a := fun a ha z => Nat.lt_irrefl _ (Nat.lt_of_lt_of_le ha (hB a z))
  obtain ⟨⟨gv, a1, a2⟩, ⟨rv, b1, b2⟩, h3, h4, cv, fs, c1, c2⟩ := k
  refine ⟨nb _ (lt_of_get a1), nb _ (lt_of_get b1), nb _ (lt_of_get h3), nb _ (lt_of_get h4), nb _ (lt_of_get c1), ⟨gv, a1, a2.mono fun _ _ ⟨a, e1, e2, e3⟩ => ⟨a, e1, nb a e2, e3⟩⟩, ⟨rv, b1, b2.mono fun _ _ ⟨a, e1, e2, e3⟩ => ⟨a, e1, nb a e2, e3⟩⟩, h3, h4, cv, fs, c1, c2, fun a ha => nb a (c2.lt a ha)⟩
/-- more places, that are new -/
theorem RepB.more {B' : Nat → Prop} (k : RepB B σ g r d s c h) (q : ∀ a, B' a → B a ∨ σ.length ≤ a) : RepB B' σ g r d s c h := by
  have nb : ∀ a, a < σ.length → ¬ B a → ¬ B' a := fun a ha hb z => (q a z).elim hb fun y => Nat.lt_irrefl _ (Nat.lt_of_lt_of_le ha y)
  obtain ⟨n1, n2, n3, n4, n5, ⟨gv, a1, a2⟩, ⟨rv, b1, b2⟩, h3, h4, cv, fs, c1, c2, c3⟩ := k
  exact ⟨nb _ (lt_of_get a1) n1, nb _ (lt_of_get b1) n2, nb _ (lt_of_get h3) n3, nb _ (lt_of_get h4) n4, nb _ (lt_of_get c1) n5, ⟨gv, a1, a2.mono fun _ _ ⟨a, e1, e2, e3⟩ => ⟨a, e1, nb _ (lt_of_get e3) e2, e3⟩⟩, ⟨rv, b1, b2.mono fun _ _ ⟨a, e1, e2, e3⟩ => ⟨a, e1, nb _ (lt_of_get e3) e2, e3⟩⟩, h3, h4, cv, fs, c1, c2, fun a ha => nb a (c2.lt a ha) (c3 a ha)⟩
end
section
variable {Φ : Nat → Option Fn} {n : Nat} {σ : H} {Q : P} {x : X} {B : Nat → Prop} {g r d s c : Nat} {h : Hl}
theorem b_app {a : Nat} {xs : List V} {v : V} (ha : a ≠ 0) (hx : σ[a]? = some xs) (hl : xs.length < lim) (hQ : Q .none (σ.set a (xs ++ [v]))) : me1 .append (.ref a) v σ Q := ⟨xs, ha, hx, hl, hQ⟩
theorem GateB.ag {σ σ' : H} {v : V} {y : Nat × List Nat} (h : GateB B σ v y) (e : Ag B σ σ') : GateB B σ' v y := let ⟨a, e1, e2, e3⟩ := h; ⟨a, e1, e2, e.2 _ _ e2 e3⟩
theorem RowB.ag {σ σ' : H} {v : V} {y : List Nat} (h : RowB B σ v y) (e : Ag B σ σ') : RowB B σ' v y := let ⟨a, e1, e2, e3⟩ := h; ⟨a, e1, e2, e.2 _ _ e2 e3⟩
theorem w_stepB (F : HF ix Φ) {w : Nat} (q : RepB B σ g r d s c h) (hB : ∀ a, B a → a < σ.length) (f : WF h) (hg : h.gates.length ≤ 12) (hr : h.rows.length ≤ 12) (hw : w < h.rows.length) (h0 : 0 < σ.length)
    (hQ : ∀ σ' d' s' c', Ex σ σ' → RepB B σ' g r d' s' c' (h.step w) → Q (.tup [.inst [.ref g, .ref r, .ref d', .ref s', .ref c'], h.told w]) σ') : callW Φ (n + 5) ix.stepped [.inst [.ref g, .ref r, .ref d, .ref s, .ref c], .int w] σ Q x :=
  w_steppedO F q.rep f hg hr hw h0 fun σ' d' s' c' cv fs e o => hQ _ _ _ _ e (q.own hB e o Hl.step_gates Hl.step_rows)
end
end Mini

set_option autoImplicit false
set_option linter.unusedVariables false


namespace Mini
/-- many steps -/
noncomputable def Hl.run (h : Hl) : List Nat → Hl
  | [] => h
  | w :: l => (h.step w).run l
noncomputable def Hl.tells (h : Hl) : List Nat → List V
  | [] => []
  | w :: l => h.told w :: (h.step w).tells l
noncomputable def Hl.idle (h : Hl) (w : Nat) : Bool := decide ((h.stg w).1 = 10) || h.vain w
/-- who does a step in one turn of all, of the first k -/
noncomputable def Hl.busy (h : Hl) : Nat → List Nat
  | 0 => []
  | k + 1 => if (h.run (h.busy k)).idle k then h.busy k else h.busy k ++ [k]
noncomputable def Hl.restN : Nat → Hl → List Nat
  | 0, _ => []
  | n + 1, h => if h.busy h.rows.length = [] then [] else h.busy h.rows.length ++ Hl.restN n (h.run (h.busy h.rows.length))
theorem Hl.run_app {h : Hl} {l l' : List Nat} : h.run (l ++ l') = (h.run l).run l' := by
  induction l generalizing h with
  | nil => rfl
  | cons w l ih => exact ih
theorem Hl.tells_app {h : Hl} {l l' : List Nat} : h.tells (l ++ l') = h.tells l ++ (h.run l).tells l' := by
  induction l generalizing h with
  | nil => rfl
  | cons w l ih => show h.told w :: (h.step w).tells (l ++ l') = _; rw [ih]; rfl
theorem Hl.tells_len {h : Hl} {l : List Nat} : (h.tells l).length = l.length := by
  induction l generalizing h with
  | nil => rfl
  | cons w l ih => exact congrArg (· + 1) ih
theorem Hl.run_gates {h : Hl} {l : List Nat} : (h.run l).gates = h.gates := by
  induction l generalizing h with
  | nil => rfl
  | cons w l ih => exact ih.trans Hl.step_gates
theorem Hl.run_rows {h : Hl} {l : List Nat} : (h.run l).rows = h.rows := by
  induction l generalizing h with
  | nil => rfl
  | cons w l ih => exact ih.trans Hl.step_rows
theorem WF.run {h : Hl} (f : WF h) {l : List Nat} (hl : ∀ w ∈ l, w < h.rows.length) : WF (h.run l) := by
  induction l generalizing h with
  | nil => exact f
  | cons w l ih => exact ih (f.step (hl w (.head _))) fun v hv => by rw [Hl.step_rows]; exact hl v (.tail _ hv)
theorem Hl.busy_lt {h : Hl} : ∀ {k : Nat}, ∀ w ∈ h.busy k, w < k
  | 0, _, hw => by cases hw
  | k + 1, w, hw => by
    unfold Hl.busy at hw
    split at hw
    · have := Hl.busy_lt w hw; walk_at "o"
    · rcases List.mem_append.mp hw with z | z
      · have := Hl.busy_lt w z; walk_at "o"
      · simp at z; walk_at "o"
theorem Hl.busy_len {h : Hl} : ∀ {k : Nat}, (h.busy k).length ≤ k
  | 0 => Nat.le_refl _
  | k + 1 => by
    have := Hl.busy_len (h := h) (k := k)
    unfold Hl.busy
    split
    · walk_at "o"
    · simp; walk_at "o"
theorem Hl.busy_nil {h : Hl} : ∀ {k : Nat}, h.busy k = [] → ∀ w, w < k → h.idle w = true
  | 0, _, w, hw => absurd hw (Nat.not_lt_zero _)
  | k + 1, e, w, hw => by
    unfold Hl.busy at e
    split at e
    · rename_i z
      rw [e] at z
      by_cases hk : w = k
      · subst hk; exact z
      · exact Hl.busy_nil e w (by walk_at "o")
    · simp at e
theorem Hl.tells_get {h : Hl} : ∀ {l : List Nat} {i w : Nat}, l[i]? = some w → (h.tells l)[i]? = some ((h.run (l.take i)).told w)
  | [], _, _, e => by simp at e
  | a :: l, 0, _, e => by cases e; rfl
  | a :: l, i + 1, _, e => Hl.tells_get (h := h.step a) (l := l) (i := i) (by simpa using e)
theorem Hl.busy_ni {h : Hl} : ∀ {k i w : Nat}, (h.busy k)[i]? = some w → (h.run ((h.busy k).take i)).idle w = false
  | 0, _, _, e => by cases e
  | k + 1, i, w, e => by
    unfold Hl.busy at e ⊢
    split at e
    · rename_i z
      rw [if_pos z]; exact Hl.busy_ni e
    · rename_i z
      rw [if_neg z]
      by_cases hl : i < (h.busy k).length
      · rw [List.getElem?_append_left hl] at e
        rw [List.take_append_of_le_length (Nat.le_of_lt hl)]
        exact Hl.busy_ni e
      · rw [List.getElem?_append_right (Nat.le_of_not_lt hl)] at e
        have hj := lt_of_get e
        have : i = (h.busy k).length := by simp at hj; walk_at "o"
        subst this
        simp at e
        subst e
        rw [List.take_left]
        simpa using z
theorem Hl.restN_ni : ∀ {n : Nat} {h : Hl} {i w : Nat}, (Hl.restN n h)[i]? = some w → w < h.rows.length ∧ (h.run ((Hl.restN n h).take i)).idle w = false
  | 0, _, _, _, e => by cases e
  | n + 1, h, i, w, e => by
    unfold Hl.restN at e ⊢
    split at e
    · cases e
    · rename_i z
      rw [if_neg z]
      by_cases hl : i < (h.busy h.rows.length).length
      · rw [List.getElem?_append_left hl] at e
        rw [List.take_append_of_le_length (Nat.le_of_lt hl)]
        exact ⟨Hl.busy_lt w (List.mem_of_getElem? e), Hl.busy_ni e⟩
      · rw [List.getElem?_append_right (Nat.le_of_not_lt hl)] at e
        have q := Hl.restN_ni e
        rw [Hl.run_rows] at q
        (rw [List.take_append]; rw [List.take_of_length_le (Nat.le_of_not_lt hl)]; rw [Hl.run_app])
        exact q
/-- how much there is left to do -/
noncomputable def rank (st : Nat × Nat) : Nat := if st.1 = 3 ∨ st.1 = 5 then 1 else if st.1 = 4 then 2 else if st.1 = 6 then 20 else if st.1 = 7 then 1 + 2 * st.2 else if st.1 = 8 then 2 + 2 * st.2 else 0
noncomputable def Hl.lft (h : Hl) (w : Nat) : Nat := if (h.stg w).1 = 10 then 0 else 30 * ((h.row w).length - h.dn w) - rank (h.stg w)
noncomputable def Hl.mu (h : Hl) : Nat := ((List.range h.rows.length).map h.lft).sum
theorem sum_lt {f g : Nat → Nat} {w : Nat} (hlt : f w < g w) (he : ∀ v, v ≠ w → f v = g v) : ∀ {n : Nat}, w < n → ((List.range n).map f).sum < ((List.range n).map g).sum
  | 0, h => absurd h (Nat.not_lt_zero _)
  | n + 1, h => by
    (rw [List.range_succ]; rw [List.map_append]; rw [List.map_append]; rw [List.sum_append]; rw [List.sum_append])
    simp only [List.map_cons, List.map_nil, List.sum_cons, List.sum_nil, Nat.add_zero]
    by_cases hw : w = n
    · subst hw
      have : ((List.range w).map f) = (List.range w).map g := List.map_congr_left fun v hv => he v (by have := List.mem_range.mp hv; walk_at "o")
      rw [this]; walk_at "o"
    · have := sum_lt hlt he (n := n) (by walk_at "o")
      have := he n (fun z => hw z.symm)
      walk_at "o"
theorem sum_le {f : Nat → Nat} {b : Nat} (h : ∀ v, f v ≤ b) : ∀ {n : Nat}, ((List.range n).map f).sum ≤ n * b
  | 0 => Nat.zero_le _
  | n + 1 => by
    (rw [List.range_succ]; rw [List.map_append]; rw [List.sum_append]; rw [Nat.succ_mul])
    have := sum_le h (n := n)
    have := h n
    simp only [List.map_cons, List.map_nil, List.sum_cons, List.sum_nil, Nat.add_zero]
    walk_at "o"
theorem cell_rank {g : Nat × List Nat} {w t : Nat} {st : Nat × Nat} (hs : StOk g st) (h6 : st.1 ≠ 6) : ∀ {c : Cell}, CellOk g c → rank st < rank (cellStep g w t st c).2 ∧ rank (cellStep g w t st c).2 ≤ 20 ∧ (cellStep g w t st c).2.1 ≠ 10 := by
  have r4 := rnd_le g.2.length
  obtain ⟨a, b⟩ := st
  intro c hc
  have hs : a = 2 ∨ a = 6 ∨ (g.1 = 0 ∧ (a = 3 ∨ a = 4 ∨ a = 5)) ∨ (g.1 = 1 ∧ (a = 7 ∨ a = 8) ∧ b < rnd g.2.length) := hs
  have h6 : a ≠ 6 := h6
  have fin : ∀ (i j k : Nat), i < j → j ≤ 20 → k ≠ 10 → i < j ∧ j ≤ 20 ∧ k ≠ 10 := fun _ _ _ h1 h2 h3 => ⟨h1, h2, h3⟩
  cases c with
  | cnt l s =>
    have hc : g.1 = 0 := hc
    rcases hs with rfl | hs | ⟨_, rfl | rfl | rfl⟩ | ⟨h1, _⟩
    · show _ < rank (if l - 1 = 0 then (3, 0) else (5, 0)) ∧ rank (if l - 1 = 0 then (3, 0) else (5, 0)) ≤ 20 ∧ (if l - 1 = 0 then ((3 : Nat), 0) else (5, 0)).1 ≠ 10
      split
      · exact fin 0 1 3 (by decide) (by decide) (by decide)
      · exact fin 0 1 5 (by decide) (by decide) (by decide)
    · exact absurd hs h6
    · exact fin 1 2 4 (by decide) (by decide) (by decide)
    · exact fin 2 20 6 (by decide) (by decide) (by decide)
    · exact fin 1 20 6 (by decide) (by decide) (by decide)
    · walk_at "o"
  | row m =>
    have hc : g.1 = 1 := hc.1
    rcases hs with rfl | hs | ⟨h1, _⟩ | ⟨_, rfl | rfl, hb⟩
    · show _ < rank (if 0 = rnd g.2.length then (6, 0) else (7, 0)) ∧ rank (if 0 = rnd g.2.length then (6, 0) else (7, 0)) ≤ 20 ∧ (if 0 = rnd g.2.length then ((6 : Nat), 0) else (7, 0)).1 ≠ 10
      split
      · exact fin 0 20 6 (by decide) (by decide) (by decide)
      · exact fin 0 1 7 (by decide) (by decide) (by decide)
    · exact absurd hs h6
    · walk_at "o"
    · exact fin (1 + 2 * b) (2 + 2 * b) 8 (by walk_at "o") (by walk_at "o") (by decide)
    · show 2 + 2 * b < rank (if b + 1 = rnd g.2.length then (6, 0) else (7, b + 1)) ∧ rank (if b + 1 = rnd g.2.length then (6, 0) else (7, b + 1)) ≤ 20 ∧ (if b + 1 = rnd g.2.length then ((6 : Nat), 0) else (7, b + 1)).1 ≠ 10
      split
      · exact fin (2 + 2 * b) 20 6 (by walk_at "o") (by decide) (by decide)
      · exact fin (2 + 2 * b) (1 + 2 * (b + 1)) 7 (by walk_at "o") (by walk_at "o") (by decide)
section
variable {h : Hl}
theorem rank_le {g : Nat × List Nat} {st : Nat × Nat} (hs : StOk g st) : rank st ≤ 20 := by
  have r4 := rnd_le g.2.length
  unfold rank
  unfold StOk at hs
  repeat' split
  all_goals walk_at "o"
noncomputable def Hl.nst (h : Hl) (w : Nat) : Nat × Nat := if (h.stg w).1 = 6 then (if h.dn w + 1 = (h.row w).length then (10, 0) else (2, 0)) else (h.cstep w).2
theorem idle_not {w : Nat} (hi : h.idle w = false) : (h.stg w).1 ≠ 10 ∧ h.vain w = false := by
  unfold Hl.idle at hi; simpa using hi
/-- what a step that is not idle changes -/
structure Stp (h h' : Hl) (w : Nat) : Prop where
  gates : h'.gates = h.gates
  rows : h'.rows = h.rows
  stg : ∀ v, h'.stg v = if w = v then h.nst w else h.stg v
  dn : ∀ v, h'.dn v = if w = v then (if (h.stg w).1 = 6 then h.dn w + 1 else h.dn w) else h.dn v
  cell : ∀ t, h'.cell t = if h.at_ w = t then (if (h.stg w).1 = 6 then h.cell t else (h.cstep w).1) else h.cell t
theorem WF.stp (f : WF h) {w : Nat} (hw : w < h.rows.length) (hi : h.idle w = false) : Stp h (h.step w) w := by
  obtain ⟨h10, hv⟩ := idle_not hi
  obtain ⟨ha, _⟩ := f.at_ hw h10
  have e : h.step w = if (h.stg w).1 = 6 then { h with done := h.done.set w (h.dn w + 1), stages := h.stages.set w (if h.dn w + 1 = (h.row w).length then (10, 0) else (2, 0)) }
      else { h with cells := h.cells.set (h.at_ w) (h.cstep w).1, stages := h.stages.set w (h.cstep w).2 } := by
    unfold Hl.step; (rw [if_neg h10]; rw [if_neg (by rw [hv]; decide)])
  by_cases h6 : (h.stg w).1 = 6
  · (rw [e]; rw [if_pos h6])
    refine ⟨rfl, rfl, fun v => ?_, fun v => ?_, fun t => ?_⟩
    · unfold Hl.nst; rw [if_pos h6]; exact getD_set (by rw [f.ls]; exact hw)
    · rw [if_pos h6]; exact getD_set (by rw [f.ld]; exact hw)
    · rw [if_pos h6]; show h.cell t = _; split <;> rfl
  · (rw [e]; rw [if_neg h6])
    refine ⟨rfl, rfl, fun v => ?_, fun v => ?_, fun t => ?_⟩
    · unfold Hl.nst; rw [if_neg h6]; exact getD_set (by rw [f.ls]; exact hw)
    · rw [if_neg h6]; show h.dn v = _; split
      · rename_i z; rw [z]
      · rfl
    · rw [if_neg h6]; exact getD_set (by rw [f.lc]; exact ha)
theorem Stp.row {h h' : Hl} {w v : Nat} (s : Stp h h' w) : h'.row v = h.row v := by unfold Hl.row; rw [s.rows]
theorem Stp.gate {h h' : Hl} {w v : Nat} (s : Stp h h' w) : h'.gate v = h.gate v := by unfold Hl.gate; rw [s.gates]
theorem mu_a {l d : Nat} (h : d < l) : 0 < 30 * (l - d) - 20 := by walk_at "o"
theorem mu_b {l d : Nat} (h : d < l) : 30 * (l - (d + 1)) < 30 * (l - d) - 20 := by walk_at "o"
theorem mu_c {a r t : Nat} (ha : 0 < a) (h : r < t) (ht : t ≤ 20) : 30 * a - t < 30 * a - r := by walk_at "o"
/-- a step that is not idle leaves less to do -/
theorem WF.mu_step (f : WF h) {w : Nat} (hw : w < h.rows.length) (hi : h.idle w = false) : (h.step w).mu < h.mu := by
  obtain ⟨h10, hv⟩ := idle_not hi
  have hlt := f.lt hw h10
  have hst := f.st hw h10
  obtain ⟨ha, _⟩ := f.at_ hw h10
  have r20 := rank_le hst
  have S := f.stp hw hi
  unfold Hl.mu
  rw [S.rows]
  refine sum_lt (w := w) ?_ (fun v hv => ?_) hw
  · unfold Hl.lft
    (rw [S.stg]; rw [if_pos rfl]; rw [S.dn]; rw [if_pos rfl]; rw [S.row]; rw [if_neg h10])
    unfold Hl.nst
    by_cases h6 : (h.stg w).1 = 6
    · (rw [if_pos h6]; rw [if_pos h6])
      have e6 : rank (h.stg w) = 20 := by
        unfold rank; rw [h6]; rfl
      rw [e6]
      split
      · exact mu_a hlt
      · exact mu_b hlt
    · (rw [if_neg h6]; rw [if_neg h6])
      obtain ⟨c1, c2, c3⟩ := cell_rank (w := w) (t := h.time w) hst h6 (f.cell _ ha)
      have c1 : rank (h.stg w) < rank (h.cstep w).2 := c1
      have c2 : rank (h.cstep w).2 ≤ 20 := c2
      have c3 : (h.cstep w).2.1 ≠ 10 := c3
      rw [if_neg c3]
      exact mu_c (Nat.sub_pos_of_lt hlt) c1 c2
  · unfold Hl.lft
    (rw [S.stg]; rw [if_neg (Ne.symm hv)]; rw [S.dn]; rw [if_neg (Ne.symm hv)]; rw [S.row])
theorem WF.mu_le (f : WF h) (hr : h.rows.length ≤ 12) : h.mu ≤ 20000 := by
  have : h.mu ≤ h.rows.length * 1200 := by
    have e : ∀ v, v < h.rows.length → h.lft v ≤ 1200 := fun v hv => by
      have h40 := f.rl v hv
      unfold Hl.lft
      split
      · exact Nat.zero_le _
      · exact Nat.le_trans (Nat.sub_le _ _) (Nat.mul_le_mul_left 30 (Nat.le_trans (Nat.sub_le _ _) h40))
    unfold Hl.mu
    have e2 : (List.range h.rows.length).map h.lft = (List.range h.rows.length).map fun v => min (h.lft v) 1200 := List.map_congr_left fun v hv => by
      have := e v (List.mem_range.mp hv); walk_at "o"
    rw [e2]
    exact sum_le fun v => Nat.min_le_right _ _
  have : h.rows.length * 1200 ≤ 12 * 1200 := Nat.mul_le_mul_right _ hr
  walk_at "o"
end
end Mini

set_option autoImplicit false
set_option linter.unusedVariables false


namespace Mini
structure Rx where
  idle : Nat
  woven : Nat
  rested : Nat
noncomputable def rx : Rx := ⟨20, 29, 30⟩
noncomputable def gIdle (ix : Ix) : Fn := ⟨2, 5, [
  .expr (.call ix.needWalker [(.var 0), (.var 1)]),
  .ret (.or (.cmp .eq (.idx (.call ix.ahead [(.var 0), (.var 1)]) (.int (1))) (.str 10)) (.call ix.vain [(.var 0), (.var 1)]))]⟩
noncomputable def gWoven (ix : Ix) : Fn := ⟨2, 8, [
  .for [2] (.list (.var 1)) [
    .expr (.call ix.needWalker [(.var 0), (.var 2)])],
  .set 3 (.disp []),
  .for [2] (.list (.var 1)) [
    .unpack [0, 4] (.call ix.stepped [(.var 0), (.var 2)]),
    .expr (.m1 .append (.var 3) (.var 4))],
  .ret (.tup [(.var 0), (.var 3)])]⟩
noncomputable def gRested (ix : Ix) (rx : Rx) : Fn := ⟨1, 8, [
  .set 1 (.disp []),
  .set 2 (.bool true),
  .while (.var 2) [
    .set 2 (.bool false),
    .for [3] (.range (.b1 .len (.attr (.var 0) 1))) [
      .ite (.not (.call rx.idle [(.var 0), (.var 3)])) [
        .unpack [0, 4] (.call ix.stepped [(.var 0), (.var 3)]),
        .expr (.m1 .append (.var 1) (.var 4)),
        .set 2 (.bool true)] []]],
  .ret (.tup [(.var 0), (.var 1)])]⟩
structure RF (ix : Ix) (rx : Rx) (Φ : Nat → Option Fn) : Prop where
  idle : Φ rx.idle = some (gIdle ix)
  woven : Φ rx.woven = some (gWoven ix)
  rested : Φ rx.rested = some (gRested ix rx)
/-- a hall as the laws have it -/
structure Okh (h : Hl) : Prop where
  wf : WF h
  g1 : h.gates.length ≤ 12
  r1 : h.rows.length ≤ 12
theorem Okh.run {h : Hl} (o : Okh h) {l : List Nat} (hl : ∀ w ∈ l, w < h.rows.length) : Okh (h.run l) := ⟨o.wf.run hl, by rw [Hl.run_gates]; exact o.g1, by rw [Hl.run_rows]; exact o.r1⟩
section
variable {Φ : Nat → Option Fn} {n : Nat} {σ : H} {Q : P} {x : X} {B : Nat → Prop} {g r d s c : Nat} {h : Hl}
theorem w_idle (F : HF ix Φ) (R : RF ix rx Φ) {w : Nat} (q : Rep' σ g r d s c h) (o : Okh h) (hw : w < h.rows.length) (hQ : ∀ σ', Ex σ σ' → Q (.bool (h.idle w)) σ') : callW Φ (n + 5) rx.idle [.inst [.ref g, .ref r, .ref d, .ref s, .ref c], .int w] σ Q x := by
  refine ⟨_, R.idle, rfl, ?_⟩
  unfold gIdle
  (try dsimp only [start, List.map, List.replicate, List.cons_append, List.nil_append, Nat.reduceSub])
  with_reducible (refine s_expr ?_; refine x_callA (by with_unfolding_all rfl) ?_)
  refine w_needWalker F q hw ?_
  with_reducible (refine s_ret ?_; refine x_or ?_; refine x_cmp ?_; refine x_idx ?_; refine x_callA (by with_unfolding_all rfl) ?_)
  have f := o.wf
  refine w_ahead F q hw f.ld f.ls (by
    by_cases z : (h.stg w).1 = 10
    · exact .inl z
    · exact .inr (f.lt hw z)) (fun z => ?_) fun z => ?_
  · with_reducible (refine x_atom (by with_unfolding_all rfl) ?_; refine x_t1 ?_; refine x_atom (by with_unfolding_all rfl) ?_; refine e_seq ?_; refine k_tru ?_)
    have := hQ σ Ex.refl
    unfold Hl.idle at this
    rw [z] at this
    exact this
  · with_reducible (refine x_atom (by with_unfolding_all rfl) ?_; refine x_t1 ?_; refine x_atom (by with_unfolding_all rfl) ?_; refine e_seq ?_; refine k_tru ?_)
    refine k_neg z ?_
    with_reducible (refine x_callA (by with_unfolding_all rfl) ?_)
    refine w_vain F q f hw fun σ' e => ?_
    have := hQ σ' e
    unfold Hl.idle at this
    rw [decide_eq_false z, Bool.false_or] at this
    exact this
theorem w_woven (F : HF ix Φ) (R : RF ix rx Φ) {a : Nat} {l : List Nat} (q : RepB B σ g r d s c h) (hB : ∀ a, B a → a < σ.length) (o : Okh h) (h0 : 0 < σ.length) (ha : σ[a]? = some (l.map nv)) (hl : ∀ w ∈ l, w < h.rows.length) (hn : l.length ≤ 100000)
    (hQ : ∀ σ' d' s' c' b, Ex σ σ' → RepB B σ' g r d' s' c' (h.run l) → σ'[b]? = some (h.tells l) → σ.length ≤ b → Q (.tup [.inst [.ref g, .ref r, .ref d', .ref s', .ref c'], .ref b]) σ') :
    callW Φ (n + 6) rx.woven [.inst [.ref g, .ref r, .ref d, .ref s, .ref c], .ref a] σ Q x := by
  refine ⟨_, R.woven, rfl, ?_⟩
  unfold gWoven
  (try dsimp only [start, List.map, List.replicate, List.cons_append, List.nil_append, Nat.reduceSub])
  with_reducible (refine s_for ?_; refine r_listA (by with_unfolding_all rfl) ?_)
  refine r_lsK ha ?_
  refine forL_rule (fun i m σ' => Mini.Cj2 (σ' = σ) (∃ s2, m = [some (.inst [.ref g, .ref r, .ref d, .ref s, .ref c]), some (.ref a), s2, none, none, none, none, none])) ⟨rfl, _, rfl⟩ ?_ ?_
  · rintro i v m _ K hv ⟨rfl, s2, rfl⟩ hK
    refine ⟨ha, ?_⟩
    obtain ⟨t, h2, rfl⟩ := nv_get hv
    refine ⟨_, rfl, ?_⟩
    (with_reducible (refine s_expr ?_; refine x_callA (by with_unfolding_all rfl) ?_); dsimp only [put])
    refine w_needWalker F q.rep (hl t (List.mem_of_getElem? h2)) ?_
    with_reducible (refine s_nil ?_)
    exact hK _ _ ⟨rfl, _, rfl⟩
  rintro m σ' ⟨hσ, s2, rfl⟩
  rw [hσ]
  clear hσ σ'
  refine ⟨ha, ?_⟩
  (with_reducible (refine s_set ?_; refine x_dispA (by with_unfolding_all rfl) (by with_unfolding_all rfl) ?_; refine s_for ?_; refine r_listA (by with_unfolding_all rfl) ?_); dsimp only [put])
  have al := lt_of_get ha
  have q1 : RepB (fun a => B a ∨ a = σ.length) (σ ++ [[]]) g r d s c h := (q.more fun a z => z.elim .inl fun y => .inr (by walk_at "o")).ag Ex.one.ag
  refine r_lsK (Ex.one.get ha) ?_
  refine forL_rule (fun i m σ' => Mini.Ek5 fun d' s' c' s2 s4 => Mini.Cj4 (Ex σ σ') (RepB (fun a => B a ∨ a = σ.length) σ' g r d' s' c' (h.run (l.take i))) (σ'[σ.length]? = some (h.tells (l.take i))) (m = [some (.inst [.ref g, .ref r, .ref d', .ref s', .ref c']), some (.ref a), s2, some (.ref σ.length), s4, none, none, none]))
    ⟨d, s, c, s2, none, Ex.one, q1, last_get, rfl⟩ ?_ ?_
  · rintro i v m σ' K hv ⟨d', s', c', s2, s4, e, q2, b2, rfl⟩ hK
    refine ⟨e.get ha, ?_⟩
    obtain ⟨t, h2, rfl⟩ := nv_get hv
    refine ⟨_, rfl, ?_⟩
    have hlt := lt_of_get b2
    have lw : ∀ w ∈ l.take i, w < h.rows.length := fun w hw => hl w (List.mem_of_mem_take hw)
    have o2 := o.run lw
    (with_reducible (refine s_unpack ?_; refine x_callA (by with_unfolding_all rfl) ?_); dsimp only [put])
    refine w_stepB F q2 (fun a z => z.elim (fun y => Nat.lt_of_lt_of_le (hB a y) e.len) fun y => by walk_at "o") o2.wf o2.g1 o2.r1 (by rw [Hl.run_rows]; exact hl t (List.mem_of_getElem? h2)) (by walk_at "o") fun σ3 d3 s3 c3 e3 q3 => ?_
    (with_reducible (refine s_unK (by with_unfolding_all rfl) ?_; refine s_expr ?_; refine x_m1 ?_; refine x_atom (by with_unfolding_all rfl) ?_; refine x_isRef ?_; refine x_atom (by with_unfolding_all rfl) ?_); dsimp only [put])
    refine b_app (by walk_at "o") (e3.get b2) (by rw [Hl.tells_len]; have := lt_of_get h2; simp [lim]; walk_at "o") ?_
    with_reducible (refine s_nil ?_)
    refine hK _ _ ⟨d3, s3, c3, _, _, (e.trans e3).set (Nat.le_refl _), ?_, ?_, rfl⟩
    · (rw [take_snoc h2]; rw [Hl.run_app])
      exact q3.ag (Ag.set (.inr rfl))
    · (rw [take_snoc h2]; rw [Hl.tells_app])
      exact get_set_eq (lt_of_get (e3.get b2))
  · rintro m σ' ⟨d', s', c', s2, s4, e, q2, b2, rfl⟩
    refine ⟨e.get ha, ?_⟩
    rw [List.length_map, List.take_length] at q2 b2
    with_reducible (refine s_ret ?_; refine x_tupA (by with_unfolding_all rfl) ?_)
    exact hQ _ _ _ _ _ e (q2.more fun a z => .inl (.inl z)) b2 (Nat.le_refl _)
/-- the walkers that step till rest, turn by turn -/
noncomputable def Hl.rest (h : Hl) : List Nat := Hl.restN (h.mu + 1) h
theorem WF.mu_busy (f : WF h) : ∀ {k : Nat}, k ≤ h.rows.length → (h.run (h.busy k)).mu + (h.busy k).length ≤ h.mu
  | 0, _ => Nat.le_refl _
  | k + 1, hk => by
    have ih := WF.mu_busy f (k := k) (by walk_at "o")
    unfold Hl.busy
    split
    · exact ih
    · rename_i z
      have fr := f.run (l := h.busy k) fun w hw => by have := Hl.busy_lt w hw; walk_at "o"
      have := fr.mu_step (w := k) (by rw [Hl.run_rows]; walk_at "o") (by simpa using z)
      rw [Hl.run_app]
      have e : (h.run (h.busy k)).run [k] = (h.run (h.busy k)).step k := rfl
      (rw [e]; rw [List.length_append])
      simp only [List.length_cons, List.length_nil]
      walk_at "o"
theorem WF.restN_more : ∀ {n m : Nat} {h : Hl}, WF h → h.mu < n → n ≤ m → Hl.restN m h = Hl.restN n h
  | 0, _, _, _, hm, _ => absurd hm (Nat.not_lt_zero _)
  | n + 1, 0, _, _, _, hn => absurd hn (by walk_at "o")
  | n + 1, m + 1, h, f, hm, hn => by
    unfold Hl.restN
    split
    · rfl
    · rename_i z
      have := f.mu_busy (k := h.rows.length) (Nat.le_refl _)
      have hp := List.length_pos_iff.mpr z
      rw [WF.restN_more (f.run fun w hw => Hl.busy_lt w hw) (by walk_at "o") (show n ≤ m by walk_at "o")]
theorem WF.rest_eq (f : WF h) : h.rest = if h.busy h.rows.length = [] then [] else h.busy h.rows.length ++ (h.run (h.busy h.rows.length)).rest := by
  show Hl.restN (h.mu + 1) h = _
  unfold Hl.restN
  split
  · rfl
  · rename_i z
    have := f.mu_busy (k := h.rows.length) (Nat.le_refl _)
    have hp := List.length_pos_iff.mpr z
    rw [WF.restN_more (f.run fun w hw => Hl.busy_lt w hw) (n := (h.run (h.busy h.rows.length)).mu + 1) (by walk_at "o") (by walk_at "o")]
    rfl
theorem w_rested (F : HF ix Φ) (R : RF ix rx Φ) (q : RepB B σ g r d s c h) (hB : ∀ a, B a → a < σ.length) (o : Okh h) (h0 : 0 < σ.length)
    (hQ : ∀ σ' d' s' c' b, Ex σ σ' → RepB B σ' g r d' s' c' (h.run h.rest) → σ'[b]? = some (h.tells h.rest) → σ.length ≤ b → Q (.tup [.inst [.ref g, .ref r, .ref d', .ref s', .ref c'], .ref b]) σ') :
    callW Φ (n + 6) rx.rested [.inst [.ref g, .ref r, .ref d, .ref s, .ref c]] σ Q x := by
  refine ⟨_, R.rested, rfl, ?_⟩
  unfold gRested
  (try dsimp only [start, List.map, List.replicate, List.cons_append, List.nil_append, Nat.reduceSub])
  (with_reducible (refine s_set ?_; refine x_dispA (by with_unfolding_all rfl) (by with_unfolding_all rfl) ?_; refine s_setA (by with_unfolding_all rfl) ?_; refine s_while ?_); dsimp only [put])
  have q1 : RepB (fun a => B a ∨ a = σ.length) (σ ++ [[]]) g r d s c h := (q.more fun a z => z.elim .inl fun y => .inr (by walk_at "o")).ag Ex.one.ag
  have mle := o.wf.mu_le o.r1
  refine while_rule (fun k m σ' => Mini.Ek7 fun L d' s' c' mv s3 s4 => Mini.Cj8 (Ex σ σ') (RepB (fun a => B a ∨ a = σ.length) σ' g r d' s' c' (h.run L)) (σ'[σ.length]? = some (h.tells L)) ((∀ w ∈ L, w < h.rows.length)) (k = (h.run L).mu + (if mv then 1 else 0)) (k + L.length ≤ h.mu + 1) ((h.rest = if mv then L ++ (h.run L).rest else L)) (m = [some (.inst [.ref g, .ref r, .ref d', .ref s', .ref c']), some (.ref σ.length), some (.bool mv), s3, s4, none, none, none]))
    (k := h.mu + 1) ⟨[], d, s, c, true, none, none, Ex.one, q1, last_get, nofun, rfl, Nat.le_refl _, rfl, rfl⟩ ?_
  rintro k m σ1 K ⟨L, d1, s1, c1, mv, s3, s4, e1, q1, b1, hL, rfl, hlen, hrest, rfl⟩ hK
  with_reducible (refine t_var (by with_unfolding_all rfl) ?_; refine k_tru ?_)
  cases mv with
  | false =>
    refine k_no ?_
    with_reducible (refine s_ret ?_; refine x_tupA (by with_unfolding_all rfl) ?_)
    rw [hrest] at hQ
    exact hQ _ _ _ _ _ e1 (q1.more fun a z => .inl (.inl z)) b1 (Nat.le_refl _)
  | true =>
    refine k_yes ?_
    have hrest : h.rest = L ++ (h.run L).rest := hrest
    have hlen : (h.run L).mu + 1 + L.length ≤ h.mu + 1 := hlen
    have o1 := o.run hL
    have rr : (h.run L).rows.length = h.rows.length := by rw [Hl.run_rows]
    (with_reducible (refine s_setA (by with_unfolding_all rfl) ?_; refine s_for ?_; refine r_range ?_; refine x_b1 ?_; refine x_attrF (by with_unfolding_all rfl) (by with_unfolding_all rfl) ?_); dsimp only [put])
    obtain ⟨rv, y1, y2⟩ := q1.rows
    refine b_len y1 ?_
    (rw [y2.len]; rw [rr])
    skip
    have r12 := o.r1
    refine r_rgK (by walk_at "o") ?_
    refine forL_rule (fun i m σ' => Mini.Ek5 fun d' s' c' s3 s4 => Mini.Cj4 (Ex σ σ') (RepB (fun a => B a ∨ a = σ.length) σ' g r d' s' c' ((h.run L).run ((h.run L).busy i))) (σ'[σ.length]? = some (h.tells L ++ (h.run L).tells ((h.run L).busy i))) (m = [some (.inst [.ref g, .ref r, .ref d', .ref s', .ref c']), some (.ref σ.length), some (.bool (decide ((h.run L).busy i ≠ []))), s3, s4, none, none, none]))
      ⟨d1, s1, c1, s3, s4, e1, q1, by rw [b1]; simp [Hl.busy, Hl.tells], rfl⟩ ?_ ?_
    · rintro i v m σ2 K2 hv ⟨d2, s2, c2, s3, s4, e2, q2, b2, rfl⟩ hK2
      obtain ⟨rfl, hi⟩ := rangeV_get hv
      have hi : i < h.rows.length := by walk_at "o"
      refine ⟨trivial, _, rfl, ?_⟩
      have bl : ∀ w ∈ (h.run L).busy i, w < (h.run L).rows.length := fun w hw => by have := Hl.busy_lt w hw; walk_at "o"
      have o2 := o1.run bl
      have rr2 : ((h.run L).run ((h.run L).busy i)).rows.length = h.rows.length := by (rw [Hl.run_rows]; rw [rr])
      (with_reducible (refine s_if1 ?_; refine t_not ?_; refine t_callA (by with_unfolding_all rfl) ?_); dsimp only [put])
      refine w_idle F R q2.rep o2 (by walk_at "o") fun σ3 e3 => ?_
      with_reducible (refine k_tru ?_)
      have lt2 := lt_of_get b2
      have bz := Hl.busy_len (h := h.run L) (k := i)
      cases hid : ((h.run L).run ((h.run L).busy i)).idle i with
      | true =>
        refine k_nyes ?_
        have eb : (h.run L).busy (i + 1) = (h.run L).busy i := by
          show (if _ then _ else _) = _
          rw [if_pos hid]
        refine hK2 _ _ ?_
        rw [eb]
        exact ⟨d2, s2, c2, _, _, e2.trans e3, q2.ag e3.ag, e3.get b2, rfl⟩
      | false =>
        refine k_nno ?_
        have eb : (h.run L).busy (i + 1) = (h.run L).busy i ++ [i] := by
          show (if _ then _ else _) = _
          rw [if_neg (by rw [hid]; decide)]
        with_reducible (refine s_unpack ?_; refine x_callA (by with_unfolding_all rfl) ?_)
        refine w_stepB F (q2.ag e3.ag) (fun a z => z.elim (fun y => Nat.lt_of_lt_of_le (hB a y) (e2.trans e3).len) fun y => by rw [y]; exact Nat.lt_of_lt_of_le lt2 e3.len) o2.wf o2.g1 o2.r1 (by walk_at "o") (by have := e3.len; walk_at "o") fun σ4 d4 s4' c4 e4 q4 => ?_
        (with_reducible (refine s_unK (by with_unfolding_all rfl) ?_; refine s_expr ?_; refine x_m1 ?_; refine x_atom (by with_unfolding_all rfl) ?_; refine x_isRef ?_; refine x_atom (by with_unfolding_all rfl) ?_); dsimp only [put])
        refine b_app (by walk_at "o") (e4.get (e3.get b2)) (by (rw [List.length_append]; rw [Hl.tells_len]; rw [Hl.tells_len]); simp [lim]; walk_at "o") ?_
        (with_reducible (refine s_setA (by with_unfolding_all rfl) ?_; refine s_nil ?_; refine s_nil ?_); dsimp only [put])
        refine hK2 _ _ ?_
        (rw [eb]; rw [decide_eq_true (show (h.run L).busy i ++ [i] ≠ [] by simp)]; rw [Hl.run_app]; rw [Hl.tells_app]; rw [← List.append_assoc])
        exact ⟨d4, s4', c4, _, _, (e2.trans (e3.trans e4)).set (Nat.le_refl _), q4.ag (Ag.set (.inr rfl)), get_set_eq (lt_of_get (e4.get (e3.get b2))), rfl⟩
    · rintro m σ2 ⟨d2, s2, c2, s3, s4, e2, q2, b2, rfl⟩
      refine ⟨trivial, ?_⟩
      rw [rangeV_length, Int.toNat_natCast, ← rr] at q2 b2 ⊢
      have mb := o1.wf.mu_busy (k := (h.run L).rows.length) (Nat.le_refl _)
      have er := o1.wf.rest_eq
      refine hK ((h.run (L ++ (h.run L).busy (h.run L).rows.length)).mu + (if decide ((h.run L).busy (h.run L).rows.length ≠ []) then 1 else 0)) _ _ ?_ ⟨L ++ (h.run L).busy (h.run L).rows.length, d2, s2, c2, _, _, _, e2, ?_, ?_, ?_, rfl, ?_, ?_, rfl⟩
      · rw [Hl.run_app]
        show _ < (h.run L).mu + 1
        by_cases hz : (h.run L).busy (h.run L).rows.length = []
        · rw [if_neg (by simp [hz])]; walk_at "o"
        · have := List.length_pos_iff.mpr hz
          rw [if_pos (by simp [hz])]; walk_at "o"
      · rw [Hl.run_app]; exact q2
      · rw [Hl.tells_app]; exact b2
      · intro w hw
        rcases List.mem_append.mp hw with hw | hw
        · exact hL w hw
        · have := Hl.busy_lt w hw; walk_at "o"
      · (rw [Hl.run_app]; rw [List.length_append])
        by_cases hz : (h.run L).busy (h.run L).rows.length = []
        · rw [if_neg (by simp [hz])]; walk_at "o"
        · rw [if_pos (by simp [hz])]; walk_at "o"
      · (rw [hrest]; rw [er])
        by_cases hz : (h.run L).busy (h.run L).rows.length = []
        · (rw [if_pos hz]; rw [if_neg (by simp [hz])]; rw [hz])
        · (rw [if_neg hz]; rw [if_pos (by simp [hz])]; rw [Hl.run_app]; rw [List.append_assoc])
end
end Mini

set_option autoImplicit false
set_option linter.unusedVariables false


namespace Mini
structure Dx where
  cellAt : Nat
  mixed : Nat
  members : Nat
  gates : Nat
  sequence : Nat
  ownRow : Nat
  rows : Nat
  hall : Nat
  weave : Nat
noncomputable def dx : Dx := ⟨31, 33, 34, 35, 36, 37, 38, 39, 40⟩
noncomputable def dCellAt : Fn := ⟨2, 5, [
  .ite (.cmp .lt (.var 1) (.b1 .len (.var 0))) [
    .ret (.idx (.var 0) (.var 1))] [],
  .ret (.int (0))]⟩
noncomputable def dMixed : Fn := ⟨2, 6, [
  .set 2 (.bin .mod (.bin .mul (.bin .add (.var 0) (.bin .mul (.int (7919)) (.var 1))) (.int (48271))) (.int (2147483647))),
  .ret (.bin .mod (.bin .mul (.var 2) (.var 2)) (.int (2147483647)))]⟩
noncomputable def dMembersA : List S := [
  .set 2 (.disp []),
  .set 3 (.bin .mod (.var 0) (.int (4095))),
  .for [4] (.range (.var 1)) [
    .ite (.or (.cmp .eq (.bin .mod (.var 3) (.int (2))) (.int (1))) (.cmp .eq (.bin .mod (.bin .fdiv (.var 0) (.int (4095))) (.int (3))) (.int (1)))) [
      .expr (.m1 .append (.var 2) (.var 4))] [],
    .set 3 (.bin .fdiv (.var 3) (.int (2)))],
  .ite (.cmp .eq (.b1 .len (.var 2)) (.int (0))) [
    .set 2 (.disp [(.bin .mod (.bin .fdiv (.var 0) (.int (4095))) (.var 1))])] []]
noncomputable def dMembersB (dx : Dx) : List S := [
  .ite (.cmp .eq (.bin .mod (.bin .fdiv (.var 0) (.int (294840))) (.int (3))) (.int (1))) [
    .set 3 (.var 2),
    .set 2 (.disp []),
    .while (.cmp .gt (.b1 .len (.var 3)) (.int (0))) [
      .expr (.m1 .append (.var 2) (.m1 .pop (.var 3) (.bin .mod (.call dx.mixed [(.var 0), (.b1 .len (.var 3))]) (.b1 .len (.var 3)))))]] []]
noncomputable def dMembersC : List S := [
  .set 5 (.bin .mod (.bin .fdiv (.var 0) (.int (12285))) (.b1 .len (.var 2))),
  .ite (.cmp .eq (.bin .mod (.bin .fdiv (.var 0) (.int (147420))) (.int (2))) (.int (1))) [
    .expr (.m0 .reverse (.var 2))] [],
  .ret (.bin .add (.from_ (.var 2) (.var 5)) (.upto (.var 2) (.var 5)))]
noncomputable def dMembers (dx : Dx) : Fn := ⟨2, 9, dMembersA ++ (dMembersB dx ++ dMembersC)⟩
/-- a list of walkers, none twice -/
structure OkL (k : Nat) (l : List Nat) : Prop where
  ne : l ≠ []
  nd : l.Nodup
  lt : ∀ w ∈ l, w < k
theorem OkL.perm {k : Nat} {l l' : List Nat} (h : OkL k l) (p : l'.Perm l) : OkL k l' :=
  ⟨fun z => h.ne (List.length_eq_zero_iff.mp (by (rw [← p.length_eq]; rw [z]); rfl)), p.nodup_iff.mpr h.nd, fun w hw => h.lt w (p.mem_iff.mp hw)⟩
section
variable {σ : H} {Q : P}
theorem b_from {a k : Nat} {xs : List V} (hx : σ[a]? = some xs) (hl : xs.length ≤ lim) (h : Q (.ref σ.length) (σ ++ [xs.drop k])) : sliceFrom (.ref a) (.int k) σ Q := ⟨xs, hx, by walk_at "o", by simp; walk_at "o", by simpa using h⟩
theorem b_cat {a b : Nat} {xs ys : List V} (hx : σ[a]? = some xs) (hy : σ[b]? = some ys) (hl : xs.length + ys.length ≤ lim) (h : Q (.ref σ.length) (σ ++ [xs ++ ys])) : binop .add (.ref a) (.ref b) σ Q := ⟨rfl, xs, ys, hx, hy, by rw [List.length_append]; exact hl, h⟩
end
theorem pop_perm {L R : List Nat} {j t : Nat} (h : L[j]? = some t) : (L.eraseIdx j ++ (R ++ [t])).Perm (L ++ R) := by
  obtain ⟨h1, h2⟩ := List.getElem?_eq_some_iff.mp h
  have p : (t :: L.eraseIdx j).Perm L := by
    have e : L = L.take j ++ t :: L.drop (j + 1) := by (rw [← h2]; rw [← List.drop_eq_getElem_cons h1]; rw [List.take_append_drop])
    rw [List.eraseIdx_eq_take_drop_succ]
    exact List.perm_middle.symm.trans (e ▸ List.Perm.refl _)
  refine (List.perm_append_comm_assoc _ _ _).trans ?_
  refine (List.Perm.append_left R (List.perm_append_comm (l₁ := L.eraseIdx j) (l₂ := [t]))).trans ?_
  exact (List.Perm.append_left R p).trans List.perm_append_comm
noncomputable def dGates (dx : Dx) : Fn := ⟨3, 9, [
  .set 3 (.disp []),
  .for [4] (.range (.var 2)) [
    .set 5 (.call dx.mixed [(.var 0), (.bin .add (.var 4) (.int (1)))]),
    .expr (.m1 .append (.var 3) (.tup [(.idx (.disp [(.str 0), (.str 1)]) (.bin .mod (.var 5) (.int (2)))), (.call dx.members [(.bin .fdiv (.var 5) (.int (2))), (.var 1)])]))],
  .ret (.var 3)]⟩
noncomputable def dSequence (dx : Dx) : Fn := ⟨3, 9, [
  .set 3 (.disp []),
  .for [4] (.range (.var 2)) [
    .set 5 (.call dx.mixed [(.var 0), (.bin .add (.var 4) (.int (5)))]),
    .ite (.or (.cmp .eq (.var 4) (.int (0))) (.cmp .eq (.bin .mod (.var 5) (.int (2))) (.int (1)))) [
      .expr (.m1 .append (.var 3) (.bin .mod (.bin .fdiv (.var 5) (.int (2))) (.var 1)))] [
      .expr (.m1 .append (.var 3) (.idx (.var 3) (.bin .sub (.var 4) (.int (1)))))]],
  .ret (.var 3)]⟩
noncomputable def dOwnRow (dx : Dx) : Fn := ⟨3, 9, [
  .set 3 (.compIf (.var 6) 6 (.range (.b1 .len (.var 2))) (.cmp .inn (.var 1) (.idx (.idx (.var 2) (.var 6)) (.int (1))))),
  .set 4 (.disp []),
  .ite (.cmp .gt (.b1 .len (.var 3)) (.int (0))) [
    .for [5] (.range (.bin .mod (.call dx.mixed [(.var 0), (.bin .add (.int (50)) (.var 1))]) (.int (6)))) [
      .expr (.m1 .append (.var 4) (.idx (.var 3) (.bin .mod (.bin .fdiv (.call dx.mixed [(.var 0), (.bin .add (.bin .add (.bin .mul (.int (13)) (.var 1)) (.var 5)) (.int (2)))]) (.int (7))) (.b1 .len (.var 3)))))]] [],
  .ret (.var 4)]⟩
structure DF (dx : Dx) (Φ : Nat → Option Fn) : Prop where
  cellAt : Φ dx.cellAt = some dCellAt
  mixed : Φ dx.mixed = some dMixed
  members : Φ dx.members = some (dMembers dx)
  gates : Φ dx.gates = some (dGates dx)
  sequence : Φ dx.sequence = some (dSequence dx)
  ownRow : Φ dx.ownRow = some (dOwnRow dx)
section
variable {Φ : Nat → Option Fn} {n : Nat} {σ : H} {Q : P} {x : X}
theorem d_cellAt (F : DF dx Φ) {k : Nat} {is : List Int} (h0 : σ[0]? = some (is.map V.int)) (hQ : ∀ c : Int, Q (.int c) σ) : callW Φ (n + 1) dx.cellAt [.ref 0, .int k] σ Q x := by
  refine ⟨_, F.cellAt, rfl, ?_⟩
  unfold dCellAt
  (try dsimp only [start, List.map, List.replicate, List.cons_append, List.nil_append, Nat.reduceSub])
  with_reducible (refine s_if1 ?_; refine t_cmp ?_; refine x_atom (by with_unfolding_all rfl) ?_; refine x_b1A (by with_unfolding_all rfl) ?_)
  refine b_len h0 ?_
  with_reducible (refine c_lt ?_; refine k_tru ?_)
  refine k_dec (fun h => ?_) fun h => ?_
  · rw [List.length_map] at h
    have hk : k < is.length := by walk_at "o"
    with_reducible (refine s_ret ?_; refine x_idxA (by with_unfolding_all rfl) (by with_unfolding_all rfl) ?_)
    exact x_item (v := .int is[k]) h0 (by simp [hk]) (hQ _)
  · with_reducible (refine s_retA (by with_unfolding_all rfl) ?_)
    exact hQ 0
theorem d_mixed (F : DF dx Φ) {a k : Int} (hk : 0 ≤ k ∧ k < 1000000) (hQ : ∀ c : Int, 0 ≤ c → Q (.int c) σ) : callW Φ (n + 1) dx.mixed [.int a, .int k] σ Q x := by
  refine ⟨_, F.mixed, rfl, ?_⟩
  unfold dMixed
  (try dsimp only [start, List.map, List.replicate, List.cons_append, List.nil_append, Nat.reduceSub])
  with_reducible (refine s_set ?_; refine x_bin ?_; refine x_bin ?_; refine x_bin ?_; refine x_atom (by with_unfolding_all rfl) ?_; refine x_binA (by with_unfolding_all rfl) (by with_unfolding_all rfl) ?_; refine b_mul (by walk_at "o") ?_; refine b_add ?_; refine x_atom (by with_unfolding_all rfl) ?_; refine b_mul (by decide) ?_; refine x_atom (by with_unfolding_all rfl) ?_; refine b_mod (by decide) ?_; refine s_ret ?_; refine x_bin ?_; refine x_binA (by with_unfolding_all rfl) (by with_unfolding_all rfl) ?_; refine b_mul (by walk_at "o") ?_; refine x_atom (by with_unfolding_all rfl) ?_; refine b_mod (by decide) ?_)
  have h2 : (0 : Int) < 2147483647 := by decide
  have h3 := Int.emod_nonneg ((a + 7919 * k) * 48271) (b := 2147483647) (by walk_at "o")
  have h4 := Int.emod_lt_of_pos ((a + 7919 * k) * 48271) h2
  generalize (a + 7919 * k) * 48271 % 2147483647 = z at *
  skip
  exact hQ _ (Int.emod_nonneg _ (by walk_at "o"))
theorem d_members (F : DF dx Φ) {a : Int} {m : Nat} (hm : 1 ≤ m) (hm2 : m ≤ 12) (hs : 0 < σ.length) (hQ : ∀ σ' b (l : List Nat), Ex σ σ' → σ.length ≤ b → σ'[b]? = some (l.map nv) → OkL m l → Q (.ref b) σ') : callW Φ (n + 2) dx.members [.int a, .int m] σ Q x := by
  refine ⟨_, F.members, rfl, ?_⟩
  unfold dMembers
  refine WSs_append ?_
  -- the last part
  have kC : ∀ (σ1 : H) (b : Nat) (l : List Nat) (s3 s4 : Option V), Ex σ σ1 → σ.length ≤ b → σ1[b]? = some (l.map nv) → OkL m l →
      WSs (callW Φ (n + 1)) dMembersC x [some (.int a), some (.int m), some (.ref b), s3, s4, none, none, none, none] σ1 (fun _ σ => Q .none σ) Q := by
    intro σ1 b l s3 s4 e1 hb h1 ok
    have hl : l.length ≤ m := pigeon m l ok.nd ok.lt
    have hp := List.length_pos_iff.mpr ok.ne
    unfold dMembersC
    (with_reducible (refine s_set ?_; refine x_bin ?_; refine x_binA (by with_unfolding_all rfl) (by with_unfolding_all rfl) ?_; refine b_fdiv (by decide) ?_; refine x_b1A (by with_unfolding_all rfl) ?_); dsimp only [put])
    refine b_lenE h1 (by rw [List.length_map]) ?_
    with_reducible (refine b_mod (by walk_at "o") ?_; refine s_if1 ?_; refine t_cmp ?_; refine x_bin ?_; refine x_binA (by with_unfolding_all rfl) (by with_unfolding_all rfl) ?_; refine b_fdiv (by decide) ?_; refine x_atom (by with_unfolding_all rfl) ?_; refine b_mod (by decide) ?_; refine x_atom (by with_unfolding_all rfl) ?_; refine e_eq ?_; refine k_tru ?_)
    obtain ⟨j, hj⟩ := Int.eq_ofNat_of_zero_le (Int.emod_nonneg (a / 12285) (show (l.length : Int) ≠ 0 by walk_at "o"))
    rw [hj]
    have fin : ∀ (σ2 : H) (l2 : List Nat), Ex σ σ2 → σ2[b]? = some (l2.map nv) → l2.Perm l → WSs (callW Φ (n + 1)) [.ret (.bin .add (.from_ (.var 2) (.var 5)) (.upto (.var 2) (.var 5)))] x [some (.int a), some (.int m), some (.ref b), s3, s4, some (.int j), none, none, none] σ2 (fun _ σ => Q .none σ) Q := by
      intro σ2 l2 e2 h2 p2
      have hl2 : l2.length = l.length := p2.length_eq
      with_reducible (refine s_ret ?_; refine x_bin ?_; refine x_from ?_; refine x_atom (by with_unfolding_all rfl) ?_; refine x_atom (by with_unfolding_all rfl) ?_)
      refine b_from h2 (by simp [lim]; walk_at "o") ?_
      with_reducible (refine x_upto ?_; refine x_atom (by with_unfolding_all rfl) ?_; refine x_atom (by with_unfolding_all rfl) ?_)
      refine b_upto (Ex.one.get h2) (by simp [lim]; walk_at "o") ?_
      skip
      refine b_cat (Ex.one.get last_get) last_get (by simp [lim]; walk_at "o") ?_
      refine hQ _ _ (l2.drop j ++ l2.take j) (e2.trans (Ex.one.trans (Ex.one.trans Ex.one))) (e2.trans (Ex.one.trans Ex.one)).len (by (rw [List.map_append]; rw [List.map_drop]; rw [List.map_take]); exact last_get) (ok.perm ((List.perm_append_comm.trans (by rw [List.take_append_drop])).trans p2))
    skip
    refine k_dec (fun _ => ?_) fun _ => ?_
    · with_reducible (refine s_expr ?_; refine x_m0 ?_; refine x_atom (by with_unfolding_all rfl) ?_)
      rw [e_rev]
      refine ⟨_, by walk_at "o", h1, ?_⟩
      rw [← List.map_reverse]
      exact fin _ l.reverse (e1.set hb) (get_set_eq (lt_of_get h1)) (List.reverse_perm l)
    · exact fin σ1 l e1 h1 (List.Perm.refl _)
  -- the middle part
  have kB : ∀ (σ1 : H) (b : Nat) (l : List Nat) (s3 s4 : Option V), Ex σ σ1 → σ.length ≤ b → σ1[b]? = some (l.map nv) → OkL m l →
      WSs (callW Φ (n + 1)) (dMembersB dx ++ dMembersC) x [some (.int a), some (.int m), some (.ref b), s3, s4, none, none, none, none] σ1 (fun _ σ => Q .none σ) Q := by
    intro σ1 b l s3 s4 e1 hb h1 ok
    have hl : l.length ≤ m := pigeon m l ok.nd ok.lt
    refine WSs_append ?_
    unfold dMembersB
    with_reducible (refine s_if1 ?_; refine t_cmp ?_; refine x_bin ?_; refine x_binA (by with_unfolding_all rfl) (by with_unfolding_all rfl) ?_; refine b_fdiv (by decide) ?_; refine x_atom (by with_unfolding_all rfl) ?_; refine b_mod (by decide) ?_; refine x_atom (by with_unfolding_all rfl) ?_; refine e_eq ?_; refine k_tru ?_)
    refine k_dec (fun _ => ?_) fun _ => kC σ1 b l s3 s4 e1 hb h1 ok
    (with_reducible (refine s_setA (by with_unfolding_all rfl) ?_; refine s_set ?_; refine x_dispA (by with_unfolding_all rfl) (by with_unfolding_all rfl) ?_; refine s_while ?_); dsimp only [put])
    have e2 : Ex σ1 (σ1 ++ [[]]) := Ex.one
    have g2 : (σ1 ++ [[]])[σ1.length]? = some [] := last_get
    have hb1 : b < σ1.length := lt_of_get h1
    have el := e1.len
    generalize hc : σ1.length = c at *
    generalize σ1 ++ [[]] = σ2 at *
    refine while_rule (fun k mm σ' => Mini.Ek2 fun (L R : List Nat) => Mini.Cj6 (k = L.length) ((L ++ R).Perm l) (Ex σ σ') (σ'[b]? = some (L.map nv)) (σ'[c]? = some (R.map nv)) (mm = [some (.int a), some (.int m), some (.ref c), some (.ref b), s4, none, none, none, none])) (k := l.length)
      ⟨l, [], rfl, by simp, e1.trans e2, e2.get h1, g2, rfl⟩ ?_
    rintro k mm σ3 K ⟨L, R, rfl, p, e3, h3, g3, rfl⟩ hK
    have hLR : L.length + R.length = l.length := by (rw [← p.length_eq]; rw [List.length_append])
    with_reducible (refine t_cmp ?_; refine x_b1A (by with_unfolding_all rfl) ?_)
    refine b_lenE h3 (by rw [List.length_map]) ?_
    with_reducible (refine x_atom (by with_unfolding_all rfl) ?_; refine c_gt ?_; refine k_tru ?_)
    refine k_dec (fun hpos => ?_) fun hz => ?_
    · with_reducible (refine s_expr ?_; refine x_m1 ?_; refine x_atom (by with_unfolding_all rfl) ?_; refine x_isRef ?_; refine x_m1 ?_; refine x_atom (by with_unfolding_all rfl) ?_; refine x_isRef ?_; refine x_bin ?_; refine x_call ?_; refine l_cons ?_; refine x_atom (by with_unfolding_all rfl) ?_; refine l_cons ?_; refine x_b1A (by with_unfolding_all rfl) ?_)
      refine b_lenE h3 (by rw [List.length_map]) ?_
      with_reducible (refine l_atoms (by with_unfolding_all rfl) ?_)
      refine d_mixed F (by walk_at "o") fun c1 hc1 => ?_
      with_reducible (refine x_b1A (by with_unfolding_all rfl) ?_)
      refine b_lenE h3 (by rw [List.length_map]) ?_
      with_reducible (refine b_mod (by walk_at "o") ?_)
      have hc2 := Int.emod_lt_of_pos c1 (show (0 : Int) < L.length by walk_at "o")
      obtain ⟨j, hj⟩ := Int.eq_ofNat_of_zero_le (Int.emod_nonneg c1 (show (L.length : Int) ≠ 0 by walk_at "o"))
      rw [hj] at hc2 ⊢
      have hjl : j < L.length := by walk_at "o"
      have hjt : L[j]? = some L[j] := by simp [hjl]
      rw [e_pop]
      refine ⟨L.map nv, .int L[j], by walk_at "o", h3, by walk_at "o", by rw [Int.toNat_natCast]; exact get_nv hjt, ?_⟩
      (rw [Int.toNat_natCast]; rw [e_app])
      refine ⟨R.map nv, by walk_at "o", get_set_ne (by walk_at "o") g3, by simp [lim]; walk_at "o", ?_⟩
      with_reducible (refine s_nil ?_)
      refine hK (L.eraseIdx j).length _ _ (by rw [List.length_eraseIdx_of_lt hjl]; walk_at "o") ⟨L.eraseIdx j, R ++ [L[j]], rfl, (pop_perm hjt).trans p, (e3.set hb).set (by walk_at "o"), get_set_ne (by walk_at "o") ?_, ?_, rfl⟩
      · rw [get_set_eq (lt_of_get h3)]
        congr 1
        (rw [List.eraseIdx_eq_take_drop_succ]; rw [List.eraseIdx_eq_take_drop_succ]; rw [List.map_append]; rw [List.map_take]; rw [List.map_drop])
      · (rw [get_set_eq (by rw [List.length_set]; exact lt_of_get g3)]; rw [List.map_append]); rfl
    · have : L = [] := List.length_eq_zero_iff.mp (by walk_at "o")
      subst this
      with_reducible (refine s_nil ?_; refine s_nil ?_)
      exact kC σ3 c R _ _ e3 (by walk_at "o") g3 (ok.perm p)
  unfold dMembersA
  (try dsimp only [start, List.map, List.replicate, List.cons_append, List.nil_append, Nat.reduceSub])
  (with_reducible (refine s_set ?_; refine x_dispA (by with_unfolding_all rfl) (by with_unfolding_all rfl) ?_; refine s_set ?_; refine x_binA (by with_unfolding_all rfl) (by with_unfolding_all rfl) ?_; refine b_mod (by decide) ?_; refine s_for ?_; refine r_range ?_; refine x_atom (by with_unfolding_all rfl) ?_); dsimp only [put])
  refine r_rgK (by walk_at "o") ?_
  refine forL_rule (fun i mm σ' => Mini.Ek3 fun (l : List Nat) (z : Int) (s4 : Option V) => Mini.Cj5 (l.Nodup) ((∀ w ∈ l, w < i)) (l.length ≤ i) (σ' = σ ++ [l.map nv]) (mm = [some (.int a), some (.int m), some (.ref σ.length), some (.int z), s4, none, none, none, none]))
    ⟨[], _, none, by simp, by simp, by simp, rfl, rfl⟩ ?_ ?_
  · rintro i u mm σ1 K hu ⟨l, z, s4, nd, lt, ll, rfl, rfl⟩ hK
    obtain ⟨rfl, hi⟩ := rangeV_get hu
    refine ⟨trivial, _, rfl, ?_⟩
    have no : WSs (callW Φ (n + 1)) [.set 3 (.bin .fdiv (.var 3) (.int (2)))] x [some (.int a), some (.int m), some (.ref σ.length), some (.int z), some (.int i), none, none, none, none] (σ ++ [l.map nv]) K Q := by
      (with_reducible (refine s_set ?_; refine x_binA (by with_unfolding_all rfl) (by with_unfolding_all rfl) ?_; refine b_fdiv (by decide) ?_; refine s_nil ?_); dsimp only [put])
      exact hK _ _ ⟨l, _, _, nd, fun w hw => by have := lt w hw; walk_at "o", by walk_at "o", rfl, rfl⟩
    have yes : WSs (callW Φ (n + 1)) [.expr (.m1 .append (.var 2) (.var 4))] x [some (.int a), some (.int m), some (.ref σ.length), some (.int z), some (.int i), none, none, none, none] (σ ++ [l.map nv]) (fun mm σ => WSs (callW Φ (n + 1)) [.set 3 (.bin .fdiv (.var 3) (.int (2)))] x mm σ K Q) Q := by
      with_reducible (refine s_expr ?_; refine x_m1 ?_; refine x_atom (by with_unfolding_all rfl) ?_; refine x_isRef ?_; refine x_atom (by with_unfolding_all rfl) ?_)
      rw [e_app]
      refine ⟨l.map nv, by walk_at "o", last_get, by simp [lim]; walk_at "o", ?_⟩
      have s2 : (σ ++ [l.map nv]).set σ.length (l.map nv ++ [.int i]) = σ ++ [(l ++ [i]).map nv] := by simp [nv]
      rw [s2]
      (with_reducible (refine s_nil ?_; refine s_set ?_; refine x_binA (by with_unfolding_all rfl) (by with_unfolding_all rfl) ?_; refine b_fdiv (by decide) ?_; refine s_nil ?_); dsimp only [put])
      refine hK _ _ ⟨l ++ [i], _, _, ?_, ?_, by simp; walk_at "o", rfl, rfl⟩
      · rw [List.nodup_append]
        refine ⟨nd, by simp, fun w hw y hy => ?_⟩
        simp at hy; have := lt w hw; walk_at "o"
      · intro w hw
        rcases List.mem_append.mp hw with hw | hw
        · have := lt w hw; walk_at "o"
        · simp at hw; walk_at "o"
    (with_reducible (refine s_if1 ?_; refine t_or ?_; refine t_cmp ?_; refine x_binA (by with_unfolding_all rfl) (by with_unfolding_all rfl) ?_; refine b_mod (by decide) ?_; refine x_atom (by with_unfolding_all rfl) ?_; refine e_eq ?_; refine k_tru ?_); dsimp only [put])
    refine k_dec (fun _ => k_yes yes) fun _ => ?_
    · with_reducible (refine t_cmp ?_; refine x_bin ?_; refine x_binA (by with_unfolding_all rfl) (by with_unfolding_all rfl) ?_; refine b_fdiv (by decide) ?_; refine x_atom (by with_unfolding_all rfl) ?_; refine b_mod (by decide) ?_; refine x_atom (by with_unfolding_all rfl) ?_; refine e_eq ?_; refine k_tru ?_)
      refine k_dec (fun _ => ?_) fun _ => ?_
      · exact yes
      · exact no
  · rintro mm σ1 ⟨l, z, s4, nd, lt, ll, rfl, rfl⟩
    refine ⟨trivial, ?_⟩
    rw [rangeV_length, Int.toNat_natCast] at lt ll
    with_reducible (refine s_if1 ?_; refine t_cmp ?_; refine x_b1A (by with_unfolding_all rfl) ?_)
    refine b_lenE last_get (by rw [List.length_map]) ?_
    with_reducible (refine x_atom (by with_unfolding_all rfl) ?_; refine e_eq ?_; refine k_tru ?_)
    refine k_dec (fun h0 => ?_) fun h0 => ?_
    · (with_reducible (refine s_set ?_; refine x_disp ?_; refine l_cons ?_; refine x_bin ?_; refine x_binA (by with_unfolding_all rfl) (by with_unfolding_all rfl) ?_; refine b_fdiv (by decide) ?_; refine x_atom (by with_unfolding_all rfl) ?_; refine b_mod (by walk_at "o") ?_; refine l_atoms (by with_unfolding_all rfl) ?_; refine a_disp (by with_unfolding_all rfl) ?_; refine s_nil ?_; refine s_nil ?_); dsimp only [put])
      obtain ⟨j, hj⟩ := Int.eq_ofNat_of_zero_le (Int.emod_nonneg (a / 4095) (show (m : Int) ≠ 0 by walk_at "o"))
      have hj2 := Int.emod_lt_of_pos (a / 4095) (show (0 : Int) < m by walk_at "o")
      rw [hj] at hj2 ⊢
      exact kB _ _ [j] _ _ (Ex.one.trans Ex.one) (by simp) last_get ⟨by simp, by simp, fun w hw => by simp at hw; walk_at "o"⟩
    · with_reducible (refine s_nil ?_)
      exact kB _ _ l _ _ Ex.one (Nat.le_refl _) last_get ⟨fun q => h0 (by rw [q]; rfl), nd, lt⟩
end
end Mini

set_option autoImplicit false
set_option linter.unusedVariables false


namespace Mini
theorem compIf_go {T : V → H → (Bool → H → Prop) → Prop} {F : V → H → P → Prop} {ok : H → Prop} {Q : P} (I : Nat → List V → H → Prop) :
    ∀ (its acc : List V) (σ : H) (k : Nat), acc.length ≤ k → k + its.length ≤ lim → (∀ i v acc σ (Kt : P) (Kf : H → Prop), its[i]? = some v → I (k + i) acc σ → (∀ r σ', I (k + i + 1) (acc ++ [r]) σ' → Kt r σ') → (∀ σ', I (k + i + 1) acc σ' → Kf σ') → ok σ ∧ T v σ fun b σ => if b then F v σ Kt else Kf σ) →
    (∀ acc σ, I (k + its.length) acc σ → ok σ ∧ Q (.ref σ.length) (σ ++ [acc])) → I k acc σ → compL T F ok its acc σ Q
  | [], acc, σ, k, hl, hn, step, fin, h => ⟨(fin acc σ h).1, Nat.le_trans hl (Nat.le_trans (Nat.le_add_right _ _) hn), (fin acc σ h).2⟩
  | v :: vs, acc, σ, k, hl, hn, step, fin, h => by
    simp only [List.length_cons] at hn
    have nx : ∀ acc', acc'.length ≤ k + 1 → ∀ σ', I (k + 1) acc' σ' → compL T F ok vs acc' σ' Q := fun acc' hl' σ' h' => compIf_go I vs acc' σ' (k + 1) hl' (by walk_at "o") (fun i v acc σ Kt Kf e hi h1 h2 => step (i + 1) v acc σ Kt Kf (by simpa using e) (by rw [show k + (i + 1) = k + 1 + i by walk_at "o"]; exact hi) (fun r σ q => h1 r σ (by rw [show k + 1 + i + 1 = k + (i + 1) + 1 by walk_at "o"]; exact q)) (fun σ q => h2 σ (by rw [show k + 1 + i + 1 = k + (i + 1) + 1 by walk_at "o"]; exact q)))
      (fun acc σ q => fin acc σ (by rw [show k + (v :: vs).length = k + 1 + vs.length by simp only [List.length_cons]; walk_at "o"]; exact q)) h'
    exact step 0 v acc σ (fun r σ => acc.length < lim ∧ compL T F ok vs (acc ++ [r]) σ Q) (fun σ => compL T F ok vs acc σ Q) rfl h (fun r σ' h' => ⟨by walk_at "o", nx _ (by simp; walk_at "o") _ h'⟩) fun σ' h' => nx _ (by walk_at "o") _ h'
theorem compIf_rule {T : V → H → (Bool → H → Prop) → Prop} {F : V → H → P → Prop} {ok : H → Prop} {Q : P} (I : Nat → List V → H → Prop) {its : List V} {σ : H} (hn : its.length ≤ lim) (h0 : I 0 [] σ)
    (step : ∀ i v acc σ (Kt : P) (Kf : H → Prop), its[i]? = some v → I i acc σ → (∀ r σ', I (i + 1) (acc ++ [r]) σ' → Kt r σ') → (∀ σ', I (i + 1) acc σ' → Kf σ') → ok σ ∧ T v σ fun b σ => if b then F v σ Kt else Kf σ)
    (fin : ∀ acc σ, I its.length acc σ → ok σ ∧ Q (.ref σ.length) (σ ++ [acc])) : compL T F ok its [] σ Q :=
  compIf_go I its [] σ 0 (Nat.le_refl _) (by simpa using hn) (fun i v acc σ Kt Kf e hi h1 h2 => step i v acc σ Kt Kf e (by simpa using hi) (fun r σ q => h1 r σ (by simpa using q)) (fun σ q => h2 σ (by simpa using q))) (fun acc σ q => fin acc σ (by simpa using q)) h0
/-- gates that are drawn -/
structure Gts (σ : H) (k ga : Nat) (gates : List (Nat × List Nat)) : Prop where
  rep : ∃ gv, σ[ga]? = some gv ∧ A2 (GateR σ.length σ) gv gates
  ok : ∀ g ∈ gates, GateOk k g
theorem Gts.ex {σ σ' : H} {k ga : Nat} {gates : List (Nat × List Nat)} (G : Gts σ k ga gates) (e : Ex σ σ') : Gts σ' k ga gates := by
  obtain ⟨⟨gv, h1, h2⟩, h3⟩ := G
  exact ⟨⟨gv, e.get h1, h2.mono fun _ _ q => q.ex e e.len⟩, h3⟩
theorem Gts.at_ {σ : H} {k ga : Nat} {gates : List (Nat × List Nat)} (G : Gts σ k ga gates) {t : Nat} (ht : t < gates.length) : ∃ gv a, σ[ga]? = some gv ∧ gv[t]? = some (.tup [.str (gates.getD t (0, [])).1, .ref a]) ∧ σ[a]? = some ((gates.getD t (0, [])).2.map nv) := by
  obtain ⟨gv, h1, h2⟩ := G.rep
  obtain ⟨v, e1, a, rfl, _, e2⟩ := h2.right (get_of_lt (d := (0, [])) ht)
  exact ⟨gv, a, h1, e1, e2⟩
noncomputable def mem (gates : List (Nat × List Nat)) (w t : Nat) : Prop := w ∈ (gates.getD t (0, [])).2
theorem nat_mod {z : Int} {m : Nat} (hm : 0 < m) : ∃ t : Nat, z % m = t ∧ t < m := by
  obtain ⟨t, ht⟩ := Int.eq_ofNat_of_zero_le (Int.emod_nonneg z (show (m : Int) ≠ 0 by walk_at "o"))
  have := Int.emod_lt_of_pos z (show (0 : Int) < m by walk_at "o")
  exact ⟨t, ht, by walk_at "o"⟩
section
variable {Φ : Nat → Option Fn} {n : Nat} {σ : H} {Q : P} {x : X}
theorem d_gates (F : DF dx Φ) {a : Int} {m z : Nat} (hm : 1 ≤ m) (hm2 : m ≤ 12) (hz : z ≤ 12) (hs : 0 < σ.length) (hQ : ∀ σ' b (gates : List (Nat × List Nat)), Ex σ σ' → gates.length = z → Gts σ' m b gates → Q (.ref b) σ') : callW Φ (n + 3) dx.gates [.int a, .int m, .int z] σ Q x := by
  refine ⟨_, F.gates, rfl, ?_⟩
  unfold dGates
  (try dsimp only [start, List.map, List.replicate, List.cons_append, List.nil_append, Nat.reduceSub])
  (with_reducible (refine s_set ?_; refine x_dispA (by with_unfolding_all rfl) (by with_unfolding_all rfl) ?_; refine s_for ?_; refine r_range ?_; refine x_atom (by with_unfolding_all rfl) ?_); dsimp only [put])
  refine r_rgK (by walk_at "o") ?_
  refine forL_rule (fun i mm σ' => Mini.Ek4 fun gv gates s4 s5 => Mini.Cj6 (Ex σ σ') (gates.length = i) (σ'[σ.length]? = some gv) (A2 (GateB (· = σ.length) σ') gv gates) ((∀ g ∈ gates, GateOk m g)) (mm = [some (.int a), some (.int m), some (.int z), some (.ref σ.length), s4, s5, none, none, none]))
    ⟨[], [], none, none, Ex.one, rfl, last_get, A2.nil, nofun, rfl⟩ ?_ ?_
  · rintro i u mm σ1 K hu ⟨gv, gates, s4, s5, e1, hl, h1, q1, ok, rfl⟩ hK
    obtain ⟨rfl, hi⟩ := rangeV_get hu
    refine ⟨trivial, _, rfl, ?_⟩
    (with_reducible (refine s_set ?_; refine x_call ?_; refine l_cons ?_; refine x_atom (by with_unfolding_all rfl) ?_; refine l_cons ?_; refine x_binA (by with_unfolding_all rfl) (by with_unfolding_all rfl) ?_; refine b_add ?_; refine l_atoms (by with_unfolding_all rfl) ?_); dsimp only [put])
    refine d_mixed F (by walk_at "o") fun c hc => ?_
    with_reducible (refine s_expr ?_; refine x_m1 ?_; refine x_atom (by with_unfolding_all rfl) ?_; refine x_isRef ?_; refine x_tup ?_; refine l_cons ?_; refine x_idx ?_; refine x_dispA (by with_unfolding_all rfl) (by with_unfolding_all rfl) ?_; refine x_binA (by with_unfolding_all rfl) (by with_unfolding_all rfl) ?_; refine b_mod (by decide) ?_)
    obtain ⟨t, ht, ht2⟩ := nat_mod (z := c) (m := 2) (by walk_at "o")
    have ht : c % 2 = t := ht
    rw [ht]
    refine x_item (v := .str t) last_get (by rcases (show t = 0 ∨ t = 1 by walk_at "o") with rfl | rfl <;> rfl) ?_
    with_reducible (refine l_cons ?_; refine x_call ?_; refine l_cons ?_; refine x_binA (by with_unfolding_all rfl) (by with_unfolding_all rfl) ?_; refine b_fdiv (by decide) ?_; refine l_atoms (by with_unfolding_all rfl) ?_)
    refine d_members F hm hm2 (Ex.one.pos (e1.pos hs)) fun σ2 b l e2 hb h2 ok2 => ?_
    have e12 : Ex σ1 σ2 := Ex.one.trans e2
    with_reducible (refine l_atoms (by with_unfolding_all rfl) ?_)
    have gl := q1.len
    have lt1 := lt_of_get h1
    refine b_app (by walk_at "o") (e12.get h1) (by simp [lim]; walk_at "o") ?_
    with_reducible (refine s_nil ?_)
    have ag : Ag (· = σ.length) σ1 (σ2.set σ.length (gv ++ [.tup [.str t, .ref b]])) := e12.ag.trans (Ag.set rfl)
    have hb1 : b ≠ σ.length := fun z => by
      have : σ1.length ≤ b := Nat.le_trans Ex.one.len hb
      walk_at "o"
    refine hK _ _ ⟨_, gates ++ [(t, l)], _, _, (e1.trans e12).set (Nat.le_refl _), by simp [hl], get_set_eq (lt_of_get (e12.get h1)), (q1.mono fun _ _ q => q.ag ag).snoc ⟨b, rfl, hb1, get_set_ne (Ne.symm hb1) h2⟩, fun g hg => ?_, rfl⟩
    rcases List.mem_append.mp hg with z | z
    · exact ok g z
    · simp at z; subst z
      exact ⟨by show t = 0 ∨ t = 1; walk_at "o", ok2.ne, ok2.nd, ok2.lt⟩
  · rintro mm σ1 ⟨gv, gates, s4, s5, e1, hl, h1, q1, ok, rfl⟩
    refine ⟨trivial, ?_⟩
    rw [rangeV_length, Int.toNat_natCast] at hl
    with_reducible (refine s_retA (by with_unfolding_all rfl) ?_)
    exact hQ _ _ _ e1 hl ⟨⟨gv, h1, q1.mono fun _ _ q => q.toR⟩, ok⟩
theorem d_sequence (F : DF dx Φ) {a : Int} {z k : Nat} (hz : 1 ≤ z) (hk : k ≤ 1000) (hs : 0 < σ.length) (hQ : ∀ σ' b (l : List Nat), Ex σ σ' → l.length = k → σ'[b]? = some (l.map nv) → (∀ t ∈ l, t < z) → Q (.ref b) σ') : callW Φ (n + 2) dx.sequence [.int a, .int z, .int k] σ Q x := by
  refine ⟨_, F.sequence, rfl, ?_⟩
  unfold dSequence
  (try dsimp only [start, List.map, List.replicate, List.cons_append, List.nil_append, Nat.reduceSub])
  (with_reducible (refine s_set ?_; refine x_dispA (by with_unfolding_all rfl) (by with_unfolding_all rfl) ?_; refine s_for ?_; refine r_range ?_; refine x_atom (by with_unfolding_all rfl) ?_); dsimp only [put])
  refine r_rgK (by walk_at "o") ?_
  refine forL_rule (fun i mm σ' => Mini.Ek3 fun (l : List Nat) (s4 s5 : Option V) => Mini.Cj5 (l.length = i) ((∀ t ∈ l, t < z)) (Ex σ σ') (σ'[σ.length]? = some (l.map nv)) (mm = [some (.int a), some (.int z), some (.int k), some (.ref σ.length), s4, s5, none, none, none]))
    ⟨[], none, none, rfl, nofun, Ex.one, last_get, rfl⟩ ?_ ?_
  · rintro i u mm σ1 K hu ⟨l, s4, s5, hl, lt, e1, h1, rfl⟩ hK
    obtain ⟨rfl, hi⟩ := rangeV_get hu
    refine ⟨trivial, _, rfl, ?_⟩
    (with_reducible (refine s_set ?_; refine x_call ?_; refine l_cons ?_; refine x_atom (by with_unfolding_all rfl) ?_; refine l_cons ?_; refine x_binA (by with_unfolding_all rfl) (by with_unfolding_all rfl) ?_; refine b_add ?_; refine l_atoms (by with_unfolding_all rfl) ?_); dsimp only [put])
    refine d_mixed F (by walk_at "o") fun c hc => ?_
    with_reducible (refine s_ite ?_; refine t_or ?_; refine t_cmpA (by with_unfolding_all rfl) (by with_unfolding_all rfl) ?_; refine e_eq ?_; refine k_tru ?_)
    have lt1 := lt_of_get h1
    have ll : (l.map nv).length < lim := by simp [lim]; walk_at "o"
    have fin : ∀ t, t < z → ∃ L : List Nat, L.length = i + 1 ∧ (∀ t ∈ L, t < z) ∧ l.map nv ++ [V.int t] = L.map nv := fun t ht => ⟨l ++ [t], by simp [hl], fun y hy => (List.mem_append.mp hy).elim (lt y) fun q => by simp at q; walk_at "o", by simp [nv]⟩
    have yes : ∃ t, t < z ∧ c / 2 % z = (t : Int) := by
      obtain ⟨t, h1, h2⟩ := nat_mod (z := c / 2) (m := z) (by walk_at "o")
      exact ⟨t, h2, h1⟩
    obtain ⟨t, ht, hc⟩ := yes
    obtain ⟨L, L1, L2, L3⟩ := fin t ht
    have yes : WSs (callW Φ (n + 1)) [.expr (.m1 .append (.var 3) (.bin .mod (.bin .fdiv (.var 5) (.int (2))) (.var 1)))] x [some (.int a), some (.int z), some (.int k), some (.ref σ.length), some (.int i), some (.int c), none, none, none] σ1 (fun m σ => WSs (callW Φ (n + 1)) [] x m σ K Q) Q := by
      with_reducible (refine s_expr ?_; refine x_m1 ?_; refine x_atom (by with_unfolding_all rfl) ?_; refine x_isRef ?_; refine x_bin ?_; refine x_binA (by with_unfolding_all rfl) (by with_unfolding_all rfl) ?_; refine b_fdiv (by decide) ?_; refine x_atom (by with_unfolding_all rfl) ?_; refine b_mod (by walk_at "o") ?_)
      rw [hc]
      refine b_app (by walk_at "o") h1 ll ?_
      rw [L3]
      with_reducible (refine s_nil ?_; refine s_nil ?_)
      exact hK _ _ ⟨L, _, _, L1, L2, e1.set (Nat.le_refl _), get_set_eq lt1, rfl⟩
    refine k_dec (fun _ => k_yes yes) fun hi0 => ?_
    with_reducible (refine t_cmp ?_; refine x_binA (by with_unfolding_all rfl) (by with_unfolding_all rfl) ?_; refine b_mod (by decide) ?_; refine x_atom (by with_unfolding_all rfl) ?_; refine e_eq ?_; refine k_tru ?_)
    refine k_dec (fun _ => yes) fun _ => ?_
    with_reducible (refine s_expr ?_; refine x_m1 ?_; refine x_atom (by with_unfolding_all rfl) ?_; refine x_isRef ?_; refine x_idx ?_; refine x_atom (by with_unfolding_all rfl) ?_; refine x_binA (by with_unfolding_all rfl) (by with_unfolding_all rfl) ?_; refine b_sub ?_)
    have hil : i - 1 < l.length := by walk_at "o"
    have hit : l[i - 1]? = some l[i - 1] := by simp [hil]
    obtain ⟨L', L1', L2', L3'⟩ := fin l[i - 1] (lt _ (List.mem_of_getElem? hit))
    rw [show (i : Int) - 1 = (i - 1 : Nat) by walk_at "o"]
    refine x_item h1 (get_nv hit) ?_
    refine b_app (by walk_at "o") h1 ll ?_
    rw [L3']
    with_reducible (refine s_nil ?_; refine s_nil ?_)
    exact hK _ _ ⟨L', _, _, L1', L2', e1.set (Nat.le_refl _), get_set_eq lt1, rfl⟩
  · rintro mm σ1 ⟨l, s4, s5, hl, lt, e1, h1, rfl⟩
    refine ⟨trivial, ?_⟩
    rw [rangeV_length, Int.toNat_natCast] at hl
    with_reducible (refine s_retA (by with_unfolding_all rfl) ?_)
    exact hQ _ _ _ e1 hl h1 lt
theorem d_ownRow (F : DF dx Φ) {c : Int} {w k ga : Nat} {gates : List (Nat × List Nat)} (G : Gts σ k ga gates) (hg : gates.length ≤ 12) (hw : w ≤ 100) (hs : 0 < σ.length) (hQ : ∀ σ' b (l : List Nat), Ex σ σ' → σ.length ≤ b → σ'[b]? = some (l.map nv) → RowOk gates w l → Q (.ref b) σ') : callW Φ (n + 2) dx.ownRow [.int c, .int w, .ref ga] σ Q x := by
  refine ⟨_, F.ownRow, rfl, ?_⟩
  unfold dOwnRow
  (try dsimp only [start, List.map, List.replicate, List.cons_append, List.nil_append, Nat.reduceSub])
  (with_reducible (refine s_set ?_; refine x_compIf ?_; refine r_range ?_; refine x_b1A (by with_unfolding_all rfl) ?_); dsimp only [put])
  obtain ⟨gv, g1, g2⟩ := G.rep
  refine b_lenE g1 (by rw [g2.len]) ?_
  skip
  refine r_rgK (by walk_at "o") ?_
  refine compIf_rule (fun i acc σ' => Mini.Cj2 (σ' = σ) (Mini.Ek1 fun (l : List Nat) => Mini.Cj3 (acc = l.map nv) (l.length ≤ i) (∀ t ∈ l, t < gates.length ∧ w ∈ (gates.getD t (0, [])).2))) (by rw [rangeV_length]; simp [lim]; walk_at "o") ⟨rfl, [], rfl, Nat.le_refl _, nofun⟩ ?_ ?_
  · rintro i u acc σ' Kt Kf hu ⟨hσ, l, rfl, hl, hm⟩ h1 h2
    subst hσ
    obtain ⟨rfl, hi⟩ := rangeV_get hu
    have hi : i < gates.length := by walk_at "o"
    refine ⟨trivial, ?_⟩
    obtain ⟨gv, a, y1, y2, y3⟩ := G.at_ hi
    with_reducible (refine t_cmp ?_; refine x_atom (by with_unfolding_all rfl) ?_; refine x_idx ?_; refine x_idxA (by with_unfolding_all rfl) (by with_unfolding_all rfl) ?_)
    refine x_item y1 y2 ?_
    with_reducible (refine x_atom (by with_unfolding_all rfl) ?_; refine x_t1 ?_)
    refine c_in y3 ?_
    with_reducible (refine k_tru ?_)
    refine k_dec (fun z => ?_) fun z => ?_
    · with_reducible (refine x_atom (by with_unfolding_all rfl) ?_)
      exact h1 _ _ ⟨rfl, l ++ [i], by simp [nv], by simp; walk_at "o", fun t ht => (List.mem_append.mp ht).elim (hm t) fun q => by simp at q; subst q; exact ⟨hi, z⟩⟩
    · exact h2 _ ⟨rfl, l, rfl, by walk_at "o", hm⟩
  rintro acc σ' ⟨hσ, l, rfl, hl, hm⟩
  rw [hσ]
  clear hσ σ'
  refine ⟨trivial, ?_⟩
  rw [rangeV_length, Int.toNat_natCast] at hl
  (with_reducible (refine s_set ?_; refine x_dispA (by with_unfolding_all rfl) (by with_unfolding_all rfl) ?_; refine s_if1 ?_; refine t_cmp ?_; refine x_b1A (by with_unfolding_all rfl) ?_); dsimp only [put])
  refine b_lenE (Ex.one.get last_get) (by rw [List.length_map]) ?_
  have l0 : (σ ++ [l.map nv])[σ.length]? = some (l.map nv) := last_get
  have e0 : Ex σ (σ ++ [l.map nv]) := Ex.one
  have ln : (σ ++ [l.map nv]).length = σ.length + 1 := by simp
  generalize σ ++ [l.map nv] = σ0 at *
  have fin : ∀ (σ1 : H) (s5 : Option V) (r : List Nat), Ex σ σ1 → σ1[σ0.length]? = some (r.map nv) → r.length ≤ 5 → (∀ t ∈ r, t ∈ l) → WSs (callW Φ (n + 1)) [.ret (.var 4)] x [some (.int c), some (.int w), some (.ref ga), some (.ref σ.length), some (.ref σ0.length), s5, none, none, none] σ1 (fun _ σ => Q .none σ) Q := by
    intro σ1 s5 r e1 h1 hr hm'
    with_reducible (refine s_retA (by with_unfolding_all rfl) ?_)
    exact hQ _ _ r e1 (by walk_at "o") h1 ⟨by walk_at "o", fun t ht => hm t (hm' t ht)⟩
  with_reducible (refine x_atom (by with_unfolding_all rfl) ?_; refine c_gt ?_; refine k_tru ?_)
  refine k_dec (fun hp => ?_) fun hp => fin _ _ [] (e0.trans Ex.one) last_get (Nat.zero_le _) nofun
  with_reducible (refine s_for ?_; refine r_range ?_; refine x_bin ?_; refine x_call ?_; refine l_cons ?_; refine x_atom (by with_unfolding_all rfl) ?_; refine l_cons ?_; refine x_binA (by with_unfolding_all rfl) (by with_unfolding_all rfl) ?_; refine b_add ?_; refine l_atoms (by with_unfolding_all rfl) ?_)
  refine d_mixed F (by walk_at "o") fun c1 hc1 => ?_
  with_reducible (refine x_atom (by with_unfolding_all rfl) ?_; refine b_mod (by decide) ?_)
  obtain ⟨t, ht, ht2⟩ := nat_mod (z := c1) (m := 6) (by walk_at "o")
  have ht : c1 % 6 = t := ht
  rw [ht]
  refine r_rgK (by walk_at "o") ?_
  refine forL_rule (fun i mm σ' => Mini.Ek2 fun (r : List Nat) (s5 : Option V) => Mini.Cj5 (r.length = i) ((∀ t ∈ r, t ∈ l)) (Ex σ0 σ') (σ'[σ0.length]? = some (r.map nv)) (mm = [some (.int c), some (.int w), some (.ref ga), some (.ref σ.length), some (.ref σ0.length), s5, none, none, none]))
    ⟨[], none, rfl, nofun, Ex.one, last_get, rfl⟩ ?_ ?_
  · rintro i u mm σ1 K hu ⟨r, s5, hr, hm', e1, h1, rfl⟩ hK
    obtain ⟨rfl, hi⟩ := rangeV_get hu
    refine ⟨trivial, _, rfl, ?_⟩
    (with_reducible (refine s_expr ?_; refine x_m1 ?_; refine x_atom (by with_unfolding_all rfl) ?_; refine x_isRef ?_; refine x_idx ?_; refine x_atom (by with_unfolding_all rfl) ?_; refine x_bin ?_; refine x_bin ?_; refine x_call ?_; refine l_cons ?_; refine x_atom (by with_unfolding_all rfl) ?_; refine l_cons ?_; refine x_bin ?_; refine x_bin ?_; refine x_binA (by with_unfolding_all rfl) (by with_unfolding_all rfl) ?_; refine b_mul (by walk_at "o") ?_; refine x_atom (by with_unfolding_all rfl) ?_; refine b_add ?_; refine x_atom (by with_unfolding_all rfl) ?_; refine b_add ?_; refine l_atoms (by with_unfolding_all rfl) ?_); dsimp only [put])
    refine d_mixed F (by walk_at "o") fun c2 hc2 => ?_
    with_reducible (refine x_atom (by with_unfolding_all rfl) ?_; refine b_fdiv (by decide) ?_; refine x_b1A (by with_unfolding_all rfl) ?_)
    refine b_lenE (e1.get l0) (by rw [List.length_map]) ?_
    with_reducible (refine b_mod (by walk_at "o") ?_)
    obtain ⟨j, hj, hj2⟩ := nat_mod (z := c2 / 7) (m := l.length) (by walk_at "o")
    rw [hj]
    have hjt : l[j]? = some l[j] := by simp [hj2]
    refine x_item (e1.get l0) (get_nv hjt) ?_
    refine b_app (by walk_at "o") h1 (by simp [lim]; walk_at "o") ?_
    with_reducible (refine s_nil ?_)
    exact hK _ _ ⟨r ++ [l[j]], _, by simp [hr], fun t ht => (List.mem_append.mp ht).elim (hm' t) fun q => by simp at q; subst q; simp, e1.set (Nat.le_refl _), by rw [get_set_eq (lt_of_get h1)]; simp [nv], rfl⟩
  · rintro mm σ1 ⟨r, s5, hr, hm', e1, h1, rfl⟩
    rw [rangeV_length, Int.toNat_natCast] at hr
    exact ⟨trivial, fin σ1 s5 r (e0.trans e1) h1 (by walk_at "o") hm'⟩
end
end Mini

set_option autoImplicit false
set_option linter.unusedVariables false


namespace Mini
noncomputable def dRowsA (dx : Dx) : List S := [
  .set 3 (.call dx.cellAt [(.var 0), (.int (3))]),
  .set 4 (.bin .mod (.var 3) (.int (6))),
  .ite (.cmp .eq (.bin .mod (.bin .fdiv (.var 3) (.int (6))) (.int (8))) (.int (1))) [
    .set 4 (.bin .add (.int (6)) (.bin .mod (.bin .fdiv (.var 3) (.int (48))) (.int (10)))),
    .ite (.cmp .lt (.var 2) (.int (4))) [
      .set 4 (.bin .add (.int (7)) (.bin .mod (.bin .fdiv (.var 3) (.int (48))) (.int (34))))] []] []]
noncomputable def dRowsB (dx : Dx) : List S := [
  .set 5 (.call dx.sequence [(.call dx.cellAt [(.var 0), (.int (4))]), (.b1 .len (.var 1)), (.var 4)]),
  .set 6 (.disp []),
  .for [7] (.range (.var 2)) [
    .expr (.m1 .append (.var 6) (.compIf (.var 11) 11 (.list (.var 5)) (.cmp .inn (.var 7) (.idx (.idx (.var 1) (.var 11)) (.int (1))))))],
  .set 3 (.call dx.cellAt [(.var 0), (.int (5))]),
  .ite (.cmp .eq (.bin .mod (.call dx.mixed [(.var 3), (.int (3))]) (.int (3))) (.int (1))) [
    .ret (.comp (.call dx.ownRow [(.var 3), (.var 11), (.var 1)]) 11 (.range (.var 2)))] [],
  .set 8 (.bin .mod (.bin .fdiv (.var 3) (.int (5))) (.var 2)),
  .set 9 (.b1 .len (.idx (.var 6) (.var 8))),
  .ite (.and (.cmp .eq (.bin .mod (.var 3) (.int (5))) (.int (3))) (.cmp .gt (.var 9) (.int (0)))) [
    .set 10 (.bin .mod (.bin .fdiv (.var 3) (.int (60))) (.var 9)),
    .put (.var 6) (.var 8) (.bin .add (.upto (.idx (.var 6) (.var 8)) (.var 10)) (.from_ (.idx (.var 6) (.var 8)) (.bin .add (.var 10) (.int (1)))))] []]
noncomputable def dRowsC : List S := [
  .ite (.cmp .eq (.bin .mod (.var 3) (.int (5))) (.int (4))) [
    .expr (.m0 .reverse (.idx (.var 6) (.var 8)))] [],
  .ret (.var 6)]
noncomputable def dRows (dx : Dx) : Fn := ⟨3, 14, dRowsA dx ++ (dRowsB dx ++ dRowsC)⟩
noncomputable def dHallA (dx : Dx) : List S := [
  .set 1 (.call dx.cellAt [(.var 0), (.int (0))]),
  .set 2 (.bin .add (.int (1)) (.bin .mod (.var 1) (.int (5)))),
  .ite (.cmp .eq (.bin .mod (.bin .fdiv (.var 1) (.int (5))) (.int (8))) (.int (1))) [
    .set 2 (.bin .add (.int (6)) (.bin .mod (.bin .fdiv (.var 1) (.int (40))) (.int (7))))] []]
noncomputable def dHallB (dx : Dx) : List S := [
  .set 1 (.call dx.cellAt [(.var 0), (.int (1))]),
  .set 3 (.bin .add (.int (1)) (.bin .mod (.var 1) (.int (3)))),
  .ite (.cmp .eq (.bin .mod (.bin .fdiv (.var 1) (.int (3))) (.int (8))) (.int (1))) [
    .set 3 (.bin .add (.int (4)) (.bin .mod (.bin .fdiv (.var 1) (.int (24))) (.int (9))))] []]
noncomputable def dHallC (dx : Dx) : List S := [
  .set 4 (.call dx.gates [(.call dx.cellAt [(.var 0), (.int (2))]), (.var 2), (.var 3)]),
  .ret (.disp [(.var 4), (.call dx.rows [(.var 0), (.var 4), (.var 2)])])]
noncomputable def dHall (dx : Dx) : Fn := ⟨1, 8, dHallA dx ++ (dHallB dx ++ dHallC dx)⟩
noncomputable def dWeave : Fn := ⟨2, 8, [
  .set 2 (.disp []),
  .for [3] (.list (.var 0)) [
    .set 4 (.bin .add (.int (1)) (.bin .mod (.bin .fdiv (.var 3) (.var 1)) (.int (3)))),
    .ite (.cmp .eq (.bin .mod (.bin .fdiv (.bin .fdiv (.var 3) (.var 1)) (.int (3))) (.int (8))) (.int (1))) [
      .set 4 (.int (9))] [],
    .set 2 (.bin .add (.var 2) (.bin .mul (.disp [(.bin .mod (.var 3) (.var 1))]) (.var 4)))],
  .ret (.var 2)]⟩
structure DG (dx : Dx) (Φ : Nat → Option Fn) : Prop where
  f : DF dx Φ
  rows : Φ dx.rows = some (dRows dx)
  hall : Φ dx.hall = some (dHall dx)
  weave : Φ dx.weave = some dWeave
/-- rows that are drawn, at places of their own -/
structure RwL (σ : H) (n R : Nat) (as : List Nat) (rows : List (List Nat)) : Prop where
  at_ : σ[R]? = some (as.map V.ref)
  rw : A2 (fun a l => σ[a]? = some (List.map nv l)) as rows
  ge : ∀ a ∈ R :: as, n ≤ a
  nd : (R :: as).Nodup
theorem RowOk.sub {gates : List (Nat × List Nat)} {w : Nat} {l l' : List Nat} (h : RowOk gates w l) (hl : l'.length ≤ l.length) (hm : ∀ t ∈ l', t ∈ l) : RowOk gates w l' := ⟨Nat.le_trans hl h.len, fun t ht => h.lt t (hm t ht)⟩
theorem RwL.lt {σ : H} {n R : Nat} {as : List Nat} {rows : List (List Nat)} (r : RwL σ n R as rows) : ∀ a ∈ R :: as, a < σ.length := fun a ha => by
  rcases List.mem_cons.mp ha with rfl | ha
  · exact lt_of_get r.at_
  · obtain ⟨i, hi, rfl⟩ := List.getElem_of_mem ha
    obtain ⟨y, _, h2⟩ := r.rw.left (show as[i]? = some as[i] by simp [hi])
    exact lt_of_get h2
theorem RwL.ex {σ σ' : H} {n R : Nat} {as : List Nat} {rows : List (List Nat)} (r : RwL σ n R as rows) (e : Ex σ σ') : RwL σ' n R as rows := ⟨e.get r.at_, r.rw.mono fun _ _ z => e.get z, r.ge, r.nd⟩
theorem A2.set {α β : Type} {S : α → β → Prop} {xs : List α} {ys : List β} {i : Nat} {a : α} {b : β} (h : A2 S xs ys) (k : S a b) : A2 S (xs.set i a) (ys.set i b) := ⟨by simp [h.len], fun {j x y} h1 h2 => by
  by_cases hij : i = j
  · subst hij
    have l1 := lt_of_get h1
    have l2 := lt_of_get h2
    rw [List.length_set] at l1 l2
    rw [List.getElem?_set_self l1] at h1
    rw [List.getElem?_set_self l2] at h2
    cases h1; cases h2; exact k
  · rw [List.getElem?_set_ne hij] at h1 h2
    exact h.at_ h1 h2⟩
theorem nodup_set {a : Nat} : ∀ {l : List Nat} {i : Nat}, l.Nodup → a ∉ l → (l.set i a).Nodup
  | [], _, h, _ => h
  | b :: l, 0, h, n => List.nodup_cons.mpr ⟨fun z => n (.tail _ z), (List.nodup_cons.mp h).2⟩
  | b :: l, i + 1, h, n => by
    obtain ⟨h1, h2⟩ := List.nodup_cons.mp h
    refine List.nodup_cons.mpr ⟨fun z => ?_, nodup_set h2 fun z => n (.tail _ z)⟩
    rcases List.mem_or_eq_of_mem_set z with z | z
    · exact h1 z
    · exact n (z ▸ .head _)
section
variable {Φ : Nat → Option Fn} {n : Nat} {σ : H} {Q : P} {x : X}
theorem d_rowsC {σ1 : H} {c0 R k j : Nat} {c : Int} {as : List Nat} {rows : List (List Nat)} {gates : List (Nat × List Nat)} {s0 s1 s2 s4 s5 s7 s9 s10 : Option V} (hs : 0 < σ.length) (e : Ex σ σ1) (r : RwL σ1 σ.length R as rows) (hj : j < rows.length) (ok : ∀ w row, rows[w]? = some row → RowOk gates w row)
    (hQ : ∀ σ' b rv rows', Ex σ σ' → σ'[b]? = some rv → A2 (RowR σ'.length σ') rv rows' → rows'.length = rows.length → (∀ w row, rows'[w]? = some row → RowOk gates w row) → Q (.ref b) σ') :
    WSs (callW Φ n) dRowsC x [s0, s1, s2, some (.int c), s4, s5, some (.ref R), s7, some (.int j), s9, s10, none, none, none] σ1 (fun _ σ => Q .none σ) Q := by
  have fin : ∀ (σ2 : H) (rows' : List (List Nat)), Ex σ σ2 → RwL σ2 σ.length R as rows' → rows'.length = rows.length → (∀ w row, rows'[w]? = some row → RowOk gates w row) → WSs (callW Φ n) [.ret (.var 6)] x [s0, s1, s2, some (.int c), s4, s5, some (.ref R), s7, some (.int j), s9, s10, none, none, none] σ2 (fun _ σ => Q .none σ) Q := by
    intro σ2 rows' e2 r2 l2 ok2
    with_reducible (refine s_retA (by with_unfolding_all rfl) ?_)
    refine hQ _ _ _ rows' e2 r2.at_ ⟨by (rw [List.length_map]; rw [r2.rw.len]), fun {i v y} h1 h2 => ?_⟩ l2 ok2
    rw [List.getElem?_map, Option.map_eq_some_iff] at h1
    obtain ⟨a, h1, rfl⟩ := h1
    have := r2.rw.at_ h1 h2
    exact ⟨a, rfl, lt_of_get this, this⟩
  unfold dRowsC
  with_reducible (refine s_if1 ?_; refine t_cmp ?_; refine x_binA (by with_unfolding_all rfl) (by with_unfolding_all rfl) ?_; refine b_mod (by decide) ?_; refine x_atom (by with_unfolding_all rfl) ?_; refine e_eq ?_; refine k_tru ?_)
  refine k_dec (fun _ => ?_) fun _ => fin σ1 rows e r rfl ok
  with_reducible (refine s_expr ?_; refine x_m0 ?_; refine x_idxA (by with_unfolding_all rfl) (by with_unfolding_all rfl) ?_)
  obtain ⟨a, h1, h2⟩ := r.rw.right (get_of_lt (d := []) hj)
  refine x_item r.at_ (v := .ref a) (by (rw [List.getElem?_map]; rw [h1]); rfl) ?_
  have am := List.mem_of_getElem? h1
  have ag := r.ge a (.tail _ am)
  rw [e_rev]
  refine ⟨_, by walk_at "o", h2, ?_⟩
  refine fin _ (rows.set j (rows.getD j []).reverse) (e.set ag) ⟨get_set_ne (fun z => (List.nodup_cons.mp r.nd).1 (z ▸ am)) r.at_, ⟨by simp [r.rw.len], fun {i x y} p1 p2 => ?_⟩, r.ge, r.nd⟩ (by simp) fun w row hw => ?_
  · by_cases hij : j = i
    · subst hij
      rw [h1] at p1; cases p1
      rw [List.getElem?_set_self hj] at p2; cases p2
      show (σ1.set a (List.map nv (rows.getD j [])).reverse)[a]? = _
      (rw [get_set_eq (lt_of_get h2)]; rw [List.map_reverse])
    · rw [List.getElem?_set_ne hij] at p2
      refine get_set_ne (fun z => hij ?_) (r.rw.at_ p1 p2)
      subst z
      exact List.getElem?_inj (lt_of_get h1) (List.nodup_cons.mp r.nd).2 |>.mp (h1.trans p1.symm)
  · by_cases hij : j = w
    · subst hij
      rw [List.getElem?_set_self hj] at hw; cases hw
      exact (ok j _ (get_of_lt hj)).sub (by simp) fun t ht => List.mem_reverse.mp ht
    · rw [List.getElem?_set_ne hij] at hw
      exact ok w row hw
theorem d_rowsB (F : DF dx Φ) {σ1 : H} {is : List Int} {m k ga : Nat} {c : Int} {gates : List (Nat × List Nat)} (hs : 0 < σ.length) (e : Ex σ σ1) (h0 : σ1[0]? = some (is.map V.int)) (hm : 1 ≤ m) (hm2 : m ≤ 12) (hk : k ≤ 40) (G : Gts σ1 m ga gates) (hg1 : 1 ≤ gates.length) (hg2 : gates.length ≤ 12)
    (hQ : ∀ σ' b rv rows', Ex σ σ' → σ'[b]? = some rv → A2 (RowR σ'.length σ') rv rows' → rows'.length = m → (∀ w row, rows'[w]? = some row → RowOk gates w row) → Q (.ref b) σ') :
    WSs (callW Φ (n + 3)) (dRowsB dx ++ dRowsC) x [some (.ref 0), some (.ref ga), some (.int m), some (.int c), some (.int k), none, none, none, none, none, none, none, none, none] σ1 (fun _ σ => Q .none σ) Q := by
  refine WSs_append ?_
  unfold dRowsB
  (with_reducible (refine s_set ?_; refine x_call ?_; refine l_cons ?_; refine x_callA (by with_unfolding_all rfl) ?_); dsimp only [put])
  refine d_cellAt (k := 4) F h0 fun c1 => ?_
  with_reducible (refine l_cons ?_; refine x_b1A (by with_unfolding_all rfl) ?_)
  obtain ⟨gv, g1, g2⟩ := G.rep
  refine b_lenE g1 (by rw [g2.len]) ?_
  with_reducible (refine l_atoms (by with_unfolding_all rfl) ?_)
  refine d_sequence F hg1 (by walk_at "o") (e.pos hs) fun σ2 ln line e2 ll h2 lt => ?_
  (with_reducible (refine s_set ?_; refine x_dispA (by with_unfolding_all rfl) (by with_unfolding_all rfl) ?_; refine s_for ?_; refine r_range ?_; refine x_atom (by with_unfolding_all rfl) ?_); dsimp only [put])
  have e12 := e.trans e2
  have R0 : RwL (σ2 ++ [[]]) σ.length σ2.length [] [] := ⟨last_get, A2.nil, fun a ha => by simp at ha; subst ha; exact e12.len, by simp⟩
  refine r_rgK (by walk_at "o") ?_
  refine forL_rule (fun i mm σ' => Mini.Ek3 fun as rows s7 => Mini.Cj5 (Ex σ2 σ') (RwL σ' σ.length σ2.length as rows) (rows.length = i) ((∀ w row, rows[w]? = some row → RowOk gates w row)) (mm = [some (.ref 0), some (.ref ga), some (.int m), some (.int c), some (.int k), some (.ref ln), some (.ref σ2.length), s7, none, none, none, none, none, none]))
    ⟨[], [], none, Ex.one, R0, rfl, fun w row hw => by simp at hw, rfl⟩ ?_ ?_
  · rintro i u mm σ3 K hu ⟨as, rows, s7, e3, r3, hl, ok, rfl⟩ hK
    obtain ⟨rfl, hi⟩ := rangeV_get hu
    refine ⟨trivial, _, rfl, ?_⟩
    (with_reducible (refine s_expr ?_; refine x_m1 ?_; refine x_atom (by with_unfolding_all rfl) ?_; refine x_isRef ?_; refine x_compIf ?_; refine r_listA (by with_unfolding_all rfl) ?_); dsimp only [put])
    refine r_lsK (e3.get h2) ?_
    have G3 := G.ex (e2.trans e3)
    refine compIf_rule (fun q acc σ' => Mini.Cj2 (σ' = σ3) (Mini.Ek1 fun (l : List Nat) => Mini.Cj3 (acc = l.map nv) (l.length ≤ q) (∀ t ∈ l, t < gates.length ∧ i ∈ (gates.getD t (0, [])).2))) (by simp [lim]; walk_at "o") ⟨rfl, [], rfl, Nat.le_refl _, nofun⟩ ?_ ?_
    · rintro q v acc σ' Kt Kf hv ⟨hσ, l, rfl, hl, hm⟩ h1' h2'
      subst hσ
      obtain ⟨t, ht, rfl⟩ := nv_get hv
      have htl := lt t (List.mem_of_getElem? ht)
      refine ⟨e3.get h2, ?_⟩
      obtain ⟨gv, a, y1, y2, y3⟩ := G3.at_ htl
      with_reducible (refine t_cmp ?_; refine x_atom (by with_unfolding_all rfl) ?_; refine x_idx ?_; refine x_idxA (by with_unfolding_all rfl) (by with_unfolding_all rfl) ?_)
      refine x_item y1 y2 ?_
      with_reducible (refine x_atom (by with_unfolding_all rfl) ?_; refine x_t1 ?_)
      refine c_in y3 ?_
      with_reducible (refine k_tru ?_)
      refine k_dec (fun z => ?_) fun z => ?_
      · with_reducible (refine x_atom (by with_unfolding_all rfl) ?_)
        exact h1' _ _ ⟨rfl, l ++ [t], by simp [nv], by simp; walk_at "o", fun y hy => (List.mem_append.mp hy).elim (hm y) fun q => by simp at q; subst q; exact ⟨htl, z⟩⟩
      · exact h2' _ ⟨rfl, l, rfl, by walk_at "o", hm⟩
    rintro acc σ' ⟨hσ, l, rfl, hll, hm⟩
    rw [hσ]
    clear hσ σ'
    refine ⟨e3.get h2, ?_⟩
    rw [List.length_map, ll] at hll
    have al := r3.rw.len
    have p2 := e12.pos hs
    refine b_app (by walk_at "o") (Ex.one.get r3.at_) (by simp [lim]; walk_at "o") ?_
    with_reducible (refine s_nil ?_)
    have lt3 := r3.lt
    have lR := lt3 _ (.head _)
    refine hK _ _ ⟨as ++ [σ3.length], rows ++ [l], _, (e3.trans Ex.one).set (Nat.le_refl _), ⟨by (rw [get_set_eq (by simp; walk_at "o")]; rw [List.map_append]); rfl, A2.snoc ⟨al, fun {j a y} q1 q2 => ?_⟩ (get_set_ne (by walk_at "o") last_get), ?_, ?_⟩, by simp [hl], ?_, rfl⟩
    · refine get_set_ne (fun z => (List.nodup_cons.mp r3.nd).1 (z ▸ List.mem_of_getElem? q1)) (Ex.one.get (r3.rw.at_ q1 q2))
    · intro a ha
      rcases List.mem_cons.mp ha with q | q
      · rw [q]; exact e12.len
      · rcases List.mem_append.mp q with q | q
        · exact r3.ge a (.tail _ q)
        · simp at q; rw [q]; exact (e12.trans e3).len
    · (rw [← List.cons_append]; rw [List.nodup_append])
      exact ⟨r3.nd, by simp, fun a ha b hb => by simp at hb; have := lt3 a ha; walk_at "o"⟩
    · intro w row hw
      by_cases hwl : w < rows.length
      · rw [List.getElem?_append_left hwl] at hw; exact ok w row hw
      · rw [List.getElem?_append_right (by walk_at "o")] at hw
        have : w - rows.length = 0 := by have := lt_of_get hw; simpa using this
        rw [this] at hw
        simp at hw
        have : w = i := by walk_at "o"
        subst this hw
        exact ⟨by walk_at "o", hm⟩
  rintro mm σ3 ⟨as, rows, s7, e3, r3, hl, ok, rfl⟩
  rw [rangeV_length, Int.toNat_natCast] at hl
  refine ⟨trivial, ?_⟩
  have e23 := e2.trans e3
  have G3 := G.ex e23
  (with_reducible (refine s_set ?_; refine x_callA (by with_unfolding_all rfl) ?_); dsimp only [put])
  refine d_cellAt (k := 5) F (e23.get h0) fun c2 => ?_
  with_reducible (refine s_if1 ?_; refine t_cmp ?_; refine x_bin ?_; refine x_callA (by with_unfolding_all rfl) ?_)
  refine d_mixed F (by walk_at "o") fun c3 hc3 => ?_
  with_reducible (refine x_atom (by with_unfolding_all rfl) ?_; refine b_mod (by decide) ?_; refine x_atom (by with_unfolding_all rfl) ?_; refine e_eq ?_; refine k_tru ?_)
  have e13 := e12.trans e3
  refine k_dec (fun _ => ?_) fun _ => ?_
  · (with_reducible (refine s_ret ?_; refine x_comp ?_; refine r_range ?_; refine x_atom (by with_unfolding_all rfl) ?_); dsimp only [put])
    refine r_rgK (by walk_at "o") ?_
    refine comp_rule (fun i acc σ' => Mini.Cj2 (Ex σ3 σ') (Mini.Ek1 fun (rows : List (List Nat)) => Mini.Cj2 (A2 (RowR σ'.length σ') acc rows) (∀ w row, rows[w]? = some row → RowOk gates w row))) (by rw [rangeV_length]; simp [lim]; walk_at "o") ⟨Ex.refl, [], A2.nil, fun w row hw => by simp at hw⟩ ?_ ?_
    · rintro i u acc σ' K hu hl ⟨e4, rows, q, ok⟩ hK
      obtain ⟨rfl, hi⟩ := rangeV_get hu
      refine ⟨trivial, ?_⟩
      with_reducible (refine x_callA (by with_unfolding_all rfl) ?_)
      refine d_ownRow F (G3.ex e4) hg2 (by walk_at "o") ((e13.trans e4).pos hs) fun σ5 b l e5 hb h5 ok5 => ?_
      have ql := q.len
      refine hK _ _ ⟨e4.trans e5, rows ++ [l], (q.mono fun _ _ z => z.ex e5 e5.len).snoc ⟨b, rfl, lt_of_get h5, h5⟩, fun w row hw => ?_⟩
      by_cases hwl : w < rows.length
      · rw [List.getElem?_append_left hwl] at hw; exact ok w row hw
      · rw [List.getElem?_append_right (by walk_at "o")] at hw
        have : w - rows.length = 0 := by have := lt_of_get hw; simpa using this
        rw [this] at hw
        simp at hw
        have : w = i := by walk_at "o"
        subst this hw
        exact ok5
    · rintro acc σ' hl ⟨e4, rows, q, ok⟩
      rw [rangeV_length, Int.toNat_natCast] at hl
      exact ⟨trivial, hQ _ _ _ rows (e13.trans (e4.trans Ex.one)) last_get (q.mono fun _ _ z => z.ex Ex.one Ex.one.len) (by rw [← q.len]; exact hl) ok⟩
  · (with_reducible (refine s_set ?_; refine x_bin ?_; refine x_binA (by with_unfolding_all rfl) (by with_unfolding_all rfl) ?_; refine b_fdiv (by decide) ?_; refine x_atom (by with_unfolding_all rfl) ?_; refine b_mod (by walk_at "o") ?_; refine s_set ?_; refine x_b1 ?_; refine x_idxA (by with_unfolding_all rfl) (by with_unfolding_all rfl) ?_); dsimp only [put])
    obtain ⟨j, hj, hj2⟩ := nat_mod (z := c2 / 5) (m := m) (by walk_at "o")
    rw [hj]
    obtain ⟨a, y1, y2⟩ := r3.rw.right (get_of_lt (d := []) (show j < rows.length by walk_at "o"))
    have y1' : (as.map V.ref)[j]? = some (.ref a) := by (rw [List.getElem?_map]; rw [y1]); rfl
    refine x_item r3.at_ y1' ?_
    skip
    refine b_lenE y2 (by rw [List.length_map]) ?_
    with_reducible (refine s_if1 ?_; refine t_and ?_; refine t_cmp ?_; refine x_binA (by with_unfolding_all rfl) (by with_unfolding_all rfl) ?_; refine b_mod (by decide) ?_; refine x_atom (by with_unfolding_all rfl) ?_; refine e_eq ?_; refine k_tru ?_)
    have okj := ok j _ (get_of_lt (d := []) (show j < rows.length by walk_at "o"))
    have p2 := e12.pos hs
    have lt3 := r3.lt
    have no : WSs (callW Φ (n + 3)) dRowsC x [some (.ref 0), some (.ref ga), some (.int m), some (.int c2), some (.int k), some (.ref ln), some (.ref σ2.length), s7, some (.int j), some (.int (rows.getD j []).length), none, none, none, none] σ3 (fun _ σ => Q .none σ) Q :=
      d_rowsC (c0 := 0) (k := 0) hs e13 r3 (by walk_at "o") ok fun σ' b rv rows' h1 h2 h3 h4 h5 => hQ σ' b rv rows' h1 h2 h3 (by walk_at "o") h5
    refine k_dec (fun _ => ?_) fun _ => no
    with_reducible (refine t_cmpA (by with_unfolding_all rfl) (by with_unfolding_all rfl) ?_; refine c_gt ?_; refine k_tru ?_)
    refine k_dec (fun hp => ?_) fun _ => no
    (with_reducible (refine s_set ?_; refine x_bin ?_; refine x_binA (by with_unfolding_all rfl) (by with_unfolding_all rfl) ?_; refine b_fdiv (by decide) ?_; refine x_atom (by with_unfolding_all rfl) ?_; refine b_mod (by walk_at "o") ?_; refine s_put ?_; refine x_bin ?_; refine x_upto ?_; refine x_idxA (by with_unfolding_all rfl) (by with_unfolding_all rfl) ?_); dsimp only [put])
    obtain ⟨t, ht, ht2⟩ := nat_mod (z := c2 / 60) (m := (rows.getD j []).length) (by walk_at "o")
    rw [ht]
    have hlj := okj.len
    refine x_item r3.at_ y1' ?_
    with_reducible (refine x_atom (by with_unfolding_all rfl) ?_)
    refine b_upto y2 (by rw [List.length_map]; simp only [lim]; walk_at "o") ?_
    with_reducible (refine x_from ?_; refine x_idxA (by with_unfolding_all rfl) (by with_unfolding_all rfl) ?_)
    refine x_item (Ex.one.get r3.at_) y1' ?_
    with_reducible (refine x_binA (by with_unfolding_all rfl) (by with_unfolding_all rfl) ?_; refine b_add ?_)
    rw [show (t : Int) + 1 = (t + 1 : Nat) by walk_at "o"]
    refine b_from (Ex.one.get y2) (by rw [List.length_map]; simp only [lim]; walk_at "o") ?_
    refine b_cat (Ex.one.get last_get) last_get (by (rw [List.length_take]; rw [List.length_drop]; rw [List.length_map]); simp only [lim]; walk_at "o") ?_
    with_reducible (refine x_atom (by with_unfolding_all rfl) ?_; refine x_atom (by with_unfolding_all rfl) ?_)
    (rw [← List.map_take]; rw [← List.map_drop]; rw [← List.map_append])
    have e5 : Ex σ3 (σ3 ++ [((rows.getD j []).take t).map nv] ++ [((rows.getD j []).drop (t + 1)).map nv] ++ [((rows.getD j []).take t ++ (rows.getD j []).drop (t + 1)).map nv]) := Ex.one.trans (Ex.one.trans Ex.one)
    have l5 : (σ3 ++ [((rows.getD j []).take t).map nv] ++ [((rows.getD j []).drop (t + 1)).map nv] ++ [((rows.getD j []).take t ++ (rows.getD j []).drop (t + 1)).map nv])[(σ3 ++ [((rows.getD j []).take t).map nv] ++ [((rows.getD j []).drop (t + 1)).map nv]).length]? = some (((rows.getD j []).take t ++ (rows.getD j []).drop (t + 1)).map nv) := last_get
    have g5 : σ3.length ≤ (σ3 ++ [((rows.getD j []).take t).map nv] ++ [((rows.getD j []).drop (t + 1)).map nv]).length := by simp
    generalize (σ3 ++ [((rows.getD j []).take t).map nv] ++ [((rows.getD j []).drop (t + 1)).map nv]).length = na at *
    generalize σ3 ++ [((rows.getD j []).take t).map nv] ++ [((rows.getD j []).drop (t + 1)).map nv] ++ [((rows.getD j []).take t ++ (rows.getD j []).drop (t + 1)).map nv] = σ5 at *
    have r5 := r3.ex e5
    have lR := lt3 _ (.head _)
    have na' : na ≠ σ2.length := by walk_at "o"
    refine s_puK (by walk_at "o") r5.at_ (by walk_at "o") (by (rw [List.length_map]; rw [r3.rw.len]); walk_at "o") ?_
    (rw [Int.toNat_natCast]; rw [show V.ref na = V.ref na from rfl]; rw [← List.map_set])
    refine d_rowsC (c0 := 0) (k := 0) (σ := σ) (j := j) (as := as.set j na) (rows := rows.set j ((rows.getD j []).take t ++ (rows.getD j []).drop (t + 1))) hs ((e13.trans e5).set e12.len) ⟨get_set_eq (lt_of_get r5.at_), ⟨by simp [r3.rw.len], fun {i b y} q1 q2 => ?_⟩, ?_, ?_⟩ (by rw [List.length_set]; walk_at "o") (fun w row hw => ?_) fun σ' b rv rows' h1 h2 h3 h4 h5 => hQ σ' b rv rows' h1 h2 h3 (by (rw [h4]; rw [List.length_set]); exact hl) h5
    · have q := (r5.rw.set (i := j) (a := na) l5).at_ q1 q2
      refine get_set_ne (fun z => ?_) q
      subst z
      rcases List.mem_or_eq_of_mem_set (List.mem_of_getElem? q1) with z | z
      · exact (List.nodup_cons.mp r3.nd).1 z
      · exact na' z.symm
    · intro b hb
      rcases List.mem_cons.mp hb with z | z
      · rw [z]; exact e12.len
      · rcases List.mem_or_eq_of_mem_set z with z | z
        · exact r3.ge b (.tail _ z)
        · rw [z]; exact Nat.le_trans e13.len g5
    · rw [List.nodup_cons]
      refine ⟨fun z => ?_, ?_⟩
      · rcases List.mem_or_eq_of_mem_set z with z | z
        · exact (List.nodup_cons.mp r3.nd).1 z
        · exact na' z.symm
      · refine nodup_set (List.nodup_cons.mp r3.nd).2 fun z => ?_
        have := lt3 na (.tail _ z)
        walk_at "o"
    · by_cases hij : j = w
      · subst hij
        rw [List.getElem?_set_self (by walk_at "o")] at hw; cases hw
        refine okj.sub (by (rw [List.length_append]; rw [List.length_take]; rw [List.length_drop]); walk_at "o") fun y hy => ?_
        exact (List.mem_append.mp hy).elim List.mem_of_mem_take List.mem_of_mem_drop
      · rw [List.getElem?_set_ne hij] at hw
        exact ok w row hw
theorem d_rows (F : DG dx Φ) {is : List Int} {m ga : Nat} {gates : List (Nat × List Nat)} (h0 : σ[0]? = some (is.map V.int)) (hm : 1 ≤ m) (hm2 : m ≤ 12) (G : Gts σ m ga gates) (hg1 : 1 ≤ gates.length) (hg2 : gates.length ≤ 12)
    (hQ : ∀ σ' b rv rows', Ex σ σ' → σ'[b]? = some rv → A2 (RowR σ'.length σ') rv rows' → rows'.length = m → (∀ w row, rows'[w]? = some row → RowOk gates w row) → Q (.ref b) σ') : callW Φ (n + 4) dx.rows [.ref 0, .ref ga, .int m] σ Q x := by
  refine ⟨_, F.rows, rfl, ?_⟩
  unfold dRows
  refine WSs_append ?_
  unfold dRowsA
  (try dsimp only [start, List.map, List.replicate, List.cons_append, List.nil_append, Nat.reduceSub])
  have go : ∀ c z : Int, 0 ≤ z → z ≤ 40 → WSs (callW Φ (n + 3)) (dRowsB dx ++ dRowsC) x [some (.ref 0), some (.ref ga), some (.int m), some (.int c), some (.int z), none, none, none, none, none, none, none, none, none] σ (fun _ σ => Q .none σ) Q := fun c z h1 h2 => by
    obtain ⟨k, rfl⟩ := Int.eq_ofNat_of_zero_le h1
    exact d_rowsB F.f (lt_of_get h0) Ex.refl h0 hm hm2 (by walk_at "o") G hg1 hg2 hQ
  (with_reducible (refine s_set ?_; refine x_callA (by with_unfolding_all rfl) ?_); dsimp only [put])
  refine d_cellAt (k := 3) F.f h0 fun c => ?_
  (with_reducible (refine s_set ?_; refine x_binA (by with_unfolding_all rfl) (by with_unfolding_all rfl) ?_; refine b_mod (by decide) ?_; refine s_if1 ?_; refine t_cmp ?_; refine x_bin ?_; refine x_binA (by with_unfolding_all rfl) (by with_unfolding_all rfl) ?_; refine b_fdiv (by decide) ?_; refine x_atom (by with_unfolding_all rfl) ?_; refine b_mod (by decide) ?_; refine x_atom (by with_unfolding_all rfl) ?_; refine e_eq ?_; refine k_tru ?_); dsimp only [put])
  refine k_dec (fun _ => ?_) fun _ => ?_
  · (with_reducible (refine s_set ?_; refine x_bin ?_; refine x_atom (by with_unfolding_all rfl) ?_; refine x_bin ?_; refine x_binA (by with_unfolding_all rfl) (by with_unfolding_all rfl) ?_; refine b_fdiv (by decide) ?_; refine x_atom (by with_unfolding_all rfl) ?_; refine b_mod (by decide) ?_; refine b_add ?_; refine s_if1 ?_; refine t_cmpA (by with_unfolding_all rfl) (by with_unfolding_all rfl) ?_; refine c_lt ?_; refine k_tru ?_); dsimp only [put])
    refine k_dec (fun _ => ?_) fun _ => ?_
    · (with_reducible (refine s_set ?_; refine x_bin ?_; refine x_atom (by with_unfolding_all rfl) ?_; refine x_bin ?_; refine x_binA (by with_unfolding_all rfl) (by with_unfolding_all rfl) ?_; refine b_fdiv (by decide) ?_; refine x_atom (by with_unfolding_all rfl) ?_; refine b_mod (by decide) ?_; refine b_add ?_; refine s_nil ?_; refine s_nil ?_; refine s_nil ?_); dsimp only [put])
      exact go _ _ (by walk_at "o") (by walk_at "o")
    · exact go _ _ (by walk_at "o") (by walk_at "o")
  · exact go _ _ (by walk_at "o") (by walk_at "o")
/-- a hall that is drawn: its gates and its rows -/
structure Drawn (σ : H) (ga ra : Nat) (gates : List (Nat × List Nat)) (rows : List (List Nat)) : Prop where
  gts : ∃ gv, σ[ga]? = some gv ∧ A2 (GateR σ.length σ) gv gates
  rws : ∃ rv, σ[ra]? = some rv ∧ A2 (RowR σ.length σ) rv rows
  ok : HallOk gates rows
theorem d_hall (F : DG dx Φ) {is : List Int} (h0 : σ[0]? = some (is.map V.int)) (hQ : ∀ σ' b ga ra gates rows, Ex σ σ' → σ'[b]? = some [.ref ga, .ref ra] → Drawn σ' ga ra gates rows → Q (.ref b) σ') : callW Φ (n + 5) dx.hall [.ref 0] σ Q x := by
  refine ⟨_, F.hall, rfl, ?_⟩
  unfold dHall
  refine WSs_append ?_
  unfold dHallA
  (try dsimp only [start, List.map, List.replicate, List.cons_append, List.nil_append, Nat.reduceSub])
  have kC : ∀ (c : Int) (m z : Nat), 1 ≤ m → m ≤ 12 → 1 ≤ z → z ≤ 12 → WSs (callW Φ (n + 4)) (dHallC dx) x [some (.ref 0), some (.int c), some (.int m), some (.int z), none, none, none, none] σ (fun _ σ => Q .none σ) Q := by
    intro c m z hm hm2 hz hz2
    unfold dHallC
    (with_reducible (refine s_set ?_; refine x_call ?_; refine l_cons ?_; refine x_callA (by with_unfolding_all rfl) ?_); dsimp only [put])
    refine d_cellAt (k := 2) F.f h0 fun c2 => ?_
    with_reducible (refine l_atoms (by with_unfolding_all rfl) ?_)
    refine d_gates F.f hm hm2 hz2 (lt_of_get h0) fun σ1 ga gates e1 hl G => ?_
    with_reducible (refine s_ret ?_; refine x_disp ?_; refine l_cons ?_; refine x_atom (by with_unfolding_all rfl) ?_; refine l_cons ?_; refine x_callA (by with_unfolding_all rfl) ?_)
    refine d_rows F (e1.get h0) hm hm2 G (by walk_at "o") (by walk_at "o") fun σ2 ra rv rows e2 h2 q2 hr ok => ?_
    with_reducible (refine l_atoms (by with_unfolding_all rfl) ?_; refine a_disp (by with_unfolding_all rfl) ?_)
    obtain ⟨gv, g1, g2⟩ := G.rep
    refine hQ _ _ ga ra gates rows (e1.trans (e2.trans Ex.one)) last_get ⟨⟨gv, (e2.trans Ex.one).get g1, g2.mono fun _ _ q => q.ex (e2.trans Ex.one) (e2.trans Ex.one).len⟩, ⟨rv, Ex.one.get h2, q2.mono fun _ _ q => q.ex Ex.one Ex.one.len⟩, ⟨by walk_at "o", by walk_at "o", by walk_at "o", by walk_at "o", fun g hg => ?_, ok⟩⟩
    rw [hr]; exact G.ok g hg
  have kB : ∀ (c y : Int), 1 ≤ y → y ≤ 12 → WSs (callW Φ (n + 4)) (dHallB dx ++ dHallC dx) x [some (.ref 0), some (.int c), some (.int y), none, none, none, none, none] σ (fun _ σ => Q .none σ) Q := by
    intro c y h1 h2
    obtain ⟨m, rfl⟩ := Int.eq_ofNat_of_zero_le (show 0 ≤ y by walk_at "o")
    refine WSs_append ?_
    have go : ∀ c z : Int, 1 ≤ z → z ≤ 12 → WSs (callW Φ (n + 4)) (dHallC dx) x [some (.ref 0), some (.int c), some (.int m), some (.int z), none, none, none, none] σ (fun _ σ => Q .none σ) Q := fun c z h1 h2 => by
      obtain ⟨k, rfl⟩ := Int.eq_ofNat_of_zero_le (show 0 ≤ z by walk_at "o")
      exact kC c m k (by walk_at "o") (by walk_at "o") (by walk_at "o") (by walk_at "o")
    unfold dHallB
    (with_reducible (refine s_set ?_; refine x_callA (by with_unfolding_all rfl) ?_); dsimp only [put])
    refine d_cellAt (k := 1) F.f h0 fun c1 => ?_
    (with_reducible (refine s_set ?_; refine x_bin ?_; refine x_atom (by with_unfolding_all rfl) ?_; refine x_binA (by with_unfolding_all rfl) (by with_unfolding_all rfl) ?_; refine b_mod (by decide) ?_; refine b_add ?_; refine s_if1 ?_; refine t_cmp ?_; refine x_bin ?_; refine x_binA (by with_unfolding_all rfl) (by with_unfolding_all rfl) ?_; refine b_fdiv (by decide) ?_; refine x_atom (by with_unfolding_all rfl) ?_; refine b_mod (by decide) ?_; refine x_atom (by with_unfolding_all rfl) ?_; refine e_eq ?_; refine k_tru ?_); dsimp only [put])
    refine k_dec (fun _ => ?_) fun _ => ?_
    · (with_reducible (refine s_set ?_; refine x_bin ?_; refine x_atom (by with_unfolding_all rfl) ?_; refine x_bin ?_; refine x_binA (by with_unfolding_all rfl) (by with_unfolding_all rfl) ?_; refine b_fdiv (by decide) ?_; refine x_atom (by with_unfolding_all rfl) ?_; refine b_mod (by decide) ?_; refine b_add ?_; refine s_nil ?_; refine s_nil ?_); dsimp only [put])
      exact go _ _ (by walk_at "o") (by walk_at "o")
    · exact go _ _ (by walk_at "o") (by walk_at "o")
  (with_reducible (refine s_set ?_; refine x_callA (by with_unfolding_all rfl) ?_); dsimp only [put])
  refine d_cellAt (k := 0) F.f h0 fun c => ?_
  (with_reducible (refine s_set ?_; refine x_bin ?_; refine x_atom (by with_unfolding_all rfl) ?_; refine x_binA (by with_unfolding_all rfl) (by with_unfolding_all rfl) ?_; refine b_mod (by decide) ?_; refine b_add ?_; refine s_if1 ?_; refine t_cmp ?_; refine x_bin ?_; refine x_binA (by with_unfolding_all rfl) (by with_unfolding_all rfl) ?_; refine b_fdiv (by decide) ?_; refine x_atom (by with_unfolding_all rfl) ?_; refine b_mod (by decide) ?_; refine x_atom (by with_unfolding_all rfl) ?_; refine e_eq ?_; refine k_tru ?_); dsimp only [put])
  refine k_dec (fun _ => ?_) fun _ => ?_
  · (with_reducible (refine s_set ?_; refine x_bin ?_; refine x_atom (by with_unfolding_all rfl) ?_; refine x_bin ?_; refine x_binA (by with_unfolding_all rfl) (by with_unfolding_all rfl) ?_; refine b_fdiv (by decide) ?_; refine x_atom (by with_unfolding_all rfl) ?_; refine b_mod (by decide) ?_; refine b_add ?_; refine s_nil ?_; refine s_nil ?_); dsimp only [put])
    exact kB _ _ (by walk_at "o") (by walk_at "o")
  · exact kB _ _ (by walk_at "o") (by walk_at "o")
theorem d_weave (F : DG dx Φ) {a m : Nat} {is : List Int} (ha : σ[a]? = some (is.map V.int)) (hl : is.length ≤ 63) (hm : 1 ≤ m) (hm2 : m ≤ 12) (hQ : ∀ σ' b (l : List Nat), Ex σ σ' → σ'[b]? = some (l.map nv) → (∀ w ∈ l, w < m) → l.length ≤ 567 → Q (.ref b) σ') : callW Φ (n + 1) dx.weave [.ref a, .int m] σ Q x := by
  refine ⟨_, F.weave, rfl, ?_⟩
  unfold dWeave
  (try dsimp only [start, List.map, List.replicate, List.cons_append, List.nil_append, Nat.reduceSub])
  (with_reducible (refine s_set ?_; refine x_dispA (by with_unfolding_all rfl) (by with_unfolding_all rfl) ?_; refine s_for ?_; refine r_listA (by with_unfolding_all rfl) ?_); dsimp only [put])
  refine r_lsK (Ex.one.get ha) ?_
  refine forL_rule (fun i mm σ' => Mini.Ek4 fun (l : List Nat) (b : Nat) (s3 s4 : Option V) => Mini.Cj5 (Ex σ σ') (σ'[b]? = some (l.map nv)) ((∀ w ∈ l, w < m)) (l.length ≤ 9 * i) (mm = [some (.ref a), some (.int m), some (.ref b), s3, s4, none, none, none]))
    ⟨[], _, none, none, Ex.one, last_get, nofun, Nat.le_refl _, rfl⟩ ?_ ?_
  · rintro i u mm σ1 K hu ⟨l, b, s3, s4, e1, h1, lt, ll, rfl⟩ hK
    refine ⟨e1.get ha, ?_⟩
    have il := lt_of_get hu
    rw [List.length_map] at il
    rw [List.getElem?_map, Option.map_eq_some_iff] at hu
    obtain ⟨c, hc, rfl⟩ := hu
    refine ⟨_, rfl, ?_⟩
    have fin : ∀ z : Int, 1 ≤ z → z ≤ 9 → WSs (callW Φ n) [.set 2 (.bin .add (.var 2) (.bin .mul (.disp [(.bin .mod (.var 3) (.var 1))]) (.var 4)))] x [some (.ref a), some (.int m), some (.ref b), some (.int c), some (.int z), none, none, none] σ1 K Q := by
      intro z h2 h3
      obtain ⟨k, rfl⟩ := Int.eq_ofNat_of_zero_le (show 0 ≤ z by walk_at "o")
      (with_reducible (refine s_set ?_; refine x_bin ?_; refine x_atom (by with_unfolding_all rfl) ?_; refine x_bin ?_; refine x_disp ?_; refine l_cons ?_; refine x_binA (by with_unfolding_all rfl) (by with_unfolding_all rfl) ?_; refine b_mod (by walk_at "o") ?_; refine l_atoms (by with_unfolding_all rfl) ?_; refine a_disp (by with_unfolding_all rfl) ?_; refine x_atom (by with_unfolding_all rfl) ?_); dsimp only [put])
      obtain ⟨t, ht, ht2⟩ := nat_mod (z := c) (m := m) (by walk_at "o")
      rw [ht]
      refine b_rep last_get (by walk_at "o") ?_
      refine b_cat (Ex.one.get (Ex.one.get h1)) last_get (by (rw [List.length_map]; rw [List.length_map]; rw [List.length_replicate]); simp only [lim]; walk_at "o") ?_
      with_reducible (refine s_nil ?_)
      refine hK _ _ ⟨l ++ List.replicate k t, _, _, _, e1.trans (Ex.one.trans (Ex.one.trans Ex.one)), ?_, ?_, by simp; walk_at "o", rfl⟩
      · (rw [List.map_append]; rw [List.map_replicate (f := nv)])
        have : (List.replicate k (t : Int)).map V.int = List.replicate k (nv t) := by rw [List.map_replicate]; rfl
        rw [this]; exact last_get
      · intro w hw
        rcases List.mem_append.mp hw with z | z
        · exact lt w z
        · rw [List.eq_of_mem_replicate z]; exact ht2
    (with_reducible (refine s_set ?_; refine x_bin ?_; refine x_atom (by with_unfolding_all rfl) ?_; refine x_bin ?_; refine x_binA (by with_unfolding_all rfl) (by with_unfolding_all rfl) ?_; refine b_fdiv (by walk_at "o") ?_; refine x_atom (by with_unfolding_all rfl) ?_; refine b_mod (by decide) ?_; refine b_add ?_; refine s_if1 ?_; refine t_cmp ?_; refine x_bin ?_; refine x_bin ?_; refine x_binA (by with_unfolding_all rfl) (by with_unfolding_all rfl) ?_; refine b_fdiv (by walk_at "o") ?_; refine x_atom (by with_unfolding_all rfl) ?_; refine b_fdiv (by decide) ?_; refine x_atom (by with_unfolding_all rfl) ?_; refine b_mod (by decide) ?_; refine x_atom (by with_unfolding_all rfl) ?_; refine e_eq ?_; refine k_tru ?_); dsimp only [put])
    refine k_dec (fun _ => ?_) fun _ => ?_
    · exact fin 9 (by walk_at "o") (by walk_at "o")
    · exact fin _ (by walk_at "o") (by walk_at "o")
  · rintro mm σ1 ⟨l, b, s3, s4, e1, h1, lt, ll, rfl⟩
    rw [List.length_map] at ll
    refine ⟨e1.get ha, ?_⟩
    with_reducible (refine s_retA (by with_unfolding_all rfl) ?_)
    exact hQ _ _ l e1 h1 lt (by walk_at "o")
end
end Mini

set_option autoImplicit false
set_option linter.unusedVariables false
namespace Mini
/-- a walker is within a gate -/
noncomputable abbrev Hl.inn (h : Hl) (w g : Nat) : Prop := (h.stg w).1 ≠ 2 ∧ (h.stg w).1 ≠ 10 ∧ h.at_ w = g
/-- a hall and what its gates are -/
structure Base (h : Hl) : Prop where
  wf : WF h
  gk : ∀ g, g < h.gates.length → GateOk h.rows.length (h.gate g)
section
variable {h : Hl} {w : Nat}
theorem at_row (f : WF h) (hw : w < h.rows.length) (h10 : (h.stg w).1 ≠ 10) : (h.row w)[h.dn w]? = some (h.at_ w) := get_of_lt (f.lt hw h10)
theorem nst_ne (f : WF h) (hw : w < h.rows.length) (h10 : (h.stg w).1 ≠ 10) (h6 : (h.stg w).1 ≠ 6) : (h.nst w).1 ≠ 2 ∧ (h.nst w).1 ≠ 10 := by
  obtain ⟨ha, _⟩ := f.at_ hw h10
  obtain ⟨c1, c2, c3⟩ := cell_rank (w := w) (t := h.time w) (f.st hw h10) h6 (f.cell _ ha)
  have e : h.nst w = (h.cstep w).2 := by unfold Hl.nst; rw [if_neg h6]
  rw [e]
  refine ⟨fun z => ?_, c3⟩
  have c1 : rank (h.stg w) < rank (h.cstep w).2 := c1
  have : rank (h.cstep w).2 = 0 := by unfold rank; rw [z]; rfl
  walk_at "o"
theorem step_passed (f : WF h) (hw : w < h.rows.length) (hi : h.idle w = false) (v g : Nat) : (h.step w).passed v g = if w = v ∧ (h.stg w).1 = 6 ∧ h.at_ w = g then h.passed v g + 1 else h.passed v g := by
  have S := f.stp hw hi
  have h10 := (idle_not hi).1
  unfold Hl.passed
  (rw [S.row]; rw [S.dn])
  by_cases hv : w = v
  · subst hv
    rw [if_pos rfl]
    by_cases h6 : (h.stg w).1 = 6
    · (rw [if_pos h6]; rw [take_snoc (at_row f hw h10)]; rw [List.count_append]; rw [List.count_singleton])
      by_cases hg : h.at_ w = g <;> simp [h6, hg]
    · (rw [if_neg h6]; rw [if_neg (fun z => h6 z.2.1)])
  · (rw [if_neg hv]; rw [if_neg (fun z => hv z.1)])
theorem step_inn (f : WF h) (hw : w < h.rows.length) (hi : h.idle w = false) (v g : Nat) : (h.step w).inn v g ↔ if w = v then (h.stg w).1 ≠ 6 ∧ h.at_ w = g else h.inn v g := by
  have S := f.stp hw hi
  have h10 := (idle_not hi).1
  unfold Hl.inn
  rw [S.stg]
  have ea : (h.step w).at_ v = (h.row v).getD ((h.step w).dn v) 0 := by unfold Hl.at_; rw [S.row]
  (rw [ea]; rw [S.dn])
  by_cases hv : w = v
  · subst hv
    (rw [if_pos rfl]; rw [if_pos rfl]; rw [if_pos rfl])
    by_cases h6 : (h.stg w).1 = 6
    · have : (h.nst w).1 = 2 ∨ (h.nst w).1 = 10 := by
        unfold Hl.nst; rw [if_pos h6]; split
        · exact .inr rfl
        · exact .inl rfl
      exact ⟨fun z => (this.elim z.1 z.2.1).elim, fun z => absurd h6 z.1⟩
    · obtain ⟨n1, n2⟩ := nst_ne f hw h10 h6
      rw [if_neg h6]
      exact ⟨fun z => ⟨h6, z.2.2⟩, fun z => ⟨n1, n2, z.2⟩⟩
  · (rw [if_neg hv]; rw [if_neg hv]; rw [if_neg hv]); rfl
theorem Base.step (b : Base h) (hw : w < h.rows.length) : Base (h.step w) := ⟨b.wf.step hw, fun g hg => by
  have e : (h.step w).gate g = h.gate g := by unfold Hl.gate; rw [Hl.step_gates]
  (rw [e]; rw [Hl.step_rows]); exact b.gk g (by rw [Hl.step_gates] at hg; exact hg)⟩
theorem step_idle (hi : h.idle w = true) : h.step w = h := by
  unfold Hl.idle at hi
  unfold Hl.step
  by_cases h10 : (h.stg w).1 = 10
  · rw [if_pos h10]
  · rw [if_neg h10]
    have : h.vain w = true := by simpa [h10] using hi
    rw [if_pos this]
theorem HallOk.base {gates : List (Nat × List Nat)} {rows : List (List Nat)} (k : HallOk gates rows) : Base (Hl.init gates rows) := ⟨k.wf, fun g hg => k.gate _ (List.mem_of_getElem? (get_of_lt hg))⟩
theorem init_at {gates : List (Nat × List Nat)} {rows : List (List Nat)} {w : Nat} (hw : w < rows.length) : (Hl.init gates rows).dn w = 0 ∧ (Hl.init gates rows).stg w = initSt ((Hl.init gates rows).row w) := by
  refine ⟨getD_of ?_, getD_of ?_⟩
  · show (List.replicate rows.length 0)[w]? = _
    simp [hw]
  · show (rows.map initSt)[w]? = _
    (rw [List.getElem?_map]; rw [get_of_lt (d := []) hw]); rfl
theorem init_out {gates : List (Nat × List Nat)} {rows : List (List Nat)} {w : Nat} (hw : w < rows.length) (g : Nat) : ¬ (Hl.init gates rows).inn w g ∧ (Hl.init gates rows).passed w g = 0 := by
  obtain ⟨h1, h2⟩ := init_at (gates := gates) hw
  refine ⟨fun z => ?_, ?_⟩
  · obtain ⟨z1, z2, _⟩ := z
    rw [h2] at z1 z2
    unfold initSt at z1 z2
    split at z1
    · exact z2 (by rename_i q; rw [if_pos q])
    · exact z1 rfl
  · unfold Hl.passed; rw [h1]; rfl
theorem init_cell' {gates : List (Nat × List Nat)} {rows : List (List Nat)} {g : Nat} (hg : g < gates.length) : (Hl.init gates rows).cell g = initCell ((Hl.init gates rows).gate g) := getD_of (by
  show (gates.map initCell)[g]? = _
  (rw [List.getElem?_map]; rw [get_of_lt (d := (0, [])) hg]); rfl)
end
theorem countP_one {l : List Nat} {p q : Nat → Bool} {w : Nat} (nd : l.Nodup) (hw : w ∈ l) (hp : p w = false) (hq : q w = true) (he : ∀ v, v ≠ w → q v = p v) : l.countP q = l.countP p + 1 := by
  induction l with
  | nil => cases hw
  | cons a l ih =>
    obtain ⟨n1, n2⟩ := List.nodup_cons.mp nd
    (rw [List.countP_cons]; rw [List.countP_cons])
    by_cases ha : a = w
    · subst ha
      have : l.countP q = l.countP p := List.countP_congr fun v hv => by rw [he v fun z => n1 (z ▸ hv)]
      (rw [this]; rw [hp]; rw [hq]); simp
    · (rw [ih n2 ((List.mem_cons.mp hw).resolve_left (Ne.symm ha))]; rw [he a ha]); walk_at "o"
theorem cs_cnt {g : Nat × List Nat} {w t : Nat} {st : Nat × Nat} {l s : Int} : cellStep g w t st (.cnt l s) = if st.1 = 2 then (.cnt (l - 1) s, if l - 1 = 0 then (3, 0) else (5, 0)) else if st.1 = 3 then (.cnt g.2.length s, (4, 0)) else if st.1 = 4 then (.cnt l (signOf 0 t), (6, 0)) else (.cnt l s, (6, 0)) := rfl
/-- a gate that counts: K times all have passed it; tl: how often anybody has come -/
structure CI (h : Hl) (g tl K n : Nat) (left : Int) : Prop where
  cell : h.cell g = .cnt left ((K : Int) % 2)
  tal : tl = K * (h.gate g).2.length + n
  cnt : n = (h.gate g).2.countP fun w => decide (h.inn w g ∧ h.passed w g = K)
  ty : ∀ w ∈ (h.gate g).2, (¬ h.inn w g ∧ h.passed w g = K) ∨ (h.inn w g ∧ h.passed w g = K ∧ ((h.stg w).1 = 3 ∨ (h.stg w).1 = 4 ∨ (h.stg w).1 = 5)) ∨ (h.inn w g ∧ h.passed w g + 1 = K ∧ ((h.stg w).1 = 5 ∨ (h.stg w).1 = 6))
  ph : (left = (h.gate g).2.length - n ∧ n < (h.gate g).2.length ∧ ∀ w ∈ (h.gate g).2, h.inn w g → (h.stg w).1 ≠ 3 ∧ (h.stg w).1 ≠ 4) ∨
    (n = (h.gate g).2.length ∧ ∃ f ∈ (h.gate g).2, ((h.stg f).1 = 3 ∧ left = 0 ∨ (h.stg f).1 = 4 ∧ left = (h.gate g).2.length) ∧ ∀ w ∈ (h.gate g).2, w ≠ f → (h.stg w).1 ≠ 3 ∧ (h.stg w).1 ≠ 4)
section
variable {h : Hl} {w g tl K n : Nat} {left : Int}
theorem CI.all (c : CI h g tl K n left) (e : n = (h.gate g).2.length) : ∀ w ∈ (h.gate g).2, h.inn w g ∧ h.passed w g = K := fun w hw => by
  have := List.countP_eq_length.mp (c.cnt.symm.trans e) w hw
  simpa using this
/-- who comes finds one left -/
theorem CI.come (c : CI h g tl K n left) (hm : w ∈ (h.gate g).2) (hs : (h.stg w).1 = 2) : left = (h.gate g).2.length - n ∧ n < (h.gate g).2.length ∧ (∀ w ∈ (h.gate g).2, h.inn w g → (h.stg w).1 ≠ 3 ∧ (h.stg w).1 ≠ 4) ∧ h.passed w g = K := by
  have ni : ¬ h.inn w g := fun z => z.1 hs
  have hp : h.passed w g = K := by
    rcases c.ty w hm with z | z | z
    · exact z.2
    · exact absurd z.1 ni
    · exact absurd z.1 ni
  rcases c.ph with ⟨h1, h2, h3⟩ | ⟨h1, _⟩
  · exact ⟨h1, h2, h3, hp⟩
  · exact absurd (c.all h1 w hm).1 ni
theorem CI.other (f : WF h) (c : CI h g tl K n left) (hw : w < h.rows.length) (hi : h.idle w = false) (hg : h.at_ w ≠ g) : CI (h.step w) g tl K n left := by
  have S := f.stp hw hi
  have P := step_passed f hw hi
  have I := step_inn f hw hi
  have p0 : ∀ v, (h.step w).passed v g = h.passed v g := fun v => by (rw [P]; rw [if_neg fun z => hg z.2.2])
  have i0 : ∀ v, (h.step w).inn v g ↔ h.inn v g := fun v => by
    rw [I]; split
    · rename_i z; subst z; exact ⟨fun z => absurd z.2 hg, fun z => absurd z.2.2 hg⟩
    · exact Iff.rfl
  have s0 : ∀ v, h.inn v g → (h.step w).stg v = h.stg v := fun v hv => by
    (rw [S.stg]; rw [if_neg fun z : w = v => hg (by rw [z]; exact hv.2.2)])
  have eg : (h.step w).gate g = h.gate g := S.gate
  refine ⟨by (rw [S.cell]; rw [if_neg hg]; rw [c.cell]), by rw [eg]; exact c.tal, ?_, ?_, ?_⟩
  · (rw [eg]; rw [c.cnt])
    refine List.countP_congr fun v hv => ?_
    simp only [decide_eq_true_eq, i0, p0]
  · rw [eg]
    intro v hv
    (rw [i0]; rw [p0])
    rcases c.ty v hv with z | z | z
    · exact .inl z
    · rw [s0 v z.1]; exact .inr (.inl z)
    · rw [s0 v z.1]; exact .inr (.inr z)
  · rw [eg]
    rcases c.ph with ⟨h1, h2, h3⟩ | ⟨h1, u, h2, h3, h4⟩
    · exact .inl ⟨h1, h2, fun v hv hin => by rw [s0 v ((i0 v).mp hin)]; exact h3 v hv ((i0 v).mp hin)⟩
    · have al := c.all h1
      exact .inr ⟨h1, u, h2, by rw [s0 u (al u h2).1]; exact h3, fun v hv hne => by rw [s0 v (al v hv).1]; exact h4 v hv hne⟩
theorem CI.stepK (b : Base h) (hgl : g < h.gates.length) (hw0 : (h.gate g).1 = 0) (c : CI h g tl K n left) (hw : w < h.rows.length) (hi : h.idle w = false) : ∃ n left, CI (h.step w) g (tl + if (h.stg w).1 = 2 ∧ h.at_ w = g then 1 else 0) (K + if (h.stg w).1 = 4 ∧ h.at_ w = g then 1 else 0) n left := by
  have f := b.wf
  by_cases hg : h.at_ w = g
  case neg => (rw [if_neg fun z => hg z.2]; rw [if_neg fun z => hg z.2]; rw [Nat.add_zero K]); exact ⟨n, left, c.other f hw hi hg⟩
  have S := f.stp hw hi
  have P := step_passed f hw hi
  have I := step_inn f hw hi
  obtain ⟨h10, hv⟩ := idle_not hi
  have hm : w ∈ (h.gate g).2 := hg ▸ (f.at_ hw h10).2
  have nd := (b.gk g hgl).nodup
  have eg : (h.step w).gate g = h.gate g := S.gate
  have so : ∀ v, v ≠ w → (h.step w).stg v = h.stg v := fun v hv => by (rw [S.stg]; rw [if_neg (Ne.symm hv)])
  have io : ∀ v, v ≠ w → ((h.step w).inn v g ↔ h.inn v g) := fun v hv => by (rw [I]; rw [if_neg (Ne.symm hv)])
  have po : ∀ v, v ≠ w → (h.step w).passed v g = h.passed v g := fun v hv => by (rw [P]; rw [if_neg fun z => hv z.1.symm])
  have st := f.st hw h10
  rw [hg] at st
  have cs : h.cstep w = cellStep (h.gate g) w (h.passed w g + 1) (h.stg w) (.cnt left ((K : Int) % 2)) := by
    unfold Hl.cstep Hl.time; (rw [hg]; rw [c.cell])
  have sg : ∀ t : Nat, signOf 0 t = (t : Int) % 2 := fun t => rfl
  have wn : (h.step w).stg w = h.nst w := by (rw [S.stg]; rw [if_pos rfl])
  have hcell : (h.stg w).1 ≠ 6 → (h.step w).cell g = (h.cstep w).1 := fun z => by (rw [S.cell]; rw [if_pos hg]; rw [if_neg z])
  have hn : (h.stg w).1 ≠ 6 → h.nst w = (h.cstep w).2 := fun z => by unfold Hl.nst; rw [if_neg z]
  have iw : (h.stg w).1 ≠ 6 → (h.step w).inn w g := fun z => by (rw [I]; rw [if_pos rfl]); exact ⟨z, hg⟩
  have pw : (h.stg w).1 ≠ 6 → (h.step w).passed w g = h.passed w g := fun z => by (rw [P]; rw [if_neg fun q => z q.2.1])
  -- the sorts of the others stay
  have tyo : ∀ v ∈ (h.gate g).2, v ≠ w → (¬ (h.step w).inn v g ∧ (h.step w).passed v g = K) ∨ ((h.step w).inn v g ∧ (h.step w).passed v g = K ∧ (((h.step w).stg v).1 = 3 ∨ ((h.step w).stg v).1 = 4 ∨ ((h.step w).stg v).1 = 5)) ∨ ((h.step w).inn v g ∧ (h.step w).passed v g + 1 = K ∧ (((h.step w).stg v).1 = 5 ∨ ((h.step w).stg v).1 = 6)) := fun v hv hne => by
    (rw [io v hne]; rw [po v hne]; rw [so v hne]); exact c.ty v hv
  have cell := c.cell
  have hst : (h.stg w).1 = 2 ∨ (h.stg w).1 = 6 ∨ (h.stg w).1 = 3 ∨ (h.stg w).1 = 4 ∨ (h.stg w).1 = 5 := by
    rcases st with z | z | z | z
    · exact .inl z
    · exact .inr (.inl z)
    · exact .inr (.inr z.2)
    · exact absurd z.1 (by walk_at "o")
  rcases hst with z | z | z | z | z
  · -- come
    (rw [if_pos ⟨z, hg⟩]; rw [if_neg (c := (h.stg w).1 = 4 ∧ h.at_ w = g) fun q => by walk_at "o"]; rw [Nat.add_zero K])
    have z6 : (h.stg w).1 ≠ 6 := by walk_at "o"
    obtain ⟨c1, c2, c3, c4⟩ := c.come hm z
    have e1 : h.cstep w = (.cnt (left - 1) ((K : Int) % 2), if left - 1 = 0 then (3, 0) else (5, 0)) := by (rw [cs]; rw [cs_cnt]; rw [if_pos z])
    have nc : n + 1 = (h.gate g).2.countP fun v => decide ((h.step w).inn v g ∧ (h.step w).passed v g = K) := by
      (rw [countP_one (p := fun v => decide (h.inn v g ∧ h.passed v g = K)) nd hm (by simp only [decide_eq_false_iff_not]; exact fun q => q.1.1 z) (by simp only [decide_eq_true_eq]; exact ⟨iw z6, by rw [pw z6]; exact c4⟩) fun v hne => by simp only [io v hne, po v hne]]; rw [← c.cnt])
    have ty' : ∀ s, ((h.step w).stg w).1 = s → (s = 3 ∨ s = 5) → ∀ v ∈ ((h.step w).gate g).2, (¬ (h.step w).inn v g ∧ (h.step w).passed v g = K) ∨ ((h.step w).inn v g ∧ (h.step w).passed v g = K ∧ (((h.step w).stg v).1 = 3 ∨ ((h.step w).stg v).1 = 4 ∨ ((h.step w).stg v).1 = 5)) ∨ ((h.step w).inn v g ∧ (h.step w).passed v g + 1 = K ∧ (((h.step w).stg v).1 = 5 ∨ ((h.step w).stg v).1 = 6)) := fun s hs hor v hv => by
      rw [eg] at hv
      by_cases hne : v = w
      · rw [hne]; exact .inr (.inl ⟨iw z6, by rw [pw z6]; exact c4, by walk_at "o"⟩)
      · exact tyo v hv hne
    by_cases hl : left - 1 = 0
    · rw [if_pos hl] at e1
      have ws : ((h.step w).stg w).1 = 3 := by (rw [wn]; rw [hn z6]; rw [e1])
      refine ⟨n + 1, left - 1, by (rw [hcell z6]; rw [e1]), by (rw [eg]; rw [c.tal]); walk_at "o", by rw [eg]; exact nc, ty' 3 ws (.inl rfl), .inr ⟨by rw [eg]; walk_at "o", w, by rw [eg]; exact hm, .inl ⟨ws, hl⟩, fun v hv hne => ?_⟩⟩
      rw [eg] at hv
      have e2 := nc.symm.trans (show n + 1 = (h.gate g).2.length by walk_at "o")
      have := List.countP_eq_length.mp e2 v hv
      simp only [decide_eq_true_eq] at this
      rw [so v hne]
      exact c3 v hv ((io v hne).mp this.1)
    · rw [if_neg hl] at e1
      have ws : ((h.step w).stg w).1 = 5 := by (rw [wn]; rw [hn z6]; rw [e1])
      refine ⟨n + 1, left - 1, by (rw [hcell z6]; rw [e1]), by (rw [eg]; rw [c.tal]); walk_at "o", by rw [eg]; exact nc, ty' 5 ws (.inr rfl), .inl ⟨by rw [eg]; walk_at "o", by rw [eg]; walk_at "o", fun v hv hin => ?_⟩⟩
      rw [eg] at hv
      by_cases hne : v = w
      · rw [hne]; walk_at "o"
      · rw [so v hne]; exact c3 v hv ((io v hne).mp hin)
  · -- pass
    (rw [if_neg fun q => by walk_at "o"]; rw [if_neg (c := (h.stg w).1 = 4 ∧ h.at_ w = g) fun q => by walk_at "o"]; rw [Nat.add_zero K])
    have iw' : ¬ (h.step w).inn w g := fun q => by rw [I, if_pos rfl] at q; exact q.1 z
    have pw' : (h.step w).passed w g = h.passed w g + 1 := by (rw [P]; rw [if_pos ⟨rfl, z, hg⟩])
    have hin : h.inn w g := ⟨by walk_at "o", by walk_at "o", hg⟩
    have hp : h.passed w g + 1 = K := by
      rcases c.ty w hm with y | y | y
      · exact absurd hin y.1
      · walk_at "o"
      · exact y.2.1
    have ph : left = (h.gate g).2.length - n ∧ n < (h.gate g).2.length ∧ ∀ w ∈ (h.gate g).2, h.inn w g → (h.stg w).1 ≠ 3 ∧ (h.stg w).1 ≠ 4 := by
      rcases c.ph with y | y
      · exact y
      · have := c.all y.1 w hm; walk_at "o"
    refine ⟨n, left, by (rw [S.cell]; rw [if_pos hg]; rw [if_pos z]); exact c.cell, by rw [eg]; exact c.tal, ?_, fun v hv => ?_, .inl ⟨by rw [eg]; exact ph.1, by rw [eg]; exact ph.2.1, fun v hv hin' => ?_⟩⟩
    · (rw [eg]; rw [c.cnt])
      refine List.countP_congr fun v hv => ?_
      by_cases hne : v = w
      · rw [hne]
        simp only [decide_eq_true_eq]
        exact ⟨fun q => by walk_at "o", fun q => absurd q.1 iw'⟩
      · simp only [io v hne, po v hne]
    · rw [eg] at hv
      by_cases hne : v = w
      · rw [hne]; exact .inl ⟨iw', by walk_at "o"⟩
      · exact tyo v hv hne
    · rw [eg] at hv
      by_cases hne : v = w
      · rw [hne] at hin'; exact absurd hin' iw'
      · rw [so v hne]; exact ph.2.2 v hv ((io v hne).mp hin')
  · -- fill
    (rw [if_neg fun q => by walk_at "o"]; rw [if_neg (c := (h.stg w).1 = 4 ∧ h.at_ w = g) fun q => by walk_at "o"]; rw [Nat.add_zero K])
    have z6 : (h.stg w).1 ≠ 6 := by walk_at "o"
    have hin : h.inn w g := ⟨by walk_at "o", by walk_at "o", hg⟩
    have e1 : h.cstep w = (.cnt (h.gate g).2.length ((K : Int) % 2), (4, 0)) := by (rw [cs]; rw [cs_cnt]; rw [if_neg (by walk_at "o")]; rw [if_pos z])
    have ws : ((h.step w).stg w).1 = 4 := by (rw [wn]; rw [hn z6]; rw [e1])
    have hp : h.passed w g = K := by
      rcases c.ty w hm with y | y | y
      · exact absurd hin y.1
      · exact y.2.1
      · walk_at "o"
    have ph : n = (h.gate g).2.length ∧ ∀ v ∈ (h.gate g).2, v ≠ w → (h.stg v).1 ≠ 3 ∧ (h.stg v).1 ≠ 4 := by
      rcases c.ph with y | ⟨y1, u, y2, y3, y4⟩
      · exact absurd z (y.2.2 w hm hin).1
      · have : u = w := by
          by_cases q : w = u
          · exact q.symm
          · exact absurd z (y4 w hm q).1
        subst this
        exact ⟨y1, y4⟩
    refine ⟨n, (h.gate g).2.length, by (rw [hcell z6]; rw [e1]), by rw [eg]; exact c.tal, ?_, fun v hv => ?_, .inr ⟨by rw [eg]; exact ph.1, w, by rw [eg]; exact hm, .inr ⟨ws, by rw [eg]⟩, fun v hv hne => by rw [so v hne]; exact ph.2 v (by rw [eg] at hv; exact hv) hne⟩⟩
    · (rw [eg]; rw [c.cnt])
      refine List.countP_congr fun v hv => ?_
      by_cases hne : v = w
      · rw [hne]
        simp only [decide_eq_true_eq, pw z6]
        exact ⟨fun q => ⟨iw z6, q.2⟩, fun q => ⟨hin, q.2⟩⟩
      · simp only [io v hne, po v hne]
    · rw [eg] at hv
      by_cases hne : v = w
      · rw [hne]; exact .inr (.inl ⟨iw z6, by rw [pw z6]; exact hp, .inr (.inl ws)⟩)
      · exact tyo v hv hne
  · -- turn
    (rw [if_neg fun q => by walk_at "o"]; rw [if_pos (c := (h.stg w).1 = 4 ∧ h.at_ w = g) ⟨z, hg⟩])
    have z6 : (h.stg w).1 ≠ 6 := by walk_at "o"
    have hin : h.inn w g := ⟨by walk_at "o", by walk_at "o", hg⟩
    have hp : h.passed w g = K := by
      rcases c.ty w hm with y | y | y
      · exact absurd hin y.1
      · exact y.2.1
      · walk_at "o"
    have ph : n = (h.gate g).2.length ∧ left = (h.gate g).2.length ∧ ∀ v ∈ (h.gate g).2, v ≠ w → (h.stg v).1 ≠ 3 ∧ (h.stg v).1 ≠ 4 := by
      rcases c.ph with y | ⟨y1, u, y2, y3, y4⟩
      · exact absurd z (y.2.2 w hm hin).2
      · have : u = w := by
          by_cases q : w = u
          · exact q.symm
          · exact absurd z (y4 w hm q).2
        subst this
        exact ⟨y1, by walk_at "o", y4⟩
    have e1 : h.cstep w = (.cnt left (((K + 1 : Nat) : Int) % 2), (6, 0)) := by (rw [cs]; rw [cs_cnt]; rw [if_neg (by walk_at "o")]; rw [if_neg (by walk_at "o")]; rw [if_pos z]; rw [sg]; rw [hp])
    have ws : ((h.step w).stg w).1 = 6 := by (rw [wn]; rw [hn z6]; rw [e1])
    have al := c.all ph.1
    have t5 : ∀ v ∈ (h.gate g).2, v ≠ w → (h.stg v).1 = 5 := fun v hv hne => by
      have := ph.2.2 v hv hne
      rcases c.ty v hv with y | y | y
      · exact absurd (al v hv).1 y.1
      · walk_at "o"
      · have := (al v hv).2; walk_at "o"
    have ml := List.length_pos_iff.mpr (b.gk g hgl).some
    have tal : tl + 0 = (K + 1) * (h.gate g).2.length + 0 := by (rw [c.tal]; rw [Nat.succ_mul]); walk_at "o"
    refine ⟨0, left, by (rw [hcell z6]; rw [e1]), by rw [eg]; exact tal, ?_, fun v hv => ?_, .inl ⟨by rw [eg]; walk_at "o", by rw [eg]; walk_at "o", fun v hv hin' => ?_⟩⟩
    · rw [eg]
      refine (List.countP_eq_zero.mpr fun v hv => ?_).symm
      simp only [decide_eq_true_eq]
      intro q
      have := (al v hv).2
      by_cases hne : v = w
      · rw [hne, pw z6] at q; rw [hne] at this; walk_at "o"
      · rw [po v hne] at q; walk_at "o"
    · rw [eg] at hv
      have := (al v hv).2
      by_cases hne : v = w
      · rw [hne]; exact .inr (.inr ⟨iw z6, by rw [pw z6]; walk_at "o", .inr ws⟩)
      · exact .inr (.inr ⟨(io v hne).mpr (al v hv).1, by rw [po v hne]; walk_at "o", .inl (by rw [so v hne]; exact t5 v hv hne)⟩)
    · rw [eg] at hv
      by_cases hne : v = w
      · rw [hne]; walk_at "o"
      · (rw [so v hne]; rw [t5 v hv hne]); decide
  · -- look
    (rw [if_neg fun q => by walk_at "o"]; rw [if_neg (c := (h.stg w).1 = 4 ∧ h.at_ w = g) fun q => by walk_at "o"]; rw [Nat.add_zero K])
    have z6 : (h.stg w).1 ≠ 6 := by walk_at "o"
    have hin : h.inn w g := ⟨by walk_at "o", by walk_at "o", hg⟩
    have e1 : h.cstep w = (.cnt left ((K : Int) % 2), (6, 0)) := by (rw [cs]; rw [cs_cnt]; rw [if_neg (by walk_at "o")]; rw [if_neg (by walk_at "o")]; rw [if_neg (by walk_at "o")])
    have ws : ((h.step w).stg w).1 = 6 := by (rw [wn]; rw [hn z6]; rw [e1])
    have hs : (K : Int) % 2 = ((h.passed w g + 1 : Nat) : Int) % 2 := by
      have : h.vain w = (decide ((h.stg w).1 = 5) && decide ((K : Int) % 2 ≠ signOf 0 (h.passed w g + 1))) := by
        unfold Hl.vain Hl.time cellVain; (rw [hg]; rw [c.cell])
      rw [this, z, sg] at hv
      simpa using hv
    have hp : h.passed w g + 1 = K := by
      rcases c.ty w hm with y | y | y
      · exact absurd hin y.1
      · have := y.2.1; walk_at "o"
      · exact y.2.1
    have ph : left = (h.gate g).2.length - n ∧ n < (h.gate g).2.length ∧ ∀ w ∈ (h.gate g).2, h.inn w g → (h.stg w).1 ≠ 3 ∧ (h.stg w).1 ≠ 4 := by
      rcases c.ph with y | y
      · exact y
      · have := c.all y.1 w hm; walk_at "o"
    refine ⟨n, left, by (rw [hcell z6]; rw [e1]), by rw [eg]; exact c.tal, ?_, fun v hv => ?_, .inl ⟨by rw [eg]; exact ph.1, by rw [eg]; exact ph.2.1, fun v hv hin' => ?_⟩⟩
    · (rw [eg]; rw [c.cnt])
      refine List.countP_congr fun v hv => ?_
      by_cases hne : v = w
      · rw [hne]
        simp only [decide_eq_true_eq, pw z6]
        exact ⟨fun q => ⟨iw z6, q.2⟩, fun q => ⟨hin, q.2⟩⟩
      · simp only [io v hne, po v hne]
    · rw [eg] at hv
      by_cases hne : v = w
      · rw [hne]; exact .inr (.inr ⟨iw z6, by rw [pw z6]; exact hp, .inr ws⟩)
      · exact tyo v hv hne
    · rw [eg] at hv
      by_cases hne : v = w
      · rw [hne]; walk_at "o"
      · rw [so v hne]; exact ph.2.2 v hv ((io v hne).mp hin')
theorem CI.step (b : Base h) (hgl : g < h.gates.length) (hw0 : (h.gate g).1 = 0) (c : CI h g tl K n left) (hw : w < h.rows.length) (hi : h.idle w = false) : ∃ K n left, CI (h.step w) g (tl + if (h.stg w).1 = 2 ∧ h.at_ w = g then 1 else 0) K n left :=
  let ⟨n, left, k⟩ := c.stepK b hgl hw0 hw hi
  ⟨_, n, left, k⟩
theorem CI.init {gates : List (Nat × List Nat)} {rows : List (List Nat)} {g : Nat} (k : HallOk gates rows) (hg : g < gates.length) (hw0 : ((Hl.init gates rows).gate g).1 = 0) : CI (Hl.init gates rows) g 0 0 0 ((Hl.init gates rows).gate g).2.length := by
  have gk := k.base.gk g hg
  have lt : ∀ w ∈ ((Hl.init gates rows).gate g).2, w < rows.length := gk.lt
  refine ⟨?_, by simp, ?_, fun w hw => .inl (init_out (lt w hw) g), .inl ⟨by walk_at "o", List.length_pos_iff.mpr gk.some, fun w hw hin => absurd hin (init_out (lt w hw) g).1⟩⟩
  · rw [init_cell' hg]; unfold initCell; rw [if_pos hw0]; rfl
  · refine (List.countP_eq_zero.mpr fun v hv => ?_).symm
    simp only [decide_eq_true_eq]
    exact fun q => (init_out (lt v hv) g).1 q.1
end
end Mini

set_option autoImplicit false
set_option linter.unusedVariables false
namespace Mini
theorem rnd_pow : ∀ m : Nat, m ≤ 16 → m ≤ 2 ^ rnd m := by
  have : ∀ m : Fin 17, m.1 ≤ 2 ^ rnd m.1 := by decide +kernel
  exact fun m hm => this ⟨m, by walk_at "o"⟩
/-- how often a walker has told, and heard, a round -/
abbrev toldR (st : Nat × Nat) (r : Nat) : Prop := st.1 = 6 ∨ (st.1 = 7 ∧ r < st.2) ∨ (st.1 = 8 ∧ r ≤ st.2)
abbrev heardR (st : Nat × Nat) (r : Nat) : Prop := st.1 = 6 ∨ (st.1 = 7 ∧ r < st.2) ∨ (st.1 = 8 ∧ r < st.2)
noncomputable abbrev Hl.tl (h : Hl) (w g r : Nat) : Nat := h.passed w g + if h.inn w g ∧ toldR (h.stg w) r then 1 else 0
noncomputable abbrev Hl.hr (h : Hl) (w g r : Nat) : Nat := h.passed w g + if h.inn w g ∧ heardR (h.stg w) r then 1 else 0
noncomputable abbrev Hl.cm (h : Hl) (w g : Nat) : Nat := h.passed w g + if h.inn w g then 1 else 0
theorem tl_le {h : Hl} {w g r : Nat} : h.passed w g ≤ h.tl w g r ∧ h.tl w g r ≤ h.cm w g := by
  unfold Hl.tl Hl.cm
  by_cases hi : h.inn w g
  · rw [if_pos hi]; split <;> walk_at "o"
  · (rw [if_neg hi]; rw [if_neg fun z => hi z.1]); walk_at "o"
theorem hr_le {h : Hl} {w g r : Nat} : h.passed w g ≤ h.hr w g r ∧ h.hr w g r ≤ h.tl w g r := by
  unfold Hl.hr Hl.tl
  by_cases hi : h.inn w g ∧ heardR (h.stg w) r
  · (rw [if_pos hi]; rw [if_pos ⟨hi.1, by have := hi.2; unfold heardR at this; unfold toldR; walk_at "o"⟩]); walk_at "o"
  · rw [if_neg hi]; split <;> walk_at "o"
theorem tl_hr {h : Hl} {w g r : Nat} : h.tl w g (r + 1) ≤ h.hr w g r := by
  unfold Hl.hr Hl.tl
  by_cases hi : h.inn w g ∧ toldR (h.stg w) (r + 1)
  · (rw [if_pos hi]; rw [if_pos ⟨hi.1, by have := hi.2; unfold toldR at this; unfold heardR; walk_at "o"⟩]); exact Nat.le_refl _
  · rw [if_neg hi]; split <;> walk_at "o"
/-- the sign for a time, and the last time of a parity -/
noncomputable def sgz (k : Int) : Int := 1 - (k - 1) / 2 % 2
noncomputable def lastk (q : Nat) (t : Nat) : Int := if t % 2 = q then (t : Int) else t - 1
theorem sgz_flip (k : Int) : sgz (k - 2) ≠ sgz k := by unfold sgz; walk_at "o"
theorem sign_sgz (t : Nat) : signOf 1 t = sgz t := rfl
/-- by its sign a box tells whether a time has been told -/
theorem sgz_iff {k t : Nat} (h1 : k ≤ t + 2) (h2 : t ≤ k + 1) : sgz (lastk (k % 2) t) = sgz k ↔ k ≤ t := by
  unfold lastk
  have f := sgz_flip k
  rcases (show t + 2 = k ∨ t + 1 = k ∨ t = k ∨ t = k + 1 by walk_at "o") with z | z | z | z
  · (rw [if_pos (by walk_at "o")]; rw [show (t : Int) = k - 2 by walk_at "o"])
    exact ⟨fun q => absurd q f, fun q => by walk_at "o"⟩
  · (rw [if_neg (by walk_at "o")]; rw [show (t : Int) - 1 = k - 2 by walk_at "o"])
    exact ⟨fun q => absurd q f, fun q => by walk_at "o"⟩
  · (rw [if_pos (by walk_at "o")]; rw [z])
    exact ⟨fun _ => Nat.le_refl _, fun _ => rfl⟩
  · (rw [if_neg (by walk_at "o")]; rw [show (t : Int) - 1 = k by walk_at "o"])
    exact ⟨fun _ => by walk_at "o", fun _ => rfl⟩
/-- a gate in rows -/
structure RI (h : Hl) (g : Nat) (b : List (List Int)) : Prop where
  cell : h.cell g = .row b
  box : ∀ v ∈ (h.gate g).2, ∀ r, r < rnd (h.gate g).2.length → ∀ q, q < 2 → (b.getD (((h.gate g).2.idxOf v + 2 ^ r) % (h.gate g).2.length) []).getD (if q = 0 then r else rnd (h.gate g).2.length + r) 0 = sgz (lastk q (h.tl v g r))
  hear : ∀ v ∈ (h.gate g).2, ∀ w ∈ (h.gate g).2, ∀ r, r < rnd (h.gate g).2.length → ((h.gate g).2.idxOf v + 2 ^ r) % (h.gate g).2.length = (h.gate g).2.idxOf w → h.hr w g r ≤ h.tl v g r
section
variable {h : Hl} {g w : Nat} {b : List (List Int)}
/-- the place from which a place is told -/
theorem prev_at {m j k : Nat} (hj : j < m) (hk : k ≤ m) : ∃ i, i < m ∧ (i + k) % m = j := by
  by_cases hc : k ≤ j
  · exact ⟨j - k, by walk_at "o", by rw [Nat.sub_add_cancel hc]; exact Nat.mod_eq_of_lt hj⟩
  · refine ⟨j + m - k, by walk_at "o", ?_⟩
    (rw [show j + m - k + k = j + m by walk_at "o"]; rw [Nat.add_mod_right]); exact Nat.mod_eq_of_lt hj
noncomputable def lev (h : Hl) (w g r : Nat) : Nat := match r with
  | 0 => h.cm w g
  | r + 1 => h.hr w g r
theorem lev_tl {w r : Nat} : h.tl w g r ≤ lev h w g r := by
  cases r with
  | zero => exact tl_le.2
  | succ r => exact tl_hr
theorem lev_le {w r : Nat} : lev h w g (r + 1) ≤ lev h w g r := Nat.le_trans hr_le.2 lev_tl
/-- who has heard r rounds knows of the 2 ^ r places up to its own -/
theorem RI.known (c : RI h g b) (nd : (h.gate g).2.Nodup) : ∀ r, r ≤ rnd (h.gate g).2.length → ∀ i j w u s : Nat, (h.gate g).2[j]? = some w → (h.gate g).2[i]? = some u → s < 2 ^ r → (i + s) % (h.gate g).2.length = j → lev h w g r ≤ h.cm u g := by
  have ix : ∀ {k v : Nat}, (h.gate g).2[k]? = some v → (h.gate g).2.idxOf v = k := fun {k v} hk => by
    obtain ⟨h1, h2⟩ := List.getElem?_eq_some_iff.mp hk
    subst h2
    exact nd.idxOf_getElem k h1
  intro r
  induction r with
  | zero =>
    intro hr i j w u s hj hi hs he
    have hil := lt_of_get hi
    have : s = 0 := by simpa using hs
    subst this
    rw [Nat.add_zero, Nat.mod_eq_of_lt hil] at he
    subst he
    rw [hj] at hi; cases hi
    exact Nat.le_refl _
  | succ r ih =>
    intro hr i j w u s hj hi hs he
    have hil := lt_of_get hi
    have hjl := lt_of_get hj
    by_cases hs2 : s < 2 ^ r
    · exact Nat.le_trans lev_le (ih (by walk_at "o") i j w u s hj hi hs2 he)
    · have hs3 : s - 2 ^ r < 2 ^ r := by rw [Nat.pow_succ] at hs; walk_at "o"
      have hml : (i + (s - 2 ^ r)) % (h.gate g).2.length < (h.gate g).2.length := Nat.mod_lt _ (by walk_at "o")
      have hv : (h.gate g).2[(i + (s - 2 ^ r)) % (h.gate g).2.length]? = some (h.gate g).2[(i + (s - 2 ^ r)) % (h.gate g).2.length] := List.getElem?_eq_getElem hml
      have q1 := ih (by walk_at "o") i _ _ u (s - 2 ^ r) hv hi hs3 rfl
      have q2 := c.hear _ (List.mem_of_getElem? hv) w (List.mem_of_getElem? hj) r (by walk_at "o") (by
        (rw [ix hv]; rw [ix hj]; rw [Nat.mod_add_mod]; rw [show i + (s - 2 ^ r) + 2 ^ r = i + s by walk_at "o"]); exact he)
      exact Nat.le_trans q2 (Nat.le_trans lev_tl q1)
/-- who has heard all rounds: all have come as often -/
theorem RI.all (c : RI h g b) (nd : (h.gate g).2.Nodup) (hm : (h.gate g).2.length ≤ 12) {w u : Nat} (hw : w ∈ (h.gate g).2) (hu : u ∈ (h.gate g).2) : lev h w g (rnd (h.gate g).2.length) ≤ h.cm u g := by
  obtain ⟨j, hj, rfl⟩ := List.getElem_of_mem hw
  obtain ⟨i, hi, rfl⟩ := List.getElem_of_mem hu
  have p := rnd_pow (h.gate g).2.length (by walk_at "o")
  by_cases hc : i ≤ j
  · exact c.known nd _ (Nat.le_refl _) i j _ _ (j - i) (List.getElem?_eq_getElem hj) (List.getElem?_eq_getElem hi) (by walk_at "o") (by rw [Nat.add_sub_cancel' hc]; exact Nat.mod_eq_of_lt hj)
  · refine c.known nd _ (Nat.le_refl _) i j _ _ (j + (h.gate g).2.length - i) (List.getElem?_eq_getElem hj) (List.getElem?_eq_getElem hi) (by walk_at "o") ?_
    (rw [show i + (j + (h.gate g).2.length - i) = j + (h.gate g).2.length by walk_at "o"]; rw [Nat.add_mod_right]); exact Nat.mod_eq_of_lt hj
theorem passed_lev {w r : Nat} : h.passed w g ≤ lev h w g r := by
  cases r with
  | zero => exact Nat.le_add_right _ _
  | succ r => exact hr_le.1
/-- who has passed: all have come as often -/
theorem RI.safe (c : RI h g b) (nd : (h.gate g).2.Nodup) (hm : (h.gate g).2.length ≤ 12) {w u : Nat} (hw : w ∈ (h.gate g).2) (hu : u ∈ (h.gate g).2) : h.passed w g ≤ h.cm u g := Nat.le_trans passed_lev (c.all nd hm hw hu)
theorem cm_le {w : Nat} : h.cm w g ≤ h.passed w g + 1 := by unfold Hl.cm; split <;> walk_at "o"
theorem ite_iff {p q : Prop} [Decidable p] [Decidable q] (h : p ↔ q) : (if p then 1 else 0 : Nat) = if q then 1 else 0 := by
  by_cases hp : p
  · (rw [if_pos hp]; rw [if_pos (h.mp hp)])
  · (rw [if_neg hp]; rw [if_neg fun z => hp (h.mpr z)])
theorem cs_row {g : Nat × List Nat} {w t : Nat} {st : Nat × Nat} {b : List (List Int)} : cellStep g w t st (.row b) = if st.1 = 2 then (.row b, if 0 = rnd g.2.length then (6, 0) else (7, 0)) else if st.1 = 7 then (.row (put2 b ((g.2.idxOf w + 2 ^ st.2) % g.2.length) (boxOf st.2 t g.2.length) (signOf 1 t)), (8, st.2))
    else (.row b, if st.2 + 1 = rnd g.2.length then (6, 0) else (7, st.2 + 1)) := rfl
theorem vain_row (hc : h.cell (h.at_ w) = .row b) : h.vain w = (decide ((h.stg w).1 = 8) && decide ((b.getD ((h.gate (h.at_ w)).2.idxOf w) []).getD (boxOf (h.stg w).2 (h.time w) (h.gate (h.at_ w)).2.length) 0 ≠ signOf 1 (h.time w))) := by
  unfold Hl.vain; rw [hc]; rfl
theorem box_if {u t m : Nat} : boxOf u t m = if t % 2 = 0 then u else rnd m + u := rfl
/-- a hearing is in vain as long as the other one has not told -/
theorem RI.vain (bs : Base h) (hgl : g < h.gates.length) (c : RI h g b) {w v : Nat} (hw : w ∈ (h.gate g).2) (hv : v ∈ (h.gate g).2) (hg : h.at_ w = g) (h8 : (h.stg w).1 = 8) (hr : (h.stg w).2 < rnd (h.gate g).2.length)
    (he : ((h.gate g).2.idxOf v + 2 ^ (h.stg w).2) % (h.gate g).2.length = (h.gate g).2.idxOf w) : h.vain w = false ↔ h.passed w g + 1 ≤ h.tl v g (h.stg w).2 := by
  have nd := (bs.gk g hgl).nodup
  have gm := bs.wf.gm g hgl
  have hin : h.inn w g := ⟨by walk_at "o", by walk_at "o", hg⟩
  have s1 := c.safe nd gm hw hv
  have s2 := c.safe nd gm hv hw
  have cw : h.cm w g = h.passed w g + 1 := by unfold Hl.cm; rw [if_pos hin]
  have cv := cm_le (h := h) (g := g) (w := v)
  have tv := tl_le (h := h) (w := v) (g := g) (r := (h.stg w).2)
  have bx := c.box v hv _ hr ((h.passed w g + 1) % 2) (Nat.mod_lt _ (by decide))
  rw [he] at bx
  (rw [vain_row (hg ▸ c.cell)]; rw [h8]; rw [hg])
  have ht : h.time w = h.passed w g + 1 := by unfold Hl.time; rw [hg]
  (rw [ht]; rw [box_if]; rw [bx]; rw [sign_sgz])
  rw [← sgz_iff (k := h.passed w g + 1) (t := h.tl v g (h.stg w).2) (by walk_at "o") (by walk_at "o")]
  simp
theorem RI.other (f : WF h) (c : RI h g b) {w : Nat} (hw : w < h.rows.length) (hi : h.idle w = false) (hg : h.at_ w ≠ g) : RI (h.step w) g b := by
  have S := f.stp hw hi
  have P := step_passed f hw hi
  have I := step_inn f hw hi
  have p0 : ∀ v, (h.step w).passed v g = h.passed v g := fun v => by (rw [P]; rw [if_neg fun z => hg z.2.2])
  have i0 : ∀ v, (h.step w).inn v g ↔ h.inn v g := fun v => by
    rw [I]; split
    · rename_i z; subst z; exact ⟨fun z => absurd z.2 hg, fun z => absurd z.2.2 hg⟩
    · exact Iff.rfl
  have s0 : ∀ v, h.inn v g → (h.step w).stg v = h.stg v := fun v hv => by
    (rw [S.stg]; rw [if_neg fun z : w = v => hg (by rw [z]; exact hv.2.2)])
  have eg : (h.step w).gate g = h.gate g := S.gate
  have t0 : ∀ v r, (h.step w).tl v g r = h.tl v g r := fun v r => by
    show (h.step w).passed v g + (if (h.step w).inn v g ∧ toldR ((h.step w).stg v) r then 1 else 0) = h.passed v g + (if h.inn v g ∧ toldR (h.stg v) r then 1 else 0)
    rw [p0]
    congr 1
    exact ite_iff ⟨fun z => ⟨(i0 v).mp z.1, by rw [← s0 v ((i0 v).mp z.1)]; exact z.2⟩, fun z => ⟨(i0 v).mpr z.1, by rw [s0 v z.1]; exact z.2⟩⟩
  have h0 : ∀ v r, (h.step w).hr v g r = h.hr v g r := fun v r => by
    show (h.step w).passed v g + (if (h.step w).inn v g ∧ heardR ((h.step w).stg v) r then 1 else 0) = h.passed v g + (if h.inn v g ∧ heardR (h.stg v) r then 1 else 0)
    rw [p0]
    congr 1
    exact ite_iff ⟨fun z => ⟨(i0 v).mp z.1, by rw [← s0 v ((i0 v).mp z.1)]; exact z.2⟩, fun z => ⟨(i0 v).mpr z.1, by rw [s0 v z.1]; exact z.2⟩⟩
  refine ⟨by (rw [S.cell]; rw [if_neg hg]; rw [c.cell]), ?_, ?_⟩
  · rw [eg]
    intro v hv r hr q hq
    rw [t0]; exact c.box v hv r hr q hq
  · rw [eg]
    intro v hv u hu r hr he
    (rw [t0]; rw [h0]); exact c.hear v hv u hu r hr he
theorem get_put2 {i j i' j' : Nat} {v : Int} (h1 : i < b.length) (h2 : j < (b.getD i []).length) : ((put2 b i j v).getD i' []).getD j' 0 = if i = i' ∧ j = j' then v else (b.getD i' []).getD j' 0 := by
  unfold put2
  rw [getD_set h1]
  by_cases hi : i = i'
  · subst hi
    (rw [if_pos rfl]; rw [getD_set h2])
    by_cases hj : j = j'
    · (rw [if_pos hj]; rw [if_pos ⟨rfl, hj⟩])
    · (rw [if_neg hj]; rw [if_neg fun z => hj z.2])
  · (rw [if_neg hi]; rw [if_neg fun z => hi z.1])
theorem mod_add {m i k : Nat} (hi : i < m) (hk : k ≤ m) : (i + k) % m = if i + k < m then i + k else i + k - m := by
  split
  · rename_i z; exact Nat.mod_eq_of_lt z
  · rename_i z
    rw [Nat.mod_eq_sub_mod (by walk_at "o")]; exact Nat.mod_eq_of_lt (by walk_at "o")
theorem add_inj {m i j k : Nat} (hi : i < m) (hj : j < m) (hk : k ≤ m) (h : (i + k) % m = (j + k) % m) : i = j := by
  rw [mod_add hi hk, mod_add hj hk] at h
  split at h <;> split at h <;> walk_at "o"
theorem pow_lt : ∀ m : Nat, m ≤ 16 → ∀ r, r < rnd m → 2 ^ r < m := by
  have : ∀ m : Fin 17, ∀ r : Fin 5, r.1 < rnd m.1 → 2 ^ r.1 < m.1 := by decide +kernel
  exact fun m hm r hr => this ⟨m, by walk_at "o"⟩ ⟨r, by have := rnd_le m; walk_at "o"⟩ hr
theorem idx_inj {l : List Nat} {a b : Nat} (ha : a ∈ l) (hb : b ∈ l) (h : l.idxOf a = l.idxOf b) : a = b := by
  induction l with
  | nil => cases ha
  | cons x l ih =>
    rw [List.idxOf_cons, List.idxOf_cons] at h
    by_cases h1 : x = a
    · by_cases h2 : x = b
      · exact h1.symm.trans h2
      · rw [beq_iff_eq.mpr h1, beq_eq_false_iff_ne.mpr h2] at h; cases h
    · by_cases h2 : x = b
      · rw [beq_eq_false_iff_ne.mpr h1, beq_iff_eq.mpr h2] at h; cases h
      · rw [beq_eq_false_iff_ne.mpr h1, beq_eq_false_iff_ne.mpr h2] at h
        exact ih ((List.mem_cons.mp ha).resolve_left (Ne.symm h1)) ((List.mem_cons.mp hb).resolve_left (Ne.symm h2)) (Nat.succ.inj h)
theorem RI.step (bs : Base h) (hgl : g < h.gates.length) (hw1 : (h.gate g).1 = 1) (c : RI h g b) (hw : w < h.rows.length) (hi : h.idle w = false) : ∃ b, RI (h.step w) g b := by
  have f := bs.wf
  by_cases hg : h.at_ w = g
  case neg => exact ⟨b, c.other f hw hi hg⟩
  have S := f.stp hw hi
  have P := step_passed f hw hi
  have I := step_inn f hw hi
  obtain ⟨h10, hvn⟩ := idle_not hi
  have hm : w ∈ (h.gate g).2 := hg ▸ (f.at_ hw h10).2
  have nd := (bs.gk g hgl).nodup
  have gm := f.gm g hgl
  have eg : (h.step w).gate g = h.gate g := S.gate
  have so : ∀ v, v ≠ w → (h.step w).stg v = h.stg v := fun v hv => by (rw [S.stg]; rw [if_neg (Ne.symm hv)])
  have io : ∀ v, v ≠ w → ((h.step w).inn v g ↔ h.inn v g) := fun v hv => by (rw [I]; rw [if_neg (Ne.symm hv)])
  have po : ∀ v, v ≠ w → (h.step w).passed v g = h.passed v g := fun v hv => by (rw [P]; rw [if_neg fun z => hv z.1.symm])
  have to : ∀ v r, v ≠ w → (h.step w).tl v g r = h.tl v g r := fun v r hv => by
    show (h.step w).passed v g + (if (h.step w).inn v g ∧ toldR ((h.step w).stg v) r then 1 else 0) = h.passed v g + (if h.inn v g ∧ toldR (h.stg v) r then 1 else 0)
    rw [po v hv]
    exact congrArg _ (ite_iff ⟨fun z => ⟨(io v hv).mp z.1, by rw [← so v hv]; exact z.2⟩, fun z => ⟨(io v hv).mpr z.1, by rw [so v hv]; exact z.2⟩⟩)
  have ho : ∀ v r, v ≠ w → (h.step w).hr v g r = h.hr v g r := fun v r hv => by
    show (h.step w).passed v g + (if (h.step w).inn v g ∧ heardR ((h.step w).stg v) r then 1 else 0) = h.passed v g + (if h.inn v g ∧ heardR (h.stg v) r then 1 else 0)
    rw [po v hv]
    exact congrArg _ (ite_iff ⟨fun z => ⟨(io v hv).mp z.1, by rw [← so v hv]; exact z.2⟩, fun z => ⟨(io v hv).mpr z.1, by rw [so v hv]; exact z.2⟩⟩)
  have st := f.st hw h10
  rw [hg] at st
  have cs : h.cstep w = cellStep (h.gate g) w (h.passed w g + 1) (h.stg w) (.row b) := by
    unfold Hl.cstep Hl.time; (rw [hg]; rw [c.cell])
  have wn : (h.step w).stg w = h.nst w := by (rw [S.stg]; rw [if_pos rfl])
  have hcell : (h.stg w).1 ≠ 6 → (h.step w).cell g = (h.cstep w).1 := fun z => by (rw [S.cell]; rw [if_pos hg]; rw [if_neg z])
  have hn : (h.stg w).1 ≠ 6 → h.nst w = (h.cstep w).2 := fun z => by unfold Hl.nst; rw [if_neg z]
  have iw : (h.stg w).1 ≠ 6 → (h.step w).inn w g := fun z => by (rw [I]; rw [if_pos rfl]); exact ⟨z, hg⟩
  have pw : (h.stg w).1 ≠ 6 → (h.step w).passed w g = h.passed w g := fun z => by (rw [P]; rw [if_neg fun q => z q.2.1])
  -- the same cells
  have same : (h.step w).cell g = .row b → (∀ r, r < rnd (h.gate g).2.length → (h.step w).tl w g r = h.tl w g r) → (∀ r, r < rnd (h.gate g).2.length → ∀ v ∈ (h.gate g).2, ((h.gate g).2.idxOf v + 2 ^ r) % (h.gate g).2.length = (h.gate g).2.idxOf w → (h.step w).hr w g r ≤ h.tl v g r) → RI (h.step w) g b := fun k1 k2 k3 => by
    have ta : ∀ v r, r < rnd (h.gate g).2.length → (h.step w).tl v g r = h.tl v g r := fun v r hr => by
      by_cases hne : v = w
      · rw [hne]; exact k2 r hr
      · exact to v r hne
    refine ⟨k1, ?_, ?_⟩
    · rw [eg]; intro v hv r hr q hq; rw [ta v r hr]; exact c.box v hv r hr q hq
    · rw [eg]; intro v hv u hu r hr he
      rw [ta v r hr]
      by_cases hne : u = w
      · rw [hne] at he ⊢; exact k3 r hr v hv he
      · rw [ho u r hne]; exact c.hear v hv u hu r hr he
  have hst : (h.stg w).1 = 2 ∨ (h.stg w).1 = 6 ∨ ((h.stg w).1 = 7 ∧ (h.stg w).2 < rnd (h.gate g).2.length) ∨ ((h.stg w).1 = 8 ∧ (h.stg w).2 < rnd (h.gate g).2.length) := by
    rcases st with z | z | z | z
    · exact .inl z
    · exact .inr (.inl z)
    · exact absurd z.1 (by walk_at "o")
    · rcases z.2.1 with y | y
      · exact .inr (.inr (.inl ⟨y, z.2.2⟩))
      · exact .inr (.inr (.inr ⟨y, z.2.2⟩))
  have tw : ∀ r, h.inn w g → h.tl w g r = h.passed w g + if toldR (h.stg w) r then 1 else 0 := fun r hin => congrArg _ (ite_iff ⟨fun z => z.2, fun z => ⟨hin, z⟩⟩)
  have hwr : ∀ r, h.inn w g → h.hr w g r = h.passed w g + if heardR (h.stg w) r then 1 else 0 := fun r hin => congrArg _ (ite_iff ⟨fun z => z.2, fun z => ⟨hin, z⟩⟩)
  have tw' : ∀ r, (h.stg w).1 ≠ 6 → (h.step w).tl w g r = h.passed w g + if toldR (h.nst w) r then 1 else 0 := fun r z6 => by
    show (h.step w).passed w g + (if (h.step w).inn w g ∧ toldR ((h.step w).stg w) r then 1 else 0) = _
    rw [pw z6]
    exact congrArg _ (ite_iff ⟨fun z => by rw [← wn]; exact z.2, fun z => ⟨iw z6, by rw [wn]; exact z⟩⟩)
  have hw' : ∀ r, (h.stg w).1 ≠ 6 → (h.step w).hr w g r = h.passed w g + if heardR (h.nst w) r then 1 else 0 := fun r z6 => by
    show (h.step w).passed w g + (if (h.step w).inn w g ∧ heardR ((h.step w).stg w) r then 1 else 0) = _
    rw [pw z6]
    exact congrArg _ (ite_iff ⟨fun z => by rw [← wn]; exact z.2, fun z => ⟨iw z6, by rw [wn]; exact z⟩⟩)
  rcases hst with z | z | ⟨z, zr⟩ | ⟨z, zr⟩
  · -- come
    have z6 : (h.stg w).1 ≠ 6 := by walk_at "o"
    have e1 : h.cstep w = (.row b, if 0 = rnd (h.gate g).2.length then (6, 0) else (7, 0)) := by (rw [cs]; rw [cs_row]; rw [if_pos z])
    have nin : ¬ h.inn w g := fun q => q.1 z
    have t0 : ∀ r, h.tl w g r = h.passed w g := fun r => by unfold Hl.tl; rw [if_neg fun q => nin q.1]; rfl
    have nt : ∀ r, r < rnd (h.gate g).2.length → ¬ toldR (h.nst w) r ∧ ¬ heardR (h.nst w) r := fun r hr => by
      (rw [hn z6]; rw [e1]; rw [if_neg (by walk_at "o")])
      unfold toldR heardR; simp
    refine ⟨b, same (by (rw [hcell z6]; rw [e1])) (fun r hr => by (rw [tw' r z6]; rw [if_neg (nt r hr).1]; rw [t0]); rfl) fun r hr v hv he => ?_⟩
    (rw [hw' r z6]; rw [if_neg (nt r hr).2])
    have := c.hear v hv w hm r hr he
    have := hr_le (h := h) (w := w) (g := g) (r := r)
    walk_at "o"
  · -- pass
    have hin : h.inn w g := ⟨by walk_at "o", by walk_at "o", hg⟩
    have nin : ¬ (h.step w).inn w g := fun q => by rw [I, if_pos rfl] at q; exact q.1 z
    have pw' : (h.step w).passed w g = h.passed w g + 1 := by (rw [P]; rw [if_pos ⟨rfl, z, hg⟩])
    refine ⟨b, same (by (rw [S.cell]; rw [if_pos hg]; rw [if_pos z]); exact c.cell) (fun r hr => ?_) fun r hr v hv he => ?_⟩
    · (rw [tw r hin]; rw [if_pos (.inl z)])
      show (h.step w).passed w g + (if (h.step w).inn w g ∧ _ then 1 else 0) = _
      (rw [if_neg fun q => nin q.1]; rw [pw'])
    · have := c.hear v hv w hm r hr he
      rw [hwr r hin, if_pos (.inl z)] at this
      show (h.step w).passed w g + (if (h.step w).inn w g ∧ _ then 1 else 0) ≤ _
      (rw [if_neg fun q => nin q.1]; rw [pw']); exact this
  · -- tell
    have z6 : (h.stg w).1 ≠ 6 := by walk_at "o"
    have hin : h.inn w g := ⟨by walk_at "o", by walk_at "o", hg⟩
    have e1 : h.cstep w = (.row (put2 b (((h.gate g).2.idxOf w + 2 ^ (h.stg w).2) % (h.gate g).2.length) (boxOf (h.stg w).2 (h.passed w g + 1) (h.gate g).2.length) (signOf 1 (h.passed w g + 1))), (8, (h.stg w).2)) := by (rw [cs]; rw [cs_row]; rw [if_neg (by walk_at "o")]; rw [if_pos z])
    have ck := f.cell g hgl
    rw [c.cell] at ck
    obtain ⟨_, k1, k2⟩ : (h.gate g).1 = 1 ∧ b.length = (h.gate g).2.length ∧ ∀ x ∈ b, x.length = 2 * rnd (h.gate g).2.length := ck
    have mp : 0 < (h.gate g).2.length := List.length_pos_of_mem hm
    have hol : ((h.gate g).2.idxOf w + 2 ^ (h.stg w).2) % (h.gate g).2.length < b.length := by rw [k1]; exact Nat.mod_lt _ mp
    have hbl : boxOf (h.stg w).2 (h.passed w g + 1) (h.gate g).2.length < (b.getD (((h.gate g).2.idxOf w + 2 ^ (h.stg w).2) % (h.gate g).2.length) []).length := by
      rw [k2 _ (List.mem_of_getElem? (get_of_lt hol))]; exact box_lt zr
    have hne8 : h.nst w = (8, (h.stg w).2) := by (rw [hn z6]; rw [e1])
    refine ⟨_, by (rw [hcell z6]; rw [e1]), ?_, ?_⟩
    · rw [eg]
      intro v hv r hr q hq
      (rw [get_put2 hol hbl]; rw [box_if])
      by_cases hh : v = w ∧ r = (h.stg w).2
      · obtain ⟨rfl, rfl⟩ := hh
        have tv : (h.step v).tl v g (h.stg v).2 = h.passed v g + 1 := by (rw [tw' _ z6]; rw [hne8]; rw [if_pos (.inr (.inr ⟨rfl, Nat.le_refl _⟩))])
        have tv0 : h.tl v g (h.stg v).2 = h.passed v g := by (rw [tw _ hin]; rw [if_neg (by unfold toldR; walk_at "o")]); rfl
        rw [tv]
        by_cases hq2 : (h.passed v g + 1) % 2 = q
        · (rw [if_pos ⟨rfl, by rw [hq2]⟩]; rw [sign_sgz])
          unfold lastk; rw [if_pos hq2]
        · (rw [if_neg]; rw [c.box v hv _ hr q hq]; rw [tv0])
          · unfold lastk
            (rw [if_neg hq2]; rw [if_pos (by walk_at "o")]); congr 1; walk_at "o"
          · rintro ⟨_, q2⟩
            by_cases q0 : q = 0
            · rw [if_pos q0, if_neg (by walk_at "o")] at q2; walk_at "o"
            · rw [if_neg q0, if_pos (by walk_at "o")] at q2; walk_at "o"
      · (rw [if_neg]; rw [c.box v hv r hr q hq])
        · by_cases hvw : v = w
          · subst hvw
            have hrn : r ≠ (h.stg v).2 := fun q => hh ⟨rfl, q⟩
            (rw [tw' r z6]; rw [tw r hin]; rw [hne8])
            congr 2
            exact congrArg _ (ite_iff (by unfold toldR; walk_at "o"))
          · rw [to v r hvw]
        · rintro ⟨q1, q2⟩
          have r4 := rnd_le (h.gate g).2.length
          have er : r = (h.stg w).2 := by
            by_cases q0 : q = 0
            · rw [if_pos q0] at q2; split at q2 <;> walk_at "o"
            · rw [if_neg q0] at q2; split at q2 <;> walk_at "o"
          refine hh ⟨?_, er⟩
          subst er
          have p2 := pow_lt _ (by walk_at "o") _ zr
          have := add_inj (List.idxOf_lt_length_iff.mpr hm) (List.idxOf_lt_length_iff.mpr hv) (by walk_at "o") q1
          exact (idx_inj hm hv this).symm
    · rw [eg]
      intro v hv u hu r hr he
      have tge : h.tl v g r ≤ (h.step w).tl v g r := by
        by_cases hvw : v = w
        · (rw [hvw]; rw [tw' r z6]; rw [tw r hin]; rw [hne8])
          by_cases ht : toldR (h.stg w) r
          · (rw [if_pos ht]; rw [if_pos (by unfold toldR at ht ⊢; walk_at "o")]); exact Nat.le_refl _
          · rw [if_neg ht]; walk_at "o"
        · rw [to v r hvw]; exact Nat.le_refl _
      refine Nat.le_trans ?_ tge
      by_cases huw : u = w
      · rw [huw] at he ⊢
        have := c.hear v hv w hm r hr he
        (rw [hw' r z6]; rw [hne8])
        rw [hwr r hin] at this
        refine Nat.le_trans (Nat.le_of_eq ?_) this
        exact congrArg _ (ite_iff (by unfold heardR; walk_at "o"))
      · rw [ho u r huw]; exact c.hear v hv u hu r hr he
  · -- hear
    have z6 : (h.stg w).1 ≠ 6 := by walk_at "o"
    have hin : h.inn w g := ⟨by walk_at "o", by walk_at "o", hg⟩
    have e1 : h.cstep w = (.row b, if (h.stg w).2 + 1 = rnd (h.gate g).2.length then (6, 0) else (7, (h.stg w).2 + 1)) := by (rw [cs]; rw [cs_row]; rw [if_neg (by walk_at "o")]; rw [if_neg (by walk_at "o")])
    have nt : ∀ r, r < rnd (h.gate g).2.length → (toldR (h.nst w) r ↔ toldR (h.stg w) r) ∧ (heardR (h.nst w) r ↔ heardR (h.stg w) r ∨ r = (h.stg w).2) := fun r hr => by
      (rw [hn z6]; rw [e1])
      unfold toldR heardR
      by_cases hl : (h.stg w).2 + 1 = rnd (h.gate g).2.length
      · rw [if_pos hl]; constructor <;> simp <;> walk_at "o"
      · rw [if_neg hl]; constructor <;> simp <;> walk_at "o"
    refine ⟨b, same (by (rw [hcell z6]; rw [e1])) (fun r hr => by (rw [tw' r z6]; rw [tw r hin]); exact congrArg _ (ite_iff (nt r hr).1)) fun r hr v hv he => ?_⟩
    by_cases hre : r = (h.stg w).2
    · subst hre
      have := (c.vain bs hgl hm hv hg z zr he).mp hvn
      rw [hw' _ z6]
      split <;> walk_at "o"
    · have := c.hear v hv w hm r hr he
      rw [hwr r hin] at this
      rw [hw' r z6]
      refine Nat.le_trans (Nat.le_of_eq ?_) this
      exact congrArg _ (ite_iff ⟨fun q => ((nt r hr).2.mp q).resolve_right hre, fun q => (nt r hr).2.mpr (.inl q)⟩)
theorem RI.init {gates : List (Nat × List Nat)} {rows : List (List Nat)} {g : Nat} (k : HallOk gates rows) (hg : g < gates.length) (hw1 : ((Hl.init gates rows).gate g).1 = 1) : ∃ b, RI (Hl.init gates rows) g b := by
  have gk := k.base.gk g hg
  have lt : ∀ w ∈ ((Hl.init gates rows).gate g).2, w < rows.length := gk.lt
  have t0 : ∀ v ∈ ((Hl.init gates rows).gate g).2, ∀ r, (Hl.init gates rows).tl v g r = 0 ∧ (Hl.init gates rows).hr v g r = 0 := fun v hv r => by
    obtain ⟨h1, h2⟩ := init_out (gates := gates) (lt v hv) g
    unfold Hl.tl Hl.hr
    (rw [h2]; rw [if_neg fun z => h1 z.1]; rw [if_neg fun z => h1 z.1])
    exact ⟨rfl, rfl⟩
  refine ⟨_, by rw [init_cell' hg]; unfold initCell; rw [if_neg (by walk_at "o")], fun v hv r hr q hq => ?_, fun v hv w hw r hr he => by (rw [(t0 v hv r).1]; rw [(t0 w hw r).2]); exact Nat.le_refl _⟩
  rw [(t0 v hv r).1]
  have e : sgz (lastk q 0) = 0 := by rcases (show q = 0 ∨ q = 1 by walk_at "o") with rfl | rfl <;> rfl
  rw [e]
  have mp : 0 < ((Hl.init gates rows).gate g).2.length := List.length_pos_of_mem hv
  have i1 := Nat.mod_lt (((Hl.init gates rows).gate g).2.idxOf v + 2 ^ r) mp
  have e1 : ∀ (n i : Nat) (x d : List Int), i < n → (List.replicate n x).getD i d = x := fun n i x d h => getD_of (by (rw [List.getElem?_replicate]; rw [if_pos h]))
  have e2 : ∀ (n i : Nat), (List.replicate n (0 : Int)).getD i 0 = 0 := fun n i => by
    (rw [List.getD_eq_getElem?_getD]; rw [List.getElem?_replicate]); split <;> rfl
  (rw [e1 _ _ _ _ i1]; rw [e2])
/-- at rest: who hears in vain lacks somebody -/
theorem RI.rest (bs : Base h) (hgl : g < h.gates.length) (hw1 : (h.gate g).1 = 1) (c : RI h g b) (hr : ∀ v ∈ (h.gate g).2, h.idle v = true) {w : Nat} (hw : w ∈ (h.gate g).2) (hin : h.inn w g) : (h.stg w).1 = 8 ∧ ∃ u ∈ (h.gate g).2, h.cm u g < h.passed w g + 1 := by
  have f := bs.wf
  have nd := (bs.gk g hgl).nodup
  have gm := f.gm g hgl
  have lt := (bs.gk g hgl).lt
  have st8 : ∀ v ∈ (h.gate g).2, h.inn v g → (h.stg v).1 = 8 ∧ (h.stg v).2 < rnd (h.gate g).2.length ∧ h.vain v = true := fun v hv hi => by
    have hid := hr v hv
    have h10 := hi.2.1
    have hvn : h.vain v = true := by unfold Hl.idle at hid; simpa [h10] using hid
    have st := f.st (lt v hv) h10
    rw [hi.2.2] at st
    rw [vain_row (hi.2.2 ▸ c.cell)] at hvn
    have h8 : (h.stg v).1 = 8 := by simp at hvn; exact hvn.1
    refine ⟨h8, ?_, by unfold Hl.idle at hid; simpa [h10] using hid⟩
    rcases st with z | z | z | z
    · walk_at "o"
    · walk_at "o"
    · walk_at "o"
    · exact z.2.2
  have go : ∀ v ∈ (h.gate g).2, h.inn v g → h.passed v g = h.passed w g → (∀ u ∈ (h.gate g).2, h.inn u g → h.passed u g = h.passed w g → (h.stg u).2 < (h.stg v).2 → ∃ u ∈ (h.gate g).2, h.cm u g < h.passed w g + 1) → ∃ u ∈ (h.gate g).2, h.cm u g < h.passed w g + 1 := by
    intro v hv hi hp nx
    obtain ⟨h8, hr8, hvn⟩ := st8 v hv hi
    have r4 := pow_lt _ (by walk_at "o") _ hr8
    obtain ⟨i, hil, he⟩ := prev_at (m := (h.gate g).2.length) (j := (h.gate g).2.idxOf v) (k := 2 ^ (h.stg v).2) (List.idxOf_lt_length_iff.mpr hv) (by walk_at "o")
    have hum : (h.gate g).2[i] ∈ (h.gate g).2 := List.getElem_mem hil
    have hix : (h.gate g).2.idxOf (h.gate g).2[i] = i := nd.idxOf_getElem i hil
    have vi := c.vain bs hgl hv hum hi.2.2 h8 hr8 (by rw [hix]; exact he)
    have nt : ¬ h.passed v g + 1 ≤ h.tl (h.gate g).2[i] g (h.stg v).2 := fun z => by rw [vi.mpr z] at hvn; cases hvn
    generalize (h.gate g).2[i] = u at *
    by_cases hc : h.cm u g < h.passed w g + 1
    · exact ⟨u, hum, hc⟩
    · have t1 := tl_le (h := h) (w := u) (g := g) (r := (h.stg v).2)
      have hiu : h.inn u g := by
        by_cases z : h.inn u g
        · exact z
        · have : h.cm u g = h.passed u g := by unfold Hl.cm; rw [if_neg z]; rfl
          walk_at "o"
      have cu : h.cm u g = h.passed u g + 1 := by unfold Hl.cm; rw [if_pos hiu]
      obtain ⟨u8, _, _⟩ := st8 u hum hiu
      refine nx u hum hiu (by walk_at "o") ?_
      have tu : ¬ toldR (h.stg u) (h.stg v).2 := fun z => by
        have : h.tl u g (h.stg v).2 = h.passed u g + 1 := by unfold Hl.tl; rw [if_pos ⟨hiu, z⟩]
        walk_at "o"
      unfold toldR at tu; walk_at "o"
  have key : ∀ n, ∀ v ∈ (h.gate g).2, h.inn v g → h.passed v g = h.passed w g → (h.stg v).2 ≤ n → ∃ u ∈ (h.gate g).2, h.cm u g < h.passed w g + 1 := by
    intro n
    induction n with
    | zero =>
      intro v hv hi hp hn
      exact go v hv hi hp fun u hu hiu hpu hlt => by walk_at "o"
    | succ n ih =>
      intro v hv hi hp hn
      exact go v hv hi hp fun u hu hiu hpu hlt => ih u hu hiu hpu (by walk_at "o")
  exact ⟨(st8 w hw hin).1, key _ w hw hin rfl (Nat.le_refl _)⟩
end
end Mini

set_option autoImplicit false
set_option linter.unusedVariables false
namespace Mini
/-- what holds in every hall -/
structure Inv (h : Hl) : Prop where
  base : Base h
  g0 : ∀ g, g < h.gates.length → (h.gate g).1 = 0 → ∃ tl K n left, CI h g tl K n left
  g1 : ∀ g, g < h.gates.length → (h.gate g).1 = 1 → ∃ b, RI h g b
section
variable {h : Hl} {w g : Nat}
theorem Inv.step (i : Inv h) (hw : w < h.rows.length) : Inv (h.step w) := by
  cases hi : h.idle w with
  | true => rw [step_idle hi]; exact i
  | false =>
    have eg : ∀ g, (h.step w).gate g = h.gate g := fun g => by unfold Hl.gate; rw [Hl.step_gates]
    refine ⟨i.base.step hw, fun g hg h0 => ?_, fun g hg h1 => ?_⟩
    · rw [Hl.step_gates] at hg
      rw [eg] at h0
      obtain ⟨tl, K, n, left, c⟩ := i.g0 g hg h0
      obtain ⟨K', n', left', c'⟩ := c.step i.base hg h0 hw hi
      exact ⟨_, K', n', left', c'⟩
    · rw [Hl.step_gates] at hg
      rw [eg] at h1
      obtain ⟨b, c⟩ := i.g1 g hg h1
      exact c.step i.base hg h1 hw hi
theorem Inv.run (i : Inv h) {l : List Nat} (hl : ∀ w ∈ l, w < h.rows.length) : Inv (h.run l) := by
  induction l generalizing h with
  | nil => exact i
  | cons w l ih => exact ih (i.step (hl w (.head _))) fun v hv => by rw [Hl.step_rows]; exact hl v (.tail _ hv)
theorem HallOk.inv {gates : List (Nat × List Nat)} {rows : List (List Nat)} (k : HallOk gates rows) : Inv (Hl.init gates rows) :=
  ⟨k.base, fun g hg h0 => ⟨_, _, _, _, CI.init k hg h0⟩, fun g hg h1 => RI.init k hg h1⟩
/-- nobody passes before all have come as often -/
theorem Inv.safe (i : Inv h) (hg : g < h.gates.length) {w u : Nat} (hw : w ∈ (h.gate g).2) (hu : u ∈ (h.gate g).2) : h.passed w g ≤ h.cm u g := by
  rcases (i.base.gk g hg).word with h0 | h1
  · obtain ⟨tl, K, n, left, c⟩ := i.g0 g hg h0
    have t1 : h.passed w g ≤ K := by
      rcases c.ty w hw with z | z | z
      · exact Nat.le_of_eq z.2
      · exact Nat.le_of_eq z.2.1
      · have := z.2.1; walk_at "o"
    refine Nat.le_trans t1 ?_
    unfold Hl.cm
    rcases c.ty u hu with z | z | z
    · have := z.2; walk_at "o"
    · have := z.2.1; walk_at "o"
    · have := z.2.1
      rw [if_pos z.1]; walk_at "o"
  · obtain ⟨b, c⟩ := i.g1 g hg h1
    exact c.safe (i.base.gk g hg).nodup (i.base.wf.gm g hg) hw hu
end
end Mini

set_option autoImplicit false
set_option linter.unusedVariables false


namespace Mini
/-- the word that a step is told by -/
noncomputable def Hl.wd (h : Hl) (w : Nat) : Nat := if h.vain w then 9 else (h.stg w).1
theorem told_eq {h : Hl} {w : Nat} : h.told w = if (h.stg w).1 = 10 then .tup [.int w, .none, .str 10] else .tup [.int w, .int (h.at_ w), .str (h.wd w)] := by
  unfold Hl.told Hl.wd
  split
  · rfl
  · split <;> rfl
noncomputable def gWhole : Fn := ⟨1, 4, [
  .ret (.and (.isinst (.var 0) .int) (.not (.isinst (.var 0) .bool)))]⟩
noncomputable def gEvent (wh : Nat) : Fn := ⟨2, 5, [
  .ite (.or (.not (.isinst (.var 0) .tup)) (.or (.cmp .ne (.b1 .len (.var 0)) (.int (3))) (.or (.not (.call wh [(.idx (.var 0) (.int (0)))])) (.cmp .ne (.idx (.var 0) (.int (0))) (.var 1))))) [
    .ret (.bool false)] [],
  .ite (.cmp .is (.idx (.var 0) (.int (1))) .none) [
    .ret (.cmp .eq (.idx (.var 0) (.int (2))) (.str 10))] [],
  .ret (.and (.call wh [(.idx (.var 0) (.int (1)))]) (.isinst (.idx (.var 0) (.int (2))) .str))]⟩
structure EF (wh ev : Nat) (Φ : Nat → Option Fn) : Prop where
  whole : Φ wh = some gWhole
  event : Φ ev = some (gEvent wh)
structure DrB (B : Nat → Prop) (σ : H) (ga ra : Nat) (gates : List (Nat × List Nat)) (rows : List (List Nat)) : Prop where
  ng : ¬ B ga
  nr : ¬ B ra
  gts : ∃ gv, σ[ga]? = some gv ∧ A2 (GateB B σ) gv gates
  rws : ∃ rv, σ[ra]? = some rv ∧ A2 (RowB B σ) rv rows
theorem Drawn.ex {σ σ' : H} {ga ra : Nat} {gates : List (Nat × List Nat)} {rows : List (List Nat)} (d : Drawn σ ga ra gates rows) (e : Ex σ σ') : Drawn σ' ga ra gates rows := by
  obtain ⟨⟨gv, h3, h4⟩, ⟨rv, h5, h6⟩, ok⟩ := d
  exact ⟨⟨gv, e.get h3, h4.mono fun _ _ k => k.ex e e.len⟩, ⟨rv, e.get h5, h6.mono fun _ _ k => k.ex e e.len⟩, ok⟩
/-- a row's place -/
inductive RowAt (B : Nat → Prop) (σ : H) (ra w : Nat) (l : List Nat) : Prop
  | mk (rv : List V) (a : Nat) : σ[ra]? = some rv → rv[w]? = some (.ref a) → ¬ B a → σ[a]? = some (l.map nv) → RowAt B σ ra w l
inductive GateAt (B : Nat → Prop) (σ : H) (ga g : Nat) (k : Nat × List Nat) : Prop
  | mk (gv : List V) (a : Nat) : σ[ga]? = some gv → gv[g]? = some (.tup [.str k.1, .ref a]) → ¬ B a → σ[a]? = some (k.2.map nv) → GateAt B σ ga g k
section
variable {wh ev : Nat} {Φ : Nat → Option Fn} {n : Nat} {σ : H} {Q : P} {x : X}
end
end Mini

set_option autoImplicit false
set_option linter.unusedVariables false
namespace Mini
section
variable {gates : List (Nat × List Nat)} {rows : List (List Nat)}
/-- places within the rows -/
abbrev cntP (rows : List (List Nat)) (P : Nat → Nat) (u g : Nat) : Nat := ((rows.getD u []).take (P u)).count g
abbrev cmP (rows : List (List Nat)) (P : Nat → Nat) (u g : Nat) : Nat := ((rows.getD u []).take (P u + 1)).count g
/-- nobody can go on -/
structure Stuck (gates : List (Nat × List Nat)) (rows : List (List Nat)) (Q : Nat → Nat) : Prop where
  le : ∀ w, w < rows.length → Q w ≤ (rows.getD w []).length
  at_ : ∀ w g, w < rows.length → (rows.getD w [])[Q w]? = some g → ∃ u ∈ (gates.getD g (0, [])).2, u < rows.length ∧ cmP rows Q u g < cntP rows Q w g + 1
theorem count_le {l : List Nat} {p q g : Nat} (h : p ≤ q) : (l.take p).count g ≤ (l.take q).count g := by
  have : l.take p = (l.take q).take p := by (rw [List.take_take]; rw [Nat.min_eq_left h])
  rw [this]
  exact (List.take_sublist _ _).count_le g
theorem cnt_next {l : List Nat} {p g : Nat} (h : l[p]? = some g) : (l.take (p + 1)).count g = (l.take p).count g + 1 := by
  (rw [take_snoc h]; rw [List.count_append]); simp
theorem cnt_off {l : List Nat} {p g : Nat} (h : l[p]? ≠ some g) : (l.take (p + 1)).count g = (l.take p).count g := by
  cases e : l[p]? with
  | none => (rw [List.take_of_length_le (by have := List.getElem?_eq_none_iff.mp e; walk_at "o")]; rw [List.take_of_length_le (List.getElem?_eq_none_iff.mp e)])
  | some x =>
    (rw [take_snoc e]; rw [List.count_append]; rw [List.count_singleton])
    have : (x == g) = false := by simpa using fun z => h (by (rw [e]; rw [z]))
    rw [this]; rfl
/-- a hall never gets further than where nobody can go on -/
theorem step_le {h : Hl} {v : Nat} (i : Inv h) (hv : v < h.rows.length) {Q : Nat → Nat} (S : Stuck h.gates h.rows Q) (le : ∀ w, w < h.rows.length → h.dn w ≤ Q w) : ∀ w, w < h.rows.length → (h.step v).dn w ≤ Q w := fun w hw => by
  cases hi : h.idle v with
  | true => rw [step_idle hi]; exact le w hw
  | false =>
    have f := i.base.wf
    have T := f.stp hv hi
    rw [T.dn]
    by_cases hvw : v = w
    case neg => rw [if_neg hvw]; exact le w hw
    subst hvw
    rw [if_pos rfl]
    by_cases h6 : (h.stg v).1 = 6
    case neg => rw [if_neg h6]; exact le v hv
    rw [if_pos h6]
    have l1 := le v hv
    rcases Nat.lt_or_ge (h.dn v) (Q v) with l2 | l2
    · exact l2
    have eq : Q v = h.dn v := by walk_at "o"
    have h10 := (idle_not hi).1
    have ar := at_row f hv h10
    obtain ⟨ha, hm⟩ := f.at_ hv h10
    obtain ⟨u, hu, ul, lt⟩ := S.at_ v (h.at_ v) hv (by rw [eq]; exact ar)
    have ar' : (h.rows.getD v [])[Q v]? = some (h.at_ v) := by rw [eq]; exact ar
    have ep : cntP h.rows Q v (h.at_ v) = h.passed v (h.at_ v) := by unfold cntP Hl.passed; rw [eq]; rfl
    rw [ep] at lt
    by_cases huv : u = v
    · subst huv
      have : cmP h.rows Q u (h.at_ u) = h.passed u (h.at_ u) + 1 := by unfold cmP; (rw [cnt_next ar']; rw [← ep])
      walk_at "o"
    · have i' := i.step hv
      have hm' : v ∈ ((h.step v).gate (h.at_ v)).2 := by rw [T.gate]; exact hm
      have hu' : u ∈ ((h.step v).gate (h.at_ v)).2 := by rw [T.gate]; exact hu
      have sf := i'.safe (g := h.at_ v) (by rw [T.gates]; exact ha) hm' hu'
      rw [step_passed f hv hi, if_pos ⟨rfl, h6, rfl⟩] at sf
      have cu : (h.step v).cm u (h.at_ v) = h.cm u (h.at_ v) := by
        unfold Hl.cm
        have e1 := step_passed f hv hi u (h.at_ v)
        rw [if_neg fun z => huv z.1.symm] at e1
        have e2 := step_inn f hv hi u (h.at_ v)
        rw [if_neg fun z : v = u => huv z.symm] at e2
        (rw [e1]; rw [ite_iff e2])
      have c1 : h.cm u (h.at_ v) ≤ cmP h.rows h.dn u (h.at_ v) := by
        unfold Hl.cm cmP
        by_cases hin : h.inn u (h.at_ v)
        · have au := at_row f ul hin.2.1
          rw [if_pos hin]
          have au' : (h.rows.getD u [])[h.dn u]? = some (h.at_ v) := by rw [← hin.2.2]; exact au
          rw [cnt_next au']; exact Nat.le_refl _
        · rw [if_neg hin]; exact count_le (Nat.le_succ _)
      have c2 : cmP h.rows h.dn u (h.at_ v) ≤ cmP h.rows Q u (h.at_ v) := count_le (by have := le u ul; walk_at "o")
      walk_at "o"
theorem run_le {h : Hl} {l : List Nat} (i : Inv h) (hl : ∀ w ∈ l, w < h.rows.length) {Q : Nat → Nat} (S : Stuck h.gates h.rows Q) (le : ∀ w, w < h.rows.length → h.dn w ≤ Q w) : ∀ w, w < h.rows.length → (h.run l).dn w ≤ Q w := by
  induction l generalizing h with
  | nil => exact le
  | cons v l ih =>
    have hv := hl v (by simp)
    have := ih (i.step hv) (fun w hw => by rw [Hl.step_rows]; exact hl w (by simp [hw])) (by (rw [Hl.step_gates]; rw [Hl.step_rows]); exact S) (by rw [Hl.step_rows]; exact step_le i hv S le)
    rw [Hl.step_rows] at this
    exact this
/-- a hall at rest -/
structure AtRest (h : Hl) : Prop where
  inv : Inv h
  idle : ∀ w, w < h.rows.length → h.idle w = true
theorem AtRest.st {h : Hl} (a : AtRest h) {w : Nat} (hw : w < h.rows.length) (h10 : (h.stg w).1 ≠ 10) : h.vain w = true ∧ ((h.stg w).1 = 5 ∨ (h.stg w).1 = 8) := by
  have := a.idle w hw
  unfold Hl.idle at this
  have hv : h.vain w = true := by simpa [h10] using this
  refine ⟨hv, ?_⟩
  unfold Hl.vain at hv
  cases hc : h.cell (h.at_ w) with
  | cnt l s => rw [hc] at hv; simp only [cellVain, Bool.and_eq_true, decide_eq_true_eq] at hv; exact .inl hv.1
  | row b => rw [hc] at hv; simp only [cellVain, Bool.and_eq_true, decide_eq_true_eq] at hv; exact .inr hv.1
theorem AtRest.inn {h : Hl} (a : AtRest h) {w g : Nat} (hw : w < h.rows.length) : h.inn w g ↔ (h.rows.getD w [])[h.dn w]? = some g := by
  have f := a.inv.base.wf
  constructor
  · intro z
    rw [← z.2.2]; exact at_row f hw z.2.1
  · intro z
    have h10 : (h.stg w).1 ≠ 10 := fun y => by
      rcases f.wk w hw with q | q
      · have := lt_of_get z
        have e : (h.row w) = h.rows.getD w [] := rfl
        rw [← e] at this
        walk_at "o"
      · rcases q.2 with q | q | q | q <;> walk_at "o"
    have e := at_row f hw h10
    have e' : (h.rows.getD w [])[h.dn w]? = some (h.at_ w) := e
    rw [z] at e'
    have s := (a.st hw h10).2
    exact ⟨by walk_at "o", h10, (Option.some.inj e').symm⟩
theorem AtRest.cm {h : Hl} (a : AtRest h) {w g : Nat} (hw : w < h.rows.length) : h.cm w g = cmP h.rows h.dn w g := by
  unfold Hl.cm cmP
  by_cases hin : h.inn w g
  · (rw [if_pos hin]; rw [cnt_next ((a.inn hw).mp hin)]); rfl
  · (rw [if_neg hin]; rw [cnt_off fun z => hin ((a.inn hw).mpr z)]); rfl
/-- at a counting gate at rest: all have passed as often -/
theorem AtRest.cnt {h : Hl} (a : AtRest h) {g tl K n : Nat} {left : Int} (c : CI h g tl K n left) (hg : g < h.gates.length) : (∀ u ∈ (h.gate g).2, h.passed u g = K) ∧ left = (h.gate g).2.length - n ∧ n < (h.gate g).2.length := by
  have gl := (a.inv.base.gk g hg).lt
  have p1 : ∀ u ∈ (h.gate g).2, h.passed u g = K := fun u hu => by
    rcases c.ty u hu with z | z | z
    · exact z.2
    · exact z.2.1
    · exfalso
      obtain ⟨z1, z2, z3⟩ := z
      obtain ⟨hv, hs⟩ := a.st (gl u hu) z1.2.1
      have h5 : (h.stg u).1 = 5 := by walk_at "o"
      unfold Hl.vain at hv
      have at_ := z1.2.2
      rw [at_, c.cell] at hv
      simp only [cellVain, Bool.and_eq_true, decide_eq_true_eq] at hv
      have ht : h.time u = K := by unfold Hl.time; rw [at_]; exact z2
      rw [ht] at hv
      exact hv.2 rfl
  refine ⟨p1, ?_⟩
  rcases c.ph with z | ⟨z1, v, hv, z3, _⟩
  · exact ⟨z.1, z.2.1⟩
  · exfalso
    have h10 : (h.stg v).1 ≠ 10 := by walk_at "o"
    have := (a.st (gl v hv) h10).2
    walk_at "o"
theorem AtRest.stuck {h : Hl} (a : AtRest h) : Stuck h.gates h.rows h.dn := by
  have f := a.inv.base.wf
  refine ⟨fun w hw => ?_, fun w g hw hg => ?_⟩
  · rcases f.wk w hw with z | z
    · exact Nat.le_of_eq z.2
    · exact Nat.le_of_lt z.1
  · have hin := (a.inn hw).mpr hg
    have h10 := hin.2.1
    obtain ⟨ha, hm⟩ := f.at_ hw h10
    rw [hin.2.2] at ha hm
    have gk := a.inv.base.gk g ha
    have fin : (∃ u ∈ (h.gate g).2, h.cm u g < h.passed w g + 1) → ∃ u ∈ (h.gates.getD g (0, [])).2, u < h.rows.length ∧ cmP h.rows h.dn u g < cntP h.rows h.dn w g + 1 := fun ⟨u, hu, lt⟩ => ⟨u, hu, gk.lt u hu, by rw [← a.cm (gk.lt u hu)]; exact lt⟩
    refine fin ?_
    rcases gk.word with h0 | h1
    · obtain ⟨tl, K, n, left, c⟩ := a.inv.g0 g ha h0
      obtain ⟨p1, p2, p3⟩ := a.cnt c ha
      rw [c.cnt] at p3
      have : ∃ u ∈ (h.gate g).2, ¬ (h.inn u g ∧ h.passed u g = K) := by
        refine Classical.byContradiction fun z => ?_
        have : (h.gate g).2.countP (fun w => decide (h.inn w g ∧ h.passed w g = K)) = (h.gate g).2.length := List.countP_eq_length.mpr fun u hu => by
          refine decide_eq_true (Classical.byContradiction fun y => z ⟨u, hu, y⟩)
        walk_at "o"
      obtain ⟨u, hu, nu⟩ := this
      have pu := p1 u hu
      have nin : ¬ h.inn u g := fun z => nu ⟨z, pu⟩
      refine ⟨u, hu, ?_⟩
      have pw := p1 w hm
      unfold Hl.cm
      (rw [if_neg nin]; rw [pu]; rw [pw]); walk_at "o"
    · obtain ⟨b, c⟩ := a.inv.g1 g ha h1
      exact (c.rest a.inv.base ha h1 (fun v hv => a.idle v (gk.lt v hv)) hm hin).2
end
end Mini

set_option autoImplicit false
set_option linter.unusedVariables false
namespace Mini
/-- a stage's number is nought where it says nothing -/
noncomputable def Nz (h : Hl) : Prop := ∀ w, w < h.rows.length → (h.stg w).1 = 5 ∨ (h.stg w).1 = 10 → (h.stg w).2 = 0
section
variable {h : Hl}
theorem Nz.step (z : Nz h) (f : WF h) {v : Nat} (hv : v < h.rows.length) : Nz (h.step v) := fun w hw => by
  cases hi : h.idle v with
  | true => rw [step_idle hi] at hw ⊢; exact z w hw
  | false =>
    have S := f.stp hv hi
    have h10 := (idle_not hi).1
    rw [Hl.step_rows] at hw
    rw [S.stg]
    by_cases hvw : v = w
    case neg => rw [if_neg hvw]; exact z w hw
    rw [if_pos hvw]
    unfold Hl.nst
    by_cases h6 : (h.stg v).1 = 6
    · rw [if_pos h6]; split <;> intro _ <;> rfl
    · rw [if_neg h6]
      have ck := f.cell _ (f.at_ hv h10).1
      unfold Hl.cstep
      cases hc : h.cell (h.at_ v) with
      | cnt l s =>
        rw [cs_cnt]
        split
        · split <;> intro _ <;> rfl
        · split
          · intro _; rfl
          · split <;> intro _ <;> rfl
      | row b =>
        rw [cs_row]
        split
        · split <;> intro _ <;> rfl
        · split
          · intro q; exact absurd q (by show ¬ ((8 : Nat) = 5 ∨ (8 : Nat) = 10); decide)
          · split
            · intro _; rfl
            · intro q; exact absurd q (by show ¬ ((7 : Nat) = 5 ∨ (7 : Nat) = 10); decide)
theorem Nz.run (z : Nz h) (f : WF h) {l : List Nat} (hl : ∀ w ∈ l, w < h.rows.length) : Nz (h.run l) := by
  induction l generalizing h with
  | nil => exact z
  | cons v l ih =>
    have hv := hl v (by simp)
    exact ih (z.step f hv) (f.step hv) fun w hw => by rw [Hl.step_rows]; exact hl w (by simp [hw])
theorem HallOk.nz {gates : List (Nat × List Nat)} {rows : List (List Nat)} (k : HallOk gates rows) : Nz (Hl.init gates rows) := fun w hw _ => by
  rw [(init_at (gates := gates) (rows := rows) hw).2]
  unfold initSt
  split <;> rfl
end
/-- two halls at rest, of the same gates and rows, at the same places -/
structure Two (h h' : Hl) : Prop where
  a : AtRest h
  b : AtRest h'
  za : Nz h
  zb : Nz h'
  gts : h'.gates = h.gates
  rws : h'.rows = h.rows
  dn : ∀ w, w < h.rows.length → h'.dn w = h.dn w
section
variable {h h' : Hl}
theorem Two.symm (t : Two h h') : Two h' h := ⟨t.b, t.a, t.zb, t.za, t.gts.symm, t.rws.symm, fun w hw => (t.dn w (by rw [← t.rws]; exact hw)).symm⟩
theorem Two.gate (t : Two h h') (g : Nat) : h'.gate g = h.gate g := by unfold Hl.gate; rw [t.gts]
theorem Two.row (t : Two h h') (w : Nat) : h'.row w = h.row w := by unfold Hl.row; rw [t.rws]
theorem Two.passed (t : Two h h') {w : Nat} (hw : w < h.rows.length) (g : Nat) : h'.passed w g = h.passed w g := by unfold Hl.passed; (rw [t.row]; rw [t.dn w hw])
theorem Two.inn (t : Two h h') {w : Nat} (hw : w < h.rows.length) (g : Nat) : h'.inn w g ↔ h.inn w g := by
  (rw [t.b.inn (by rw [t.rws]; exact hw)]; rw [t.a.inn hw]; rw [t.rws]; rw [t.dn w hw])
/-- nobody is in an earlier round -/
theorem Two.round (t : Two h h') {g : Nat} (hg : g < h.gates.length) (h1 : (h.gate g).1 = 1) : ∀ n w, w ∈ (h.gate g).2 → h.inn w g → (h.stg w).1 = 8 → (h'.stg w).1 = 8 → (h.stg w).2 ≤ n → (h'.stg w).2 ≤ (h.stg w).2
  | n, w, hm, hin, s8, s8', hn => by
    refine Classical.byContradiction fun hlt => ?_
    have f := t.a.inv.base.wf
    have f' := t.b.inv.base.wf
    have gk := t.a.inv.base.gk g hg
    have hw := gk.lt w hm
    have hg' : g < h'.gates.length := by rw [t.gts]; exact hg
    have h1' : (h'.gate g).1 = 1 := by rw [t.gate]; exact h1
    have hm' : w ∈ (h'.gate g).2 := by rw [t.gate]; exact hm
    have hin' := (t.inn hw g).mpr hin
    obtain ⟨b, c⟩ := t.a.inv.g1 g hg h1
    obtain ⟨b', c'⟩ := t.b.inv.g1 g hg' h1'
    have st := f.st hw hin.2.1
    rw [hin.2.2] at st
    have rl : (h.stg w).2 < rnd (h.gate g).2.length := by
      rcases st with z | z | z | z <;> walk_at "o"
    have gm := f.gm g hg
    have pl := pow_lt (h.gate g).2.length (by walk_at "o") _ rl
    have il : (h.gate g).2.idxOf w < (h.gate g).2.length := List.idxOf_lt_length_of_mem hm
    obtain ⟨i, hi, ei⟩ := prev_at (k := 2 ^ (h.stg w).2) il (Nat.le_of_lt pl)
    have hvm : (h.gate g).2[i] ∈ (h.gate g).2 := List.getElem_mem hi
    have iv : (h.gate g).2.idxOf (h.gate g).2[i] = i := by
      refine (List.getElem_inj (h₀ := List.idxOf_lt_length_of_mem hvm) (h₁ := hi) gk.nodup).mp ?_
      exact List.getElem_idxOf _
    generalize (h.gate g).2[i] = v at hvm iv
    have he : ((h.gate g).2.idxOf v + 2 ^ (h.stg w).2) % (h.gate g).2.length = (h.gate g).2.idxOf w := by rw [iv]; exact ei
    have vl := gk.lt v hvm
    -- here it is in vain
    have va := (t.a.st hw hin.2.1).1
    have n1 : ¬ h.passed w g + 1 ≤ h.tl v g (h.stg w).2 := fun z => by
      have := (c.vain t.a.inv.base hg hm hvm hin.2.2 s8 rl he).mpr z
      rw [this] at va; cases va
    -- there it has been heard
    have n2 : h'.passed w g + 1 ≤ h'.tl v g (h.stg w).2 := by
      have := c'.hear v (by rw [t.gate]; exact hvm) w hm' (h.stg w).2 (by rw [t.gate]; exact rl) (by rw [t.gate]; exact he)
      refine Nat.le_trans ?_ this
      unfold Hl.hr
      rw [if_pos ⟨hin', .inr (.inr ⟨s8', by walk_at "o"⟩)⟩]
      exact Nat.le_refl _
    rw [t.passed hw] at n2
    unfold Hl.tl at n1 n2
    rw [t.passed vl] at n2
    have vin' : h'.inn v g ∧ toldR (h'.stg v) (h.stg w).2 := by
      refine Classical.byContradiction fun z => ?_
      rw [if_neg z] at n2
      split at n1 <;> walk_at "o"
    have vin := (t.inn vl g).mp vin'.1
    have nt : ¬ toldR (h.stg v) (h.stg w).2 := fun z => by
      rw [if_pos vin'] at n2
      rw [if_pos ⟨vin, z⟩] at n1
      walk_at "o"
    have sv := (c.rest t.a.inv.base hg h1 (fun u hu => t.a.idle u (gk.lt u hu)) hvm vin).1
    have sv' := (c'.rest t.b.inv.base hg' h1' (fun u hu => t.b.idle u (by rw [t.rws]; exact gk.lt u (by rw [← t.gate g]; exact hu))) (by rw [t.gate]; exact hvm) vin'.1).1
    have lv : (h.stg v).2 < (h.stg w).2 := by
      refine Classical.byContradiction fun z => nt (.inr (.inr ⟨sv, by walk_at "o"⟩))
    have lv' : (h.stg w).2 ≤ (h'.stg v).2 := by
      have := vin'.2
      rcases this with z | z | z <;> walk_at "o"
    cases n with
    | zero => walk_at "o"
    | succ n =>
      have := Two.round t hg h1 n v hvm vin sv sv' (by walk_at "o")
      walk_at "o"
theorem Two.stg (t : Two h h') {w : Nat} (hw : w < h.rows.length) : h'.stg w = h.stg w := by
  have f := t.a.inv.base.wf
  have f' := t.b.inv.base.wf
  have hw' : w < h'.rows.length := by rw [t.rws]; exact hw
  by_cases h10 : (h.stg w).1 = 10
  · have h10' : (h'.stg w).1 = 10 := by
      refine Classical.byContradiction fun z => ?_
      have l := f'.lt hw' z
      rw [t.row, t.dn w hw] at l
      rcases f.wk w hw with y | y
      · walk_at "o"
      · rcases y.2 with y | y | y | y <;> walk_at "o"
    exact Prod.ext (h10'.trans h10.symm) ((t.zb w hw' (.inr h10')).trans (t.za w hw (.inr h10)).symm)
  · obtain ⟨ha, hm⟩ := f.at_ hw h10
    have s := (t.a.st hw h10).2
    have hin : h.inn w (h.at_ w) := ⟨by walk_at "o", h10, rfl⟩
    have hin' := (t.inn hw (h.at_ w)).mpr hin
    have s' := (t.b.st hw' hin'.2.1).2
    have so := f.st hw h10
    have so' := f'.st hw' hin'.2.1
    rw [hin'.2.2, t.gate] at so'
    rcases (t.a.inv.base.gk _ ha).word with h0 | h1
    · have e : (h.stg w).1 = 5 := by rcases so with z | z | z | z <;> walk_at "o"
      have e' : (h'.stg w).1 = 5 := by rcases so' with z | z | z | z <;> walk_at "o"
      exact Prod.ext (e'.trans e.symm) ((t.zb w hw' (.inl e')).trans (t.za w hw (.inl e)).symm)
    · have e : (h.stg w).1 = 8 := by rcases so with z | z | z | z <;> walk_at "o"
      have e' : (h'.stg w).1 = 8 := by rcases so' with z | z | z | z <;> walk_at "o"
      have l1 := t.round ha h1 _ w hm hin e e' (Nat.le_refl _)
      have l2 := t.symm.round (g := h.at_ w) (by rw [t.gts]; exact ha) (by rw [t.gate]; exact h1) _ w (by rw [t.gate]; exact hm) hin' e' e (Nat.le_refl _)
      exact Prod.ext (e'.trans e.symm) (Nat.le_antisymm l1 l2)
theorem ext_getD {α : Type} {l l' : List α} {d : α} (hl : l'.length = l.length) (h : ∀ i, i < l.length → l'.getD i d = l.getD i d) : l' = l := by
  apply List.ext_getElem?
  intro i
  by_cases hi : i < l.length
  · (rw [get_of_lt (d := d) (by rw [hl]; exact hi)]; rw [get_of_lt (d := d) hi]; rw [h i hi])
  · (rw [List.getElem?_eq_none (by walk_at "o")]; rw [List.getElem?_eq_none (by walk_at "o")])
theorem Two.tl (t : Two h h') {w : Nat} (hw : w < h.rows.length) (g r : Nat) : h'.tl w g r = h.tl w g r := by
  unfold Hl.tl
  rw [t.passed hw]
  have e := t.stg hw
  exact congrArg _ (ite_iff ⟨fun z => ⟨(t.inn hw g).mp z.1, e ▸ z.2⟩, fun z => ⟨(t.inn hw g).mpr z.1, e ▸ z.2⟩⟩)
theorem Two.cell (t : Two h h') {g : Nat} (hg : g < h.gates.length) : h'.cell g = h.cell g := by
  have f := t.a.inv.base.wf
  have f' := t.b.inv.base.wf
  have gk := t.a.inv.base.gk g hg
  have hg' : g < h'.gates.length := by rw [t.gts]; exact hg
  rcases gk.word with h0 | h1
  · obtain ⟨tl, K, n, left, c⟩ := t.a.inv.g0 g hg h0
    obtain ⟨tl', K', n', left', c'⟩ := t.b.inv.g0 g hg' (by rw [t.gate]; exact h0)
    obtain ⟨p1, p2, _⟩ := t.a.cnt c hg
    obtain ⟨p1', p2', _⟩ := t.b.cnt c' hg'
    rw [t.gate] at p1' p2'
    obtain ⟨u, hu⟩ := List.exists_mem_of_ne_nil _ gk.some
    have eK : K' = K := by (rw [← p1 u hu]; rw [← p1' u hu]; rw [t.passed (gk.lt u hu)])
    have en : n' = n := by
      (rw [c.cnt]; rw [c'.cnt]; rw [t.gate]; rw [eK])
      refine List.countP_congr fun v hv => ?_
      have vl := gk.lt v hv
      simp only [decide_eq_true_eq]
      (rw [t.passed vl]; rw [t.inn vl g])
    (rw [c.cell]; rw [c'.cell]; rw [p2]; rw [p2']; rw [eK]; rw [en])
  · obtain ⟨b, c⟩ := t.a.inv.g1 g hg h1
    obtain ⟨b', c'⟩ := t.b.inv.g1 g hg' (by rw [t.gate]; exact h1)
    have k := f.cell g hg
    have k' := f'.cell g hg'
    rw [c.cell] at k
    rw [c'.cell, t.gate] at k'
    (rw [c.cell]; rw [c'.cell])
    congr 1
    have gm := f.gm g hg
    refine ext_getD (d := []) (by (rw [k'.2.1]; rw [k.2.1])) fun i hi => ?_
    have li : (b.getD i []).length = 2 * rnd (h.gate g).2.length := k.2.2 _ (List.mem_of_getElem? (get_of_lt hi))
    have li' : (b'.getD i []).length = 2 * rnd (h.gate g).2.length := k'.2.2 _ (List.mem_of_getElem? (get_of_lt (by (rw [k'.2.1]; rw [← k.2.1]); exact hi)))
    rw [k.2.1] at hi
    refine ext_getD (d := 0) (by (rw [li]; rw [li'])) fun j hj => ?_
    rw [li] at hj
    have key : ∀ r q, r < rnd (h.gate g).2.length → q < 2 → (b'.getD i []).getD (if q = 0 then r else rnd (h.gate g).2.length + r) 0 = (b.getD i []).getD (if q = 0 then r else rnd (h.gate g).2.length + r) 0 := fun r q hr hq => by
      have pl := pow_lt (h.gate g).2.length (by walk_at "o") _ hr
      obtain ⟨o, ho, eo⟩ := prev_at (k := 2 ^ r) hi (Nat.le_of_lt pl)
      have hvm : (h.gate g).2[o] ∈ (h.gate g).2 := List.getElem_mem ho
      have iv : (h.gate g).2.idxOf (h.gate g).2[o] = o := by
        refine (List.getElem_inj (h₀ := List.idxOf_lt_length_of_mem hvm) (h₁ := ho) gk.nodup).mp ?_
        exact List.getElem_idxOf _
      generalize (h.gate g).2[o] = v at hvm iv
      have e1 := c.box v hvm r hr q hq
      have e2 := c'.box v (by rw [t.gate]; exact hvm) r (by rw [t.gate]; exact hr) q hq
      rw [t.gate, iv, eo] at e2
      rw [iv, eo] at e1
      (rw [e1]; rw [e2]; rw [t.tl (gk.lt v hvm)])
    by_cases hjr : j < rnd (h.gate g).2.length
    · have := key j 0 hjr (by decide)
      rw [if_pos rfl] at this
      exact this
    · have := key (j - rnd (h.gate g).2.length) 1 (by walk_at "o") (by decide)
      rw [if_neg (by decide), show rnd (h.gate g).2.length + (j - rnd (h.gate g).2.length) = j by walk_at "o"] at this
      exact this
/-- two halls at rest at the same places are the same -/
theorem Two.eq (t : Two h h') : h' = h := by
  have f := t.a.inv.base.wf
  have f' := t.b.inv.base.wf
  have e1 := t.gts
  have e2 := t.rws
  have e3 : h'.done = h.done := ext_getD (d := 0) (by (rw [f.ld]; rw [f'.ld]; rw [t.rws])) fun i hi => t.dn i (by rw [← f.ld]; exact hi)
  have e4 : h'.stages = h.stages := ext_getD (d := (10, 0)) (by (rw [f.ls]; rw [f'.ls]; rw [t.rws])) fun i hi => t.stg (by rw [← f.ls]; exact hi)
  have e5 : h'.cells = h.cells := ext_getD (d := .cnt 0 0) (by (rw [f.lc]; rw [f'.lc]; rw [t.gts])) fun i hi => t.cell (by rw [← f.lc]; exact hi)
  cases h; cases h'
  cases e1; cases e2; cases e3; cases e4; cases e5
  rfl
end
end Mini

set_option autoImplicit false
set_option linter.unusedVariables false
namespace Mini
theorem sum_upd {f f' : Nat → Nat} {w d : Nat} (hd : f' w = f w + d) (he : ∀ v, v ≠ w → f' v = f v) : ∀ {n : Nat}, w < n → ((List.range n).map f').sum = ((List.range n).map f).sum + d
  | 0, h => absurd h (Nat.not_lt_zero _)
  | n + 1, h => by
    (rw [List.range_succ]; rw [List.map_append]; rw [List.map_append]; rw [List.sum_append]; rw [List.sum_append])
    simp only [List.map_cons, List.map_nil, List.sum_cons, List.sum_nil, Nat.add_zero]
    by_cases e : w = n
    · subst e
      have : (List.range w).map f' = (List.range w).map f := List.map_congr_left fun v hv => he v (by have := List.mem_range.mp hv; walk_at "o")
      (rw [this]; rw [hd]); walk_at "o"
    · (rw [sum_upd hd he (n := n) (by walk_at "o")]; rw [he n (Ne.symm e)]); walk_at "o"
noncomputable def cost (g : Nat × List Nat) : Nat := if g.1 = 0 then 3 else 2 * rnd g.2.length + 2
noncomputable def sc (g : Nat × List Nat) (st : Nat × Nat) : Nat :=
  if g.1 = 0 then (if st.1 = 3 ∨ st.1 = 5 then 1 else if st.1 = 4 ∨ st.1 = 6 then 2 else 0)
  else if st.1 = 7 then 2 * st.2 + 1 else if st.1 = 8 then 2 * st.2 + 2 else if st.1 = 6 then 2 * rnd g.2.length + 1 else 0
noncomputable def Hl.pw (h : Hl) (w : Nat) : Nat := (((h.row w).take (h.dn w)).map fun g => cost (h.gate g)).sum + sc (h.gate (h.at_ w)) (h.stg w)
/-- how many steps of a run did something -/
noncomputable def Hl.eff (h : Hl) : List Nat → Nat
  | [] => 0
  | w :: l => (if h.idle w then 0 else 1) + (h.step w).eff l
theorem eff_app : ∀ {l l' : List Nat} {h : Hl}, h.eff (l ++ l') = h.eff l + (h.run l).eff l'
  | [], l', h => (Nat.zero_add _).symm
  | w :: l, l', h => by
    show _ + (h.step w).eff (l ++ l') = _ + (h.step w).eff l + _
    (rw [eff_app]; rw [Nat.add_assoc]); rfl
section
variable {h : Hl} {w : Nat}
theorem sc_come {g : Nat × List Nat} {st : Nat × Nat} (h : st.1 = 2 ∨ st.1 = 10) : sc g st = 0 := by
  unfold sc
  rcases h with h | h <;> rw [h] <;> split <;> rfl
theorem pw_step (f : WF h) (hw : w < h.rows.length) (hi : h.idle w = false) : (h.step w).pw w = h.pw w + if (h.stg w).1 = 4 then 0 else 1 := by
  have S := f.stp hw hi
  have h10 := (idle_not hi).1
  have hv := (idle_not hi).2
  obtain ⟨ha, hm⟩ := f.at_ hw h10
  have st := f.st hw h10
  have ck := f.cell _ ha
  have eg : ∀ g, (h.step w).gate g = h.gate g := fun g => S.gate
  have er : (h.step w).row w = h.row w := S.row
  have ec : (fun g => cost ((h.step w).gate g)) = fun g => cost (h.gate g) := funext fun g => by rw [eg]
  unfold Hl.pw
  (rw [er]; rw [ec]; rw [S.dn]; rw [S.stg]; rw [if_pos rfl]; rw [if_pos rfl]; rw [eg])
  by_cases h6 : (h.stg w).1 = 6
  · (rw [if_pos h6]; rw [if_neg (by walk_at "o")]; rw [take_snoc (at_row f hw h10)]; rw [List.map_append]; rw [List.sum_append])
    have e1 : h.nst w = (10, 0) ∨ h.nst w = (2, 0) := by
      unfold Hl.nst; rw [if_pos h6]; split
      · exact .inl rfl
      · exact .inr rfl
    have e2 : ∀ g, sc g (h.nst w) = 0 := fun g => sc_come (by rcases e1 with e | e <;> rw [e] <;> simp)
    rw [e2]
    have e3 : sc (h.gate (h.at_ w)) (h.stg w) + 1 = cost (h.gate (h.at_ w)) := by
      unfold sc cost
      rw [h6]
      split <;> simp
    simp only [List.map_cons, List.map_nil, List.sum_cons, List.sum_nil]
    walk_at "o"
  · rw [if_neg h6]
    have ea : (h.step w).at_ w = h.at_ w := by unfold Hl.at_; (rw [er]; rw [S.dn]; rw [if_pos rfl]; rw [if_neg h6])
    (rw [ea]; rw [Nat.add_assoc])
    congr 1
    unfold Hl.nst
    rw [if_neg h6]
    unfold Hl.cstep
    cases hc : h.cell (h.at_ w) with
    | cnt l s =>
      rw [hc] at ck
      have g0 : (h.gate (h.at_ w)).1 = 0 := ck
      rw [cs_cnt]
      unfold sc
      (rw [if_pos g0]; rw [if_pos g0])
      rcases (show (h.stg w).1 = 2 ∨ (h.stg w).1 = 3 ∨ (h.stg w).1 = 4 ∨ (h.stg w).1 = 5 by rcases st with z | z | z | z <;> walk_at "o") with z | z | z | z
      · (rw [z]; rw [if_pos rfl])
        by_cases q : l - 1 = 0
        · rw [if_pos q]; rfl
        · rw [if_neg q]; rfl
      · rw [z]; rfl
      · rw [z]; rfl
      · rw [z]; rfl
    | row b =>
      rw [hc] at ck
      have g1 : (h.gate (h.at_ w)).1 = 1 := ck.1
      have g0 : ¬ (h.gate (h.at_ w)).1 = 0 := by walk_at "o"
      have e : (cellStep (h.gate (h.at_ w)) w (h.time w) (h.stg w) (.row b)).2 = if (h.stg w).1 = 2 then (if 0 = rnd (h.gate (h.at_ w)).2.length then (6, 0) else (7, 0)) else if (h.stg w).1 = 7 then (8, (h.stg w).2) else if (h.stg w).2 + 1 = rnd (h.gate (h.at_ w)).2.length then (6, 0) else (7, (h.stg w).2 + 1) := by
        rw [cs_row]
        split
        · rfl
        · split <;> rfl
      rw [e]
      rcases (show (h.stg w).1 = 2 ∨ (h.stg w).1 = 7 ∨ (h.stg w).1 = 8 by rcases st with z | z | z | z <;> walk_at "o") with z | z | z
      · rw [if_pos z]
        by_cases q : 0 = rnd (h.gate (h.at_ w)).2.length
        · rw [if_pos q]; unfold sc; (rw [if_neg g0]; rw [if_neg g0]; rw [z]; rw [← q]); rfl
        · rw [if_neg q]; unfold sc; (rw [if_neg g0]; rw [if_neg g0]; rw [z]); rfl
      · (rw [if_neg (by walk_at "o")]; rw [if_pos z]); unfold sc; (rw [if_neg g0]; rw [if_neg g0]; rw [z]); rfl
      · (rw [if_neg (by walk_at "o")]; rw [if_neg (by walk_at "o")])
        by_cases q : (h.stg w).2 + 1 = rnd (h.gate (h.at_ w)).2.length
        · rw [if_pos q]; unfold sc; (rw [if_neg g0]; rw [if_neg g0]; rw [z]; rw [← q]); rfl
        · rw [if_neg q]; unfold sc; (rw [if_neg g0]; rw [if_neg g0]; rw [z]); rfl
theorem pw_other (f : WF h) (hw : w < h.rows.length) (hi : h.idle w = false) {v : Nat} (hv : v ≠ w) : (h.step w).pw v = h.pw v := by
  have S := f.stp hw hi
  have e1 : (h.step w).dn v = h.dn v := by (rw [S.dn]; rw [if_neg (Ne.symm hv)])
  have e2 : (h.step w).at_ v = h.at_ v := by unfold Hl.at_; (rw [S.row]; rw [e1])
  have ec : (fun g => cost ((h.step w).gate g)) = fun g => cost (h.gate g) := funext fun g => by rw [S.gate]
  unfold Hl.pw
  (rw [S.row]; rw [ec]; rw [e1]; rw [e2]; rw [S.gate]; rw [S.stg]; rw [if_neg (Ne.symm hv)])
/-- the steps done, by the walkers' places and the turns of the gates that count -/
structure Cs (h : Hl) (n : Nat) (K : Nat → Nat) : Prop where
  ci : ∀ g, g < h.gates.length → (h.gate g).1 = 0 → ∃ tl k left, CI h g tl (K g) k left
  eq : n = ((List.range h.rows.length).map h.pw).sum + ((List.range h.gates.length).map fun g => if (h.gate g).1 = 0 then K g else 0).sum
theorem Cs.step {n : Nat} {K : Nat → Nat} (c : Cs h n K) (i : Inv h) (hw : w < h.rows.length) : ∃ K, Cs (h.step w) (n + if h.idle w then 0 else 1) K := by
  cases hi : h.idle w with
  | true => rw [step_idle hi]; exact ⟨K, c⟩
  | false =>
    have f := i.base.wf
    have h10 := (idle_not hi).1
    obtain ⟨ha, hm⟩ := f.at_ hw h10
    have st := f.st hw h10
    have eg : ∀ g, (h.step w).gate g = h.gate g := fun g => by unfold Hl.gate; rw [Hl.step_gates]
    refine ⟨fun g => K g + if (h.stg w).1 = 4 ∧ h.at_ w = g then 1 else 0, fun g hg h0 => ?_, ?_⟩
    · rw [Hl.step_gates] at hg
      rw [eg] at h0
      obtain ⟨tl, k, left, q⟩ := c.ci g hg h0
      obtain ⟨k', left', q'⟩ := q.stepK i.base hg h0 hw hi
      exact ⟨_, k', left', q'⟩
    · have s1 := sum_upd (pw_step f hw hi) (fun v hv => pw_other f hw hi hv) hw
      have s2 : ((List.range h.gates.length).map fun g => if (h.gate g).1 = 0 then K g + (if (h.stg w).1 = 4 ∧ h.at_ w = g then 1 else 0) else 0).sum = ((List.range h.gates.length).map fun g => if (h.gate g).1 = 0 then K g else 0).sum + if (h.stg w).1 = 4 then 1 else 0 := by
        refine sum_upd (w := h.at_ w) ?_ (fun v hv => ?_) ha
        · by_cases h4 : (h.stg w).1 = 4
          · have h0 : (h.gate (h.at_ w)).1 = 0 := by rcases st with z | z | z | z <;> walk_at "o"
            (rw [if_pos h0]; rw [if_pos h0]; rw [if_pos ⟨h4, rfl⟩]; rw [if_pos h4])
          · (rw [if_neg (c := (h.stg w).1 = 4 ∧ h.at_ w = h.at_ w) fun z => h4 z.1]; rw [if_neg h4]); rfl
        · rw [if_neg (c := (h.stg w).1 = 4 ∧ h.at_ w = v) fun z => hv z.2.symm]; rfl
      have e3 : (fun g => if ((h.step w).gate g).1 = 0 then K g + (if (h.stg w).1 = 4 ∧ h.at_ w = g then 1 else 0) else 0) = fun g => if (h.gate g).1 = 0 then K g + (if (h.stg w).1 = 4 ∧ h.at_ w = g then 1 else 0) else 0 := funext fun g => by rw [eg]
      (rw [Hl.step_rows]; rw [Hl.step_gates]; rw [e3]; rw [s1]; rw [s2]; rw [c.eq])
      by_cases h4 : (h.stg w).1 = 4
      · (rw [if_pos h4]; rw [if_pos h4]; rw [if_neg (by decide)]); walk_at "o"
      · (rw [if_neg h4]; rw [if_neg h4]; rw [if_neg (by decide)]); walk_at "o"
theorem Cs.run : ∀ {l : List Nat} {h : Hl} {n : Nat} {K : Nat → Nat}, Cs h n K → Inv h → (∀ w ∈ l, w < h.rows.length) → ∃ K, Cs (h.run l) (n + h.eff l) K
  | [], h, n, K, c, i, hl => ⟨K, c⟩
  | w :: l, h, n, K, c, i, hl => by
    obtain ⟨K', c'⟩ := c.step i (hl w (by simp))
    obtain ⟨K2, c2⟩ := Cs.run (l := l) c' (i.step (hl w (by simp))) fun v hv => by rw [Hl.step_rows]; exact hl v (by simp [hv])
    exact ⟨K2, by rw [show n + h.eff (w :: l) = n + (if h.idle w then 0 else 1) + (h.step w).eff l from (Nat.add_assoc _ _ _).symm]; exact c2⟩
theorem HallOk.cs {gates : List (Nat × List Nat)} {rows : List (List Nat)} (k : HallOk gates rows) : Cs (Hl.init gates rows) 0 fun _ => 0 := by
  refine ⟨fun g hg h0 => ⟨_, _, _, CI.init k hg h0⟩, ?_⟩
  have e1 : ((List.range rows.length).map (Hl.init gates rows).pw) = (List.range rows.length).map fun _ => 0 := List.map_congr_left fun w hw => by
    have hw := List.mem_range.mp hw
    obtain ⟨a1, a2⟩ := init_at (gates := gates) hw
    unfold Hl.pw
    (rw [a1]; rw [a2])
    have : ∀ g, sc g (initSt ((Hl.init gates rows).row w)) = 0 := fun g => sc_come (by unfold initSt; split <;> simp)
    rw [this]; rfl
  have e2 : ((List.range (Hl.init gates rows).gates.length).map fun g => if ((Hl.init gates rows).gate g).1 = 0 then 0 else 0) = (List.range (Hl.init gates rows).gates.length).map fun _ => 0 := List.map_congr_left fun g _ => by split <;> rfl
  have z : ∀ n : Nat, ((List.range n).map fun _ => 0).sum = 0 := fun n => by (rw [List.map_const']; rw [List.sum_replicate_nat]); simp
  (rw [e2]; rw [z]; rw [show (Hl.init gates rows).rows.length = rows.length from rfl]; rw [e1]; rw [z])
/-- two ways to the same hall at rest take as many steps -/
theorem Cs.same {n n' : Nat} {K K' : Nat → Nat} (a : AtRest h) (c : Cs h n K) (c' : Cs h n' K') : n = n' := by
  (rw [c.eq]; rw [c'.eq])
  congr 2
  refine List.map_congr_left fun g hg => ?_
  have hg := List.mem_range.mp hg
  by_cases h0 : (h.gate g).1 = 0
  · (rw [if_pos h0]; rw [if_pos h0])
    obtain ⟨_, _, _, q⟩ := c.ci g hg h0
    obtain ⟨_, _, _, q'⟩ := c'.ci g hg h0
    obtain ⟨u, hu⟩ := List.exists_mem_of_ne_nil _ (a.inv.base.gk g hg).some
    (rw [← (a.cnt q hg).1 u hu]; rw [(a.cnt q' hg).1 u hu])
  · (rw [if_neg h0]; rw [if_neg h0])
end
end Mini

set_option autoImplicit false
set_option linter.unusedVariables false
namespace Mini
section
variable {gates : List (Nat × List Nat)} {rows : List (List Nat)} {P Q : Nat → Nat}
/-- all members of a gate are at it -/
noncomputable def There (gates : List (Nat × List Nat)) (rows : List (List Nat)) (P : Nat → Nat) (g : Nat) : Prop := ∀ u ∈ (gates.getD g (0, [])).2, (rows.getD u [])[P u]? = some g
noncomputable def fire (gates : List (Nat × List Nat)) (P : Nat → Nat) (g : Nat) : Nat → Nat := fun u => if u ∈ (gates.getD g (0, [])).2 then P u + 1 else P u
/-- places that can be got to by letting gates through, all members at once -/
structure Grd (gates : List (Nat × List Nat)) (rows : List (List Nat)) (P : Nat → Nat) : Prop where
  le : ∀ w, w < rows.length → P w ≤ (rows.getD w []).length
  lk : ∀ g u v, g < gates.length → u ∈ (gates.getD g (0, [])).2 → v ∈ (gates.getD g (0, [])).2 → cntP rows P u g = cntP rows P v g
  bel : ∀ Q, Stuck gates rows Q → ∀ w, w < rows.length → P w ≤ Q w
theorem Grd.init : Grd gates rows fun _ => 0 := ⟨fun _ _ => Nat.zero_le _, fun _ _ _ _ _ _ => rfl, fun _ _ _ _ => Nat.zero_le _⟩
theorem mem_lt (ok : HallOk gates rows) {g u : Nat} (hu : u ∈ (gates.getD g (0, [])).2) : u < rows.length := by
  by_cases hg : g < gates.length
  · exact (ok.gate _ (List.mem_of_getElem? (get_of_lt hg))).lt u hu
  · rw [List.getD_eq_getElem?_getD, List.getElem?_eq_none (by walk_at "o")] at hu
    cases hu
theorem Grd.fire (ok : HallOk gates rows) (G : Grd gates rows P) {g : Nat} (hg : g < gates.length) (th : There gates rows P g) : Grd gates rows (fire gates P g) := by
  have cn : ∀ u g', cntP rows (Mini.fire gates P g) u g' = cntP rows P u g' + if u ∈ (gates.getD g (0, [])).2 ∧ g = g' then 1 else 0 := fun u g' => by
    unfold cntP Mini.fire
    by_cases hu : u ∈ (gates.getD g (0, [])).2
    · (rw [if_pos hu]; rw [take_snoc (th u hu)]; rw [List.count_append]; rw [List.count_singleton])
      by_cases e : g = g'
      · (rw [if_pos (c := u ∈ (gates.getD g (0, [])).2 ∧ g = g') ⟨hu, e⟩]; rw [if_pos (by simpa using e)])
      · (rw [if_neg (c := u ∈ (gates.getD g (0, [])).2 ∧ g = g') fun z => e z.2]; rw [if_neg (by simpa using e)])
    · (rw [if_neg hu]; rw [if_neg fun z => hu z.1]); rfl
  refine ⟨fun w hw => ?_, fun g' u v hg' hu hv => ?_, fun Q S w hw => ?_⟩
  · unfold Mini.fire
    split
    · rename_i hu; exact lt_of_get (th w hu)
    · exact G.le w hw
  · (rw [cn]; rw [cn]; rw [G.lk g' u v hg' hu hv])
    by_cases e : g = g'
    · subst e; (rw [if_pos ⟨hu, rfl⟩]; rw [if_pos ⟨hv, rfl⟩])
    · (rw [if_neg fun z => e z.2]; rw [if_neg fun z => e z.2])
  · unfold Mini.fire
    have l1 := G.bel Q S w hw
    split
    case isFalse => exact l1
    rename_i hm
    rcases Nat.lt_or_ge (P w) (Q w) with l2 | l2
    · exact l2
    have eq : Q w = P w := by walk_at "o"
    obtain ⟨u, hu, ul, lt⟩ := S.at_ w g hw (by rw [eq]; exact th w hm)
    have c1 : cmP rows P u g = cntP rows P u g + 1 := cnt_next (th u hu)
    have c2 : cmP rows P u g ≤ cmP rows Q u g := count_le (by have := G.bel Q S u ul; walk_at "o")
    have c3 := G.lk g u w hg hu hm
    have c4 : cntP rows Q w g = cntP rows P w g := by unfold cntP; rw [eq]
    walk_at "o"
/-- where no gate lets anybody through nobody can go on -/
theorem Grd.stuck (ok : HallOk gates rows) (G : Grd gates rows P) (no : ∀ g, g < gates.length → ¬ There gates rows P g) : Stuck gates rows P := by
  refine ⟨G.le, fun w g hw hg => ?_⟩
  have rk := (ok.row w (rows.getD w []) (get_of_lt hw)).lt g (List.mem_of_getElem? hg)
  refine Classical.byContradiction fun z => no g rk.1 fun u hu => ?_
  refine Classical.byContradiction fun y => z ⟨u, hu, mem_lt ok hu, ?_⟩
  have c1 : cmP rows P u g = cntP rows P u g := cnt_off y
  have c2 := G.lk g u w rk.1 hu rk.2
  walk_at "o"
/-- such places are one -/
theorem Grd.uniq {P' : Nat → Nat} (G : Grd gates rows P) (S : Stuck gates rows P) (G' : Grd gates rows P') (S' : Stuck gates rows P') {w : Nat} (hw : w < rows.length) : P w = P' w := Nat.le_antisymm (G.bel P' S' w hw) (G'.bel P S w hw)
/-- and a hall at rest is there -/
theorem rest_at {h : Hl} {l : List Nat} (ok : HallOk gates rows) (hl : ∀ w ∈ l, w < rows.length) (e : h = (Hl.init gates rows).run l) (a : AtRest h) (G : Grd gates rows P) (S : Stuck gates rows P) {w : Nat} (hw : w < rows.length) : h.dn w = P w := by
  have r1 : h.rows = rows := by (rw [e]; rw [Hl.run_rows]); rfl
  have g1 : h.gates = gates := by (rw [e]; rw [Hl.run_gates]); rfl
  have st := a.stuck
  rw [r1, g1] at st
  refine Nat.le_antisymm ?_ (G.bel _ st w hw)
  rw [e]
  exact run_le ok.inv hl S (fun v hv => by rw [(init_at (gates := gates) (rows := rows) hv).1]; exact Nat.zero_le _) w hw
theorem Stuck.kinds {gates' : List (Nat × List Nat)} (e : ∀ g, (gates'.getD g (0, [])).2 = (gates.getD g (0, [])).2) (S : Stuck gates rows P) : Stuck gates' rows P := ⟨S.le, fun w g hw hg => by rw [e]; exact S.at_ w g hw hg⟩
theorem Grd.kinds {gates' : List (Nat × List Nat)} (e : ∀ g, (gates'.getD g (0, [])).2 = (gates.getD g (0, [])).2) (el : gates'.length = gates.length) (G : Grd gates rows P) : Grd gates' rows P :=
  ⟨G.le, fun g u v hg hu hv => G.lk g u v (by rw [← el]; exact hg) (by rw [← e]; exact hu) (by rw [← e]; exact hv), fun Q S => G.bel Q (S.kinds fun g => (e g).symm)⟩
end
/-- what rests after all have gone as far as they can -/
theorem rest_idle : ∀ (n : Nat) {h : Hl}, WF h → h.mu ≤ n → ∀ w, w < h.rows.length → (h.run h.rest).idle w = true
  | n, h, f, hn => by
    have e := f.rest_eq
    by_cases hb : h.busy h.rows.length = []
    · rw [if_pos hb] at e
      rw [e]
      exact fun w hw => Hl.busy_nil hb w hw
    · rw [if_neg hb] at e
      have mb := f.mu_busy (k := h.rows.length) (Nat.le_refl _)
      have hp := List.length_pos_iff.mpr hb
      cases n with
      | zero => walk_at "o"
      | succ n =>
        have := rest_idle n (h := h.run (h.busy h.rows.length)) (f.run fun w hw => Hl.busy_lt w hw) (by walk_at "o")
        rw [Hl.run_rows] at this
        (rw [e]; rw [Hl.run_app])
        exact this
theorem rest_lt {h : Hl} : ∀ w ∈ h.rest, w < h.rows.length := fun w hw => by
  obtain ⟨i, hi, rfl⟩ := List.getElem_of_mem hw
  exact (Hl.restN_ni (List.getElem?_eq_getElem hi)).1
theorem rest_len : ∀ (n : Nat) {h : Hl}, WF h → h.mu ≤ n → h.rest.length ≤ h.mu
  | n, h, f, hn => by
    have e := f.rest_eq
    by_cases hb : h.busy h.rows.length = []
    · rw [if_pos hb] at e
      rw [e]
      exact Nat.zero_le _
    · rw [if_neg hb] at e
      have mb := f.mu_busy (k := h.rows.length) (Nat.le_refl _)
      have hp := List.length_pos_iff.mpr hb
      cases n with
      | zero => walk_at "o"
      | succ n =>
        have := rest_len n (h := h.run (h.busy h.rows.length)) (f.run fun w hw => Hl.busy_lt w hw) (by walk_at "o")
        (rw [e]; rw [List.length_append])
        walk_at "o"
end Mini

set_option autoImplicit false
set_option linter.unusedVariables false


namespace Mini
noncomputable def gMissing (ix : Ix) : Fn := ⟨2, 8, [
  .unpack [2, 3] (.call ix.ahead [(.var 0), (.var 1)]),
  .ite (.cmp .inn (.var 3) (.tup [(.str 2), (.str 10)])) [
    .ret (.disp [])] [],
  .set 4 (.call ix.came [(.var 0), (.var 1), (.var 2)]),
  .ret (.compIf (.var 5) 5 (.list (.idx (.idx (.attr (.var 0) 0) (.var 2)) (.int (1)))) (.cmp .lt (.call ix.came [(.var 0), (.var 5), (.var 2)]) (.var 4)))]⟩
/-- how often a walker has come to a gate -/
noncomputable def Hl.came (h : Hl) (w t : Nat) : Nat := h.passed w t + if (h.stg w).1 ≠ 2 ∧ (h.stg w).1 ≠ 10 ∧ h.at_ w = t then 1 else 0
/-- who has come less often to the gate within which a walker is -/
noncomputable def Hl.missing (h : Hl) (w : Nat) : List Nat := if (h.stg w).1 = 2 ∨ (h.stg w).1 = 10 then [] else (h.gate (h.at_ w)).2.filter fun u => decide (h.came u (h.at_ w) < h.came w (h.at_ w))
theorem c_inT {σ : H} {Q : P} {a b c : Nat} (h : Q (.bool (decide (a = b ∨ a = c))) σ) : cmpop .inn (.str a) (.tup [.str b, .str c]) σ Q := ⟨.str a, [.str b, .str c], rfl, rfl, fun q hq => by
  have : q = decide (a = b ∨ a = c) := by
    (rw [Bool.eq_iff_iff]; rw [hq]); simp
  rw [this]; exact h⟩
theorem filter_take {α : Type} {l : List α} {i : Nat} {u : α} {p : α → Bool} (h : l[i]? = some u) : (l.take (i + 1)).filter p = if p u then (l.take i).filter p ++ [u] else (l.take i).filter p := by
  (rw [take_snoc h]; rw [List.filter_append]; rw [List.filter_cons])
  split
  · rfl
  · (rw [List.filter_nil]; rw [List.append_nil])
section
variable {Φ : Nat → Option Fn} {n : Nat} {σ : H} {Q : P} {x : X} {g r d s c : Nat} {h : Hl}
theorem w_missing (F : HF ix Φ) (FC : Φ ix.came = some (gCame ix)) {mi w : Nat} (FM : Φ mi = some (gMissing ix)) (q : Rep' σ g r d s c h) (f : WF h) (gl : ∀ t, t < h.gates.length → ∀ u ∈ (h.gate t).2, u < h.rows.length) (hw : w < h.rows.length) (hQ : ∀ σ' a, Ex σ σ' → σ.length ≤ a → σ'[a]? = some ((h.missing w).map nv) → Q (.ref a) σ') : callW Φ (n + 4) mi [.inst [.ref g, .ref r, .ref d, .ref s, .ref c], .int w] σ Q x := by
  refine ⟨_, FM, rfl, ?_⟩
  unfold gMissing
  (try dsimp only [start, List.map, List.replicate, List.cons_append, List.nil_append, Nat.reduceSub])
  with_reducible (refine s_unpack ?_; refine x_callA (by with_unfolding_all rfl) ?_)
  unfold Hl.missing at hQ
  refine w_ahead F q hw f.ld f.ls (by
    by_cases z : (h.stg w).1 = 10
    · exact .inl z
    · exact .inr (f.lt hw z)) (fun z => ?_) fun z => ?_
  · rw [if_pos (.inr z)] at hQ
    (with_reducible (refine s_unK (by with_unfolding_all rfl) ?_; refine s_if1 ?_; refine t_cmp ?_; refine x_atom (by with_unfolding_all rfl) ?_; refine x_tupA (by with_unfolding_all rfl) ?_); dsimp only [put])
    refine c_inT ?_
    with_reducible (refine k_tru ?_)
    refine k_pos (.inr rfl) ?_
    with_reducible (refine s_ret ?_; refine x_dispA (by with_unfolding_all rfl) (by with_unfolding_all rfl) ?_)
    exact hQ _ _ Ex.one (Nat.le_refl _) last_get
  · obtain ⟨ha, hm⟩ := f.at_ hw z
    (with_reducible (refine s_unK (by with_unfolding_all rfl) ?_; refine s_if1 ?_; refine t_cmp ?_; refine x_atom (by with_unfolding_all rfl) ?_; refine x_tupA (by with_unfolding_all rfl) ?_); dsimp only [put])
    refine c_inT ?_
    with_reducible (refine k_tru ?_)
    refine k_dec (fun h2 => ?_) fun h2 => ?_
    · rw [if_pos h2] at hQ
      with_reducible (refine s_ret ?_; refine x_dispA (by with_unfolding_all rfl) (by with_unfolding_all rfl) ?_)
      exact hQ _ _ Ex.one (Nat.le_refl _) last_get
    · rw [if_neg h2] at hQ
      (with_reducible (refine s_set ?_; refine x_callA (by with_unfolding_all rfl) ?_); dsimp only [put])
      refine w_came F FC ⟨_, _, _, _, _, rfl, q⟩ f ha hw fun σ1 e1 => ?_
      (with_reducible (refine s_ret ?_; refine x_compIf ?_; refine r_list ?_; refine x_idx ?_; refine x_idx ?_; refine x_attrF (by with_unfolding_all rfl) (by with_unfolding_all rfl) ?_; refine x_atom (by with_unfolding_all rfl) ?_); dsimp only [put])
      obtain ⟨gv, ma, g1, g2, g3, g4⟩ := (q.ex e1).gate ha
      refine x_item g1 g3 ?_
      with_reducible (refine x_atom (by with_unfolding_all rfl) ?_; refine x_t1 ?_)
      refine r_lsK g4 ?_
      have m12 := f.gm _ ha
      refine compIf_rule (fun i acc σ' => Mini.Cj2 (Ex σ1 σ') (acc = (((h.gate (h.at_ w)).2.take i).filter fun u => decide (h.came u (h.at_ w) < h.came w (h.at_ w))).map nv)) (by rw [List.length_map]; simp [lim]; walk_at "o") ⟨Ex.refl, rfl⟩ ?_ ?_
      · rintro i v acc σ2 Kt Kf hv ⟨e2, rfl⟩ h1 h2
        refine ⟨e2.get g4, ?_⟩
        obtain ⟨u, hu, rfl⟩ := nv_get hv
        have ul : u < h.rows.length := gl _ ha u (List.mem_of_getElem? hu)
        with_reducible (refine t_cmp ?_; refine x_callA (by with_unfolding_all rfl) ?_)
        refine w_came F FC ⟨_, _, _, _, _, rfl, (q.ex e1).ex e2⟩ f ha ul fun σ3 e3 => ?_
        with_reducible (refine x_atom (by with_unfolding_all rfl) ?_; refine c_lt ?_; refine k_tru ?_)
        have ft := filter_take (p := fun u => decide (h.came u (h.at_ w) < h.came w (h.at_ w))) hu
        refine k_dec (fun z => ?_) fun z => ?_
        · rw [if_pos (decide_eq_true (by unfold Hl.came; walk_at "o"))] at ft
          with_reducible (refine x_atom (by with_unfolding_all rfl) ?_)
          refine h1 _ _ ⟨e2.trans e3, ?_⟩
          (rw [ft]; rw [List.map_append]); rfl
        · rw [if_neg (by rw [decide_eq_true_eq]; unfold Hl.came; walk_at "o")] at ft
          refine h2 _ ⟨e2.trans e3, ?_⟩
          rw [ft]
      · rintro acc σ2 ⟨e2, rfl⟩
        refine ⟨e2.get g4, ?_⟩
        refine hQ _ _ (e1.trans (e2.trans Ex.one)) (e1.trans e2).len ?_
        (rw [List.length_map]; rw [List.take_length])
        exact last_get
end
/-- a value is data: none of the lists that it holds is in B -/
inductive Dt (B : Nat → Prop) (σ : H) : Nat → V → D → Prop
  | none (n : Nat) : Dt B σ n .none .none
  | bool (n : Nat) (b : Bool) : Dt B σ n (.bool b) (.int (if b then 1 else 0))
  | int (n : Nat) (i : Int) : Dt B σ n (.int i) (.int i)
  | str (n : Nat) (k : Nat) : Dt B σ n (.str k) (.str k)
  | tup (n : Nat) (xs : List V) (ds : List D) : xs.length = ds.length → (∀ (i : Nat) (x : V) (d : D), xs[i]? = some x → ds[i]? = some d → Dt B σ n x d) → Dt B σ (n + 1) (.tup xs) (.tup ds)
  | list (n a : Nat) (xs : List V) (ds : List D) : ¬ B a → σ[a]? = some xs → xs.length = ds.length → (∀ (i : Nat) (x : V) (d : D), xs[i]? = some x → ds[i]? = some d → Dt B σ n x d) → Dt B σ (n + 1) (.ref a) (.list ds)
theorem mapO_eq {α β : Type} {f : α → Option β} : ∀ {xs : List α} {ys : List β}, xs.length = ys.length → (∀ (i : Nat) (x : α) (y : β), xs[i]? = some x → ys[i]? = some y → f x = some y) → mapO f xs = some ys
  | [], [], _, _ => rfl
  | [], _ :: _, h, _ => by simp at h
  | _ :: _, [], h, _ => by simp at h
  | x :: xs, y :: ys, h, k => by
    have e1 := k 0 x y rfl rfl
    have e2 := mapO_eq (f := f) (xs := xs) (ys := ys) (by simpa using h) fun i a b p q => k (i + 1) a b (by simpa using p) (by simpa using q)
    unfold mapO
    (rw [e1]; rw [e2])
section
variable {B B' : Nat → Prop} {σ σ' : H} {n : Nat} {v : V} {d : D}
theorem Dt.snap (h : Dt B σ n v d) : snap n σ v = some d := by
  induction h with
  | none n => cases n <;> rfl
  | bool n b => cases n <;> rfl
  | int n i => cases n <;> rfl
  | str n k => cases n <;> rfl
  | tup n xs ds hl _ ih =>
    show (mapO (Mini.snap n σ) xs).map D.tup = _
    rw [mapO_eq hl ih]; rfl
  | list n a xs ds _ hx hl _ ih =>
    show (match σ[a]? with | some xs => (mapO (Mini.snap n σ) xs).map D.list | .none => .none) = _
    rw [hx]
    show (mapO (Mini.snap n σ) xs).map D.list = _
    rw [mapO_eq hl ih]; rfl
theorem Dt.to (h : Dt B σ n v d) (k : ∀ (a : Nat) (xs : List V), ¬ B a → σ[a]? = some xs → ¬ B' a ∧ σ'[a]? = some xs) : Dt B' σ' n v d := by
  induction h with
  | none n => exact .none n
  | bool n b => exact .bool n b
  | int n i => exact .int n i
  | str n k => exact .str n k
  | tup n xs ds hl _ ih => exact .tup n xs ds hl ih
  | list n a xs ds nb hx hl _ ih => exact .list n a xs ds (k a xs nb hx).1 (k a xs nb hx).2 hl ih
theorem Dt.ag (h : Dt B σ n v d) (e : Ag B σ σ') : Dt B σ' n v d := h.to fun a xs nb hx => ⟨nb, e.2 a xs nb hx⟩
theorem Dt.ex (h : Dt B σ n v d) (e : Ex σ σ') : Dt B σ' n v d := h.ag e.ag
theorem Dt.more (h : Dt B σ n v d) (q : ∀ a, B' a → B a ∨ σ.length ≤ a) : Dt B' σ n v d := h.to fun a xs nb hx => ⟨fun z => (q a z).elim nb fun y => Nat.lt_irrefl _ (Nat.lt_of_lt_of_le (lt_of_get hx) y), hx⟩
theorem Dt.ints {a : Nat} {l : List Nat} (nb : ¬ B a) (hx : σ[a]? = some (l.map nv)) : Dt B σ (n + 1) (.ref a) (.list (l.map fun i : Nat => D.int i)) :=
  .list n a _ _ nb hx (by (rw [List.length_map]; rw [List.length_map])) fun i x d p q => by
    rw [List.getElem?_map, Option.map_eq_some_iff] at p q
    obtain ⟨p1, p2, rfl⟩ := p
    obtain ⟨q1, q2, rfl⟩ := q
    rw [p2] at q2; cases q2; exact .int _ _
theorem Dt.intL {a : Nat} {l : List Int} (nb : ¬ B a) (hx : σ[a]? = some (l.map V.int)) : Dt B σ (n + 1) (.ref a) (.list (l.map D.int)) :=
  .list n a _ _ nb hx (by (rw [List.length_map]; rw [List.length_map])) fun i x d p q => by
    rw [List.getElem?_map, Option.map_eq_some_iff] at p q
    obtain ⟨p1, p2, rfl⟩ := p
    obtain ⟨q1, q2, rfl⟩ := q
    rw [p2] at q2; cases q2; exact .int _ _
noncomputable def cellD : Cell → D
  | .cnt l s => .list [.int l, .int s]
  | .row b => .list (b.map fun r => .list (r.map D.int))
theorem Dt.cell : ∀ {c : Cell} {f : List Nat}, CellR σ v c f → (∀ a ∈ f, ¬ B a) → Dt B σ (n + 2) v (cellD c)
  | .cnt l s, f, ⟨a, h1, h2, h3⟩, nb => by
    subst h1
    exact .list (n + 1) a _ _ (nb a (by rw [h2]; simp)) h3 rfl fun i x d p q => by
      rcases i with _ | _ | i
      · cases p; cases q; exact .int _ _
      · cases p; cases q; exact .int _ _
      · simp at p
  | .row b, f, ⟨a, as, h1, h2, h3, h4⟩, nb => by
    subst h1
    refine .list (n + 1) a _ _ (nb a (by rw [h2]; simp)) h3 (by (rw [List.length_map]; rw [List.length_map]); exact h4.len) fun i x d p q => ?_
    rw [List.getElem?_map, Option.map_eq_some_iff] at p q
    obtain ⟨p1, p2, rfl⟩ := p
    obtain ⟨q1, q2, rfl⟩ := q
    exact Dt.intL (nb p1 (by rw [h2]; exact List.mem_cons_of_mem _ (List.mem_of_getElem? p2))) (h4.at_ p2 q2)
/-- a told step as data -/
noncomputable def Hl.toldD (h : Hl) (w : Nat) : D := if (h.stg w).1 = 10 then .tup [.int w, .none, .str 10] else .tup [.int w, .int (h.at_ w), .str (h.wd w)]
noncomputable def Hl.tellsD (h : Hl) : List Nat → List D
  | [] => []
  | w :: l => h.toldD w :: (h.step w).tellsD l
theorem c_eqD {a b : V} {Q : P} (h1 : Dt B σ 12 a d) (h2 : Dt B' σ 12 b d) (h : Q (.bool true) σ) : cmpop .eq a b σ Q := ⟨d, d, h1.snap, h2.snap, fun c hc => by
  have : c = true := hc.mpr rfl
  rw [this]; exact h⟩
theorem c_neD {a b : V} {Q : P} (h1 : Dt B σ 12 a d) (h2 : Dt B' σ 12 b d) (h : Q (.bool false) σ) : cmpop .ne a b σ Q := ⟨d, d, h1.snap, h2.snap, fun c hc => by
  have : c = false := by
    cases c with
    | false => rfl
    | true => exact absurd rfl (hc.mp rfl)
  rw [this]; exact h⟩
theorem Ag.toEx (e : Ag B σ σ') (q : ∀ a, B a → σ.length ≤ a) : Ex σ σ' := by
  refine ⟨σ'.drop σ.length, ?_⟩
  have h : σ'.take σ.length = σ := by
    apply List.ext_getElem?
    intro i
    by_cases hi : i < σ.length
    · rw [List.getElem?_take_of_lt hi]
      have := e.2 i σ[i] (fun z => Nat.lt_irrefl _ (Nat.lt_of_lt_of_le hi (q i z))) (List.getElem?_eq_getElem hi)
      (rw [this]; rw [List.getElem?_eq_getElem hi])
    · (rw [List.getElem?_eq_none (by rw [List.length_take]; walk_at "o")]; rw [List.getElem?_eq_none (by walk_at "o")])
  conv => lhs; (rw [← List.take_append_drop σ.length σ']; rw [h])
end
end Mini

set_option autoImplicit false
set_option linter.unusedVariables false


namespace Mini
noncomputable def f25 : Fn := ⟨4, 8, [
  .for [4] (.list (.var 0)) [
    .ite (.or (.cmp .eq (.idx (.var 3) (.var 4)) (.b1 .len (.idx (.var 2) (.var 4)))) (.cmp .ne (.idx (.idx (.var 2) (.var 4)) (.idx (.var 3) (.var 4))) (.var 1))) [
      .ret (.bool false)] []],
  .ret (.bool true)]⟩
noncomputable def f26 : Fn := ⟨2, 10, [
  .expr (.call 7 [(.var 0), (.var 1)]),
  .set 2 (.bin .mul (.disp [(.int (0))]) (.b1 .len (.var 1))),
  .set 3 (.bool true),
  .while (.var 3) [
    .set 3 (.bool false),
    .for [4, 5] (.enum (.var 0)) [
      .ite (.call 25 [(.idx (.var 5) (.int (1))), (.var 4), (.var 1), (.var 2)]) [
        .set 3 (.bool true),
        .for [6] (.list (.idx (.var 5) (.int (1)))) [
          .put (.var 2) (.var 6) (.bin .add (.idx (.var 2) (.var 6)) (.int (1)))]] []]],
  .ret (.var 2)]⟩
noncomputable def f28 : Fn := ⟨1, 8, [
  .set 1 (.disp []),
  .for [2] (.range (.b1 .len (.attr (.var 0) 1))) [
    .ite (.not (.call 20 [(.var 0), (.var 2)])) [
      .raise 0] [],
    .ite (.cmp .ne (.idx (.call 15 [(.var 0), (.var 2)]) (.int (1))) (.str 10)) [
      .expr (.m1 .append (.var 1) (.var 2))] []],
  .set 3 (.upto (.var 1) (.int (1))),
  .while (.cmp .ne (.var 3) (.disp [])) [
    .set 4 (.call 27 [(.var 0), (.idx (.var 3) (.neg (.int (1))))]),
    .ite (.or (.cmp .eq (.var 4) (.disp [])) (.cmp .inn (.idx (.var 4) (.int (0))) (.var 3))) [
      .ret (.var 3)] [],
    .expr (.m1 .append (.var 3) (.idx (.var 4) (.int (0))))],
  .ret (.var 3)]⟩
noncomputable def f41 : Fn := ⟨4, 8, [
  .for [4] (.list (.var 0)) [
    .ite (.or (.cmp .eq (.idx (.var 3) (.var 4)) (.b1 .len (.idx (.var 2) (.var 4)))) (.cmp .ne (.idx (.idx (.var 2) (.var 4)) (.idx (.var 3) (.var 4))) (.var 1))) [
      .ret (.bool false)] []],
  .ret (.bool true)]⟩
noncomputable def f42 : Fn := ⟨2, 10, [
  .set 2 (.bin .mul (.disp [(.int (0))]) (.b1 .len (.var 1))),
  .set 3 (.bool true),
  .while (.var 3) [
    .set 3 (.bool false),
    .for [4] (.range (.b1 .len (.var 0))) [
      .set 5 (.bin .sub (.bin .sub (.b1 .len (.var 0)) (.int (1))) (.var 4)),
      .ite (.call 41 [(.idx (.idx (.var 0) (.var 5)) (.int (1))), (.var 5), (.var 1), (.var 2)]) [
        .set 3 (.bool true),
        .for [6] (.list (.idx (.idx (.var 0) (.var 5)) (.int (1)))) [
          .put (.var 2) (.var 6) (.bin .add (.idx (.var 2) (.var 6)) (.int (1)))]] []]],
  .ret (.var 2)]⟩
noncomputable def f43 : Fn := ⟨1, 11, [
  .set 1 (.bin .add (.int (3)) (.bin .mod (.bin .fdiv (.var 0) (.int (20))) (.int (10)))),
  .set 2 (.bin .add (.int (1)) (.bin .mod (.var 0) (.int (20)))),
  .set 3 (.disp []),
  .set 4 (.disp []),
  .for [5] (.range (.var 1)) [
    .expr (.m1 .append (.var 4) (.disp []))],
  .for [6] (.range (.bin .sub (.var 1) (.int (1)))) [
    .set 7 (.var 6),
    .ite (.cmp .eq (.bin .mod (.bin .fdiv (.var 0) (.int (200))) (.int (2))) (.int (1))) [
      .set 7 (.bin .sub (.bin .sub (.var 1) (.int (2))) (.var 6))] [],
    .expr (.m1 .append (.var 3) (.tup [(.idx (.disp [(.str 0), (.str 1)]) (.bin .mod (.call 33 [(.var 0), (.var 6)]) (.int (2)))), (.disp [(.var 7), (.bin .add (.var 7) (.int (1)))])]))],
  .for [6] (.range (.bin .sub (.var 1) (.int (1)))) [
    .for [5] (.list (.idx (.idx (.var 3) (.var 6)) (.int (1)))) [
      .put (.var 4) (.var 5) (.bin .add (.idx (.var 4) (.var 5)) (.bin .mul (.disp [(.var 6)]) (.var 2)))]],
  .ret (.disp [(.var 3), (.var 4)])]⟩
noncomputable def f44 : Fn := ⟨3, 9, [
  .set 3 (.disp [(.b1 .list (.call 28 [(.var 0)]))]),
  .for [4] (.range (.var 1)) [
    .expr (.m1 .append (.var 3) (.disp [(.call 15 [(.var 0), (.var 4)]), (.b1 .list (.call 27 [(.var 0), (.var 4)]))])),
    .for [5] (.range (.var 2)) [
      .expr (.m1 .append (.var 3) (.disp [(.call 13 [(.var 0), (.var 4), (.var 5)]), (.call 12 [(.var 0), (.var 4), (.var 5)])]))]],
  .for [5] (.range (.var 2)) [
    .expr (.m1 .append (.var 3) (.call 14 [(.var 0), (.var 5)]))],
  .ret (.var 3)]⟩
noncomputable def f45 : Fn := ⟨3, 11, [
  .set 3 (.call 29 [(.call 7 [(.var 0), (.var 1)]), (.b1 .list (.var 2))]),
  .set 4 (.call 30 [(.idx (.var 3) (.int (0)))]),
  .set 5 (.int (0)),
  .set 6 (.bin .mul (.disp [(.int (0))]) (.b1 .len (.var 1))),
  .for [7] (.list (.bin .add (.idx (.var 3) (.int (1))) (.idx (.var 4) (.int (1))))) [
    .ite (.and (.cmp .ne (.idx (.var 7) (.int (2))) (.str 9)) (.cmp .ne (.idx (.var 7) (.int (2))) (.str 10))) [
      .set 5 (.bin .add (.var 5) (.int (1)))] [],
    .ite (.cmp .eq (.idx (.var 7) (.int (2))) (.str 6)) [
      .put (.var 6) (.idx (.var 7) (.int (0))) (.bin .add (.idx (.var 6) (.idx (.var 7) (.int (0)))) (.int (1)))] []],
  .ret (.disp [(.var 5), (.var 6), (.call 44 [(.idx (.var 4) (.int (0))), (.b1 .len (.var 1)), (.b1 .len (.var 0))])])]⟩
noncomputable def f46 : Fn := ⟨2, 8, [
  .set 2 (.disp []),
  .for [3] (.range (.b1 .len (.var 0))) [
    .set 4 (.idx (.idx (.var 0) (.var 3)) (.int (0))),
    .ite (.or (.cmp .eq (.bin .mod (.var 1) (.int (2))) (.int (1))) (.cmp .eq (.bin .mod (.call 33 [(.var 1), (.var 3)]) (.int (2))) (.int (1)))) [
      .set 4 (.idx (.disp [(.str 0), (.str 1)]) (.b1 .intOf (.cmp .eq (.var 4) (.str 0))))] [],
    .expr (.m1 .append (.var 2) (.tup [(.var 4), (.b1 .list (.idx (.idx (.var 0) (.var 3)) (.int (1))))]))],
  .ret (.var 2)]⟩
structure F11 (Φ : Nat → Option Fn) : Prop where
  h : HF ix Φ
  r : RF ix rx Φ
  d : DG dx Φ
  came : Φ 13 = some (gCame ix)
  boxes : Φ 14 = some (gBoxes ix)
  there : Φ 25 = some f25
  foretold : Φ 26 = some f26
  missing : Φ 27 = some (gMissing ix)
  chain : Φ 28 = some f28
  whole : Φ 32 = some gWhole
  lthere : Φ 41 = some f25
  due : Φ 42 = some f42
  line : Φ 43 = some f43
  answers : Φ 44 = some f44
  run : Φ 45 = some f45
  kinds : Φ 46 = some f46
/-- a list of places -/
noncomputable def PL (σ : H) (a R : Nat) (P : Nat → Nat) : Prop := σ[a]? = some ((List.range R).map fun w => nv (P w))
theorem rg_get {α : Type} {f : Nat → α} {k i : Nat} (h : i < k) : ((List.range k).map f)[i]? = some (f i) := by
  (rw [List.getElem?_map]; rw [List.getElem?_range h]); rfl
theorem rg_set {α : Type} {f : Nat → α} {k i : Nat} {x : α} : ((List.range k).map f).set i x = (List.range k).map fun w => if w = i then x else f w := by
  apply List.ext_getElem?
  intro j
  by_cases hj : j < k
  · by_cases e : i = j
    · subst e
      (rw [List.getElem?_set_self (by simpa using hj)]; rw [rg_get hj]; rw [if_pos rfl])
    · (rw [List.getElem?_set_ne e]; rw [rg_get hj]; rw [rg_get hj]; rw [if_neg (Ne.symm e)])
  · (rw [List.getElem?_eq_none (by simp; walk_at "o")]; rw [List.getElem?_eq_none (by simp; walk_at "o")])
noncomputable def rem (rows : List (List Nat)) (P : Nat → Nat) : Nat := ((List.range rows.length).map fun w => (rows.getD w []).length - P w).sum
theorem sum_le_of {f f' : Nat → Nat} (h : ∀ v, f' v ≤ f v) : ∀ {n : Nat}, ((List.range n).map f').sum ≤ ((List.range n).map f).sum
  | 0 => Nat.le_refl _
  | n + 1 => by
    (rw [List.range_succ]; rw [List.map_append]; rw [List.map_append]; rw [List.sum_append]; rw [List.sum_append])
    simp only [List.map_cons, List.map_nil, List.sum_cons, List.sum_nil, Nat.add_zero]
    have := sum_le_of h (n := n)
    have := h n
    walk_at "o"
theorem sum_lt_of {f f' : Nat → Nat} (h : ∀ v, f' v ≤ f v) {w : Nat} (hlt : f' w < f w) : ∀ {n : Nat}, w < n → ((List.range n).map f').sum < ((List.range n).map f).sum
  | 0, hw => absurd hw (Nat.not_lt_zero _)
  | n + 1, hw => by
    (rw [List.range_succ]; rw [List.map_append]; rw [List.map_append]; rw [List.sum_append]; rw [List.sum_append])
    simp only [List.map_cons, List.map_nil, List.sum_cons, List.sum_nil, Nat.add_zero]
    have l1 := sum_le_of h (n := n)
    have l2 := h n
    by_cases e : w = n
    · subst e; walk_at "o"
    · have := sum_lt_of h hlt (n := n) (by walk_at "o")
      walk_at "o"
theorem rem_fire {gates : List (Nat × List Nat)} {rows : List (List Nat)} {P : Nat → Nat} (ok : HallOk gates rows) {g : Nat} (hg : g < gates.length) (th : There gates rows P g) : rem rows (fire gates P g) < rem rows P := by
  obtain ⟨u, hu⟩ := List.exists_mem_of_ne_nil _ (ok.gate _ (List.mem_of_getElem? (get_of_lt (d := (0, [])) hg))).some
  refine sum_lt_of (w := u) (fun v => ?_) ?_ (mem_lt ok hu)
  · unfold fire; split <;> walk_at "o"
  · unfold fire; rw [if_pos hu]
    have := lt_of_get (th u hu)
    walk_at "o"
section
variable {Φ : Nat → Option Fn} {n : Nat} {σ σ₀ σ' : H} {Q : P} {x : X} {ga ra pa ma : Nat} {gates : List (Nat × List Nat)} {rows : List (List Nat)} {T : Nat → Nat}
theorem w_there {f : Nat} (F : Φ f = some f25) {rv : List V} {ms : List Nat} {g : Nat} (hm : σ[ma]? = some (ms.map nv)) (hr : σ[ra]? = some rv) (ar : A2 (RowR σ.length σ) rv rows) (hp : PL σ pa rows.length T) (ml : ∀ u ∈ ms, u < rows.length ∧ T u ≤ (rows.getD u []).length)
    (hT : (∀ u ∈ ms, (rows.getD u [])[T u]? = some g) → Q (.bool true) σ) (hF : ¬ (∀ u ∈ ms, (rows.getD u [])[T u]? = some g) → Q (.bool false) σ) : callW Φ (n + 1) f [.ref ma, .int g, .ref ra, .ref pa] σ Q x := by
  refine ⟨_, F, rfl, ?_⟩
  unfold f25
  (try dsimp only [start, List.map, List.replicate, List.cons_append, List.nil_append, Nat.reduceSub])
  with_reducible (refine s_for ?_; refine r_listA (by with_unfolding_all rfl) ?_)
  refine r_lsK hm ?_
  refine forL_rule (fun i m σ' => Mini.Cj3 (σ' = σ) ((∀ u ∈ ms.take i, (rows.getD u [])[T u]? = some g)) (∃ u4, m = [some (.ref ma), some (.int g), some (.ref ra), some (.ref pa), u4, none, none, none])) ⟨rfl, nofun, _, rfl⟩ ?_ ?_
  · rintro i v m σx K hv ⟨hσ, al, u4, rfl⟩ hK
    rw [hσ]
    clear hσ
    refine ⟨hm, _, rfl, ?_⟩
    obtain ⟨u, hu, rfl⟩ := nv_get hv
    have hum := List.mem_of_getElem? hu
    obtain ⟨ul, pl⟩ := ml u hum
    obtain ⟨rw_, hr1, ro, rfl, _, hro⟩ : ∃ y, rv[u]? = some y ∧ ∃ ro, y = .ref ro ∧ True ∧ σ[ro]? = some ((rows.getD u []).map nv) := by
      obtain ⟨y, h1, a, h2, h3, h4⟩ := ar.right (get_of_lt (d := []) ul)
      exact ⟨y, h1, a, h2, trivial, h4⟩
    (with_reducible (refine s_if1 ?_; refine t_or ?_; refine t_cmp ?_; refine x_idxA (by with_unfolding_all rfl) (by with_unfolding_all rfl) ?_); dsimp only [put])
    refine x_item hp (rg_get ul) ?_
    with_reducible (refine x_b1 ?_; refine x_idxA (by with_unfolding_all rfl) (by with_unfolding_all rfl) ?_)
    refine x_item hr hr1 ?_
    refine b_lenE hro (by rw [List.length_map]) ?_
    refine e_eq ?_
    refine k_dec (fun z => ?_) fun z => ?_
    · with_reducible (refine k_yes ?_; refine s_retA (by with_unfolding_all rfl) ?_)
      refine hF fun q => ?_
      have := lt_of_get (q u hum)
      have z : (T u : Int) = ((rows.getD u []).length : Int) := z
      walk_at "o"
    · have hlt : T u < (rows.getD u []).length := by
        have z : ¬ (T u : Int) = ((rows.getD u []).length : Int) := z
        walk_at "o"
      with_reducible (refine t_cmp ?_; refine x_idx ?_; refine x_idxA (by with_unfolding_all rfl) (by with_unfolding_all rfl) ?_)
      refine x_item hr hr1 ?_
      with_reducible (refine x_idxA (by with_unfolding_all rfl) (by with_unfolding_all rfl) ?_)
      refine x_item hp (rg_get ul) ?_
      refine x_item hro (get_nv (get_of_lt (d := 0) hlt)) ?_
      with_reducible (refine x_atom (by with_unfolding_all rfl) ?_)
      refine e_ne ?_
      refine k_dec (fun y => ?_) fun y => ?_
      · with_reducible (refine s_retA (by with_unfolding_all rfl) ?_)
        refine hF fun q => y ?_
        have := q u hum
        rw [get_of_lt (d := 0) hlt] at this
        rw [Option.some.inj this]
      · with_reducible (refine s_nil ?_)
        refine hK _ _ ⟨rfl, fun w hw => ?_, _, rfl⟩
        rw [take_snoc hu] at hw
        rcases List.mem_append.mp hw with hw | hw
        · exact al w hw
        · (rw [List.mem_singleton.mp hw]; rw [get_of_lt (d := 0) hlt])
          exact congrArg some (by walk_at "o")
  · rintro m σx ⟨hσ, al, u4, rfl⟩
    rw [hσ]
    clear hσ
    refine ⟨hm, ?_⟩
    rw [List.length_map, List.take_length] at al
    with_reducible (refine s_retA (by with_unfolding_all rfl) ?_)
    exact hT al
/-- all members go on by one -/
theorem w_on {c : Cal} {m : M} {N : M → H → Prop} {R' : P} {y : Nat} {ms : List Nat} (hm : σ[ma]? = some (ms.map nv)) (nd : ms.Nodup) {R : Nat} (hp : PL σ pa R T) (ne : pa ≠ ma) (p0 : pa ≠ 0) (ml : ∀ u ∈ ms, u < R) (I : M → Prop) (h0 : I m) (hI : ∀ m v, I m → I (put m y v) ∧ get (put m y v) 2 = some (.ref pa) ∧ get (put m y v) y = some v)
    (hN : ∀ σ' m', I m' → σ'.length = σ.length → (∀ a xs, a ≠ pa → σ[a]? = some xs → σ'[a]? = some xs) → PL σ' pa R (fun w => if w ∈ ms then T w + 1 else T w) → N m' σ') :
    forL (fun m σ K => WSs c [.put (.var 2) (.var y) (.bin .add (.idx (.var 2) (.var y)) (.int (1)))] x m σ K R') [y] (fun σ => σ[ma]? = some (ms.map nv)) N (ms.map nv) m σ := by
  refine forL_rule (fun i m' σ' => Mini.Cj4 (I m') (σ'.length = σ.length) ((∀ a xs, a ≠ pa → σ[a]? = some xs → σ'[a]? = some xs)) (PL σ' pa R (fun w => if w ∈ ms.take i then T w + 1 else T w))) ⟨h0, rfl, fun _ _ _ h => h, hp⟩ ?_ ?_
  · rintro i v m' σ1 K hv ⟨im, l1, k1, p1⟩ hK
    refine ⟨k1 _ _ (Ne.symm ne) hm, _, rfl, ?_⟩
    obtain ⟨u, hu, rfl⟩ := nv_get hv
    obtain ⟨i1, i2, i3⟩ := hI m' (.int u) im
    have ul := ml u (List.mem_of_getElem? hu)
    have nu : u ∉ ms.take i := fun z => by
      obtain ⟨j, hj, e⟩ := List.getElem_of_mem z
      rw [List.length_take] at hj
      have ej : ms[j]? = some u := by (rw [← e]; rw [List.getElem_take]); exact List.getElem?_eq_getElem _
      have := (List.getElem_inj nd).mp ((List.getElem?_eq_some_iff.mp ej).2.trans (List.getElem?_eq_some_iff.mp hu).2.symm)
      walk_at "o"
    refine s_put (x_bin (x_idx (x_atom i2 (x_atom i3 ?_))))
    refine x_item (v := .int (T u)) p1 ((rg_get ul).trans (by show some (nv (if u ∈ ms.take i then T u + 1 else T u)) = _; rw [if_neg nu]; rfl)) ?_
    refine x_atom rfl (b_add ?_)
    refine x_atom i2 (x_atom i3 ?_)
    refine s_puK p0 p1 (by walk_at "o") (by simp; walk_at "o") (s_nil ?_)
    refine hK _ _ ⟨i1, by rw [List.length_set]; exact l1, fun a xs na ha => get_set_ne (Ne.symm na) (k1 a xs na ha), ?_⟩
    unfold PL
    (rw [get_set_eq (lt_of_get p1)]; rw [Int.toNat_natCast]; rw [rg_set]; rw [take_snoc hu])
    congr 1
    refine List.map_congr_left fun w hw => ?_
    dsimp only
    by_cases e : w = u
    · subst e; (rw [if_pos rfl]; rw [if_pos (by simp)]); rfl
    · rw [if_neg e]
      by_cases q : w ∈ ms.take i
      · (rw [if_pos q]; rw [if_pos (by simp [q])])
      · (rw [if_neg q]; rw [if_neg (by simp [q, e])])
  · rintro m' σ1 ⟨im, l1, k1, p1⟩
    refine ⟨k1 _ _ (Ne.symm ne) hm, ?_⟩
    rw [List.length_map, List.take_length] at p1
    exact hN _ _ im l1 k1 p1
end
end Mini

set_option autoImplicit false
set_option linter.unusedVariables false


namespace Mini
/-- how far the gates have let them through -/
structure Fs (σ₀ σ : H) (pa : Nat) (gates : List (Nat × List Nat)) (rows : List (List Nat)) (T : Nat → Nat) : Prop where
  ex : Ex σ₀ σ
  pl : PL σ pa rows.length T
  G : Grd gates rows T
section
variable {Φ : Nat → Option Fn} {n : Nat} {σ σ₀ σ' : H} {Q : P} {x : X} {ga ra pa ma : Nat} {gates : List (Nat × List Nat)} {rows : List (List Nat)} {T : Nat → Nat}
theorem Fs.fire (s : Fs σ₀ σ pa gates rows T) (hpa : σ₀.length ≤ pa) (ok : HallOk gates rows) {g : Nat} (hg : g < gates.length) (th : There gates rows T g) (l : σ'.length = σ.length) (k : ∀ a xs, a ≠ pa → σ[a]? = some xs → σ'[a]? = some xs) (p : PL σ' pa rows.length (fun w => if w ∈ (gates.getD g (0, [])).2 then T w + 1 else T w)) : Fs σ₀ σ' pa gates rows (fire gates T g) := by
  refine ⟨?_, p, s.G.fire ok hg th⟩
  have a : Ag (· = pa) σ₀ σ' := ⟨by rw [l]; exact s.ex.len, fun a xs na ha => k a xs na (s.ex.get ha)⟩
  exact a.toEx fun a z => by walk_at "o"
/-- the gates that a turn has looked at -/
structure Tn (σ₀ σ : H) (pa : Nat) (gates : List (Nat × List Nat)) (rows : List (List Nat)) (k0 : Nat) (vis : Nat → Prop) (T : Nat → Nat) (mv : Bool) : Prop where
  s : Fs σ₀ σ pa gates rows T
  le : rem rows T ≤ k0
  lt : mv = true → rem rows T < k0
  no : mv = false → ∀ g, vis g → ¬ There gates rows T g
theorem b_rep0 {a k : Nat} (hx : σ[a]? = some [.int 0]) (hk : k ≤ 100) (h : Q (.ref σ.length) (σ ++ [(List.range k).map fun _ => nv 0])) : binop .mul (.ref a) (.int k) σ Q := by
  refine b_rep (i := 0) hx hk ?_
  have : (List.replicate k (0 : Int)).map V.int = (List.range k).map fun _ => nv 0 := by
    (rw [List.map_replicate]; rw [List.map_const']; rw [List.length_range]); rfl
  rw [this]; exact h
theorem w_foretold (F : F11 Φ) (d : Drawn σ ga ra gates rows) (h0 : 0 < σ.length) (hQ : ∀ σ' a T, Ex σ σ' → σ.length ≤ a → PL σ' a rows.length T → Grd gates rows T → Stuck gates rows T → Q (.ref a) σ') : callW Φ (n + 5) 26 [.ref ga, .ref ra] σ Q x := by
  refine ⟨_, F.foretold, rfl, ?_⟩
  unfold f26
  (try dsimp only [start, List.map, List.replicate, List.cons_append, List.nil_append, Nat.reduceSub])
  with_reducible (refine s_expr ?_; refine x_callA (by with_unfolding_all rfl) ?_)
  obtain ⟨⟨gv, h3, h4⟩, ⟨rv, h5, h6⟩, ok⟩ := d
  have r2 := ok.r2
  refine w_begun F.h h3 h4 h5 h6 ok fun σ1 g r d s c e1 _ => ?_
  (with_reducible (refine s_set ?_; refine x_bin ?_; refine x_dispA (by with_unfolding_all rfl) (by with_unfolding_all rfl) ?_; refine x_b1A (by with_unfolding_all rfl) ?_); dsimp only [put])
  have e2 : Ex σ1 (σ1 ++ [[V.int 0]]) := Ex.one
  have e12 := e1.trans e2
  refine b_lenE (e12.get h5) (by rw [h6.len]) ?_
  refine b_rep0 last_get (by walk_at "o") ?_
  (with_reducible (refine s_setA (by with_unfolding_all rfl) ?_; refine s_while ?_); dsimp only [put])
  have e3 : Ex (σ1 ++ [[V.int 0]]) (σ1 ++ [[V.int 0]] ++ [(List.range rows.length).map fun _ => nv 0]) := Ex.one
  have p3 : PL (σ1 ++ [[V.int 0]] ++ [(List.range rows.length).map fun _ => nv 0]) (σ1 ++ [[V.int 0]]).length rows.length (fun _ => 0) := last_get
  have e13 := e12.trans e3
  have hpa := e12.len
  generalize σ1 ++ [[V.int 0]] ++ [(List.range rows.length).map fun _ => nv 0] = σ3 at e13 p3
  generalize (σ1 ++ [[V.int 0]]).length = pa at p3 hpa
  clear e12 e2 e1 e3
  refine while_rule (fun k m σ' => Mini.Ek5 fun T mv u4 u5 u6 => Mini.Cj4 (Fs σ σ' pa gates rows T) ((mv = false → Stuck gates rows T)) (k = rem rows T + (if mv then 1 else 0)) (m = [some (.ref ga), some (.ref ra), some (.ref pa), some (.bool mv), u4, u5, u6, none, none, none])) (k := rem rows (fun _ => 0) + 1) ⟨_, true, _, _, _, ⟨e13, p3, Grd.init⟩, nofun, rfl, rfl⟩ ?_
  rintro k m σ4 K ⟨T, mv, u4, u5, u6, s4, st, rfl, rfl⟩ hK
  with_reducible (refine t_var (by with_unfolding_all rfl) ?_; refine k_tru ?_)
  cases mv with
  | false =>
    refine k_no ?_
    with_reducible (refine s_retA (by with_unfolding_all rfl) ?_)
    exact hQ _ _ _ s4.ex hpa s4.pl s4.G (st rfl)
  | true =>
    refine k_yes ?_
    (with_reducible (refine s_setA (by with_unfolding_all rfl) ?_; refine s_for ?_; refine r_enum ?_; refine x_atom (by with_unfolding_all rfl) ?_); dsimp only [put])
    refine r_enK (s4.ex.get h3) ?_
    refine forL_rule (fun i m σ' => Mini.Ek5 fun T' mv u4 u5 u6 => Mini.Cj2 (Tn σ σ' pa gates rows (rem rows T) (· < i) T' mv) (m = [some (.ref ga), some (.ref ra), some (.ref pa), some (.bool mv), u4, u5, u6, none, none, none])) ⟨T, false, _, _, _, ⟨s4, Nat.le_refl _, nofun, fun _ g hg => absurd hg (Nat.not_lt_zero _)⟩, rfl⟩ ?_ ?_
    · rintro i v m σ5 K' hv ⟨T', mv, u4, u5, u6, t, rfl⟩ hK'
      refine ⟨t.s.ex.get h3, ?_⟩
      obtain ⟨u, hu, rfl⟩ := enum_get hv
      rw [Nat.zero_add]
      refine ⟨_, rfl, ?_⟩
      obtain ⟨gt, hg, ma, rfl, mal, hma⟩ := h4.left hu
      have hgl := lt_of_get hg
      have eg : gates.getD i (0, []) = gt := getD_of hg
      have gk := ok.gate gt (List.mem_of_getElem? hg)
      have hma5 := t.s.ex.get hma
      (with_reducible (refine s_if1 ?_; refine t_call ?_; refine l_cons ?_; refine x_idxA (by with_unfolding_all rfl) (by with_unfolding_all rfl) ?_; refine x_t1 ?_; refine l_atoms (by with_unfolding_all rfl) ?_); dsimp only [put])
      refine w_there F.there hma5 (t.s.ex.get h5) (h6.mono fun _ _ k => k.ex t.s.ex t.s.ex.len) t.s.pl (fun w hw => ⟨gk.lt w hw, t.s.G.le w (gk.lt w hw)⟩) (fun th => ?_) fun nth => ?_
      · (with_reducible (refine k_tru ?_; refine k_yes ?_; refine s_setA (by with_unfolding_all rfl) ?_; refine s_for ?_; refine r_list ?_; refine x_idxA (by with_unfolding_all rfl) (by with_unfolding_all rfl) ?_; refine x_t1 ?_); dsimp only [put])
        refine r_lsK hma5 ?_
        have th' : There gates rows T' i := fun w hw => th w (by rw [← eg]; exact hw)
        refine w_on hma5 gk.nodup t.s.pl (by walk_at "o") (by walk_at "o") gk.lt (fun m => ∃ u6, m = [some (.ref ga), some (.ref ra), some (.ref pa), some (.bool true), some (.int i), some (.tup [.str gt.1, .ref ma]), u6, none, none, none]) ⟨_, rfl⟩ (fun m v hm => by obtain ⟨u6, rfl⟩ := hm; exact ⟨⟨_, rfl⟩, rfl, rfl⟩) fun σ6 m' hm' l6 k6 p6 => ?_
        obtain ⟨u6', rfl⟩ := hm'
        rw [← eg] at p6
        have s6 := t.s.fire hpa ok hgl th' l6 k6 p6
        have rf := rem_fire ok hgl th'
        have tl := t.le
        with_reducible (refine s_nil ?_; refine s_nil ?_)
        exact hK' _ _ ⟨_, true, _, _, _, ⟨s6, by walk_at "o", fun _ => by walk_at "o", nofun⟩, rfl⟩
      · with_reducible (refine k_tru ?_; refine k_no ?_; refine s_nil ?_)
        refine hK' _ _ ⟨T', mv, _, _, _, ⟨t.s, t.le, t.lt, fun z g hg => ?_⟩, rfl⟩
        rcases Nat.lt_or_ge g i with q | q
        · exact t.no z g q
        · obtain rfl : g = i := by walk_at "o"
          exact fun th => nth fun w hw => th w (by rw [eg]; exact hw)
    · rintro m σ5 ⟨T', mv, u4, u5, u6, t, rfl⟩
      refine ⟨t.s.ex.get h3, ?_⟩
      rw [enum_len, h4.len] at t
      have tl := t.le
      refine hK (rem rows T' + (if mv then 1 else 0)) _ _ ?_ ⟨T', mv, _, _, _, t.s, fun z => t.s.G.stuck ok fun g hg => t.no z g hg, rfl, rfl⟩
      show _ < rem rows T + 1
      cases mv with
      | false => rw [if_neg (by decide)]; walk_at "o"
      | true => have := t.lt rfl; rw [if_pos rfl]; walk_at "o"
theorem w_due (F : F11 Φ) (d : Drawn σ ga ra gates rows) (h0 : 0 < σ.length) (hQ : ∀ σ' a T, Ex σ σ' → σ.length ≤ a → PL σ' a rows.length T → Grd gates rows T → Stuck gates rows T → Q (.ref a) σ') : callW Φ (n + 5) 42 [.ref ga, .ref ra] σ Q x := by
  refine ⟨_, F.due, rfl, ?_⟩
  unfold f42
  (try dsimp only [start, List.map, List.replicate, List.cons_append, List.nil_append, Nat.reduceSub])
  (with_reducible (refine s_set ?_; refine x_bin ?_; refine x_dispA (by with_unfolding_all rfl) (by with_unfolding_all rfl) ?_; refine x_b1A (by with_unfolding_all rfl) ?_); dsimp only [put])
  obtain ⟨⟨gv, h3, h4⟩, ⟨rv, h5, h6⟩, ok⟩ := d
  have r2 := ok.r2
  have g2 := ok.g2
  have gl := h4.len
  have e2 : Ex σ (σ ++ [[V.int 0]]) := Ex.one
  refine b_lenE (e2.get h5) (by rw [h6.len]) ?_
  refine b_rep0 last_get (by walk_at "o") ?_
  (with_reducible (refine s_setA (by with_unfolding_all rfl) ?_; refine s_while ?_); dsimp only [put])
  have e3 : Ex (σ ++ [[V.int 0]]) (σ ++ [[V.int 0]] ++ [(List.range rows.length).map fun _ => nv 0]) := Ex.one
  have p3 : PL (σ ++ [[V.int 0]] ++ [(List.range rows.length).map fun _ => nv 0]) (σ ++ [[V.int 0]]).length rows.length (fun _ => 0) := last_get
  have e13 := e2.trans e3
  have hpa := e2.len
  generalize σ ++ [[V.int 0]] ++ [(List.range rows.length).map fun _ => nv 0] = σ3 at e13 p3
  generalize (σ ++ [[V.int 0]]).length = pa at p3 hpa
  clear e2 e3
  refine while_rule (fun k m σ' => Mini.Ek5 fun T mv u4 u5 u6 => Mini.Cj4 (Fs σ σ' pa gates rows T) ((mv = false → Stuck gates rows T)) (k = rem rows T + (if mv then 1 else 0)) (m = [some (.ref ga), some (.ref ra), some (.ref pa), some (.bool mv), u4, u5, u6, none, none, none])) (k := rem rows (fun _ => 0) + 1) ⟨_, true, _, _, _, ⟨e13, p3, Grd.init⟩, nofun, rfl, rfl⟩ ?_
  rintro k m σ4 K ⟨T, mv, u4, u5, u6, s4, st, rfl, rfl⟩ hK
  with_reducible (refine t_var (by with_unfolding_all rfl) ?_; refine k_tru ?_)
  cases mv with
  | false =>
    refine k_no ?_
    with_reducible (refine s_retA (by with_unfolding_all rfl) ?_)
    exact hQ _ _ _ s4.ex hpa s4.pl s4.G (st rfl)
  | true =>
    refine k_yes ?_
    (with_reducible (refine s_setA (by with_unfolding_all rfl) ?_; refine s_for ?_; refine r_range ?_; refine x_b1A (by with_unfolding_all rfl) ?_); dsimp only [put])
    refine b_lenE (s4.ex.get h3) (by rw [gl]) ?_
    refine r_rgK (by walk_at "o") ?_
    refine forL_rule (fun i m σ' => Mini.Ek5 fun T' mv u4 u5 u6 => Mini.Cj2 (Tn σ σ' pa gates rows (rem rows T) (fun g => gates.length - i ≤ g ∧ g < gates.length) T' mv) (m = [some (.ref ga), some (.ref ra), some (.ref pa), some (.bool mv), u4, u5, u6, none, none, none])) ⟨T, false, _, _, _, ⟨s4, Nat.le_refl _, nofun, fun _ g hg => by walk_at "o"⟩, rfl⟩ ?_ ?_
    · rintro i v m σ5 K' hv ⟨T', mv, u4, u5, u6, t, rfl⟩ hK'
      obtain ⟨rfl, hi⟩ := rangeV_get hv
      have hi : i < gates.length := by walk_at "o"
      refine ⟨trivial, _, rfl, ?_⟩
      (with_reducible (refine s_set ?_; refine x_bin ?_; refine x_bin ?_; refine x_b1A (by with_unfolding_all rfl) ?_); dsimp only [put])
      refine b_lenE (t.s.ex.get h3) (by rw [gl]) ?_
      with_reducible (refine x_atom (by with_unfolding_all rfl) ?_; refine b_sub ?_; refine x_atom (by with_unfolding_all rfl) ?_; refine b_sub ?_; refine s_if1 ?_; refine t_call ?_; refine l_cons ?_; refine x_idx ?_; refine x_idxA (by with_unfolding_all rfl) (by with_unfolding_all rfl) ?_)
      generalize hj : gates.length - 1 - i = j
      have hjl : j < gates.length := by walk_at "o"
      rw [show (gates.length : Int) - 1 - (i : Int) = (j : Nat) by walk_at "o"]
      obtain ⟨_, hu, ma, rfl, mal, hma⟩ := h4.right (get_of_lt (d := (0, [])) hjl)
      have hg := get_of_lt (d := (0, [])) hjl
      generalize eg : gates.getD j (0, []) = gt at hu hma hg
      have gk := ok.gate gt (List.mem_of_getElem? hg)
      have hma5 := t.s.ex.get hma
      refine x_item (t.s.ex.get h3) hu ?_
      with_reducible (refine x_atom (by with_unfolding_all rfl) ?_; refine x_t1 ?_; refine l_atoms (by with_unfolding_all rfl) ?_)
      refine w_there F.lthere hma5 (t.s.ex.get h5) (h6.mono fun _ _ k => k.ex t.s.ex t.s.ex.len) t.s.pl (fun w hw => ⟨gk.lt w hw, t.s.G.le w (gk.lt w hw)⟩) (fun th => ?_) fun nth => ?_
      · (with_reducible (refine k_tru ?_; refine k_yes ?_; refine s_setA (by with_unfolding_all rfl) ?_; refine s_for ?_; refine r_list ?_; refine x_idx ?_; refine x_idxA (by with_unfolding_all rfl) (by with_unfolding_all rfl) ?_); dsimp only [put])
        refine x_item (t.s.ex.get h3) hu ?_
        with_reducible (refine x_atom (by with_unfolding_all rfl) ?_; refine x_t1 ?_)
        refine r_lsK hma5 ?_
        have th' : There gates rows T' j := fun w hw => th w (by rw [← eg]; exact hw)
        refine w_on hma5 gk.nodup t.s.pl (by walk_at "o") (by walk_at "o") gk.lt (fun m => ∃ u6, m = [some (.ref ga), some (.ref ra), some (.ref pa), some (.bool true), some (.int i), some (.int j), u6, none, none, none]) ⟨_, rfl⟩ (fun m v hm => by obtain ⟨u6, rfl⟩ := hm; exact ⟨⟨_, rfl⟩, rfl, rfl⟩) fun σ6 m' hm' l6 k6 p6 => ?_
        obtain ⟨u6', rfl⟩ := hm'
        rw [← eg] at p6
        have s6 := t.s.fire hpa ok hjl th' l6 k6 p6
        have rf := rem_fire ok hjl th'
        have tl := t.le
        with_reducible (refine s_nil ?_; refine s_nil ?_)
        exact hK' _ _ ⟨_, true, _, _, _, ⟨s6, by walk_at "o", fun _ => by walk_at "o", nofun⟩, rfl⟩
      · with_reducible (refine k_tru ?_; refine k_no ?_; refine s_nil ?_)
        refine hK' _ _ ⟨T', mv, _, _, _, ⟨t.s, t.le, t.lt, fun z g hg => ?_⟩, rfl⟩
        by_cases q : g = j
        · subst q
          exact fun th => nth fun w hw => th w (by rw [eg]; exact hw)
        · exact t.no z g ⟨by walk_at "o", hg.2⟩
    · rintro m σ5 ⟨T', mv, u4, u5, u6, t, rfl⟩
      refine ⟨trivial, ?_⟩
      rw [rangeV_length, Int.toNat_natCast] at t
      have tl := t.le
      refine hK (rem rows T' + (if mv then 1 else 0)) _ _ ?_ ⟨T', mv, _, _, _, t.s, fun z => t.s.G.stuck ok fun g hg => t.no z g ⟨by walk_at "o", hg⟩, rfl, rfl⟩
      show _ < rem rows T + 1
      cases mv with
      | false => rw [if_neg (by decide)]; walk_at "o"
      | true => have := t.lt rfl; rw [if_pos rfl]; walk_at "o"
end
end Mini

set_option autoImplicit false
set_option linter.unusedVariables false


namespace Mini
/-- who waits for whom -/
noncomputable def Hl.chN (h : Hl) : Nat → List Nat → List Nat
  | 0, l => l
  | n + 1, l => match l.getLast? with
    | none => l
    | some w => match h.missing w with
      | [] => l
      | u :: _ => if u ∈ l then l else h.chN n (l ++ [u])
noncomputable def Hl.waits (h : Hl) (k : Nat) : List Nat := (List.range k).filter fun w => decide ((h.stg w).1 ≠ 10)
noncomputable def Hl.chain (h : Hl) : List Nat := h.chN (13 - ((h.waits h.rows.length).take 1).length) ((h.waits h.rows.length).take 1)
structure Okg (h : Hl) : Prop where
  ok : Okh h
  gl : ∀ t, t < h.gates.length → ∀ u ∈ (h.gate t).2, u < h.rows.length
section
variable {Φ : Nat → Option Fn} {n : Nat} {σ σ₀ σ' : H} {Q : P} {x : X} {g r d s c : Nat} {h : Hl}
theorem x_last {a : Nat} {xs : List V} {v : V} (hx : σ[a]? = some (xs ++ [v])) (h : Q v σ) : item (.ref a) (.int (-1)) σ Q := by
  refine ⟨_, v, hx, .inr ⟨by decide, by rw [List.length_append]; simp; walk_at "o", ?_⟩, h⟩
  (rw [List.length_append]; rw [show ((-1 : Int) + ((xs.length + [v].length : Nat) : Int)).toNat = xs.length by simp; walk_at "o"])
  exact List.getElem?_concat_length
theorem waits_succ {k : Nat} : h.waits (k + 1) = if (h.stg k).1 ≠ 10 then h.waits k ++ [k] else h.waits k := by
  unfold Hl.waits
  (rw [List.range_succ]; rw [List.filter_append]; rw [List.filter_cons])
  by_cases z : (h.stg k).1 = 10
  · (rw [if_neg (by simp [z])]; rw [if_neg (by simp [z])]); simp
  · (rw [if_pos (by simp [z])]; rw [if_pos z]); rfl
theorem miss_lt {w : Nat} (o : Okg h) (hw : w < h.rows.length) : ∀ u ∈ h.missing w, u < h.rows.length := fun u hu => by
  unfold Hl.missing at hu
  split at hu
  · cases hu
  · rename_i z
    exact o.gl _ (o.ok.wf.at_ hw fun y => z (.inr y)).1 u (List.mem_filter.mp hu).1
theorem miss_len {w : Nat} (o : Okg h) (hw : w < h.rows.length) : (h.missing w).length ≤ 12 := by
  unfold Hl.missing
  split
  · simp
  · rename_i z
    exact Nat.le_trans (List.length_filter_le _ _) (o.ok.wf.gm _ (o.ok.wf.at_ hw fun y => z (.inr y)).1)
theorem chN_succ {m w : Nat} {l : List Nat} : h.chN (m + 1) (l ++ [w]) = (match h.missing w with
      | [] => l ++ [w]
      | u :: _ => if u ∈ l ++ [w] then l ++ [w] else h.chN m (l ++ [w] ++ [u])) := by
  show (match (l ++ [w]).getLast? with | none => _ | some w => _) = _
  rw [List.getLast?_concat]
theorem w_chain (F : F11 Φ) (q : Rep' σ g r d s c h) (o : Okg h) (h0 : 0 < σ.length) (idl : ∀ w, w < h.rows.length → h.idle w = true) (hQ : ∀ σ' a, Ex σ σ' → σ.length ≤ a → σ'[a]? = some (h.chain.map nv) → h.chain.length ≤ 13 → Q (.ref a) σ') :
    callW Φ (n + 6) 28 [.inst [.ref g, .ref r, .ref d, .ref s, .ref c]] σ Q x := by
  refine ⟨_, F.chain, rfl, ?_⟩
  unfold f28
  (try dsimp only [start, List.map, List.replicate, List.cons_append, List.nil_append, Nat.reduceSub])
  (with_reducible (refine s_set ?_; refine x_dispA (by with_unfolding_all rfl) (by with_unfolding_all rfl) ?_; refine s_for ?_; refine r_range ?_; refine x_b1 ?_; refine x_attrF (by with_unfolding_all rfl) (by with_unfolding_all rfl) ?_); dsimp only [put])
  have r12 := o.ok.r1
  have e1 : Ex σ (σ ++ [[]]) := Ex.one
  obtain ⟨rv, y1, y2⟩ := q.rows
  refine b_lenE (e1.get y1) (by rw [y2.len]) ?_
  refine r_rgK (by walk_at "o") ?_
  refine forL_rule (fun i m σ' => Mini.Ek1 fun u2 => Mini.Cj4 (Ex σ σ') (σ'[σ.length]? = some ((h.waits i).map nv)) ((h.waits i).length ≤ i) (m = [some (.inst [.ref g, .ref r, .ref d, .ref s, .ref c]), some (.ref σ.length), u2, none, none, none, none, none])) ⟨_, e1, last_get, Nat.zero_le _, rfl⟩ ?_ ?_
  · rintro i v m σ1 K hv ⟨u2, e, t, wl, rfl⟩ hK
    obtain ⟨rfl, hi⟩ := rangeV_get hv
    have hi : i < h.rows.length := by walk_at "o"
    refine ⟨trivial, _, rfl, ?_⟩
    (with_reducible (refine s_if1 ?_; refine t_not ?_; refine t_callA (by with_unfolding_all rfl) ?_); dsimp only [put])
    refine w_idle F.h F.r (q.ex e) o.ok hi fun σ2 e2 => ?_
    rw [idl i hi]
    have e12 := e.trans e2
    rw [waits_succ] at hK
    with_reducible (refine k_tru ?_; refine k_nyes ?_; refine s_if1 ?_; refine t_cmp ?_; refine x_idx ?_; refine x_callA (by with_unfolding_all rfl) ?_)
    refine w_ahead' F.h ⟨_, _, _, _, _, rfl, q.ex e12⟩ o.ok.wf hi (fun z => ?_) fun z => ?_
    · with_reducible (refine x_atom (by with_unfolding_all rfl) ?_; refine x_t1 ?_; refine x_atom (by with_unfolding_all rfl) ?_)
      refine e_sne (k_tru ?_)
      refine k_neg (fun y => y rfl) ?_
      with_reducible (refine s_nil ?_)
      rw [if_neg fun y => y z] at hK
      exact hK _ _ ⟨_, e12, e2.get t, by walk_at "o", rfl⟩
    · with_reducible (refine x_atom (by with_unfolding_all rfl) ?_; refine x_t1 ?_; refine x_atom (by with_unfolding_all rfl) ?_)
      refine e_sne (k_tru ?_)
      refine k_pos z ?_
      with_reducible (refine s_expr ?_; refine x_m1 ?_; refine x_atom (by with_unfolding_all rfl) ?_; refine x_isRef ?_; refine x_atom (by with_unfolding_all rfl) ?_)
      rw [if_pos z] at hK
      refine b_app (by walk_at "o") (e2.get t) (by rw [List.length_map]; unfold lim; walk_at "o") ?_
      with_reducible (refine s_nil ?_; refine s_nil ?_)
      refine hK _ _ ⟨_, e12.set (Nat.le_refl _), ?_, by rw [List.length_append]; simp; walk_at "o", rfl⟩
      (rw [get_set_eq (lt_of_get (e2.get t))]; rw [List.map_append]); rfl
  rintro m σ1 ⟨u2, e, t, wl, rfl⟩
  refine ⟨trivial, ?_⟩
  rw [rangeV_length, Int.toNat_natCast] at t wl
  (with_reducible (refine s_set ?_; refine x_upto ?_; refine x_atom (by with_unfolding_all rfl) ?_; refine x_atom (by with_unfolding_all rfl) ?_); dsimp only [put])
  refine b_upto (k := 1) t (by rw [List.length_map]; unfold lim; walk_at "o") ?_
  have e2 : Ex σ1 (σ1 ++ [((h.waits h.rows.length).map nv).take 1]) := Ex.one
  have t2 : (σ1 ++ [((h.waits h.rows.length).map nv).take 1])[σ1.length]? = some (((h.waits h.rows.length).take 1).map nv) := by (rw [last_get]; rw [List.map_take])
  have lb := e.len
  have e12 := e.trans e2
  have n0 : ((h.waits h.rows.length).take 1).Nodup := ((List.take_sublist _ _).trans List.filter_sublist).nodup List.nodup_range
  have l0 : ∀ u ∈ (h.waits h.rows.length).take 1, u < h.rows.length := fun u hu => List.mem_range.mp (List.mem_filter.mp (List.mem_of_mem_take hu)).1
  unfold Hl.chain at hQ
  generalize (h.waits h.rows.length).take 1 = l at t2 n0 l0 hQ
  generalize hC : h.chN (13 - l.length) l = C at hQ
  generalize σ1 ++ [((h.waits h.rows.length).map nv).take 1] = σ2 at e12 t2
  generalize σ1.length = b at t2 lb
  clear e2 t e
  have ll := Nat.le_trans (pigeon _ l n0 l0) r12
  with_reducible (refine s_while ?_)
  refine while_rule (fun k m σ' => Mini.Ek2 fun l u4 => Mini.Cj7 (Ex σ σ') (σ'[b]? = some (l.map nv)) (l.Nodup) ((∀ u ∈ l, u < h.rows.length)) (h.chN (13 - l.length) l = C) (k = 13 - l.length) (m = [some (.inst [.ref g, .ref r, .ref d, .ref s, .ref c]), some (.ref σ.length), u2, some (.ref b), u4, none, none, none])) (k := 13 - l.length) ⟨l, _, e12, t2, n0, l0, hC, rfl, rfl⟩ ?_
  clear hC t2 n0 l0 e12 ll
  rintro k m σ3 K ⟨l, u4, e3, t3, nd, lt, hC, rfl, rfl⟩ hK
  have ll := Nat.le_trans (pigeon _ l nd lt) r12
  with_reducible (refine t_cmp ?_; refine x_atom (by with_unfolding_all rfl) ?_; refine x_dispA (by with_unfolding_all rfl) (by with_unfolding_all rfl) ?_)
  have e4 : Ex σ3 (σ3 ++ [[]]) := Ex.one
  have t3' := (e3.trans e4).len
  refine c_neL (l := l.map Int.ofNat) (l' := []) (by rw [← nv_int]; exact e4.get t3) last_get ?_
  have e34 := e3.trans e4
  have t4 := e4.get t3
  generalize σ3 ++ [[]] = σ4 at e34 t4
  clear e3 t3 e4
  refine k_tru ?_
  have hfin : l.length ≤ 13 := by walk_at "o"
  refine k_dec (fun z => ?_) fun z => ?_
  · obtain ⟨l', w, rfl⟩ : ∃ l' w, l = l' ++ [w] := by
      rcases List.eq_nil_or_concat l with e | ⟨l', w, e⟩
      · exact absurd (by rw [e]; rfl) z
      · exact ⟨l', w, by (rw [e]; rw [List.concat_eq_append])⟩
    have hw := lt w (by simp)
    have m12 := miss_len o hw
    have ec : 13 - (l' ++ [w]).length = (12 - (l' ++ [w]).length) + 1 := by walk_at "o"
    rw [ec, chN_succ] at hC
    (with_reducible (refine s_set ?_; refine x_call ?_; refine l_cons ?_; refine x_atom (by with_unfolding_all rfl) ?_; refine l_cons ?_; refine x_idx ?_; refine x_atom (by with_unfolding_all rfl) ?_; refine x_neg ?_); dsimp only [put])
    refine x_last (xs := l'.map nv) (v := .int w) (by (rw [t4]; rw [List.map_append]); rfl) ?_
    with_reducible (refine l_atoms (by with_unfolding_all rfl) ?_)
    refine w_missing F.h F.came F.missing (q.ex e34) o.ok.wf o.gl hw fun σ5 a e5 la ha => ?_
    have e35 := e34.trans e5
    with_reducible (refine s_if1 ?_; refine t_or ?_; refine t_cmp ?_; refine x_atom (by with_unfolding_all rfl) ?_; refine x_dispA (by with_unfolding_all rfl) (by with_unfolding_all rfl) ?_)
    have e6 : Ex σ5 (σ5 ++ [[]]) := Ex.one
    have e36 := e35.trans e6
    have t6 := (e5.trans e6).get t4
    have ha6 := e6.get ha
    refine c_eqL (l := (h.missing w).map Int.ofNat) (l' := []) (by rw [← nv_int]; exact ha6) last_get ?_
    generalize σ5 ++ [[]] = σ6 at e36 t6 ha6
    refine k_tru ?_
    have ml := miss_lt o hw
    refine k_dec (fun y => ?_) fun y => ?_
    · have em : h.missing w = [] := List.map_eq_nil_iff.mp y
      rw [em] at hC
      have hC : l' ++ [w] = C := hC
      with_reducible (refine k_yes ?_; refine s_retA (by with_unfolding_all rfl) ?_)
      exact hQ _ _ e36 lb (by rw [← hC]; exact t6) (by rw [← hC]; exact hfin)
    · cases em : h.missing w with
      | nil => exact absurd (by rw [em]; rfl) y
      | cons u us =>
        rw [em] at hC ha6 ml
        have hC : (if u ∈ l' ++ [w] then l' ++ [w] else h.chN (12 - (l' ++ [w]).length) (l' ++ [w] ++ [u])) = C := hC
        with_reducible (refine t_cmp ?_; refine x_idxA (by with_unfolding_all rfl) (by with_unfolding_all rfl) ?_)
        refine x_it (v := .int u) ha6 (by walk_at "o") rfl ?_
        with_reducible (refine x_atom (by with_unfolding_all rfl) ?_)
        refine c_in t6 ?_
        refine k_tru ?_
        refine k_dec (fun i1 => ?_) fun i1 => ?_
        · rw [if_pos i1] at hC
          with_reducible (refine s_retA (by with_unfolding_all rfl) ?_)
          exact hQ _ _ e36 lb (by rw [← hC]; exact t6) (by rw [← hC]; exact hfin)
        · rw [if_neg i1] at hC
          with_reducible (refine s_expr ?_; refine x_m1 ?_; refine x_atom (by with_unfolding_all rfl) ?_; refine x_isRef ?_; refine x_idxA (by with_unfolding_all rfl) (by with_unfolding_all rfl) ?_)
          refine x_it (v := .int u) ha6 (by walk_at "o") rfl ?_
          refine b_app (by walk_at "o") t6 (by rw [List.length_map]; unfold lim; walk_at "o") ?_
          with_reducible (refine s_nil ?_)
          refine hK (13 - (l' ++ [w] ++ [u]).length) _ _ (by simp only [List.length_append, List.length_singleton] at ll ⊢; walk_at "o") ⟨l' ++ [w] ++ [u], _, e36.set lb, ?_, ?_, fun v hv => ?_, ?_, rfl, rfl⟩
          · (rw [get_set_eq (lt_of_get t6)]; rw [List.map_append (l₁ := l' ++ [w])]); rfl
          · exact List.nodup_append.mpr ⟨nd, by simp, fun a ha b hb z => i1 (by rw [List.mem_singleton.mp hb] at z; rw [← z]; exact ha)⟩
          · rcases List.mem_append.mp hv with hv | hv
            · exact lt v hv
            · rw [List.mem_singleton.mp hv]; exact ml u (by simp)
          · rw [← hC]
            congr 1
            simp only [List.length_append, List.length_singleton]
            walk_at "o"
  · have el : l = [] := by
      have : l.map Int.ofNat = [] := Classical.byContradiction z
      exact List.map_eq_nil_iff.mp this
    subst el
    have hC : ([] : List Nat) = C := by rw [← hC]; rfl
    with_reducible (refine s_retA (by with_unfolding_all rfl) ?_)
    exact hQ _ _ e34 lb (by rw [← hC]; exact t4) (by rw [← hC]; simp)
end
end Mini

set_option autoImplicit false
set_option linter.unusedVariables false


namespace Mini
noncomputable def iter (f : Nat → List D) : Nat → List D
  | 0 => []
  | n + 1 => iter f n ++ f n
theorem iter_len {f : Nat → List D} {k : Nat} (h : ∀ i, (f i).length ≤ k) : ∀ {n : Nat}, (iter f n).length ≤ n * k
  | 0 => Nat.zero_le _
  | n + 1 => by
    have := iter_len h (n := n)
    have := h n
    unfold iter
    (rw [List.length_append]; rw [Nat.succ_mul])
    walk_at "o"
theorem iterS {f : Nat → List D} {n : Nat} : iter f (n + 1) = iter f n ++ f n := rfl
theorem mul12 {a b : Nat} (ha : a ≤ 12) (hb : b ≤ 13) : a * b ≤ 156 := Nat.le_trans (Nat.mul_le_mul ha hb) (by decide)
noncomputable def Hl.aheadD (h : Hl) (w : Nat) : D := if (h.stg w).1 = 10 then .tup [.none, .str 10] else .tup [.int (h.at_ w), .str (h.stg w).1]
noncomputable def Hl.missD (h : Hl) (w : Nat) : D := .list ((h.missing w).map fun i : Nat => D.int i)
noncomputable def Hl.aD1 (h : Hl) (G w : Nat) : List D := .list [h.aheadD w, h.missD w] :: iter (fun g => [.list [.int (h.came w g), .int (h.passed w g)]]) G
noncomputable def Hl.aD (h : Hl) (R G : Nat) : D := .list ([.list (h.chain.map fun i : Nat => D.int i)] ++ iter (h.aD1 G) R ++ iter (fun g => [cellD (h.cell g)]) G)
/-- a list that grows at a place of its own -/
structure Acc (σ₀ : H) (R : Nat) (σ : H) (ds : List D) : Prop where
  ex : Ex σ₀ σ
  lr : σ₀.length ≤ R
  it : ∃ xs, σ[R]? = some xs ∧ A2 (Dt (fun a => a < σ₀.length ∨ a = R) σ 10) xs ds
section
variable {Φ : Nat → Option Fn} {n : Nat} {σ σ₀ σ' : H} {Q : P} {x : X} {B : Nat → Prop} {g r d s c R : Nat} {h : Hl} {ds : List D}
theorem Acc.mono (A : Acc σ₀ R σ ds) (e : Ex σ σ') : Acc σ₀ R σ' ds := by
  obtain ⟨e0, lr, xs, h1, h2⟩ := A
  exact ⟨e0.trans e, lr, xs, e.get h1, h2.mono fun _ _ k => k.ex e⟩
theorem b_appA {v : V} {dd : D} (A : Acc σ₀ R σ ds) (hl : ds.length ≤ 1000) (h0 : 0 < σ₀.length) (dv : Dt (fun a => a < σ₀.length ∨ a = R) σ 10 v dd) (hQ : ∀ σ', Acc σ₀ R σ' (ds ++ [dd]) → Q .none σ') : me1 .append (.ref R) v σ Q := by
  obtain ⟨e0, lr, xs, h1, h2⟩ := A
  have ag : Ag (fun a => a < σ₀.length ∨ a = R) σ (σ.set R (xs ++ [v])) := Ag.set (.inr rfl)
  exact b_app (by walk_at "o") h1 (by rw [h2.len]; unfold lim; walk_at "o") (hQ _ ⟨e0.set lr, lr, xs ++ [v], get_set_eq (lt_of_get h1), (h2.mono fun _ _ k => k.ag ag).snoc (dv.ag ag)⟩)
theorem Dt.two {a : Nat} {u v : V} {p q : D} {m : Nat} (nb : ¬ B a) (hx : σ[a]? = some [u, v]) (h1 : Dt B σ m u p) (h2 : Dt B σ m v q) : Dt B σ (m + 1) (.ref a) (.list [p, q]) := .list m a _ _ nb hx rfl fun i x d k1 k2 => by
  rcases i with _ | _ | i
  · cases k1; cases k2; exact h1
  · cases k1; cases k2; exact h2
  · simp at k1
theorem w_aheadD (F : F11 Φ) {w : Nat} (q : Rep' σ g r d s c h) (o : Okg h) (hw : w < h.rows.length) (hQ : ∀ v, (∀ B σ' m, Dt B σ' (m + 1) v (h.aheadD w)) → Q v σ) : callW Φ (n + 2) 15 [.inst [.ref g, .ref r, .ref d, .ref s, .ref c], .int w] σ Q x := by
  refine w_ahead' F.h ⟨_, _, _, _, _, rfl, q⟩ o.ok.wf hw (fun z => hQ _ fun B σ' m => ?_) fun z => hQ _ fun B σ' m => ?_
  · unfold Hl.aheadD; rw [if_pos z]
    exact .tup m _ _ rfl fun i x d p q => by
      rcases i with _ | _ | i
      · cases p; cases q; exact .none _
      · cases p; cases q; exact .str _ _
      · simp at p
  · unfold Hl.aheadD; rw [if_neg z]
    exact .tup m _ _ rfl fun i x d p q => by
      rcases i with _ | _ | i
      · cases p; cases q; exact .int _ _
      · cases p; cases q; exact .str _ _
      · simp at p
theorem aD1_succ {G i : Nat} : iter (h.aD1 G) (i + 1) = iter (h.aD1 G) i ++ [D.list [h.aheadD i, h.missD i]] ++ iter (fun g => [.list [.int (h.came i g), .int (h.passed i g)]]) G := by
  show iter (h.aD1 G) i ++ h.aD1 G i = _
  rw [List.append_assoc]; rfl
theorem aD1_len {G w : Nat} : (h.aD1 G w).length ≤ 1 + G := by
  have := iter_len (f := fun g => [D.list [.int (h.came w g), .int (h.passed w g)]]) (k := 1) (fun _ => Nat.le_refl _) (n := G)
  unfold Hl.aD1
  rw [List.length_cons]; walk_at "o"
theorem w_answers (F : F11 Φ) (q : Rep' σ g r d s c h) (o : Okg h) (h0 : 0 < σ.length) (idl : ∀ w, w < h.rows.length → h.idle w = true) (hQ : ∀ σ' b, Ex σ σ' → σ.length ≤ b → Dt (· < σ.length) σ' 11 (.ref b) (h.aD h.rows.length h.gates.length) → Q (.ref b) σ') :
    callW Φ (n + 7) 44 [.inst [.ref g, .ref r, .ref d, .ref s, .ref c], .int h.rows.length, .int h.gates.length] σ Q x := by
  refine ⟨_, F.answers, rfl, ?_⟩
  unfold f44
  (try dsimp only [start, List.map, List.replicate, List.cons_append, List.nil_append, Nat.reduceSub])
  (with_reducible (refine s_set ?_; refine x_disp ?_; refine l_cons ?_; refine x_b1 ?_; refine x_callA (by with_unfolding_all rfl) ?_); dsimp only [put])
  have g12 := o.ok.g1
  have r12 := o.ok.r1
  have f := o.ok.wf
  refine w_chain F q o h0 idl fun σ1 a1 e1 l1 t1 cl => ?_
  refine b_list t1 (by rw [List.length_map]; unfold lim; walk_at "o") ?_
  with_reducible (refine l_atoms (by with_unfolding_all rfl) ?_; refine a_disp (by with_unfolding_all rfl) ?_; refine s_for ?_; refine r_range ?_; refine x_atom (by with_unfolding_all rfl) ?_)
  have e2 : Ex σ1 (σ1 ++ [h.chain.map nv]) := Ex.one
  have t2 := last_get (σ := σ1) (xs := h.chain.map nv)
  have e12 := e1.trans e2
  have la := e1.len
  have lr := e12.len
  have ll := lt_of_get t2
  generalize σ1 ++ [h.chain.map nv] = σ2 at e12 t2 lr ll
  generalize σ1.length = a2 at t2 la ll
  have A0 : Acc σ σ2.length (σ2 ++ [[.ref a2]]) [.list (h.chain.map fun i : Nat => D.int i)] := ⟨e12.trans Ex.one, lr, _, last_get, A2.snoc A2.nil (Dt.ints (fun z => by walk_at "o") (Ex.one.get t2))⟩
  generalize σ2 ++ [[V.ref a2]] = σ3 at A0
  generalize σ2.length = R at A0
  clear e12 t2 lr ll e2 t1
  unfold Hl.aD at hQ
  have ld0 : [D.list (h.chain.map fun i : Nat => D.int i)].length ≤ 1 := Nat.le_refl _
  generalize [D.list (h.chain.map fun i : Nat => D.int i)] = d0 at A0 hQ ld0
  refine r_rgK (by walk_at "o") ?_
  refine forL_rule (fun i m σ' => Mini.Ek2 fun u4 u5 => Mini.Cj2 (Acc σ R σ' (d0 ++ iter (h.aD1 h.gates.length) i)) (m = [some (.inst [.ref g, .ref r, .ref d, .ref s, .ref c]), some (.int h.rows.length), some (.int h.gates.length), some (.ref R), u4, u5, none, none, none])) ⟨_, _, by (rw [iter]; rw [List.append_nil]); exact A0, rfl⟩ ?_ ?_
  · rintro i v m σ1 K hv ⟨u4, u5, A, rfl⟩ hK
    obtain ⟨rfl, hi⟩ := rangeV_get hv
    have hi : i < h.rows.length := by walk_at "o"
    refine ⟨trivial, _, rfl, ?_⟩
    have ln := iter_len (f := h.aD1 h.gates.length) (fun _ => aD1_len) (n := i)
    have ln2 := mul12 (a := i) (b := 1 + h.gates.length) (by walk_at "o") (by walk_at "o")
    rw [aD1_succ, ← List.append_assoc, ← List.append_assoc] at hK
    have lnA : (d0 ++ iter (h.aD1 h.gates.length) i).length ≤ 200 := by rw [List.length_append]; walk_at "o"
    generalize d0 ++ iter (h.aD1 h.gates.length) i = dA at *
    have l1 : R < σ1.length := by obtain ⟨_, y1, _⟩ := A.it; exact lt_of_get y1
    (with_reducible (refine s_expr ?_; refine x_m1 ?_; refine x_atom (by with_unfolding_all rfl) ?_; refine x_isRef ?_; refine x_disp ?_; refine l_cons ?_; refine x_callA (by with_unfolding_all rfl) ?_); dsimp only [put])
    refine w_aheadD F (q.ex A.ex) o hi fun v2 d2 => ?_
    with_reducible (refine l_cons ?_; refine x_b1 ?_; refine x_callA (by with_unfolding_all rfl) ?_)
    have lR := A.lr
    refine w_missing F.h F.came F.missing (q.ex A.ex) o.ok.wf o.gl hi fun σ4 a e4 la ha => ?_
    refine b_list ha (by rw [List.length_map]; have := miss_len o hi; unfold lim; walk_at "o") ?_
    with_reducible (refine l_atoms (by with_unfolding_all rfl) ?_; refine a_disp (by with_unfolding_all rfl) ?_)
    have l4 := e4.len
    have e5 : Ex σ4 (σ4 ++ [(h.missing i).map nv]) := Ex.one
    have t5 := last_get (σ := σ4) (xs := (h.missing i).map nv)
    have l5 : (σ4 ++ [(h.missing i).map nv]).length = σ4.length + 1 := by simp
    generalize σ4 ++ [(h.missing i).map nv] = σ5 at e5 t5 l5
    have e6 : Ex σ5 (σ5 ++ [[v2, .ref σ4.length]]) := Ex.one
    refine b_appA (A.mono ((e4.trans e5).trans e6)) (by walk_at "o") h0 (Dt.two (m := 9) (fun z => by walk_at "o") last_get (d2 _ _ _) (Dt.ints (fun z => by walk_at "o") (e6.get t5))) fun σ7 A7 => ?_
    with_reducible (refine s_for ?_; refine r_range ?_; refine x_atom (by with_unfolding_all rfl) ?_)
    have lnD : (dA ++ [D.list [h.aheadD i, h.missD i]]).length ≤ 201 := by (rw [List.length_append]; rw [List.length_singleton]); walk_at "o"
    have A7 : Acc σ R σ7 (dA ++ [D.list [h.aheadD i, h.missD i]]) := A7
    generalize dA ++ [D.list [h.aheadD i, h.missD i]] = dD at *
    refine r_rgK (by walk_at "o") ?_
    refine forL_rule (fun j m σ' => Mini.Ek1 fun u5 => Mini.Cj2 (Acc σ R σ' (dD ++ iter (fun g => [.list [.int (h.came i g), .int (h.passed i g)]]) j)) (m = [some (.inst [.ref g, .ref r, .ref d, .ref s, .ref c]), some (.int h.rows.length), some (.int h.gates.length), some (.ref R), some (.int i), u5, none, none, none])) ⟨_, by (rw [iter]; rw [List.append_nil]); exact A7, rfl⟩ ?_ ?_
    · rintro j v m σ6 K' hv ⟨u5, A6, rfl⟩ hK'
      obtain ⟨rfl, hj⟩ := rangeV_get hv
      have hj : j < h.gates.length := by walk_at "o"
      refine ⟨trivial, _, rfl, ?_⟩
      have lnj := iter_len (f := fun g => [D.list [.int (h.came i g), .int (h.passed i g)]]) (k := 1) (fun _ => Nat.le_refl _) (n := j)
      rw [iterS, ← List.append_assoc] at hK'
      (with_reducible (refine s_expr ?_; refine x_m1 ?_; refine x_atom (by with_unfolding_all rfl) ?_; refine x_isRef ?_; refine x_disp ?_; refine l_cons ?_; refine x_callA (by with_unfolding_all rfl) ?_); dsimp only [put])
      refine w_came F.h F.came ⟨_, _, _, _, _, rfl, q.ex A6.ex⟩ f hj hi fun σ7 e7 => ?_
      with_reducible (refine l_cons ?_; refine x_callA (by with_unfolding_all rfl) ?_)
      refine w_passed' F.h ⟨_, _, _, _, _, rfl, q.ex (A6.ex.trans e7)⟩ f hj hi fun σ8 e8 => ?_
      with_reducible (refine l_atoms (by with_unfolding_all rfl) ?_; refine a_disp (by with_unfolding_all rfl) ?_)
      have e9 := (e7.trans e8).trans (Ex.one (xs := [.int (h.came i j), .int (h.passed i j)]))
      refine b_appA (A6.mono e9) (by rw [List.length_append]; walk_at "o") h0 (Dt.two (m := 9) (fun z => by obtain ⟨_, y1, _⟩ := A6.it; have := lt_of_get y1; have := (e7.trans e8).len; have := A6.lr; walk_at "o") last_get (.int _ _) (.int _ _)) fun σ7 A7 => ?_
      with_reducible (refine s_nil ?_)
      exact hK' _ _ ⟨_, A7, rfl⟩
    · rintro m σ6 ⟨u5, A6, rfl⟩
      refine ⟨trivial, ?_⟩
      rw [rangeV_length, Int.toNat_natCast] at A6
      with_reducible (refine s_nil ?_)
      exact hK _ _ ⟨_, _, A6, rfl⟩
  · rintro m σ1 ⟨u4, u5, A, rfl⟩
    refine ⟨trivial, ?_⟩
    rw [rangeV_length, Int.toNat_natCast] at A
    have ln := iter_len (f := h.aD1 h.gates.length) (fun _ => aD1_len) (n := h.rows.length)
    have ln2 := mul12 (a := h.rows.length) (b := 1 + h.gates.length) (by walk_at "o") (by walk_at "o")
    have lnA : (d0 ++ iter (h.aD1 h.gates.length) h.rows.length).length ≤ 200 := by rw [List.length_append]; walk_at "o"
    generalize d0 ++ iter (h.aD1 h.gates.length) h.rows.length = dA at *
    with_reducible (refine s_for ?_; refine r_range ?_; refine x_atom (by with_unfolding_all rfl) ?_)
    refine r_rgK (by walk_at "o") ?_
    refine forL_rule (fun i m σ' => Mini.Ek1 fun u5 => Mini.Cj2 (Acc σ R σ' (dA ++ iter (fun g => [cellD (h.cell g)]) i)) (m = [some (.inst [.ref g, .ref r, .ref d, .ref s, .ref c]), some (.int h.rows.length), some (.int h.gates.length), some (.ref R), u4, u5, none, none, none])) ⟨_, by (rw [iter]; rw [List.append_nil]); exact A, rfl⟩ ?_ ?_
    · rintro i v m σ2 K hv ⟨u5, A2, rfl⟩ hK
      obtain ⟨rfl, hi⟩ := rangeV_get hv
      have hi : i < h.gates.length := by walk_at "o"
      refine ⟨trivial, _, rfl, ?_⟩
      have lnj := iter_len (f := fun g => [cellD (h.cell g)]) (k := 1) (fun _ => Nat.le_refl _) (n := i)
      rw [iterS, ← List.append_assoc] at hK
      (with_reducible (refine s_expr ?_; refine x_m1 ?_; refine x_atom (by with_unfolding_all rfl) ?_; refine x_isRef ?_; refine x_callA (by with_unfolding_all rfl) ?_); dsimp only [put])
      refine w_boxes F.h F.boxes ⟨_, _, _, _, _, rfl, q.ex A2.ex⟩ f hi fun σ3 v3 f3 e3 c3 _ fr => ?_
      refine b_appA (A2.mono e3) (by rw [List.length_append]; walk_at "o") h0 (Dt.cell (n := 8) c3 fun a ha z => by obtain ⟨_, y1, _⟩ := A2.it; have := lt_of_get y1; have := (fr a ha).1; have := A2.lr; walk_at "o") fun σ4 A4 => ?_
      with_reducible (refine s_nil ?_)
      exact hK _ _ ⟨_, A4, rfl⟩
    · rintro m σ2 ⟨u5, A2, rfl⟩
      refine ⟨trivial, ?_⟩
      rw [rangeV_length, Int.toNat_natCast] at A2
      with_reducible (refine s_retA (by with_unfolding_all rfl) ?_)
      obtain ⟨e, lr, xs, y1, y2⟩ := A2
      exact hQ _ _ e lr (.list 10 _ _ _ (by walk_at "o") y1 y2.len fun i x d p q => (y2.at_ p q).more fun a z => .inl (.inl z))
end
end Mini

set_option autoImplicit false
set_option linter.unusedVariables false


namespace Mini
theorem HallOk.okg {gates : List (Nat × List Nat)} {rows : List (List Nat)} (k : HallOk gates rows) : Okg (Hl.init gates rows) := ⟨⟨k.wf, k.g2, k.r2⟩, fun t ht u hu => (k.gate _ (List.mem_of_getElem? (get_of_lt ht))).lt u hu⟩
theorem Okg.run {h : Hl} (o : Okg h) {l : List Nat} (hl : ∀ w ∈ l, w < h.rows.length) : Okg (h.run l) := ⟨o.ok.run hl, fun t ht u hu => by
  rw [Hl.run_gates] at ht
  rw [Hl.run_rows]
  exact o.gl t ht u (by unfold Hl.gate at hu ⊢; rw [Hl.run_gates] at hu; exact hu)⟩
section
variable {Φ : Nat → Option Fn} {n : Nat} {σ σ₀ σ' : H} {Q : P} {x : X} {ga ra wa : Nat} {gates : List (Nat × List Nat)} {rows : List (List Nat)} {l : List Nat}
theorem no9 {h : Hl} {w : Nat} (f : WF h) (hw : w < h.rows.length) (h10 : (h.stg w).1 ≠ 10) : (h.stg w).1 ≠ 9 := fun y => by
  rcases f.st hw h10 with q | q | q | q <;> walk_at "o"
theorem PL.same {a R : Nat} {T T' : Nat → Nat} (p : PL σ a R T) (e : ∀ w, w < R → T' w = T w) : PL σ a R T' := by
  unfold PL at p ⊢
  rw [p]
  exact congrArg some (List.map_congr_left fun w hw => by rw [e w (List.mem_range.mp hw)])
theorem eff_snoc {h : Hl} {l : List Nat} {w : Nat} : h.eff (l ++ [w]) = h.eff l + if (h.run l).idle w then 0 else 1 := by rw [eff_app]; rfl
theorem w_answersR (F : F11 Φ) {g r d s c R G : Nat} {h : Hl} (q : Rep' σ g r d s c h) (o : Okg h) (h0 : 0 < σ.length) (idl : ∀ w, w < h.rows.length → h.idle w = true) (hR : h.rows.length = R) (hG : h.gates.length = G) (hQ : ∀ σ' b, Ex σ σ' → σ.length ≤ b → Dt (· < σ.length) σ' 11 (.ref b) (h.aD R G) → Q (.ref b) σ') :
    callW Φ (n + 7) 44 [.inst [.ref g, .ref r, .ref d, .ref s, .ref c], .int R, .int G] σ Q x := by
  subst hR hG
  exact w_answers F q o h0 idl hQ
theorem w_run (F : F11 Φ) (dr : Drawn σ ga ra gates rows) (h0 : 0 < σ.length) (hwa : σ[wa]? = some (l.map nv)) (hl : ∀ w ∈ l, w < rows.length) (hn : l.length ≤ 10000)
    (hQ : ∀ σ' b p an, Ex σ σ' → σ.length ≤ b → σ.length ≤ p → σ.length ≤ an → σ'[b]? = some [.int ((Hl.init gates rows).eff (l ++ ((Hl.init gates rows).run l).rest)), .ref p, .ref an] → PL σ' p rows.length ((Hl.init gates rows).run (l ++ ((Hl.init gates rows).run l).rest)).dn →
      Dt (· < σ.length) σ' 11 (.ref an) (((Hl.init gates rows).run (l ++ ((Hl.init gates rows).run l).rest)).aD rows.length gates.length) → Q (.ref b) σ') :
    callW Φ (n + 8) 45 [.ref ga, .ref ra, .ref wa] σ Q x := by
  refine ⟨_, F.run, rfl, ?_⟩
  unfold f45
  (try dsimp only [start, List.map, List.replicate, List.cons_append, List.nil_append, Nat.reduceSub])
  (with_reducible (refine s_set ?_; refine x_call ?_; refine l_cons ?_; refine x_callA (by with_unfolding_all rfl) ?_); dsimp only [put])
  have ok := dr.ok
  have o0 := ok.okg
  obtain ⟨⟨gv, h3, h4⟩, ⟨rv, h5, h6⟩, _⟩ := dr
  have r2 := ok.r2
  refine w_begun F.h h3 h4 h5 h6 ok fun σ1 g r d s c e1 k1 => ?_
  with_reducible (refine l_cons ?_; refine x_b1A (by with_unfolding_all rfl) ?_)
  refine b_list (e1.get hwa) (by rw [List.length_map]; unfold lim; walk_at "o") ?_
  with_reducible (refine l_atoms (by with_unfolding_all rfl) ?_)
  have e2 : Ex σ1 (σ1 ++ [l.map nv]) := Ex.one
  have e12 := e1.trans e2
  have nb : ∀ a, False → a < (σ1 ++ [l.map nv]).length := fun _ z => z.elim
  refine w_woven F.h F.r (B := fun _ => False) (l := l) ((k1.rep.ex e2).repB fun _ z => z.elim) (fun _ z => z.elim) o0.ok (e12.pos h0) last_get hl (by walk_at "o") fun σ3 d3 s3 c3 b3 e3 k3 t3 lb3 => ?_
  have e13 := e12.trans e3
  have o1 := o0.run hl
  generalize hh1 : (Hl.init gates rows).run l = h1 at *
  (with_reducible (refine s_set ?_; refine x_call ?_; refine l_cons ?_; refine x_idxA (by with_unfolding_all rfl) (by with_unfolding_all rfl) ?_; refine x_t0 ?_; refine l_atoms (by with_unfolding_all rfl) ?_); dsimp only [put])
  refine w_rested F.h F.r (B := fun _ => False) k3 (fun _ z => z.elim) o1.ok (e13.pos h0) fun σ4 d4 s4 c4 b4 e4 k4 t4 lb4 => ?_
  have e14 := e13.trans e4
  have rl := rest_len _ o1.ok.wf (Nat.le_refl _)
  have ml := o1.ok.wf.mu_le o1.ok.r1
  have r1e : h1.rows = rows := by (rw [← hh1]; rw [Hl.run_rows]); rfl
  have rlt : ∀ w ∈ h1.rest, w < rows.length := fun w hw => by rw [← r1e]; exact rest_lt w hw
  have idl := rest_idle _ o1.ok.wf (Nat.le_refl h1.mu)
  have o4 := o1.run (l := h1.rest) rest_lt
  have er : (Hl.init gates rows).run (l ++ h1.rest) = h1.run h1.rest := by (rw [Hl.run_app]; rw [hh1])
  have et : h1.tells h1.rest = ((Hl.init gates rows).run l).tells h1.rest := by rw [hh1]
  rw [et] at t4
  generalize hL : l ++ h1.rest = L at er hQ
  have eL : (Hl.init gates rows).tells l ++ ((Hl.init gates rows).run l).tells h1.rest = (Hl.init gates rows).tells L := by (rw [← hL]; rw [Hl.tells_app])
  have Ll : ∀ w ∈ L, w < rows.length := fun w hw => by
    rw [← hL] at hw
    exact (List.mem_append.mp hw).elim (hl w) (rlt w)
  have Ln : L.length ≤ 30000 := by (rw [← hL]; rw [List.length_append]); walk_at "o"
  (with_reducible (refine s_setA (by with_unfolding_all rfl) ?_; refine s_set ?_; refine x_bin ?_; refine x_dispA (by with_unfolding_all rfl) (by with_unfolding_all rfl) ?_; refine x_b1A (by with_unfolding_all rfl) ?_); dsimp only [put])
  have e5 : Ex σ4 (σ4 ++ [[V.int 0]]) := Ex.one
  have e15 := e14.trans e5
  refine b_lenE (e15.get h5) (by rw [h6.len]) ?_
  refine b_rep0 last_get (by walk_at "o") ?_
  have e6 : Ex (σ4 ++ [[V.int 0]]) (σ4 ++ [[V.int 0]] ++ [(List.range rows.length).map fun _ => nv 0]) := Ex.one
  have p6 : PL (σ4 ++ [[V.int 0]] ++ [(List.range rows.length).map fun _ => nv 0]) (σ4 ++ [[V.int 0]]).length rows.length (fun _ => 0) := last_get
  have lp := e15.len
  have l4 := e14.len
  have e46 := e5.trans e6
  have lp4 : σ4.length ≤ (σ4 ++ [[V.int 0]]).length := e5.len
  generalize σ4 ++ [[V.int 0]] ++ [(List.range rows.length).map fun _ => nv 0] = σ6 at e46 p6
  generalize (σ4 ++ [[V.int 0]]).length = pa at p6 lp lp4
  with_reducible (refine s_for ?_; refine r_list ?_; refine x_bin ?_; refine x_idxA (by with_unfolding_all rfl) (by with_unfolding_all rfl) ?_; refine x_t1 ?_; refine x_idxA (by with_unfolding_all rfl) (by with_unfolding_all rfl) ?_; refine x_t1 ?_)
  refine b_cat ((e4.trans e46).get t3) (e46.get t4) (by (rw [Hl.tells_len]; rw [Hl.tells_len]); unfold lim; walk_at "o") ?_
  rw [eL]
  have e7 : Ex σ6 (σ6 ++ [(Hl.init gates rows).tells L]) := Ex.one
  have t7 := last_get (σ := σ6) (xs := (Hl.init gates rows).tells L)
  have n7 : σ6.length ≠ pa := by have := lt_of_get p6; walk_at "o"
  have e47 := e46.trans e7
  have p7 : PL (σ6 ++ [(Hl.init gates rows).tells L]) pa rows.length (fun _ => 0) := e7.get p6
  generalize σ6 ++ [(Hl.init gates rows).tells L] = σ7 at e47 p7 t7
  generalize σ6.length = rc at t7 n7
  clear e5 e6 e46 e7 e15 p6 eL
  have e17 := e14.trans e47
  refine r_lsK t7 ?_
  refine forL_rule (fun i m σ' => Mini.Ek1 fun u7 => Mini.Cj3 (Ag (· = pa) σ7 σ') (PL σ' pa rows.length ((Hl.init gates rows).run (L.take i)).dn) (m = [some (.ref ga), some (.ref ra), some (.ref wa), some (.tup [.inst [.ref g, .ref r, .ref d3, .ref s3, .ref c3], .ref b3]), some (.tup [.inst [.ref g, .ref r, .ref d4, .ref s4, .ref c4], .ref b4]), some (.int ((Hl.init gates rows).eff (L.take i))), some (.ref pa), u7, none, none, none]))
    ⟨_, Ag.refl, p7.same fun w hw => (init_at (gates := gates) hw).1, rfl⟩ ?_ ?_
  · rintro i v m σ8 K hv ⟨u7, a8, p8, rfl⟩ hK
    refine ⟨a8.2 _ _ n7 t7, _, rfl, ?_⟩
    have hi := lt_of_get hv
    rw [Hl.tells_len] at hi
    obtain ⟨w, hw⟩ : ∃ w, L[i]? = some w := ⟨L[i], List.getElem?_eq_getElem hi⟩
    rw [Hl.tells_get hw] at hv
    cases hv
    have hwl := Ll w (List.mem_of_getElem? hw)
    have wf8 := ok.wf.run (l := L.take i) fun u hu => Ll u (List.mem_of_mem_take hu)
    have hr8 : ((Hl.init gates rows).run (L.take i)).rows.length = rows.length := by rw [Hl.run_rows]; rfl
    have hw8 : w < ((Hl.init gates rows).run (L.take i)).rows.length := by rw [hr8]; exact hwl
    rw [take_snoc hw, eff_snoc, Hl.run_app] at hK
    generalize (Hl.init gates rows).run (L.take i) = hh at *
    generalize (Hl.init gates rows).eff (L.take i) = ef at *
    have es : hh.run [w] = hh.step w := rfl
    rw [es] at hK
    rw [told_eq]
    by_cases h10 : (hh.stg w).1 = 10
    · have hid : hh.idle w = true := by unfold Hl.idle; simp [h10]
      rw [if_pos h10]
      rw [hid, step_idle hid] at hK
      (with_reducible (refine s_if1 ?_; refine t_and ?_; refine t_cmp ?_; refine x_idxA (by with_unfolding_all rfl) (by with_unfolding_all rfl) ?_; refine x_t2 ?_; refine x_atom (by with_unfolding_all rfl) ?_); dsimp only [put])
      refine e_sne (k_tru ?_)
      refine k_pos (by decide) ?_
      with_reducible (refine t_cmp ?_; refine x_idxA (by with_unfolding_all rfl) (by with_unfolding_all rfl) ?_; refine x_t2 ?_; refine x_atom (by with_unfolding_all rfl) ?_)
      refine e_sne (k_tru ?_)
      refine k_neg (fun y => y rfl) ?_
      with_reducible (refine s_if1 ?_; refine t_cmp ?_; refine x_idxA (by with_unfolding_all rfl) (by with_unfolding_all rfl) ?_; refine x_t2 ?_; refine x_atom (by with_unfolding_all rfl) ?_; refine e_seq ?_; refine k_tru ?_)
      refine k_neg (by decide) ?_
      with_reducible (refine s_nil ?_)
      exact hK _ _ ⟨_, a8, p8, rfl⟩
    · rw [if_neg h10]
      cases hvn : hh.vain w with
      | true =>
        have hid : hh.idle w = true := by unfold Hl.idle; simp [hvn]
        have e9 : hh.wd w = 9 := by unfold Hl.wd; rw [hvn]; rfl
        rw [hid, step_idle hid] at hK
        rw [e9]
        (with_reducible (refine s_if1 ?_; refine t_and ?_; refine t_cmp ?_; refine x_idxA (by with_unfolding_all rfl) (by with_unfolding_all rfl) ?_; refine x_t2 ?_; refine x_atom (by with_unfolding_all rfl) ?_); dsimp only [put])
        refine e_sne (k_tru ?_)
        refine k_neg (fun y => y rfl) ?_
        with_reducible (refine k_no ?_; refine s_if1 ?_; refine t_cmp ?_; refine x_idxA (by with_unfolding_all rfl) (by with_unfolding_all rfl) ?_; refine x_t2 ?_; refine x_atom (by with_unfolding_all rfl) ?_; refine e_seq ?_; refine k_tru ?_)
        refine k_neg (by decide) ?_
        with_reducible (refine s_nil ?_)
        exact hK _ _ ⟨_, a8, p8, rfl⟩
      | false =>
        have hid : hh.idle w = false := by unfold Hl.idle; simp [hvn, h10]
        have e9 : hh.wd w = (hh.stg w).1 := by unfold Hl.wd; rw [hvn]; rfl
        have S := wf8.stp hw8 hid
        rw [hid] at hK
        rw [e9]
        (with_reducible (refine s_if1 ?_; refine t_and ?_; refine t_cmp ?_; refine x_idxA (by with_unfolding_all rfl) (by with_unfolding_all rfl) ?_; refine x_t2 ?_; refine x_atom (by with_unfolding_all rfl) ?_); dsimp only [put])
        refine e_sne (k_tru ?_)
        refine k_pos (no9 wf8 hw8 h10) ?_
        with_reducible (refine t_cmp ?_; refine x_idxA (by with_unfolding_all rfl) (by with_unfolding_all rfl) ?_; refine x_t2 ?_; refine x_atom (by with_unfolding_all rfl) ?_)
        refine e_sne (k_tru ?_)
        refine k_pos h10 ?_
        (with_reducible (refine s_set ?_; refine x_binA (by with_unfolding_all rfl) (by with_unfolding_all rfl) ?_; refine b_add ?_; refine s_nil ?_; refine s_if1 ?_; refine t_cmp ?_; refine x_idxA (by with_unfolding_all rfl) (by with_unfolding_all rfl) ?_; refine x_t2 ?_; refine x_atom (by with_unfolding_all rfl) ?_; refine e_seq ?_; refine k_tru ?_); dsimp only [put])
        refine k_dec (fun z6 => ?_) fun z6 => ?_
        · with_reducible (refine s_put ?_; refine x_bin ?_; refine x_idx ?_; refine x_atom (by with_unfolding_all rfl) ?_; refine x_idxA (by with_unfolding_all rfl) (by with_unfolding_all rfl) ?_; refine x_t0 ?_)
          refine x_item (v := .int (hh.dn w)) p8 (rg_get hwl) ?_
          with_reducible (refine x_atom (by with_unfolding_all rfl) ?_; refine b_add ?_; refine x_atom (by with_unfolding_all rfl) ?_; refine x_idxA (by with_unfolding_all rfl) (by with_unfolding_all rfl) ?_; refine x_t0 ?_)
          refine s_puK (by walk_at "o") p8 (by walk_at "o") (by simp; walk_at "o") ?_
          with_reducible (refine s_nil ?_; refine s_nil ?_)
          refine hK _ _ ⟨_, a8.trans (Ag.set rfl), ?_, rfl⟩
          unfold PL
          (rw [get_set_eq (lt_of_get p8)]; rw [Int.toNat_natCast]; rw [rg_set])
          refine congrArg some (List.map_congr_left fun v hv => ?_)
          (rw [S.dn]; rw [if_pos z6])
          by_cases e : v = w
          · subst e; (rw [if_pos rfl]; rw [if_pos rfl]); rfl
          · (rw [if_neg e]; rw [if_neg (Ne.symm e)])
        · with_reducible (refine s_nil ?_)
          refine hK _ _ ⟨_, a8, p8.same fun v hv => ?_, rfl⟩
          (rw [S.dn]; rw [if_neg z6])
          split
          · rename_i q; rw [q]
          · rfl
  · rintro m σ8 ⟨u7, a8, p8, rfl⟩
    refine ⟨a8.2 _ _ n7 t7, ?_⟩
    rw [Hl.tells_len, List.take_length] at p8 ⊢
    have x8 : Ex σ4 σ8 := ((e47.ag (B := (· = pa))).trans a8).toEx fun a z => by walk_at "o"
    have e18 := e14.trans x8
    with_reducible (refine s_ret ?_; refine x_disp ?_; refine l_cons ?_; refine x_atom (by with_unfolding_all rfl) ?_; refine l_cons ?_; refine x_atom (by with_unfolding_all rfl) ?_; refine l_cons ?_; refine x_call ?_; refine l_cons ?_; refine x_idxA (by with_unfolding_all rfl) (by with_unfolding_all rfl) ?_; refine x_t0 ?_; refine l_cons ?_; refine x_b1A (by with_unfolding_all rfl) ?_)
    refine b_lenE (e18.get h5) (by rw [h6.len]) ?_
    with_reducible (refine l_cons ?_; refine x_b1A (by with_unfolding_all rfl) ?_)
    refine b_lenE (e18.get h3) (by rw [h4.len]) ?_
    with_reducible (refine l_atoms (by with_unfolding_all rfl) ?_)
    have g1e : h1.gates = gates := by (rw [← hh1]; rw [Hl.run_gates]); rfl
    have rr : (h1.run h1.rest).rows.length = rows.length := by (rw [Hl.run_rows]; rw [r1e])
    have gg : (h1.run h1.rest).gates.length = gates.length := by (rw [Hl.run_gates]; rw [g1e])
    rw [er] at p8 hQ
    refine w_answersR F (k4.rep.ex x8) o4 (e18.pos h0) (by (rw [rr]; rw [← r1e]); exact idl) rr gg fun σ9 an e9 la dan => ?_
    with_reducible (refine l_atoms (by with_unfolding_all rfl) ?_; refine a_disp (by with_unfolding_all rfl) ?_)
    have ea : Ex σ9 (σ9 ++ [[.int ((Hl.init gates rows).eff L), .ref pa, .ref an]]) := Ex.one
    have e19 := e18.trans e9
    exact hQ _ _ _ _ (e19.trans ea) e19.len lp (Nat.le_trans e18.len la) last_get ((e9.trans ea).get p8) ((dan.more fun a z => .inl (Nat.lt_of_lt_of_le z e18.len)).ex ea)
end
end Mini

set_option autoImplicit false
set_option linter.unusedVariables false


namespace Mini
section
variable {Φ : Nat → Option Fn} {n : Nat} {σ σ₀ σ' : H} {Q : P} {x : X} {ga ra wa : Nat} {gates : List (Nat × List Nat)} {rows : List (List Nat)} {l : List Nat}
/-- the same gates, of other kinds -/
structure Kin (gates gs : List (Nat × List Nat)) (k : Nat) : Prop where
  len : gs.length = k
  at_ : ∀ g, g < k → (gs.getD g (0, [])).2 = (gates.getD g (0, [])).2 ∧ ((gs.getD g (0, [])).1 = 0 ∨ (gs.getD g (0, [])).1 = 1)
theorem Kin.snoc {gs : List (Nat × List Nat)} {k w : Nat} (h : Kin gates gs k) (hw : w = 0 ∨ w = 1) : Kin gates (gs ++ [(w, (gates.getD k (0, [])).2)]) (k + 1) := by
  refine ⟨by (rw [List.length_append]; rw [h.len]); rfl, fun g hg => ?_⟩
  by_cases e : g = k
  · subst e
    rw [getD_of (x := (w, (gates.getD g (0, [])).2)) (by rw [← h.len]; exact List.getElem?_concat_length)]
    exact ⟨rfl, hw⟩
  · have : (gs ++ [(w, (gates.getD k (0, [])).2)]).getD g (0, []) = gs.getD g (0, []) := by
      have hl : g < gs.length := by rw [h.len]; walk_at "o"
      exact getD_of (by rw [List.getElem?_append_left hl]; exact get_of_lt hl)
    rw [this]
    exact h.at_ g (by walk_at "o")
theorem Kin.members {gs : List (Nat × List Nat)} (h : Kin gates gs gates.length) : ∀ g, (gs.getD g (0, [])).2 = (gates.getD g (0, [])).2 := fun g => by
  by_cases hg : g < gates.length
  · exact (h.at_ g hg).1
  · (rw [List.getD_eq_getElem?_getD]; rw [List.getD_eq_getElem?_getD]; rw [List.getElem?_eq_none (by rw [h.len]; walk_at "o")]; rw [List.getElem?_eq_none (by walk_at "o")])
theorem Kin.ok {gs : List (Nat × List Nat)} (h : Kin gates gs gates.length) (ok : HallOk gates rows) : HallOk gs rows := by
  refine ⟨ok.r1, ok.r2, by rw [h.len]; exact ok.g1, by rw [h.len]; exact ok.g2, fun g hg => ?_, fun w row hr => ⟨(ok.row w row hr).len, fun g hg => ?_⟩⟩
  · obtain ⟨i, hi, rfl⟩ := List.getElem_of_mem hg
    have hi' : i < gates.length := by rw [← h.len]; exact hi
    obtain ⟨e, w⟩ := h.at_ i hi'
    rw [getD_of (List.getElem?_eq_getElem hi)] at e w
    obtain ⟨_, b, c, d⟩ := ok.gate _ (List.mem_of_getElem? (get_of_lt (d := (0, [])) hi'))
    exact ⟨w, by rw [e]; exact b, by rw [e]; exact c, by rw [e]; exact d⟩
  · obtain ⟨h1, h2⟩ := (ok.row w row hr).lt g hg
    exact ⟨by rw [h.len]; exact h1, by rw [h.members]; exact h2⟩
theorem b_intOf {y : Bool} (h : Q (.int (if y then 1 else 0)) σ) : bi1 .intOf (.bool y) σ Q := h
theorem w_kinds (F : F11 Φ) {cl : Int} (dr : Drawn σ ga ra gates rows) (h0 : 0 < σ.length) (hQ : ∀ σ' a gs, Ex σ σ' → Kin gates gs gates.length → Drawn σ' a ra gs rows → Q (.ref a) σ') : callW Φ (n + 2) 46 [.ref ga, .int cl] σ Q x := by
  refine ⟨_, F.kinds, rfl, ?_⟩
  unfold f46
  (try dsimp only [start, List.map, List.replicate, List.cons_append, List.nil_append, Nat.reduceSub])
  (with_reducible (refine s_set ?_; refine x_dispA (by with_unfolding_all rfl) (by with_unfolding_all rfl) ?_; refine s_for ?_; refine r_range ?_; refine x_b1A (by with_unfolding_all rfl) ?_); dsimp only [put])
  have ok := dr.ok
  have g12 := ok.g2
  obtain ⟨⟨gv, h3, h4⟩, ⟨rv, h5, h6⟩, _⟩ := dr
  have e1 : Ex σ (σ ++ [[]]) := Ex.one
  refine b_lenE (e1.get h3) (by rw [h4.len]) ?_
  refine r_rgK (by walk_at "o") ?_
  refine forL_rule (fun i m σ' => Mini.Ek4 fun acc gs u3 u4 => Mini.Cj5 (Ex σ σ') (σ'[σ.length]? = some acc) (A2 (GateB (· = σ.length) σ') acc gs) (Kin gates gs i) (m = [some (.ref ga), some (.int cl), some (.ref σ.length), u3, u4, none, none, none])) ⟨[], [], _, _, e1, last_get, A2.nil, ⟨rfl, fun g hg => absurd hg (Nat.not_lt_zero _)⟩, rfl⟩ ?_ ?_
  · rintro i v m σ1 K hv ⟨acc, gs, u3, u4, e, ta, ag, kn, rfl⟩ hK
    obtain ⟨rfl, hi⟩ := rangeV_get hv
    have hi : i < gates.length := by walk_at "o"
    refine ⟨trivial, _, rfl, ?_⟩
    obtain ⟨_, hu, ma, rfl, mal, hma⟩ := h4.right (get_of_lt (d := (0, [])) hi)
    have gk := ok.gate _ (List.mem_of_getElem? (get_of_lt (d := (0, [])) hi))
    have gkl := gk.len
    have r12 := ok.r2
    (with_reducible (refine s_set ?_; refine x_idx ?_; refine x_idxA (by with_unfolding_all rfl) (by with_unfolding_all rfl) ?_); dsimp only [put])
    refine x_item (e.get h3) hu ?_
    with_reducible (refine x_atom (by with_unfolding_all rfl) ?_; refine x_t0 ?_; refine s_if1 ?_; refine t_or ?_; refine t_cmp ?_; refine x_binA (by with_unfolding_all rfl) (by with_unfolding_all rfl) ?_; refine b_mod (by decide) ?_; refine x_atom (by with_unfolding_all rfl) ?_; refine e_eq ?_; refine k_tru ?_)
    have fin : ∀ σ2 (w : Nat), Ex σ1 σ2 → (w = 0 ∨ w = 1) → WSs (callW Φ (n + 1)) [.expr (.m1 .append (.var 2) (.tup [(.var 4), (.b1 .list (.idx (.idx (.var 0) (.var 3)) (.int (1))))]))] x [some (.ref ga), some (.int cl), some (.ref σ.length), some (.int i), some (.str w), none, none, none] σ2 K Q := fun σ2 w e2 hw => by
      have e12 := e.trans e2
      with_reducible (refine s_expr ?_; refine x_m1 ?_; refine x_atom (by with_unfolding_all rfl) ?_; refine x_isRef ?_; refine x_tup ?_; refine l_cons ?_; refine x_atom (by with_unfolding_all rfl) ?_; refine l_cons ?_; refine x_b1 ?_; refine x_idx ?_; refine x_idxA (by with_unfolding_all rfl) (by with_unfolding_all rfl) ?_)
      refine x_item (e12.get h3) hu ?_
      with_reducible (refine x_atom (by with_unfolding_all rfl) ?_; refine x_t1 ?_)
      refine b_list (e12.get hma) (by rw [List.length_map]; unfold lim; walk_at "o") ?_
      with_reducible (refine l_atoms (by with_unfolding_all rfl) ?_)
      have e3 : Ex σ2 (σ2 ++ [(gates.getD i (0, [])).2.map nv]) := Ex.one
      have t3 := (e2.trans e3).get ta
      refine b_app (by walk_at "o") t3 (by (rw [ag.len]; rw [kn.len]); unfold lim; walk_at "o") ?_
      with_reducible (refine s_nil ?_)
      have l2 : σ.length < σ2.length := lt_of_get (e2.get ta)
      have as : Ag (· = σ.length) (σ2 ++ [(gates.getD i (0, [])).2.map nv]) ((σ2 ++ [(gates.getD i (0, [])).2.map nv]).set σ.length (acc ++ [.tup [.str w, .ref σ2.length]])) := Ag.set rfl
      refine hK _ _ ⟨_, gs ++ [(w, (gates.getD i (0, [])).2)], _, _, (e12.trans e3).set (Nat.le_refl _), get_set_eq (lt_of_get t3), ?_, kn.snoc hw, rfl⟩
      exact (ag.mono fun _ _ k => (k.ag ((e2.trans e3).ag)).ag as).snoc ⟨_, rfl, by walk_at "o", as.2 _ _ (by walk_at "o") last_get⟩
    have fin2 : ∀ σ2, Ex σ1 σ2 → WSs (callW Φ (n + 1)) [.set 4 (.idx (.disp [(.str 0), (.str 1)]) (.b1 .intOf (.cmp .eq (.var 4) (.str 0)))), .expr (.m1 .append (.var 2) (.tup [(.var 4), (.b1 .list (.idx (.idx (.var 0) (.var 3)) (.int (1))))]))] x [some (.ref ga), some (.int cl), some (.ref σ.length), some (.int i), some (.str (gates.getD i (0, [])).1), none, none, none] σ2 K Q := fun σ2 e2 => by
      (with_reducible (refine s_set ?_; refine x_idx ?_; refine x_dispA (by with_unfolding_all rfl) (by with_unfolding_all rfl) ?_; refine x_b1 ?_; refine x_cmpA (by with_unfolding_all rfl) (by with_unfolding_all rfl) ?_; refine e_seq ?_); dsimp only [put])
      refine b_intOf ?_
      refine x_it (v := .str (if (gates.getD i (0, [])).1 = 0 then 1 else 0)) last_get (by split <;> walk_at "o") (by
        by_cases z : (gates.getD i (0, [])).1 = 0
        · (rw [decide_eq_true z]; rw [if_pos z]); rfl
        · (rw [decide_eq_false z]; rw [if_neg z]); rfl) ?_
      exact fin _ _ (e2.trans Ex.one) (by split <;> simp)
    refine k_dec (fun z => ?_) fun z => ?_
    · exact k_yes (fin2 _ Ex.refl)
    · with_reducible (refine t_cmp ?_; refine x_bin ?_; refine x_callA (by with_unfolding_all rfl) ?_)
      refine d_mixed F.d.f (by walk_at "o") fun c6 _ => ?_
      with_reducible (refine x_atom (by with_unfolding_all rfl) ?_; refine b_mod (by decide) ?_; refine x_atom (by with_unfolding_all rfl) ?_; refine e_eq ?_; refine k_tru ?_)
      refine k_dec (fun y => ?_) fun y => ?_
      · exact fin2 _ Ex.refl
      · exact fin _ _ Ex.refl gk.word
  · rintro m σ1 ⟨acc, gs, u3, u4, e, ta, ag, kn, rfl⟩
    refine ⟨trivial, ?_⟩
    rw [rangeV_length, Int.toNat_natCast] at kn
    with_reducible (refine s_retA (by with_unfolding_all rfl) ?_)
    exact hQ _ _ gs e kn ⟨⟨acc, ta, ag.mono fun _ _ k => k.toR⟩, ⟨rv, e.get h5, h6.mono fun _ _ k => k.ex e e.len⟩, kn.ok ok⟩
end
end Mini

set_option autoImplicit false
set_option linter.unusedVariables false


namespace Mini
/-- the first member of a gate of the line -/
noncomputable def gkL (b : Bool) (M k : Nat) : Nat := if b then M - 2 - k else k
noncomputable def loL (b : Bool) (M w : Nat) : Nat := if b then M - 1 - w else w
theorem in_line {b : Bool} {M k w : Nat} (hM : 3 ≤ M) (hk : k < M - 1) (hw : w < M) : w ∈ [gkL b M k, gkL b M k + 1] ↔ k = loL b M w ∨ k + 1 = loL b M w := by
  unfold gkL loL
  simp only [List.mem_cons, List.not_mem_nil, or_false]
  cases b <;> simp <;> walk_at "o"
/-- the gates of the line, the first i of them -/
structure Gl (b : Bool) (M : Nat) (gs : List (Nat × List Nat)) (i : Nat) : Prop where
  len : gs.length = i
  at_ : ∀ k, k < i → (gs.getD k (0, [])).2 = [gkL b M k, gkL b M k + 1] ∧ ((gs.getD k (0, [])).1 = 0 ∨ (gs.getD k (0, [])).1 = 1)
theorem Gl.snoc {b : Bool} {M i w : Nat} {gs : List (Nat × List Nat)} (h : Gl b M gs i) (hw : w = 0 ∨ w = 1) : Gl b M (gs ++ [(w, [gkL b M i, gkL b M i + 1])]) (i + 1) := by
  refine ⟨by (rw [List.length_append]; rw [h.len]); rfl, fun k hk => ?_⟩
  by_cases e : k = i
  · subst e
    rw [getD_of (x := (w, [gkL b M k, gkL b M k + 1])) (by rw [← h.len]; exact List.getElem?_concat_length)]
    exact ⟨rfl, hw⟩
  · have hl : k < gs.length := by rw [h.len]; walk_at "o"
    rw [getD_of (x := gs.getD k (0, [])) (by rw [List.getElem?_append_left hl]; exact get_of_lt hl)]
    exact h.at_ k (by walk_at "o")
/-- the rows of the line: of each walker its gates so far, O times each -/
structure Rl (b : Bool) (M O k i : Nat) (ρ : Nat → List Nat) (N : Nat → Nat) : Prop where
  el : ∀ w, w < M → ∀ g ∈ ρ w, g < M - 1 ∧ w ∈ [gkL b M g, gkL b M g + 1]
  ln : ∀ w, w < M → (ρ w).length = O * N w
  nb : ∀ w, w < M → N w ≤ (if loL b M w < k then 1 else 0) + (if 1 ≤ loL b M w ∧ loL b M w ≤ k then 1 else 0) + (if w ∈ [gkL b M k, gkL b M k + 1].take i then 1 else 0)
theorem line_ok {b : Bool} {M O : Nat} {gs : List (Nat × List Nat)} {ρ N : Nat → _} (hM : 3 ≤ M) (hM2 : M ≤ 12) (hO : O ≤ 20) (g : Gl b M gs (M - 1)) (r : Rl b M O (M - 1) 0 ρ N) : HallOk gs ((List.range M).map ρ) := by
  refine ⟨by simp; walk_at "o", by simp; walk_at "o", by rw [g.len]; walk_at "o", by rw [g.len]; walk_at "o", fun gt hg => ?_, fun w row hr => ?_⟩
  · obtain ⟨k, hk, rfl⟩ := List.getElem_of_mem hg
    have hk' : k < M - 1 := by rw [← g.len]; exact hk
    obtain ⟨e, w⟩ := g.at_ k hk'
    rw [getD_of (List.getElem?_eq_getElem hk)] at e w
    refine ⟨w, by rw [e]; simp, by rw [e]; simp, fun m hm => ?_⟩
    rw [e] at hm
    (rw [List.length_map]; rw [List.length_range])
    unfold gkL at hm
    simp only [List.mem_cons, List.not_mem_nil, or_false] at hm
    cases b <;> simp at hm <;> walk_at "o"
  · have hw : w < M := by have := lt_of_get hr; simpa using this
    rw [rg_get hw] at hr
    cases hr
    have h1 := r.ln w hw
    have h2 := r.nb w hw
    have h3 : N w ≤ 2 := by
      rw [if_neg (c := w ∈ List.take 0 _) (by simp)] at h2
      split at h2 <;> split at h2 <;> walk_at "o"
    refine ⟨by rw [h1]; exact Nat.le_trans (Nat.mul_le_mul hO h3) (by decide), fun gg hg => ?_⟩
    obtain ⟨q1, q2⟩ := r.el w hw gg hg
    exact ⟨by rw [g.len]; exact q1, by rw [(g.at_ gg q1).1]; exact q2⟩
section
variable {Φ : Nat → Option Fn} {n : Nat} {σ σ₀ σ' : H} {Q : P} {x : X}
/-- the lists at hand -/
structure Ln (B : Nat → Prop) (σ₀ σ : H) (a4 M : Nat) (vs : List V) (ρ : Nat → List Nat) : Prop where
  ex : Ex σ₀ σ
  at_ : σ[a4]? = some vs
  rw_ : A2 (RowB B σ) vs ((List.range M).map ρ)
theorem w_line (F : F11 Φ) {cl : Int} (h0 : 0 < σ.length) (hQ : ∀ σ' a ga ra gates rows, Ex σ σ' → σ'[a]? = some [.ref ga, .ref ra] → Drawn σ' ga ra gates rows → Q (.ref a) σ') : callW Φ (n + 2) 43 [.int cl] σ Q x := by
  refine ⟨_, F.line, rfl, ?_⟩
  unfold f43
  (try dsimp only [start, List.map, List.replicate, List.cons_append, List.nil_append, Nat.reduceSub])
  (with_reducible (refine s_set ?_; refine x_bin ?_; refine x_atom (by with_unfolding_all rfl) ?_; refine x_bin ?_; refine x_binA (by with_unfolding_all rfl) (by with_unfolding_all rfl) ?_; refine b_fdiv (by decide) ?_; refine x_atom (by with_unfolding_all rfl) ?_; refine b_mod (by decide) ?_; refine b_add ?_; refine s_set ?_; refine x_bin ?_; refine x_atom (by with_unfolding_all rfl) ?_; refine x_binA (by with_unfolding_all rfl) (by with_unfolding_all rfl) ?_; refine b_mod (by decide) ?_; refine b_add ?_; refine s_set ?_; refine x_dispA (by with_unfolding_all rfl) (by with_unfolding_all rfl) ?_; refine s_set ?_; refine x_dispA (by with_unfolding_all rfl) (by with_unfolding_all rfl) ?_; refine s_for ?_; refine r_range ?_; refine x_atom (by with_unfolding_all rfl) ?_); dsimp only [put])
  obtain ⟨M, hM, hM3, hM12⟩ : ∃ M : Nat, 3 + cl / 20 % 10 = (M : Int) ∧ 3 ≤ M ∧ M ≤ 12 := ⟨(3 + cl / 20 % 10).toNat, by walk_at "o", by walk_at "o", by walk_at "o"⟩
  obtain ⟨O, hO, hO20⟩ : ∃ O : Nat, 1 + cl % 20 = (O : Int) ∧ O ≤ 20 := ⟨(1 + cl % 20).toNat, by walk_at "o", by walk_at "o"⟩
  (rw [hM]; rw [hO])
  have l1 : (σ ++ [[]]).length = σ.length + 1 := by simp
  have z4 : (σ ++ [[]] ++ [[]])[σ.length + 1]? = some [] := by
    have := last_get (σ := σ ++ [[]]) (xs := [])
    rw [l1] at this
    exact this
  have z3 : (σ ++ [[]] ++ [[]])[σ.length]? = some [] := Ex.one.get last_get
  have e0 : Ex σ (σ ++ [[]] ++ [[]]) := Ex.one.trans Ex.one
  rw [l1]
  generalize σ ++ [[]] ++ [[]] = σ1 at z4 z3 e0
  clear l1
  refine r_rgK (by walk_at "o") ?_
  refine forL_rule (fun i m σ' => Mini.Ek2 fun vs u5 => Mini.Cj5 (Ex σ σ') (σ'[σ.length]? = some []) (σ'[σ.length + 1]? = some vs) (A2 (RowB (fun a => a = σ.length ∨ a = σ.length + 1) σ') vs ((List.range i).map fun _ => [])) (m = [some (.int cl), some (.int M), some (.int O), some (.ref σ.length), some (.ref (σ.length + 1)), u5, none, none, none, none, none])) ⟨[], _, e0, z3, z4, A2.nil, rfl⟩ ?_ ?_
  · rintro i v m σ2 K hv ⟨vs, u5, e2, y3, y4, a2, rfl⟩ hK
    obtain ⟨rfl, hi⟩ := rangeV_get hv
    refine ⟨trivial, _, rfl, ?_⟩
    (with_reducible (refine s_expr ?_; refine x_m1 ?_; refine x_atom (by with_unfolding_all rfl) ?_; refine x_isRef ?_; refine x_dispA (by with_unfolding_all rfl) (by with_unfolding_all rfl) ?_); dsimp only [put])
    have e3 : Ex σ2 (σ2 ++ [[]]) := Ex.one
    have l2 := lt_of_get y4
    refine b_app (by walk_at "o") (e3.get y4) (by rw [a2.len]; simp [lim]; walk_at "o") ?_
    with_reducible (refine s_nil ?_)
    have as : Ag (fun a => a = σ.length ∨ a = σ.length + 1) (σ2 ++ [[]]) ((σ2 ++ [[]]).set (σ.length + 1) (vs ++ [V.ref σ2.length])) := Ag.set (.inr rfl)
    refine hK _ _ ⟨_, _, (e2.trans e3).set (Nat.le_succ _), get_set_ne (by walk_at "o") (e3.get y3), get_set_eq (lt_of_get (e3.get y4)), ?_, rfl⟩
    (rw [List.range_succ]; rw [List.map_append])
    exact (a2.mono fun _ _ k => (k.ag e3.ag).ag as).snoc ⟨_, rfl, by walk_at "o", as.2 _ _ (by walk_at "o") last_get⟩
  rintro m σ2 ⟨vs, u5, e2, y3, y4, a2, rfl⟩
  refine ⟨trivial, ?_⟩
  rw [rangeV_length, Int.toNat_natCast] at a2
  with_reducible (refine s_for ?_; refine r_range ?_; refine x_binA (by with_unfolding_all rfl) (by with_unfolding_all rfl) ?_; refine b_sub ?_)
  rw [show (M : Int) - 1 = ((M - 1 : Nat) : Int) by walk_at "o"]
  refine r_rgK (by walk_at "o") ?_
  generalize hb : decide (cl / 200 % 2 = 1) = b
  refine forL_rule (fun i m σ' => Mini.Ek4 fun acc gs u6 u7 => Mini.Cj7 (Ex σ σ') (σ'[σ.length]? = some acc) (A2 (GateB (fun a => a = σ.length ∨ a = σ.length + 1) σ') acc gs) (Gl b M gs i) (σ'[σ.length + 1]? = some vs) (A2 (RowB (fun a => a = σ.length ∨ a = σ.length + 1) σ') vs ((List.range M).map fun _ => [])) (m = [some (.int cl), some (.int M), some (.int O), some (.ref σ.length), some (.ref (σ.length + 1)), u5, u6, u7, none, none, none])) ⟨[], [], _, _, e2, y3, A2.nil, ⟨rfl, fun k hk => absurd hk (Nat.not_lt_zero _)⟩, y4, a2, rfl⟩ ?_ ?_
  · rintro i v m σ3 K hv ⟨acc, gs, u6, u7, e3, y3, ag, gl, y4, a2, rfl⟩ hK
    obtain ⟨rfl, hi⟩ := rangeV_get hv
    have hi : i < M - 1 := by walk_at "o"
    refine ⟨trivial, _, rfl, ?_⟩
    have l3 := lt_of_get y4
    have fin : ∀ t : Nat, t = gkL b M i → WSs (callW Φ (n + 1)) [.expr (.m1 .append (.var 3) (.tup [(.idx (.disp [(.str 0), (.str 1)]) (.bin .mod (.call 33 [(.var 0), (.var 6)]) (.int (2)))), (.disp [(.var 7), (.bin .add (.var 7) (.int (1)))])]))] x [some (.int cl), some (.int M), some (.int O), some (.ref σ.length), some (.ref (σ.length + 1)), u5, some (.int i), some (.int t), none, none, none] σ3 K Q := fun t ht => by
      with_reducible (refine s_expr ?_; refine x_m1 ?_; refine x_atom (by with_unfolding_all rfl) ?_; refine x_isRef ?_; refine x_tup ?_; refine l_cons ?_; refine x_idx ?_; refine x_dispA (by with_unfolding_all rfl) (by with_unfolding_all rfl) ?_; refine x_bin ?_; refine x_callA (by with_unfolding_all rfl) ?_)
      have e4 : Ex σ3 (σ3 ++ [[V.str 0, V.str 1]]) := Ex.one
      refine d_mixed F.d.f (by walk_at "o") fun c6 hc6 => ?_
      with_reducible (refine x_atom (by with_unfolding_all rfl) ?_; refine b_mod (by decide) ?_)
      obtain ⟨wd, ew, hwd⟩ : ∃ wd : Nat, c6 % 2 = (wd : Int) ∧ (wd = 0 ∨ wd = 1) := ⟨(c6 % 2).toNat, by walk_at "o", by walk_at "o"⟩
      rw [ew]
      refine x_item (v := .str wd) last_get (by rcases hwd with rfl | rfl <;> rfl) ?_
      with_reducible (refine l_cons ?_; refine x_disp ?_; refine l_cons ?_; refine x_atom (by with_unfolding_all rfl) ?_; refine l_cons ?_; refine x_binA (by with_unfolding_all rfl) (by with_unfolding_all rfl) ?_; refine b_add ?_; refine l_atoms (by with_unfolding_all rfl) ?_; refine a_disp (by with_unfolding_all rfl) ?_; refine l_atoms (by with_unfolding_all rfl) ?_)
      have e5 : Ex (σ3 ++ [[V.str 0, V.str 1]]) (σ3 ++ [[V.str 0, V.str 1]] ++ [[V.int t, V.int (t + 1)]]) := Ex.one
      have t5 := last_get (σ := σ3 ++ [[V.str 0, V.str 1]]) (xs := [V.int t, V.int (t + 1)])
      have e35 := e4.trans e5
      have n5 : σ3.length ≤ (σ3 ++ [[V.str 0, V.str 1]]).length := e4.len
      generalize σ3 ++ [[V.str 0, V.str 1]] ++ [[V.int t, V.int (t + 1)]] = σ5 at e35 t5
      generalize (σ3 ++ [[V.str 0, V.str 1]]).length = b5 at t5 n5
      have y35 := e35.get y3
      refine b_app (by walk_at "o") y35 (by (rw [ag.len]; rw [gl.len]); unfold lim; walk_at "o") ?_
      with_reducible (refine s_nil ?_)
      have as : Ag (fun a => a = σ.length ∨ a = σ.length + 1) σ5 (σ5.set σ.length (acc ++ [V.tup [.str wd, .ref b5]])) := Ag.set (.inl rfl)
      refine hK _ _ ⟨_, gs ++ [(wd, [gkL b M i, gkL b M i + 1])], _, _, (e3.trans e35).set (Nat.le_refl _), get_set_eq (lt_of_get y35), ?_, gl.snoc hwd, get_set_ne (by walk_at "o") (e35.get y4), a2.mono fun _ _ k => (k.ag e35.ag).ag as, rfl⟩
      refine (ag.mono fun _ _ k => (k.ag e35.ag).ag as).snoc ⟨b5, rfl, by walk_at "o", as.2 _ _ (by walk_at "o") ?_⟩
      (rw [t5]; rw [ht]); rfl
    (with_reducible (refine s_setA (by with_unfolding_all rfl) ?_; refine s_if1 ?_; refine t_cmp ?_; refine x_bin ?_; refine x_binA (by with_unfolding_all rfl) (by with_unfolding_all rfl) ?_; refine b_fdiv (by decide) ?_; refine x_atom (by with_unfolding_all rfl) ?_; refine b_mod (by decide) ?_; refine x_atom (by with_unfolding_all rfl) ?_; refine e_eq ?_; refine k_tru ?_); dsimp only [put])
    refine k_dec (fun z => ?_) fun z => ?_
    · refine s_set (x_bin (x_bin (x_atom rfl (x_atom rfl (b_sub (x_atom rfl (b_sub (s_nil ?_))))))))
      rw [show (M : Int) - 2 - (i : Int) = ((M - 2 - i : Nat) : Int) by walk_at "o"]
      exact fin (M - 2 - i) (by (rw [← hb]; rw [decide_eq_true z]); rfl)
    · refine fin i ?_
      (rw [← hb]; rw [decide_eq_false z]); rfl
  rintro m σ3 ⟨acc, gs, u6, u7, e3, y3, ag, gl, y4, a2, rfl⟩
  refine ⟨trivial, ?_⟩
  rw [rangeV_length, Int.toNat_natCast] at gl
  clear hb e0 z3 z4 e2
  with_reducible (refine s_for ?_; refine r_range ?_; refine x_binA (by with_unfolding_all rfl) (by with_unfolding_all rfl) ?_; refine b_sub ?_)
  rw [show (M : Int) - 1 = ((M - 1 : Nat) : Int) by walk_at "o"]
  refine r_rgK (by walk_at "o") ?_
  refine forL_rule (fun k m σ' => Mini.Ek5 fun vs ρ N u5 u6 => Mini.Cj7 (Ex σ σ') (σ'[σ.length]? = some acc) (A2 (GateB (fun a => a = σ.length ∨ a = σ.length + 1) σ') acc gs) (σ'[σ.length + 1]? = some vs) (A2 (RowB (fun a => a = σ.length ∨ a = σ.length + 1) σ') vs ((List.range M).map ρ)) (Rl b M O k 0 ρ N) (m = [some (.int cl), some (.int M), some (.int O), some (.ref σ.length), some (.ref (σ.length + 1)), u5, u6, u7, none, none, none])) ⟨vs, fun _ => [], fun _ => 0, _, _, e3, y3, ag, y4, a2, ⟨fun _ _ _ h => absurd h (by simp), fun _ _ => rfl, fun _ _ => Nat.zero_le _⟩, rfl⟩ ?_ ?_
  · rintro k v m σ4 K hv ⟨vs, ρ, N, u5, u6, e4, y3, ag, y4, a2, rl, rfl⟩ hK
    obtain ⟨rfl, hk⟩ := rangeV_get hv
    have hk : k < M - 1 := by walk_at "o"
    refine ⟨trivial, _, rfl, ?_⟩
    (with_reducible (refine s_for ?_; refine r_list ?_; refine x_idx ?_; refine x_idxA (by with_unfolding_all rfl) (by with_unfolding_all rfl) ?_); dsimp only [put])
    have hgk : k < gs.length := by rw [gl.len]; exact hk
    obtain ⟨_, hu, ma, rfl, nma, hma⟩ := ag.right (get_of_lt (d := (0, [])) hgk)
    rw [(gl.at_ k hk).1] at hma
    refine x_item y3 hu ?_
    with_reducible (refine x_atom (by with_unfolding_all rfl) ?_; refine x_t1 ?_)
    refine r_lsK hma ?_
    generalize hms : [gkL b M k, gkL b M k + 1] = ms at hma
    have ml : ∀ w ∈ ms, w < M := fun w hw => by
      rw [← hms] at hw
      unfold gkL at hw
      simp only [List.mem_cons, List.not_mem_nil, or_false] at hw
      cases b <;> simp at hw <;> walk_at "o"
    have nd : ms.Nodup := by rw [← hms]; simp
    have lms : ms.length = 2 := by rw [← hms]; rfl
    refine forL_rule (fun i m σ' => Mini.Ek4 fun vs ρ N u5 => Mini.Cj8 (Ex σ σ') (σ'[σ.length]? = some acc) (A2 (GateB (fun a => a = σ.length ∨ a = σ.length + 1) σ') acc gs) (σ'[ma]? = some (ms.map nv)) (σ'[σ.length + 1]? = some vs) (A2 (RowB (fun a => a = σ.length ∨ a = σ.length + 1) σ') vs ((List.range M).map ρ)) (Rl b M O k i ρ N) (m = [some (.int cl), some (.int M), some (.int O), some (.ref σ.length), some (.ref (σ.length + 1)), u5, some (.int k), u7, none, none, none])) ⟨vs, ρ, N, _, e4, y3, ag, hma, y4, a2, rl, rfl⟩ ?_ ?_
    · rintro i v m σ5 K' hv ⟨vs, ρ, N, u5, e5, y3, ag, hma, y4, a2, rl, rfl⟩ hK'
      refine ⟨hma, _, rfl, ?_⟩
      obtain ⟨w, hw, rfl⟩ := nv_get hv
      have hwm := List.mem_of_getElem? hw
      have hwM := ml w hwm
      have hi := lt_of_get hw
      obtain ⟨_, hr, ro, rfl, nro, hro⟩ := a2.right (rg_get (f := ρ) hwM)
      have rl1 := rl.ln w hwM
      have rl2 := rl.nb w hwM
      have n3 : N w ≤ 3 := by
        refine Nat.le_trans rl2 ?_
        split <;> split <;> split <;> walk_at "o"
      have r60 : (ρ w).length ≤ 60 := by rw [rl1]; exact Nat.le_trans (Nat.mul_le_mul hO20 n3) (by decide)
      (with_reducible (refine s_put ?_; refine x_bin ?_; refine x_idxA (by with_unfolding_all rfl) (by with_unfolding_all rfl) ?_); dsimp only [put])
      refine x_item y4 hr ?_
      with_reducible (refine x_bin ?_; refine x_dispA (by with_unfolding_all rfl) (by with_unfolding_all rfl) ?_; refine x_atom (by with_unfolding_all rfl) ?_)
      have e6 : Ex σ5 (σ5 ++ [[V.int k]]) := Ex.one
      refine b_rep (i := (k : Int)) last_get (by walk_at "o") ?_
      have e7 : Ex (σ5 ++ [[V.int k]]) (σ5 ++ [[V.int k]] ++ [(List.replicate O (k : Int)).map V.int]) := Ex.one
      have t7 := last_get (σ := σ5 ++ [[V.int k]]) (xs := (List.replicate O (k : Int)).map V.int)
      have e57 := e6.trans e7
      generalize σ5 ++ [[V.int k]] ++ [(List.replicate O (k : Int)).map V.int] = σ7 at e57 t7
      refine b_cat (e57.get hro) t7 (by (rw [List.length_map]; rw [List.length_map]; rw [List.length_replicate]); unfold lim; walk_at "o") ?_
      have e8 : Ex σ7 (σ7 ++ [(ρ w).map nv ++ (List.replicate O (k : Int)).map V.int]) := Ex.one
      have t8 : (σ7 ++ [(ρ w).map nv ++ (List.replicate O (k : Int)).map V.int])[σ7.length]? = some ((ρ w ++ List.replicate O k).map nv) := by
        (rw [last_get]; rw [List.map_append]; rw [List.map_replicate]; rw [List.map_replicate]); rfl
      have e58 := e57.trans e8
      have l5 := lt_of_get y4
      have l57 := e57.len
      generalize σ7 ++ [(ρ w).map nv ++ (List.replicate O (k : Int)).map V.int] = σ8 at e58 t8
      with_reducible (refine x_atom (by with_unfolding_all rfl) ?_; refine x_atom (by with_unfolding_all rfl) ?_)
      have vl : vs.length = M := by rw [a2.len]; simp
      refine s_puK (by walk_at "o") (e58.get y4) (by walk_at "o") (by walk_at "o") ?_
      with_reducible (refine s_nil ?_)
      rw [Int.toNat_natCast]
      have as : Ag (fun a => a = σ.length ∨ a = σ.length + 1) σ8 (σ8.set (σ.length + 1) (vs.set w (V.ref σ7.length))) := Ag.set (.inr rfl)
      have nw : w ∉ ms.take i := fun z => by
        obtain ⟨j, hj, e⟩ := List.getElem_of_mem z
        rw [List.length_take] at hj
        have ej : ms[j]? = some w := by (rw [← e]; rw [List.getElem_take]); exact List.getElem?_eq_getElem _
        have := (List.getElem_inj nd).mp ((List.getElem?_eq_some_iff.mp ej).2.trans (List.getElem?_eq_some_iff.mp hw).2.symm)
        walk_at "o"
      refine hK' _ _ ⟨vs.set w (.ref σ7.length), fun v => if v = w then ρ w ++ List.replicate O k else ρ v, fun v => if v = w then N w + 1 else N v, _, (e5.trans e58).set (Nat.le_succ _), get_set_ne (by walk_at "o") (e58.get y3), ag.mono fun _ _ q => (q.ag e58.ag).ag as, as.2 _ _ (by rintro (z | z) <;> exact nma (by simp [z])) (e58.get hma), get_set_eq (lt_of_get (e58.get y4)), ?_, ⟨fun v hvM g hg => ?_, fun v hvM => ?_, fun v hvM => ?_⟩, rfl⟩
      · refine ⟨by (rw [List.length_set]; rw [vl]); simp, fun {j p q} hp hq => ?_⟩
        have hj : j < M := by have := lt_of_get hq; simpa using this
        rw [rg_get hj] at hq
        cases hq
        by_cases e : w = j
        · subst e
          rw [List.getElem?_set_self (by walk_at "o")] at hp
          cases hp
          rw [if_pos rfl]
          exact ⟨_, rfl, by walk_at "o", as.2 _ _ (by walk_at "o") t8⟩
        · rw [List.getElem?_set_ne e] at hp
          rw [if_neg (Ne.symm e)]
          exact ((a2.at_ hp (rg_get hj)).ag e58.ag).ag as
      · by_cases e : v = w
        · subst e
          rw [if_pos rfl] at hg
          rcases List.mem_append.mp hg with hg | hg
          · exact rl.el v hvM g hg
          · rw [(List.mem_replicate.mp hg).2]
            exact ⟨hk, by rw [hms]; exact hwm⟩
        · rw [if_neg e] at hg; exact rl.el v hvM g hg
      · by_cases e : v = w
        · subst e
          (rw [if_pos rfl]; rw [if_pos rfl]; rw [List.length_append]; rw [List.length_replicate]; rw [rl1]; rw [Nat.mul_succ])
        · (rw [if_neg e]; rw [if_neg e]); exact rl.ln v hvM
      · have hb := rl.nb v hvM
        rw [hms] at hb ⊢
        rw [take_snoc hw]
        by_cases e : v = w
        · subst e
          rw [if_neg (c := v ∈ ms.take i) nw] at hb
          (rw [if_pos rfl]; rw [if_pos (c := v ∈ ms.take i ++ [v]) (by simp)])
          walk_at "o"
        · rw [if_neg e]
          refine Nat.le_trans hb (Nat.add_le_add_left ?_ _)
          by_cases q : v ∈ ms.take i
          · (rw [if_pos q]; rw [if_pos (by simp [q])]); exact Nat.le_refl _
          · rw [if_neg q]; exact Nat.zero_le _
    · rintro m σ5 ⟨vs, ρ, N, u5, e5, y3, ag, hma, y4, a2, rl, rfl⟩
      refine ⟨hma, ?_⟩
      rw [List.length_map, lms] at rl
      with_reducible (refine s_nil ?_)
      refine hK _ _ ⟨vs, ρ, N, _, _, e5, y3, ag, y4, a2, ⟨rl.el, rl.ln, fun w hw => ?_⟩, rfl⟩
      have hb := rl.nb w hw
      have il := in_line (b := b) hM3 hk hw
      rw [show [gkL b M k, gkL b M k + 1].take 2 = [gkL b M k, gkL b M k + 1] from rfl] at hb
      rw [if_neg (c := w ∈ List.take 0 _) (by simp)]
      by_cases q : w ∈ [gkL b M k, gkL b M k + 1]
      · rw [if_pos q] at hb
        have q := il.mp q
        split at hb <;> split at hb <;> split <;> split <;> walk_at "o"
      · rw [if_neg q] at hb
        have q : ¬ (k = loL b M w ∨ k + 1 = loL b M w) := fun z => q (il.mpr z)
        split at hb <;> split at hb <;> split <;> split <;> walk_at "o"
  · rintro m σ4 ⟨vs, ρ, N, u5, u6, e4, y3, ag, y4, a2, rl, rfl⟩
    refine ⟨trivial, ?_⟩
    rw [rangeV_length, Int.toNat_natCast] at rl
    with_reducible (refine s_ret ?_; refine x_dispA (by with_unfolding_all rfl) (by with_unfolding_all rfl) ?_)
    have e5 : Ex σ4 (σ4 ++ [[.ref σ.length, .ref (σ.length + 1)]]) := Ex.one
    exact hQ _ _ _ _ gs ((List.range M).map ρ) (e4.trans e5) last_get ⟨⟨acc, e5.get y3, ag.mono fun _ _ k => k.toR.ex e5 e5.len⟩, ⟨vs, e5.get y4, a2.mono fun _ _ k => k.toR.ex e5 e5.len⟩, line_ok hM3 hM12 hO20 gl rl⟩
end
end Mini

set_option autoImplicit false
set_option linter.unusedVariables false


namespace Mini
noncomputable def f47 : Fn := ⟨1, 15, [
  .set 1 (.call 39 [(.var 0)]),
  .set 2 (.idx (.var 1) (.int (0))),
  .set 3 (.idx (.var 1) (.int (1))),
  .set 4 (.b1 .len (.var 3)),
  .set 5 (.call 40 [(.from_ (.var 0) (.int (7))), (.var 4)]),
  .set 6 (.comp (.bin .sub (.bin .sub (.var 4) (.int (1))) (.var 12)) 12 (.list (.var 5))),
  .ite (.cmp .eq (.bin .mod (.bin .fdiv (.call 31 [(.var 0), (.int (6))]) (.int (3))) (.int (2))) (.int (1))) [
    .expr (.m0 .reverse (.var 6))] [],
  .set 7 (.call 45 [(.var 2), (.var 3), (.var 5)]),
  .set 8 (.call 45 [(.var 2), (.var 3), (.var 6)]),
  .set 9 (.call 42 [(.var 2), (.var 3)]),
  .ite (.or (.cmp .ne (.var 7) (.var 8)) (.cmp .ne (.idx (.var 7) (.int (1))) (.var 9))) [
    .ret (.bool false)] [],
  .expr (.m1 .append (.call 26 [(.var 2), (.var 3)]) (.neg (.int (1)))),
  .set 10 (.call 26 [(.var 2), (.var 3)]),
  .ite (.or (.not (.isinst (.var 10) .list)) (.cmp .ne (.var 10) (.var 9))) [
    .ret (.bool false)] [],
  .for [11] (.list (.var 10)) [
    .ite (.not (.call 32 [(.var 11)])) [
      .ret (.bool false)] []],
  .ite (.cmp .eq (.bin .mod (.bin .fdiv (.call 31 [(.var 0), (.int (6))]) (.int (6))) (.int (6))) (.int (1))) [
    .set 1 (.call 43 [(.call 31 [(.var 0), (.int (5))])]),
    .ite (.cmp .ne (.call 26 [(.idx (.var 1) (.int (0))), (.idx (.var 1) (.int (1)))]) (.call 42 [(.idx (.var 1) (.int (0))), (.idx (.var 1) (.int (1)))])) [
      .ret (.bool false)] []] [],
  .set 2 (.call 46 [(.var 2), (.call 31 [(.var 0), (.int (6))])]),
  .ret (.and (.cmp .eq (.idx (.call 45 [(.var 2), (.var 3), (.var 6)]) (.int (1))) (.var 9)) (.cmp .eq (.call 26 [(.var 2), (.var 3)]) (.var 9)))]⟩
section
variable {gates : List (Nat × List Nat)} {rows : List (List Nat)} {l : List Nat}
/-- how a run ends -/
structure Fin (gates : List (Nat × List Nat)) (rows : List (List Nat)) (L : List Nat) : Prop where
  lt : ∀ w ∈ L, w < rows.length
  rest : AtRest ((Hl.init gates rows).run L)
  nz : Nz ((Hl.init gates rows).run L)
theorem HallOk.fin (ok : HallOk gates rows) (hl : ∀ w ∈ l, w < rows.length) : Fin gates rows (l ++ ((Hl.init gates rows).run l).rest) := by
  have w1 := ok.wf.run hl
  have r1 : ((Hl.init gates rows).run l).rows = rows := Hl.run_rows
  have lt : ∀ w ∈ l ++ ((Hl.init gates rows).run l).rest, w < rows.length := fun w hw => (List.mem_append.mp hw).elim (hl w) fun hw => by rw [← r1]; exact rest_lt w hw
  refine ⟨lt, ⟨ok.inv.run lt, fun w hw => ?_⟩, ok.nz.run ok.wf lt⟩
  rw [Hl.run_rows] at hw
  rw [Hl.run_app]
  exact rest_idle _ w1 (Nat.le_refl _) w (by rw [r1]; exact hw)
theorem Fin.at_ {L : List Nat} (f : Fin gates rows L) (ok : HallOk gates rows) {T : Nat → Nat} (G : Grd gates rows T) (S : Stuck gates rows T) : ∀ w, w < rows.length → ((Hl.init gates rows).run L).dn w = T w := fun w hw => rest_at ok f.lt rfl f.rest G S hw
theorem Fin.same {L L' : List Nat} (f : Fin gates rows L) (f' : Fin gates rows L') (ok : HallOk gates rows) {T : Nat → Nat} (G : Grd gates rows T) (S : Stuck gates rows T) : (Hl.init gates rows).run L' = (Hl.init gates rows).run L ∧ (Hl.init gates rows).eff L' = (Hl.init gates rows).eff L := by
  have r1 : ((Hl.init gates rows).run L).rows = rows := Hl.run_rows
  have e : (Hl.init gates rows).run L' = (Hl.init gates rows).run L := Two.eq ⟨f.rest, f'.rest, f.nz, f'.nz, by (rw [Hl.run_gates]; rw [Hl.run_gates]), by (rw [Hl.run_rows]; rw [Hl.run_rows]), fun w hw => by
    rw [r1] at hw
    (rw [f.at_ ok G S w hw]; rw [f'.at_ ok G S w hw])⟩
  refine ⟨e, ?_⟩
  obtain ⟨K, c⟩ := ok.cs.run (l := L) ok.inv f.lt
  obtain ⟨K', c'⟩ := ok.cs.run (l := L') ok.inv f'.lt
  rw [e] at c'
  have := c'.same f.rest c
  walk_at "o"
end
section
variable {Φ : Nat → Option Fn} {n : Nat} {σ σ₀ σ' : H} {Q : P} {x : X} {B : Nat → Prop}
theorem PL.dt {p R m : Nat} {T : Nat → Nat} (nb : ¬ B p) (h : PL σ p R T) : Dt B σ (m + 1) (.ref p) (.list (((List.range R).map T).map fun i : Nat => D.int i)) := Dt.ints nb (by rw [List.map_map]; exact h)
theorem Dt.three {a : Nat} {u v w : V} {p q r : D} {m : Nat} (nb : ¬ B a) (hx : σ[a]? = some [u, v, w]) (h1 : Dt B σ m u p) (h2 : Dt B σ m v q) (h3 : Dt B σ m w r) : Dt B σ (m + 1) (.ref a) (.list [p, q, r]) := .list m a _ _ nb hx rfl fun i x d k1 k2 => by
  rcases i with _ | _ | _ | i
  · cases k1; cases k2; exact h1
  · cases k1; cases k2; exact h2
  · cases k1; cases k2; exact h3
  · simp at k1
theorem PL.ex {p R : Nat} {T : Nat → Nat} (h : PL σ p R T) (e : Ex σ σ') : PL σ' p R T := e.get h
abbrev NB : Nat → Prop := fun _ => False
theorem w_wholeR (F : F11 Φ) {a : Int} (hQ : Q (.bool true) σ) : callW Φ (n + 1) 32 [.int a] σ Q x := by
  refine ⟨_, F.whole, rfl, ?_⟩
  unfold gWhole
  (try dsimp only [start, List.map, List.replicate, List.cons_append, List.nil_append, Nat.reduceSub])
  with_reducible (refine s_ret ?_; refine x_and ?_; refine x_isinst ?_; refine x_atom (by with_unfolding_all rfl) ?_; refine x_kd (by with_unfolding_all rfl) ?_; refine k_tru ?_; refine k_yes ?_; refine x_not ?_; refine x_isinst ?_; refine x_atom (by with_unfolding_all rfl) ?_; refine x_kd (by with_unfolding_all rfl) ?_; refine k_tru ?_)
  exact hQ
theorem w_law11 (F : F11 Φ) (FL : Φ 47 = some f47) {is : List Int} (hl : is.length ≤ 63) : callW Φ (n + 9) 47 [.ref 0] [is.map V.int] (fun v _ => v = .bool true) x := by
  refine ⟨_, FL, rfl, ?_⟩
  unfold f47
  (try dsimp only [start, List.map, List.replicate, List.cons_append, List.nil_append, Nat.reduceSub])
  (with_reducible (refine s_set ?_; refine x_callA (by with_unfolding_all rfl) ?_); dsimp only [put])
  have s0 : ([is.map V.int] : H)[0]? = some (is.map V.int) := rfl
  have h0 : 0 < ([is.map V.int] : H).length := by simp
  generalize ([is.map V.int] : H) = σ at s0 h0
  refine d_hall F.d s0 fun σ1 dr ga ra gates rows e1 hd dn => ?_
  have ok := dn.ok
  have r1 := ok.r1
  have r2 := ok.r2
  obtain ⟨rv, y3, y4⟩ := dn.rws
  (with_reducible (refine s_set ?_; refine x_idxA (by with_unfolding_all rfl) (by with_unfolding_all rfl) ?_); dsimp only [put])
  refine x_it (v := .ref ga) hd (by walk_at "o") rfl ?_
  (with_reducible (refine s_set ?_; refine x_idxA (by with_unfolding_all rfl) (by with_unfolding_all rfl) ?_); dsimp only [put])
  refine x_it (v := .ref ra) hd (by walk_at "o") rfl ?_
  (with_reducible (refine s_set ?_; refine x_b1A (by with_unfolding_all rfl) ?_); dsimp only [put])
  refine b_lenE y3 (by rw [y4.len]) ?_
  (with_reducible (refine s_set ?_; refine x_call ?_; refine l_cons ?_; refine x_from ?_; refine x_atom (by with_unfolding_all rfl) ?_; refine x_atom (by with_unfolding_all rfl) ?_); dsimp only [put])
  refine b_from (k := 7) (e1.get s0) (by rw [List.length_map]; unfold lim; walk_at "o") ?_
  with_reducible (refine l_atoms (by with_unfolding_all rfl) ?_)
  have e2 : Ex σ1 (σ1 ++ [(is.map V.int).drop 7]) := Ex.one
  refine d_weave F.d (is := is.drop 7) (by (rw [last_get]; rw [List.map_drop])) (by rw [List.length_drop]; walk_at "o") r1 r2 fun σ3 wa l e3 hwa hlt hll => ?_
  have e13 := e2.trans e3
  (with_reducible (refine s_set ?_; refine x_comp ?_; refine r_listA (by with_unfolding_all rfl) ?_); dsimp only [put])
  refine r_lsK hwa ?_
  refine comp_rule (fun i acc σ' => Mini.Cj2 (σ' = σ3) (acc = ((l.take i).map fun w => rows.length - 1 - w).map nv)) (by rw [List.length_map]; unfold lim; walk_at "o") ⟨rfl, rfl⟩ ?_ ?_
  · rintro i v acc _ K hv hla ⟨rfl, rfl⟩ hK
    refine ⟨hwa, ?_⟩
    obtain ⟨w, hw, rfl⟩ := nv_get hv
    have hwl := hlt w (List.mem_of_getElem? hw)
    with_reducible (refine x_bin ?_; refine x_binA (by with_unfolding_all rfl) (by with_unfolding_all rfl) ?_; refine b_sub ?_; refine x_atom (by with_unfolding_all rfl) ?_; refine b_sub ?_)
    rw [show (rows.length : Int) - 1 - (w : Int) = ((rows.length - 1 - w : Nat) : Int) by walk_at "o"]
    refine hK _ _ ⟨rfl, ?_⟩
    (rw [take_snoc hw]; rw [List.map_append]; rw [List.map_append]); rfl
  rintro acc σx _ ⟨hσ, hacc⟩
  rw [hσ]
  clear hσ
  refine ⟨hwa, ?_⟩
  rw [List.length_map, List.take_length] at hacc
  have l6lt : ∀ w ∈ l.map (fun w => rows.length - 1 - w), w < rows.length := fun w hw => by
    obtain ⟨v, hv, rfl⟩ := List.mem_map.mp hw
    have := hlt v hv
    walk_at "o"
  have l6n : (l.map fun w => rows.length - 1 - w).length ≤ 567 := by rw [List.length_map]; exact hll
  have e4 : Ex σ3 (σ3 ++ [acc]) := Ex.one
  have t4 : (σ3 ++ [acc])[σ3.length]? = some ((l.map fun w => rows.length - 1 - w).map nv) := by (rw [last_get]; rw [hacc])
  generalize l.map (fun w => rows.length - 1 - w) = l6 at l6lt l6n t4
  generalize σ3 ++ [acc] = σ4 at e4 t4
  have n4 : σ1.length ≤ σ3.length := e13.len
  have nwa : wa < σ3.length := lt_of_get hwa
  generalize σ3.length = b6 at t4 n4 nwa
  have e14 := e13.trans e4
  have hw4 := e4.get hwa
  have lb6 : σ1.length ≤ b6 := n4
  clear hacc
  with_reducible (refine s_if1 ?_; refine t_cmp ?_; refine x_bin ?_; refine x_bin ?_; refine x_callA (by with_unfolding_all rfl) ?_)
  refine d_cellAt F.d.f (k := 6) ((e1.trans e14).get s0) fun c6 => ?_
  with_reducible (refine x_atom (by with_unfolding_all rfl) ?_; refine b_fdiv (by decide) ?_; refine x_atom (by with_unfolding_all rfl) ?_; refine b_mod (by decide) ?_; refine x_atom (by with_unfolding_all rfl) ?_; refine e_eq ?_; refine k_tru ?_)
  have main : ∀ (σ5 : H) (l7 : List Nat), Ex σ1 σ5 → σ5[wa]? = some (l.map nv) → σ5[b6]? = some (l7.map nv) → (∀ w ∈ l7, w < rows.length) → l7.length ≤ 567 → WSs (callW Φ (n + 8)) [
      .set 7 (.call 45 [(.var 2), (.var 3), (.var 5)]),
      .set 8 (.call 45 [(.var 2), (.var 3), (.var 6)]),
      .set 9 (.call 42 [(.var 2), (.var 3)]),
      .ite (.or (.cmp .ne (.var 7) (.var 8)) (.cmp .ne (.idx (.var 7) (.int (1))) (.var 9))) [
        .ret (.bool false)] [],
      .expr (.m1 .append (.call 26 [(.var 2), (.var 3)]) (.neg (.int (1)))),
      .set 10 (.call 26 [(.var 2), (.var 3)]),
      .ite (.or (.not (.isinst (.var 10) .list)) (.cmp .ne (.var 10) (.var 9))) [
        .ret (.bool false)] [],
      .for [11] (.list (.var 10)) [
        .ite (.not (.call 32 [(.var 11)])) [
          .ret (.bool false)] []],
      .ite (.cmp .eq (.bin .mod (.bin .fdiv (.call 31 [(.var 0), (.int (6))]) (.int (6))) (.int (6))) (.int (1))) [
        .set 1 (.call 43 [(.call 31 [(.var 0), (.int (5))])]),
        .ite (.cmp .ne (.call 26 [(.idx (.var 1) (.int (0))), (.idx (.var 1) (.int (1)))]) (.call 42 [(.idx (.var 1) (.int (0))), (.idx (.var 1) (.int (1)))])) [
          .ret (.bool false)] []] [],
      .set 2 (.call 46 [(.var 2), (.call 31 [(.var 0), (.int (6))])]),
      .ret (.and (.cmp .eq (.idx (.call 45 [(.var 2), (.var 3), (.var 6)]) (.int (1))) (.var 9)) (.cmp .eq (.call 26 [(.var 2), (.var 3)]) (.var 9)))] x
      [some (.ref 0), some (.ref dr), some (.ref ga), some (.ref ra), some (.int rows.length), some (.ref wa), some (.ref b6), none, none, none, none, none, none, none, none] σ5 (fun _ σ => (fun v _ => v = V.bool true) .none σ) (fun v _ => v = .bool true) := fun σ5 l7 e15 hw5 t5 l7lt l7n => by
    have dn5 := dn.ex e15
    have s5 := e15.get (e1.get s0)
    have p5 : 0 < σ5.length := e15.pos (e1.pos h0)
    have f1 := ok.fin hlt
    have f2 := ok.fin l7lt
    (with_reducible (refine s_set ?_; refine x_callA (by with_unfolding_all rfl) ?_); dsimp only [put])
    refine w_run F dn5 p5 hw5 hlt (by walk_at "o") fun σ6 b7 p7 a7 e6 lb7 lp7 la7 t7 q7 d7 => ?_
    (with_reducible (refine s_set ?_; refine x_callA (by with_unfolding_all rfl) ?_); dsimp only [put])
    refine w_run F (dn5.ex e6) (e6.pos p5) (e6.get t5) l7lt (by walk_at "o") fun σ7 b8 p8 a8 e7 lb8 lp8 la8 t8 q8 d8 => ?_
    have e57 := e6.trans e7
    (with_reducible (refine s_set ?_; refine x_callA (by with_unfolding_all rfl) ?_); dsimp only [put])
    refine w_due F (dn5.ex e57) (e57.pos p5) fun σ8 a9 T e8 la9 p9 G S => ?_
    have e58 := e57.trans e8
    with_reducible (refine s_if1 ?_; refine t_or ?_; refine t_cmpA (by with_unfolding_all rfl) (by with_unfolding_all rfl) ?_)
    obtain ⟨eh, ef⟩ := f1.same f2 ok G S
    rw [eh] at d8 q8
    rw [ef] at t8
    have ad := f1.at_ ok G S
    have q7 := (q7.same fun w hw => (ad w hw).symm).ex (e7.trans e8)
    have q8 := (q8.same fun w hw => (ad w hw).symm).ex e8
    have d7 : Dt NB σ8 11 (.ref a7) _ := (d7.to fun a xs _ hx => ⟨id, hx⟩).ex (e7.trans e8)
    have d8 : Dt NB σ8 11 (.ref a8) _ := (d8.to fun a xs _ hx => ⟨id, hx⟩).ex e8
    have t7 := (e7.trans e8).get t7
    have t8 := e8.get t8
    refine c_neD (Dt.three (B := NB) (m := 11) id t7 (.int _ _) (PL.dt id q7) d7) (Dt.three (B := NB) id t8 (.int _ _) (PL.dt id q8) d8) ?_
    with_reducible (refine k_tru ?_; refine k_no ?_; refine t_cmp ?_; refine x_idxA (by with_unfolding_all rfl) (by with_unfolding_all rfl) ?_)
    refine x_it (v := .ref p7) t7 (by walk_at "o") rfl ?_
    with_reducible (refine x_atom (by with_unfolding_all rfl) ?_)
    refine c_neD (PL.dt (B := NB) (m := 11) id q7) (PL.dt (B := NB) id p9) ?_
    with_reducible (refine k_tru ?_; refine k_no ?_; refine s_expr ?_; refine x_m1 ?_; refine x_callA (by with_unfolding_all rfl) ?_)
    have p8 : 0 < σ8.length := e58.pos p5
    refine w_foretold F (dn5.ex e58) p8 fun σ9 aa Ta e9 laa pa _ _ => ?_
    with_reducible (refine x_isRef ?_; refine x_neg ?_)
    refine b_app (by walk_at "o") pa (by simp [lim]; walk_at "o") ?_
    (with_reducible (refine s_set ?_; refine x_callA (by with_unfolding_all rfl) ?_); dsimp only [put])
    have ea : Ex σ8 (σ9.set aa (((List.range rows.length).map fun w => nv (Ta w)) ++ [.int (-1)])) := e9.set laa
    generalize σ9.set aa (((List.range rows.length).map fun w => nv (Ta w)) ++ [.int (-1)]) = σa at ea
    have e5a := e58.trans ea
    refine w_foretold F (dn5.ex e5a) (e5a.pos p5) fun σb ab Tb eb lab pb Gb Sb => ?_
    have e5b := e5a.trans eb
    with_reducible (refine s_if1 ?_; refine t_or ?_; refine t_not ?_; refine t_isinst ?_; refine x_atom (by with_unfolding_all rfl) ?_; refine x_kd (by with_unfolding_all rfl) ?_; refine k_nyes ?_; refine t_cmpA (by with_unfolding_all rfl) (by with_unfolding_all rfl) ?_)
    have pb' : PL σb ab rows.length T := pb.same fun w hw => G.uniq S Gb Sb hw
    have p9b := p9.ex (ea.trans eb)
    refine c_neD (PL.dt (B := NB) (m := 11) id pb') (PL.dt (B := NB) id p9b) ?_
    with_reducible (refine k_tru ?_; refine k_no ?_; refine s_for ?_; refine r_listA (by with_unfolding_all rfl) ?_)
    refine r_lsK pb ?_
    refine forL_rule (fun i m σ' => Mini.Cj2 (σ' = σb) (∃ u11, m = [some (.ref 0), some (.ref dr), some (.ref ga), some (.ref ra), some (.int rows.length), some (.ref wa), some (.ref b6), some (.ref b7), some (.ref b8), some (.ref a9), some (.ref ab), u11, none, none, none])) ⟨rfl, _, rfl⟩ ?_ ?_
    · rintro i v m σc K hv ⟨hσ, u11, rfl⟩ hK
      rw [hσ]
      clear hσ
      refine ⟨pb, _, rfl, ?_⟩
      have hi : i < rows.length := by have := lt_of_get hv; simpa using this
      rw [rg_get hi] at hv
      cases hv
      (with_reducible (refine s_if1 ?_; refine t_not ?_; refine t_callA (by with_unfolding_all rfl) ?_); dsimp only [put])
      refine w_wholeR F ?_
      with_reducible (refine k_tru ?_; refine k_nyes ?_; refine s_nil ?_)
      exact hK _ _ ⟨rfl, _, rfl⟩
    rintro m σc ⟨hσ, u11, rfl⟩
    rw [hσ]
    clear hσ
    refine ⟨pb, ?_⟩
    have sb := e5b.get s5
    with_reducible (refine s_if1 ?_; refine t_cmp ?_; refine x_bin ?_; refine x_bin ?_; refine x_callA (by with_unfolding_all rfl) ?_)
    refine d_cellAt F.d.f (k := 6) sb fun c7 => ?_
    with_reducible (refine x_atom (by with_unfolding_all rfl) ?_; refine b_fdiv (by decide) ?_; refine x_atom (by with_unfolding_all rfl) ?_; refine b_mod (by decide) ?_; refine x_atom (by with_unfolding_all rfl) ?_; refine e_eq ?_; refine k_tru ?_)
    have fin : ∀ σd u1, Ex σb σd → WSs (callW Φ (n + 8)) [
      .set 2 (.call 46 [(.var 2), (.call 31 [(.var 0), (.int (6))])]),
      .ret (.and (.cmp .eq (.idx (.call 45 [(.var 2), (.var 3), (.var 6)]) (.int (1))) (.var 9)) (.cmp .eq (.call 26 [(.var 2), (.var 3)]) (.var 9)))] x
      [some (.ref 0), u1, some (.ref ga), some (.ref ra), some (.int rows.length), some (.ref wa), some (.ref b6), some (.ref b7), some (.ref b8), some (.ref a9), some (.ref ab), u11, none, none, none] σd (fun _ σ => (fun v _ => v = V.bool true) .none σ) (fun v _ => v = .bool true) := fun σd u1 ed => by
      have e5d := e5b.trans ed
      (with_reducible (refine s_set ?_; refine x_call ?_; refine l_cons ?_; refine x_atom (by with_unfolding_all rfl) ?_; refine l_cons ?_; refine x_callA (by with_unfolding_all rfl) ?_); dsimp only [put])
      refine d_cellAt F.d.f (k := 6) (e5d.get s5) fun c8 => ?_
      with_reducible (refine l_atoms (by with_unfolding_all rfl) ?_)
      refine w_kinds F (dn5.ex e5d) (e5d.pos p5) fun σe ge gs ee kn dne => ?_
      have e5e := e5d.trans ee
      have Gk := G.kinds kn.members kn.len
      have Sk := S.kinds kn.members
      with_reducible (refine s_ret ?_; refine x_and ?_; refine x_cmp ?_; refine x_idx ?_; refine x_callA (by with_unfolding_all rfl) ?_)
      refine w_run F dne (e5e.pos p5) (e5e.get t5) l7lt (by walk_at "o") fun σf bf pf af ef' _ _ _ tf qf _ => ?_
      have f3 := dne.ok.fin l7lt
      have qf := qf.same fun w hw => (f3.at_ dne.ok Gk Sk w hw).symm
      with_reducible (refine x_atom (by with_unfolding_all rfl) ?_)
      refine x_it (v := .ref pf) tf (by walk_at "o") rfl ?_
      with_reducible (refine x_atom (by with_unfolding_all rfl) ?_)
      have p9f := p9b.ex ((ed.trans ee).trans ef')
      refine c_eqD (PL.dt (B := NB) (m := 11) id qf) (PL.dt (B := NB) id p9f) ?_
      with_reducible (refine k_tru ?_; refine k_yes ?_; refine x_cmp ?_; refine x_callA (by with_unfolding_all rfl) ?_)
      refine w_foretold F (dne.ex ef') ((e5e.trans ef').pos p5) fun σg ag Tg eg _ pg Gg Sg => ?_
      with_reducible (refine x_atom (by with_unfolding_all rfl) ?_)
      refine c_eqD (PL.dt (B := NB) (m := 11) id (pg.same fun w hw => Gk.uniq Sk Gg Sg hw)) (PL.dt (B := NB) id (p9f.ex eg)) ?_
      rfl
    refine k_dec (fun z => ?_) fun z => ?_
    · (with_reducible (refine s_set ?_; refine x_call ?_; refine l_cons ?_; refine x_callA (by with_unfolding_all rfl) ?_); dsimp only [put])
      refine d_cellAt F.d.f (k := 5) sb fun c8 => ?_
      with_reducible (refine l_atoms (by with_unfolding_all rfl) ?_)
      refine w_line F (e5b.pos p5) fun σd ad' gd rd gtd rwd ed td dd => ?_
      with_reducible (refine s_if1 ?_; refine t_cmp ?_; refine x_call ?_; refine l_cons ?_; refine x_idxA (by with_unfolding_all rfl) (by with_unfolding_all rfl) ?_)
      refine x_it (v := .ref gd) td (by walk_at "o") rfl ?_
      with_reducible (refine l_cons ?_; refine x_idxA (by with_unfolding_all rfl) (by with_unfolding_all rfl) ?_)
      refine x_it (v := .ref rd) td (by walk_at "o") rfl ?_
      with_reducible (refine l_atoms (by with_unfolding_all rfl) ?_)
      have pd := (e5b.trans ed).pos p5
      refine w_foretold F dd pd fun σe ae Te ee _ pe Ge Se => ?_
      with_reducible (refine x_call ?_; refine l_cons ?_; refine x_idxA (by with_unfolding_all rfl) (by with_unfolding_all rfl) ?_)
      refine x_it (v := .ref gd) (ee.get td) (by walk_at "o") rfl ?_
      with_reducible (refine l_cons ?_; refine x_idxA (by with_unfolding_all rfl) (by with_unfolding_all rfl) ?_)
      refine x_it (v := .ref rd) (ee.get td) (by walk_at "o") rfl ?_
      with_reducible (refine l_atoms (by with_unfolding_all rfl) ?_)
      refine w_due F (dd.ex ee) (ee.pos pd) fun σf af Tf ef' _ pf Gf Sf => ?_
      refine c_neD (PL.dt (B := NB) (m := 11) id ((pe.same fun w hw => Gf.uniq Sf Ge Se hw).ex ef')) (PL.dt (B := NB) id pf) ?_
      refine k_tru (k_no ?_)
      exact fin _ _ ((ed.trans ee).trans ef')
    · exact fin _ _ Ex.refl
  refine k_dec (fun z => ?_) fun z => ?_
  · with_reducible (refine s_expr ?_; refine x_m0 ?_; refine x_atom (by with_unfolding_all rfl) ?_)
    refine ⟨_, by walk_at "o", t4, ?_⟩
    have ag : Ag (· = b6) σ4 (σ4.set b6 ((l6.map nv).reverse)) := Ag.set rfl
    have x4 : Ex σ1 (σ4.set b6 ((l6.map nv).reverse)) := ((e14.ag (B := (· = b6))).trans ag).toEx fun a y => by walk_at "o"
    exact main _ l6.reverse x4 (get_set_ne (by walk_at "o") hw4) (by (rw [get_set_eq (lt_of_get t4)]; rw [List.map_reverse])) (fun w hw => l6lt w (List.mem_reverse.mp hw)) (by rw [List.length_reverse]; exact l6n)
  · exact main _ l6 e14 hw4 t4 l6lt l6n
end
end Mini
open PySem PySem.W PyProof.Rows
namespace Mini
noncomputable def dv : DefRec := (recsOf qv)[47]?.getD ⟨"", ⟨[], [], none, [], [], none, []⟩, [], ⟨.function, [], false, false, []⟩, ⟨0, 0, 0, 0⟩⟩
end Mini
open Mini in
set_option maxRecDepth 100000 in
set_option maxHeartbeats 8000000 in
theorem PySem.Challenge.cw_uf030039_11_holds : PySem.Challenge.rw_uf030039_11.Holds := by
  w_on
  refine PySem.W.holds_law (by decide +kernel) fun said => ?_
  refine holds_open (r := PySem.Challenge.rw_uf030039_11.row) (q := qv) (loose := []) (Xt := xv) (XP := XL qv []) (Yf := Hook.none.obs) (Ya := Hook.none.val) (YP := Hook.none.says) (d := dv) (kwd := []) (N := 20000) left0 Hook.none.of Hook.none.keeps (fun s e => xl_of s (Bool.and_eq_true_iff.mp e).1) XL.keeps (by kernel_rfl) (by kernel_rfl) (by kernel_rfl) (fun s e => recFacts_of (Bool.and_eq_true_iff.mp e).2) (by rfl) said (by decide +kernel) ⟨rfl, rfl, rfl, rfl, rfl, by decide +kernel⟩ ?hw ?hc
  case hw => w_witness2
  intro w s₀ s₁ mg mb G Y fa o pm cd doc dV kV ho hd hcd hD hmg hg args vals as hpre hlay hrd hwl hlo
  refine Ground.open G ?_
  intro T B D TE TW
  wrow_args hpre hlay hrd hwl hlo
  refine enter_call ?_
  rename_i is _ _ _ _ _ _ _ a vs _ hL _ hw _ hI _ hlen _
  exact Mini.law_hall (l := PySem.Challenge.rw_uf030039_11) (consts := [("MOST", 12), ("LONGEST", 40)]) (n := 12) T TE (by kernel_rfl) (by kernel_rfl) (by kernel_rfl) hw hL hI (by omega) hg hmg (li := 47) (by kernel_rfl) (by omega)
    (Mini.w_law11 (n := 3) ⟨⟨by kernel_rfl, by kernel_rfl, by kernel_rfl, by kernel_rfl, by kernel_rfl, by kernel_rfl, by kernel_rfl, by kernel_rfl, by kernel_rfl, by kernel_rfl, by kernel_rfl, by kernel_rfl, by kernel_rfl, by kernel_rfl, by kernel_rfl, by kernel_rfl, by kernel_rfl, by kernel_rfl, by kernel_rfl, by kernel_rfl, by kernel_rfl, by kernel_rfl⟩,
      ⟨by kernel_rfl, by kernel_rfl, by kernel_rfl⟩, ⟨⟨by kernel_rfl, by kernel_rfl, by kernel_rfl, by kernel_rfl, by kernel_rfl, by kernel_rfl⟩, by kernel_rfl, by kernel_rfl, by kernel_rfl⟩,
      by kernel_rfl, by kernel_rfl, by kernel_rfl, by kernel_rfl, by kernel_rfl, by kernel_rfl, by kernel_rfl, by kernel_rfl, by kernel_rfl, by kernel_rfl, by kernel_rfl, by kernel_rfl, by kernel_rfl⟩ (by kernel_rfl) (by omega))
