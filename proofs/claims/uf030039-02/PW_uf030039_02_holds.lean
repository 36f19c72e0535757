import PyProof.Rows.All
import Wide.All
import Open.Line
import Wide.FinOn
import Open.Row
import PyProof.CallI
import PyProof.CallType
import PyProof.Cells
import PyProof.CompFree
import PyProof.CompMap
import PyProof.Conv_int_bool
import PyProof.DefCall
import PyProof.EnumFor
import PyProof.FactsAll.list_3
import PyProof.IsRules
import PyProof.IsiHeapPairs
import PyProof.IsiNone
import PyProof.IsiPairs
import PyProof.ListCopy
import PyProof.ListIndex
import PyProof.ListIndexNeg
import PyProof.ListOps
import PyProof.ListRange
import PyProof.MeetsSeq
import PyProof.NeData
import PyProof.P3Eq
import PyProof.P3In
import PyProof.Raises
import PyProof.RangeFor
import PyProof.Rows.AttrNodeAny
import PyProof.Rows.CellsFrame
import PyProof.Rows.Chain
import PyProof.Rows.Frame
import PyProof.Rows.IntRules
import PyProof.Rows.ListMul
import PyProof.Rows.Lst
import PyProof.Rows.Nodes
import PyProof.Rows.RuleB_floordiv
import PyProof.Rows.RuleB_mod
import PyProof.Rows.RuleB_mul
import PyProof.Rows.RuleB_pow
import PyProof.Rows.RuleC_int
import PyProof.Rows.RuleU_int
import PyProof.Rows.StrTemp
import PyProof.Rows.Top
import PyProof.Rows.Tup
import PyProof.Rows.TupSub
import PyProof.RulesAssignMore
import PyProof.RulesMatch
import PyProof.RulesRaise
import PyProof.SliceList
import PyProof.TupleIter
import PyProof.TupleOps
import PyProof.WalkInts
import PyProof.WalksMore
import PyProof.ZipIter
import Wide.BridgeG
import Wide.Well
import PySem.Challenge.RW_uf030039_02
set_option Elab.async false
set_option autoImplicit false
namespace Mini

/-- abstract values: tuples, instances of Hall and exceptions are plain values; lists live in the heap -/
inductive V where
  | none
  | bool (b : Bool)
  | int (i : Int)
  | str (k : Nat)
  | ref (a : Nat)
  | tup (xs : List V)
  | inst (xs : List V)
  | exc (c : Nat)

/-- the abstract heap: the lists; 0 is the script, never changed -/
abbrev H := List (List V)
/-- the locals -/
abbrev M := List (Option V)
/-- pure data, a bool being the int that it equals -/
inductive D where
  | none
  | int (i : Int)
  | str (k : Nat)
  | list (xs : List D)
  | tup (xs : List D)

noncomputable def lim : Nat := 16777216

inductive Bin where
  | add | sub | mul | fdiv | mod | pow
inductive Cmp where
  | eq | ne | lt | le | gt | ge | is | isNot | inn | notIn
inductive Kd where
  | int | bool | list | tup | str | inst
inductive B1 where
  | len | list | intOf | sum | max
inductive M0 where
  | reverse | clear
inductive M1 where
  | append | pop | count | index

mutual
inductive E where
  | none
  | bool (b : Bool)
  | int (i : Int)
  | str (k : Nat)
  | var (x : Nat)
  | bin (o : Bin) (a b : E)
  | neg (a : E)
  | not (a : E)
  | and (a b : E)
  | or (a b : E)
  | cmp (o : Cmp) (a b : E)
  | cmp2 (o : Cmp) (a b : E) (p : Cmp) (c : E)
  | ite (t a b : E)
  | call (f : Nat) (as : List E)
  | hall (as : List E)
  | b1 (f : B1) (a : E)
  | max2 (a b : E)
  | listRange (a : E)
  | isinst (a : E) (k : Kd)
  | isexc (a : E) (ks : List Nat)
  | attr (a : E) (k : Nat)
  | idx (a b : E)
  | from_ (a b : E)
  | upto (a b : E)
  | disp (as : List E)
  | tup (as : List E)
  | m0 (f : M0) (a : E)
  | m1 (f : M1) (a b : E)
  | comp (elt : E) (x : Nat) (src : Src)
  | compIf (elt : E) (x : Nat) (src : Src) (test : E)
inductive Src where
  | list (a : E)
  | range (a : E)
  | rev (a : E)
  | enum (a : E)
  | zip (a b : E)
end

inductive S where
  | set (x : Nat) (e : E)
  | unpack (xs : List Nat) (e : E)
  | put (a i e : E)
  | expr (e : E)
  | ite (t : E) (a b : List S)
  | while (t : E) (b : List S)
  | for (xs : List Nat) (src : Src) (b : List S)
  | ret (e : E)
  | raise (c : Nat)
  | try (b : List S) (hs : List (Nat × Option Nat × List S))

structure Fn where
  np : Nat
  ns : Nat
  body : List S

noncomputable def get : M → Nat → Option V
  | [], _ => .none
  | v :: _, 0 => v
  | _ :: m, n + 1 => get m n
noncomputable def put : M → Nat → V → M
  | [], _, _ => []
  | _ :: m, 0, v => some v :: m
  | w :: m, n + 1, v => w :: put m n v
noncomputable def puts : M → List Nat → List V → Option M
  | m, [], [] => some m
  | m, x :: xs, v :: vs => puts (put m x v) xs vs
  | _, _, _ => .none

noncomputable def mapO {α β : Type} (f : α → Option β) : List α → Option (List β)
  | [] => some []
  | v :: vs => match f v, mapO f vs with
    | some d, some ds => some (d :: ds)
    | _, _ => .none

noncomputable def snap : Nat → H → V → Option D
  | n, σ, v => match v with
    | .none => some .none
    | .bool b => some (.int (if b then 1 else 0))
    | .int i => some (.int i)
    | .str k => some (.str k)
    | .ref a => match n with
      | 0 => .none
      | n + 1 => match σ[a]? with
        | some xs => (mapO (snap n σ) xs).map .list
        | .none => .none
    | .tup xs => match n with
      | 0 => .none
      | n + 1 => (mapO (snap n σ) xs).map .tup
    | .inst _ => .none
    | .exc _ => .none

abbrev P := V → H → Prop
abbrev X := Nat → H → Prop
abbrev Cal := Nat → List V → H → P → X → Prop

noncomputable def alloc (xs : List V) (σ : H) (Q : P) : Prop := xs.length ≤ lim ∧ Q (.ref σ.length) (σ ++ [xs])

noncomputable def binop : Bin → V → V → H → P → Prop
  | .add, .int a, .int b, σ, Q => Q (.int (a + b)) σ
  | .sub, .int a, .int b, σ, Q => Q (.int (a - b)) σ
  | .mul, .int a, .int b, σ, Q => (-(2 ^ 63) < b ∧ b < 2 ^ 63) ∧ Q (.int (a * b)) σ
  | .fdiv, .int a, .int b, σ, Q => (0 < b ∧ b < 1073741824) ∧ Q (.int (a / b)) σ
  | .mod, .int a, .int b, σ, Q => 0 < b ∧ Q (.int (a % b)) σ
  | .pow, .int a, .int b, σ, Q => (a = 10 ∧ (b = 7 ∨ b = 9)) ∧ Q (.int (a ^ b.toNat)) σ
  | .add, .ref a, .ref b, σ, Q => ∃ xs ys, σ[a]? = some xs ∧ σ[b]? = some ys ∧ alloc (xs ++ ys) σ Q
  | .mul, .ref a, .int k, σ, Q => ∃ xs, σ[a]? = some xs ∧ k < 2 ^ 24 ∧ -(2 ^ 24) < k ∧ alloc (List.replicate k.toNat xs).flatten σ Q
  | _, _, _, _, _ => False

noncomputable def truthy (K : Bool → H → Prop) : V → H → Prop
  | .bool b, σ => K b σ
  | _, _ => False

noncomputable def cmpop : Cmp → V → V → H → P → Prop
  | .eq, a, b, σ, Q => ∃ d e, snap 12 σ a = some d ∧ snap 12 σ b = some e ∧ ∀ c : Bool, (c = true ↔ d = e) → Q (.bool c) σ
  | .ne, a, b, σ, Q => ∃ d e, snap 12 σ a = some d ∧ snap 12 σ b = some e ∧ ∀ c : Bool, (c = true ↔ ¬ d = e) → Q (.bool c) σ
  | .lt, .int a, .int b, σ, Q => Q (.bool (decide (a < b))) σ
  | .le, .int a, .int b, σ, Q => Q (.bool (decide (a ≤ b))) σ
  | .gt, .int a, .int b, σ, Q => Q (.bool (decide (b < a))) σ
  | .ge, .int a, .int b, σ, Q => Q (.bool (decide (b ≤ a))) σ
  | .is, a, .none, σ, Q => ∀ c : Bool, (c = true ↔ a = .none) → Q (.bool c) σ
  | .isNot, a, .none, σ, Q => ∀ c : Bool, (c = true ↔ ¬ a = .none) → Q (.bool c) σ
  | .isNot, .bool a, .bool b, σ, Q => Q (.bool (a != b)) σ
  | .inn, a, .ref b, σ, Q => ∃ d xs ds, snap 12 σ a = some d ∧ σ[b]? = some xs ∧ mapO (snap 11 σ) xs = some ds ∧ ∀ c : Bool, (c = true ↔ d ∈ ds) → Q (.bool c) σ
  | .notIn, a, .ref b, σ, Q => ∃ d xs ds, snap 12 σ a = some d ∧ σ[b]? = some xs ∧ mapO (snap 11 σ) xs = some ds ∧ ∀ c : Bool, (c = true ↔ ¬ d ∈ ds) → Q (.bool c) σ
  | .inn, a, .tup xs, σ, Q => ∃ d ds, snap 12 σ a = some d ∧ mapO (snap 11 σ) xs = some ds ∧ ∀ c : Bool, (c = true ↔ d ∈ ds) → Q (.bool c) σ
  | .notIn, a, .tup xs, σ, Q => ∃ d ds, snap 12 σ a = some d ∧ mapO (snap 11 σ) xs = some ds ∧ ∀ c : Bool, (c = true ↔ ¬ d ∈ ds) → Q (.bool c) σ
  | _, _, _, _, _ => False

/-- isinstance, as far as it is asked -/
noncomputable def isKd : Kd → V → Option Bool
  | .int, .int _ => some true
  | .bool, .int _ => some false
  | .bool, .none => some false
  | .bool, .bool _ => some true
  | .list, .ref _ => some true
  | .list, .int _ => some false
  | .tup, .tup _ => some true
  | .str, .str _ => some true
  | .inst, .inst _ => some true
  | _, _ => .none
/-- an exception's class is this one, or one above: 100 HallError, 101 ValueError -/
noncomputable def excSub (c d : Nat) : Bool := c == d || d == 100 || d == 101

noncomputable def bi1 : B1 → V → H → P → Prop
  | .len, .ref a, σ, Q => ∃ xs, σ[a]? = some xs ∧ Q (.int xs.length) σ
  | .len, .tup xs, σ, Q => xs.length ≤ lim ∧ Q (.int xs.length) σ
  | .list, .ref a, σ, Q => ∃ xs, σ[a]? = some xs ∧ alloc xs σ Q
  | .intOf, .bool b, σ, Q => Q (.int (if b then 1 else 0)) σ
  | .sum, .ref a, σ, Q => ∃ (xs : List V) (is : List Int), σ[a]? = some xs ∧ xs = is.map V.int ∧ Q (.int is.sum) σ
  | .max, .ref a, σ, Q => ∃ (xs : List V) (i : Int) (is : List Int), σ[a]? = some xs ∧ xs = (i :: is).map V.int ∧ Q (.int (is.foldl max i)) σ
  | _, _, _, _ => False

noncomputable def me0 : M0 → V → H → P → Prop
  | .reverse, .ref a, σ, Q => ∃ xs, a ≠ 0 ∧ σ[a]? = some xs ∧ Q .none (σ.set a xs.reverse)
  | .clear, .ref a, σ, Q => ∃ xs, a ≠ 0 ∧ σ[a]? = some xs ∧ Q .none (σ.set a [])
  | _, _, _, _ => False

noncomputable def me1 : M1 → V → V → H → P → Prop
  | .append, .ref a, v, σ, Q => ∃ xs, a ≠ 0 ∧ σ[a]? = some xs ∧ xs.length < lim ∧ Q .none (σ.set a (xs ++ [v]))
  | .pop, .ref a, .int k, σ, Q => ∃ xs v, a ≠ 0 ∧ σ[a]? = some xs ∧ 0 ≤ k ∧ xs[k.toNat]? = some v ∧ Q v (σ.set a (xs.eraseIdx k.toNat))
  | .count, .ref a, .int i, σ, Q => ∃ (xs : List V) (is : List Int), σ[a]? = some xs ∧ xs = is.map V.int ∧ Q (.int (is.count i)) σ
  | .index, .ref a, .int i, σ, Q => ∃ (xs : List V) (is : List Int), σ[a]? = some xs ∧ xs = is.map V.int ∧ i ∈ is ∧ Q (.int (is.idxOf i)) σ
  | _, _, _, _, _ => False

noncomputable def isRef : V → Prop
  | .ref _ => True
  | _ => False

noncomputable def item : V → V → H → P → Prop
  | .ref a, .int k, σ, Q => ∃ xs v, σ[a]? = some xs ∧ ((0 ≤ k ∧ xs[k.toNat]? = some v) ∨ (k < 0 ∧ 0 ≤ k + xs.length ∧ xs[(k + xs.length).toNat]? = some v)) ∧ Q v σ
  | .tup xs, .int k, σ, Q => (0 ≤ k ∧ k < 2 ^ 62) ∧ ∃ v, xs[k.toNat]? = some v ∧ Q v σ
  | _, _, _, _ => False

noncomputable def sliceFrom : V → V → H → P → Prop
  | .ref a, .int k, σ, Q => ∃ xs, σ[a]? = some xs ∧ 0 ≤ k ∧ alloc (xs.drop k.toNat) σ Q
  | _, _, _, _ => False
noncomputable def sliceTo : V → V → H → P → Prop
  | .ref a, .int k, σ, Q => ∃ xs, σ[a]? = some xs ∧ 0 ≤ k ∧ alloc (xs.take k.toNat) σ Q
  | _, _, _, _ => False

noncomputable def field : V → Nat → H → P → Prop
  | .inst xs, k, σ, Q => ∃ v, xs[k]? = some v ∧ Q v σ
  | _, _, _, _ => False

noncomputable def rangeV (n : Int) : List V := (List.range n.toNat).map fun (i : Nat) => V.int (i : Int)
noncomputable def enumV (k : Nat) : List V → List V
  | [] => []
  | v :: vs => .tup [.int k, v] :: enumV (k + 1) vs
noncomputable def zipV : List V → List V → List V
  | x :: xs, y :: ys => .tup [x, y] :: zipV xs ys
  | _, _ => []

noncomputable def compL (T : V → H → (Bool → H → Prop) → Prop) (F : V → H → P → Prop) (ok : H → Prop) : List V → List V → H → P → Prop
  | [], acc, σ, Q => ok σ ∧ alloc acc σ Q
  | v :: vs, acc, σ, Q => ok σ ∧ T v σ fun b σ => if b then F v σ fun r σ => acc.length < lim ∧ compL T F ok vs (acc ++ [r]) σ Q else compL T F ok vs acc σ Q

mutual
noncomputable def WE (c : Cal) (x : X) : E → M → H → P → Prop
  | .none, _, σ, Q => Q .none σ
  | .bool b, _, σ, Q => Q (.bool b) σ
  | .int i, _, σ, Q => Q (.int i) σ
  | .str k, _, σ, Q => Q (.str k) σ
  | .var y, m, σ, Q => ∃ v, get m y = some v ∧ Q v σ
  | .bin o a b, m, σ, Q => WE c x a m σ fun v σ => WE c x b m σ fun w σ => binop o v w σ Q
  | .neg a, m, σ, Q => WE c x a m σ fun v σ => match v with
    | .int i => Q (.int (-i)) σ
    | _ => False
  | .not a, m, σ, Q => WE c x a m σ (truthy fun b σ => Q (.bool (!b)) σ)
  | .and a b, m, σ, Q => WE c x a m σ (truthy fun t σ => if t then WE c x b m σ Q else Q (.bool false) σ)
  | .or a b, m, σ, Q => WE c x a m σ (truthy fun t σ => if t then Q (.bool true) σ else WE c x b m σ Q)
  | .cmp o a b, m, σ, Q => WE c x a m σ fun v σ => WE c x b m σ fun w σ => cmpop o v w σ Q
  | .cmp2 o a b p d, m, σ, Q => WE c x a m σ fun v σ => WE c x b m σ fun w σ => cmpop o v w σ (truthy fun t σ => if t then WE c x d m σ fun u σ => cmpop p w u σ Q else Q (.bool false) σ)
  | .ite t a b, m, σ, Q => WT c x t m σ fun q σ => if q then WE c x a m σ Q else WE c x b m σ Q
  | .call f as, m, σ, Q => WEs c x as m σ fun vs σ => c f vs σ Q x
  | .hall as, m, σ, Q => WEs c x as m σ fun vs σ => vs.length = 5 ∧ Q (.inst vs) σ
  | .b1 f a, m, σ, Q => WE c x a m σ fun v σ => bi1 f v σ Q
  | .max2 a b, m, σ, Q => WE c x a m σ fun v σ => WE c x b m σ fun w σ => match v, w with
    | .int i, .int j => Q (.int (max i j)) σ
    | _, _ => False
  | .listRange a, m, σ, Q => WE c x a m σ fun v σ => match v with
    | .int n => (0 ≤ n ∧ n < 2 ^ 24) ∧ alloc (rangeV n) σ Q
    | _ => False
  | .isinst a k, m, σ, Q => WE c x a m σ fun v σ => ∃ b, isKd k v = some b ∧ Q (.bool b) σ
  | .isexc a ks, m, σ, Q => WE c x a m σ fun v σ => match v with
    | .exc c => Q (.bool (ks.any (excSub c))) σ
    | _ => False
  | .attr a k, m, σ, Q => WE c x a m σ fun v σ => field v k σ Q
  | .idx a b, m, σ, Q => WE c x a m σ fun v σ => WE c x b m σ fun w σ => item v w σ Q
  | .from_ a b, m, σ, Q => WE c x a m σ fun v σ => WE c x b m σ fun w σ => sliceFrom v w σ Q
  | .upto a b, m, σ, Q => WE c x a m σ fun v σ => WE c x b m σ fun w σ => sliceTo v w σ Q
  | .disp as, m, σ, Q => WEs c x as m σ fun vs σ => alloc vs σ Q
  | .tup as, m, σ, Q => WEs c x as m σ fun vs σ => Q (.tup vs) σ
  | .m0 f a, m, σ, Q => WE c x a m σ fun v σ => me0 f v σ Q
  | .m1 f a b, m, σ, Q => WE c x a m σ fun v σ => isRef v ∧ WE c x b m σ fun w σ => me1 f v w σ Q
  | .comp e y s, m, σ, Q => WSrc c x s m σ fun its ok σ => compL (fun _ σ K => K true σ) (fun v σ Q => WE c x e (put m y v) σ Q) ok its [] σ Q
  | .compIf e y s t, m, σ, Q => WSrc c x s m σ fun its ok σ => compL (fun v σ K => WT c x t (put m y v) σ K) (fun v σ Q => WE c x e (put m y v) σ Q) ok its [] σ Q
noncomputable def WT (c : Cal) (x : X) : E → M → H → (Bool → H → Prop) → Prop
  | .not a, m, σ, K => WT c x a m σ fun b σ => K (!b) σ
  | .and a b, m, σ, K => WT c x a m σ fun t σ => if t then WT c x b m σ K else K false σ
  | .or a b, m, σ, K => WT c x a m σ fun t σ => if t then K true σ else WT c x b m σ K
  | .cmp o a b, m, σ, K => WE c x a m σ fun v σ => WE c x b m σ fun w σ => cmpop o v w σ (truthy K)
  | .cmp2 o a b p d, m, σ, K => WE c x a m σ fun v σ => WE c x b m σ fun w σ => cmpop o v w σ (truthy fun t σ => if t then WE c x d m σ fun u σ => cmpop p w u σ (truthy K) else K false σ)
  | .bool b, _, σ, K => K b σ
  | .var y, m, σ, K => ∃ v, get m y = some v ∧ truthy K v σ
  | .call f as, m, σ, K => WEs c x as m σ fun vs σ => c f vs σ (truthy K) x
  | .isinst a k, m, σ, K => WE c x a m σ fun v σ => ∃ b, isKd k v = some b ∧ K b σ
  | _, _, _, _ => False
noncomputable def WEs (c : Cal) (x : X) : List E → M → H → (List V → H → Prop) → Prop
  | [], _, σ, K => K [] σ
  | e :: es, m, σ, K => WE c x e m σ fun v σ => WEs c x es m σ fun vs σ => K (v :: vs) σ
noncomputable def WSrc (c : Cal) (x : X) : Src → M → H → (List V → (H → Prop) → H → Prop) → Prop
  | .list a, m, σ, K => WE c x a m σ fun v σ => match v with
    | .ref a => ∃ xs, σ[a]? = some xs ∧ K xs (fun σ => σ[a]? = some xs) σ
    | _ => False
  | .range a, m, σ, K => WE c x a m σ fun v σ => match v with
    | .int n => (0 ≤ n ∧ n < 2 ^ 24) ∧ K (rangeV n) (fun _ => True) σ
    | _ => False
  | .rev a, m, σ, K => WE c x a m σ fun v σ => match v with
    | .int n => (0 ≤ n ∧ n < 2 ^ 24) ∧ K (rangeV n).reverse (fun _ => True) σ
    | _ => False
  | .enum a, m, σ, K => WE c x a m σ fun v σ => match v with
    | .ref a => ∃ xs, σ[a]? = some xs ∧ K (enumV 0 xs) (fun σ => σ[a]? = some xs) σ
    | _ => False
  | .zip a b, m, σ, K => WE c x a m σ fun v σ => WE c x b m σ fun w σ => match v, w with
    | .ref a, .ref b => ∃ xs ys, σ[a]? = some xs ∧ σ[b]? = some ys ∧ K (zipV xs ys) (fun σ => σ[a]? = some xs ∧ σ[b]? = some ys) σ
    | _, _ => False
end

noncomputable def whileN (T : M → H → (Bool → H → Prop) → Prop) (B : M → H → (M → H → Prop) → Prop) (N : M → H → Prop) : Nat → M → H → Prop
  | 0, _, _ => False
  | n + 1, m, σ => T m σ fun b σ => if b then B m σ (whileN T B N n) else N m σ
noncomputable def bindV : List Nat → M → V → Option M
  | [x], m, v => some (put m x v)
  | xs, m, .tup vs => puts m xs vs
  | _, _, _ => .none
noncomputable def forL (B : M → H → (M → H → Prop) → Prop) (xs : List Nat) (ok : H → Prop) (N : M → H → Prop) : List V → M → H → Prop
  | [], m, σ => ok σ ∧ N m σ
  | v :: vs, m, σ => ok σ ∧ ∃ m', bindV xs m v = some m' ∧ B m' σ (forL B xs ok N vs)

mutual
noncomputable def WS (c : Cal) : S → X → M → H → (M → H → Prop) → P → Prop
  | .set y e, x, m, σ, N, _ => WE c x e m σ fun v σ => N (put m y v) σ
  | .unpack ys e, x, m, σ, N, _ => WE c x e m σ fun v σ => match v with
    | .tup vs => ∃ m', puts m ys vs = some m' ∧ N m' σ
    | _ => False
  | .put a i e, x, m, σ, N, _ => WE c x e m σ fun v σ => WE c x a m σ fun w σ => WE c x i m σ fun k σ => match w, k with
    | .ref a, .int k => ∃ xs, a ≠ 0 ∧ σ[a]? = some xs ∧ 0 ≤ k ∧ k < xs.length ∧ N m (σ.set a (xs.set k.toNat v))
    | _, _ => False
  | .expr e, x, m, σ, N, _ => WE c x e m σ fun _ σ => N m σ
  | .ite t a b, x, m, σ, N, R => WT c x t m σ fun q σ => if q then WSs c a x m σ N R else WSs c b x m σ N R
  | .while t b, x, m, σ, N, R => ∃ n, whileN (fun m σ K => WT c x t m σ K) (fun m σ K => WSs c b x m σ K R) N n m σ
  | .for ys s b, x, m, σ, N, R => WSrc c x s m σ fun its ok σ => forL (fun m σ K => WSs c b x m σ K R) ys ok N its m σ
  | .ret e, x, m, σ, _, R => WE c x e m σ R
  | .raise k, x, _, σ, _, _ => x k σ
  | .try b hs, x, m, σ, N, R => WSs c b (fun k σ => WH c hs k x m σ N R) m σ N R
noncomputable def WSs (c : Cal) : List S → X → M → H → (M → H → Prop) → P → Prop
  | [], _, m, σ, N, _ => N m σ
  | s :: ss, x, m, σ, N, R => WS c s x m σ (fun m σ => WSs c ss x m σ N R) R
noncomputable def WH (c : Cal) : List (Nat × Option Nat × List S) → Nat → X → M → H → (M → H → Prop) → P → Prop
  | [], k, x, _, σ, _, _ => x k σ
  | (k', y, b) :: hs, k, x, m, σ, N, R => if excSub k k' then WSs c b x (match y with | some y => put m y (.exc k) | .none => m) σ N R else WH c hs k x m σ N R
end

noncomputable def start (f : Fn) (vs : List V) : M := vs.map some ++ List.replicate (f.ns - f.np) Option.none
noncomputable def callW (Φ : Nat → Option Fn) : Nat → Cal
  | 0 => fun _ _ _ _ _ => False
  | n + 1 => fun f vs σ Q x => ∃ fn, Φ f = some fn ∧ vs.length = fn.np ∧ WSs (callW Φ n) fn.body x (start fn vs) σ (fun _ σ => Q .none σ) Q

end Mini

set_option autoImplicit false
namespace Mini
open PySem

/-- the words of the programs -/
noncomputable def words : List Str := ["count", "row", "come", "fill", "turn", "look", "pass", "tell", "hear", "wait", "end",
  "", "rows", "Count", "count ", "ROW", "cou", "row7"]

/-- what is known of the run's ground -/
structure Ctx where
  prog : Program
  w : World
  hB : Heap
  mg : Str → Option Value
  mb : Str → Option Value
  Φ : Nat → Option Fn
  fa : Nat → Addr
  hallC : Addr
  fields : List Str

/-- ghosts: the lists' addresses; the addresses of what never changes -/
structure G where
  ρ : List Addr
  ι : Addr → Prop
noncomputable def G.own (g : G) (a : Addr) : Prop := a ∈ g.ρ ∨ g.ι a

noncomputable def isDictOf (o : Obj) (fs : List Str) (vs : List Value) : Prop :=
  ∃ es n, o = { cls := .type "dict", data := .dict es n } ∧ ∃ hk : fs.length = vs.length, es.toList.map (·.val) = vs ∧ ∀ i (hi : i < fs.length), ∃ e t, es.toList[i]? = some e ∧ e.key = .str fs[i] t

mutual
noncomputable def VRel (K : Ctx) (g : G) (h : Heap) : V → Value → Prop
  | .none, w => w = .none
  | .bool b, w => w = .bool b
  | .int i, w => ∃ t, w = .int i t
  | .str k, w => ∃ s t, words[k]? = some s ∧ w = .str s t
  | .ref a, w => ∃ b, g.ρ[a]? = some b ∧ w = .ref b
  | .tup xs, w => ∃ b vs n, w = .ref b ∧ g.ι b ∧ h.get? b = some { cls := .type "tuple", data := .seq vs n } ∧ VRels K g h xs vs.toList
  | .inst xs, w => ∃ b d o vs, w = .ref b ∧ g.ι b ∧ g.ι d ∧ h.get? b = some { cls := .ref K.hallC, dict := some d, data := .plain } ∧ h.get? d = some o ∧ isDictOf o K.fields vs ∧ VRels K g h xs vs
  | .exc _, _ => False
noncomputable def VRels (K : Ctx) (g : G) (h : Heap) : List V → List Value → Prop
  | [], [] => True
  | x :: xs, v :: vs => VRel K g h x v ∧ VRels K g h xs vs
  | _, _ => False
end

structure St (K : Ctx) (g : G) (σ : H) (h : Heap) : Prop where
  base : ∀ b o, K.hB.get? b = some o → h.get? b = some o
  len : g.ρ.length = σ.length
  lists : ∀ (i : Nat) (b : Addr) (xs : List V), g.ρ[i]? = some b → σ[i]? = some xs → ∃ vs n, h.get? b = some { cls := .type "list", data := .seq vs n } ∧ VRels K g h xs vs.toList
  nodup : g.ρ.Nodup
  small : ∀ xs ∈ σ, xs.length ≤ lim
  fresh : ∀ (i : Nat) (b : Addr), g.ρ[i]? = some b → i ≠ 0 → K.hB.get? b = none
  imm : ∀ b, g.ι b → K.hB.get? b = none ∧ b ∉ g.ρ ∧ ∃ o, h.get? b = some o

structure Go (K : Ctx) (g : G) (h : Heap) (g' : G) (σ' : H) (h' : Heap) : Prop where
  st : St K g' σ' h'
  pre : g.ρ <+: g'.ρ
  imm : ∀ b, g.ι b → g'.ι b
  new : ∀ b, g'.own b → g.own b ∨ h.get? b = none
  keep : ∀ b o, h.get? b = some o → b ∉ g.ρ → h'.get? b = some o

section
variable {K : Ctx} {g g' g₁ g₂ : G} {σ σ' σ₁ σ₂ : H} {h h' h₁ h₂ : Heap}

mutual
theorem VRel.mono (hp : ∀ (i : Nat) (b : Addr), g.ρ[i]? = some b → g'.ρ[i]? = some b) (hi : ∀ b, g.ι b → g'.ι b) (hk : ∀ b o, g.ι b → h.get? b = some o → h'.get? b = some o) :
    ∀ (v : V) (w : Value), VRel K g h v w → VRel K g' h' v w
  | .none, _, q => q
  | .bool _, _, q => q
  | .int _, _, q => q
  | .str _, _, q => q
  | .ref _, _, ⟨b, e, q⟩ => ⟨b, hp _ _ e, q⟩
  | .tup xs, _, ⟨b, vs, n, e, i, o, q⟩ => ⟨b, vs, n, e, hi b i, hk _ _ i o, VRels.mono hp hi hk xs _ q⟩
  | .inst xs, _, ⟨b, d, o, vs, e, ib, id, ob, od, dd, q⟩ => ⟨b, d, o, vs, e, hi b ib, hi d id, hk _ _ ib ob, hk _ _ id od, dd, VRels.mono hp hi hk xs _ q⟩
  | .exc _, _, q => q
theorem VRels.mono (hp : ∀ (i : Nat) (b : Addr), g.ρ[i]? = some b → g'.ρ[i]? = some b) (hi : ∀ b, g.ι b → g'.ι b) (hk : ∀ b o, g.ι b → h.get? b = some o → h'.get? b = some o) :
    ∀ (vs : List V) (ws : List Value), VRels K g h vs ws → VRels K g' h' vs ws
  | [], [], _ => trivial
  | v :: vs, w :: ws, ⟨a, b⟩ => ⟨VRel.mono hp hi hk v w a, VRels.mono hp hi hk vs ws b⟩
  | [], _ :: _, q => q.elim
  | _ :: _, [], q => q.elim
end

theorem VRels.length : ∀ {vs : List V} {ws : List Value}, VRels K g h vs ws → vs.length = ws.length
  | [], [], _ => rfl
  | _ :: _, _ :: _, q => congrArg (· + 1) (VRels.length q.2)
  | [], _ :: _, q => q.elim
  | _ :: _, [], q => q.elim
theorem VRels.get : ∀ {vs : List V} {ws : List Value} {i : Nat} {v : V}, VRels K g h vs ws → vs[i]? = some v → ∃ w, ws[i]? = some w ∧ VRel K g h v w
  | _ :: _, w :: _, 0, _, q, e => by cases e; exact ⟨w, rfl, q.1⟩
  | _ :: vs, _ :: ws, i + 1, _, q, e => VRels.get (vs := vs) (ws := ws) (i := i) q.2 (by simpa using e)
  | [], [], _, _, _, e => by simp at e
  | [], _ :: _, _, _, q, _ => q.elim
  | _ :: _, [], _, _, q, _ => q.elim
theorem VRels.append : ∀ {vs vs' : List V} {ws ws' : List Value}, VRels K g h vs ws → VRels K g h vs' ws' → VRels K g h (vs ++ vs') (ws ++ ws')
  | [], _, [], _, _, q => q
  | _ :: _, _, _ :: _, _, p, q => ⟨p.1, VRels.append p.2 q⟩
  | [], _, _ :: _, _, p, _ => p.elim
  | _ :: _, _, [], _, p, _ => p.elim
theorem VRels.take : ∀ {vs : List V} {ws : List Value} (n : Nat), VRels K g h vs ws → VRels K g h (vs.take n) (ws.take n)
  | [], [], n, _ => by simp [VRels]
  | _ :: _, _ :: _, 0, _ => trivial
  | _ :: _, _ :: _, n + 1, p => ⟨p.1, VRels.take n p.2⟩
  | [], _ :: _, _, p => p.elim
  | _ :: _, [], _, p => p.elim
theorem VRels.drop : ∀ {vs : List V} {ws : List Value} (n : Nat), VRels K g h vs ws → VRels K g h (vs.drop n) (ws.drop n)
  | [], [], n, _ => by simp [VRels]
  | _ :: _, _ :: _, 0, p => p
  | _ :: _, _ :: _, n + 1, p => VRels.drop n p.2
  | [], _ :: _, _, p => p.elim
  | _ :: _, [], _, p => p.elim
theorem VRels.set : ∀ {vs : List V} {ws : List Value} (n : Nat) {v : V} {w : Value}, VRels K g h vs ws → VRel K g h v w → VRels K g h (vs.set n v) (ws.set n w)
  | [], [], _, _, _, p, _ => by simpa using p
  | _ :: _, _ :: _, 0, _, _, p, q => ⟨q, p.2⟩
  | _ :: _, _ :: _, n + 1, _, _, p, q => ⟨p.1, VRels.set n p.2 q⟩
  | [], _ :: _, _, _, _, p, _ => p.elim
  | _ :: _, [], _, _, _, p, _ => p.elim
theorem VRels.eraseIdx : ∀ {vs : List V} {ws : List Value} (n : Nat), VRels K g h vs ws → VRels K g h (vs.eraseIdx n) (ws.eraseIdx n)
  | [], [], _, p => by simpa using p
  | _ :: _, _ :: _, 0, p => p.2
  | _ :: _, _ :: _, n + 1, p => ⟨p.1, VRels.eraseIdx n p.2⟩
  | [], _ :: _, _, p => p.elim
  | _ :: _, [], _, p => p.elim
theorem VRels.reverse : ∀ {vs : List V} {ws : List Value}, VRels K g h vs ws → VRels K g h vs.reverse ws.reverse
  | [], [], _ => trivial
  | _ :: _, _ :: _, p => by rw [List.reverse_cons, List.reverse_cons]; exact VRels.append (VRels.reverse p.2) ⟨p.1, trivial⟩
  | [], _ :: _, p => p.elim
  | _ :: _, [], p => p.elim

theorem nodup_inj {l : List Addr} (h : l.Nodup) {i j : Nat} {a : Addr} (hi : l[i]? = some a) (hj : l[j]? = some a) : i = j := by
  obtain ⟨li, ei⟩ := List.getElem?_eq_some_iff.mp hi
  obtain ⟨lj, ej⟩ := List.getElem?_eq_some_iff.mp hj
  have q := List.pairwise_iff_getElem.mp h
  rcases Nat.lt_trichotomy i j with z | z | z
  · exact absurd (ei.trans ej.symm) (q i j li lj z)
  · exact z
  · exact absurd (ej.trans ei.symm) (q j i lj li z)
theorem pre_get {l l' : List Addr} (hp : l <+: l') {i : Nat} {b : Addr} (e : l[i]? = some b) : l'[i]? = some b := by
  obtain ⟨t, rfl⟩ := hp
  rw [List.getElem?_append_left (by
    obtain ⟨hl, _⟩ := List.getElem?_eq_some_iff.mp e; exact hl)]
  exact e

theorem Go.refl (q : St K g σ h) : Go K g h g σ h := ⟨q, List.prefix_refl _, fun _ i => i, fun _ o => .inl o, fun _ _ e _ => e⟩
theorem Go.rel (q : Go K g h g' σ' h') (s : St K g σ h) {v : V} {w : Value} (r : VRel K g h v w) : VRel K g' h' v w :=
  VRel.mono (fun _ _ e => pre_get q.pre e) q.imm (fun b o i e => q.keep b o e (s.imm b i).2.1) v w r
theorem Go.rels (q : Go K g h g' σ' h') (s : St K g σ h) {v : List V} {w : List Value} (r : VRels K g h v w) : VRels K g' h' v w :=
  VRels.mono (fun _ _ e => pre_get q.pre e) q.imm (fun b o i e => q.keep b o e (s.imm b i).2.1) v w r
theorem Go.priv (q : Go K g h g' σ' h') {b : Addr} {o : Obj} (e : h.get? b = some o) (n : ¬ g.own b) : ¬ g'.own b := fun x => by
  rcases q.new b x with y | y
  · exact n y
  · rw [e] at y; cases y
theorem Go.trans (q : Go K g h g₁ σ₁ h₁) (r : Go K g₁ h₁ g₂ σ₂ h₂) : Go K g h g₂ σ₂ h₂ where
  st := r.st
  pre := q.pre.trans r.pre
  imm := fun b i => r.imm b (q.imm b i)
  new := fun b o => by
    rcases r.new b o with x | x
    · exact q.new b x
    · cases e : h.get? b with
      | none => exact .inr rfl
      | some ob =>
        by_cases hb : b ∈ g.ρ
        · exact .inl (.inl hb)
        · rw [q.keep b ob e hb] at x; cases x
  keep := fun b o e n => by
    refine r.keep b o (q.keep b o e n) fun hb => ?_
    rcases q.new b (.inl hb) with x | x
    · rcases x with x | x
      · exact n x
      · exact (q.st.imm b (q.imm b x)).2.1 hb
    · rw [e] at x; cases x

/-- a private object changed, or things added: nothing of ours is touched -/
theorem St.change (q : St K g σ h) (hk : ∀ b o, h.get? b = some o → g.own b ∨ (∃ o', K.hB.get? b = some o') → h'.get? b = some o) : St K g σ h' where
  base := fun b o e => hk b o (q.base b o e) (.inr ⟨o, e⟩)
  len := q.len
  lists := fun i b xs e1 e2 => by
    obtain ⟨vs, n, e, r⟩ := q.lists i b xs e1 e2
    exact ⟨vs, n, hk b _ e (.inl (.inl (List.mem_of_getElem? e1))), VRels.mono (fun _ _ e => e) (fun _ e => e) (fun b o i e => hk b o e (.inl (.inr i))) _ _ r⟩
  nodup := q.nodup
  small := q.small
  fresh := q.fresh
  imm := fun b i => by
    obtain ⟨a1, a2, o, e⟩ := q.imm b i
    exact ⟨a1, a2, o, hk b o e (.inl (.inr i))⟩
theorem Go.change (q : St K g σ h) (hk : ∀ b o, h.get? b = some o → h'.get? b = some o) : Go K g h g σ h' :=
  ⟨q.change fun b o e _ => hk b o e, List.prefix_refl _, fun _ i => i, fun _ o => .inl o, fun b o e _ => hk b o e⟩
/-- a list is made -/
theorem Go.list (q : St K g σ h) {b : Addr} {xs : List V} {vs : Array Value} {n : Nat} (e0 : h.get? b = none) (hk : ∀ b o, h.get? b = some o → h'.get? b = some o)
    (e : h'.get? b = some { cls := .type "list", data := .seq vs n }) (r : VRels K g h xs vs.toList) (hl : xs.length ≤ lim) : Go K g h ⟨g.ρ ++ [b], g.ι⟩ (σ ++ [xs]) h' := by
  have nb : b ∉ g.ρ := fun hb => by
    obtain ⟨i, hi, rfl⟩ := List.getElem_of_mem hb
    have hl : i < σ.length := q.len ▸ hi
    obtain ⟨vs, n, e', _⟩ := q.lists i _ σ[i] (List.getElem?_eq_getElem hi) (List.getElem?_eq_getElem hl)
    rw [e0] at e'; cases e'
  have mono : ∀ {xs : List V} {ws : List Value}, VRels K g h xs ws → VRels K ⟨g.ρ ++ [b], g.ι⟩ h' xs ws := fun {xs ws} r => VRels.mono (g := g) (g' := ⟨g.ρ ++ [b], g.ι⟩) (fun _ _ e => pre_get (List.prefix_append _ _) e) (fun _ i => i) (fun b o _ e => hk b o e) _ _ r
  refine ⟨⟨fun b o x => hk b o (q.base b o x), by simp [q.len], fun i a ys h1 h2 => ?_, ?_, fun ys hy => ?_, fun i a h1 h2 => ?_, fun a i => ?_⟩, List.prefix_append _ _, fun _ i => i, fun a x => ?_, fun a o x _ => hk a o x⟩
  · by_cases hi : i < σ.length
    · rw [List.getElem?_append_left (by rw [q.len]; exact hi)] at h1
      rw [List.getElem?_append_left hi] at h2
      obtain ⟨vs, n, e', r'⟩ := q.lists i a ys h1 h2
      exact ⟨vs, n, hk _ _ e', mono r'⟩
    · have hi' : i = σ.length := by
        have := (List.getElem?_eq_some_iff.mp h2).1
        simp at this; omega
      subst hi'
      rw [List.getElem?_append_right (by rw [q.len]; exact Nat.le_refl _)] at h1
      rw [List.getElem?_append_right (Nat.le_refl _)] at h2
      simp [q.len] at h1 h2
      subst h1 h2
      exact ⟨vs, n, e, mono r⟩
  · refine List.nodup_append.mpr ⟨q.nodup, by simp, ?_⟩
    intro a ha c hc
    simp at hc; subst hc
    exact fun z => nb (z ▸ ha)
  · rcases List.mem_append.mp hy with z | z
    · exact q.small ys z
    · simp at z; subst z; exact hl
  · by_cases hi : i < g.ρ.length
    · rw [List.getElem?_append_left hi] at h1
      exact q.fresh i a h1 h2
    · rw [List.getElem?_append_right (Nat.le_of_not_lt hi)] at h1
      have : a = b := by
        have := List.mem_of_getElem? h1
        simpa using this
      subst this
      cases z : K.hB.get? a with
      | none => rfl
      | some o => rw [q.base a o z] at e0; cases e0
  · obtain ⟨a1, a2, o, a3⟩ := q.imm a i
    refine ⟨a1, fun hb => ?_, o, hk _ _ a3⟩
    rcases List.mem_append.mp hb with x | x
    · exact a2 x
    · simp at x; subst x; rw [e0] at a3; cases a3
  · rcases x with x | x
    · rcases List.mem_append.mp x with x | x
      · exact .inl (.inl x)
      · simp at x; subst x; exact .inr e0
    · exact .inl (.inr x)
/-- something that never changes is made -/
theorem Go.imms (q : St K g σ h) (N : Addr → Prop) (e0 : ∀ b, N b → h.get? b = none) (e1 : ∀ b, N b → ∃ o, h'.get? b = some o) (hk : ∀ b o, h.get? b = some o → h'.get? b = some o) :
    Go K g h ⟨g.ρ, fun b => g.ι b ∨ N b⟩ σ h' := by
  have mono : ∀ {xs : List V} {ws : List Value}, VRels K g h xs ws → VRels K ⟨g.ρ, fun b => g.ι b ∨ N b⟩ h' xs ws := fun {xs ws} r => VRels.mono (g := g) (g' := ⟨g.ρ, fun b => g.ι b ∨ N b⟩) (fun _ _ e => e) (fun _ i => .inl i) (fun b o _ e => hk b o e) _ _ r
  refine ⟨⟨fun b o x => hk b o (q.base b o x), q.len, fun i a ys h1 h2 => ?_, q.nodup, q.small, q.fresh, fun a i => ?_⟩, List.prefix_refl _, fun _ i => .inl i, fun a x => ?_, fun a o x _ => hk a o x⟩
  · obtain ⟨vs, n, e', r'⟩ := q.lists i a ys h1 h2
    exact ⟨vs, n, hk _ _ e', mono r'⟩
  · rcases i with i | i
    · obtain ⟨a1, a2, o, a3⟩ := q.imm a i
      exact ⟨a1, a2, o, hk _ _ a3⟩
    · have n0 := e0 a i
      refine ⟨?_, fun hb => ?_, e1 a i⟩
      · cases z : K.hB.get? a with
        | none => rfl
        | some o => rw [q.base a o z] at n0; cases n0
      · obtain ⟨j, hj, hja⟩ := List.getElem_of_mem (l := g.ρ) hb
        have hl : j < σ.length := q.len ▸ hj
        obtain ⟨vs, n, e', _⟩ := q.lists j _ σ[j] (List.getElem?_eq_getElem hj) (List.getElem?_eq_getElem hl)
        rw [hja, n0] at e'; cases e'
  · rcases x with x | x
    · exact .inl (.inl x)
    · rcases x with x | x
      · exact .inl (.inr x)
      · exact .inr (e0 a x)
/-- a list is changed -/
theorem Go.put (q : St K g σ h) {i : Nat} {b : Addr} {xs ys : List V} {vs : Array Value} {n : Nat} (hb : g.ρ[i]? = some b) (hx : σ[i]? = some xs) (h0 : i ≠ 0) (hk : ∀ c, c ≠ b → h'.get? c = h.get? c)
    (e : h'.get? b = some { cls := .type "list", data := .seq vs n }) (r : VRels K g h ys vs.toList) (hl : ys.length ≤ lim) : Go K g h g (σ.set i ys) h' := by
  have mem := List.mem_of_getElem? hb
  have mono : ∀ {xs : List V} {ws : List Value}, VRels K g h xs ws → VRels K g h' xs ws := fun {xs ws} r => VRels.mono (fun _ _ e => e) (fun _ i => i) (fun c o i e => by
    rw [hk c (fun z => (q.imm c i).2.1 (z ▸ mem))]; exact e) _ _ r
  refine ⟨⟨fun c o x => ?_, by simp [q.len], fun j a zs h1 h2 => ?_, q.nodup, fun zs hz => ?_, q.fresh, fun a i => ?_⟩, List.prefix_refl _, fun _ i => i, fun _ o => .inl o, fun c o x nc => ?_⟩
  · rw [hk c]
    · exact q.base c o x
    · rintro rfl
      rw [q.fresh i c hb h0] at x; cases x
  · by_cases hj : j = i
    · subst hj
      rw [hb] at h1; cases h1
      have hl := (List.getElem?_eq_some_iff.mp hx).1
      rw [List.getElem?_set_self hl] at h2
      cases h2
      exact ⟨vs, n, e, mono r⟩
    · rw [List.getElem?_set_ne (Ne.symm hj)] at h2
      obtain ⟨vs, n, e', r'⟩ := q.lists j a zs h1 h2
      refine ⟨vs, n, ?_, mono r'⟩
      rw [hk a]
      · exact e'
      · rintro rfl
        exact hj (nodup_inj q.nodup h1 hb)
  · rcases List.mem_or_eq_of_mem_set hz with z | z
    · exact q.small zs z
    · exact z ▸ hl
  · obtain ⟨a1, a2, o, a3⟩ := q.imm a i
    exact ⟨a1, a2, o, by rw [hk a (fun z => a2 (z ▸ mem))]; exact a3⟩
  · rw [hk c (fun z => nc (z ▸ mem))]; exact x
end
end Mini

set_option autoImplicit false
namespace Mini
open PySem

structure Cx where
  names : List (Str × NameKind)
  slots : List (Str × Nat)

structure Fr (K : Ctx) (env : Env) (cx : Cx) (m : M) (g : G) (h : Heap) : Prop where
  kind : env.scope.kind = .function
  names : env.scope.names = cx.names
  glob : env.globals = mainGlobals
  blt : env.builtins = builtinsNs
  loc : ∃ ns, h.Ns env.locals ns ∧ ∀ x k v, cx.slots.lookup x = some k → cx.names.lookup x = some .local → get m k = some v → ∃ w, ns x = some w ∧ VRel K g h v w
  cell : ∀ x k, cx.slots.lookup x = some k → cx.names.lookup x = some .cell → ∃ c o, env.cells.lookup x = some c ∧ h.IsCell c o ∧ ∀ v, get m k = some v → ∃ w, o = some w ∧ VRel K g h v w
  priv : ¬ g.own env.locals ∧ K.hB.get? env.locals = none
  privC : ∀ x c, env.cells.lookup x = some c → ¬ g.own c ∧ K.hB.get? c = none ∧ ∃ o, h.IsCell c o
  apart : ∀ x y c, env.cells.lookup x = some c → env.cells.lookup y = some c → x = y
  inj : ∀ x y k, cx.slots.lookup x = some k → cx.slots.lookup y = some k → x = y
  bnd : ∀ x k, cx.slots.lookup x = some k → k < cx.slots.length
  hi : ∀ j, cx.slots.length ≤ j → get m j = none

noncomputable def Sx (s s' : Shared) : Prop := s'.os = s.os ∧ s'.gens = s.gens
theorem Sx.refl (s : Shared) : Sx s s := ⟨rfl, rfl⟩
theorem Sx.trans {a b c : Shared} (p : Sx a b) (q : Sx b c) : Sx a c := ⟨q.1.trans p.1, q.2.trans p.2⟩

structure Room (A : Around) (n : Nat) : Prop where
  handled : A.handled = none
  depth : A.depth + 3 * n + 10 < recursionLimit
  units : A.units + 10 * n + 300 < cLine

noncomputable def noX : X := fun _ _ => False

noncomputable def EndE (K : Ctx) (g : G) (s : Shared) (Q : P) : Value → Shared → Prop := fun v s' => ∃ r g' σ', Go K g s.heap g' σ' s'.heap ∧ Sx s s' ∧ VRel K g' s'.heap r v ∧ Q r σ'
noncomputable def EndB (K : Ctx) (g : G) (s : Shared) (Q : Bool → H → Prop) : Bool → Shared → Prop := fun b s' => ∃ g' σ', Go K g s.heap g' σ' s'.heap ∧ Sx s s' ∧ Q b σ'
noncomputable def EndL (K : Ctx) (g : G) (s : Shared) (Q : List V → H → Prop) : List Value → Shared → Prop := fun vs s' => ∃ rs g' σ', Go K g s.heap g' σ' s'.heap ∧ Sx s s' ∧ VRels K g' s'.heap rs vs ∧ Q rs σ'
abbrev noE : Value → Shared → Prop := fun _ _ => False

section
variable {K : Ctx} {g g₁ : G} {σ σ₁ : H} {s s₁ s' : Shared} {cx : Cx} {env : Env} {m : M} {A : Around} {n : Nat}

theorem EndE.trans {Q : P} {v : Value} (p : Go K g s.heap g₁ σ₁ s₁.heap) (x : Sx s s₁) (q : EndE K g₁ s₁ Q v s') : EndE K g s Q v s' := by
  obtain ⟨r, g', σ', a, b, c, d⟩ := q
  exact ⟨r, g', σ', p.trans a, x.trans b, c, d⟩
theorem EndB.trans {Q : Bool → H → Prop} {v : Bool} (p : Go K g s.heap g₁ σ₁ s₁.heap) (x : Sx s s₁) (q : EndB K g₁ s₁ Q v s') : EndB K g s Q v s' := by
  obtain ⟨g', σ', a, b, d⟩ := q
  exact ⟨g', σ', p.trans a, x.trans b, d⟩
theorem EndL.trans {Q : List V → H → Prop} {v : List Value} (p : Go K g s.heap g₁ σ₁ s₁.heap) (x : Sx s s₁) (q : EndL K g₁ s₁ Q v s') : EndL K g s Q v s' := by
  obtain ⟨r, g', σ', a, b, c, d⟩ := q
  exact ⟨r, g', σ', p.trans a, x.trans b, c, d⟩

theorem Fr.go {h h' : Heap} {g' : G} {σ' : H} (F : Fr K env cx m g h) (S : St K g σ h) (q : Go K g h g' σ' h') : Fr K env cx m g' h' where
  kind := F.kind
  names := F.names
  glob := F.glob
  blt := F.blt
  loc := by
    obtain ⟨ns, hn, hv⟩ := F.loc
    refine ⟨ns, hn.at' fun o e => q.keep _ o e fun z => F.priv.1 (.inl z), fun x k v h1 h2 h3 => ?_⟩
    obtain ⟨w, e, r⟩ := hv x k v h1 h2 h3
    exact ⟨w, e, q.rel S r⟩
  cell := fun x k h1 h2 => by
    obtain ⟨c, o, e, hc, hv⟩ := F.cell x k h1 h2
    refine ⟨c, o, e, ?_, fun v h3 => ?_⟩
    · obtain ⟨ob, ho, hd⟩ := hc
      exact ⟨ob, q.keep _ _ ho fun z => (F.privC x c e).1 (.inl z), hd⟩
    · obtain ⟨w, e, r⟩ := hv v h3
      exact ⟨w, e, q.rel S r⟩
  priv := ⟨by
    obtain ⟨ns, ⟨o, es, ep, ho, _⟩, _⟩ := F.loc
    exact q.priv ho F.priv.1, F.priv.2⟩
  privC := fun x c e => by
    obtain ⟨h1, h2, o, ob, ho, hd⟩ := F.privC x c e
    exact ⟨q.priv ho h1, h2, o, ob, q.keep _ _ ho fun z => h1 (.inl z), hd⟩
  apart := F.apart
  inj := F.inj
  bnd := F.bnd
  hi := F.hi
end
end Mini

set_option autoImplicit false
namespace Mini
open PySem

theorem words_nodup : words.Nodup := by decide +kernel
theorem words_ok : words.all PyData.strOk = true := by decide +kernel
theorem words_inj {k l : Nat} {x y : Str} (h : words[k]? = some x) (h' : words[l]? = some y) : x = y ↔ k = l := by
  constructor
  · rintro rfl
    obtain ⟨li, ei⟩ := List.getElem?_eq_some_iff.mp h
    obtain ⟨lj, ej⟩ := List.getElem?_eq_some_iff.mp h'
    have q := List.pairwise_iff_getElem.mp words_nodup
    rcases Nat.lt_trichotomy k l with z | z | z
    · exact absurd (ei.trans ej.symm) (q k l li lj z)
    · exact z
    · exact absurd (ej.trans ei.symm) (q l k lj li z)
  · rintro rfl
    exact Option.some.inj (h.symm.trans h')

mutual
noncomputable def DR : PyData → D → Prop
  | .none, .none => True
  | .bool b, .int i => i = if b then 1 else 0
  | .int i, .int j => j = i
  | .str x, .str k => words[k]? = some x
  | .list xs, .list ds => DRs xs ds
  | .tuple xs, .tup ds => DRs xs ds
  | _, _ => False
noncomputable def DRs : List PyData → List D → Prop
  | [], [] => True
  | x :: xs, d :: ds => DR x d ∧ DRs xs ds
  | _, _ => False
end

mutual
theorem DR.eqv : ∀ (p q : PyData) (d e : D), DR p d → DR q e → (PyData.eqv p q = true ↔ d = e)
  | .none, q, .none, e, _, h2 => by cases q <;> cases e <;> simp_all [DR, PyData.eqv]
  | .bool a, q, .int i, e, h1, h2 => by cases q <;> cases e <;> simp_all [DR, PyData.eqv] <;> (try (cases a <;> simp_all)) <;> (try (rename_i b; cases b <;> simp_all)) <;> (try omega)
  | .int a, q, .int i, e, h1, h2 => by cases q <;> cases e <;> simp_all [DR, PyData.eqv]
  | .str x, q, .str k, e, h1, h2 => by
    cases q <;> cases e <;> simp_all [DR, PyData.eqv]
    exact words_inj h1 h2
  | .list xs, q, .list ds, e, h1, h2 => by
    cases q <;> cases e <;> simp_all [DR, PyData.eqv]
    exact DRs.eqv _ _ _ _ h1 h2
  | .tuple xs, q, .tup ds, e, h1, h2 => by
    cases q <;> cases e <;> simp_all [DR, PyData.eqv]
    exact DRs.eqv _ _ _ _ h1 h2
  | .dict _, _, d, _, h1, _ => by cases d <;> simp [DR] at h1
  | .none, _, .int _, _, h1, _ | .none, _, .str _, _, h1, _ | .none, _, .list _, _, h1, _ | .none, _, .tup _, _, h1, _ => by simp [DR] at h1
  | .bool _, _, .none, _, h1, _ | .bool _, _, .str _, _, h1, _ | .bool _, _, .list _, _, h1, _ | .bool _, _, .tup _, _, h1, _ => by simp [DR] at h1
  | .int _, _, .none, _, h1, _ | .int _, _, .str _, _, h1, _ | .int _, _, .list _, _, h1, _ | .int _, _, .tup _, _, h1, _ => by simp [DR] at h1
  | .str _, _, .none, _, h1, _ | .str _, _, .int _, _, h1, _ | .str _, _, .list _, _, h1, _ | .str _, _, .tup _, _, h1, _ => by simp [DR] at h1
  | .list _, _, .none, _, h1, _ | .list _, _, .int _, _, h1, _ | .list _, _, .str _, _, h1, _ | .list _, _, .tup _, _, h1, _ => by simp [DR] at h1
  | .tuple _, _, .none, _, h1, _ | .tuple _, _, .int _, _, h1, _ | .tuple _, _, .str _, _, h1, _ | .tuple _, _, .list _, _, h1, _ => by simp [DR] at h1
theorem DRs.eqv : ∀ (p q : List PyData) (d e : List D), DRs p d → DRs q e → (PyData.eqvAll p q = true ↔ d = e)
  | [], q, d, e, h1, h2 => by cases q <;> cases d <;> cases e <;> simp_all [DRs, PyData.eqvAll]
  | x :: xs, [], d, e, h1, h2 => by cases d <;> cases e <;> simp_all [DRs, PyData.eqvAll]
  | x :: xs, y :: ys, d, e, h1, h2 => by
    cases d with
    | nil => simp [DRs] at h1
    | cons d ds =>
      cases e with
      | nil => simp [DRs] at h2
      | cons e es =>
        simp only [DRs] at h1 h2
        simp only [PyData.eqvAll, Bool.and_eq_true, DR.eqv x y d e h1.1 h2.1, DRs.eqv xs ys ds es h1.2 h2.2, List.cons.injEq]
end
theorem DRs.any {q : PyData} {e : D} (h : DR q e) : ∀ {xs : List PyData} {ds : List D}, DRs xs ds → ((xs.any fun y => PyData.eqv y q) = true ↔ e ∈ ds)
  | [], [], _ => by simp
  | x :: xs, d :: ds, p => by
    simp only [List.any_cons, Bool.or_eq_true, List.mem_cons, DR.eqv x q d e p.1 h, DRs.any h p.2]
    constructor <;> rintro (z | z) <;> simp [z]
  | [], _ :: _, p => p.elim
  | _ :: _, [], p => p.elim

section
variable {K : Ctx} {g : G} {σ : H} {h : Heap}

theorem mapO_cons {α β : Type} {f : α → Option β} {v : α} {vs : List α} {ds : List β} (e : mapO f (v :: vs) = some ds) : ∃ d ds', f v = some d ∧ mapO f vs = some ds' ∧ ds = d :: ds' := by
  unfold mapO at e
  cases h1 : f v with
  | none => simp [h1] at e
  | some d =>
    cases h2 : mapO f vs with
    | none => simp [h1, h2] at e
    | some ds' => simp [h1, h2] at e; exact ⟨d, ds', rfl, rfl, e.symm⟩

theorem reads_all {n : Nat} (ih : ∀ v d w, snap n σ v = some d → VRel K g h v w → ∃ p as, Reads h w p as ∧ DR p d ∧ p.canLay0 = true ∧ p.depth ≤ n) :
    ∀ (vs : List V) (ds : List D) (ws : List Value), mapO (snap n σ) vs = some ds → VRels K g h vs ws → ∃ ps as, ReadsAll h ws ps as ∧ DRs ps ds ∧ PyData.canLayAll0 ps = true ∧ PyData.depthAll ps ≤ n
  | [], ds, [], e, _ => by cases e; exact ⟨[], [], .nil, trivial, by simp [PyData.canLayAll0], by simp [PyData.depthAll]⟩
  | v :: vs, ds, w :: ws, e, r => by
    obtain ⟨d, ds', e1, e2, rfl⟩ := mapO_cons e
    obtain ⟨p, as, a1, a2, a3, a4⟩ := ih v d w e1 r.1
    obtain ⟨ps, bs, b1, b2, b3, b4⟩ := reads_all ih vs ds' ws e2 r.2
    exact ⟨p :: ps, as ++ bs, .cons a1 b1, ⟨a2, b2⟩, by simp [PyData.canLayAll0, a3, b3], by simp only [PyData.depthAll]; omega⟩
  | [], _, _ :: _, _, r => r.elim
  | _ :: _, _, [], _, r => r.elim

theorem reads_of (S : St K g σ h) : ∀ (n : Nat) (v : V) (d : D) (w : Value), snap n σ v = some d → VRel K g h v w → ∃ p as, Reads h w p as ∧ DR p d ∧ p.canLay0 = true ∧ p.depth ≤ n := by
  intro n
  induction n with
  | zero =>
    intro v d w e r
    cases v with
    | none => cases e; cases r; exact ⟨_, _, .none, trivial, rfl, by simp [PyData.depth]⟩
    | bool b => cases e; cases r; exact ⟨_, _, .bool b, rfl, rfl, by simp [PyData.depth]⟩
    | int i => cases e; obtain ⟨t, rfl⟩ := r; exact ⟨_, _, .int i t, rfl, rfl, by simp [PyData.depth]⟩
    | str k =>
      cases e; obtain ⟨s, t, hk, rfl⟩ := r
      exact ⟨_, _, .str s t, hk, by simp only [PyData.canLay0]; exact List.all_eq_true.mp words_ok s (List.mem_of_getElem? hk), by simp [PyData.depth]⟩
    | ref a => simp [snap] at e
    | tup xs => simp [snap] at e
    | inst xs => simp [snap] at e
    | exc c => simp [snap] at e
  | succ n ih =>
    intro v d w e r
    cases v with
    | none => cases e; cases r; exact ⟨_, _, .none, trivial, rfl, by simp [PyData.depth]⟩
    | bool b => cases e; cases r; exact ⟨_, _, .bool b, rfl, rfl, by simp [PyData.depth]⟩
    | int i => cases e; obtain ⟨t, rfl⟩ := r; exact ⟨_, _, .int i t, rfl, rfl, by simp [PyData.depth]⟩
    | str k =>
      cases e; obtain ⟨s, t, hk, rfl⟩ := r
      exact ⟨_, _, .str s t, hk, by simp only [PyData.canLay0]; exact List.all_eq_true.mp words_ok s (List.mem_of_getElem? hk), by simp [PyData.depth]⟩
    | ref a =>
      obtain ⟨b, hb, rfl⟩ := r
      simp only [snap] at e
      cases hx : σ[a]? with
      | none => simp [hx] at e
      | some xs =>
        simp only [hx, Option.map_eq_some_iff] at e
        obtain ⟨ds, e1, rfl⟩ := e
        obtain ⟨vs, k, ho, hr⟩ := S.lists a b xs hb hx
        obtain ⟨ps, as, a1, a2, a3, a4⟩ := reads_all ih xs ds _ e1 hr
        exact ⟨.list ps, _, .list ho rfl rfl a1, by simpa only [DR] using a2, by simpa only [PyData.canLay0] using a3, by simp only [PyData.depth]; omega⟩
    | tup xs =>
      obtain ⟨b, vs, k, rfl, hi, ho, hr⟩ := r
      simp only [snap, Option.map_eq_some_iff] at e
      obtain ⟨ds, e1, rfl⟩ := e
      obtain ⟨ps, as, a1, a2, a3, a4⟩ := reads_all ih xs ds _ e1 hr
      exact ⟨.tuple ps, _, .tuple ho rfl rfl a1, by simpa only [DR] using a2, by simpa only [PyData.canLay0] using a3, by simp only [PyData.depth]; omega⟩
    | inst xs => simp [snap] at e
    | exc c => simp [snap] at e
end
end Mini

set_option autoImplicit false
namespace Mini
open PySem PySem.SeqAt

section
variable {K : Ctx} {g : G} {σ : H} {s : Shared} {A : Around} {n : Nat} {Q : P}

theorem lim_eq : lim = sizeLine := rfl
theorem sizeLine_is : sizeLine = 16777216 := rfl

theorem St.list (S : St K g σ s.heap) {a : Nat} {w : Value} {xs : List V} (r : VRel K g s.heap (.ref a) w) (hx : σ[a]? = some xs) :
    ∃ b vs k, w = .ref b ∧ g.ρ[a]? = some b ∧ IsL s.heap b vs k ∧ VRels K g s.heap xs vs.toList ∧ vs.size = xs.length ∧ vs.size ≤ sizeLine := by
  obtain ⟨b, hb, rfl⟩ := r
  obtain ⟨vs, k, ho, hr⟩ := S.lists a b xs hb hx
  have e : vs.size = xs.length := by rw [hr.length, Array.length_toList]
  exact ⟨b, vs, k, rfl, hb, ho, hr, e, by rw [e]; exact S.small xs (List.mem_of_getElem? hx)⟩

theorem end_same (S : St K g σ s.heap) {r : V} {v : Value} {tk : Nat} (e : VRel K g s.heap r v) (q : Q r σ) : EndE K g s Q v { s with toks := tk } := ⟨r, g, σ, Go.refl S, ⟨rfl, rfl⟩, e, q⟩
theorem end_kept (S : St K g σ s.heap) {h' : Heap} {tk : Nat} (hk : ∀ b o, s.heap.get? b = some o → h'.get? b = some o) {r : V} {v : Value} (e : VRel K g s.heap r v) (q : Q r σ) : EndE K g s Q v { s with heap := h', toks := tk } :=
  ⟨r, g, σ, Go.change S hk, ⟨rfl, rfl⟩, (Go.change S hk).rel S e, q⟩

/-- a new list at the end of the heap, or later -/
theorem end_list (S : St K g σ s.heap) {h' : Heap} {tk : Nat} {b : Addr} {xs : List V} {vs : Array Value} {k : Nat} (hb : s.heap.get? b = none) (hk : ∀ b o, s.heap.get? b = some o → h'.get? b = some o)
    (e : h'.get? b = some { cls := .type "list", data := .seq vs k }) (r : VRels K g s.heap xs vs.toList) (q : alloc xs σ Q) : EndE K g s Q (.ref b) { s with heap := h', toks := tk } := by
  refine ⟨.ref σ.length, _, _, Go.list S hb hk e r q.1, ⟨rfl, rfl⟩, ⟨b, ?_, rfl⟩, q.2⟩
  show (g.ρ ++ [b])[σ.length]? = some b
  rw [← S.len]; simp
theorem none_at_size (h : Heap) : h.get? h.objs.size = none := by
  cases e : h.get? h.objs.size with
  | none => rfl
  | some o => exact absurd (Heap.lt_size e) (Nat.lt_irrefl _)
theorem none_above {h : Heap} {a : Addr} (ha : h.objs.size ≤ a) : h.get? a = none := by
  cases e : h.get? a with
  | none => rfl
  | some o => exact absurd (Heap.lt_size e) (Nat.not_lt.mpr ha)
theorem end_listP (S : St K g σ s.heap) {xs : List V} {vs : Array Value} (r : VRels K g s.heap xs vs.toList) (q : alloc xs σ Q) :
    EndE K g s Q (.ref s.heap.objs.size) { s with heap := s.heap.push { cls := .type "list", data := .seq vs } } :=
  end_list S (none_at_size _) (fun _ _ e => Heap.get?_push_of_some _ e) (Heap.get?_push_size _ rfl) r q
theorem end_tup (S : St K g σ s.heap) {xs : List V} {vs : List Value} (r : VRels K g s.heap xs vs) (q : Q (.tup xs) σ) :
    EndE K g s Q (.ref s.heap.objs.size) { s with heap := s.heap.push { cls := .type "tuple", data := .seq vs.toArray } } := by
  have go : Go K g s.heap _ σ (s.heap.push { cls := .type "tuple", data := .seq vs.toArray }) := Go.imms S (fun b => b = s.heap.objs.size) (fun b e => e ▸ none_at_size _) (fun b e => e ▸ ⟨_, Heap.get?_push_size _ rfl⟩) (fun _ _ e => Heap.get?_push_of_some _ e)
  exact ⟨.tup xs, _, σ, go, ⟨rfl, rfl⟩, ⟨_, vs.toArray, 0, rfl, .inr rfl, Heap.get?_push_size _ rfl, go.rels S r⟩, q⟩

noncomputable def opOf : Operator → Option Bin
  | .Add => some .add
  | .Sub => some .sub
  | .Mult => some .mul
  | .FloorDiv => some .fdiv
  | .Mod => some .mod
  | .Pow => some .pow
  | _ => none

theorem flat_rep (vs : Array Value) : ∀ (k : Nat) (acc : Array Value), (List.foldl (fun x1 x2 => x1 ++ x2) acc (List.replicate k vs)).toList = acc.toList ++ (List.replicate k vs.toList).flatten
  | 0, acc => by simp
  | k + 1, acc => by simp [List.replicate_succ, flat_rep vs k, List.append_assoc]
theorem VRels.rep {h : Heap} {xs : List V} {vs : List Value} (r : VRels K g h xs vs) : ∀ k : Nat, VRels K g h (List.replicate k xs).flatten (List.replicate k vs).flatten
  | 0 => trivial
  | k + 1 => by simpa [List.replicate_succ] using r.append (VRels.rep r k)

theorem vint (K : Ctx) (g : G) (h : Heap) (i : Int) (t : Tok) : VRel K g h (.int i) (.int i t) := ⟨t, rfl⟩
theorem vbool (K : Ctx) (g : G) (h : Heap) (b : Bool) : VRel K g h (.bool b) (.bool b) := rfl

theorem mul_sound (S : St K g σ s.heap) {a : Nat} {v : Value} {k : Int} {u : Tok} {xs : List V} (ra : VRel K g s.heap (.ref a) v) (hx : σ[a]? = some xs) (h1 : k < 2 ^ 24) (h2 : -(2 ^ 24) < k)
    (q : alloc (List.replicate k.toNat xs).flatten σ Q) : wpAny (model K.prog K.w) A (binaryOp .Mult v (.int k u)) (EndE K g s Q) noE s := by
  obtain ⟨b₁, vs, n₁, rfl, _, hl, r1, e1, z1⟩ := S.list ra hx
  have hlen : vs.size * k.toNat ≤ 2 ^ 24 := by
    have := q.1
    rw [List.length_flatten, List.map_replicate, List.sum_replicate_nat, ← e1] at this
    rw [Nat.mul_comm]; exact this
  refine wpAny_binaryOp_repeat_ref (T := "list") (U := "int") (by decide) ⟨_, hl, rfl⟩ (fun s' => typeIs_int s' k u) noFill_list_mul F.fills_int_mul F.slot_int_rmul repeat_list F.slot_int_index.lookup
    (call_meets F.slot_int_rmul (typeIs_int s k u) F.entry_int_rmul (F.args_int_rmul_2 _ _) (int___rmul___int_list k u b₁ vs n₁)
      ⟨hl, rfl, ⟨_, hl, rfl⟩, call_meets F.slot_list_mul ⟨_, hl, rfl⟩ F.entry_list_mul (F.args_list_mul_2 _ _)
        (AutoListH.list___mul___list_int_3 b₁ vs n₁ k u (by simp [Builtin.List.listFitsIndex]; omega) (by omega) (by simp [Builtin.List.listTooLong, sizeLine]; omega))
        ⟨hl, end_listP S ?_ q⟩⟩)
  by_cases he : vs.isEmpty = true
  · have e0 : vs = #[] := by simpa using he
    subst e0
    have ex : xs = [] := by simpa using e1.symm
    subst ex
    have : (List.replicate k.toNat ([] : List V)).flatten = [] := by simp
    rw [this]
    trivial
  · rw [if_neg he, flat_rep]
    exact r1.rep _

theorem binop_sound (S : St K g σ s.heap) {op : Operator} {o : Bin} (ho : opOf op = some o) {a b : V} {v w : Value} (ra : VRel K g s.heap a v) (rb : VRel K g s.heap b w)
    (W : binop o a b σ Q) : wpAny (model K.prog K.w) A (binaryOp op v w) (EndE K g s Q) noE s := by
  cases op <;> simp only [opOf, Option.some.injEq, reduceCtorEq] at ho <;> subst ho
  · cases a <;> cases b <;> simp only [binop] at W <;> try exact W.elim
    · obtain ⟨t, rfl⟩ := ra; obtain ⟨u, rfl⟩ := rb
      exact PyProof.Rows.add_int (end_same S (vint ..) W)
    · obtain ⟨xs, ys, hx, hy, q⟩ := W
      obtain ⟨b₁, vs, k, rfl, _, h1, r1, e1, z1⟩ := S.list ra hx
      obtain ⟨b₂, ws, k₂, rfl, _, h2, r2, e2, z2⟩ := S.list rb hy
      refine P.add_list h1 h2 (end_listP S (by rw [Array.toList_append]; exact r1.append r2) q) ?_
      have := q.1
      rw [List.length_append] at this
      rw [e1, e2]; exact this
  · cases a <;> cases b <;> simp only [binop] at W <;> try exact W.elim
    obtain ⟨t, rfl⟩ := ra; obtain ⟨u, rfl⟩ := rb
    exact PyProof.Rows.sub_int (end_same S (vint ..) W)
  · cases a <;> cases b <;> simp only [binop] at W <;> try exact W.elim
    · rename_i i j
      obtain ⟨t, rfl⟩ := ra; obtain ⟨u, rfl⟩ := rb
      refine PyProof.Rows.mul_int (end_same S (vint ..) W.2) ?_
      have := intBits_le_64 (k := j) (by have := W.1.1; omega) (by have := W.1.2; omega)
      unfold IntMulOk
      have h2 : ¬ (Builtin.Int.intBits j > shortFactorBits) := by
        show ¬ (Builtin.Int.intBits j > 64)
        exact Nat.not_lt.mpr this
      simp [h2]
    · obtain ⟨u, rfl⟩ := rb
      obtain ⟨xs, hx, h1, h2, q⟩ := W
      exact mul_sound S ra hx h1 h2 q
  · cases a <;> cases b <;> simp only [binop] at W <;> try exact W.elim
    rename_i i j
    obtain ⟨t, rfl⟩ := ra; obtain ⟨u, rfl⟩ := rb
    refine PyProof.Rows.mod_int' (by have := W.1; omega) (end_same S (vint ..) ?_)
    rw [Int.fmod_eq_emod_of_nonneg _ (by have := W.1; omega)]; exact W.2
  · cases a <;> cases b <;> simp only [binop] at W <;> try exact W.elim
    obtain ⟨t, rfl⟩ := ra; obtain ⟨u, rfl⟩ := rb
    obtain ⟨⟨rfl, h⟩, q⟩ := W
    have e : (Builtin.Int.intBits 10 : Int) ≤ 64 := by
      have := intBits_le_64 (k := 10) (by decide) (by decide)
      omega
    refine PyProof.Rows.pow_int (by omega) ?_ (end_same S (vint ..) q)
    rcases h with rfl | rfl <;> omega
  · cases a <;> cases b <;> simp only [binop] at W <;> try exact W.elim
    rename_i i j
    obtain ⟨t, rfl⟩ := ra; obtain ⟨u, rfl⟩ := rb
    refine PyProof.Rows.floordiv_int (by have := W.1; omega) (end_same S (vint ..) ?_) (.inl (PyProof.noPylong_small (by have := W.1; omega)))
    rw [Int.fdiv_eq_ediv_of_nonneg _ (by have := W.1; omega)]; exact W.2

noncomputable def cmpOf : CmpOp → Option Cmp
  | .Eq => some .eq
  | .NotEq => some .ne
  | .Lt => some .lt
  | .LtE => some .le
  | .Gt => some .gt
  | .GtE => some .ge
  | .Is => some .is
  | .IsNot => some .isNot
  | .In => some .inn
  | .NotIn => some .notIn

theorem cmp_none (a : V) {v : Value} (ra : VRel K g s.heap a v) : plainIs v .none = true ∧ ((v == .none) = true ↔ a = .none) := by
  cases a with
  | none => cases ra; exact ⟨rfl, by simp⟩
  | bool b => cases ra; exact ⟨rfl, by simp⟩
  | int i => obtain ⟨t, rfl⟩ := ra; exact ⟨rfl, by simp⟩
  | str k => obtain ⟨x, t, _, rfl⟩ := ra; exact ⟨rfl, by simp⟩
  | ref a => obtain ⟨b, _, rfl⟩ := ra; exact ⟨rfl, by simp⟩
  | tup xs => obtain ⟨b, _, _, rfl, _⟩ := ra; exact ⟨rfl, by simp⟩
  | inst xs => obtain ⟨b, _, _, _, rfl, _⟩ := ra; exact ⟨rfl, by simp⟩
  | exc c => exact ra.elim

theorem cmpop_sound (R : Room A n) (S : St K g σ s.heap) {op : CmpOp} {o : Cmp} (ho : cmpOf op = some o) {a b : V} {v w : Value} (ra : VRel K g s.heap a v) (rb : VRel K g s.heap b w)
    (W : cmpop o a b σ Q) : wpAny (model K.prog K.w) A (compareOp op v w) (EndE K g s Q) noE s := by
  have hu := R.units
  cases op <;> simp only [cmpOf, Option.some.injEq] at ho <;> subst ho
  · obtain ⟨d, e, h1, h2, q⟩ := W
    obtain ⟨p, as, r1, d1, c1, z1⟩ := reads_of S _ _ _ _ h1 ra
    obtain ⟨p', bs, r2, d2, c2, z2⟩ := reads_of S _ _ _ _ h2 rb
    exact compareEq_reads r1 r2 c1 c2 (by omega) (end_same S (vbool ..) (q _ (DR.eqv _ _ _ _ d1 d2)))
  · obtain ⟨d, e, h1, h2, q⟩ := W
    obtain ⟨p, as, r1, d1, c1, z1⟩ := reads_of S _ _ _ _ h1 ra
    obtain ⟨p', bs, r2, d2, c2, z2⟩ := reads_of S _ _ _ _ h2 rb
    refine compareNe_reads r1 r2 c1 c2 (by omega) (end_same S (vbool ..) (q _ ?_))
    rw [← DR.eqv _ _ _ _ d1 d2]; simp
  · cases a <;> cases b <;> simp only [cmpop] at W <;> try exact W.elim
    obtain ⟨t, rfl⟩ := ra; obtain ⟨u, rfl⟩ := rb
    exact PyProof.Rows.lt_int (end_same S (vbool ..) W)
  · cases a <;> cases b <;> simp only [cmpop] at W <;> try exact W.elim
    obtain ⟨t, rfl⟩ := ra; obtain ⟨u, rfl⟩ := rb
    exact PyProof.Rows.le_int (end_same S (vbool ..) W)
  · cases a <;> cases b <;> simp only [cmpop] at W <;> try exact W.elim
    obtain ⟨t, rfl⟩ := ra; obtain ⟨u, rfl⟩ := rb
    exact PyProof.Rows.gt_int (end_same S (vbool ..) W)
  · cases a <;> cases b <;> simp only [cmpop] at W <;> try exact W.elim
    obtain ⟨t, rfl⟩ := ra; obtain ⟨u, rfl⟩ := rb
    exact PyProof.Rows.ge_int (end_same S (vbool ..) W)
  · cases b <;> simp only [cmpop] at W <;> try exact W.elim
    cases rb
    obtain ⟨p1, p2⟩ := cmp_none a ra
    exact wpAny_is_plain p1 (end_same S (vbool ..) (W _ p2))
  · cases b with
    | none =>
      cases rb
      obtain ⟨p1, p2⟩ := cmp_none a ra
      have W' : ∀ c : Bool, (c = true ↔ ¬ a = .none) → Q (.bool c) σ := by cases a <;> exact W
      exact wpAny_isNot_plain p1 (end_same S (vbool ..) (W' _ (by rw [← p2]; simp)))
    | bool b =>
      cases a <;> simp only [cmpop] at W <;> try exact W.elim
      cases ra; cases rb
      refine wpAny_isNot_plain rfl (end_same S (vbool ..) ?_)
      rename_i a
      have : (!(Value.bool a == Value.bool b)) = (a != b) := by cases a <;> cases b <;> rfl
      rw [this]; exact W
    | _ => cases a <;> simp only [cmpop] at W
  · cases b <;> simp only [cmpop] at W <;> try exact W.elim
    · obtain ⟨d, xs, ds, h1, hx, h2, q⟩ := W
      obtain ⟨p, as, r1, d1, c1, z1⟩ := reads_of S _ _ _ _ h1 ra
      obtain ⟨b₁, vs, k, rfl, _, hl, r2, e1, _⟩ := S.list rb hx
      obtain ⟨ps, bs, p1, p2, p3, p4⟩ := reads_all (fun v d w => reads_of S _ v d w) _ _ _ h2 r2
      exact in_list_reads (.list hl rfl rfl p1) r1 p3 c1 (by omega) (end_same S (vbool ..) (q _ (DRs.any d1 p2)))
    · obtain ⟨d, ds, h1, h2, q⟩ := W
      obtain ⟨p, as, r1, d1, c1, z1⟩ := reads_of S _ _ _ _ h1 ra
      obtain ⟨b₁, vs, k, rfl, _, hl, r2⟩ := rb
      obtain ⟨ps, bs, p1, p2, p3, p4⟩ := reads_all (fun v d w => reads_of S _ v d w) _ _ _ h2 r2
      exact in_tuple_reads (.tuple hl rfl rfl p1) r1 p3 c1 (by omega) (end_same S (vbool ..) (q _ (DRs.any d1 p2)))
  · cases b <;> simp only [cmpop] at W <;> try exact W.elim
    · obtain ⟨d, xs, ds, h1, hx, h2, q⟩ := W
      obtain ⟨p, as, r1, d1, c1, z1⟩ := reads_of S _ _ _ _ h1 ra
      obtain ⟨b₁, vs, k, rfl, _, hl, r2, e1, _⟩ := S.list rb hx
      obtain ⟨ps, bs, p1, p2, p3, p4⟩ := reads_all (fun v d w => reads_of S _ v d w) _ _ _ h2 r2
      exact notIn_list_reads (.list hl rfl rfl p1) r1 p3 c1 (by omega) (end_same S (vbool ..) (q _ (by rw [← DRs.any d1 p2]; simp)))
    · obtain ⟨d, ds, h1, h2, q⟩ := W
      obtain ⟨p, as, r1, d1, c1, z1⟩ := reads_of S _ _ _ _ h1 ra
      obtain ⟨b₁, vs, k, rfl, _, hl, r2⟩ := rb
      obtain ⟨ps, bs, p1, p2, p3, p4⟩ := reads_all (fun v d w => reads_of S _ v d w) _ _ _ h2 r2
      exact notIn_tuple_reads (.tuple hl rfl rfl p1) r1 p3 c1 (by omega) (end_same S (vbool ..) (q _ (by rw [← DRs.any d1 p2]; simp)))

theorem truthy_sound (S : St K g σ s.heap) {a : V} {v : Value} {k : Bool → H → Prop} (ra : VRel K g s.heap a v) (W : truthy k a σ) : wpAny (model K.prog K.w) A (PySem.truthy v) (EndB K g s k) noE s := by
  cases a <;> simp only [truthy] at W <;> try exact W.elim
  cases ra
  exact wpAny_truthy_bool ⟨g, σ, Go.refl S, Sx.refl s, W⟩
end
end Mini

set_option autoImplicit false
set_option linter.unusedVariables false
namespace Mini
open PySem

structure GoX (K : Ctx) (X : Addr → Prop) (g : G) (h : Heap) (g' : G) (σ' : H) (h' : Heap) : Prop where
  st : St K g' σ' h'
  pre : g.ρ <+: g'.ρ
  imm : ∀ b, g.ι b → g'.ι b
  new : ∀ b, g'.own b → g.own b ∨ h.get? b = none
  keep : ∀ b o, h.get? b = some o → b ∉ g.ρ → ¬ X b → h'.get? b = some o
  there : ∀ b o, h.get? b = some o → ∃ o', h'.get? b = some o'

section
variable {K : Ctx} {X Y : Addr → Prop} {g g' g₁ g₂ : G} {σ σ' σ₁ σ₂ : H} {h h' h₁ h₂ : Heap}

theorem St.there (s : St K g' σ' h') (hp : g.ρ <+: g'.ρ) {b : Addr} (hb : b ∈ g.ρ) : ∃ o', h'.get? b = some o' := by
  have hb' : b ∈ g'.ρ := hp.subset hb
  obtain ⟨j, hj, hja⟩ := List.getElem_of_mem hb'
  have hl : j < σ'.length := s.len ▸ hj
  obtain ⟨vs, n, e', _⟩ := s.lists j _ σ'[j] (List.getElem?_eq_getElem hj) (List.getElem?_eq_getElem hl)
  exact ⟨_, hja ▸ e'⟩
theorem Go.toX (q : Go K g h g' σ' h') : GoX K X g h g' σ' h' := ⟨q.st, q.pre, q.imm, q.new, fun b o e n _ => q.keep b o e n, fun b o e => by
  by_cases hb : b ∈ g.ρ
  · exact q.st.there q.pre hb
  · exact ⟨o, q.keep b o e hb⟩⟩
theorem GoX.toGo (q : GoX K X g h g' σ' h') (hx : ∀ b, X b → h.get? b = none) : Go K g h g' σ' h' := ⟨q.st, q.pre, q.imm, q.new, fun b o e n => q.keep b o e n fun z => by rw [hx b z] at e; cases e⟩
theorem GoX.shrink (q : GoX K X g h g' σ' h') (hx : ∀ b, X b → Y b ∨ h.get? b = none) : GoX K Y g h g' σ' h' := by
  refine ⟨q.st, q.pre, q.imm, q.new, fun b o e n ny => q.keep b o e n fun z => ?_, q.there⟩
  rcases hx b z with y | y
  · exact ny y
  · rw [y] at e; cases e
theorem GoX.rel (q : GoX K X g h g' σ' h') (s : St K g σ h) (hx : ∀ b, X b → ¬ g.own b) {v : V} {w : Value} (r : VRel K g h v w) : VRel K g' h' v w :=
  VRel.mono (fun _ _ e => pre_get q.pre e) q.imm (fun b o i e => q.keep b o e (s.imm b i).2.1 fun z => hx b z (.inr i)) v w r
theorem GoX.rels (q : GoX K X g h g' σ' h') (s : St K g σ h) (hx : ∀ b, X b → ¬ g.own b) {v : List V} {w : List Value} (r : VRels K g h v w) : VRels K g' h' v w :=
  VRels.mono (fun _ _ e => pre_get q.pre e) q.imm (fun b o i e => q.keep b o e (s.imm b i).2.1 fun z => hx b z (.inr i)) v w r
theorem GoX.priv (q : GoX K X g h g' σ' h') {b : Addr} {o : Obj} (e : h.get? b = some o) (n : ¬ g.own b) : ¬ g'.own b := fun x => by
  rcases q.new b x with y | y
  · exact n y
  · rw [e] at y; cases y
theorem GoX.trans (q : GoX K X g h g₁ σ₁ h₁) (r : GoX K X g₁ h₁ g₂ σ₂ h₂) : GoX K X g h g₂ σ₂ h₂ where
  st := r.st
  pre := q.pre.trans r.pre
  imm := fun b i => r.imm b (q.imm b i)
  new := fun b o => by
    rcases r.new b o with x | x
    · exact q.new b x
    · cases e : h.get? b with
      | none => exact .inr rfl
      | some ob => obtain ⟨o', e'⟩ := q.there b ob e; rw [e'] at x; cases x
  keep := fun b o e n nx => by
    refine r.keep b o (q.keep b o e n nx) (fun hb => ?_) nx
    rcases q.new b (.inl hb) with x | x
    · rcases x with x | x
      · exact n x
      · exact (q.st.imm b (q.imm b x)).2.1 hb
    · rw [e] at x; cases x
  there := fun b o e => by
    obtain ⟨o', e'⟩ := q.there b o e
    exact r.there b o' e'
/-- private things are changed, new private things made -/
theorem GoX.of (q : St K g σ h) (hk : ∀ b o, h.get? b = some o → ¬ X b → h'.get? b = some o) (ht : ∀ b, X b → ∃ o', h'.get? b = some o') (hp : ∀ b, X b → ¬ g.own b ∧ K.hB.get? b = none) : GoX K X g h g σ h' := by
  refine ⟨q.change fun b o e z => hk b o e fun x => ?_, List.prefix_refl _, fun _ i => i, fun _ o => .inl o, fun b o e _ nx => hk b o e nx, fun b o e => ?_⟩
  · rcases z with z | ⟨o', z⟩
    · exact (hp b x).1 z
    · rw [(hp b x).2] at z; cases z
  · by_cases x : X b
    · exact ht b x
    · exact ⟨o, hk b o e x⟩
theorem GoX.sameBut (q : St K g σ h) {a : Addr} {o' : Obj} (hp : ¬ g.own a ∧ K.hB.get? a = none) (e' : h'.get? a = some o') (hs : Heap.ExtBut a h h') : GoX K (· = a) g h g σ h' :=
  GoX.of q (fun b o e n => hs b o n e) (fun b e => e ▸ ⟨o', e'⟩) (fun b e => e ▸ hp)
end

/-- what a frame may change of its own -/
noncomputable def fpOf (env : Env) (b : Addr) : Prop := b = env.locals ∨ ∃ x, env.cells.lookup x = some b

section
variable {K : Ctx} {X : Addr → Prop} {g g₁ g' : G} {σ σ₁ σ' : H} {h h' : Heap} {s s₁ s' : Shared} {cx : Cx} {env : Env} {m : M} {A : Around} {n : Nat}

theorem Fr.fp (F : Fr K env cx m g h) : ∀ b, fpOf env b → ¬ g.own b ∧ K.hB.get? b = none ∧ ∃ o, h.get? b = some o ∧ ((∃ es ep, o.data = .dict es ep) ∨ ∃ v, o.data = .cell v) := by
  rintro b (rfl | ⟨x, e⟩)
  · obtain ⟨ns, ⟨o, es, ep, ho, hd, _⟩, _⟩ := F.loc
    exact ⟨F.priv.1, F.priv.2, o, ho, .inl ⟨es, ep, hd⟩⟩
  · obtain ⟨h1, h2, v, o, ho, hd⟩ := F.privC x b e
    exact ⟨h1, h2, o, ho, .inr ⟨v, hd⟩⟩
theorem Fr.goX (F : Fr K env cx m g h) (S : St K g σ h) (q : GoX K X g h g' σ' h') (hx : ∀ b, X b → ¬ fpOf env b) (hp : ∀ b, X b → ¬ g.own b) : Fr K env cx m g' h' where
  kind := F.kind
  names := F.names
  glob := F.glob
  blt := F.blt
  loc := by
    obtain ⟨ns, hn, hv⟩ := F.loc
    refine ⟨ns, hn.at' fun o e => q.keep _ o e (fun z => F.priv.1 (.inl z)) fun z => hx _ z (.inl rfl), fun x k v h1 h2 h3 => ?_⟩
    obtain ⟨w, e, r⟩ := hv x k v h1 h2 h3
    exact ⟨w, e, q.rel S hp r⟩
  cell := fun x k h1 h2 => by
    obtain ⟨c, o, e, hc, hv⟩ := F.cell x k h1 h2
    refine ⟨c, o, e, ?_, fun v h3 => ?_⟩
    · obtain ⟨ob, ho, hd⟩ := hc
      exact ⟨ob, q.keep _ _ ho (fun z => (F.privC x c e).1 (.inl z)) fun z => hx _ z (.inr ⟨x, e⟩), hd⟩
    · obtain ⟨w, e, r⟩ := hv v h3
      exact ⟨w, e, q.rel S hp r⟩
  priv := ⟨by
    obtain ⟨ns, ⟨o, es, ep, ho, _⟩, _⟩ := F.loc
    exact q.priv ho F.priv.1, F.priv.2⟩
  privC := fun x c e => by
    obtain ⟨h1, h2, o, ob, ho, hd⟩ := F.privC x c e
    exact ⟨q.priv ho h1, h2, o, ob, q.keep _ _ ho (fun z => h1 (.inl z)) fun z => hx _ z (.inr ⟨x, e⟩), hd⟩
  apart := F.apart
  inj := F.inj
  bnd := F.bnd
  hi := F.hi

theorem get_put : ∀ (m : M) (k j : Nat) (v w : V), get (put m k v) j = some w → (j = k ∧ w = v) ∨ (j ≠ k ∧ get m j = some w)
  | [], _, _, _, _, e => by simp [put, get] at e
  | u :: m, 0, 0, v, w, e => by simp [put, get] at e; exact .inl ⟨rfl, e.symm⟩
  | u :: m, 0, j + 1, v, w, e => by simp [put, get] at e; exact .inr ⟨by omega, by simpa [get] using e⟩
  | u :: m, k + 1, 0, v, w, e => by simp [put, get] at e; exact .inr ⟨by omega, by simpa [get] using e⟩
  | u :: m, k + 1, j + 1, v, w, e => by
    simp only [put, get] at e
    rcases get_put m k j v w e with ⟨a, b⟩ | ⟨a, b⟩
    · exact .inl ⟨by omega, b⟩
    · exact .inr ⟨by omega, b⟩

theorem Fr.hi_put (F : Fr K env cx m g h) {k : Nat} {v : V} {x : Str} (hx : cx.slots.lookup x = some k) : ∀ j, cx.slots.length ≤ j → get (put m k v) j = none := fun j hj => by
  cases e : get (put m k v) j with
  | none => rfl
  | some w =>
    rcases get_put _ _ _ _ _ e with ⟨a, _⟩ | ⟨_, b⟩
    · have := F.bnd x k hx; omega
    · rw [F.hi j hj] at b; cases b

/-- where a name may be stored -/
noncomputable def slotOf (cx : Cx) (x : Str) : Option Nat := match cx.names.lookup x with
  | some .local => cx.slots.lookup x
  | some .cell => cx.slots.lookup x
  | _ => none

theorem store_local (F : Fr K env cx m g s.heap) (S : St K g σ s.heap) {x : Str} {k : Nat} (hl : cx.names.lookup x = some .local) (hx : cx.slots.lookup x = some k) {v : V} {w : Value} (r : VRel K g s.heap v w) {Q : Unit → Shared → Prop} {E : Value → Shared → Prop}
    (hQ : ∀ s', GoX K (· = env.locals) g s.heap g σ s'.heap → Sx s s' → Fr K env cx (put m k v) g s'.heap → Q () s') : wpAny (model K.prog K.w) A (storeName env x w) Q E s := by
  have hkind : env.kindOf x = cx.names.lookup x := by unfold Env.kindOf; rw [F.names]
  obtain ⟨ns, hn, hv⟩ := F.loc
  refine wpAny_storeName_local (hkind.trans hl) hn (fun h' hn' hs' => ?_) (by rw [F.kind]; rfl)
  have go : GoX K (· = env.locals) g s.heap g σ h' := by
    obtain ⟨o', es, ep, e', _⟩ := id hn'
    exact GoX.sameBut S F.priv e' hs'.extBut
  have rr : ∀ {v : V} {w : Value}, VRel K g s.heap v w → VRel K g h' v w := fun {v w} r => go.rel S (fun b e => e ▸ F.priv.1) r
  refine hQ _ go ⟨rfl, rfl⟩ ⟨F.kind, F.names, F.glob, F.blt, ⟨_, hn', fun y j u h1 h2 h3 => ?_⟩, fun y j h1 h2 => ?_, ⟨F.priv.1, F.priv.2⟩, fun y c e => ?_, F.apart, F.inj, F.bnd, F.hi_put hx⟩
  · rcases get_put _ _ _ _ _ h3 with ⟨e1, e2⟩ | ⟨e1, e2⟩
    · subst e1 e2
      have : y = x := F.inj _ _ _ h1 hx
      subst this
      exact ⟨w, by simp, rr r⟩
    · have : y ≠ x := fun z => e1 (by subst z; rw [h1] at hx; exact Option.some.inj hx)
      obtain ⟨w', e3, r'⟩ := hv y j u h1 h2 e2
      exact ⟨w', by rw [if_neg this]; exact e3, rr r'⟩
  · obtain ⟨c, o, e, hc, hv⟩ := F.cell y j h1 h2
    have hcL : c ≠ env.locals := by
      rintro rfl
      obtain ⟨_, _, _, ho, hd, _⟩ := hn
      obtain ⟨ob, ho', hd'⟩ := hc
      rw [ho] at ho'; cases ho'; rw [hd] at hd'; cases hd'
    refine ⟨c, o, e, hc.sameBut hs' hcL, fun u h3 => ?_⟩
    rcases get_put _ _ _ _ _ h3 with ⟨e1, e2⟩ | ⟨e1, e2⟩
    · subst e1
      have : y = x := F.inj _ _ _ h1 hx
      subst this
      rw [hl] at h2; cases h2
    · obtain ⟨w', e3, r'⟩ := hv u e2
      exact ⟨w', e3, rr r'⟩
  · obtain ⟨a1, a2, o, a3⟩ := F.privC y c e
    have hcL : c ≠ env.locals := by
      rintro rfl
      obtain ⟨_, _, _, ho, hd, _⟩ := hn
      obtain ⟨ob, ho', hd'⟩ := a3
      rw [ho] at ho'; cases ho'; rw [hd] at hd'; cases hd'
    exact ⟨a1, a2, o, a3.sameBut hs' hcL⟩
theorem store_cell (F : Fr K env cx m g s.heap) (S : St K g σ s.heap) {x : Str} {k : Nat} (hl : cx.names.lookup x = some .cell) (hx : cx.slots.lookup x = some k) {v : V} {w : Value} (r : VRel K g s.heap v w) {Q : Unit → Shared → Prop} {E : Value → Shared → Prop}
    (hQ : ∀ s', GoX K (fpOf env) g s.heap g σ s'.heap → Sx s s' → Fr K env cx (put m k v) g s'.heap → Q () s') : wpAny (model K.prog K.w) A (storeName env x w) Q E s := by
  have hkind : env.kindOf x = cx.names.lookup x := by unfold Env.kindOf; rw [F.names]
  obtain ⟨c, o, e, hc, hv⟩ := F.cell x k hx hl
  have pc := F.privC x c e
  refine wpAny_storeName_cell F.kind (hkind.trans hl) e hc fun h' hc' hs' => ?_
  have go : GoX K (· = c) g s.heap g σ h' := by
    obtain ⟨o', e', _⟩ := id hc'
    exact GoX.sameBut S ⟨pc.1, pc.2.1⟩ e' hs'.extBut
  have rr : ∀ {v : V} {w : Value}, VRel K g s.heap v w → VRel K g h' v w := fun {v w} r => go.rel S (fun b e => e ▸ pc.1) r
  obtain ⟨ns, hn, hv'⟩ := F.loc
  have hcL : env.locals ≠ c := by
    rintro rfl
    obtain ⟨_, _, _, ho, hd, _⟩ := hn
    obtain ⟨ob, ho', hd'⟩ := hc
    rw [ho] at ho'; cases ho'; rw [hd] at hd'; cases hd'
  refine hQ _ (go.shrink fun b z => .inl (.inr ⟨x, z ▸ e⟩)) ⟨rfl, rfl⟩ ⟨F.kind, F.names, F.glob, F.blt, ⟨ns, hn.sameBut hs' hcL, fun y j u h1 h2 h3 => ?_⟩, fun y j h1 h2 => ?_, ⟨F.priv.1, F.priv.2⟩, fun y d ed => ?_, F.apart, F.inj, F.bnd, F.hi_put hx⟩
  · rcases get_put _ _ _ _ _ h3 with ⟨e1, e2⟩ | ⟨e1, e2⟩
    · subst e1
      have : y = x := F.inj _ _ _ h1 hx
      subst this
      rw [hl] at h2; cases h2
    · obtain ⟨w', e3, r'⟩ := hv' y j u h1 h2 e2
      exact ⟨w', e3, rr r'⟩
  · by_cases hy : y = x
    · subst hy
      refine ⟨c, some w, e, hc', fun u h3 => ?_⟩
      rcases get_put _ _ _ _ _ h3 with ⟨e1, e2⟩ | ⟨e1, e2⟩
      · subst e2; exact ⟨w, rfl, rr r⟩
      · rw [h1] at hx; cases hx; exact absurd rfl e1
    · obtain ⟨d, o', ed, hd, hv''⟩ := F.cell y j h1 h2
      have : d ≠ c := fun z => hy (F.apart y x c (z ▸ ed) e)
      refine ⟨d, o', ed, hd.sameBut hs' this, fun u h3 => ?_⟩
      rcases get_put _ _ _ _ _ h3 with ⟨e1, e2⟩ | ⟨e1, e2⟩
      · subst e1; exact absurd (F.inj _ _ _ h1 hx) hy
      · obtain ⟨w', e3, r'⟩ := hv'' u e2
        exact ⟨w', e3, rr r'⟩
  · obtain ⟨a1, a2, o', a3⟩ := F.privC y d ed
    by_cases hy : d = c
    · subst hy; exact ⟨a1, a2, _, hc'⟩
    · exact ⟨a1, a2, o', a3.sameBut hs' hy⟩
theorem store_sound (F : Fr K env cx m g s.heap) (S : St K g σ s.heap) {x : Str} {k : Nat} (hx : slotOf cx x = some k) {v : V} {w : Value} (r : VRel K g s.heap v w) {Q : Unit → Shared → Prop} {E : Value → Shared → Prop}
    (hQ : ∀ s', GoX K (fpOf env) g s.heap g σ s'.heap → Sx s s' → Fr K env cx (put m k v) g s'.heap → Q () s') : wpAny (model K.prog K.w) A (storeName env x w) Q E s := by
  unfold slotOf at hx
  split at hx
  · rename_i hl
    exact store_local F S hl hx r fun s' go sx F' => hQ s' (go.shrink fun b e => .inl (.inl e)) sx F'
  · rename_i hl
    exact store_cell F S hl hx r hQ
  · cases hx
end
end Mini

set_option autoImplicit false
set_option linter.unusedVariables false
namespace Mini
open PySem

/-- what the names of the builtins stand for -/
noncomputable def blts : List (Str × Value) := [("len", .builtin "len"), ("list", .type "list"), ("isinstance", .builtin "isinstance"), ("max", .builtin "max"), ("sum", .builtin "sum"), ("int", .type "int"),
  ("range", .type "range"), ("enumerate", .type "enumerate"), ("zip", .type "zip"), ("reversed", .type "reversed"), ("bool", .type "bool"), ("tuple", .type "tuple"), ("str", .type "str")]

structure Pg where
  fns : List (Str × Nat)
  consts : List (Str × Int)
  hall : Str
  fields : List Str

/-- a call of a function of the text's own, at a depth -/
noncomputable def SF (K : Ctx) (n : Nat) : Prop := ∀ (f : Nat) (A : Around) (g : G) (σ : H) (s : Shared) (vs : List V) (ws : List Value) (Q : P), Room A n → St K g σ s.heap → VRels K g s.heap vs ws → callW K.Φ n f vs σ Q noX →
  codeAny (model K.prog K.w) A (.call (.ref (K.fa f)) ⟨ws, []⟩) (fun r s' => match r with | .ok (.ret v) => EndE K g s Q v s' | .ok _ => False | .error _ => False) s

structure Gr (K : Ctx) (pg : Pg) : Prop where
  g : K.hB.Ns mainGlobals K.mg
  b : K.hB.Ns builtinsNs K.mb
  nolimit : K.hB.NoLimit
  blt : ∀ x v, blts.lookup x = some v → K.mg x = none ∧ K.mb x = some v
  const : ∀ x i, pg.consts.lookup x = some i → ∃ t, K.mg x = some (.int i t)
  fn : ∀ x f, pg.fns.lookup x = some f → K.mg x = some (.ref (K.fa f)) ∧ ∃ o fd, K.hB.get? (K.fa f) = some o ∧ o.data = .func fd
  hall : ∀ (x : Str), x = pg.hall → x ≠ "" → K.mg x = some (.ref K.hallC) ∧ K.fields = pg.fields
  attr : ∀ (A : Around) (s : Shared) (Q : Value → Shared → Prop) (E : Value → Shared → Prop) (b d : Addr) (o : Obj) (vs : List Value) (k : Nat) (f : Str) (w : Value), (∀ b o, K.hB.get? b = some o → s.heap.get? b = some o) →
    s.heap.get? b = some { cls := .ref K.hallC, dict := some d, data := .plain } → s.heap.get? d = some o → isDictOf o K.fields vs → K.fields[k]? = some f → vs[k]? = some w → (∀ tk, Q w { s with toks := tk }) →
    wpAny (model K.prog K.w) A (getAttr (.ref b) f true) Q E s
  make : pg.hall ≠ "" → ∀ (A : Around) (n : Nat) (s : Shared) (pos : Pos) (args : List (Bool × Sem Value)) (Q : Value → Shared → Prop) (E : Value → Shared → Prop), Room A n → args.any (·.1) = false →
    wpAny (model K.prog K.w) A (evalArgs (.ref K.hallC) true args []) (fun a s₁ => a.kw = [] ∧ (∀ b o, K.hB.get? b = some o → s₁.heap.get? b = some o) ∧ a.pos.length = 5 ∧
      ∀ b d o h' tk, s₁.heap.get? b = none → s₁.heap.get? d = none → h'.get? b = some { cls := .ref K.hallC, dict := some d, data := .plain } → h'.get? d = some o → isDictOf o K.fields a.pos →
        (∀ c o, s₁.heap.get? c = some o → h'.get? c = some o) → Q (.ref b) { s₁ with heap := h', toks := tk }) E s →
    wpAny (model K.prog K.w) A (callWith pos (.ref K.hallC) [] args []) Q E s

noncomputable def SE (K : Ctx) (n : Nat) (cx : Cx) (e : Expr) (p : E) : Prop := ∀ (env : Env) (A : Around) (m : M) (g : G) (σ : H) (s : Shared) (Q : P), Room A n → Fr K env cx m g s.heap → St K g σ s.heap →
  WE (callW K.Φ n) noX p m σ Q → wpAny (model K.prog K.w) A (eval e env) (EndE K g s Q) noE s
noncomputable def STr (K : Ctx) (n : Nat) (cx : Cx) (e : Expr) (p : E) : Prop := ∀ (env : Env) (A : Around) (m : M) (g : G) (σ : H) (s : Shared) (Q : Bool → H → Prop), Room A n → Fr K env cx m g s.heap → St K g σ s.heap →
  WT (callW K.Φ n) noX p m σ Q → wpAny (model K.prog K.w) A (isTrue e env (eval e env)) (EndB K g s Q) noE s
noncomputable def SEs (K : Ctx) (n : Nat) (cx : Cx) (es : List Expr) (ps : List E) : Prop := ∀ (env : Env) (A : Around) (m : M) (g : G) (σ : H) (s : Shared) (pos : Pos) (Q : List V → H → Prop), Room A n → Fr K env cx m g s.heap → St K g σ s.heap →
  WEs (callW K.Φ n) noX ps m σ Q → wpAny (model K.prog K.w) A (spliced (backTo pos (starEach es env))) (EndL K g s fun rs σ => rs.length = ps.length ∧ Q rs σ) noE s

section
variable {K : Ctx} {pg : Pg} {n : Nat} {cx : Cx}

theorem EndE.bind {A : Around} {g g₁ : G} {σ₁ : H} {s s₁ : Shared} {t : Sem Value} {Q : P} (p : Go K g s.heap g₁ σ₁ s₁.heap) (x : Sx s s₁) (h : wpAny (model K.prog K.w) A t (EndE K g₁ s₁ Q) noE s₁) :
    wpAny (model K.prog K.w) A t (EndE K g s Q) noE s₁ := wpAny_mono h (fun _ _ q => q.trans p x) fun _ _ f => f
theorem EndB.bind {A : Around} {g g₁ : G} {σ₁ : H} {s s₁ : Shared} {t : Sem Bool} {Q : Bool → H → Prop} (p : Go K g s.heap g₁ σ₁ s₁.heap) (x : Sx s s₁) (h : wpAny (model K.prog K.w) A t (EndB K g₁ s₁ Q) noE s₁) :
    wpAny (model K.prog K.w) A t (EndB K g s Q) noE s₁ := wpAny_mono h (fun _ _ q => q.trans p x) fun _ _ f => f

theorem se_none {k pos} : SE K n cx (.Constant .none k pos) .none := fun env A m g σ s Q R F S W => wpAny_Constant_none (end_same (r := .none) S rfl W)
theorem se_bool {b k pos} : SE K n cx (.Constant (.bool b) k pos) (.bool b) := fun env A m g σ s Q R F S W => wpAny_Constant_bool (end_same S (vbool ..) W)
theorem se_int {i k pos} : SE K n cx (.Constant (.int i) k pos) (.int i) := fun env A m g σ s Q R F S W => wpAny_Constant_int (end_same S (vint ..) W)
theorem se_str {x j k pos} (h : words[j]? = some x) : SE K n cx (.Constant (.str x) k pos) (.str j) := fun env A m g σ s Q R F S W => wpAny_Constant_str (end_same (r := .str j) S ⟨_, _, h, rfl⟩ W)

theorem load_var {env : Env} {A : Around} {m : M} {g : G} {s : Shared} {x : Str} {k : Nat} {v : V} {Q : Value → Shared → Prop} {E : Value → Shared → Prop} (F : Fr K env cx m g s.heap) (hx : slotOf cx x = some k) (hv : get m k = some v)
    (h : ∀ w, VRel K g s.heap v w → Q w s) : wpAny (model K.prog K.w) A (loadName env x) Q E s := by
  unfold slotOf at hx
  have hkind : env.kindOf x = cx.names.lookup x := by unfold Env.kindOf; rw [F.names]
  split at hx
  · rename_i hl
    obtain ⟨ns, hn, hs⟩ := F.loc
    obtain ⟨w, e, r⟩ := hs x k v hx hl hv
    exact wpAny_loadName_local F.kind (hkind.trans hl) hn e (h w r)
  · rename_i hl
    obtain ⟨c, o, e, hc, hs⟩ := F.cell x k hx hl
    obtain ⟨w, rfl, r⟩ := hs v hv
    exact wpAny_loadName_cell F.kind (hkind.trans hl) e hc (h w r)
  · cases hx
theorem se_var {x : Str} {k : Nat} {pos : Pos} (hx : slotOf cx x = some k) (hd : (x == ("__debug__" : Str)) = false) : SE K n cx (.Name x pos) (.var k) := fun env A m g σ s Q R F S W => by
  obtain ⟨v, hv, q⟩ := W
  exact wpAny_Name (load_var F hx hv fun w r => ⟨v, g, σ, Go.refl S, Sx.refl s, r, q⟩) hd

theorem load_glob (G₀ : Gr K pg) {env : Env} {A : Around} {m : M} {g : G} {σ : H} {s : Shared} {x : Str} {pos : Pos} {v : Value} {Q : Value → Shared → Prop} {E : Value → Shared → Prop} (F : Fr K env cx m g s.heap) (S : St K g σ s.heap)
    (hx : cx.names.lookup x = some .globalImplicit) (hd : (x == ("__debug__" : Str)) = false) (hv : K.mg x = some v) (h : Q v s) : wpAny (model K.prog K.w) A (eval (.Name x pos) env) Q E s := by
  have hkind : env.kindOf x = cx.names.lookup x := by unfold Env.kindOf; rw [F.names]
  exact Calls.Name_function_global F.kind (hkind.trans hx) (Calls.loadGlobal_global (mg := K.mg) (by rw [F.glob]; exact G₀.g.keeps S.base) hv h) hd
theorem load_blt (G₀ : Gr K pg) {env : Env} {A : Around} {m : M} {g : G} {σ : H} {s : Shared} {x : Str} {pos : Pos} {v : Value} {Q : Value → Shared → Prop} {E : Value → Shared → Prop} (F : Fr K env cx m g s.heap) (S : St K g σ s.heap)
    (hx : cx.names.lookup x = some .globalImplicit) (hd : (x == ("__debug__" : Str)) = false) (hv : blts.lookup x = some v) (h : Q v s) : wpAny (model K.prog K.w) A (eval (.Name x pos) env) Q E s := by
  have hkind : env.kindOf x = cx.names.lookup x := by unfold Env.kindOf; rw [F.names]
  exact Calls.Name_function_global F.kind (hkind.trans hx) (Calls.loadGlobal_builtin (mg := K.mg) (mb := K.mb) (by rw [F.glob]; exact G₀.g.keeps S.base) (G₀.blt x v hv).1 (by rw [F.blt]; exact G₀.b.keeps S.base) (G₀.blt x v hv).2 h) hd

theorem se_const (G₀ : Gr K pg) {x : Str} {i : Int} {pos : Pos} (hx : cx.names.lookup x = some .globalImplicit) (hd : (x == ("__debug__" : Str)) = false) (hi : pg.consts.lookup x = some i) : SE K n cx (.Name x pos) (.int i) := fun env A m g σ s Q R F S W => by
  obtain ⟨t, ht⟩ := G₀.const x i hi
  exact load_glob G₀ F S hx hd ht (end_same S (vint ..) W)

theorem se_bin {l r : Expr} {op : Operator} {o : Bin} {a b : E} {pos : Pos} (ho : opOf op = some o) (hl : SE K n cx l a) (hr : SE K n cx r b) : SE K n cx (.BinOp l op r pos) (.bin o a b) := fun env A m g σ s Q R F S W => by
  refine wpAny_BinOp (wpAny_mono (hl env A m g σ s _ R F S W) (fun v s₁ q => ?_) fun _ _ f => f)
  obtain ⟨r₁, g₁, σ₁, go₁, sx₁, rel₁, W₁⟩ := q
  refine wpAny_mono (hr env A m g₁ σ₁ s₁ _ R (F.go S go₁) go₁.st W₁) (fun v₂ s₂ q => ?_) fun _ _ f => f
  obtain ⟨r₂, g₂, σ₂, go₂, sx₂, rel₂, W₂⟩ := q
  exact EndE.bind (go₁.trans go₂) (sx₁.trans sx₂) (binop_sound go₂.st ho (go₂.rel go₁.st rel₁) rel₂ W₂)

theorem se_neg {e : Expr} {a : E} {pos : Pos} (h : SE K n cx e a) : SE K n cx (.UnaryOp .USub e pos) (.neg a) := fun env A m g σ s Q R F S W => by
  refine wpAny_UnaryOp (wpAny_mono (h env A m g σ s _ R F S W) (fun v s₁ q => ?_) fun _ _ f => f)
  obtain ⟨r₁, g₁, σ₁, go₁, sx₁, rel₁, W₁⟩ := q
  cases r₁ <;> try exact W₁.elim
  obtain ⟨t, rfl⟩ := rel₁
  exact EndE.bind go₁ sx₁ (PyProof.Rows.neg_int (end_same go₁.st (vint ..) W₁))

theorem se_cmp {l r : Expr} {op : CmpOp} {o : Cmp} {a b : E} {pos : Pos} (ho : cmpOf op = some o) (hl : SE K n cx l a) (hr : SE K n cx r b) (hm : behindInMarks op r = false) : SE K n cx (.Compare l [op] [r] pos) (.cmp o a b) := fun env A m g σ s Q R F S W => by
  refine wpAny_Compare1 (wpAny_mono (hl env A m g σ s _ R F S W) (fun v s₁ q => ?_) fun _ _ f => f) hm
  obtain ⟨r₁, g₁, σ₁, go₁, sx₁, rel₁, W₁⟩ := q
  refine wpAny_mono (hr env A m g₁ σ₁ s₁ _ R (F.go S go₁) go₁.st W₁) (fun v₂ s₂ q => ?_) fun _ _ f => f
  obtain ⟨r₂, g₂, σ₂, go₂, sx₂, rel₂, W₂⟩ := q
  exact EndE.bind (go₁.trans go₂) (sx₁.trans sx₂) (cmpop_sound R go₂.st ho (go₂.rel go₁.st rel₁) rel₂ W₂)
theorem st_cmp {l r : Expr} {op : CmpOp} {o : Cmp} {a b : E} {pos : Pos} (ho : cmpOf op = some o) (hl : SE K n cx l a) (hr : SE K n cx r b) (hm : behindInMarks op r = false) : STr K n cx (.Compare l [op] [r] pos) (.cmp o a b) := fun env A m g σ s Q R F S W => by
  refine wpAny_isTrue_Compare1 (wpAny_mono (hl env A m g σ s _ R F S W) (fun v s₁ q => ?_) fun _ _ f => f) hm
  obtain ⟨r₁, g₁, σ₁, go₁, sx₁, rel₁, W₁⟩ := q
  refine wpAny_mono (hr env A m g₁ σ₁ s₁ _ R (F.go S go₁) go₁.st W₁) (fun v₂ s₂ q => ?_) fun _ _ f => f
  obtain ⟨r₂, g₂, σ₂, go₂, sx₂, rel₂, W₂⟩ := q
  refine wpAny_mono (cmpop_sound R go₂.st ho (go₂.rel go₁.st rel₁) rel₂ W₂) (fun v₃ s₃ q => ?_) fun _ _ f => f
  obtain ⟨r₃, g₃, σ₃, go₃, sx₃, rel₃, W₃⟩ := q
  exact EndB.bind ((go₁.trans go₂).trans go₃) ((sx₁.trans sx₂).trans sx₃) (truthy_sound go₃.st rel₃ W₃)

theorem st_not {e : Expr} {a : E} {pos : Pos} (h : STr K n cx e a) : STr K n cx (.UnaryOp .Not e pos) (.not a) := fun env A m g σ s Q R F S W =>
  wpAny_isTrue_Not (h env A m g σ s _ R F S W)
theorem st_val {e : Expr} {a : E} (h : SE K n cx e a) (he : ∀ env whole, isTrue e env whole = (do let v ← whole; standAt e.pos; holding [v] (PySem.truthy v)))
    (hw : ∀ c x m σ k, WT c x a m σ k → WE c x a m σ (truthy k)) : STr K n cx e a := fun env A m g σ s Q R F S W => by
  refine wpAny_isTrue_value (wpAny_mono (h env A m g σ s _ R F S (hw _ _ _ _ _ W)) (fun v s₁ q => ?_) fun _ _ f => f) (he env _)
  obtain ⟨r₁, g₁, σ₁, go₁, sx₁, rel₁, W₁⟩ := q
  exact EndB.bind go₁ sx₁ (truthy_sound go₁.st rel₁ W₁)

theorem se_not {e : Expr} {a : E} {pos : Pos} (h : SE K n cx e a) : SE K n cx (.UnaryOp .Not e pos) (.not a) := fun env A m g σ s Q R F S W => by
  refine wpAny_UnaryOp (wpAny_mono (h env A m g σ s _ R F S W) (fun v s₁ q => ?_) fun _ _ f => f)
  obtain ⟨r₁, g₁, σ₁, go₁, sx₁, rel₁, W₁⟩ := q
  refine PyProof.Rows.not_of (wpAny_mono (truthy_sound go₁.st rel₁ W₁) (fun b s₂ q => ?_) fun _ _ f => f)
  obtain ⟨g₂, σ₂, go₂, sx₂, W₂⟩ := q
  exact ⟨.bool !b, g₂, σ₂, go₁.trans go₂, sx₁.trans sx₂, rfl, W₂⟩

theorem st_and {x : Expr} {rest : List Expr} {a b : E} (h : STr K n cx x a) (hr : ∀ env A m g σ s (Q : Bool → H → Prop), Room A n → Fr K env cx m g s.heap → St K g σ s.heap → WT (callW K.Φ n) noX b m σ Q → wpAny (model K.prog K.w) A (allTrue .And rest env) (EndB K g s Q) noE s) :
    ∀ env A m g σ s (Q : Bool → H → Prop), Room A n → Fr K env cx m g s.heap → St K g σ s.heap → WT (callW K.Φ n) noX (.and a b) m σ Q → wpAny (model K.prog K.w) A (allTrue .And (x :: rest) env) (EndB K g s Q) noE s := fun env A m g σ s Q R F S W => by
  refine wpAny_allTrue_And_cons (wpAny_mono (h env A m g σ s _ R F S W) (fun t s₁ q => ?_) fun _ _ f => f)
  obtain ⟨g₁, σ₁, go₁, sx₁, W₁⟩ := q
  cases t with
  | false => exact ⟨g₁, σ₁, go₁, sx₁, W₁⟩
  | true => exact EndB.bind go₁ sx₁ (hr env A m g₁ σ₁ s₁ Q R (F.go S go₁) go₁.st W₁)
theorem st_or {x : Expr} {rest : List Expr} {a b : E} (h : STr K n cx x a) (hr : ∀ env A m g σ s (Q : Bool → H → Prop), Room A n → Fr K env cx m g s.heap → St K g σ s.heap → WT (callW K.Φ n) noX b m σ Q → wpAny (model K.prog K.w) A (allTrue .Or rest env) (EndB K g s Q) noE s) :
    ∀ env A m g σ s (Q : Bool → H → Prop), Room A n → Fr K env cx m g s.heap → St K g σ s.heap → WT (callW K.Φ n) noX (.or a b) m σ Q → wpAny (model K.prog K.w) A (allTrue .Or (x :: rest) env) (EndB K g s Q) noE s := fun env A m g σ s Q R F S W => by
  refine wpAny_allTrue_Or_cons (wpAny_mono (h env A m g σ s _ R F S W) (fun t s₁ q => ?_) fun _ _ f => f)
  obtain ⟨g₁, σ₁, go₁, sx₁, W₁⟩ := q
  cases t with
  | true => exact ⟨g₁, σ₁, go₁, sx₁, W₁⟩
  | false => exact EndB.bind go₁ sx₁ (hr env A m g₁ σ₁ s₁ Q R (F.go S go₁) go₁.st W₁)
theorem st_lastAnd {x : Expr} {a : E} (h : STr K n cx x a) :
    ∀ env A m g σ s (Q : Bool → H → Prop), Room A n → Fr K env cx m g s.heap → St K g σ s.heap → WT (callW K.Φ n) noX a m σ Q → wpAny (model K.prog K.w) A (allTrue .And [x] env) (EndB K g s Q) noE s := fun env A m g σ s Q R F S W => by
  refine wpAny_allTrue_And_cons (wpAny_mono (h env A m g σ s _ R F S W) (fun t s₁ q => ?_) fun _ _ f => f)
  cases t with
  | false => exact q
  | true => exact wpAny_allTrue_And_nil q
theorem st_lastOr {x : Expr} {a : E} (h : STr K n cx x a) :
    ∀ env A m g σ s (Q : Bool → H → Prop), Room A n → Fr K env cx m g s.heap → St K g σ s.heap → WT (callW K.Φ n) noX a m σ Q → wpAny (model K.prog K.w) A (allTrue .Or [x] env) (EndB K g s Q) noE s := fun env A m g σ s Q R F S W => by
  refine wpAny_allTrue_Or_cons (wpAny_mono (h env A m g σ s _ R F S W) (fun t s₁ q => ?_) fun _ _ f => f)
  cases t with
  | true => exact q
  | false => exact wpAny_allTrue_Or_nil q

theorem bool_step {op : BoolOp} {t : Sem Value} {x : Sem Value} {rest : List (Sem Value)} {pos : Pos} {A : Around} {g : G} {s : Shared} {Q : P} {k : Bool → H → Prop}
    (h : wpAny (model K.prog K.w) A t (EndE K g s (truthy k)) noE s)
    (hk : ∀ b g₁ σ₁ s₁, Go K g s.heap g₁ σ₁ s₁.heap → Sx s s₁ → k b σ₁ → wpAny (model K.prog K.w) A (match op, b with | .And, false | .Or, true => pure (.bool b) | _, _ => boolOp pos op (x :: rest)) (EndE K g s Q) noE s₁) :
    wpAny (model K.prog K.w) A (boolOp pos op (t :: x :: rest)) (EndE K g s Q) noE s := by
  rw [boolOp]
  · refine wpAny_bind (wpAny_mono h (fun v s₁ q => ?_) fun _ _ f => f)
    obtain ⟨r₁, g₁, σ₁, go₁, sx₁, rel₁, W₁⟩ := q
    cases r₁ <;> try exact W₁.elim
    cases rel₁
    exact wpAny_bind (wpAny_standAt (wpAny_bind (wpAny_holding (wpAny_truthy_bool (hk _ g₁ σ₁ s₁ go₁ sx₁ W₁)))))
  · simp

/-- a call of something that is no object of the heap, with its arguments -/
theorem call_plain {f : Value} {A : Around} {env : Env} {m : M} {g : G} {σ : H} {s : Shared} {pos : Pos} {es : List Expr} {ps : List E} {k : List V → H → Prop} {Q : Value → Shared → Prop} (R : Room A n) (F : Fr K env cx m g s.heap) (S : St K g σ s.heap)
    (hf : (∃ id, f = .builtin id) ∨ (∃ T, f = .type T)) (he : SEs K n cx es ps) (hne : es ≠ []) (hst : (backTo pos (starEach es env)).any (·.1) = false) (hsh : ∃ x rest, backTo pos (starEach es env) = (false, x) :: rest) (W : WEs (callW K.Φ n) noX ps m σ k)
    (h : ∀ rs g₁ σ₁ s₁ vs, Go K g s.heap g₁ σ₁ s₁.heap → Sx s s₁ → VRels K g₁ s₁.heap rs vs → k rs σ₁ → wpAny (model K.prog K.w) A (call f vs []) Q noE s₁) :
    wpAny (model K.prog K.w) A (callWith pos f [] (backTo pos (starEach es env)) []) Q noE s := by
  obtain ⟨x, rest, hsh⟩ := hsh
  have main : wpAny (model K.prog K.w) A (evalArgs f true (backTo pos (starEach es env)) []) (fun a s₁ => wpAny (model K.prog K.w) A (call f ([] ++ a.pos) a.kw) Q noE s₁) noE s := by
    rw [hsh]
    refine Calls.evalArgs_plain ?_
    rw [← hsh]
    refine wpAny_mono (he env A m g σ s pos _ R F S W) (fun vs s₁ q => ?_) fun _ _ f => f
    obtain ⟨rs, g₁, σ₁, go₁, sx₁, rel₁, _, W₁⟩ := q
    exact h rs g₁ σ₁ s₁ vs go₁ sx₁ rel₁ W₁
  rcases hf with ⟨id, rfl⟩ | ⟨T, rfl⟩
  · exact Calls.callWith_builtin hst main
  · exact callWith_type hst main
end
end Mini

set_option autoImplicit false
set_option linter.unusedVariables false
namespace Mini
open PySem

noncomputable def isStar : Expr → Bool
  | .Starred .. => true
  | _ => false
theorem star_cons {e : Expr} {es : List Expr} {env : Env} {pos : Pos} (h : isStar e = false) : backTo pos (starEach (e :: es) env) = (false, eval e env) :: backTo pos (starEach es env) := by
  cases e <;> first | (simp [isStar] at h; done) | rfl

section
variable {K : Ctx} {pg : Pg} {n : Nat} {cx : Cx}

theorem ses_nil : SEs K n cx [] [] := fun env A m g σ s pos Q R F S W => Calls.spliced_nil ⟨[], g, σ, Go.refl S, Sx.refl s, trivial, rfl, W⟩
theorem ses_cons {e : Expr} {es : List Expr} {a : E} {as : List E} (hs : isStar e = false) (h : SE K n cx e a) (hr : SEs K n cx es as) : SEs K n cx (e :: es) (a :: as) := fun env A m g σ s pos Q R F S W => by
  rw [star_cons hs]
  refine Calls.spliced_cons (wpAny_mono (h env A m g σ s _ R F S W) (fun v s₁ q => ?_) fun _ _ f => f)
  obtain ⟨r₁, g₁, σ₁, go₁, sx₁, rel₁, W₁⟩ := q
  refine wpAny_mono (hr env A m g₁ σ₁ s₁ pos _ R (F.go S go₁) go₁.st W₁) (fun vs s₂ q => ?_) fun _ _ f => f
  obtain ⟨rs, g₂, σ₂, go₂, sx₂, rel₂, hl, W₂⟩ := q
  exact ⟨r₁ :: rs, g₂, σ₂, go₁.trans go₂, sx₁.trans sx₂, ⟨go₂.rel go₁.st rel₁, rel₂⟩, congrArg (· + 1) hl, W₂⟩

theorem se_disp {es : List Expr} {as : List E} {pos : Pos} (h : SEs K n cx es as) : SE K n cx (.List es pos) (.disp as) := fun env A m g σ s Q R F S W => by
  refine wpAny_List_spliced (wpAny_mono (h env A m g σ s pos _ R F S W) (fun vs s₁ q => ?_) fun _ _ f => f)
  obtain ⟨rs, g₁, σ₁, go₁, sx₁, rel₁, _, W₁⟩ := q
  refine ⟨by rw [← rel₁.length]; exact W₁.1, EndE.trans go₁ sx₁ ?_⟩
  exact end_listP go₁.st (by simpa using rel₁) W₁
theorem se_tup {es : List Expr} {as : List E} {k : Nat} {pos : Pos} (h : SEs K n cx es as) (hl : as.length ≤ 100) : SE K n cx (.Tuple es k pos) (.tup as) := fun env A m g σ s Q R F S W => by
  refine wpAny_Tuple_spliced (wpAny_mono (h env A m g σ s pos _ R F S W) (fun vs s₁ q => ?_) fun _ _ f => f)
  obtain ⟨rs, g₁, σ₁, go₁, sx₁, rel₁, hl₁, W₁⟩ := q
  refine ⟨by rw [← rel₁.length, hl₁, sizeLine_is]; omega, EndE.trans go₁ sx₁ ?_⟩
  exact end_tup go₁.st rel₁ W₁

theorem se_ite {t a b : Expr} {pt pa pb : E} {pos : Pos} (ht : STr K n cx t pt) (ha : SE K n cx a pa) (hb : SE K n cx b pb) : SE K n cx (.IfExp t a b pos) (.ite pt pa pb) := fun env A m g σ s Q R F S W => by
  refine wpAny_IfExp (wpAny_mono (ht env A m g σ s _ R F S W) (fun c s₁ q => ?_) fun _ _ f => f)
  obtain ⟨g₁, σ₁, go₁, sx₁, W₁⟩ := q
  cases c with
  | true => exact EndE.bind go₁ sx₁ (ha env A m g₁ σ₁ s₁ Q R (F.go S go₁) go₁.st W₁)
  | false => exact EndE.bind go₁ sx₁ (hb env A m g₁ σ₁ s₁ Q R (F.go S go₁) go₁.st W₁)

theorem st_cmp2 {l r₁ r₂ : Expr} {o₁ o₂ : CmpOp} {p₁ p₂ : Cmp} {a b c : E} {pos : Pos} (h₁ : cmpOf o₁ = some p₁) (h₂ : cmpOf o₂ = some p₂) (hl : SE K n cx l a) (hr : SE K n cx r₁ b) (hr₂ : SE K n cx r₂ c) (hm : lastMarks [o₁, o₂] [r₁, r₂] = false) :
    STr K n cx (.Compare l [o₁, o₂] [r₁, r₂] pos) (.cmp2 p₁ a b p₂ c) := fun env A m g σ s Q R F S W => by
  refine PyProof.Rows.isTrue_chain (wpAny_mono (hl env A m g σ s _ R F S W) (fun v s₁ q => ?_) fun _ _ f => f) hm
  obtain ⟨x₁, g₁, σ₁, go₁, sx₁, rel₁, W₁⟩ := q
  show wpAny _ A (do
    let rv ← holding [v] (eval r₁ env)
    standAt pos
    let c ← holding [v, rv] (compareOp o₁ v rv)
    release [v, rv] [c]
    if ← holding [c, rv] (PySem.truthy c) then testChain pos rv [o₂] [eval r₂ env] else pure false) _ _ s₁
  refine wpAny_bind (wpAny_holding (wpAny_mono (hr env A m g₁ σ₁ s₁ _ R (F.go S go₁) go₁.st W₁) (fun v₂ s₂ q => ?_) fun _ _ f => f))
  obtain ⟨x₂, g₂, σ₂, go₂, sx₂, rel₂, W₂⟩ := q
  have go12 := go₁.trans go₂
  refine wpAny_bind (wpAny_standAt (wpAny_bind (wpAny_holding (wpAny_mono (cmpop_sound R go₂.st h₁ (go₂.rel go₁.st rel₁) rel₂ W₂) (fun v₃ s₃ q => ?_) fun _ _ f => f))))
  obtain ⟨x₃, g₃, σ₃, go₃, sx₃, rel₃, W₃⟩ := q
  refine wpAny_bind (PyProof.Rows.wpAny_release' (wpAny_bind (wpAny_holding (wpAny_mono (truthy_sound go₃.st rel₃ W₃) (fun t s₄ q => ?_) fun _ _ f => f))))
  obtain ⟨g₄, σ₄, go₄, sx₄, W₄⟩ := q
  have go4 := (go12.trans go₃).trans go₄
  have sx4 := ((sx₁.trans sx₂).trans sx₃).trans sx₄
  cases t with
  | false => exact wpAny_pure ⟨g₄, σ₄, go4, sx4, W₄⟩
  | true =>
    show wpAny _ A (do
      let rv ← holding [v₂] (eval r₂ env)
      standAt pos
      let c ← operate [v₂, rv] (compareOp o₂ v₂ rv)
      holding [c] (PySem.truthy c)) _ _ s₄
    refine wpAny_bind (wpAny_holding (wpAny_mono (hr₂ env A m g₄ σ₄ s₄ _ R (F.go S go4) go₄.st W₄) (fun v₅ s₅ q => ?_) fun _ _ f => f))
    obtain ⟨x₅, g₅, σ₅, go₅, sx₅, rel₅, W₅⟩ := q
    have r2 := go₅.rel go₄.st (go₄.rel go₃.st (go₃.rel go₂.st rel₂))
    refine wpAny_bind (wpAny_standAt (wpAny_bind (PyProof.Rows.wpAny_operate' (wpAny_mono (cmpop_sound R go₅.st h₂ r2 rel₅ W₅) (fun v₆ s₆ q => ?_) fun _ _ f => f))))
    obtain ⟨x₆, g₆, σ₆, go₆, sx₆, rel₆, W₆⟩ := q
    exact wpAny_holding (EndB.bind ((go4.trans go₅).trans go₆) ((sx4.trans sx₅).trans sx₆) (truthy_sound go₆.st rel₆ W₆))

/-- a function of the text's own is called -/
theorem se_call (G₀ : Gr K pg) (hf : SF K n) {x : Str} {p pos : Pos} {f : Nat} {es : List Expr} {as : List E} (hx : cx.names.lookup x = some .globalImplicit) (hd : (x == ("__debug__" : Str)) = false) (hfn : pg.fns.lookup x = some f) (h : SEs K n cx es as)
    (hst : ∀ e ∈ es, isStar e = false) (hlen : es.length = as.length) : SE K n cx (.Call (.Name x p) es [] pos) (.call f as) := fun env A m g σ s Q R F S W => by
  obtain ⟨hg, o, fd, ho, hdata⟩ := G₀.fn x f hfn
  refine wpAny_Call_ofName (load_glob G₀ F S hx hd hg ?_)
  show wpAny _ A (callWith pos (.ref (K.fa f)) [] (backTo pos (starEach es env)) []) _ _ s
  refine Calls.callWith_function (o := o) (fd := fd) ?_
  have fin : ∀ rs g₁ σ₁ s₁ vs, Go K g s.heap g₁ σ₁ s₁.heap → Sx s s₁ → VRels K g₁ s₁.heap rs vs → callW K.Φ n f rs σ₁ Q noX →
      (s₁.heap.get? (K.fa f) = some o ∧ o.data = .func fd) ∧ wpAny (model K.prog K.w) A (call (.ref (K.fa f)) ([] ++ vs) []) (EndE K g s Q) noE s₁ := fun rs g₁ σ₁ s₁ vs go₁ sx₁ rel₁ W₁ =>
    ⟨⟨go₁.st.base _ _ ho, hdata⟩, EndE.bind go₁ sx₁ (wpAny_call (codeAny_mono (hf f A g₁ σ₁ s₁ rs vs Q R go₁.st rel₁ W₁) fun r s' q => q))⟩
  cases es with
  | nil =>
    cases as with
    | cons a as => cases hlen
    | nil => exact evalArgs_none (fin [] g σ s [] (Go.refl S) (Sx.refl s) trivial W)
  | cons e es =>
    rw [star_cons (hst e (.head _))]
    refine Calls.evalArgs_plain ?_
    rw [← star_cons (hst e (.head _))]
    refine wpAny_mono (h env A m g σ s pos _ R F S W) (fun vs s₁ q => ?_) fun _ _ f => f
    obtain ⟨rs, g₁, σ₁, go₁, sx₁, rel₁, _, W₁⟩ := q
    exact fin rs g₁ σ₁ s₁ vs go₁ sx₁ rel₁ W₁

theorem any_back {es : List Expr} {env : Env} {pos : Pos} (hst : ∀ e ∈ es, isStar e = false) : (backTo pos (starEach es env)).any (·.1) = false := by
  induction es with
  | nil => rfl
  | cons e es ih =>
    rw [star_cons (hst e (.head _)), List.any_cons, ih fun e he => hst e (.tail _ he)]
    rfl

/-- a builtin of one argument -/
theorem se_blt1 (G₀ : Gr K pg) {x : Str} {v : Value} {p pos : Pos} {e : Expr} {a b : E} (hx : cx.names.lookup x = some .globalImplicit) (hd : (x == ("__debug__" : Str)) = false) (hv : blts.lookup x = some v) (hp : (∃ id, v = .builtin id) ∨ ∃ T, v = .type T)
    (h : SE K n cx e a) (hst : isStar e = false) {op : V → H → P → Prop} (hw : ∀ c x m σ Q, WE c x b m σ Q → WE c x a m σ fun u σ => op u σ Q)
    (ho : ∀ (A : Around) (g : G) (σ : H) (s : Shared) (u : V) (w : Value) (Q : P), Room A n → St K g σ s.heap → VRel K g s.heap u w → op u σ Q → wpAny (model K.prog K.w) A (call v [w] []) (EndE K g s Q) noE s) :
    SE K n cx (.Call (.Name x p) [e] [] pos) b := fun env A m g σ s Q R F S W => by
  refine wpAny_Call_ofName (load_blt G₀ F S hx hd hv ?_)
  refine call_plain (ps := [a]) (k := fun vs σ => match vs with | [u] => op u σ Q | _ => False) R F S hp (ses_cons hst h ses_nil) (by simp) (any_back (by simpa using hst)) ⟨_, _, star_cons hst⟩ ?_ ?_
  · exact hw _ _ _ _ _ W
  · intro rs g₁ σ₁ s₁ vs go₁ sx₁ rel₁ W₁
    split at W₁
    · cases vs with
      | nil => exact rel₁.elim
      | cons w vs =>
        cases vs with
        | cons _ _ => exact rel₁.2.elim
        | nil => exact EndE.bind go₁ sx₁ (ho A g₁ σ₁ s₁ _ w Q R go₁.st rel₁.1 W₁)
    · exact W₁.elim
end
end Mini

set_option autoImplicit false
set_option linter.unusedVariables false
namespace Mini
open PySem

section
variable {K : Ctx} {pg : Pg} {n : Nat} {cx : Cx}

theorem len_sound {A : Around} {g : G} {σ : H} {s : Shared} {u : V} {w : Value} {Q : P} (S : St K g σ s.heap) (r : VRel K g s.heap u w) (W : bi1 .len u σ Q) : wpAny (model K.prog K.w) A (call (.builtin "len") [w] []) (EndE K g s Q) noE s := by
  cases u <;> simp only [bi1] at W <;> try exact W.elim
  · obtain ⟨xs, hx, q⟩ := W
    obtain ⟨b, vs, k, rfl, _, hl, _, e, z⟩ := S.list r hx
    refine Calls.call_len_list hl.isList (by rw [sizeLine_is] at z; omega) ?_
    rw [e]
    exact end_same S (vint ..) q
  · rename_i xs
    obtain ⟨b, vs, k, rfl, _, ho, rr⟩ := r
    have e : vs.size = xs.length := by rw [← Array.length_toList]; exact rr.length.symm
    have hlim : lim = 16777216 := rfl
    refine PyProof.Rows.len_tuple ⟨_, ho, rfl, k, rfl⟩ (by rw [e]; have := W.1; omega) ?_
    rw [e]
    exact end_same S (vint ..) W.2
theorem list_sound {A : Around} {g : G} {σ : H} {s : Shared} {u : V} {w : Value} {Q : P} (S : St K g σ s.heap) (r : VRel K g s.heap u w) (W : bi1 .list u σ Q) : wpAny (model K.prog K.w) A (call (.type "list") [w] []) (EndE K g s Q) noE s := by
  cases u <;> simp only [bi1] at W <;> try exact W.elim
  obtain ⟨xs, hx, q⟩ := W
  obtain ⟨b, vs, k, rfl, _, hl, rr, e, z⟩ := S.list r hx
  exact call_list_seq b (.inl rfl) hl rfl rfl (fun h' c' hk e' => end_list S (none_at_size _) hk e' rr q) z
theorem int_sound {A : Around} {g : G} {σ : H} {s : Shared} {u : V} {w : Value} {Q : P} (S : St K g σ s.heap) (r : VRel K g s.heap u w) (W : bi1 .intOf u σ Q) : wpAny (model K.prog K.w) A (call (.type "int") [w] []) (EndE K g s Q) noE s := by
  cases u <;> simp only [bi1] at W <;> try exact W.elim
  cases r
  exact call_int_bool (end_same S (vint ..) W)

theorem se_len (G₀ : Gr K pg) {x : Str} {p pos : Pos} {e : Expr} {a : E} (hx : cx.names.lookup x = some .globalImplicit) (hd : (x == ("__debug__" : Str)) = false) (hv : blts.lookup x = some (.builtin "len")) (h : SE K n cx e a) (hst : isStar e = false) : SE K n cx (.Call (.Name x p) [e] [] pos) (.b1 .len a) :=
  se_blt1 G₀ hx hd hv (.inl ⟨_, rfl⟩) h hst (op := bi1 .len) (fun _ _ _ _ _ W => W) fun A g σ s u w Q R S r W => len_sound S r W
theorem se_list (G₀ : Gr K pg) {x : Str} {p pos : Pos} {e : Expr} {a : E} (hx : cx.names.lookup x = some .globalImplicit) (hd : (x == ("__debug__" : Str)) = false) (hv : blts.lookup x = some (.type "list")) (h : SE K n cx e a) (hst : isStar e = false) : SE K n cx (.Call (.Name x p) [e] [] pos) (.b1 .list a) :=
  se_blt1 G₀ hx hd hv (.inr ⟨_, rfl⟩) h hst (op := bi1 .list) (fun _ _ _ _ _ W => W) fun A g σ s u w Q R S r W => list_sound S r W
theorem se_intOf (G₀ : Gr K pg) {x : Str} {p pos : Pos} {e : Expr} {a : E} (hx : cx.names.lookup x = some .globalImplicit) (hd : (x == ("__debug__" : Str)) = false) (hv : blts.lookup x = some (.type "int")) (h : SE K n cx e a) (hst : isStar e = false) : SE K n cx (.Call (.Name x p) [e] [] pos) (.b1 .intOf a) :=
  se_blt1 G₀ hx hd hv (.inr ⟨_, rfl⟩) h hst (op := bi1 .intOf) (fun _ _ _ _ _ W => W) fun A g σ s u w Q R S r W => int_sound S r W

theorem se_max2 (G₀ : Gr K pg) {x : Str} {p pos : Pos} {e e' : Expr} {a b : E} (hx : cx.names.lookup x = some .globalImplicit) (hd : (x == ("__debug__" : Str)) = false) (hv : blts.lookup x = some (.builtin "max")) (h : SE K n cx e a) (hst : isStar e = false) (h' : SE K n cx e' b) (hst' : isStar e' = false) :
    SE K n cx (.Call (.Name x p) [e, e'] [] pos) (.max2 a b) := fun env A m g σ s Q R F S W => by
  refine wpAny_Call_ofName (load_blt G₀ F S hx hd hv ?_)
  refine call_plain (ps := [a, b]) (k := fun vs σ => match vs with | [v, w] => (match v, w with | .int i, .int j => Q (.int (max i j)) σ | _, _ => False) | _ => False) R F S (.inl ⟨_, rfl⟩) (ses_cons hst h (ses_cons hst' h' ses_nil)) (by simp) (any_back (by simp [hst, hst'])) ⟨_, _, star_cons hst⟩ W ?_
  intro rs g₁ σ₁ s₁ vs go₁ sx₁ rel₁ W₁
  rcases rs with _ | ⟨r, _ | ⟨r', _ | ⟨_, _⟩⟩⟩ <;> simp only at W₁
  cases r <;> cases r' <;> simp only at W₁
  rename_i i j
  rcases vs with _ | ⟨v, _ | ⟨w, _ | ⟨_, _⟩⟩⟩ <;> simp only [VRels, and_false] at rel₁
  obtain ⟨⟨t, e1⟩, ⟨u, e2⟩, _⟩ := rel₁
  subst e1 e2
  refine max_two_ints R.handled fun h' tk hk => EndE.trans go₁ sx₁ ?_
  have : (if j > i then Value.int j u else Value.int i t) = Value.int (max i j) (if j > i then u else t) := by
    by_cases c : j > i
    · simp only [if_pos c]; rw [show max i j = j by omega]
    · simp only [if_neg c]; rw [show max i j = i by omega]
  rw [this]
  exact end_kept go₁.st hk (vint ..) W₁

noncomputable def kdOf : Str → Option (Kd × String) := fun x =>
  if x = "int" then some (.int, "int") else if x = "bool" then some (.bool, "bool") else if x = "list" then some (.list, "list") else if x = "tuple" then some (.tup, "tuple") else if x = "str" then some (.str, "str") else none

theorem isi_sound {A : Around} {g : G} {σ : H} {s : Shared} {u : V} {w : Value} {Q : P} {k : Kd} {T : String} {b : Bool} (S : St K g σ s.heap) (hT : (k, T) ∈ [(Kd.int, "int"), (.bool, "bool"), (.list, "list"), (.tup, "tuple"), (.str, "str")]) (r : VRel K g s.heap u w)
    (hb : isKd k u = some b) (W : Q (.bool b) σ) : wpAny (model K.prog K.w) A (call (.builtin "isinstance") [w, .type T] []) (EndE K g s Q) noE s := by
  simp only [List.mem_cons, Prod.mk.injEq, List.not_mem_nil, or_false] at hT
  rcases hT with ⟨rfl, rfl⟩ | ⟨rfl, rfl⟩ | ⟨rfl, rfl⟩ | ⟨rfl, rfl⟩ | ⟨rfl, rfl⟩ <;> cases u <;> simp only [isKd, Option.some.injEq, reduceCtorEq] at hb <;> subst hb
  · obtain ⟨t, rfl⟩ := r
    exact IsiPair.int_int (end_same S (vbool ..) W)
  · cases r
    exact IsiPair.NoneType_bool (end_same S (vbool ..) W)
  · cases r
    exact IsiPair.bool_bool (end_same S (vbool ..) W)
  · obtain ⟨t, rfl⟩ := r
    exact IsiPair.int_bool (end_same S (vbool ..) W)
  · obtain ⟨t, rfl⟩ := r
    exact IsiPair.int_list (end_same S (vbool ..) W)
  · obtain ⟨b, hb, rfl⟩ := r
    rename_i a
    have hl : a < σ.length := by rw [← S.len]; exact (List.getElem?_eq_some_iff.mp hb).1
    obtain ⟨vs, k, ho, _⟩ := S.lists a b σ[a] hb (List.getElem?_eq_getElem hl)
    exact IsiPair.list_list ho rfl (end_same S (vbool ..) W)
  · obtain ⟨b, vs, k, rfl, _, ho, _⟩ := r
    exact IsiPair.tuple_tuple ho rfl (end_same S (vbool ..) W)
  · obtain ⟨x, t, _, rfl⟩ := r
    exact IsiPair.str_str (end_same S (vbool ..) W)

theorem sub_plain {slice : Expr} {o i : Value} (h : ∀ a b c d, slice ≠ .Slice a b c d) : subscripted slice false o i = operate [o, i] (getItem o i) := by
  cases slice <;> first | rfl | exact absurd rfl (h _ _ _ _)

theorem se_idx {v i : Expr} {a b : E} {pos : Pos} (h : SE K n cx v a) (hi : SE K n cx i b) (hs : ∀ a b c d, i ≠ .Slice a b c d) : SE K n cx (.Subscript v i pos) (.idx a b) := fun env A m g σ s Q R F S W => by
  refine PyProof.Rows.Subscript_ (wpAny_mono (h env A m g σ s _ R F S W) (fun o s₁ q => ?_) fun _ _ f => f)
  obtain ⟨r₁, g₁, σ₁, go₁, sx₁, rel₁, W₁⟩ := q
  refine wpAny_mono (hi env A m g₁ σ₁ s₁ _ R (F.go S go₁) go₁.st W₁) (fun k s₂ q => ?_) fun _ _ f => f
  obtain ⟨r₂, g₂, σ₂, go₂, sx₂, rel₂, W₂⟩ := q
  have rel₁' := go₂.rel go₁.st rel₁
  refine EndE.bind (go₁.trans go₂) (sx₁.trans sx₂) ?_
  have S₂ := go₂.st
  cases r₁ <;> cases r₂ <;> simp only [item] at W₂ <;> try exact W₂.elim
  · obtain ⟨xs, u, hx, hk, q⟩ := W₂
    obtain ⟨t, rfl⟩ := rel₂
    obtain ⟨b₁, vs, k₁, rfl, _, hl, rr, e, z⟩ := S₂.list rel₁' hx
    rw [sizeLine_is] at z
    rcases hk with ⟨h0, hk⟩ | ⟨h0, h1, hk⟩
    · obtain ⟨w, hw, rw'⟩ := rr.get hk
      have hlt := (List.getElem?_eq_some_iff.mp hk).1
      exact PyProof.Rows.tail_any hl.isList.typeIs slot_list_getitem.lookup (wpAny_getItem_list hl.isList h0 (by omega) (by simpa using hw) (end_same S₂ rw' q)) (sub_plain hs)
    · obtain ⟨w, hw, rw'⟩ := rr.get hk
      exact PyProof.Rows.tail_any hl.isList.typeIs slot_list_getitem.lookup (wpAny_getItem_list_neg hl.isList h0 (by omega) (by omega) (by rw [e]; simpa using hw) (end_same S₂ rw' q)) (sub_plain hs)
  · rename_i ys i
    obtain ⟨⟨h0, h1⟩, u, hk, q⟩ := W₂
    obtain ⟨t, rfl⟩ := rel₂
    obtain ⟨b₁, vs, k₁, rfl, _, ho, rr⟩ := rel₁'
    obtain ⟨w, hw, rw'⟩ := rr.get hk
    have hlt' : i.toNat < vs.size := by simpa using (List.getElem?_eq_some_iff.mp hw).1
    have hj : seqIndex? i vs.size = some i.toNat := by
      unfold seqIndex?
      have e1 : ¬ i < 0 := by omega
      have e2 : (0 ≤ i && i < (vs.size : Int)) = true := by simp; omega
      simp only [e1, if_false, e2, if_true]
    have ht : PyProof.Rows.IsTup s₂.heap b₁ vs := ⟨_, ho, rfl, k₁, rfl⟩
    exact PyProof.Rows.tail_any ht.typeIs PySem.F.slot_tuple_getitem.lookup (PyProof.Rows.getItem_tuple ht (by omega) (by omega) hj (by simpa using hw) (end_same S₂ rw' q)) (sub_plain hs)
end
end Mini

set_option autoImplicit false
set_option linter.unusedVariables false
namespace Mini
open PySem

noncomputable def plainBase : Expr → Bool
  | .Call (.Name _ _) [] [] _ => false
  | _ => true
theorem base_eq {o : Expr} {name : Str} {env : Env} {t : Sem Value} (h : plainBase o = true) : attributeBase o name env t = t := by
  cases o <;> try rfl
  rename_i f as ks p
  cases f <;> try rfl
  cases as <;> try rfl
  cases ks <;> try rfl
  simp [plainBase] at h

section
variable {K : Ctx} {pg : Pg} {n : Nat} {cx : Cx}

theorem se_isinst (G₀ : Gr K pg) {x y : Str} {p p' pos : Pos} {e : Expr} {a : E} {k : Kd} {T : String} (hx : cx.names.lookup x = some .globalImplicit) (hd : (x == ("__debug__" : Str)) = false) (hv : blts.lookup x = some (.builtin "isinstance"))
    (hy : cx.names.lookup y = some .globalImplicit) (hdy : (y == ("__debug__" : Str)) = false) (hvy : blts.lookup y = some (.type T)) (hT : (k, T) ∈ [(Kd.int, "int"), (.bool, "bool"), (.list, "list"), (.tup, "tuple"), (.str, "str")])
    (h : SE K n cx e a) (hst : isStar e = false) : SE K n cx (.Call (.Name x p) [e, .Name y p'] [] pos) (.isinst a k) := fun env A m g σ s Q R F S W => by
  refine wpAny_Call_ofName (load_blt G₀ F S hx hd hv ?_)
  show wpAny _ A (callWith pos (.builtin "isinstance") [] (backTo pos (starEach [e, .Name y p'] env)) []) _ _ s
  rw [star_cons hst, star_cons (e := .Name y p') rfl]
  refine Calls.callWith_builtin rfl (Calls.evalArgs_plain (Calls.spliced_cons (wpAny_mono (h env A m g σ s _ R F S W) (fun v s₁ q => ?_) fun _ _ f => f)))
  obtain ⟨r₁, g₁, σ₁, go₁, sx₁, rel₁, b, hb, W₁⟩ := q
  refine Calls.spliced_cons (load_blt G₀ (F.go S go₁) go₁.st hy hdy hvy (Calls.spliced_nil ?_))
  exact EndE.bind go₁ sx₁ (isi_sound go₁.st hT rel₁ hb W₁)

theorem VRels.of_get {g : G} {h : Heap} : ∀ {xs : List V} {vs : List Value}, xs.length = vs.length → (∀ (i : Nat) (x : V) (v : Value), xs[i]? = some x → vs[i]? = some v → VRel K g h x v) → VRels K g h xs vs
  | [], [], _, _ => trivial
  | x :: xs, v :: vs, e, h' => ⟨h' 0 x v rfl rfl, VRels.of_get (by simpa using e) fun i y w h1 h2 => h' (i + 1) y w (by simpa using h1) (by simpa using h2)⟩
  | [], _ :: _, e, _ => by cases e
  | _ :: _, [], e, _ => by cases e
theorem se_listRange (G₀ : Gr K pg) {x y : Str} {p p' pos pos' : Pos} {e : Expr} {a : E} (hx : cx.names.lookup x = some .globalImplicit) (hd : (x == ("__debug__" : Str)) = false) (hv : blts.lookup x = some (.type "list"))
    (hy : cx.names.lookup y = some .globalImplicit) (hdy : (y == ("__debug__" : Str)) = false) (hvy : blts.lookup y = some (.type "range"))
    (h : SE K n cx e a) (hst : isStar e = false) : SE K n cx (.Call (.Name x p) [.Call (.Name y p') [e] [] pos'] [] pos) (.listRange a) := fun env A m g σ s Q R F S W => by
  refine wpAny_Call_ofName (load_blt G₀ F S hx hd hv ?_)
  show wpAny _ A (callWith pos (.type "list") [] (backTo pos (starEach [.Call (.Name y p') [e] [] pos'] env)) []) _ _ s
  rw [star_cons (e := .Call (.Name y p') [e] [] pos') rfl]
  refine callWith_type rfl (Calls.evalArgs_plain (Calls.spliced_cons (wpAny_Call_ofName (load_blt G₀ F S hy hdy hvy ?_))))
  show wpAny _ A (callWith pos' (.type "range") [] (backTo pos' (starEach [e] env)) []) _ _ s
  rw [star_cons hst]
  refine callWith_type rfl (Calls.evalArgs_plain (Calls.spliced_cons (wpAny_mono (h env A m g σ s _ R F S W) (fun v s₁ q => ?_) fun _ _ f => f)))
  obtain ⟨r₁, g₁, σ₁, go₁, sx₁, rel₁, W₁⟩ := q
  refine Calls.spliced_nil ?_
  cases r₁ <;> try exact W₁.elim
  rename_i N
  obtain ⟨t, rfl⟩ := rel₁
  refine call_range_1 (Calls.spliced_nil ?_)
  obtain ⟨⟨h0, h1⟩, W₁⟩ := W₁
  have hsz : Builtin.Range.rangeSize 0 N 1 = (N.toNat : Int) := by rw [rangeSize_one]; split <;> omega
  refine call_list_range R.handled (IsRange.new ..) (small_one (by decide) (by decide) (by omega) (by omega)) hsz (by omega) fun h' tk acc' c' hk e' hacc => ?_
  refine EndE.trans go₁ sx₁ ?_
  rw [Heap.size_push] at e' ⊢
  refine end_list go₁.st (none_above (Nat.le_succ _)) (fun b o e => hk b o (Heap.get?_push_of_some _ e)) e' ?_ W₁
  refine VRels.of_get (by have := hacc.1; simp [rangeV, this]) fun i x v h1 h2 => ?_
  obtain ⟨t, rfl⟩ := hacc.2 i v (by simpa using h2)
  simp only [rangeV, List.getElem?_map, Option.map_eq_some_iff] at h1
  obtain ⟨j, hj, rfl⟩ := h1
  have : j = i := by
    obtain ⟨hl, he⟩ := List.getElem?_eq_some_iff.mp hj
    simpa using he.symm
  subst this
  exact ⟨t, by simp⟩

theorem se_hall (G₀ : Gr K pg) {x : Str} {p pos : Pos} {es : List Expr} {as : List E} (hx : cx.names.lookup x = some .globalImplicit) (hd : (x == ("__debug__" : Str)) = false) (hh : x = pg.hall) (h0 : x ≠ "") (h : SEs K n cx es as)
    (hst : ∀ e ∈ es, isStar e = false) (hne : es ≠ []) : SE K n cx (.Call (.Name x p) es [] pos) (.hall as) := fun env A m g σ s Q R F S W => by
  obtain ⟨hg, hf⟩ := G₀.hall x hh h0
  refine wpAny_Call_ofName (load_glob G₀ F S hx hd hg ?_)
  show wpAny _ A (callWith pos (.ref K.hallC) [] (backTo pos (starEach es env)) []) _ _ s
  refine G₀.make (hh ▸ h0) A n s pos _ _ _ R (any_back hst) ?_
  cases es with
  | nil => exact absurd rfl hne
  | cons e es =>
    rw [star_cons (hst e (.head _))]
    refine Calls.evalArgs_plain ?_
    rw [← star_cons (hst e (.head _))]
    refine wpAny_mono (h env A m g σ s pos _ R F S W) (fun vs s₁ q => ?_) fun _ _ f => f
    obtain ⟨rs, g₁, σ₁, go₁, sx₁, rel₁, _, hl, W₁⟩ := q
    refine ⟨rfl, go₁.st.base, by rw [← rel₁.length]; exact hl, fun b d o h' tk hb hd' eb ed hdo hk => EndE.trans go₁ sx₁ ?_⟩
    have go : Go K g₁ s₁.heap _ σ₁ h' := Go.imms go₁.st (fun c => c = b ∨ c = d) (fun c e => by rcases e with rfl | rfl <;> assumption) (fun c e => by rcases e with rfl | rfl; exact ⟨_, eb⟩; exact ⟨_, ed⟩) hk
    exact ⟨.inst rs, _, σ₁, go, ⟨rfl, rfl⟩, ⟨b, d, o, vs, rfl, .inr (.inl rfl), .inr (.inr rfl), eb, ed, hdo, go.rels go₁.st rel₁⟩, W₁⟩

theorem se_attr (G₀ : Gr K pg) {v : Expr} {x : Str} {pos : Pos} {a : E} {k : Nat} (h : SE K n cx v a) (hb : plainBase v = true) (hk : K.fields[k]? = some x) : SE K n cx (.Attribute v x pos) (.attr a k) := fun env A m g σ s Q R F S W => by
  have he : eval (.Attribute v x pos) env = (do
      let o ← eval v env
      standAt pos.atName
      let r ← holding [o] (getAttr o x true)
      letTemporaryGo v o r
      pure r) := by
    show (do
      let o ← attributeBase v x env (eval v env)
      standAt pos.atName
      let r ← holding [o] (getAttr o x true)
      letTemporaryGo v o r
      pure r) = _
    rw [base_eq hb]
  refine PyProof.Rows.Attribute_any_ (wpAny_mono (h env A m g σ s _ R F S W) (fun o s₁ q => ?_) fun _ _ f => f) he
  obtain ⟨r₁, g₁, σ₁, go₁, sx₁, rel₁, W₁⟩ := q
  cases r₁ <;> simp only [field] at W₁ <;> try exact W₁.elim
  obtain ⟨u, hu, q⟩ := W₁
  obtain ⟨b, d, ob, vs, rfl, ib, id, eb, ed, hdo, rr⟩ := rel₁
  obtain ⟨w, hw, rw'⟩ := rr.get hu
  exact G₀.attr A s₁ _ _ b d ob vs k x w go₁.st.base eb ed hdo hk hw fun tk => EndE.trans go₁ sx₁ (end_same go₁.st rw' q)

theorem sliceFrom_eq (items : Array Value) (k : Int) (h : 0 ≤ k) : slicePick items (some k) none none = (items.toList.drop k.toNat).toArray := by
  by_cases hk : k.toNat ≤ items.size
  · have := slicePick_from items k.toNat hk
    rwa [Int.toNat_of_nonneg h] at this
  · have e : sliceBounds (some k) none none items.size = sliceBounds (some (items.size : Int)) none none items.size := by
      simp only [sliceBounds, Option.getD_none]
      have h1 : ¬ (k < 0) := by omega
      have h2 : ¬ ((items.size : Int) < 0) := by omega
      simp only [h1, h2, if_false, show (1 : Int) > 0 by decide, if_true]
      congr 1
      omega
    unfold slicePick
    rw [e]
    have := slicePick_from items items.size (Nat.le_refl _)
    unfold slicePick at this
    rw [this, List.drop_of_length_le (by simp), List.drop_of_length_le (by simp; omega)]
theorem sliceTo_eq (items : Array Value) (k : Int) (h : 0 ≤ k) : slicePick items none (some k) none = (items.toList.take k.toNat).toArray := by
  by_cases hk : k.toNat ≤ items.size
  · have := slicePick_upto items k.toNat hk
    rwa [Int.toNat_of_nonneg h] at this
  · have e : sliceBounds none (some k) none items.size = sliceBounds none (some (items.size : Int)) none items.size := by
      simp only [sliceBounds, Option.getD_none]
      have h1 : ¬ (k < 0) := by omega
      have h2 : ¬ ((items.size : Int) < 0) := by omega
      simp only [h1, h2, if_false, show (1 : Int) > 0 by decide, if_true]
      congr 1
      congr 1
      omega
    unfold slicePick
    rw [e]
    have := slicePick_upto items items.size (Nat.le_refl _)
    unfold slicePick at this
    rw [this, List.take_of_length_le (by simp), List.take_of_length_le (by simp; omega)]

theorem push2 {h : Heap} {o o' : Obj} : ∀ b x, h.get? b = some x → ((h.push o).push o').get? b = some x := fun b x e => Heap.get?_push_of_some _ (Heap.get?_push_of_some _ e)

theorem se_from {v i : Expr} {a b : E} {p pos : Pos} (h : SE K n cx v a) (hi : SE K n cx i b) : SE K n cx (.Subscript v (.Slice (some i) none none p) pos) (.from_ a b) := fun env A m g σ s Q R F S W => by
  refine PyProof.Rows.Subscript_ (wpAny_mono (h env A m g σ s _ R F S W) (fun o s₁ q => ?_) fun _ _ f => f)
  obtain ⟨r₁, g₁, σ₁, go₁, sx₁, rel₁, W₁⟩ := q
  refine wpAny_Slice ?_
  show wpAny _ A (eval i env) _ _ s₁
  refine wpAny_mono (hi env A m g₁ σ₁ s₁ _ R (F.go S go₁) go₁.st W₁) (fun k s₂ q => ?_) fun _ _ f => f
  obtain ⟨r₂, g₂, σ₂, go₂, sx₂, rel₂, W₂⟩ := q
  have rel₁' := go₂.rel go₁.st rel₁
  refine wpAny_pure (wpAny_pure ?_)
  cases r₁ <;> cases r₂ <;> simp only [sliceFrom] at W₂ <;> try exact W₂.elim
  obtain ⟨xs, hx, hk, q⟩ := W₂
  obtain ⟨t, rfl⟩ := rel₂
  obtain ⟨b₁, vs, k₁, rfl, _, hl, rr, e, z⟩ := go₂.st.list rel₁' hx
  refine PyProof.Rows.tail_any (ops := _) (hl.push _).isList.typeIs slot_list_getitem.lookup (wpAny_getItem_list_slice (hl.push _).isList (Heap.IsSliceOf.new ..) (.int _ t) .none .none (by simp) ?_ z) rfl
  refine EndE.trans (go₁.trans go₂) (sx₁.trans sx₂) ?_
  refine end_list go₂.st (none_above (by rw [Heap.size_push]; exact Nat.le_succ _)) push2 (Heap.get?_push_size _ rfl) ?_ q
  rw [sliceFrom_eq _ _ hk]
  exact rr.drop _
theorem se_upto {v i : Expr} {a b : E} {p pos : Pos} (h : SE K n cx v a) (hi : SE K n cx i b) : SE K n cx (.Subscript v (.Slice none (some i) none p) pos) (.upto a b) := fun env A m g σ s Q R F S W => by
  refine PyProof.Rows.Subscript_ (wpAny_mono (h env A m g σ s _ R F S W) (fun o s₁ q => ?_) fun _ _ f => f)
  obtain ⟨r₁, g₁, σ₁, go₁, sx₁, rel₁, W₁⟩ := q
  refine wpAny_Slice (wpAny_pure ?_)
  show wpAny _ A (eval i env) _ _ s₁
  refine wpAny_mono (hi env A m g₁ σ₁ s₁ _ R (F.go S go₁) go₁.st W₁) (fun k s₂ q => ?_) fun _ _ f => f
  obtain ⟨r₂, g₂, σ₂, go₂, sx₂, rel₂, W₂⟩ := q
  have rel₁' := go₂.rel go₁.st rel₁
  refine wpAny_pure ?_
  cases r₁ <;> cases r₂ <;> simp only [sliceTo] at W₂ <;> try exact W₂.elim
  obtain ⟨xs, hx, hk, q⟩ := W₂
  obtain ⟨t, rfl⟩ := rel₂
  obtain ⟨b₁, vs, k₁, rfl, _, hl, rr, e, z⟩ := go₂.st.list rel₁' hx
  refine PyProof.Rows.tail_any (ops := _) (hl.push _).isList.typeIs slot_list_getitem.lookup (wpAny_getItem_list_slice (hl.push _).isList (Heap.IsSliceOf.new ..) .none (.int _ t) .none (by simp) ?_ z) rfl
  refine EndE.trans (go₁.trans go₂) (sx₁.trans sx₂) ?_
  refine end_list go₂.st (none_above (by rw [Heap.size_push]; exact Nat.le_succ _)) push2 (Heap.get?_push_size _ rfl) ?_ q
  rw [sliceTo_eq _ _ hk]
  exact rr.take _
end
end Mini

set_option autoImplicit false
set_option linter.unusedVariables false
namespace Mini
open PySem

section
variable {K : Ctx} {pg : Pg} {n : Nat} {cx : Cx}

theorem upd_get {h : Heap} {b c : Addr} {f : Obj → Obj} (e : c ≠ b) : (h.update b f).get? c = h.get? c := Heap.get?_update_ne h c b f e

/-- a list of ours is changed -/
theorem end_put {g : G} {σ : H} {s : Shared} (S : St K g σ s.heap) {i : Nat} {b : Addr} {xs ys : List V} {vs ws : Array Value} {k : Nat} {Q : P} {u : V} {w : Value} {f : Array Value → Array Value} (hb : g.ρ[i]? = some b) (hx : σ[i]? = some xs) (h0 : i ≠ 0)
    (hl : IsL s.heap b vs k) (e : f vs = ws) (r : VRels K g s.heap ys ws.toList) (hz : ys.length ≤ lim) (ru : VRel K g s.heap u w) (q : Q u (σ.set i ys)) : EndE K g s Q w { s with heap := s.heap.update b (Obj.mapSeq f) } := by
  subst e
  have go : Go K g s.heap g (σ.set i ys) (s.heap.update b (Obj.mapSeq f)) := Go.put S hb hx h0 (fun c hc => upd_get hc) (hl.update f) r hz
  exact ⟨u, g, _, go, ⟨rfl, rfl⟩, go.rel S ru, q⟩

theorem few1 {e : Expr} {env : Env} {pos : Pos} (hst : isStar e = false) : ((backTo pos (starEach [e] env)).all (fun x => !x.1) && (backToKw pos (keywordEach [] env)).all (fun x => x.1.isSome)
      && decide (([e] : List Expr).length + ([] : List Keyword).length + (if ([] : List Keyword).isEmpty then 0 else 1) < 30)) = true := by
  rw [star_cons hst]; rfl

theorem meth_base {g : G} {σ : H} {s : Shared} (S : St K g σ s.heap) {a : Nat} {w : Value} (r : VRel K g s.heap (.ref a) w) : s.TypeIs w "list" ∧ ∀ a, w = .ref a → ∃ ob, s.heap.get? a = some ob ∧ ob.dict = none := by
  obtain ⟨b, hb, rfl⟩ := r
  have hl : a < σ.length := by rw [← S.len]; exact (List.getElem?_eq_some_iff.mp hb).1
  obtain ⟨vs, k, ho, _⟩ := S.lists a b σ[a] hb (List.getElem?_eq_getElem hl)
  exact ⟨⟨_, ho, rfl⟩, fun c e => by cases e; exact ⟨_, ho, rfl⟩⟩

/-- a method of a list, of one argument -/
theorem se_meth1 {o e : Expr} {name : Str} {apos pos : Pos} {a b : E} {f : M1} {id : String} (ho : SE K n cx o a) (he : SE K n cx e b) (hb : plainBase o = true) (hst : isStar e = false) (hline : (apos.endLine == pos.line) = true) (slot : Slot "list" name id) (hty : typeOf (.builtin id) = pure (.type "method_descriptor"))
    (hm : ∀ (A : Around) (s : Shared) (x : Sem Value) (l : Addr) (R : Value → Shared → Prop), wpAny (model K.prog K.w) A x (fun w s₂ => ∃ (i : Nat) (g₂ : G) (σ₂ : H) (r₂ : V) (Q : P), St K g₂ σ₂ s₂.heap ∧ VRel K g₂ s₂.heap (.ref i) (.ref l) ∧ VRel K g₂ s₂.heap r₂ w ∧ me1 f (.ref i) r₂ σ₂ Q ∧ ∀ v s₃, EndE K g₂ s₂ Q v s₃ → R v s₃) noE s →
      wpAny (model K.prog K.w) A (callWith pos (.builtin id) [.ref l] [(false, x)] []) R noE s) :
    SE K n cx (.Call (.Attribute o name apos) [e] [] pos) (.m1 f a b) := fun env A m g σ s Q R F S W => by
  refine wpAny_Call_method (T := "list") (id := id) (base_eq hb) (few1 hst) hline PySem.F.plainAttrs_list slot hty (wpAny_mono (ho env A m g σ s _ R F S W) (fun v s₁ q => ?_) fun _ _ f => f)
  obtain ⟨r₁, g₁, σ₁, go₁, sx₁, rel₁, hr, W₁⟩ := q
  cases r₁ <;> try exact hr.elim
  rename_i i
  obtain ⟨t1, t2⟩ := meth_base go₁.st rel₁
  refine ⟨t1, t2, ?_⟩
  rw [star_cons hst]
  obtain ⟨b₁, hb₁, rfl⟩ := _root_.id rel₁
  refine hm A s₁ _ b₁ _ (wpAny_mono (he env A m g₁ σ₁ s₁ _ R (F.go S go₁) go₁.st W₁) (fun w s₂ q => ?_) fun _ _ f => f)
  obtain ⟨r₂, g₂, σ₂, go₂, sx₂, rel₂, W₂⟩ := q
  exact ⟨i, g₂, σ₂, r₂, Q, go₂.st, go₂.rel go₁.st rel₁, rel₂, W₂, fun v s₃ q => EndE.trans (go₁.trans go₂) (sx₁.trans sx₂) q⟩

theorem se_append {o e : Expr} {apos pos : Pos} {a b : E} (ho : SE K n cx o a) (he : SE K n cx e b) (hb : plainBase o = true) (hst : isStar e = false) (hline : (apos.endLine == pos.line) = true) :
    SE K n cx (.Call (.Attribute o "append" apos) [e] [] pos) (.m1 .append a b) := by
  refine se_meth1 ho he hb hst hline PySem.F.slot_list_append PySem.F.type_list_append fun A s x l R h => P.append_list (wpAny_mono h (fun w s₂ q => ?_) fun _ _ f => f)
  obtain ⟨i, g₂, σ₂, r₂, Q, S₂, rl, rel₂, ⟨xs, h0, hx, hz, q⟩, hR⟩ := q
  obtain ⟨b₂, vs, k, e1, hb₂, hl, rr, e, z⟩ := S₂.list rl hx
  cases e1
  exact ⟨vs, k, z, hl, hR _ _ (end_put (u := .none) S₂ hb₂ hx h0 hl rfl (by rw [Array.toList_push]; exact rr.append ⟨rel₂, trivial⟩) (by simp; omega) rfl q)⟩

theorem se_pop {o e : Expr} {apos pos : Pos} {a b : E} (ho : SE K n cx o a) (he : SE K n cx e b) (hb : plainBase o = true) (hst : isStar e = false) (hline : (apos.endLine == pos.line) = true) :
    SE K n cx (.Call (.Attribute o "pop" apos) [e] [] pos) (.m1 .pop a b) := by
  refine se_meth1 ho he hb hst hline PySem.F.slot_list_pop PySem.F.type_list_pop fun A s x l R h => P.pop_at_list (wpAny_mono h (fun w s₂ q => ?_) fun _ _ f => f)
  obtain ⟨i, g₂, σ₂, r₂, Q, S₂, rl, rel₂, W, hR⟩ := q
  cases r₂ <;> simp only [me1] at W <;> try exact W.elim
  rename_i j
  obtain ⟨xs, u, h0, hx, hj, hu, q⟩ := W
  obtain ⟨b₂, vs, k, e1, hb₂, hl, rr, e, z⟩ := S₂.list rl hx
  cases e1
  obtain ⟨t, rfl⟩ := rel₂
  obtain ⟨w, hw, rw'⟩ := rr.get hu
  have hlt : j.toNat < vs.size := by simpa using (List.getElem?_eq_some_iff.mp hw).1
  rw [sizeLine_is] at z
  have hk : seqIndex? j vs.size = some j.toNat := by
    unfold seqIndex?
    have e1 : ¬ j < 0 := by omega
    have e2 : (0 ≤ j && j < (vs.size : Int)) = true := by simp; omega
    simp only [e1, if_false, e2, if_true]
  refine ⟨vs, k, j, t, j.toNat, w, by rw [sizeLine_is]; exact z, rfl, hl, by simp [Builtin.List.listFitsIndex]; omega, hk, by simpa using hw, hR _ _ (end_put S₂ hb₂ hx h0 hl rfl ?_ ?_ rw' q)⟩
  · have : (vs.eraseIdxIfInBounds j.toNat).toList = vs.toList.eraseIdx j.toNat := by
      rw [Array.eraseIdxIfInBounds, dif_pos hlt, Array.toList_eraseIdx]
    rw [this]
    exact rr.eraseIdx _
  · have := S₂.small xs (List.mem_of_getElem? hx)
    have h2 := List.length_eraseIdx_le xs j.toNat
    omega

theorem ints_rel {g : G} {h : Heap} : ∀ {is : List Int} {vs : List Value}, VRels K g h (is.map V.int) vs → ∀ v ∈ vs, ∃ i t, v = .int i t
  | [], [], _, v, hv => nomatch hv
  | i :: is, w :: vs, r, v, hv => by
    rcases List.mem_cons.mp hv with rfl | hv
    · obtain ⟨t, e⟩ := r.1; exact ⟨i, t, e⟩
    · exact ints_rel (is := is) r.2 v hv
  | [], _ :: _, r, _, _ => r.elim
  | _ :: _, [], r, _, _ => r.elim
noncomputable def isInt (i : Int) : Value → Bool
  | .int j _ => j == i
  | _ => false
theorem ints_count {g : G} {h : Heap} (j : Int) : ∀ {is : List Int} {vs : List Value}, VRels K g h (is.map V.int) vs → vs.countP (isInt j) = is.count j
  | [], [], _ => rfl
  | i :: is, w :: vs, r => by
    obtain ⟨t, rfl⟩ := r.1
    rw [List.countP_cons, List.count_cons, ints_count j (is := is) r.2]
    rfl
  | [], _ :: _, r => r.elim
  | _ :: _, [], r => r.elim
theorem ints_get {g : G} {h : Heap} {is : List Int} {vs : List Value} (r : VRels K g h (is.map V.int) vs) {k : Nat} {v : Value} (hv : vs[k]? = some v) : ∃ i t, is[k]? = some i ∧ v = .int i t := by
  have hl := r.length
  have hk := (List.getElem?_eq_some_iff.mp hv).1
  simp at hl
  have hk' : k < is.length := by omega
  obtain ⟨w, hw, rw'⟩ := r.get (i := k) (v := .int is[k]) (by simp [hk'])
  rw [hv] at hw; cases hw
  obtain ⟨t, e⟩ := rw'
  exact ⟨is[k], t, by simp [hk'], e⟩

theorem se_count {o e : Expr} {apos pos : Pos} {a b : E} (ho : SE K n cx o a) (he : SE K n cx e b) (hb : plainBase o = true) (hst : isStar e = false) (hline : (apos.endLine == pos.line) = true) :
    SE K n cx (.Call (.Attribute o "count" apos) [e] [] pos) (.m1 .count a b) := by
  refine se_meth1 ho he hb hst hline PySem.F.slot_list_count PySem.F.type_list_count fun A s x l R h => P.count_list (wpAny_mono h (fun w s₂ q => ?_) fun _ _ f => f)
  obtain ⟨i, g₂, σ₂, r₂, Q, S₂, rl, rel₂, W, hR⟩ := q
  cases r₂ <;> simp only [me1] at W <;> try exact W.elim
  rename_i j
  obtain ⟨xs, is, hx, rfl, q⟩ := W
  obtain ⟨b₂, vs, k, e1, hb₂, hl, rr, e, z⟩ := S₂.list rl hx
  cases e1
  obtain ⟨t, rfl⟩ := rel₂
  refine ⟨vs, k, isInt j, hl, fun y hy => ?_, hR _ _ ?_⟩
  · obtain ⟨i, u, rfl⟩ := ints_rel rr y (by simpa using hy)
    exact MeetsSeq.EqGives.int i j u t
  · rw [ints_count j rr]
    exact end_same S₂ (vint ..) q
theorem se_index {o e : Expr} {apos pos : Pos} {a b : E} (ho : SE K n cx o a) (he : SE K n cx e b) (hb : plainBase o = true) (hst : isStar e = false) (hline : (apos.endLine == pos.line) = true) :
    SE K n cx (.Call (.Attribute o "index" apos) [e] [] pos) (.m1 .index a b) := by
  refine se_meth1 ho he hb hst hline PySem.F.slot_list_index PySem.F.type_list_index fun A s x l R h => P.index_list (wpAny_mono h (fun w s₂ q => ?_) fun _ _ f => f)
  obtain ⟨i, g₂, σ₂, r₂, Q, S₂, rl, rel₂, W, hR⟩ := q
  cases r₂ <;> simp only [me1] at W <;> try exact W.elim
  rename_i j
  obtain ⟨xs, is, hx, rfl, hm, q⟩ := W
  obtain ⟨b₂, vs, k, e1, hb₂, hl, rr, e, z⟩ := S₂.list rl hx
  cases e1
  obtain ⟨t, rfl⟩ := rel₂
  have hlt := List.idxOf_lt_length_of_mem hm
  have hlt' : is.idxOf j < vs.size := by simpa [e] using hlt
  rw [sizeLine_is] at z
  refine ⟨vs, k, isInt j, is.idxOf j, hlt', hl, fun y hy => ?_, by omega, ?_, fun m hm' hlt2 => ?_, hR _ _ (end_same S₂ (vint ..) q)⟩
  · obtain ⟨i, u, rfl⟩ := ints_rel rr y (by simpa using hy)
    exact MeetsSeq.EqGives.int i j u t
  · obtain ⟨i, u, h1, h2⟩ := ints_get rr (k := is.idxOf j) (v := vs[is.idxOf j]) (by simp [hlt'])
    rw [h2]
    have : is[is.idxOf j]? = some j := by rw [List.getElem?_eq_getElem hlt]; simp
    rw [this] at h1; cases h1
    simp [isInt]
  · obtain ⟨i, u, h1, h2⟩ := ints_get rr (k := m) (v := vs[m]) (by simp [hm'])
    rw [h2]
    have hne := List.not_of_lt_findIdx (xs := is) (p := (· == j)) (i := m) (by simpa [List.idxOf] using hlt2)
    obtain ⟨hlm, hem⟩ := List.getElem?_eq_some_iff.mp h1
    simp [isInt]
    rw [← hem]
    simpa using hne

/-- a method of a list, of no argument -/
theorem se_meth0 {o : Expr} {name : Str} {apos pos : Pos} {a : E} {f : M0} {id : String} (ho : SE K n cx o a) (hb : plainBase o = true) (hline : (apos.endLine == pos.line) = true) (slot : Slot "list" name id) (hty : typeOf (.builtin id) = pure (.type "method_descriptor"))
    (hm : ∀ (A : Around) (s : Shared) (i : Nat) (l : Addr) (g : G) (σ : H) (Q : P), St K g σ s.heap → VRel K g s.heap (.ref i) (.ref l) → me0 f (.ref i) σ Q → wpAny (model K.prog K.w) A (callWith pos (.builtin id) [.ref l] [] []) (EndE K g s Q) noE s) :
    SE K n cx (.Call (.Attribute o name apos) [] [] pos) (.m0 f a) := fun env A m g σ s Q R F S W => by
  refine wpAny_Call_method (T := "list") (id := id) (base_eq hb) rfl hline PySem.F.plainAttrs_list slot hty (wpAny_mono (ho env A m g σ s _ R F S W) (fun v s₁ q => ?_) fun _ _ f => f)
  obtain ⟨r₁, g₁, σ₁, go₁, sx₁, rel₁, W₁⟩ := q
  cases r₁ <;> try (cases f <;> exact W₁.elim)
  rename_i i
  obtain ⟨t1, t2⟩ := meth_base go₁.st rel₁
  refine ⟨t1, t2, ?_⟩
  obtain ⟨b₁, hb₁, rfl⟩ := _root_.id rel₁
  exact EndE.bind go₁ sx₁ (hm A s₁ i b₁ g₁ σ₁ Q go₁.st rel₁ W₁)
theorem se_reverse {o : Expr} {apos pos : Pos} {a : E} (ho : SE K n cx o a) (hb : plainBase o = true) (hline : (apos.endLine == pos.line) = true) : SE K n cx (.Call (.Attribute o "reverse" apos) [] [] pos) (.m0 .reverse a) := by
  refine se_meth0 ho hb hline PySem.F.slot_list_reverse PySem.F.type_list_reverse fun A s i l g σ Q S rl W => ?_
  obtain ⟨xs, h0, hx, q⟩ := W
  obtain ⟨b₂, vs, k, e1, hb₂, hl, rr, e, z⟩ := S.list rl hx
  cases e1
  refine P.reverse_list hl (end_put (u := .none) S hb₂ hx h0 hl rfl (by rw [Array.toList_reverse]; exact rr.reverse) ?_ rfl q) z
  rw [List.length_reverse]; exact S.small xs (List.mem_of_getElem? hx)
theorem se_clear {o : Expr} {apos pos : Pos} {a : E} (ho : SE K n cx o a) (hb : plainBase o = true) (hline : (apos.endLine == pos.line) = true) : SE K n cx (.Call (.Attribute o "clear" apos) [] [] pos) (.m0 .clear a) := by
  refine se_meth0 ho hb hline PySem.F.slot_list_clear PySem.F.type_list_clear fun A s i l g σ Q S rl W => ?_
  obtain ⟨xs, h0, hx, q⟩ := W
  obtain ⟨b₂, vs, k, e1, hb₂, hl, rr, e, z⟩ := S.list rl hx
  cases e1
  exact P.clear_list hl (end_put (u := .none) (ws := #[]) (ys := []) S hb₂ hx h0 hl rfl trivial (Nat.zero_le _) rfl q) z
end
end Mini

set_option autoImplicit false
set_option linter.unusedVariables false
namespace Mini
open PySem

/-- an object that is no frame's and no cell -/
noncomputable def Apart (o : Obj) : Prop := (∀ es ep, o.data ≠ .dict es ep) ∧ ∀ v, o.data ≠ .cell v

structure Itr (K : Ctx) (A : Around) (tgt : Expr) (it : Value) (X : Addr → Prop) (vs : List V) (ok : H → Prop) (J : Nat → G → Heap → Prop) : Prop where
  priv : ∀ i g h, J i g h → ∀ b, X b → ¬ g.own b ∧ K.hB.get? b = none ∧ ∃ o, h.get? b = some o ∧ Apart o
  stay : ∀ i (Y : Addr → Prop) g σ h g' σ' h', J i g h → St K g σ h → GoX K Y g h g' σ' h' → (∀ b, Y b → ¬ X b) → J i g' h'
  next : ∀ i g σ (s : Shared) v, J i g s.heap → St K g σ s.heap → ok σ → vs[i]? = some v →
    wpAny (model K.prog K.w) A (pyNext it) (fun r s' => ∃ w, r = some w ∧ wpAny (model K.prog K.w) A (letOwnedTupleGo tgt it w) (fun _ s'' => ∃ g', GoX K X g s.heap g' σ s''.heap ∧ Sx s s'' ∧ VRel K g' s''.heap v w ∧ J (i + 1) g' s''.heap) noE s') noE s
  nextN : (∃ x p, tgt = .Name x p) → ∀ i g σ (s : Shared) v, J i g s.heap → St K g σ s.heap → ok σ → vs[i]? = some v →
    wpAny (model K.prog K.w) A (pyNext it) (fun r s' => ∃ w g', r = some w ∧ GoX K X g s.heap g' σ s'.heap ∧ Sx s s' ∧ VRel K g' s'.heap v w ∧ J (i + 1) g' s'.heap) noE s
  self : ∀ i g (s : Shared) (Q : Value → Shared → Prop), J i g s.heap → Q it s → wpAny (model K.prog K.w) A (pyIter it) Q noE s
  stop : ∀ i g σ (s : Shared), J i g s.heap → St K g σ s.heap → ok σ → vs[i]? = none →
    wpAny (model K.prog K.w) A (pyNext it) (fun r s' => r = none ∧ St K g σ s'.heap ∧ (∀ b o, s.heap.get? b = some o → ¬ X b → s'.heap.get? b = some o) ∧ Sx s s') noE s

section
variable {K : Ctx} {pg : Pg} {n : Nat} {cx : Cx} {A : Around}

theorem GoX.step {X Y : Addr → Prop} {g g₁ g₂ : G} {σ₁ σ₂ : H} {h h₁ h₂ : Heap} (q : GoX K Y g h g₁ σ₁ h₁) (r : GoX K X g₁ h₁ g₂ σ₂ h₂) (hx : ∀ b, X b → Y b ∨ h.get? b = none) : GoX K Y g h g₂ σ₂ h₂ where
  st := r.st
  pre := q.pre.trans r.pre
  imm := fun b i => r.imm b (q.imm b i)
  new := fun b o => by
    rcases r.new b o with x | x
    · exact q.new b x
    · cases e : h.get? b with
      | none => exact .inr rfl
      | some ob => obtain ⟨o', e'⟩ := q.there b ob e; rw [e'] at x; cases x
  keep := fun b o e n nx => by
    refine r.keep b o (q.keep b o e n nx) (fun hb => ?_) fun z => ?_
    · rcases q.new b (.inl hb) with x | x
      · rcases x with x | x
        · exact n x
        · exact (q.st.imm b (q.imm b x)).2.1 hb
      · rw [e] at x; cases x
    · rcases hx b z with y | y
      · exact nx y
      · rw [y] at e; cases e
  there := fun b o e => by
    obtain ⟨o', e'⟩ := q.there b o e
    exact r.there b o' e'
theorem GoX.halt {X Y : Addr → Prop} {g g₁ : G} {σ₁ : H} {h h₁ h₂ : Heap} (q : GoX K Y g h g₁ σ₁ h₁) (S : St K g₁ σ₁ h₂) (hk : ∀ b o, h₁.get? b = some o → ¬ X b → h₂.get? b = some o) (hx : ∀ b, X b → h.get? b = none) : GoX K Y g h g₁ σ₁ h₂ where
  st := S
  pre := q.pre
  imm := q.imm
  new := q.new
  keep := fun b o e n nx => hk b o (q.keep b o e n nx) fun z => by rw [hx b z] at e; cases e
  there := fun b o e => by
    obtain ⟨o', e'⟩ := q.there b o e
    exact ⟨o', hk b o' e' fun z => by rw [hx b z] at e; cases e⟩

/-- a walk over a list of ours -/
theorem itr_list {tgt : Expr} {I b : Addr} {a : Nat} {xs : List V} (hh : A.handled = none) (ht : ∀ it w, letOwnedTupleGo tgt it w = pure ()) :
    Itr K A tgt (.ref I) (· = I) xs (fun σ => σ[a]? = some xs) (fun i g h => h.IsListIter I b i ∧ ¬ g.own I ∧ K.hB.get? I = none ∧ g.ρ[a]? = some b) where
  priv := fun i g h ⟨⟨o, ho, _, hd⟩, h2, h3, _⟩ c e => by
    subst e
    exact ⟨h2, h3, o, ho, by rw [Apart, hd]; exact ⟨fun _ _ e => (nomatch e), fun _ e => (nomatch e)⟩⟩
  stay := fun i Y g σ h g' σ' h' ⟨⟨o, ho, hc, hd⟩, h2, h3, h4⟩ S q hY => by
    refine ⟨⟨o, q.keep I o ho (fun z => h2 (.inl z)) fun z => hY I z rfl, hc, hd⟩, q.priv ho h2, h3, pre_get q.pre h4⟩
  next := fun i g σ s v ⟨hi, h2, h3, h4⟩ S ok hv => by
    obtain ⟨b₁, vs, k, e1, hb₁, hl, rr, e, z⟩ := S.list (w := .ref b) ⟨b, h4, rfl⟩ ok
    cases e1
    obtain ⟨w, hw, rw'⟩ := rr.get hv
    refine wpAny_pyNext_list_item hi hl.isList (by simpa using hw) fun h' hi' hs' => ⟨w, rfl, ?_⟩
    rw [ht]
    obtain ⟨o', ho', _⟩ := id hi'
    have go : GoX K (· = I) g s.heap g σ h' := GoX.sameBut S ⟨h2, h3⟩ ho' hs'.extBut
    exact wpAny_pure ⟨g, go, ⟨rfl, rfl⟩, go.rel S (fun c e => e ▸ h2) rw', hi', h2, h3, h4⟩
  nextN := fun _ i g σ s v ⟨hi, h2, h3, h4⟩ S ok hv => by
    obtain ⟨b₁, vs, k, e1, hb₁, hl, rr, e, z⟩ := S.list (w := .ref b) ⟨b, h4, rfl⟩ ok
    cases e1
    obtain ⟨w, hw, rw'⟩ := rr.get hv
    refine wpAny_pyNext_list_item hi hl.isList (by simpa using hw) fun h' hi' hs' => ?_
    obtain ⟨o', ho', _⟩ := id hi'
    have go : GoX K (· = I) g s.heap g σ h' := GoX.sameBut S ⟨h2, h3⟩ ho' hs'.extBut
    exact ⟨w, g, rfl, go, ⟨rfl, rfl⟩, go.rel S (fun c e => e ▸ h2) rw', hi', h2, h3, h4⟩
  self := fun i g s Q ⟨hi, _⟩ q => wpAny_pyIter_listiter hi q
  stop := fun i g σ s ⟨hi, h2, h3, h4⟩ S ok hv => by
    obtain ⟨b₁, vs, k, e1, hb₁, hl, rr, e, z⟩ := S.list (w := .ref b) ⟨b, h4, rfl⟩ ok
    cases e1
    have hx : vs[i]? = none := by
      rw [List.getElem?_eq_none_iff] at hv
      rw [Array.getElem?_eq_none_iff]; omega
    refine wpAny_pyNext_list_end hh hi hl.isList hx fun h' he => ⟨rfl, ?_, fun c o e n => he c o n e, ⟨rfl, rfl⟩⟩
    exact S.change fun c o e z => he c o (by
      rintro rfl
      rcases z with z | ⟨o', z⟩
      · exact h2 z
      · rw [h3] at z; cases z) e

theorem itr_range {tgt : Expr} {I : Addr} {N : Int} (hh : A.handled = none) (ht : ∀ it w, letOwnedTupleGo tgt it w = pure ()) (h0 : 0 ≤ N) :
    Itr K A tgt (.ref I) (· = I) (rangeV N) (fun _ => True) (fun i g h => IsRangeIter h I i (N - i) 1 ∧ ¬ g.own I ∧ K.hB.get? I = none) where
  priv := fun i g h ⟨ho, h2, h3⟩ c e => by
    subst e
    exact ⟨h2, h3, _, ho, ⟨fun _ _ e => (nomatch e), fun _ e => (nomatch e)⟩⟩
  stay := fun i Y g σ h g' σ' h' ⟨ho, h2, h3⟩ S q hY => ⟨q.keep I _ ho (fun z => h2 (.inl z)) fun z => hY I z rfl, q.priv ho h2, h3⟩
  next := fun i g σ s v ⟨hi, h2, h3⟩ S ok hv => by
    have hv' : v = .int i ∧ (i : Int) < N := by
      simp only [rangeV, List.getElem?_map, Option.map_eq_some_iff] at hv
      obtain ⟨j, hj, rfl⟩ := hv
      obtain ⟨hl, he⟩ := List.getElem?_eq_some_iff.mp hj
      simp at hl he
      subst he
      exact ⟨rfl, by omega⟩
    obtain ⟨rfl, hlt⟩ := hv'
    refine wpAny_pyNext_range_item hi (by omega) fun h' hi' hs' => ⟨_, rfl, ?_⟩
    rw [ht]
    have go : GoX K (· = I) g s.heap g σ h' := GoX.sameBut S ⟨h2, h3⟩ hi' hs'.extBut
    refine wpAny_pure ⟨g, go, ⟨rfl, rfl⟩, ⟨_, rfl⟩, ?_, h2, h3⟩
    have e1 : (((i + 1 : Nat) : Int)) = (i : Int) + 1 := by omega
    rw [e1, show N - ((i : Int) + 1) = N - i - 1 by omega]
    exact hi'
  nextN := fun _ i g σ s v ⟨hi, h2, h3⟩ S ok hv => by
    have hv' : v = .int i ∧ (i : Int) < N := by
      simp only [rangeV, List.getElem?_map, Option.map_eq_some_iff] at hv
      obtain ⟨j, hj, rfl⟩ := hv
      obtain ⟨hl, he⟩ := List.getElem?_eq_some_iff.mp hj
      simp at hl he
      subst he
      exact ⟨rfl, by omega⟩
    obtain ⟨rfl, hlt⟩ := hv'
    refine wpAny_pyNext_range_item hi (by omega) fun h' hi' hs' => ?_
    have go : GoX K (· = I) g s.heap g σ h' := GoX.sameBut S ⟨h2, h3⟩ hi' hs'.extBut
    refine ⟨_, g, rfl, go, ⟨rfl, rfl⟩, ⟨_, rfl⟩, ?_, h2, h3⟩
    have e1 : (((i + 1 : Nat) : Int)) = (i : Int) + 1 := by omega
    rw [e1, show N - ((i : Int) + 1) = N - i - 1 by omega]
    exact hi'
  self := fun i g s Q ⟨hi, _⟩ q => wpAny_pyIter_rangeiter hi q
  stop := fun i g σ s ⟨hi, h2, h3⟩ S ok hv => by
    have hlt : N ≤ i := by
      simp [rangeV] at hv
      omega
    refine wpAny_pyNext_range_end hh hi (by omega) fun h' he => ⟨rfl, ?_, fun c o e n => he c o n e, ⟨rfl, rfl⟩⟩
    exact S.change fun c o e z => he c o (by
      rintro rfl
      rcases z with z | ⟨o', z⟩
      · exact h2 z
      · rw [h3] at z; cases z) e
theorem GoX.gain {X : Addr → Prop} {g g₁ : G} {σ₁ : H} {h h₁ : Heap} (q : GoX K X g h g₁ σ₁ h₁) (N : Addr → Prop) (hN : ∀ b, N b → h.get? b = none ∧ b ∉ g₁.ρ ∧ K.hB.get? b = none ∧ ∃ o, h₁.get? b = some o) : GoX K X g h ⟨g₁.ρ, fun b => g₁.ι b ∨ N b⟩ σ₁ h₁ := by
  have mono : ∀ {xs : List V} {ws : List Value}, VRels K g₁ h₁ xs ws → VRels K ⟨g₁.ρ, fun b => g₁.ι b ∨ N b⟩ h₁ xs ws := fun {xs ws} r => VRels.mono (g := g₁) (g' := ⟨g₁.ρ, fun b => g₁.ι b ∨ N b⟩) (fun _ _ e => e) (fun _ i => .inl i) (fun b o _ e => e) _ _ r
  refine ⟨⟨q.st.base, q.st.len, fun i a ys h1 h2 => ?_, q.st.nodup, q.st.small, q.st.fresh, fun a i => ?_⟩, q.pre, fun b i => .inl (q.imm b i), fun a x => ?_, q.keep, q.there⟩
  · obtain ⟨vs, n, e', r'⟩ := q.st.lists i a ys h1 h2
    exact ⟨vs, n, e', mono r'⟩
  · rcases i with i | i
    · exact q.st.imm a i
    · obtain ⟨_, h2, h3, h4⟩ := hN a i
      exact ⟨h3, h2, h4⟩
  · rcases x with x | x
    · exact q.new a (.inl x)
    · rcases x with x | x
      · exact q.new a (.inr x)
      · exact .inr (hN a x).1
theorem fresh_not {g : G} {σ : H} {h : Heap} (S : St K g σ h) {b : Addr} (e : h.get? b = none) : ¬ g.own b ∧ K.hB.get? b = none := by
  refine ⟨fun z => ?_, ?_⟩
  · rcases z with z | z
    · obtain ⟨o, e'⟩ := S.there (g := g) (List.prefix_refl _) z
      rw [e] at e'; cases e'
    · obtain ⟨_, _, o, e'⟩ := S.imm b z
      rw [e] at e'; cases e'
  · cases z : K.hB.get? b with
    | none => rfl
    | some o => rw [S.base b o z] at e; cases e

theorem enumV_get : ∀ (xs : List V) (k i : Nat) (v : V), (enumV k xs)[i]? = some v → ∃ x, xs[i]? = some x ∧ v = .tup [.int ((k + i : Nat) : Int), x]
  | [], k, i, v, h => by simp [enumV] at h
  | x :: xs, k, 0, v, h => by simp [enumV] at h; exact ⟨x, rfl, by simpa using h.symm⟩
  | x :: xs, k, i + 1, v, h => by
    obtain ⟨y, h1, h2⟩ := enumV_get xs (k + 1) i v (by simpa [enumV] using h)
    exact ⟨y, by simpa using h1, by rw [h2, show k + 1 + i = k + (i + 1) by omega]⟩
theorem enumV_len : ∀ (xs : List V) (k : Nat), (enumV k xs).length = xs.length
  | [], _ => rfl
  | _ :: xs, k => congrArg (· + 1) (enumV_len xs (k + 1))

theorem itr_enum {elts : List Expr} {x1 : Nat} {pos : Pos} {e I b : Addr} {a : Nat} {xs : List V} (hh : A.handled = none) (hne : e ≠ I) :
    Itr K A (.Tuple elts x1 pos) (.ref e) (fun c => c = e ∨ c = I) (enumV 0 xs) (fun σ => σ[a]? = some xs) (fun i g h => (∃ old, IsEnum h e I i old) ∧ h.IsListIter I b i ∧ ¬ g.own I ∧ K.hB.get? I = none ∧ ¬ g.own e ∧ K.hB.get? e = none ∧ g.ρ[a]? = some b) where
  priv := fun i g h ⟨⟨old, he⟩, ⟨o, ho, _, hd⟩, h2, h3, h4, h5, _⟩ c ec => by
    rcases ec with rfl | rfl
    · exact ⟨h4, h5, _, he, ⟨fun _ _ e => (nomatch e), fun _ e => (nomatch e)⟩⟩
    · exact ⟨h2, h3, o, ho, by rw [Apart, hd]; exact ⟨fun _ _ e => (nomatch e), fun _ e => (nomatch e)⟩⟩
  stay := fun i Y g σ h g' σ' h' ⟨⟨old, he⟩, ⟨o, ho, hc, hd⟩, h2, h3, h4, h5, h6⟩ S q hY =>
    ⟨⟨old, q.keep e _ he (fun z => h4 (.inl z)) fun z => hY e z (.inl rfl)⟩, ⟨o, q.keep I o ho (fun z => h2 (.inl z)) fun z => hY I z (.inr rfl), hc, hd⟩, q.priv ho h2, h3, q.priv he h4, h5, pre_get q.pre h6⟩
  next := fun i g σ s v ⟨⟨old, he⟩, hi, h2, h3, h4, h5, h6⟩ S ok hv => by
    obtain ⟨x, hx, rfl⟩ := enumV_get xs 0 i v hv
    obtain ⟨b₁, vs, k, e1, hb₁, hl, rr, _, z⟩ := S.list (w := .ref b) ⟨b, h6, rfl⟩ ok
    cases e1
    obtain ⟨w, hw, rw'⟩ := rr.get hx
    refine wpAny_pyNext_enum_item he hi hl.isList (by simpa using hw) hne fun h' heo hi' ht' hsz hk => ⟨_, rfl, wpAny_letOwnedTupleGo_enum heo fun h'' he'' hs'' => ?_⟩
    have nI : I ≠ e := Ne.symm hne
    have nn : s.heap.objs.size ≠ e := Nat.ne_of_gt (Heap.lt_size he)
    have hi'' : h''.IsListIter I b (i + 1) := hi'.extBut hs''.extBut nI
    obtain ⟨oI, hoI, _⟩ := id hi''
    have ht'' : h''.get? s.heap.objs.size = some { cls := .type "tuple", data := .seq #[.int i s.toks, w] } := (hs''.2 _ nn).trans ht'
    have go : GoX K (fun c => c = e ∨ c = I) g s.heap g σ h'' := GoX.of S (fun c o ec nc => by
        rw [hs''.2 c fun z => nc (.inl z)]
        exact hk c o (fun z => nc (.inl z)) (fun z => nc (.inr z)) ec)
      (fun c ec => by rcases ec with rfl | rfl; exact ⟨_, he''⟩; exact ⟨_, hoI⟩) (fun c ec => by rcases ec with rfl | rfl; exact ⟨h4, h5⟩; exact ⟨h2, h3⟩)
    have hxp : ∀ c, (c = e ∨ c = I) → ¬ g.own c := fun c ec => by rcases ec with rfl | rfl; exact h4; exact h2
    have fn := fresh_not S (none_at_size s.heap)
    have go' := go.gain (fun c => c = s.heap.objs.size) fun c ec => by
      subst ec
      exact ⟨none_at_size _, fun z => fn.1 (.inl z), fn.2, _, ht''⟩
    refine ⟨_, go', ⟨rfl, rfl⟩, ⟨s.heap.objs.size, #[.int i s.toks, w], 0, rfl, .inr rfl, ht'', ?_⟩, ⟨w, ?_⟩, hi'', ?_, h3, ?_, h5, h6⟩
    · refine ⟨⟨s.toks, by simp⟩, ?_, trivial⟩
      exact go'.rel S hxp rw'
    · have : (((i + 1 : Nat) : Int)) = (i : Int) + 1 := by omega
      rw [this]; exact he''
    · obtain ⟨o, ho, _⟩ := hi
      exact go'.priv ho h2
    · exact go'.priv he h4
  nextN := fun ⟨_, _, e⟩ => (nomatch e)
  self := fun i g s Q ⟨⟨old, he⟩, _⟩ q => wpAny_pyIter_enum he q
  stop := fun i g σ s ⟨⟨old, he⟩, hi, h2, h3, h4, h5, h6⟩ S ok hv => by
    obtain ⟨b₁, vs, k, e1, hb₁, hl, rr, ez, z⟩ := S.list (w := .ref b) ⟨b, h6, rfl⟩ ok
    cases e1
    have hx : vs[i]? = none := by
      rw [List.getElem?_eq_none_iff, enumV_len] at hv
      rw [Array.getElem?_eq_none_iff]; omega
    refine wpAny_pyNext_enum_end hh he hi hl.isList hx fun h' hk => ⟨rfl, ?_, fun c o ec nc => hk c o (fun z => nc (.inr z)) ec, ⟨rfl, rfl⟩⟩
    exact S.change fun c o ec zc => hk c o (by
      rintro rfl
      rcases zc with z | ⟨o', z⟩
      · exact h2 z
      · rw [h3] at z; cases z) ec

theorem zipV_get : ∀ (xs ys : List V) (i : Nat) (v : V), (zipV xs ys)[i]? = some v → ∃ x y, xs[i]? = some x ∧ ys[i]? = some y ∧ v = .tup [x, y]
  | [], _, i, v, h => by simp [zipV] at h
  | _ :: _, [], i, v, h => by simp [zipV] at h
  | x :: xs, y :: ys, 0, v, h => by simp [zipV] at h; exact ⟨x, y, rfl, rfl, h.symm⟩
  | x :: xs, y :: ys, i + 1, v, h => by
    obtain ⟨a, b, h1, h2, h3⟩ := zipV_get xs ys i v (by simpa [zipV] using h)
    exact ⟨a, b, by simpa using h1, by simpa using h2, h3⟩
theorem zipV_none : ∀ (xs ys : List V) (i : Nat), (zipV xs ys)[i]? = none → xs[i]? = none ∨ ys[i]? = none
  | [], _, i, h => .inl (by simp)
  | _ :: _, [], i, h => .inr (by simp)
  | x :: xs, y :: ys, 0, h => by simp [zipV] at h
  | x :: xs, y :: ys, i + 1, h => by
    rcases zipV_none xs ys i (by simpa [zipV] using h) with z | z
    · exact .inl (by simpa using z)
    · exact .inr (by simpa using z)

theorem itr_zip {elts : List Expr} {x1 : Nat} {pos : Pos} {z TI TO i1 i2 b1 b2 : Addr} {a1 a2 : Nat} {xs ys : List V} (hh : A.handled = none) (D : ZipApart z TI TO i1 i2 b1 b2) :
    Itr K A (.Tuple elts x1 pos) (.ref z) (fun c => c = z ∨ c = TO ∨ c = i1 ∨ c = i2 ∨ c = TI) (zipV xs ys) (fun σ => σ[a1]? = some xs ∧ σ[a2]? = some ys)
      (fun i g h => IsZip h z TI TO .none ∧ IsPair h TI (.ref i1) (.ref i2) ∧ (∃ a b, IsPair h TO a b) ∧ h.IsListIter i1 b1 i ∧ h.IsListIter i2 b2 i ∧ (∀ c, (c = z ∨ c = TO ∨ c = i1 ∨ c = i2 ∨ c = TI) → ¬ g.own c ∧ K.hB.get? c = none) ∧ g.ρ[a1]? = some b1 ∧ g.ρ[a2]? = some b2) where
  priv := fun i g h ⟨hz, hTI, ⟨a, b, hTO⟩, ⟨o1, ho1, _, hd1⟩, ⟨o2, ho2, _, hd2⟩, hp, _, _⟩ c ec => by
    rcases ec with rfl | rfl | rfl | rfl | rfl
    · exact ⟨(hp _ (.inl rfl)).1, (hp _ (.inl rfl)).2, _, hz, ⟨fun _ _ e => (nomatch e), fun _ e => (nomatch e)⟩⟩
    · exact ⟨(hp _ (.inr (.inl rfl))).1, (hp _ (.inr (.inl rfl))).2, _, hTO, ⟨fun _ _ e => (nomatch e), fun _ e => (nomatch e)⟩⟩
    · exact ⟨(hp _ (.inr (.inr (.inl rfl)))).1, (hp _ (.inr (.inr (.inl rfl)))).2, o1, ho1, by rw [Apart, hd1]; exact ⟨fun _ _ e => (nomatch e), fun _ e => (nomatch e)⟩⟩
    · exact ⟨(hp _ (.inr (.inr (.inr (.inl rfl))))).1, (hp _ (.inr (.inr (.inr (.inl rfl))))).2, o2, ho2, by rw [Apart, hd2]; exact ⟨fun _ _ e => (nomatch e), fun _ e => (nomatch e)⟩⟩
    · exact ⟨(hp _ (.inr (.inr (.inr (.inr rfl))))).1, (hp _ (.inr (.inr (.inr (.inr rfl))))).2, _, hTI, ⟨fun _ _ e => (nomatch e), fun _ e => (nomatch e)⟩⟩
  stay := fun i Y g σ h g' σ' h' ⟨hz, hTI, ⟨a, b, hTO⟩, ⟨o1, ho1, hc1, hd1⟩, ⟨o2, ho2, hc2, hd2⟩, hp, h6, h7⟩ S q hY => by
    have kp : ∀ c o, h.get? c = some o → (c = z ∨ c = TO ∨ c = i1 ∨ c = i2 ∨ c = TI) → h'.get? c = some o := fun c o e ec => q.keep c o e (fun y => (hp c ec).1 (.inl y)) fun y => hY c y ec
    refine ⟨kp _ _ hz (.inl rfl), kp _ _ hTI (.inr (.inr (.inr (.inr rfl)))), ⟨a, b, kp _ _ hTO (.inr (.inl rfl))⟩, ⟨o1, kp _ _ ho1 (.inr (.inr (.inl rfl))), hc1, hd1⟩, ⟨o2, kp _ _ ho2 (.inr (.inr (.inr (.inl rfl)))), hc2, hd2⟩, fun c ec => ⟨?_, (hp c ec).2⟩, pre_get q.pre h6, pre_get q.pre h7⟩
    have : ∃ o, h.get? c = some o := by
      rcases ec with rfl | rfl | rfl | rfl | rfl
      · exact ⟨_, hz⟩
      · exact ⟨_, hTO⟩
      · exact ⟨_, ho1⟩
      · exact ⟨_, ho2⟩
      · exact ⟨_, hTI⟩
    obtain ⟨o, e⟩ := this
    exact q.priv e (hp c ec).1
  next := fun i g σ s v ⟨hz, hTI, ⟨a, b, hTO⟩, hi1, hi2, hp, h6, h7⟩ S ok hv => by
    obtain ⟨x, y, hx, hy, rfl⟩ := zipV_get xs ys i v hv
    obtain ⟨c1, vs, k, e1, hb₁, hl, rr, _, _⟩ := S.list (w := .ref b1) ⟨b1, h6, rfl⟩ ok.1
    cases e1
    obtain ⟨c2, ws, k2, e2, hb₂, hl2, rr2, _, _⟩ := S.list (w := .ref b2) ⟨b2, h7, rfl⟩ ok.2
    cases e2
    obtain ⟨w, hw, rw'⟩ := rr.get hx
    obtain ⟨u, hu, ru'⟩ := rr2.get hy
    refine wpAny_pyNext_zip_item D hz hTI hTO hi1 hi2 hl.isList hl2.isList (by simpa using hw) (by simpa using hu) fun h' hz' hTO' hi1' hi2' ht' hsz hk => ⟨_, rfl, wpAny_letOwnedTupleGo_zip hz' fun h'' hz'' hs'' => ?_⟩
    have kp : ∀ c, c ≠ z → h''.get? c = h'.get? c := hs''.2
    have nn : s.heap.objs.size ≠ z := Nat.ne_of_gt (Heap.lt_size hz)
    have hi1'' : h''.IsListIter i1 b1 (i + 1) := hi1'.extBut hs''.extBut D.i1z
    have hi2'' : h''.IsListIter i2 b2 (i + 1) := hi2'.extBut hs''.extBut D.i2z
    have hTO'' : IsPair h'' TO w u := (kp _ D.TOz).trans hTO'
    have hTI'' : IsPair h'' TI (.ref i1) (.ref i2) := (kp _ D.TIz).trans (hk TI _ D.TIz D.TITO D.TIi1 D.TIi2 hTI)
    obtain ⟨o1, ho1, _⟩ := id hi1''
    obtain ⟨o2, ho2, _⟩ := id hi2''
    have ht'' : h''.get? s.heap.objs.size = some { cls := .type "tuple", data := .seq #[w, u] } := (kp _ nn).trans ht'
    have hp4 : ∀ c, (c = z ∨ c = TO ∨ c = i1 ∨ c = i2 ∨ c = TI) → ¬ g.own c ∧ K.hB.get? c = none := hp
    have go : GoX K (fun c => c = z ∨ c = TO ∨ c = i1 ∨ c = i2 ∨ c = TI) g s.heap g σ h'' := GoX.of S (fun c o ec nc => by
        rw [kp c fun y => nc (.inl y)]
        exact hk c o (fun y => nc (.inl y)) (fun y => nc (.inr (.inl y))) (fun y => nc (.inr (.inr (.inl y)))) (fun y => nc (.inr (.inr (.inr (.inl y))))) ec)
      (fun c ec => by
        rcases ec with rfl | rfl | rfl | rfl | rfl
        · exact ⟨_, hz''⟩
        · exact ⟨_, hTO''⟩
        · exact ⟨_, ho1⟩
        · exact ⟨_, ho2⟩
        · exact ⟨_, hTI''⟩) hp4
    have fn := fresh_not S (none_at_size s.heap)
    have go' := go.gain (fun c => c = s.heap.objs.size) fun c ec => by
      subst ec
      exact ⟨none_at_size _, fun y => fn.1 (.inl y), fn.2, _, ht''⟩
    refine ⟨_, go', ⟨rfl, rfl⟩, ⟨s.heap.objs.size, #[w, u], 0, rfl, .inr rfl, ht'', go'.rel S (fun c ec => (hp4 c ec).1) rw', go'.rel S (fun c ec => (hp4 c ec).1) ru', trivial⟩, hz'', hTI'', ⟨w, u, hTO''⟩, hi1'', hi2'', fun c ec => ⟨?_, (hp c ec).2⟩, h6, h7⟩
    have : ∃ o, s.heap.get? c = some o := by
      rcases ec with rfl | rfl | rfl | rfl | rfl
      · exact ⟨_, hz⟩
      · exact ⟨_, hTO⟩
      · obtain ⟨o, e, _⟩ := hi1; exact ⟨o, e⟩
      · obtain ⟨o, e, _⟩ := hi2; exact ⟨o, e⟩
      · exact ⟨_, hTI⟩
    obtain ⟨o, e⟩ := this
    exact go'.priv e (hp c ec).1
  nextN := fun ⟨_, _, e⟩ => (nomatch e)
  self := fun i g s Q ⟨hz, _⟩ q => wpAny_pyIter_zip hz q
  stop := fun i g σ s ⟨hz, hTI, ⟨a, b, hTO⟩, hi1, hi2, hp, h6, h7⟩ S ok hv => by
    obtain ⟨c1, vs, k, e1, hb₁, hl, rr, ez, _⟩ := S.list (w := .ref b1) ⟨b1, h6, rfl⟩ ok.1
    cases e1
    obtain ⟨c2, ws, k2, e2, hb₂, hl2, rr2, ez2, _⟩ := S.list (w := .ref b2) ⟨b2, h7, rfl⟩ ok.2
    cases e2
    have hend : vs[i]? = none ∨ ws[i]? = none := by
      rcases zipV_none xs ys i hv with y | y
      · left
        rw [List.getElem?_eq_none_iff] at y
        rw [Array.getElem?_eq_none_iff]; omega
      · right
        rw [List.getElem?_eq_none_iff] at y
        rw [Array.getElem?_eq_none_iff]; omega
    have hp4 : ∀ c, (c = z ∨ c = TO ∨ c = i1 ∨ c = i2) → ¬ g.own c ∧ K.hB.get? c = none := fun c ec => hp c (by rcases ec with e | e | e | e <;> simp [e])
    refine wpAny_pyNext_zip_end hh D hz hTI hTO hi1 hi2 hl.isList hl2.isList hend fun h' hk => ⟨rfl, ?_, fun c o ec nc => hk c o (fun y => nc (.inl y)) (fun y => nc (.inr (.inl y))) (fun y => nc (.inr (.inr (.inl y)))) (fun y => nc (.inr (.inr (.inr (.inl y))))) ec, ⟨rfl, rfl⟩⟩
    have ng : ∀ c, (g.own c ∨ ∃ o', K.hB.get? c = some o') → ¬ (c = z ∨ c = TO ∨ c = i1 ∨ c = i2) := fun c zc ec => by
      rcases zc with y | ⟨o', y⟩
      · exact (hp4 c ec).1 y
      · rw [(hp4 c ec).2] at y; cases y
    exact S.change fun c o ec zc => hk c o (fun y => ng c zc (.inl y)) (fun y => ng c zc (.inr (.inl y))) (fun y => ng c zc (.inr (.inr (.inl y)))) (fun y => ng c zc (.inr (.inr (.inr y)))) ec
end
end Mini

set_option autoImplicit false
set_option linter.unusedVariables false
namespace Mini
open PySem

noncomputable def cNames (cx : Cx) : List Expr → Option (List Nat)
  | [] => some []
  | e :: es => match e with
    | .Name x _ => match slotOf cx x, cNames cx es with
      | some k, some ks => some (k :: ks)
      | _, _ => none
    | _ => none
noncomputable def cTgt (cx : Cx) : Expr → Option (List Nat)
  | .Name x _ => (slotOf cx x).map fun k => [k]
  | .Tuple es _ _ => match cNames cx es with
    | some (a :: b :: r) => some (a :: b :: r)
    | _ => none
  | _ => none

noncomputable def EndS (K : Ctx) (env : Env) (cx : Cx) (g : G) (s : Shared) (N : M → H → Prop) (Rt : P) : Flow → Shared → Prop := fun f s' => match f with
  | .next => ∃ m' g' σ', GoX K (fpOf env) g s.heap g' σ' s'.heap ∧ Sx s s' ∧ Fr K env cx m' g' s'.heap ∧ N m' σ'
  | .ret v => ∃ r g' σ', GoX K (fpOf env) g s.heap g' σ' s'.heap ∧ Sx s s' ∧ VRel K g' s'.heap r v ∧ Rt r σ'
  | _ => False

section
variable {K : Ctx} {pg : Pg} {n : Nat} {cx : Cx} {A : Around}

theorem EndS.trans {env : Env} {g g₁ : G} {σ₁ : H} {s s₁ s' : Shared} {N : M → H → Prop} {Rt : P} {f : Flow} (p : GoX K (fpOf env) g s.heap g₁ σ₁ s₁.heap) (x : Sx s s₁) (q : EndS K env cx g₁ s₁ N Rt f s') : EndS K env cx g s N Rt f s' := by
  cases f with
  | next =>
    obtain ⟨m', g', σ', a, b, c, d⟩ := q
    exact ⟨m', g', σ', p.trans a, x.trans b, c, d⟩
  | ret v =>
    obtain ⟨r, g', σ', a, b, c, d⟩ := q
    exact ⟨r, g', σ', p.trans a, x.trans b, c, d⟩
  | brk => exact q
  | cont => exact q
theorem EndS.bind {env : Env} {g g₁ : G} {σ₁ : H} {s s₁ : Shared} {t : Sem Flow} {N : M → H → Prop} {Rt : P} (p : GoX K (fpOf env) g s.heap g₁ σ₁ s₁.heap) (x : Sx s s₁) (h : wpAny (model K.prog K.w) A t (EndS K env cx g₁ s₁ N Rt) noE s₁) :
    wpAny (model K.prog K.w) A t (EndS K env cx g s N Rt) noE s₁ := wpAny_mono h (fun _ _ q => q.trans p x) fun _ _ f => f

theorem names_each {env : Env} : ∀ {es : List Expr} {ks : List Nat}, cNames cx es = some ks → (assignEach es env).findIdx? (·.1) = none ∧ (assignEach es env).length = ks.length
  | [], ks, h => by cases h; exact ⟨rfl, rfl⟩
  | e :: es, ks, h => by
    cases e <;> simp only [cNames, reduceCtorEq] at h
    rename_i x p
    split at h
    · rename_i k ks' h1 h2
      cases h
      obtain ⟨a, b⟩ := names_each (env := env) h2
      exact ⟨by simp [assignEach, List.findIdx?_cons, a], by simp [assignEach, b]⟩
    · cases h
theorem names_sound {env : Env} {g : G} : ∀ {es : List Expr} {ks : List Nat} {us : List V} {ws : List Value} {m m' : M} {σ : H} {s : Shared} {Q : Unit → Shared → Prop}, cNames cx es = some ks → puts m ks us = some m' → Fr K env cx m g s.heap → St K g σ s.heap → VRels K g s.heap us ws →
    (∀ s', GoX K (fpOf env) g s.heap g σ s'.heap → Sx s s' → Fr K env cx m' g s'.heap → Q () s') → wpAny (model K.prog K.w) A (assignInOrder ((assignEach es env).map (·.2)) ws) Q noE s
  | [], ks, us, ws, m, m', σ, s, Q, h, hp, F, S, r, hQ => by
    cases h
    cases us with
    | cons _ _ => cases hp
    | nil =>
      cases ws with
      | cons _ _ => exact r.elim
      | nil => cases hp; exact wpAny_pure (hQ s (Go.refl S).toX (Sx.refl s) F)
  | e :: es, ks, us, ws, m, m', σ, s, Q, h, hp, F, S, r, hQ => by
    cases e <;> simp only [cNames, reduceCtorEq] at h
    rename_i x p
    split at h
    · rename_i k ks' h1 h2
      cases h
      cases us with
      | nil => cases hp
      | cons u us =>
        cases ws with
        | nil => exact r.elim
        | cons w ws =>
          refine wpAny_assignInOrder_more (wpAny_assign_Name (store_sound F S h1 r.1 fun s₁ go₁ sx₁ F₁ => ?_))
          refine names_sound h2 hp F₁ go₁.st (go₁.rels S (fun b hb => (F.fp b hb).1) r.2) fun s₂ go₂ sx₂ F₂ => ?_
          exact hQ s₂ (go₁.trans go₂) (sx₁.trans sx₂) F₂
    · cases h

theorem assign_sound {env : Env} {g : G} {σ : H} {s : Shared} {m m' : M} {tgt : Expr} {ks : List Nat} {v : V} {w : Value} {Q : Unit → Shared → Prop} (hh : A.handled = none) (F : Fr K env cx m g s.heap) (S : St K g σ s.heap) (ht : cTgt cx tgt = some ks) (hb : bindV ks m v = some m')
    (r : VRel K g s.heap v w) (hQ : ∀ s', GoX K (fpOf env) g s.heap g σ s'.heap → Sx s s' → Fr K env cx m' g s'.heap → Q () s') : wpAny (model K.prog K.w) A (assign tgt env w) Q noE s := by
  cases tgt <;> simp only [cTgt, reduceCtorEq] at ht
  · rename_i x p
    simp only [Option.map_eq_some_iff] at ht
    obtain ⟨k, h1, rfl⟩ := ht
    simp only [bindV, Option.some.injEq] at hb
    subst hb
    exact wpAny_assign_Name (store_sound F S h1 r hQ)
  · rename_i es k p
    split at ht
    · rename_i a b rr h1
      cases ht
      cases v <;> simp only [bindV, reduceCtorEq] at hb
      rename_i us
      obtain ⟨t, vs, k', rfl, it, ho, rs⟩ := r
      have hl : us.length = (a :: b :: rr).length := by
        have : ∀ (ks : List Nat) (m : M) (us : List V) (m' : M), puts m ks us = some m' → us.length = ks.length := by
          intro ks
          induction ks with
          | nil => intro m us m' e; cases us <;> simp [puts] at e; rfl
          | cons k ks ih =>
            intro m us m' e
            cases us with
            | nil => simp [puts] at e
            | cons u us => simp only [puts] at e; simp [ih _ _ _ e]
        exact this _ _ _ _ hb
      obtain ⟨f1, f2⟩ := names_each (env := env) h1
      have hsz : vs.size = us.length := by
        have := rs.length
        simpa using this.symm
      refine wpAny_assign_Tuple (items := vs) hh ⟨_, ho, rfl, k', rfl⟩ (by rw [f2, hsz, hl]) f1 fun h' he => ?_
      have hk : ∀ b o, s.heap.get? b = some o → h'.get? b = some o := fun b o e => he b o (Nat.ne_of_lt (Heap.lt_size e)) e
      have go := Go.change S hk
      refine names_sound (s := { s with heap := h' }) h1 hb (F.go S go) go.st (go.rels S rs) fun s₂ go₂ sx₂ F₂ => hQ s₂ (go.toX.trans go₂) ⟨sx₂.1, sx₂.2⟩ F₂
    · cases ht

theorem fp_apart {env : Env} {g : G} {h : Heap} {m : M} (F : Fr K env cx m g h) : ∀ b, fpOf env b → ∀ o, h.get? b = some o → ¬ Apart o := fun b hb o e ha => by
  obtain ⟨_, _, o', e', hd⟩ := F.fp b hb
  rw [e] at e'; cases e'
  rcases hd with ⟨es, ep, hd⟩ | ⟨v, hd⟩
  · exact ha.1 es ep hd
  · exact ha.2 v hd

theorem Fr.stay {env : Env} {m : M} {X : Addr → Prop} {g : G} {h h' : Heap} {σ : H} (F : Fr K env cx m g h) (S : St K g σ h) (hk : ∀ b o, h.get? b = some o → ¬ X b → h'.get? b = some o) (hx : ∀ b, X b → ¬ fpOf env b) (hp : ∀ b, X b → ¬ g.own b) : Fr K env cx m g h' where
  kind := F.kind
  names := F.names
  glob := F.glob
  blt := F.blt
  loc := by
    obtain ⟨ns, hn, hv⟩ := F.loc
    refine ⟨ns, hn.at' fun o e => hk _ o e fun z => hx _ z (.inl rfl), fun x k v h1 h2 h3 => ?_⟩
    obtain ⟨w, e, r⟩ := hv x k v h1 h2 h3
    exact ⟨w, e, VRel.mono (fun _ _ e => e) (fun _ i => i) (fun b o i e => hk b o e fun z => hp b z (.inr i)) _ _ r⟩
  cell := fun x k h1 h2 => by
    obtain ⟨c, o, e, hc, hv⟩ := F.cell x k h1 h2
    refine ⟨c, o, e, ?_, fun v h3 => ?_⟩
    · obtain ⟨ob, ho, hd⟩ := hc
      exact ⟨ob, hk _ _ ho fun z => hx _ z (.inr ⟨x, e⟩), hd⟩
    · obtain ⟨w, e, r⟩ := hv v h3
      exact ⟨w, e, VRel.mono (fun _ _ e => e) (fun _ i => i) (fun b o i e => hk b o e fun z => hp b z (.inr i)) _ _ r⟩
  priv := F.priv
  privC := fun x c e => by
    obtain ⟨h1, h2, o, ob, ho, hd⟩ := F.privC x c e
    exact ⟨h1, h2, o, ob, hk _ _ ho fun z => hx _ z (.inr ⟨x, e⟩), hd⟩
  apart := F.apart
  inj := F.inj
  bnd := F.bnd
  hi := F.hi

/-- the for loop, its iterator at hand -/
theorem for_sound {env : Env} {g₀ : G} {s₀ : Shared} {tgt : Expr} {body : List Stmt} {ks : List Nat} {it : Value} {X : Addr → Prop} {vs : List V} {ok : H → Prop} {J : Nat → G → Heap → Prop} {B : M → H → (M → H → Prop) → Prop} {N : M → H → Prop} {Rt : P}
    (hh : A.handled = none) (I : Itr K A tgt it X vs ok J) (ht : cTgt cx tgt = some ks) (hX : ∀ b, X b → s₀.heap.get? b = none)
    (hB : ∀ m g σ s (L : M → H → Prop), Fr K env cx m g s.heap → St K g σ s.heap → B m σ L → wpAny (model K.prog K.w) A (execs body env) (EndS K env cx g s L Rt) noE s)
    {m : M} {g : G} {σ : H} {s : Shared} (hJ : J 0 g s.heap) (F : Fr K env cx m g s.heap) (go : GoX K (fpOf env) g₀ s₀.heap g σ s.heap) (sx : Sx s₀ s) (hW : forL B ks ok N vs m σ) :
    codeAny (model K.prog K.w) A (.forLoop tgt it body [] env) (fun r s' => match r with | .ok f => EndS K env cx g₀ s₀ N Rt f s' | .error e => False) s := by
  refine codeAny_loop' rfl (fun k s => ∃ i m g σ, k = vs.length - i ∧ i ≤ vs.length ∧ J i g s.heap ∧ Fr K env cx m g s.heap ∧ GoX K (fpOf env) g₀ s₀.heap g σ s.heap ∧ Sx s₀ s ∧ forL B ks ok N (vs.drop i) m σ) ?_ vs.length ⟨0, m, g, σ, by simp, Nat.zero_le _, hJ, F, go, sx, by simpa using hW⟩
  rintro k s ⟨i, m, g, σ, rfl, hi, hJ, F, go, sx, hW⟩
  show wpAny _ A ((forTurn tgt it body [] env).onRaise (fun x => do noteFrame x env; theTreesLotGoes x)) _ _ s
  refine wpAny_noted (wpAny_mono (Q := fun fin s' => match fin with | .done f => EndS K env cx g₀ s₀ N Rt f s' | .again c' => (c' = .forLoop tgt it body [] env ∧ ∃ m, m < vs.length - i ∧ ∃ i m_1 g σ, m = vs.length - i ∧ i ≤ vs.length ∧ J i g s'.heap ∧ Fr K env cx m_1 g s'.heap ∧ GoX K (fpOf env) g₀ s₀.heap g σ s'.heap ∧ Sx s₀ s' ∧ forL B ks ok N (vs.drop i) m_1 σ) ∨ (c'.quiet = true ∧ codeAny (model K.prog K.w) A c' (fun r s' => match r with | .ok f => EndS K env cx g₀ s₀ N Rt f s' | .error e => False) s')) (E := noE) ?_ (fun _ _ q => q) fun _ _ f => f.elim)
  simp only [forTurn]
  refine wpAny_bind (wpAny_standAt (wpAny_bind (wpAny_onRaise ?_)))
  cases hv : vs[i]? with
  | none =>
    have hd : vs.drop i = [] := by
      rw [List.getElem?_eq_none_iff] at hv
      exact List.drop_of_length_le hv
    rw [hd] at hW
    refine wpAny_mono (I.stop i g σ s hJ go.st hW.1 hv) (fun r s₁ q => ?_) fun _ _ f => f.elim
    obtain ⟨rfl, S₁, hk, sx₁⟩ := q
    refine wpAny_pure (.inr ⟨rfl, codeAny_block (wpAny_execs_nil ?_)⟩)
    have pv := I.priv i g s.heap hJ
    have go₁ : GoX K (fpOf env) g₀ s₀.heap g σ s₁.heap := go.halt S₁ hk hX
    refine ⟨m, g, σ, go₁, sx.trans sx₁, ?_, hW.2⟩
    exact F.stay go.st hk (fun b hb hf => by
      obtain ⟨_, _, o, e, ha⟩ := pv b hb
      exact fp_apart F b hf o e ha) fun b hb => (pv b hb).1
  | some v =>
    have hlt := (List.getElem?_eq_some_iff.mp hv).1
    have hd : vs.drop i = v :: vs.drop (i + 1) := by
      rw [List.drop_eq_getElem_cons hlt]
      congr 1
      exact (List.getElem?_eq_some_iff.mp hv).2
    rw [hd] at hW
    obtain ⟨hok, m', hb, hW⟩ := hW
    refine wpAny_mono (I.next i g σ s v hJ go.st hok hv) (fun r s₁ q => ?_) fun _ _ f => f.elim
    obtain ⟨w, rfl, q⟩ := q
    refine wpAny_bind (wpAny_mono q (fun _ s₂ q => ?_) fun _ _ f => f)
    obtain ⟨g₂, go₂, sx₂, rel₂, hJ₂⟩ := q
    have pv := I.priv i g s.heap hJ
    have dis : ∀ b, X b → ¬ fpOf env b := fun b hb hf => by
      obtain ⟨_, _, o, e, ha⟩ := pv b hb
      exact fp_apart F b hf o e ha
    have F₂ := F.goX go.st go₂ dis fun b hb => (pv b hb).1
    have go02 : GoX K (fpOf env) g₀ s₀.heap g₂ σ s₂.heap := go.step go₂ fun b hb => .inr (hX b hb)
    refine wpAny_bind (assign_sound hh F₂ go₂.st ht hb rel₂ fun s₃ go₃ sx₃ F₃ => ?_)
    have hJ₃ : J (i + 1) g₂ s₃.heap := I.stay (i + 1) (fpOf env) g₂ σ s₂.heap g₂ σ s₃.heap hJ₂ go₂.st go₃ fun b hb hx => dis b hx hb
    refine wpAny_bind (wpAny_mono (hB m' g₂ σ s₃ _ F₃ go₃.st hW) (fun f s₄ q => ?_) fun _ _ f => f.elim)
    have go03 := go02.trans go₃
    have sx03 := (sx.trans sx₂).trans sx₃
    cases f with
    | next =>
      obtain ⟨m₄, g₄, σ₄, go₄, sx₄, F₄, hW₄⟩ := q
      refine wpAny_pure (.inl ⟨rfl, vs.length - (i + 1), by omega, i + 1, m₄, g₄, σ₄, rfl, by omega, ?_, F₄, go03.trans go₄, sx03.trans sx₄, hW₄⟩)
      exact I.stay (i + 1) (fpOf env) g₂ σ s₃.heap g₄ σ₄ s₄.heap hJ₃ go₃.st go₄ fun b hb hx => dis b hx hb
    | ret u =>
      obtain ⟨r, g₄, σ₄, go₄, sx₄, rel₄, hW₄⟩ := q
      exact wpAny_pure ⟨r, g₄, σ₄, go03.trans go₄, sx03.trans sx₄, rel₄, hW₄⟩
    | brk => exact q.elim
    | cont => exact q.elim

theorem while_sound {env : Env} {g₀ : G} {s₀ : Shared} {test : Expr} {body : List Stmt} {T : M → H → (Bool → H → Prop) → Prop} {B : M → H → (M → H → Prop) → Prop} {N : M → H → Prop} {Rt : P}
    (hT : ∀ m g σ s (L : Bool → H → Prop), Fr K env cx m g s.heap → St K g σ s.heap → T m σ L → wpAny (model K.prog K.w) A (isTrue test env (eval test env)) (EndB K g s L) noE s)
    (hB : ∀ m g σ s (L : M → H → Prop), Fr K env cx m g s.heap → St K g σ s.heap → B m σ L → wpAny (model K.prog K.w) A (execs body env) (EndS K env cx g s L Rt) noE s)
    {m : M} {g : G} {σ : H} {s : Shared} (F : Fr K env cx m g s.heap) (go : GoX K (fpOf env) g₀ s₀.heap g σ s.heap) (sx : Sx s₀ s) {k : Nat} (hW : whileN T B N k m σ) :
    codeAny (model K.prog K.w) A (.whileLoop test body [] env) (fun r s' => match r with | .ok f => EndS K env cx g₀ s₀ N Rt f s' | .error e => False) s := by
  refine codeAny_whileLoop (fun k s => ∃ m g σ, Fr K env cx m g s.heap ∧ GoX K (fpOf env) g₀ s₀.heap g σ s.heap ∧ Sx s₀ s ∧ whileN T B N k m σ) ?_ k ⟨m, g, σ, F, go, sx, hW⟩
  rintro k s ⟨m, g, σ, F, go, sx, hW⟩
  cases k with
  | zero => exact hW.elim
  | succ k =>
    refine wpAny_mono (hT m g σ s _ F go.st hW) (fun b s₁ q => ?_) fun _ _ f => f.elim
    obtain ⟨g₁, σ₁, go₁, sx₁, W₁⟩ := q
    have F₁ := F.go go.st go₁
    have go01 := go.trans go₁.toX
    cases b with
    | false => exact wpAny_execs_nil ⟨m, g₁, σ₁, go01, sx.trans sx₁, F₁, W₁⟩
    | true =>
      refine wpAny_mono (hB m g₁ σ₁ s₁ _ F₁ go₁.st W₁) (fun f s₂ q => ?_) fun _ _ f => f.elim
      cases f with
      | next =>
        obtain ⟨m₂, g₂, σ₂, go₂, sx₂, F₂, W₂⟩ := q
        exact ⟨k, Nat.lt_succ_self _, m₂, g₂, σ₂, F₂, go01.trans go₂, (sx.trans sx₁).trans sx₂, W₂⟩
      | ret u =>
        obtain ⟨r, g₂, σ₂, go₂, sx₂, rel₂, W₂⟩ := q
        exact ⟨r, g₂, σ₂, go01.trans go₂, (sx.trans sx₁).trans sx₂, rel₂, W₂⟩
      | brk => exact q.elim
      | cont => exact q.elim
end
end Mini

set_option autoImplicit false
set_option linter.unusedVariables false
namespace Mini
open PySem

/-- the loop's target fits the source -/
noncomputable def tgtOk : Src → Expr → Prop
  | .list _, t | .range _, t | .rev _, t => ∃ x p, t = .Name x p
  | .enum _, t | .zip _ _, t => ∃ es k p, t = .Tuple es k p

noncomputable def SSrc (K : Ctx) (n : Nat) (cx : Cx) (e : Expr) (p : Src) : Prop := ∀ (env : Env) (A : Around) (m : M) (g : G) (σ : H) (s : Shared) (tgt : Expr) (L : List V → (H → Prop) → H → Prop), Room A n → Fr K env cx m g s.heap → St K g σ s.heap → tgtOk p tgt →
  WSrc (callW K.Φ n) noX p m σ L → wpAny (model K.prog K.w) A (eval e env) (fun v s₁ => wpAny (model K.prog K.w) A (pyIter v) (fun it s₂ => ∃ g₂ σ₂ vs ok X J, Go K g s.heap g₂ σ₂ s₂.heap ∧ Sx s s₂ ∧ Itr K A tgt it X vs ok J ∧ J 0 g₂ s₂.heap ∧
    (∀ b, X b → s.heap.get? b = none) ∧ L vs ok σ₂) noE s₁) noE s

section
variable {K : Ctx} {pg : Pg} {n : Nat} {cx : Cx}

theorem ne_ad {a b : Nat} (h : a < b ∨ b < a) : @Ne Addr a b := fun e => by have e' : (a : Nat) = b := e; omega
theorem go_none {g g₁ : G} {σ₁ : H} {h h₁ : Heap} (go : Go K g h g₁ σ₁ h₁) {b : Addr} (e : h₁.get? b = none) : h.get? b = none := by
  cases z : h.get? b with
  | none => rfl
  | some o =>
    obtain ⟨o', e'⟩ := (go.toX (X := fun _ => False)).there b o z
    rw [e] at e'; cases e'

theorem src_list {e : Expr} {a : E} (h : SE K n cx e a) : SSrc K n cx e (.list a) := fun env A m g σ s tgt L R F S ht W => by
  refine wpAny_mono (h env A m g σ s _ R F S W) (fun v s₁ q => ?_) fun _ _ f => f
  obtain ⟨r₁, g₁, σ₁, go₁, sx₁, rel₁, W₁⟩ := q
  cases r₁ <;> try exact W₁.elim
  rename_i i
  obtain ⟨xs, hx, q⟩ := W₁
  obtain ⟨b, vs, k, rfl, hb, hl, rr, e, z⟩ := go₁.st.list rel₁ hx
  obtain ⟨x, p, rfl⟩ := ht
  refine wpAny_pyIter_list hl.isList ?_
  have hk : ∀ c o, s₁.heap.get? c = some o → (s₁.heap.push { cls := .type "list_iterator", data := .fields #[.ref b, .int 0 0] }).get? c = some o := fun c o e => Heap.get?_push_of_some _ e
  have go₂ := Go.change go₁.st hk
  have fn := fresh_not go₁.st (none_at_size s₁.heap)
  refine ⟨g₁, σ₁, xs, _, _, _, go₁.trans go₂, ⟨sx₁.1, sx₁.2⟩, itr_list (I := s₁.heap.objs.size) (b := b) (a := i) R.handled (fun _ _ => rfl), ⟨⟨_, Heap.get?_push_size _ rfl, rfl, rfl⟩, fn.1, fn.2, hb⟩, fun c e => e ▸ go_none go₁ (none_at_size _), q⟩

theorem src_range (G₀ : Gr K pg) {x : Str} {p pos : Pos} {e : Expr} {a : E} (hx : cx.names.lookup x = some .globalImplicit) (hd : (x == ("__debug__" : Str)) = false) (hv : blts.lookup x = some (.type "range")) (h : SE K n cx e a) (hst : isStar e = false) :
    SSrc K n cx (.Call (.Name x p) [e] [] pos) (.range a) := fun env A m g σ s tgt L R F S ht W => by
  refine wpAny_Call_ofName (load_blt G₀ F S hx hd hv ?_)
  show wpAny _ A (callWith pos (.type "range") [] (backTo pos (starEach [e] env)) []) _ _ s
  rw [star_cons hst]
  refine callWith_type rfl (Calls.evalArgs_plain (Calls.spliced_cons (wpAny_mono (h env A m g σ s _ R F S W) (fun v s₁ q => ?_) fun _ _ f => f)))
  obtain ⟨r₁, g₁, σ₁, go₁, sx₁, rel₁, W₁⟩ := q
  refine Calls.spliced_nil ?_
  cases r₁ <;> try exact W₁.elim
  rename_i N
  obtain ⟨t, rfl⟩ := rel₁
  obtain ⟨⟨h0, h1⟩, W₁⟩ := W₁
  obtain ⟨y, py, rfl⟩ := ht
  refine call_range_1 (wpAny_pyIter_range (IsRange.new ..) (small_one (by decide) (by decide) (by omega) (by omega)) ?_)
  have hsz : Builtin.Range.rangeSize 0 N 1 = N := by rw [rangeSize_one]; split <;> omega
  have go₂ := Go.change (h' := (s₁.heap.push { cls := .type "range", data := .fields #[.int 0 s₁.toks, .int N t, .int 1 (s₁.toks + 1)] }).push { cls := .type "range_iterator", data := .fields #[rawInt 0, rawInt (Builtin.Range.rangeSize 0 N 1), rawInt 1] }) go₁.st push2
  have e0 : s₁.heap.get? (s₁.heap.objs.size + 1) = none := none_above (Nat.le_succ _)
  have fn := fresh_not go₁.st e0
  have e1 : (s₁.heap.push { cls := .type "range", data := .fields #[.int 0 s₁.toks, .int N t, .int 1 (s₁.toks + 1)] }).objs.size = s₁.heap.objs.size + 1 := Heap.size_push ..
  refine ⟨g₁, σ₁, rangeV N, fun _ => True, (· = s₁.heap.objs.size + 1), fun i g h => IsRangeIter h (s₁.heap.objs.size + 1) i (N - i) 1 ∧ ¬ g.own (s₁.heap.objs.size + 1) ∧ K.hB.get? (s₁.heap.objs.size + 1) = none, go₁.trans go₂, ⟨sx₁.1, sx₁.2⟩, by rw [e1]; exact itr_range (I := s₁.heap.objs.size + 1) R.handled (fun _ _ => rfl) h0, ⟨?_, fn.1, fn.2⟩, fun c e => e ▸ go_none go₁ e0, W₁⟩
  rw [← e1]
  show IsRangeIter _ _ ((0 : Nat) : Int) (N - ((0 : Nat) : Int)) 1
  rw [hsz]
  have := Heap.get?_push_size (s₁.heap.push { cls := .type "range", data := .fields #[.int 0 s₁.toks, .int N t, .int 1 (s₁.toks + 1)] }) (o := { cls := .type "range_iterator", data := .fields #[rawInt 0, rawInt N, rawInt 1] }) rfl
  simpa [IsRangeIter, rawInt] using this

theorem src_enum (G₀ : Gr K pg) {x : Str} {p pos : Pos} {e : Expr} {a : E} (hx : cx.names.lookup x = some .globalImplicit) (hd : (x == ("__debug__" : Str)) = false) (hv : blts.lookup x = some (.type "enumerate")) (h : SE K n cx e a) (hst : isStar e = false) :
    SSrc K n cx (.Call (.Name x p) [e] [] pos) (.enum a) := fun env A m g σ s tgt L R F S ht W => by
  refine wpAny_Call_ofName (load_blt G₀ F S hx hd hv ?_)
  show wpAny _ A (callWith pos (.type "enumerate") [] (backTo pos (starEach [e] env)) []) _ _ s
  rw [star_cons hst]
  refine callWith_type rfl (Calls.evalArgs_plain (Calls.spliced_cons (wpAny_mono (h env A m g σ s _ R F S W) (fun v s₁ q => ?_) fun _ _ f => f)))
  obtain ⟨r₁, g₁, σ₁, go₁, sx₁, rel₁, W₁⟩ := q
  refine Calls.spliced_nil ?_
  cases r₁ <;> try exact W₁.elim
  rename_i i
  obtain ⟨xs, hx, q⟩ := W₁
  obtain ⟨b, vs, k, rfl, hb, hl, rr, e, z⟩ := go₁.st.list rel₁ hx
  obtain ⟨es, k', p', rfl⟩ := ht
  refine call_enumerate_1 hl fun h' he hi hsz hk => wpAny_pyIter_enum he ?_
  have go₂ := Go.change go₁.st hk
  have e1 : s₁.heap.get? (s₁.heap.objs.size + 1) = none := none_above (Nat.le_succ _)
  have fn := fresh_not go₁.st (none_at_size s₁.heap)
  have fn1 := fresh_not go₁.st e1
  refine ⟨g₁, σ₁, _, _, _, _, go₁.trans go₂, ⟨sx₁.1, sx₁.2⟩, itr_enum (e := s₁.heap.objs.size + 1) (I := s₁.heap.objs.size) (b := b) (a := i) (xs := xs) R.handled (ne_ad (.inr (Nat.lt_succ_self _))), ⟨⟨_, he⟩, hi, fn.1, fn.2, fn1.1, fn1.2, hb⟩, fun c e => ?_, q⟩
  rcases e with rfl | rfl
  · exact go_none go₁ e1
  · exact go_none go₁ (none_at_size _)

theorem src_zip (G₀ : Gr K pg) {x : Str} {p pos : Pos} {e e' : Expr} {a b : E} (hx : cx.names.lookup x = some .globalImplicit) (hd : (x == ("__debug__" : Str)) = false) (hv : blts.lookup x = some (.type "zip")) (h : SE K n cx e a) (hst : isStar e = false) (h' : SE K n cx e' b) (hst' : isStar e' = false) :
    SSrc K n cx (.Call (.Name x p) [e, e'] [] pos) (.zip a b) := fun env A m g σ s tgt L R F S ht W => by
  refine wpAny_Call_ofName (load_blt G₀ F S hx hd hv ?_)
  show wpAny _ A (callWith pos (.type "zip") [] (backTo pos (starEach [e, e'] env)) []) _ _ s
  rw [star_cons hst, star_cons hst']
  refine callWith_type rfl (Calls.evalArgs_plain (Calls.spliced_cons (wpAny_mono (h env A m g σ s _ R F S W) (fun v s₁ q => ?_) fun _ _ f => f)))
  obtain ⟨r₁, g₁, σ₁, go₁, sx₁, rel₁, W₁⟩ := q
  refine Calls.spliced_cons (wpAny_mono (h' env A m g₁ σ₁ s₁ _ R (F.go S go₁) go₁.st W₁) (fun w s₂ q => ?_) fun _ _ f => f)
  obtain ⟨r₂, g₂, σ₂, go₂, sx₂, rel₂, W₂⟩ := q
  refine Calls.spliced_nil ?_
  have rel₁' := go₂.rel go₁.st rel₁
  cases r₁ <;> cases r₂ <;> try exact W₂.elim
  rename_i i j
  obtain ⟨xs, ys, hx, hy, q⟩ := W₂
  obtain ⟨b1, vs, k, rfl, hb1, hl1, _, _, _⟩ := go₂.st.list rel₁' hx
  obtain ⟨b2, ws, k2, rfl, hb2, hl2, _, _, _⟩ := go₂.st.list rel₂ hy
  obtain ⟨es, k', p', rfl⟩ := ht
  have go12 := go₁.trans go₂
  refine call_zip_2 hl1.isList hl2.isList fun h₃ hz hTI hTO hi1 hi2 hsz hk => wpAny_pyIter_zip hz ?_
  have go₃ := Go.change go₂.st hk
  have lt1 : @LT.lt Nat _ b1 s₂.heap.objs.size := Heap.lt_size hl1
  have lt2 : @LT.lt Nat _ b2 s₂.heap.objs.size := Heap.lt_size hl2
  have D : ZipApart (s₂.heap.objs.size + 4) (s₂.heap.objs.size + 2) (s₂.heap.objs.size + 3) s₂.heap.objs.size (s₂.heap.objs.size + 1) b1 b2 := by
    constructor <;> (refine ne_ad ?_; omega)
  have pv : ∀ c, (c = s₂.heap.objs.size + 4 ∨ c = s₂.heap.objs.size + 3 ∨ c = s₂.heap.objs.size ∨ c = s₂.heap.objs.size + 1 ∨ c = s₂.heap.objs.size + 2) → s₂.heap.get? c = none := fun c e => none_above (by rcases e with rfl | rfl | rfl | rfl | rfl <;> omega)
  refine ⟨g₂, σ₂, _, _, _, _, go12.trans go₃, ⟨(sx₁.trans sx₂).1, (sx₁.trans sx₂).2⟩, itr_zip (a1 := i) (a2 := j) (xs := xs) (ys := ys) R.handled D, ⟨hz, hTI, ⟨_, _, hTO⟩, hi1, hi2, fun c e => fresh_not go₂.st (pv c e), hb1, hb2⟩, fun c e => go_none go12 (pv c ?_), q⟩
  rcases e with e | e | e | e | e <;> simp [e]
end
end Mini

set_option autoImplicit false
set_option linter.unusedVariables false
namespace Mini
open PySem

noncomputable def relN (cn names : List (Str × NameKind)) : List (Str × NameKind) := names.map fun p => if p.2 == .free && cn.lookup p.1 == some .cell then (p.1, .cell) else p
noncomputable def compCx (cx : Cx) (names : List (Str × NameKind)) (x : Str) : Cx := ⟨relN cx.names names, (x, cx.slots.length) :: cx.slots⟩
noncomputable def compOk (cx : Cx) (scope : Scope) (x : Str) : Bool :=
  scope.kind == .function && scope.names.all (fun p => p.2 != .cell) && scope.names.lookup x == some .local &&
  scope.names.all (fun p => p.2 != .local || ((p.1 == x || p.1 == (".0" : Str)) && scope.names.lookup p.1 == some .local)) &&
  scope.names.all (fun p => p.2 != .free || (cx.names.lookup p.1 == some .cell && (cx.slots.lookup p.1).isSome)) && (cx.slots.lookup (".0" : Str)).isNone && x != (".0" : Str)

structure CompOk (cx : Cx) (scope : Scope) (x : Str) : Prop where
  kind : scope.kind = .function
  nocell : ∀ p ∈ scope.names, p.2 ≠ .cell
  own : scope.names.lookup x = some .local
  loc : ∀ p ∈ scope.names, p.2 = .local → (p.1 = x ∨ p.1 = (".0" : Str)) ∧ scope.names.lookup p.1 = some .local
  free : ∀ p ∈ scope.names, p.2 = .free → cx.names.lookup p.1 = some .cell ∧ ∃ k, cx.slots.lookup p.1 = some k
  dot : cx.slots.lookup (".0" : Str) = none
  xdot : x ≠ (".0" : Str)
theorem compOk_ok {cx : Cx} {scope : Scope} {x : Str} (h : compOk cx scope x = true) : CompOk cx scope x := by
  unfold compOk at h
  simp only [Bool.and_eq_true, beq_iff_eq, bne_iff_ne, ne_eq, List.all_eq_true, Bool.or_eq_true, Option.isNone_iff_eq_none, Option.isSome_iff_exists] at h
  obtain ⟨⟨⟨⟨⟨⟨h1, h2⟩, h3⟩, h4⟩, h5⟩, h6⟩, h7⟩ := h
  exact ⟨h1, h2, h3, fun p hp hl => (h4 p hp).resolve_left fun z => z hl, fun p hp hl => (h5 p hp).resolve_left fun z => z hl, h6, h7⟩

theorem forIn_pure {α β : Type} {f : α → β → Sem (ForInStep β)} {u : β → α → β} : ∀ (l : List α) (c : β), (∀ x ∈ l, ∀ c, f x c = pure (.yield (u c x))) → forIn l c f = pure (l.foldl u c)
  | [], c, _ => rfl
  | x :: l, c, h => by
    rw [List.forIn_cons, h x (.head _), pure_bind]
    exact forIn_pure l _ fun y hy => h y (.tail _ hy)

noncomputable def clOf (env : Env) (names : List (Str × NameKind)) : List (Str × Addr) := names.foldl (fun cs p => if p.2 == .free then (p.1, (env.cells.lookup p.1).getD 0) :: cs else cs) []
theorem closure_eq {env : Env} {scope : Scope} (h : ∀ p ∈ scope.names, p.2 = .free → ∃ c, env.cells.lookup p.1 = some c) : closureFor scope env = pure (clOf env scope.names) := by
  unfold closureFor clOf
  have := forIn_pure (f := fun (x : Str × NameKind) (r : List (Str × Addr)) => (match x with | (name, kind) => if (kind == .free) = true then do let __do_lift ← cellOf env name; pure (ForInStep.yield ((name, __do_lift) :: r)) else pure (ForInStep.yield r) : Sem (ForInStep (List (Str × Addr)))))
    (u := fun cs p => if p.2 == .free then (p.1, (env.cells.lookup p.1).getD 0) :: cs else cs) scope.names [] (fun p hp c => by
      obtain ⟨nm, kd⟩ := p
      by_cases hk : kd = .free
      · obtain ⟨a, ha⟩ := h _ hp hk
        have ha' : env.cells.lookup nm = some a := ha
        simp only [hk, beq_self_eq_true, if_true, cellOf, ha', Option.getD_some]
        rfl
      · have hk' : (kd == NameKind.free) = false := by simpa using hk
        simp only [hk', Bool.false_eq_true, if_false])
  simp only [bind_pure]
  exact this
theorem cl_sound {env : Env} {y : Str} {c : Addr} (names : List (Str × NameKind)) (h : ∀ p ∈ names, p.2 = .free → ∃ c, env.cells.lookup p.1 = some c) : (clOf env names).lookup y = some c → env.cells.lookup y = some c := by
  unfold clOf
  have key : ∀ (names : List (Str × NameKind)) (acc : List (Str × Addr)), (∀ p ∈ names, p.2 = .free → ∃ c, env.cells.lookup p.1 = some c) → (acc.lookup y = some c → env.cells.lookup y = some c) →
      (names.foldl (fun cs p => if p.2 == .free then (p.1, (env.cells.lookup p.1).getD 0) :: cs else cs) acc).lookup y = some c → env.cells.lookup y = some c := by
    intro names
    induction names with
    | nil => intro acc _ ha; exact ha
    | cons p names ih =>
      intro acc h ha
      rw [List.foldl_cons]
      refine ih _ (fun q hq => h q (.tail _ hq)) ?_
      by_cases hk : p.2 = .free
      · obtain ⟨a, e⟩ := h p (.head _) hk
        simp only [hk, beq_self_eq_true, if_true, List.lookup_cons]
        cases hy : y == p.1 with
        | true =>
          have : y = p.1 := by simpa using hy
          subst this
          intro z
          rw [e]; simpa [e] using z
        | false => exact ha
      · have hk' : (p.2 == NameKind.free) = false := by simpa using hk
        simp only [hk', Bool.false_eq_true, if_false]
        exact ha
  exact key names [] h (by simp)
theorem cl_some {env : Env} {y : Str} (names : List (Str × NameKind)) (h : (y, NameKind.free) ∈ names) : ∃ c, (clOf env names).lookup y = some c := by
  unfold clOf
  have key : ∀ (names : List (Str × NameKind)) (acc : List (Str × Addr)), ((y, NameKind.free) ∈ names ∨ ∃ c, acc.lookup y = some c) →
      ∃ c, (names.foldl (fun cs p => if p.2 == .free then (p.1, (env.cells.lookup p.1).getD 0) :: cs else cs) acc).lookup y = some c := by
    intro names
    induction names with
    | nil => rintro acc (h | h); cases h; exact h
    | cons p names ih =>
      intro acc h
      rw [List.foldl_cons]
      refine ih _ ?_
      rcases h with h | ⟨c, h⟩
      · rcases List.mem_cons.mp h with e | h
        · right
          subst e
          exact ⟨(env.cells.lookup y).getD 0, by simp⟩
        · exact .inl h
      · right
        by_cases hk : (p.2 == NameKind.free) = true
        · rw [if_pos hk, List.lookup_cons]
          cases hy : y == p.1 with
          | true => exact ⟨_, rfl⟩
          | false => exact ⟨c, h⟩
        · rw [if_neg hk]; exact ⟨c, h⟩
  exact key names [] (.inl h)

theorem rel_lookup {cn : List (Str × NameKind)} : ∀ {names : List (Str × NameKind)} {y : Str} {k : NameKind}, (relN cn names).lookup y = some k →
    ∃ k', names.lookup y = some k' ∧ ((k' = .free ∧ cn.lookup y = some .cell ∧ k = .cell) ∨ (k = k' ∧ ¬ (k' = .free ∧ cn.lookup y = some .cell)))
  | [], _, _, h => by simp [relN] at h
  | p :: names, y, k, h => by
    unfold relN at h
    rw [List.map_cons] at h
    have e1 : (if (p.2 == .free && cn.lookup p.1 == some .cell) = true then (p.1, NameKind.cell) else p).1 = p.1 := by split <;> rfl
    rw [List.lookup_cons] at h
    rw [e1] at h
    cases hy : y == p.1 with
    | true =>
      rw [hy] at h
      have : y = p.1 := by simpa using hy
      subst this
      refine ⟨p.2, by rw [show p = (p.1, p.2) from rfl]; simp, ?_⟩
      by_cases hc : (p.2 == .free && cn.lookup p.1 == some .cell) = true
      · rw [if_pos hc] at h
        simp only [Bool.and_eq_true, beq_iff_eq] at hc
        exact .inl ⟨hc.1, hc.2, (Option.some.inj h).symm⟩
      · rw [if_neg hc] at h
        refine .inr ⟨(Option.some.inj h).symm, ?_⟩
        simpa using hc
    | false =>
      rw [hy] at h
      obtain ⟨k', h1, h2⟩ := rel_lookup (names := names) h
      exact ⟨k', by rw [show p = (p.1, p.2) from rfl, List.lookup_cons, hy]; exact h1, h2⟩
theorem relabel_eq {K : Ctx} {env : Env} {cx : Cx} {m : M} {g : G} {h : Heap} (F : Fr K env cx m g h) (scope : Scope) : (relabel scope env).names = relN cx.names scope.names := by
  unfold relabel relN
  show List.map _ scope.names = _
  apply List.map_congr_left
  intro p hp
  obtain ⟨nm, kd⟩ := p
  have : env.kindOf nm = cx.names.lookup nm := by unfold Env.kindOf; rw [F.names]
  simp only [F.kind, this, beq_self_eq_true, Bool.and_true]

theorem put_put : ∀ (m : M) (k : Nat) (a b : V), put (put m k a) k b = put m k b
  | [], _, _, _ => rfl
  | _ :: _, 0, _, _ => rfl
  | w :: m, k + 1, a, b => by simp only [put]; rw [put_put m k a b]

section
variable {K : Ctx} {pg : Pg} {n : Nat} {cx : Cx}

theorem GoX.gainList {X : Addr → Prop} {g g₁ : G} {σ₁ : H} {h h₁ : Heap} (q : GoX K X g h g₁ σ₁ h₁) {D : Addr} {xs : List V} {vs : Array Value} {k : Nat} (h0 : h.get? D = none) (hD : ¬ g₁.own D ∧ K.hB.get? D = none) (e : h₁.get? D = some { cls := .type "list", data := .seq vs k })
    (r : VRels K g₁ h₁ xs vs.toList) (hl : xs.length ≤ lim) : GoX K X g h ⟨g₁.ρ ++ [D], g₁.ι⟩ (σ₁ ++ [xs]) h₁ := by
  have S := q.st
  have mono : ∀ {xs : List V} {ws : List Value}, VRels K g₁ h₁ xs ws → VRels K ⟨g₁.ρ ++ [D], g₁.ι⟩ h₁ xs ws := fun {xs ws} r => VRels.mono (g := g₁) (g' := ⟨g₁.ρ ++ [D], g₁.ι⟩) (fun _ _ e => pre_get (List.prefix_append _ _) e) (fun _ i => i) (fun b o _ e => e) _ _ r
  refine ⟨⟨S.base, by simp [S.len], fun i a ys h1 h2 => ?_, ?_, fun ys hy => ?_, fun i a h1 h2 => ?_, fun a i => ?_⟩, q.pre.trans (List.prefix_append _ _), q.imm, fun a x => ?_, q.keep, q.there⟩
  · by_cases hi : i < σ₁.length
    · rw [List.getElem?_append_left (by rw [S.len]; exact hi)] at h1
      rw [List.getElem?_append_left hi] at h2
      obtain ⟨vs, n, e', r'⟩ := S.lists i a ys h1 h2
      exact ⟨vs, n, e', mono r'⟩
    · have hi' : i = σ₁.length := by
        have := (List.getElem?_eq_some_iff.mp h2).1
        simp at this; omega
      subst hi'
      rw [List.getElem?_append_right (by rw [S.len]; exact Nat.le_refl _)] at h1
      rw [List.getElem?_append_right (Nat.le_refl _)] at h2
      simp [S.len] at h1 h2
      subst h1 h2
      exact ⟨vs, k, e, mono r⟩
  · refine List.nodup_append.mpr ⟨S.nodup, by simp, ?_⟩
    intro a ha c hc
    simp at hc; subst hc
    exact fun z => hD.1 (.inl (z ▸ ha))
  · rcases List.mem_append.mp hy with z | z
    · exact S.small ys z
    · simp at z; subst z; exact hl
  · by_cases hi : i < g₁.ρ.length
    · rw [List.getElem?_append_left hi] at h1
      exact S.fresh i a h1 h2
    · rw [List.getElem?_append_right (Nat.le_of_not_lt hi)] at h1
      have : a = D := by
        have := List.mem_of_getElem? h1
        simpa using this
      subst this
      exact hD.2
  · obtain ⟨a1, a2, o, a3⟩ := S.imm a i
    refine ⟨a1, fun hb => ?_, o, a3⟩
    rcases List.mem_append.mp hb with x | x
    · exact a2 x
    · simp at x; subst x; exact hD.1 (.inr i)
  · rcases x with x | x
    · rcases List.mem_append.mp x with x | x
      · exact q.new a (.inl x)
      · simp at x; subst x; exact .inr h0
    · exact q.new a (.inr x)

/-- the block's own frame -/
theorem comp_frame {env : Env} {m : M} {g g₁ : G} {h h' : Heap} {scope : Scope} {x : Str} {C : Addr} {σ : H} {ns : Str → Option Value} (F : Fr K env cx m g h) (ok : CompOk cx scope x) (hn : h.Ns C ns) (hC : ¬ g.own C ∧ K.hB.get? C = none) :
    Fr K (compEnvC scope (clOf env scope.names) C env) (compCx cx scope.names x) m g h := by
  have hcell : ∀ p ∈ scope.names, p.2 = .free → ∃ c, env.cells.lookup p.1 = some c := fun p hp hf => by
    obtain ⟨h1, k, h2⟩ := ok.free p hp hf
    obtain ⟨c, o, e, _⟩ := F.cell p.1 k h2 h1
    exact ⟨c, e⟩
  have up : ∀ y c, (clOf env scope.names).lookup y = some c → env.cells.lookup y = some c := fun y c => cl_sound scope.names hcell
  refine ⟨ok.kind, relabel_eq F scope, F.glob, F.blt, ⟨ns, hn, fun y k v h1 h2 h3 => ?_⟩, fun y k h1 h2 => ?_, hC, fun y c e => F.privC y c (up y c e), fun y z c e1 e2 => F.apart y z c (up y c e1) (up z c e2), fun y z k h1 h2 => ?_, fun y k h1 => ?_, fun j hj => F.hi j (by simp [compCx] at hj; omega)⟩
  · obtain ⟨k', e, hk⟩ := rel_lookup h2
    have hk' : k' = .local := by
      rcases hk with ⟨rfl, _, z⟩ | ⟨rfl, _⟩
      · cases z
      · rfl
    subst hk'
    obtain ⟨hy, _⟩ := ok.loc (y, .local) (mem_of_lookup e) rfl
    rcases hy with hy | hy
    · have hy' : y = x := hy
      subst hy'
      simp [compCx] at h1
      subst h1
      rw [F.hi _ (Nat.le_refl _)] at h3; cases h3
    · have hy' : y = (".0" : Str) := hy
      subst hy'
      have : (compCx cx scope.names x).slots.lookup (".0" : Str) = none := by
        show List.lookup _ ((x, _) :: cx.slots) = none
        rw [List.lookup_cons]
        have : ((".0" : Str) == x) = false := by simpa using fun z => ok.xdot z.symm
        rw [this]; exact ok.dot
      rw [this] at h1; cases h1
  · obtain ⟨k', e, hk⟩ := rel_lookup h2
    have hk' : k' = .free ∧ cx.names.lookup y = some .cell := by
      rcases hk with ⟨a, b, _⟩ | ⟨rfl, _⟩
      · exact ⟨a, b⟩
      · exact absurd rfl (ok.nocell _ (mem_of_lookup e))
    obtain ⟨rfl, hc⟩ := hk'
    have hyx : y ≠ x := by
      rintro rfl
      rw [ok.own] at e; cases e
    have h1' : cx.slots.lookup y = some k := by
      have : List.lookup y ((x, cx.slots.length) :: cx.slots) = some k := h1
      rw [List.lookup_cons] at this
      have hb : (y == x) = false := by simpa using hyx
      rw [hb] at this; exact this
    obtain ⟨c, o, ec, ho, hv⟩ := F.cell y k h1' hc
    obtain ⟨c', e'⟩ := cl_some (env := env) scope.names (mem_of_lookup e)
    have : c' = c := by
      have := up y c' e'
      rw [ec] at this; exact (Option.some.inj this).symm
    subst this
    exact ⟨c', o, e', ho, hv⟩
  · have lk : ∀ y k, (compCx cx scope.names x).slots.lookup y = some k → (y = x ∧ k = cx.slots.length) ∨ (y ≠ x ∧ cx.slots.lookup y = some k) := fun y k h => by
      have h' : List.lookup y ((x, cx.slots.length) :: cx.slots) = some k := h
      rw [List.lookup_cons] at h'
      cases hb : y == x with
      | true => rw [hb] at h'; exact .inl ⟨by simpa using hb, (Option.some.inj h').symm⟩
      | false => rw [hb] at h'; exact .inr ⟨by simpa using hb, h'⟩
    rcases lk y k h1 with ⟨a, b⟩ | ⟨a, b⟩ <;> rcases lk z k h2 with ⟨c, d⟩ | ⟨c, d⟩
    · rw [a, c]
    · have := F.bnd z k d; omega
    · have := F.bnd y k b; omega
    · exact F.inj y z k b d
  · have h' : List.lookup y ((x, cx.slots.length) :: cx.slots) = some k := h1
    rw [List.lookup_cons] at h'
    show k < cx.slots.length + 1
    cases hb : y == x with
    | true => rw [hb] at h'; have := Option.some.inj h'; omega
    | false => rw [hb] at h'; have := F.bnd y k h'; omega
end
end Mini

set_option autoImplicit false
set_option linter.unusedVariables false
namespace Mini
open PySem

section
variable {K : Ctx} {pg : Pg} {n : Nat} {cx : Cx} {A : Around}

/-- the block's loop -/
theorem comp_loop {cenv : Env} {cx' : Cx} {g₀ : G} {s₀ : Shared} {elt iter : Expr} {x : Str} {px pos : Pos} {ifs : List Expr} {scope : Scope} {k : Nat} {it : Value} {X : Addr → Prop} {vs : List V} {ok : H → Prop} {J : Nat → G → Heap → Prop} {m : M} {D : Addr}
    {T : V → H → (Bool → H → Prop) → Prop} {Fe : V → H → P → Prop} {Q : P} {RR : Result → Shared → Prop}
    (I : Itr K A (.Name x px) it X vs ok J) (hxl : cx'.names.lookup x = some .local) (hxs : cx'.slots.lookup x = some k) (hX : ∀ b, X b → s₀.heap.get? b = none) (hC : s₀.heap.get? cenv.locals = none) (hD : s₀.heap.get? D = none) (hXD : ¬ X D)
    (hT : ∀ v g σ s (L : Bool → H → Prop), Fr K cenv cx' (put m k v) g s.heap → St K g σ s.heap → T v σ L → wpAny (model K.prog K.w) A (forIn ifs true fun c r => if r = true then do let ok ← isTrue c cenv (eval c cenv); pure (ForInStep.yield ok) else pure (ForInStep.yield r)) (EndB K g s L) noE s)
    (hF : ∀ v g σ s (L : P), Fr K cenv cx' (put m k v) g s.heap → St K g σ s.heap → Fe v σ L → wpAny (model K.prog K.w) A (eval elt cenv) (EndE K g s L) noE s)
    (hRR : ∀ s' g' σ' acc ws kD ns, Go K g₀ s₀.heap g' σ' s'.heap → Sx s₀ s' → IsL s'.heap D ws kD → VRels K g' s'.heap acc ws.toList → (¬ g'.own D ∧ K.hB.get? D = none) → (¬ g'.own cenv.locals ∧ K.hB.get? cenv.locals = none) → s'.heap.Ns cenv.locals ns → alloc acc σ' Q → RR (.ok .next) s')
    {g : G} {σ : H} {s : Shared} {kD : Nat} (hJ : J 0 g s.heap) (F : Fr K cenv cx' m g s.heap) (go : Go K g₀ s₀.heap g σ s.heap) (sx : Sx s₀ s) (hl : IsL s.heap D #[] kD) (hDp : ¬ g.own D ∧ K.hB.get? D = none) (hW : compL T Fe ok vs [] σ Q) :
    codeAny (model K.prog K.w) A (.compLoop (.ListComp elt [⟨.Name x px, iter, ifs, 0⟩] scope pos) 0 it (.ref D) cenv) RR s := by
  refine codeAny_compLoop_tests (fun q s => ∃ i m₁ g σ acc ws kD, q = vs.length + 1 - i ∧ i ≤ vs.length ∧ J i g s.heap ∧ Fr K cenv cx' m₁ g s.heap ∧ (∀ v, put m₁ k v = put m k v) ∧ Go K g₀ s₀.heap g σ s.heap ∧ Sx s₀ s ∧ IsL s.heap D ws kD ∧ VRels K g s.heap acc ws.toList ∧ (¬ g.own D ∧ K.hB.get? D = none) ∧ compL T Fe ok (vs.drop i) acc σ Q)
    ?_ (vs.length + 1) ⟨0, m, g, σ, [], #[], kD, by simp, Nat.zero_le _, hJ, F, fun _ => rfl, go, sx, hl, trivial, hDp, by simpa using hW⟩
  rintro q s ⟨i, m₁, g, σ, acc, ws, kD, rfl, hi, hJ, F, hm, go, sx, hl, hr, hDp, hW⟩
  have pv := I.priv i g s.heap hJ
  have dis : ∀ b, X b → ¬ fpOf cenv b := fun b hb hf => by
    obtain ⟨_, _, o, e, ha⟩ := pv b hb
    exact fp_apart F b hf o e ha
  have hCl : cenv.locals ≠ D := by
    rintro rfl
    obtain ⟨_, ⟨o, es, ep, ho, hd, _⟩, _⟩ := F.loc
    rw [hl] at ho; cases ho; cases hd
  cases hv : vs[i]? with
  | none =>
    have hd : vs.drop i = [] := by
      rw [List.getElem?_eq_none_iff] at hv
      exact List.drop_of_length_le hv
    rw [hd] at hW
    refine wpAny_mono (I.stop i g σ s hJ go.st hW.1 hv) (fun r s₁ q => ?_) fun _ _ f => f.elim
    obtain ⟨rfl, S₁, hk, sx₁⟩ := q
    have F₁ := F.stay go.st hk dis fun b hb => (pv b hb).1
    have go₁ : Go K g₀ s₀.heap g σ s₁.heap := ((go.toX (X := fun _ => False)).halt S₁ hk hX).toGo fun _ f => f.elim
    obtain ⟨ns, hn, _⟩ := F₁.loc
    refine hRR s₁ g σ acc ws kD ns go₁ (sx.trans sx₁) (hk D _ hl hXD) ?_ hDp F₁.priv hn hW.2
    exact VRels.mono (fun _ _ e => e) (fun _ i => i) (fun b o i e => hk b o e fun z => (pv b z).1 (.inr i)) _ _ hr
  | some v =>
    have hlt := (List.getElem?_eq_some_iff.mp hv).1
    have hd : vs.drop i = v :: vs.drop (i + 1) := by
      rw [List.drop_eq_getElem_cons hlt]
      congr 1
      exact (List.getElem?_eq_some_iff.mp hv).2
    rw [hd] at hW
    obtain ⟨hok, hW⟩ := hW
    refine wpAny_mono (I.nextN ⟨_, _, rfl⟩ i g σ s v hJ go.st hok hv) (fun r s₁ q => ?_) fun _ _ f => f.elim
    obtain ⟨w, g₂, rfl, go₂, sx₂, rel₂, hJ₂⟩ := q
    have F₂ := F.goX go.st go₂ dis fun b hb => (pv b hb).1
    have go02 : Go K g₀ s₀.heap g₂ σ s₁.heap := ((go.toX (X := fun _ => False)).step go₂ fun b hb => .inr (hX b hb)).toGo fun _ f => f.elim
    have hl₂ : IsL s₁.heap D ws kD := go₂.keep D _ hl (fun z => hDp.1 (.inl z)) hXD
    have hr₂ := go₂.rels go.st (fun b hb => (pv b hb).1) hr
    have hDp₂ : ¬ g₂.own D ∧ K.hB.get? D = none := ⟨go₂.priv hl hDp.1, hDp.2⟩
    refine wpAny_assign_Name (store_local F₂ go₂.st hxl hxs rel₂ fun s₃ go₃ sx₃ F₃ => ?_)
    rw [hm] at F₃
    have go03 : Go K g₀ s₀.heap g₂ σ s₃.heap := ((go02.toX (X := fun _ => False)).step go₃ fun b hb => .inr (hb ▸ hC)).toGo fun _ f => f.elim
    have hl₃ : IsL s₃.heap D ws kD := go₃.keep D _ hl₂ (fun z => hDp₂.1 (.inl z)) (Ne.symm hCl)
    have hr₃ := go₃.rels go₂.st (fun b hb => hb ▸ F₂.priv.1) hr₂
    have hJ₃ : J (i + 1) g₂ s₃.heap := I.stay (i + 1) _ g₂ σ s₁.heap g₂ σ s₃.heap hJ₂ go₂.st go₃ fun b hb hx => dis b hx (.inl hb)
    have sx03 := (sx.trans sx₂).trans sx₃
    refine wpAny_mono (hT v g₂ σ s₃ _ F₃ go₃.st hW) (fun b s₄ q => ?_) fun _ _ f => f.elim
    obtain ⟨g₄, σ₄, go₄, sx₄, W₄⟩ := q
    have F₄ := F₃.go go₃.st go₄
    have hl₄ : IsL s₄.heap D ws kD := go₄.keep D _ hl₃ (fun z => hDp₂.1 (.inl z))
    have hr₄ := go₄.rels go₃.st hr₃
    have hDp₄ : ¬ g₄.own D ∧ K.hB.get? D = none := ⟨go₄.priv hl₃ hDp₂.1, hDp₂.2⟩
    have hJ₄ : J (i + 1) g₄ s₄.heap := I.stay (i + 1) (fun _ => False) g₂ σ s₃.heap g₄ σ₄ s₄.heap hJ₃ go₃.st go₄.toX fun b hb => hb.elim
    cases b with
    | false =>
      simp only [Bool.false_eq_true, if_false] at W₄ ⊢
      exact ⟨vs.length + 1 - (i + 1), by omega, i + 1, _, g₄, σ₄, acc, ws, kD, rfl, by omega, hJ₄, F₄, fun u => put_put m k v u, go03.trans go₄, sx03.trans sx₄, hl₄, hr₄, hDp₄, W₄⟩
    | true =>
      simp only [if_true] at W₄ ⊢
      refine wpAny_mono (hF v g₄ σ₄ s₄ _ F₄ go₄.st W₄) (fun y s₅ q => ?_) fun _ _ f => f.elim
      obtain ⟨r₅, g₅, σ₅, go₅, sx₅, rel₅, hz, W₅⟩ := q
      have F₅ := F₄.go go₄.st go₅
      have hl₅ : IsL s₅.heap D ws kD := go₅.keep D _ hl₄ (fun z => hDp₄.1 (.inl z))
      have hr₅ := go₅.rels go₄.st hr₄
      have hDp₅ : ¬ g₅.own D ∧ K.hB.get? D = none := ⟨go₅.priv hl₄ hDp₄.1, hDp₄.2⟩
      have hJ₅ : J (i + 1) g₅ s₅.heap := I.stay (i + 1) (fun _ => False) g₄ σ₄ s₄.heap g₅ σ₅ s₅.heap hJ₄ go₄.st go₅.toX fun b hb => hb.elim
      have go05 := (go03.trans go₄).trans go₅
      have hsz : ws.size ≤ sizeLine := by
        have := hr₅.length
        have h2 : ws.toList.length = ws.size := by simp
        rw [← lim_eq]; omega
      refine wpAny_list_append_plain (hsz := hsz) ⟨kD, hl₅⟩ fun h₆ hl₆ hs₆ => ?_
      obtain ⟨k₆, hl₆⟩ := hl₆
      have go₆ : GoX K (· = D) g₅ s₅.heap g₅ σ₅ h₆ := GoX.sameBut go₅.st hDp₅ hl₆ hs₆.extBut
      have go06 : Go K g₀ s₀.heap g₅ σ₅ h₆ := ((go05.toX (X := fun _ => False)).step go₆ fun b hb => .inr (hb ▸ hD)).toGo fun _ f => f.elim
      have hpD : ∀ b, b = D → ¬ g₅.own b := fun b hb => hb ▸ hDp₅.1
      have F₆ := F₅.goX go₅.st go₆ (fun b hb hf => by
        subst hb
        have := fp_apart F₅ b hf _ hl₅
        exact this ⟨fun _ _ e => (nomatch e), fun _ e => (nomatch e)⟩) hpD
      refine ⟨vs.length + 1 - (i + 1), by omega, i + 1, _, g₅, σ₅, acc ++ [r₅], ws.push y, k₆, rfl, by omega, ?_, F₆, fun u => put_put m k v u, go06, ⟨((sx03.trans sx₄).trans sx₅).1, ((sx03.trans sx₄).trans sx₅).2⟩, hl₆, ?_, hDp₅, W₅⟩
      · exact I.stay (i + 1) _ g₅ σ₅ s₅.heap g₅ σ₅ h₆ hJ₅ go₅.st go₆ fun b hb hx => hXD (hb ▸ hx)
      · rw [Array.toList_push]
        exact (go₆.rels go₅.st hpD hr₅).append ⟨go₆.rel go₅.st hpD rel₅, trivial⟩
end
end Mini

set_option autoImplicit false
set_option linter.unusedVariables false
namespace Mini
open PySem

section
variable {K : Ctx} {pg : Pg} {n : Nat} {cx : Cx}

theorem comp_all {env : Env} {A : Around} {m : M} {g : G} {σ : H} {s : Shared} {elt iter : Expr} {x : Str} {px pos : Pos} {ifs : List Expr} {scope : Scope} {src : Src} {T : V → H → (Bool → H → Prop) → Prop} {pe : E} {Q : P} {RR : Value → Addr → Result → Shared → Prop}
    (R : Room A n) (F : Fr K env cx m g s.heap) (S : St K g σ s.heap) (ok : CompOk cx scope x) (hsrc : SSrc K n cx iter src) (htg : tgtOk src (.Name x px)) (helt : SE K n (compCx cx scope.names x) elt pe)
    (hT : ∀ cenv v g σ s (L : Bool → H → Prop), Fr K cenv (compCx cx scope.names x) (put m cx.slots.length v) g s.heap → St K g σ s.heap → T v σ L → wpAny (model K.prog K.w) A (forIn ifs true fun c r => if r = true then do let ok ← isTrue c cenv (eval c cenv); pure (ForInStep.yield ok) else pure (ForInStep.yield r)) (EndB K g s L) noE s)
    (W : WSrc (callW K.Φ n) noX src m σ fun its okk σ => compL T (fun v σ Q => WE (callW K.Φ n) noX pe (put m cx.slots.length v) σ Q) okk its [] σ Q)
    (hRR : ∀ D C s' g' σ' acc ws kD ns, Go K g s.heap g' σ' s'.heap → Sx s s' → IsL s'.heap D ws kD → VRels K g' s'.heap acc ws.toList → s.heap.get? D = none → s.heap.get? C = none → C ≠ D → (¬ g'.own D ∧ K.hB.get? D = none) → (¬ g'.own C ∧ K.hB.get? C = none) → s'.heap.Ns C ns → alloc acc σ' Q → RR (.ref D) C (.ok .next) s') :
    wpAny (model K.prog K.w) A (eval iter env) (fun xv s₁ => wpAny (model K.prog K.w) A (pyIter xv) (fun it s₂ => wpAny (model K.prog K.w) A (newList []) (fun acc s₃ =>
      wpAny (model K.prog K.w) A (newFunctionEnv scope env.globals (clOf env scope.names) [] env.qual none .none (some env)) (fun cenv s₄ =>
        codeAny (model K.prog K.w) A (.compStart (.ListComp elt [⟨.Name x px, iter, ifs, 0⟩] scope pos) 0 it acc { cenv with scope := relabel scope env }) (RR acc cenv.locals) s₄) noE s₃) noE s₂) noE s₁) noE s := by
  refine wpAny_mono (hsrc env A m g σ s (.Name x px) _ R F S htg W) (fun xv s₁ q => wpAny_mono q (fun it s₂ q => ?_) fun _ _ f => f) fun _ _ f => f
  obtain ⟨g₂, σ₂, vs, okk, X, J, go₂, sx₂, I, hJ, hX, W₂⟩ := q
  refine wpAny_newObj_type (wpAny_newFunctionEnv ok.nocell (by intro y hy; simp at hy) (fun h₁ hns₁ hsb₁ => ?_) ok.kind)
  dsimp only at hns₁ hsb₁ ⊢
  generalize hH2 : s₂.heap.push { cls := .type "list", dict := none, data := .seq ([] : List Value).toArray } = H2 at hns₁ hsb₁ ⊢
  have hC : H2.objs.size = s₂.heap.objs.size + 1 := by rw [← hH2, Heap.size_push]
  have nD : s₂.heap.get? s₂.heap.objs.size = none := none_at_size _
  have nC : s₂.heap.get? H2.objs.size = none := none_above (by rw [hC]; exact Nat.le_succ _)
  have hCD : H2.objs.size ≠ s₂.heap.objs.size := by rw [hC]; exact ne_ad (.inr (Nat.lt_succ_self _))
  have old : ∀ b o, s₂.heap.get? b = some o → h₁.get? b = some o := fun b o e => by
    refine hsb₁.extBut b o ?_ (Heap.get?_push_of_some _ (hH2 ▸ Heap.get?_push_of_some _ e))
    rintro rfl
    rw [nC] at e; cases e
  have hl : IsL h₁ s₂.heap.objs.size #[] 0 := hsb₁.extBut _ _ (Ne.symm hCD) (Heap.get?_push_of_some _ (hH2 ▸ Heap.get?_push_size _ rfl))
  have fC := fresh_not go₂.st nC
  have fD := fresh_not go₂.st nD
  have go₃ : Go K g₂ s₂.heap g₂ σ₂ h₁ := Go.change go₂.st old
  have F₃ := (F.go S go₂).go go₂.st go₃
  have Fc : Fr K (compEnvC scope (clOf env scope.names) H2.objs.size env) (compCx cx scope.names x) m g₂ h₁ := comp_frame (h' := h₁) (g₁ := g₂) (σ := σ₂) F₃ ok hns₁ fC
  have hxl : (compCx cx scope.names x).names.lookup x = some .local := by
    have e := relabel_eq F scope
    show List.lookup x (relN cx.names scope.names) = _
    rw [← e]
    exact lookup_relabel_local ok.own
  have hxs : (compCx cx scope.names x).slots.lookup x = some cx.slots.length := by simp [compCx]
  have hXD : ¬ X s₂.heap.objs.size := fun z => by
    obtain ⟨_, _, o, e, _⟩ := I.priv 0 g₂ s₂.heap hJ _ z
    rw [nD] at e; cases e
  have hXC : ¬ X H2.objs.size := fun z => by
    obtain ⟨_, _, o, e, _⟩ := I.priv 0 g₂ s₂.heap hJ _ z
    rw [nC] at e; cases e
  have hJ₃ : J 0 g₂ h₁ := I.stay 0 (fun _ => False) g₂ σ₂ s₂.heap g₂ σ₂ h₁ hJ go₂.st go₃.toX fun b hb => hb.elim
  have loop : ∀ s₃ : Shared, s₃ = { s₂ with heap := h₁, toks := s₂.toks + ([] : List (Str × Value)).length } →
      codeAny (model K.prog K.w) A (.compLoop (.ListComp elt [⟨.Name x px, iter, ifs, 0⟩] scope pos) 0 it (.ref s₂.heap.objs.size) (compEnvC scope (clOf env scope.names) H2.objs.size env)) (RR (.ref s₂.heap.objs.size) H2.objs.size) s₃ := by
    rintro s₃ rfl
    refine comp_loop (s₀ := s) (g₀ := g) (cenv := compEnvC scope (clOf env scope.names) H2.objs.size env) (m := m) (T := T) I hxl hxs hX (go_none go₂ nC) (go_none go₂ nD) hXD (fun v g σ s L F' S' W' => hT _ v g σ s L F' S' W') (fun v g σ s L F' S' W' => helt _ A _ g σ s L R F' S' W') ?_
      hJ₃ Fc (go₂.trans go₃) ⟨sx₂.1, sx₂.2⟩ hl fD W₂
    intro s' g' σ' acc ws kD ns a1 a2 a3 a4 a5 a6 a7 a8
    exact hRR _ _ s' g' σ' acc ws kD ns a1 a2 a3 a4 (go_none go₂ nD) (go_none go₂ nC) hCD a5 a6 a7 a8
  exact codeAny_compStart_list (loop _ rfl) (wpAny_mono (I.self 0 g₂ _ (fun it' s' => it' = it ∧ s' = { s₂ with heap := h₁, toks := s₂.toks + ([] : List (Str × Value)).length }) hJ₃ ⟨rfl, rfl⟩) (fun it' s' q => by
    obtain ⟨rfl, rfl⟩ := q
    exact loop _ rfl) fun _ _ f => f.elim)

theorem comp_end {g g' : G} {σ' : H} {s s' : Shared} {D C : Addr} {acc : List V} {ws : Array Value} {kD : Nat} {Q : P} {h' : Heap} {tk : Nat} (go : Go K g s.heap g' σ' s'.heap) (sx : Sx s s') (hl : IsL s'.heap D ws kD) (hr : VRels K g' s'.heap acc ws.toList) (hD : s.heap.get? D = none) (hC : s.heap.get? C = none) (hCD : C ≠ D)
    (pD : ¬ g'.own D ∧ K.hB.get? D = none) (pC : ¬ g'.own C ∧ K.hB.get? C = none) (hs : Heap.SameBut C s'.heap h') (q : alloc acc σ' Q) : EndE K g s Q (.ref D) { s' with heap := h' } := by
  have hk : ∀ b o, s'.heap.get? b = some o → ¬ (b = C) → h'.get? b = some o := fun b o e n => hs.extBut b o n e
  have S' : St K g' σ' h' := go.st.change fun b o e z => hk b o e (by
    rintro rfl
    rcases z with z | ⟨o', z⟩
    · exact pC.1 z
    · rw [pC.2] at z; cases z)
  have go' : GoX K (fun _ => False) g s.heap g' σ' h' := (go.toX).halt S' hk fun b hb => hb ▸ hC
  have hr' : VRels K g' h' acc ws.toList := VRels.mono (fun _ _ e => e) (fun _ i => i) (fun b o i e => hk b o e fun z => pC.1 (z ▸ .inr i)) _ _ hr
  have fin := go'.gainList hD pD (hk D _ hl (Ne.symm hCD)) hr' q.1
  refine ⟨.ref σ'.length, _, _, fin.toGo fun _ f => f.elim, ⟨sx.1, sx.2⟩, ⟨D, ?_, rfl⟩, q.2⟩
  show (g'.ρ ++ [D])[σ'.length]? = some D
  rw [← go.st.len]; simp

theorem hnames_of {scope : Scope} {x : Str} (ok : CompOk cx scope x) : ∀ y ∈ scope.names, y.2 = .local → scope.names.lookup y.1 = some .local := fun y hy hl => (ok.loc y hy hl).2
theorem cells_of {env : Env} {m : M} {g : G} {h : Heap} {scope : Scope} {x : Str} (F : Fr K env cx m g h) (ok : CompOk cx scope x) : ∀ p ∈ scope.names, p.2 = .free → ∃ c, env.cells.lookup p.1 = some c := fun p hp hf => by
  obtain ⟨h1, k, h2⟩ := ok.free p hp hf
  obtain ⟨c, o, e, _⟩ := F.cell p.1 k h2 h1
  exact ⟨c, e⟩

/-- how a block's tests are compiled -/
inductive Tests (K : Ctx) (n : Nat) (cx : Cx) (src : Src) (k : Nat) (pe : E) : List Expr → E → Prop where
  | none : Tests K n cx src k pe [] (.comp pe k src)
  | one {t : Expr} {pt : E} (h : STr K n cx t pt) : Tests K n cx src k pe [t] (.compIf pe k src pt)

theorem tests_go {env : Env} {A : Around} {m : M} {g : G} {σ : H} {s : Shared} {iter elt : Expr} {x : Str} {px pos : Pos} {ifs : List Expr} {scope : Scope} {src : Src} {pe e : E} {Q : P} {RR : Value → Addr → Result → Shared → Prop}
    (R : Room A n) (F : Fr K env cx m g s.heap) (S : St K g σ s.heap) (ok : CompOk cx scope x) (hsrc : SSrc K n cx iter src) (htg : tgtOk src (.Name x px)) (helt : SE K n (compCx cx scope.names x) elt pe) (ht : Tests K n (compCx cx scope.names x) src cx.slots.length pe ifs e)
    (W : WE (callW K.Φ n) noX e m σ Q)
    (hRR : ∀ D C s' g' σ' acc ws kD ns, Go K g s.heap g' σ' s'.heap → Sx s s' → IsL s'.heap D ws kD → VRels K g' s'.heap acc ws.toList → s.heap.get? D = none → s.heap.get? C = none → C ≠ D → (¬ g'.own D ∧ K.hB.get? D = none) → (¬ g'.own C ∧ K.hB.get? C = none) → s'.heap.Ns C ns → alloc acc σ' Q → RR (.ref D) C (.ok .next) s') :
    wpAny (model K.prog K.w) A (eval iter env) (fun xv s₁ => wpAny (model K.prog K.w) A (pyIter xv) (fun it s₂ => wpAny (model K.prog K.w) A (newList []) (fun acc s₃ =>
      wpAny (model K.prog K.w) A (newFunctionEnv scope env.globals (clOf env scope.names) [] env.qual none .none (some env)) (fun cenv s₄ =>
        codeAny (model K.prog K.w) A (.compStart (.ListComp elt [⟨.Name x px, iter, ifs, 0⟩] scope pos) 0 it acc { cenv with scope := relabel scope env }) (RR acc cenv.locals) s₄) noE s₃) noE s₂) noE s₁) noE s := by
  cases ht with
  | none => exact comp_all (T := fun _ σ L => L true σ) R F S ok hsrc htg helt (fun cenv v g σ s L F' S' W' => wpAny_tests_nil ⟨g, σ, Go.refl S', Sx.refl s, W'⟩) W hRR
  | one h => exact comp_all R F S ok hsrc htg helt (fun cenv v g σ s L F' S' W' => wpAny_tests_one (h cenv A _ g σ s L R F' S' W')) W hRR

theorem se_comp {iter elt : Expr} {x : Str} {px pos : Pos} {ifs : List Expr} {scope : Scope} {src : Src} {pe e : E} (ok : CompOk cx scope x) (hset : ∀ env v, foldedSetIterable iter env v = pure v) (hsrc : SSrc K n cx iter src) (htg : tgtOk src (.Name x px)) (helt : SE K n (compCx cx scope.names x) elt pe)
    (ht : Tests K n (compCx cx scope.names x) src cx.slots.length pe ifs e) : SE K n cx (.ListComp elt [⟨.Name x px, iter, ifs, 0⟩] scope pos) e := fun env A m g σ s Q R F S W => by
  rw [eval_ListComp]
  refine wpAny_comprehension_free (use := none) rfl (hset env) (closure_eq (cells_of F ok)) ok.kind (hnames_of ok) ?_
  refine tests_go (RR := fun acc C => compPost (model K.prog K.w) A noE none (EndE K g s Q) acc C) R F S ok hsrc htg helt ht W ?_
  intro D C s' g' σ' acc ws kD ns a1 a2 a3 a4 a5 a6 a7 a8 a9 a10 a11
  exact ⟨ns, a10, fun h' hs' => comp_end (tk := 0) a1 a2 a3 a4 a5 a6 a7 a8 a9 hs' a11⟩

/-- a comprehension stored by a plain name of its own line: the stores are exchanged -/
theorem ss_comp {iter elt : Expr} {x y : Str} {px py pos spos : Pos} {ifs : List Expr} {scope : Scope} {src : Src} {pe e : E} {k : Nat} (ok : CompOk cx scope x) (hset : ∀ env v, foldedSetIterable iter env v = pure v) (hsrc : SSrc K n cx iter src) (htg : tgtOk src (.Name x px)) (helt : SE K n (compCx cx scope.names x) elt pe)
    (ht : Tests K n (compCx cx scope.names x) src cx.slots.length pe ifs e) (hy : cx.names.lookup y = some .local) (hk : cx.slots.lookup y = some k)
    {env : Env} {A : Around} {m : M} {g : G} {σ : H} {s : Shared} {N : M → H → Prop} {Rt : P} (R : Room A n) (F : Fr K env cx m g s.heap) (S : St K g σ s.heap) (hsw : swapsWith (.ListComp elt [⟨.Name x px, iter, ifs, 0⟩] scope pos) (some (.Name y py)) spos.line env = pure true)
    (W : WE (callW K.Φ n) noX e m σ fun v σ => N (put m k v) σ) : wpAny (model K.prog K.w) A (exec (.Assign [.Name y py] (.ListComp elt [⟨.Name x px, iter, ifs, 0⟩] scope pos) spos) env) (EndS K env cx g s N Rt) noE s := by
  rw [exec_Assign_Name_used _ _ _ _ hsw]
  refine wpAny_bind (wpAny_standAt (wpAny_bind ?_))
  show wpAny _ A (do let _ ← comprehension (.ListComp elt [⟨.Name x px, iter, ifs, 0⟩] scope pos) scope env _ (newList []) false (eval iter env) (some (assign (.Name y py) env))) _ _ s
  refine wpAny_bind (wpAny_mono (wpAny_comprehension_free (use := some (assign (.Name y py) env)) (Q := fun _ s' => EndS K env cx g s N Rt .next s') rfl (hset env) (closure_eq (cells_of F ok)) ok.kind (hnames_of ok) ?_) (fun _ s' hq => wpAny_pure (wpAny_pure hq)) fun _ _ e => e)
  refine tests_go (RR := fun acc C => compPost (model K.prog K.w) A noE (some (assign (.Name y py) env)) (fun _ s' => EndS K env cx g s N Rt .next s') acc C) R F S ok hsrc htg helt ht W ?_
  intro D C s' g' σ' acc ws kD ns a1 a2 a3 a4 a5 a6 a7 a8 a9 a10 a11
  show wpAny _ A (assign (.Name y py) env (.ref D)) _ _ _
  have fin := (a1.toX (X := fun _ => False)).gainList a5 a8 a3 a4 a11.1
  have finG : Go K g s.heap ⟨g'.ρ ++ [D], g'.ι⟩ (σ' ++ [acc]) s'.heap := fin.toGo fun _ f => f.elim
  have F' := F.go S finG
  have hrel : VRel K ⟨g'.ρ ++ [D], g'.ι⟩ s'.heap (.ref σ'.length) (.ref D) := ⟨D, by show (g'.ρ ++ [D])[σ'.length]? = some D; rw [← a1.st.len]; simp, rfl⟩
  refine wpAny_assign_Name (store_local F' finG.st hy hk hrel fun s₂ go₂ sx₂ F₂ => ?_)
  have hLC : C ≠ env.locals := by
    rintro rfl
    obtain ⟨_, ⟨o, es, ep, ho, _⟩, _⟩ := F.loc
    rw [a6] at ho; cases ho
  obtain ⟨oC, esC, epC, hoC, hrC⟩ := a10
  have hC2 : s₂.heap.get? C = some oC := go₂.keep C _ hoC (fun z => by
    rcases List.mem_append.mp z with z | z
    · exact a9.1 (.inl z)
    · simp at z; exact a7 z) hLC
  refine ⟨ns, ⟨oC, esC, epC, hC2, hrC⟩, fun h' hs' => ?_⟩
  have pC : ¬ (⟨g'.ρ ++ [D], g'.ι⟩ : G).own C := fun z => by
    rcases z with z | z
    · rcases List.mem_append.mp z with z | z
      · exact a9.1 (.inl z)
      · simp at z; exact a7 z
    · exact a9.1 (.inr z)
  have hkp : ∀ b o, s₂.heap.get? b = some o → ¬ (b = C) → h'.get? b = some o := fun b o e n => hs'.extBut b o n e
  have S' : St K ⟨g'.ρ ++ [D], g'.ι⟩ (σ' ++ [acc]) h' := go₂.st.change fun b o e z => hkp b o e (by
    rintro rfl
    rcases z with z | ⟨o', z⟩
    · exact pC z
    · rw [a9.2] at z; cases z)
  have go3 : GoX K (fpOf env) g s.heap ⟨g'.ρ ++ [D], g'.ι⟩ (σ' ++ [acc]) s₂.heap := (finG.toX).step go₂ fun b hb => .inl (.inl hb)
  have go4 := go3.halt S' hkp fun b hb => hb ▸ a6
  have F₃ := F₂.stay go₂.st hkp (fun b hb hf => by
    subst hb
    rcases hf with hf | ⟨z, hf⟩
    · exact hLC hf
    · obtain ⟨_, _, v, o, ho, _⟩ := F.privC z b hf
      rw [a6] at ho; cases ho) fun b hb => hb ▸ pC
  exact ⟨_, _, _, go4, ⟨(a2.trans sx₂).1, (a2.trans sx₂).2⟩, F₃, a11.2⟩
end
end Mini

set_option autoImplicit false
set_option linter.unusedVariables false
namespace Mini
open PySem

structure C3 where
  v : Option E
  t : Option E
  s : Option Src

noncomputable def C3.no : C3 := ⟨none, none, none⟩
noncomputable def C3.ofV (v : Option E) : C3 := ⟨v, none, v.map .list⟩
noncomputable def C3.ofVT (v : Option E) : C3 := ⟨v, v, v.map .list⟩

noncomputable def cConst : Const → C3
  | .none => .ofV (some .none)
  | .bool b => .ofVT (some (.bool b))
  | .int i => .ofV (some (.int i))
  | .str x => .ofV ((words.idxOf? x).map .str)
  | _ => .no

noncomputable def isG (cx : Cx) (x : Str) : Bool := cx.names.lookup x == some .globalImplicit && !(x == ("__debug__" : Str))
noncomputable def cName (pg : Pg) (cx : Cx) (x : Str) : C3 :=
  if x == ("__debug__" : Str) then .no else match slotOf cx x with
    | some k => .ofVT (some (.var k))
    | none => if cx.names.lookup x == some .globalImplicit then .ofV ((pg.consts.lookup x).map .int) else .no

noncomputable def foldB (f : E → E → E) : List (Option E) → Option E
  | [] => none
  | [a] => a
  | a :: r => match a, foldB f r with
    | some x, some y => some (f x y)
    | _, _ => none
noncomputable def allV : List C3 → Option (List E)
  | [] => some []
  | c :: cs => match c.v, allV cs with
    | some a, some as => some (a :: as)
    | _, _ => none

noncomputable def kdT (y : Str) : Option Kd := match blts.lookup y with
  | some (.type "int") => some .int
  | some (.type "bool") => some .bool
  | some (.type "list") => some .list
  | some (.type "tuple") => some .tup
  | some (.type "str") => some .str
  | _ => none

/-- a builtin by its name, upon what its arguments are -/
noncomputable def cBlt (x : Str) : List C3 → C3
  | [c] => match blts.lookup x with
    | some (.builtin "len") => .ofV (c.v.map (.b1 .len))
    | some (.type "list") => match c.s with
      | some (.range a) => .ofV (some (.listRange a))
      | _ => .ofV (c.v.map (.b1 .list))
    | some (.type "int") => .ofV (c.v.map (.b1 .intOf))
    | some (.type "range") => ⟨none, none, c.v.map .range⟩
    | some (.type "enumerate") => ⟨none, none, c.v.map .enum⟩
    | _ => .no
  | [c, d] => match blts.lookup x with
    | some (.builtin "max") => .ofV (match c.v, d.v with | some a, some b => some (.max2 a b) | _, _ => none)
    | some (.type "zip") => ⟨none, none, match c.v, d.v with | some a, some b => some (.zip a b) | _, _ => none⟩
    | _ => .no
  | _ => .no

noncomputable def cMeth (name : Str) (o : Option E) : List C3 → C3
  | [] => if name = "reverse" then .ofV (o.map (.m0 .reverse)) else if name = "clear" then .ofV (o.map (.m0 .clear)) else .no
  | [c] => match o, c.v with
    | some a, some b => if name = "append" then .ofV (some (.m1 .append a b)) else if name = "pop" then .ofV (some (.m1 .pop a b)) else if name = "count" then .ofV (some (.m1 .count a b)) else if name = "index" then .ofV (some (.m1 .index a b)) else .no
    | _, _ => .no
  | _ => .no

noncomputable def srcN : Option Src → Option Src
  | some (.list a) => some (.list a)
  | some (.range a) => some (.range a)
  | _ => none

noncomputable def isSlice : Expr → Bool
  | .Slice .. => true
  | _ => false
noncomputable def name2 : List Expr → Option Str
  | [_, .Name y _] => some y
  | _ => none
noncomputable def firstV : List C3 → Option E
  | c :: _ => c.v
  | [] => none
noncomputable def isiOf (x : Str) (as : List Expr) : Option Str := match blts.lookup x with
  | some (.builtin "isinstance") => name2 as
  | _ => none
noncomputable def cCall (pg : Pg) (cx : Cx) (as : List Expr) (pos : Pos) (o : Option E) (cs : List C3) : Expr → C3
  | .Name x _ => if isG cx x then (match pg.fns.lookup x with
      | some i => .ofVT ((allV cs).map (.call i))
      | none => if x = pg.hall ∧ x ≠ "" then (if as.isEmpty then .no else .ofV ((allV cs).map .hall)) else match isiOf x as with
        | some y => if isG cx y then .ofVT (match firstV cs, kdT y with | some a, some k => some (.isinst a k) | _, _ => none) else .no
        | none => cBlt x cs) else .no
  | .Attribute ob name apos => if plainBase ob && apos.endLine == pos.line then cMeth name o cs else .no
  | _ => .no

mutual
noncomputable def cB (pg : Pg) : Cx → Expr → C3
  | _, .Constant c _ _ => cConst c
  | cx, .Name x _ => cName pg cx x
  | cx, .BinOp l op r _ => .ofV (match opOf op, (cB pg cx l).v, (cB pg cx r).v with | some o, some a, some b => some (.bin o a b) | _, _, _ => none)
  | cx, .UnaryOp .Not e _ => ⟨(cB pg cx e).v.map .not, (cB pg cx e).t.map .not, none⟩
  | cx, .UnaryOp .USub e _ => .ofV ((cB pg cx e).v.map .neg)
  | cx, .BoolOp .And vs _ => ⟨foldB .and ((cBs pg cx vs).map C3.v), foldB .and ((cBs pg cx vs).map C3.t), none⟩
  | cx, .BoolOp .Or vs _ => ⟨foldB .or ((cBs pg cx vs).map C3.v), foldB .or ((cBs pg cx vs).map C3.t), none⟩
  | cx, .Compare l [op] [r] _ => match behindInMarks op r, cmpOf op, (cB pg cx l).v, (cB pg cx r).v with
      | false, some o, some a, some b => ⟨some (.cmp o a b), some (.cmp o a b), none⟩
      | _, _, _, _ => .no
  | cx, .Compare l [o₁, o₂] [r₁, r₂] _ => match lastMarks [o₁, o₂] [r₁, r₂], cmpOf o₁, cmpOf o₂, (cB pg cx l).v, (cB pg cx r₁).v, (cB pg cx r₂).v with
      | false, some p₁, some p₂, some a, some b, some c => ⟨none, some (.cmp2 p₁ a b p₂ c), none⟩
      | _, _, _, _, _, _ => .no
  | cx, .IfExp t a b _ => .ofV (match (cB pg cx t).t, (cB pg cx a).v, (cB pg cx b).v with | some x, some y, some z => some (.ite x y z) | _, _, _ => none)
  | cx, .Call (.Attribute o name apos) as [] pos => if as.any isStar then .no else cCall pg cx as pos (cB pg cx o).v (cBs pg cx as) (.Attribute o name apos)
  | cx, .Call (.Name x p) as [] pos => if as.any isStar then .no else cCall pg cx as pos none (cBs pg cx as) (.Name x p)
  | cx, .Attribute v x _ => if plainBase v then .ofV (match (cB pg cx v).v, pg.fields.idxOf? x with | some a, some k => some (.attr a k) | _, _ => none) else .no
  | cx, .Subscript v (.Slice (some l) none none _) _ => .ofV (match (cB pg cx v).v, (cB pg cx l).v with | some a, some b => some (.from_ a b) | _, _ => none)
  | cx, .Subscript v (.Slice none (some u) none _) _ => .ofV (match (cB pg cx v).v, (cB pg cx u).v with | some a, some b => some (.upto a b) | _, _ => none)
  | cx, .Subscript v i _ => if isSlice i then .no else .ofV (match (cB pg cx v).v, (cB pg cx i).v with | some a, some b => some (.idx a b) | _, _ => none)
  | cx, .List es _ => if es.any isStar then .no else .ofV ((allV (cBs pg cx es)).map .disp)
  | cx, .Tuple es _ _ => if es.any isStar || !(decide (es.length ≤ 100)) then .no else .ofV ((allV (cBs pg cx es)).map .tup)
  | cx, .ListComp elt [⟨.Name x _, iter, [], 0⟩] scope _ => if compOk cx scope x then (match srcN (cB pg cx iter).s, (cB pg (compCx cx scope.names x) elt).v with
        | some src, some pe => .ofV (some (.comp pe cx.slots.length src))
        | _, _ => .no) else .no
  | cx, .ListComp elt [⟨.Name x _, iter, [t], 0⟩] scope _ => if compOk cx scope x then (match srcN (cB pg cx iter).s, (cB pg (compCx cx scope.names x) elt).v, (cB pg (compCx cx scope.names x) t).t with
        | some src, some pe, some pt => .ofV (some (.compIf pe cx.slots.length src pt))
        | _, _, _ => .no) else .no
  | _, _ => .no
noncomputable def cBs (pg : Pg) : Cx → List Expr → List C3
  | _, [] => []
  | cx, e :: es => cB pg cx e :: cBs pg cx es
end

/-- no comprehension whose stores are exchanged -/
noncomputable def isComp : Expr → Bool
  | .ListComp .. => true
  | .SetComp .. => true
  | .DictComp .. => true
  | _ => false
noncomputable def isTup : Expr → Bool
  | .Tuple .. => true
  | _ => false
/-- whether the stores are exchanged -/
noncomputable def swaps (cx : Cx) (x : Str) (px : Pos) : Expr → Bool
  | .ListComp _ _ s p => cx.names.lookup x == some .local && px.line == p.line && !(s.names.any fun q => q.1 == x && (q.2 == .local || q.2 == .cell))
  | _ => false

/-- a comprehension is stored into a cell: nothing is exchanged -/
noncomputable def cellComp (cx : Cx) (x : Str) : Expr → Bool
  | .ListComp .. => cx.names.lookup x == some .cell
  | _ => false

mutual
noncomputable def cS (pg : Pg) (cx : Cx) : Stmt → Option S
  | .Assign [.Name x px] v _ => match slotOf cx x, (cB pg cx v).v with
    | some k, some e => if isComp v && !(swaps cx x px v) && !(cellComp cx x v) then none else some (.set k e)
    | _, _ => none
  | .Assign [.Tuple es k p] v _ => match cTgt cx (.Tuple es k p), (cB pg cx v).v with
    | some ks, some e => if isComp v || isTup v then none else some (.unpack ks e)
    | _, _ => none
  | .Assign [.Subscript o i _] v _ => if isSlice i || isComp v then none else match (cB pg cx o).v, (cB pg cx i).v, (cB pg cx v).v with
    | some a, some b, some e => some (.put a b e)
    | _, _, _ => none
  | .Expr e _ => if isComp e then none else (cB pg cx e).v.map .expr
  | .If t a b _ => match (cB pg cx t).t, cSs pg cx a, cSs pg cx b with
    | some x, some y, some z => some (.ite x y z)
    | _, _, _ => none
  | .While t a [] _ => match (cB pg cx t).t, cSs pg cx a with
    | some x, some y => some (.while x y)
    | _, _ => none
  | .For t i a [] _ => match cTgt cx t, (cB pg cx i).s, cSs pg cx a with
    | some ks, some src, some y => (match src, t with
      | .list _, .Name .. | .range _, .Name .. | .enum _, .Tuple .. | .zip _ _, .Tuple .. => some (.for ks src y)
      | _, _ => none)
    | _, _, _ => none
  | .Return (some e) _ => (cB pg cx e).v.map .ret
  | .Raise _ _ _ => some (.raise 0)
  | _ => none
noncomputable def cSs (pg : Pg) (cx : Cx) : List Stmt → Option (List S)
  | [] => some []
  | st :: r => match cS pg cx st, cSs pg cx r with
    | some a, some b => some (a :: b)
    | _, _ => none
end
noncomputable def slotsOf (names : List (Str × NameKind)) : List (Str × Nat) := ((names.filter fun p => p.2 == .local || p.2 == .cell).map (·.1)).zipIdx
noncomputable def cFn (pg : Pg) (ps : Arguments) (sc : Scope) (body : List Stmt) : Option Fn :=
  let slots := slotsOf sc.names
  if sc.kind == .function && !sc.isCoroutine && !sc.isGenerator && ps.posonlyargs.isEmpty && ps.vararg.isNone && ps.kwonlyargs.isEmpty && ps.kwarg.isNone && ps.defaults.isEmpty &&
    (slots.map (·.1)).take ps.args.length == ps.args.map (·.arg) && decide (slots.map (·.1)).Nodup && ps.args.all (fun a => sc.names.lookup a.arg == some .local || sc.names.lookup a.arg == some .cell) then
    (cSs pg ⟨sc.names, slots⟩ body).map fun b => ⟨ps.args.length, slots.length + 3, b⟩
  else none
end Mini

set_option autoImplicit false
set_option linter.unusedVariables false
namespace Mini
open PySem

structure Ok3 (K : Ctx) (n : Nat) (cx : Cx) (e : Expr) (c : C3) : Prop where
  v : ∀ p, c.v = some p → SE K n cx e p
  t : ∀ p, c.t = some p → STr K n cx e p
  s : ∀ p, c.s = some p → SSrc K n cx e p

section
variable {K : Ctx} {pg : Pg} {n : Nat} {cx : Cx}

theorem Ok3.no {e : Expr} : Ok3 K n cx e .no := ⟨(by intro _ h; cases h), (by intro _ h; cases h), (by intro _ h; cases h)⟩
theorem src_of {e : Expr} {v : Option E} (h : ∀ p, v = some p → SE K n cx e p) : ∀ p, v.map .list = some p → SSrc K n cx e p := fun p hp => by
  simp only [Option.map_eq_some_iff] at hp
  obtain ⟨q, hq, rfl⟩ := hp
  exact src_list (h q hq)
theorem Ok3.ofV {e : Expr} {v : Option E} (h : ∀ p, v = some p → SE K n cx e p) : Ok3 K n cx e (.ofV v) := ⟨h, (by intro _ h; cases h), src_of h⟩
theorem Ok3.ofVT {e : Expr} {v : Option E} (h : ∀ p, v = some p → SE K n cx e p) (ht : ∀ p, v = some p → STr K n cx e p) : Ok3 K n cx e (.ofVT v) := ⟨h, ht, src_of h⟩
theorem Ok3.ofS {e : Expr} {s : Option Src} (h : ∀ p, s = some p → SSrc K n cx e p) : Ok3 K n cx e ⟨none, none, s⟩ := ⟨(by intro _ h; cases h), (by intro _ h; cases h), h⟩
theorem Ok3.ofS' {e : Expr} {v : Option E} {t : Option E} (h : ∀ p, v = some p → SE K n cx e p) (ht : ∀ p, t = some p → STr K n cx e p) : Ok3 K n cx e ⟨v, t, none⟩ := ⟨h, ht, (by intro _ h; cases h)⟩

inductive All2 {α β : Type} (R : α → β → Prop) : List α → List β → Prop where
  | nil : All2 R [] []
  | cons {a : α} {b : β} {as : List α} {bs : List β} : R a b → All2 R as bs → All2 R (a :: as) (b :: bs)

theorem isG_ok {x : Str} (h : isG cx x = true) : cx.names.lookup x = some .globalImplicit ∧ (x == ("__debug__" : Str)) = false := by
  simpa [isG] using h

theorem const_ok {c : Const} {k : Nat} {pos : Pos} : Ok3 K n cx (.Constant c k pos) (cConst c) := by
  unfold cConst
  split
  · exact .ofV fun p h => by cases h; exact se_none
  · exact .ofVT (fun p h => by cases h; exact se_bool) fun p h => by cases h; exact st_val se_bool (fun _ _ => rfl) fun c x m σ k W => W
  · exact .ofV fun p h => by cases h; exact se_int
  · rename_i x
    exact .ofV fun p h => by
      simp only [Option.map_eq_some_iff] at h
      obtain ⟨j, hj, rfl⟩ := h
      refine se_str ?_
      rw [List.idxOf?_eq_some_iff] at hj
      obtain ⟨h1, h2, h3⟩ := hj
      simp [h1, h2]
  · exact .no
theorem name_ok (G₀ : Gr K pg) {x : Str} {pos : Pos} : Ok3 K n cx (.Name x pos) (cName pg cx x) := by
  unfold cName
  split
  · exact .no
  · rename_i hd
    simp only [Bool.not_eq_true] at hd
    split
    · rename_i k hk
      exact .ofVT (fun p h => by cases h; exact se_var hk hd) fun p h => by cases h; exact st_val (se_var hk hd) (fun _ _ => rfl) fun c x m σ k W => W
    · split
      · rename_i hg
        exact .ofV fun p h => by
          simp only [Option.map_eq_some_iff] at h
          obtain ⟨j, hj, rfl⟩ := h
          exact se_const G₀ (by simpa using hg) hd hj
      · exact .no

theorem foldB_some {f : E → E → E} {a : Option E} {b : Option E} {r : List (Option E)} {p : E} (h : foldB f (a :: b :: r) = some p) : ∃ x y, a = some x ∧ foldB f (b :: r) = some y ∧ p = f x y := by
  simp only [foldB] at h
  split at h
  · rename_i x y hy; cases h; exact ⟨x, y, rfl, hy, rfl⟩
  · cases h

theorem and_v {pos : Pos} : ∀ {es : List Expr} {cs : List (Option E)} {p : E}, (All2 (fun e c => ∀ p, c = some p → SE K n cx e p) es cs) → foldB .and cs = some p → SE K n cx (.BoolOp .And es pos) p := by
  intro es cs p hf hp env A m g σ s Q R F S W
  rw [arm_eval_BoolOp]
  induction hf generalizing p g σ s with
  | nil => cases hp
  | @cons e c es cs h1 h2 ih =>
    cases h2 with
    | nil =>
      simp only [foldB] at hp
      exact h1 p hp env A m g σ s Q R F S W
    | @cons e' c' es' cs' h1' h2' =>
      obtain ⟨x, y, rfl, hy, rfl⟩ := foldB_some hp
      rw [arm_evalEach_cons, arm_evalEach_cons]
      refine bool_step (h1 x rfl env A m g σ s _ R F S W) fun b g₁ σ₁ s₁ go sx hk => ?_
      cases b with
      | false => exact wpAny_pure ⟨.bool false, g₁, σ₁, go, sx, rfl, hk⟩
      | true => exact EndE.bind go sx (ih hy g₁ σ₁ s₁ (F.go S go) go.st hk)
theorem or_v {pos : Pos} : ∀ {es : List Expr} {cs : List (Option E)} {p : E}, (All2 (fun e c => ∀ p, c = some p → SE K n cx e p) es cs) → foldB .or cs = some p → SE K n cx (.BoolOp .Or es pos) p := by
  intro es cs p hf hp env A m g σ s Q R F S W
  rw [arm_eval_BoolOp]
  induction hf generalizing p g σ s with
  | nil => cases hp
  | @cons e c es cs h1 h2 ih =>
    cases h2 with
    | nil =>
      simp only [foldB] at hp
      exact h1 p hp env A m g σ s Q R F S W
    | @cons e' c' es' cs' h1' h2' =>
      obtain ⟨x, y, rfl, hy, rfl⟩ := foldB_some hp
      rw [arm_evalEach_cons, arm_evalEach_cons]
      refine bool_step (h1 x rfl env A m g σ s _ R F S W) fun b g₁ σ₁ s₁ go sx hk => ?_
      cases b with
      | true => exact wpAny_pure ⟨.bool true, g₁, σ₁, go, sx, rfl, hk⟩
      | false => exact EndE.bind go sx (ih hy g₁ σ₁ s₁ (F.go S go) go.st hk)
theorem and_t : ∀ {es : List Expr} {cs : List (Option E)} {p : E}, (All2 (fun e c => ∀ p, c = some p → STr K n cx e p) es cs) → foldB .and cs = some p →
    ∀ env A m g σ s (Q : Bool → H → Prop), Room A n → Fr K env cx m g s.heap → St K g σ s.heap → WT (callW K.Φ n) noX p m σ Q → wpAny (model K.prog K.w) A (allTrue .And es env) (EndB K g s Q) noE s := by
  intro es cs p hf hp
  induction hf generalizing p with
  | nil => cases hp
  | @cons e c es cs h1 h2 ih =>
    cases h2 with
    | nil => simp only [foldB] at hp; exact st_lastAnd (h1 p hp)
    | @cons e' c' es' cs' h1' h2' =>
      obtain ⟨x, y, rfl, hy, rfl⟩ := foldB_some hp
      exact st_and (h1 x rfl) (ih hy)
theorem or_t : ∀ {es : List Expr} {cs : List (Option E)} {p : E}, (All2 (fun e c => ∀ p, c = some p → STr K n cx e p) es cs) → foldB .or cs = some p →
    ∀ env A m g σ s (Q : Bool → H → Prop), Room A n → Fr K env cx m g s.heap → St K g σ s.heap → WT (callW K.Φ n) noX p m σ Q → wpAny (model K.prog K.w) A (allTrue .Or es env) (EndB K g s Q) noE s := by
  intro es cs p hf hp
  induction hf generalizing p with
  | nil => cases hp
  | @cons e c es cs h1 h2 ih =>
    cases h2 with
    | nil => simp only [foldB] at hp; exact st_lastOr (h1 p hp)
    | @cons e' c' es' cs' h1' h2' =>
      obtain ⟨x, y, rfl, hy, rfl⟩ := foldB_some hp
      exact st_or (h1 x rfl) (ih hy)

theorem allV_ok : ∀ {es : List Expr} {as : List E}, (∀ e ∈ es, Ok3 K n cx e (cB pg cx e)) → (∀ e ∈ es, isStar e = false) → allV (cBs pg cx es) = some as → SEs K n cx es as ∧ es.length = as.length
  | [], as, _, _, h => by simp only [cBs, allV] at h; cases h; exact ⟨ses_nil, rfl⟩
  | e :: es, as, hk, hs, h => by
    simp only [cBs, allV] at h
    split at h
    · rename_i a r h1 h2
      cases h
      obtain ⟨x, y⟩ := allV_ok (fun e he => hk e (.tail _ he)) (fun e he => hs e (.tail _ he)) h2
      exact ⟨ses_cons (hs e (.head _)) ((hk e (.head _)).v a h1) x, by simp [y]⟩
    · cases h
theorem stars {es : List Expr} (h : ¬ (es.any isStar = true)) : ∀ e ∈ es, isStar e = false := by
  intro e he
  cases hb : isStar e with
  | false => rfl
  | true => exact absurd (List.any_eq_true.mpr ⟨e, he, hb⟩) h
theorem kd_ok {y : Str} {k : Kd} (h : kdT y = some k) : ∃ T, blts.lookup y = some (.type T) ∧ (k, T) ∈ [(Kd.int, "int"), (.bool, "bool"), (.list, "list"), (.tup, "tuple"), (.str, "str")] := by
  unfold kdT at h
  split at h <;> first | (rename_i hb; cases h; exact ⟨_, hb, by simp⟩) | cases h

theorem range_src {x : Str} {p pos : Pos} {as : List Expr} {a : E} : (cB pg cx (.Call (.Name x p) as [] pos)).s = some (.range a) → ∃ e, as = [e] ∧ isG cx x = true ∧ blts.lookup x = some (.type "range") ∧ (cB pg cx e).v = some a := by
  intro h
  simp only [cB] at h
  split at h
  · cases h
  simp only [cCall] at h
  split at h
  · rename_i hg
    split at h
    · simp only [C3.ofVT, Option.map_eq_some_iff] at h; obtain ⟨_, _, h⟩ := h; cases h
    split at h
    · split at h
      · cases h
      · simp only [C3.ofV, Option.map_eq_some_iff] at h; obtain ⟨_, _, h⟩ := h; cases h
    split at h
    · split at h
      · simp only [C3.ofVT, Option.map_eq_some_iff] at h; obtain ⟨_, _, h⟩ := h; cases h
      · cases h
    · unfold cBlt at h
      split at h
      · rename_i c hc
        match as, hc with
        | [e], hc =>
          simp only [cBs, List.cons.injEq, and_true] at hc
          subst hc
          split at h
          · simp only [C3.ofV, Option.map_eq_some_iff] at h; obtain ⟨_, _, h⟩ := h; cases h
          · split at h <;> (simp only [C3.ofV, Option.map_eq_some_iff] at h; obtain ⟨_, _, h⟩ := h; cases h)
          · simp only [C3.ofV, Option.map_eq_some_iff] at h; obtain ⟨_, _, h⟩ := h; cases h
          · rename_i hb
            simp only [Option.map_eq_some_iff] at h
            obtain ⟨_, h1, h⟩ := h
            cases h
            exact ⟨e, rfl, hg, hb, h1⟩
          · simp only [Option.map_eq_some_iff] at h; obtain ⟨_, _, h⟩ := h; cases h
          · cases h
      · split at h
        · simp only [C3.ofV, Option.map_eq_some_iff] at h; obtain ⟨_, _, h⟩ := h; cases h
        · split at h <;> simp at h
        · cases h
      · cases h
  · cases h
end
end Mini

set_option autoImplicit false
set_option linter.unusedVariables false
namespace Mini
open PySem
section
variable {K : Ctx} {pg : Pg} {n : Nat} {cx : Cx}

theorem call_t {f : Expr} {as : List Expr} {pos : Pos} {i : Nat} {bs : List E} (h : SE K n cx (.Call f as [] pos) (.call i bs)) : STr K n cx (.Call f as [] pos) (.call i bs) := st_val h (fun _ _ => rfl) fun c x m σ k W => W
theorem isi_t {f : Expr} {as : List Expr} {pos : Pos} {a : E} {k : Kd} (h : SE K n cx (.Call f as [] pos) (.isinst a k)) : STr K n cx (.Call f as [] pos) (.isinst a k) := st_val h (fun _ _ => rfl) fun c x m σ k W => W

theorem one_of {es : List Expr} {c : C3} (h : cBs pg cx es = [c]) : ∃ e, es = [e] ∧ c = cB pg cx e := by
  match es, h with
  | [e], h => simp only [cBs, List.cons.injEq, and_true] at h; exact ⟨e, rfl, h.symm⟩
theorem two_of {es : List Expr} {c d : C3} (h : cBs pg cx es = [c, d]) : ∃ e e', es = [e, e'] ∧ c = cB pg cx e ∧ d = cB pg cx e' := by
  match es, h with
  | [e, e'], h => simp only [cBs, List.cons.injEq, and_true] at h; exact ⟨e, e', rfl, h.1.symm, h.2.symm⟩

theorem ofV_ne {v : Option E} {a : E} : (C3.ofV v).s ≠ some (.range a) := by cases v <;> simp [C3.ofV]
theorem ofVT_ne {v : Option E} {a : E} : (C3.ofVT v).s ≠ some (.range a) := by cases v <;> simp [C3.ofVT]
theorem no_ne {a : E} : (C3.no).s ≠ some (.range a) := by simp [C3.no]
theorem meth_ne {name : Str} {o : Option E} {cs : List C3} {a : E} : (cMeth name o cs).s ≠ some (.range a) := by
  unfold cMeth
  repeat' split
  all_goals first | exact ofV_ne | exact no_ne
theorem const_ne {c : Const} {a : E} : (cConst c).s ≠ some (.range a) := by
  unfold cConst
  split
  all_goals first | exact ofV_ne | exact ofVT_ne | exact no_ne
theorem name_ne {x : Str} {a : E} : (cName pg cx x).s ≠ some (.range a) := by
  unfold cName
  repeat' split
  all_goals first | exact ofV_ne | exact ofVT_ne | exact no_ne
theorem range_of {e : Expr} {a : E} (h : (cB pg cx e).s = some (.range a)) : ∃ x p as pos, e = .Call (.Name x p) as [] pos := by
  unfold cB at h
  split at h
  all_goals first
    | exact absurd h const_ne
    | exact absurd h name_ne
    | exact absurd h ofV_ne
    | exact absurd h no_ne
    | cases h; done
    | exact ⟨_, _, _, _, rfl⟩
    | skip
  all_goals try split at h
  all_goals first
    | exact absurd h ofV_ne
    | exact absurd h no_ne
    | cases h; done
    | skip
  all_goals try simp only [cCall] at h
  all_goals try split at h
  all_goals first
    | exact absurd h ofV_ne
    | exact absurd h meth_ne
    | exact absurd h no_ne
    | cases h; done
    | skip

theorem blt_ok (G₀ : Gr K pg) {x : Str} {p pos : Pos} {es : List Expr} (hg : isG cx x = true) (hk : ∀ e ∈ es, Ok3 K n cx e (cB pg cx e)) (hk2 : ∀ y p' pos' e, es = [.Call (.Name y p') [e] [] pos'] → Ok3 K n cx e (cB pg cx e)) (hst : ∀ e ∈ es, isStar e = false) : Ok3 K n cx (.Call (.Name x p) es [] pos) (cBlt x (cBs pg cx es)) := by
  obtain ⟨hx, hd⟩ := isG_ok hg
  unfold cBlt
  split
  · rename_i c hc
    obtain ⟨e, rfl, rfl⟩ := one_of hc
    have he := hk e (.head _)
    have hs := hst e (.head _)
    split
    · rename_i hb
      exact .ofV fun q hq => by
        simp only [Option.map_eq_some_iff] at hq
        obtain ⟨a, ha, rfl⟩ := hq
        exact se_len G₀ hx hd hb (he.v a ha) hs
    · rename_i hb
      split
      · rename_i a ha
        refine .ofV fun q hq => ?_
        cases hq
        obtain ⟨y, p', as, pos', rfl⟩ := range_of ha
        obtain ⟨e', rfl, hg', hb', ha'⟩ := range_src ha
        obtain ⟨hy, hdy⟩ := isG_ok hg'
        have k1 := hk2 y p' pos' e' rfl
        have k2 : isStar e' = false := by
          cases hz : isStar e' with
          | false => rfl
          | true => simp [cB, hz, C3.no] at ha
        exact se_listRange G₀ hx hd hb hy hdy hb' (k1.v a ha') k2
      · exact .ofV fun q hq => by
          simp only [Option.map_eq_some_iff] at hq
          obtain ⟨a, ha, rfl⟩ := hq
          exact se_list G₀ hx hd hb (he.v a ha) hs
    · rename_i hb
      exact .ofV fun q hq => by
        simp only [Option.map_eq_some_iff] at hq
        obtain ⟨a, ha, rfl⟩ := hq
        exact se_intOf G₀ hx hd hb (he.v a ha) hs
    · rename_i hb
      exact .ofS fun q hq => by
        simp only [Option.map_eq_some_iff] at hq
        obtain ⟨a, ha, rfl⟩ := hq
        exact src_range G₀ hx hd hb (he.v a ha) hs
    · rename_i hb
      exact .ofS fun q hq => by
        simp only [Option.map_eq_some_iff] at hq
        obtain ⟨a, ha, rfl⟩ := hq
        exact src_enum G₀ hx hd hb (he.v a ha) hs
    · exact .no
  · rename_i c d hc
    obtain ⟨e, e', rfl, rfl, rfl⟩ := two_of hc
    have he := hk e (.head _)
    have hs := hst e (.head _)
    have he' := hk e' (.tail _ (.head _))
    have hs' := hst e' (.tail _ (.head _))
    split
    · rename_i hb
      exact .ofV fun q hq => by
        split at hq
        · rename_i a b ha hb'; cases hq; exact se_max2 G₀ hx hd hb (he.v a ha) hs (he'.v b hb') hs'
        · cases hq
    · rename_i hb
      exact .ofS fun q hq => by
        split at hq
        · rename_i a b ha hb'; cases hq; exact src_zip G₀ hx hd hb (he.v a ha) hs (he'.v b hb') hs'
        · cases hq
    · exact .no
  · exact .no

theorem meth_ok {o : Expr} {name : Str} {apos pos : Pos} {es : List Expr} (ho : Ok3 K n cx o (cB pg cx o)) (hb : plainBase o = true) (hl : (apos.endLine == pos.line) = true) (hk : ∀ e ∈ es, Ok3 K n cx e (cB pg cx e)) (hst : ∀ e ∈ es, isStar e = false) :
    Ok3 K n cx (.Call (.Attribute o name apos) es [] pos) (cMeth name (cB pg cx o).v (cBs pg cx es)) := by
  unfold cMeth
  split
  · rename_i hc
    have : es = [] := by cases es with | nil => rfl | cons e es => simp [cBs] at hc
    subst this
    split
    · rename_i hn; subst hn
      exact .ofV fun q hq => by
        simp only [Option.map_eq_some_iff] at hq
        obtain ⟨a, ha, rfl⟩ := hq
        exact se_reverse (ho.v a ha) hb hl
    · split
      · rename_i hn; subst hn
        exact .ofV fun q hq => by
          simp only [Option.map_eq_some_iff] at hq
          obtain ⟨a, ha, rfl⟩ := hq
          exact se_clear (ho.v a ha) hb hl
      · exact .no
  · rename_i c hc
    obtain ⟨e, rfl, rfl⟩ := one_of hc
    have he := hk e (.head _)
    have hs := hst e (.head _)
    split
    · rename_i a b ha hb'
      split
      · rename_i hn; subst hn
        exact .ofV fun q hq => by cases hq; exact se_append (ho.v a ha) (he.v b hb') hb hs hl
      split
      · rename_i hn; subst hn
        exact .ofV fun q hq => by cases hq; exact se_pop (ho.v a ha) (he.v b hb') hb hs hl
      split
      · rename_i hn; subst hn
        exact .ofV fun q hq => by cases hq; exact se_count (ho.v a ha) (he.v b hb') hb hs hl
      split
      · rename_i hn; subst hn
        exact .ofV fun q hq => by cases hq; exact se_index (ho.v a ha) (he.v b hb') hb hs hl
      · exact .no
    · exact .no
  · exact .no

theorem call_ok (G₀ : Gr K pg) (hf : SF K n) {x : Str} {p pos : Pos} {es : List Expr} (hk : ∀ e ∈ es, Ok3 K n cx e (cB pg cx e)) (hk2 : ∀ y p' pos' e, es = [.Call (.Name y p') [e] [] pos'] → Ok3 K n cx e (cB pg cx e)) (hst : ∀ e ∈ es, isStar e = false) :
    Ok3 K n cx (.Call (.Name x p) es [] pos) (cCall pg cx es pos none (cBs pg cx es) (.Name x p)) := by
  simp only [cCall]
  split
  · rename_i hg
    obtain ⟨hx, hd⟩ := isG_ok hg
    split
    · rename_i i hi
      have key : ∀ q, Option.map (E.call i) (allV (cBs pg cx es)) = some q → ∃ as, q = .call i as ∧ SE K n cx (.Call (.Name x p) es [] pos) (.call i as) := fun q hq => by
        simp only [Option.map_eq_some_iff] at hq
        obtain ⟨as, ha, rfl⟩ := hq
        obtain ⟨h1, h2⟩ := allV_ok hk hst ha
        exact ⟨as, rfl, se_call G₀ hf hx hd hi h1 hst h2⟩
      exact .ofVT (fun q hq => by obtain ⟨as, rfl, h⟩ := key q hq; exact h) fun q hq => by obtain ⟨as, rfl, h⟩ := key q hq; exact call_t h
    split
    · rename_i hh
      split
      · exact .no
      · rename_i hne
        exact .ofV fun q hq => by
          simp only [Option.map_eq_some_iff] at hq
          obtain ⟨as, ha, rfl⟩ := hq
          exact se_hall G₀ hx hd hh.1 hh.2 (allV_ok hk hst ha).1 hst (by rintro rfl; exact hne rfl)
    split
    · rename_i y hy
      split
      · rename_i hg'
        obtain ⟨hy', hdy⟩ := isG_ok hg'
        have key : ∀ q, (match firstV (cBs pg cx es), kdT y with | some a, some k => some (E.isinst a k) | _, _ => none) = some q → ∃ a k, q = .isinst a k ∧ SE K n cx (.Call (.Name x p) es [] pos) (.isinst a k) := fun q hq => by
          split at hq
          · rename_i a k h1 h2
            cases hq
            obtain ⟨T, hT, hm⟩ := kd_ok h2
            unfold isiOf at hy
            split at hy
            · rename_i hb
              unfold name2 at hy
              split at hy
              · rename_i e y' p'
                cases hy
                simp only [cBs, firstV] at h1
                exact ⟨a, k, rfl, se_isinst G₀ hx hd hb hy' hdy hT hm ((hk e (.head _)).v a h1) (hst e (.head _))⟩
              · cases hy
            · cases hy
          · cases hq
        exact .ofVT (fun q hq => by obtain ⟨a, k, rfl, h⟩ := key q hq; exact h) fun q hq => by obtain ⟨a, k, rfl, h⟩ := key q hq; exact isi_t h
      · exact .no
    · exact blt_ok G₀ hg hk hk2 hst
  · exact .no

theorem set_plain {e : Expr} {src : Src} (h : (cB pg cx e).s = some src) : ∀ env v, foldedSetIterable e env v = pure v := by
  intro env v
  cases e <;> first | rfl | (simp [cB, C3.no] at h; done)

theorem all2_map {es : List Expr} {R : Expr → Option E → Prop} (f : C3 → Option E) (h : ∀ e ∈ es, R e (f (cB pg cx e))) : All2 R es ((cBs pg cx es).map f) := by
  induction es with
  | nil => exact .nil
  | cons e es ih => exact .cons (h e (.head _)) (ih fun e he => h e (.tail _ he))

theorem ok_of {scope : Scope} {x : Str} (h : compOk cx scope x = true) : CompOk cx scope x := compOk_ok h
end
end Mini

set_option autoImplicit false
set_option linter.unusedVariables false
namespace Mini
open PySem
section
variable {K : Ctx} {pg : Pg} {n : Nat}

theorem src_tgt {o : Option Src} {src : Src} {x : Str} {px : Pos} (h : srcN o = some src) : o = some src ∧ tgtOk src (.Name x px) := by
  unfold srcN at h
  split at h <;> first | (cases h; exact ⟨rfl, _, _, rfl⟩) | cases h

theorem cB_all (G₀ : Gr K pg) (hf : SF K n) (hfld : pg.hall ≠ "" → K.fields = pg.fields) (hfl : pg.hall = "" → pg.fields = []) : ∀ (N : Nat) (e : Expr) (cx : Cx), sizeOf e < N → Ok3 K n cx e (cB pg cx e)
  | 0, _, _, h => absurd h (Nat.not_lt_zero _)
  | N + 1, e, cx, hN => by
    have ih : ∀ (e : Expr) (cx : Cx), sizeOf e < N → Ok3 K n cx e (cB pg cx e) := cB_all G₀ hf hfld hfl N
    have ihs : ∀ (es : List Expr) (cx : Cx), sizeOf es ≤ N → ∀ e ∈ es, Ok3 K n cx e (cB pg cx e) := fun es cx h e he => ih e cx (Nat.lt_of_lt_of_le (List.sizeOf_lt_of_mem he) h)
    unfold cB
    split
    · exact const_ok
    · exact name_ok G₀
    · rename_i l op r p
      simp at hN
      exact .ofV fun q hq => by
        split at hq
        · rename_i o a b h1 h2 h3; cases hq; exact se_bin h1 ((ih l cx (by omega)).v a h2) ((ih r cx (by omega)).v b h3)
        · cases hq
    · rename_i e p
      simp at hN
      have h := ih e cx (by omega)
      exact .ofS' (fun q hq => by simp only [Option.map_eq_some_iff] at hq; obtain ⟨a, ha, rfl⟩ := hq; exact se_not (h.v a ha)) fun q hq => by simp only [Option.map_eq_some_iff] at hq; obtain ⟨a, ha, rfl⟩ := hq; exact st_not (h.t a ha)
    · rename_i e p
      simp at hN
      have h := ih e cx (by omega)
      exact .ofV (fun q hq => by simp only [Option.map_eq_some_iff] at hq; obtain ⟨a, ha, rfl⟩ := hq; exact se_neg (h.v a ha))
    · rename_i vs p
      simp at hN
      have h := ihs vs cx (by omega)
      exact .ofS' (fun q hq => and_v (all2_map C3.v fun e he => (h e he).v) hq) fun q hq env A m g σ s Q R F S W => wpAny_isTrue_BoolOp (and_t (all2_map C3.t fun e he => (h e he).t) hq env A m g σ s Q R F S W)
    · rename_i vs p
      simp at hN
      have h := ihs vs cx (by omega)
      exact .ofS' (fun q hq => or_v (all2_map C3.v fun e he => (h e he).v) hq) fun q hq env A m g σ s Q R F S W => wpAny_isTrue_BoolOp (or_t (all2_map C3.t fun e he => (h e he).t) hq env A m g σ s Q R F S W)
    · rename_i l op r p
      simp at hN
      split
      · rename_i o a b hm ho ha hb
        exact .ofS' (fun q hq => by cases hq; exact se_cmp ho ((ih l cx (by omega)).v a ha) ((ih r cx (by omega)).v b hb) hm) fun q hq => by cases hq; exact st_cmp ho ((ih l cx (by omega)).v a ha) ((ih r cx (by omega)).v b hb) hm
      · exact .no
    · rename_i l o₁ o₂ r₁ r₂ p
      simp at hN
      split
      · rename_i p₁ p₂ a b c hm h1 h2 ha hb hc
        exact .ofS' (fun q hq => by cases hq) fun q hq => by cases hq; exact st_cmp2 h1 h2 ((ih l cx (by omega)).v a ha) ((ih r₁ cx (by omega)).v b hb) ((ih r₂ cx (by omega)).v c hc) hm
      · exact .no
    · rename_i t a b p
      simp at hN
      exact .ofV fun q hq => by
        split at hq
        · rename_i x y z h1 h2 h3; cases hq; exact se_ite ((ih t cx (by omega)).t x h1) ((ih a cx (by omega)).v y h2) ((ih b cx (by omega)).v z h3)
        · cases hq
    · rename_i o name apos as pos
      simp at hN
      split
      · exact .no
      · rename_i hst
        simp only [cCall]
        split
        · rename_i hc
          simp only [Bool.and_eq_true] at hc
          exact meth_ok (ih o cx (by omega)) hc.1 hc.2 (ihs as cx (by omega)) (stars hst)
        · exact .no
    · rename_i x p as pos
      simp at hN
      split
      · exact .no
      · rename_i hst
        refine call_ok G₀ hf (ihs as cx (by omega)) (fun y p' pos' e he => ?_) (stars hst)
        subst he
        simp at hN
        exact ih e cx (by omega)
    · rename_i v x p
      simp at hN
      split
      · rename_i hb
        exact .ofV fun q hq => by
          split at hq
          · rename_i a k ha hk
            cases hq
            refine se_attr G₀ ((ih v cx (by omega)).v a ha) hb ?_
            rw [List.idxOf?_eq_some_iff] at hk
            obtain ⟨h1, h2, h3⟩ := hk
            rw [hfld (fun z => by rw [hfl z] at h1; simp at h1)]
            simp [h1, h2]
          · cases hq
      · exact .no
    · rename_i v l p p'
      simp at hN
      exact .ofV fun q hq => by
        split at hq
        · rename_i a b h1 h2; cases hq; exact se_from ((ih v cx (by omega)).v a h1) ((ih l cx (by omega)).v b h2)
        · cases hq
    · rename_i v u p p'
      simp at hN
      exact .ofV fun q hq => by
        split at hq
        · rename_i a b h1 h2; cases hq; exact se_upto ((ih v cx (by omega)).v a h1) ((ih u cx (by omega)).v b h2)
        · cases hq
    · rename_i v i p _ _
      simp at hN
      split
      · exact .no
      · rename_i hsl
        exact .ofV fun q hq => by
          split at hq
          · rename_i a b h1 h2; cases hq; exact se_idx ((ih v cx (by omega)).v a h1) ((ih i cx (by omega)).v b h2) fun a b c d z => by subst z; simp [isSlice] at hsl
          · cases hq
    · rename_i es p
      simp at hN
      split
      · exact .no
      · rename_i hst
        exact .ofV fun q hq => by
          simp only [Option.map_eq_some_iff] at hq
          obtain ⟨as, ha, rfl⟩ := hq
          exact se_disp (allV_ok (ihs es cx (by omega)) (stars hst) ha).1
    · rename_i es k p
      simp at hN
      split
      · exact .no
      · rename_i hst
        simp only [Bool.or_eq_true, Bool.not_eq_true', decide_eq_false_iff_not, not_or, Decidable.not_not] at hst
        exact .ofV fun q hq => by
          simp only [Option.map_eq_some_iff] at hq
          obtain ⟨as, ha, rfl⟩ := hq
          obtain ⟨h1, h2⟩ := allV_ok (ihs es cx (by omega)) (stars hst.1) ha
          exact se_tup h1 (h2 ▸ hst.2)
    · rename_i elt x px iter scope p
      simp at hN
      split
      · rename_i hok
        split
        · rename_i src pe h1 h2
          obtain ⟨h3, h4⟩ := src_tgt (x := x) (px := px) h1
          exact .ofV fun q hq => by cases hq; exact se_comp (compOk_ok hok) (set_plain h3) ((ih iter cx (by omega)).s src h3) h4 ((ih elt _ (by omega)).v pe h2) .none
        · exact .no
      · exact .no
    · rename_i elt x px iter t scope p
      simp at hN
      split
      · rename_i hok
        split
        · rename_i src pe pt h1 h2 h5
          obtain ⟨h3, h4⟩ := src_tgt (x := x) (px := px) h1
          exact .ofV fun q hq => by cases hq; exact se_comp (compOk_ok hok) (set_plain h3) ((ih iter cx (by omega)).s src h3) h4 ((ih elt _ (by omega)).v pe h2) (.one ((ih t _ (by omega)).t pt h5))
        · exact .no
      · exact .no
    · exact .no
end
end Mini

set_option autoImplicit false
set_option linter.unusedVariables false
namespace Mini
open PySem

noncomputable def SS (K : Ctx) (n : Nat) (cx : Cx) (st : Stmt) (p : S) : Prop := ∀ (env : Env) (A : Around) (m : M) (g : G) (σ : H) (s : Shared) (N : M → H → Prop) (Rt : P), Room A n → Fr K env cx m g s.heap → St K g σ s.heap →
  WS (callW K.Φ n) p noX m σ N Rt → wpAny (model K.prog K.w) A (exec st env) (EndS K env cx g s N Rt) noE s
noncomputable def SSs (K : Ctx) (n : Nat) (cx : Cx) (sts : List Stmt) (ps : List S) : Prop := ∀ (env : Env) (A : Around) (m : M) (g : G) (σ : H) (s : Shared) (N : M → H → Prop) (Rt : P), Room A n → Fr K env cx m g s.heap → St K g σ s.heap →
  WSs (callW K.Φ n) ps noX m σ N Rt → wpAny (model K.prog K.w) A (execs sts env) (EndS K env cx g s N Rt) noE s

section
variable {K : Ctx} {pg : Pg} {n : Nat} {cx : Cx}

/-- an item of a list is set: the list's object is known to the last part -/
theorem set_exact {A : Around} {E : Value → Shared → Prop} {s : Shared} {l : Addr} {vs : Array Value} {kk : Nat} {k : Int} {t : Tok} {v : Value} {Q : Unit → Shared → Prop} (ho : s.heap.get? l = some { cls := .type "list", data := .seq vs kk })
    (h0 : 0 ≤ k) (hfit : k < 2 ^ 63) (hk : k < vs.size) (hQ : Q () { s with heap := s.heap.update l (Obj.mapSeq (·.setIfInBounds k.toNat v)) }) : wpAny (model K.prog K.w) A (setItem (.ref l) (.int k t) v) Q E s := by
  have hl : s.heap.IsList l vs := ⟨_, ho, rfl, kk, rfl⟩
  unfold setItem
  try with_reducible refine wpAny_holding ?_
  try refine wpAny_bind (wpAny_pure ?_)
  refine wpAny_bind (wpAny_sequenceKey hl.typeIs (by decide) (wpAny_bind (wpAny_callSpecial?_slot (name := Str.ofString "__setitem__") hl.typeIs slot_list_setitem (wpAny_call_entry slot_list_setitem hl.typeIs entry_list_setitem ?_ (args_list_setitem _ _ _)))))
  show wpAny _ _ (Builtin.List.listSubscript? (.int k t) >>= _) _ _ s
  refine wpAny_bind (wpAny_listSubscript_int (fitsIndex_of h0 hfit) ?_)
  clear hfit
  obtain ⟨j, rfl⟩ := Int.eq_ofNat_of_zero_le h0
  have hj : j < vs.size := by omega
  have hx : vs[j]? = some vs[j] := Array.getElem?_eq_getElem hj
  show wpAny _ _ ((seqItemAt l j >>= fun r => pure (r.map (j, ·))) >>= _) _ _ s
  refine wpAny_bind (wpAny_bind (wpAny_seqItemAt ho rfl (wpAny_pure ?_)))
  rw [hx]
  show wpAny _ _ (setSeqItemAt l j v >>= _) _ _ s
  have fin := wpAny_pure (M := model K.prog K.w) (A := A) (E := E) hQ
  exact wpAny_bind (wpAny_setSeqItemAt ho rfl (by first | exact wpAny_bind (wpAny_pure (wpAny_pure ⟨.none, rfl, fin⟩)) | exact wpAny_pure ⟨.none, rfl, fin⟩))
theorem no_swap {v : Expr} {t : Option Expr} {l : Nat} {env : Env} (h : isComp v = false) : swapsWith v t l env = pure false := by
  cases v <;> first | rfl | cases h

theorem ss_set {x : Str} {px pos : Pos} {v : Expr} {k : Nat} {e : E} (hk : slotOf cx x = some k) (h : SE K n cx v e) (hc : isComp v = false) : SS K n cx (.Assign [.Name x px] v pos) (.set k e) := fun env A m g σ s N Rt R F S W => by
  refine wpAny_Assign_Name (wpAny_mono (h env A m g σ s _ R F S W) (fun w s₁ q => ?_) fun _ _ f => f) (no_swap hc)
  obtain ⟨r₁, g₁, σ₁, go₁, sx₁, rel₁, W₁⟩ := q
  exact store_sound (F.go S go₁) go₁.st hk rel₁ fun s' go sx F' => ⟨_, g₁, σ₁, go₁.toX.trans go, sx₁.trans sx, F', W₁⟩

theorem ss_unpack {es : List Expr} {k : Nat} {p pos : Pos} {v : Expr} {ks : List Nat} {e : E} (ht : cTgt cx (.Tuple es k p) = some ks) (h : SE K n cx v e) (hc : isComp v = false) (hv : isTup v = false) : SS K n cx (.Assign [.Tuple es k p] v pos) (.unpack ks e) := fun env A m g σ s N Rt R F S W => by
  refine wpAny_Assign_stores (wpAny_mono (h env A m g σ s _ R F S W) (fun w s₁ q => ?_) fun _ _ f => f) (by rw [swapsWithSole]; exact no_swap hc) (by cases v <;> first | rfl | cases hv)
  obtain ⟨r₁, g₁, σ₁, go₁, sx₁, rel₁, W₁⟩ := q
  cases r₁ <;> try exact W₁.elim
  rename_i us
  obtain ⟨m', hp, W₁⟩ := W₁
  have hb : bindV ks m (.tup us) = some m' := by
    have : ∃ a b rr, ks = a :: b :: rr := by
      simp only [cTgt] at ht
      split at ht
      · rename_i a b rr _; cases ht; exact ⟨a, b, rr, rfl⟩
      · cases ht
    obtain ⟨a, b, rr, rfl⟩ := this
    exact hp
  show wpAny _ A (assign (.Tuple es k p) env w) _ _ s₁
  exact assign_sound R.handled (F.go S go₁) go₁.st ht hb rel₁ fun s' go sx F' => ⟨_, g₁, σ₁, go₁.toX.trans go, sx₁.trans sx, F', W₁⟩

theorem ss_put {o i v : Expr} {p pos : Pos} {a b e : E} (ho : SE K n cx o a) (hi : SE K n cx i b) (h : SE K n cx v e) (hc : isComp v = false) : SS K n cx (.Assign [.Subscript o i p] v pos) (.put a b e) := fun env A m g σ s N Rt R F S W => by
  refine wpAny_Assign_Subscript (wpAny_mono (h env A m g σ s _ R F S W) (fun w s₁ q => ?_) fun _ _ f => f) (no_swap hc)
  obtain ⟨r₁, g₁, σ₁, go₁, sx₁, rel₁, W₁⟩ := q
  refine wpAny_mono (ho env A m g₁ σ₁ s₁ _ R (F.go S go₁) go₁.st W₁) (fun w₂ s₂ q => ?_) fun _ _ f => f
  obtain ⟨r₂, g₂, σ₂, go₂, sx₂, rel₂, W₂⟩ := q
  refine wpAny_mono (hi env A m g₂ σ₂ s₂ _ R (F.go S (go₁.trans go₂)) go₂.st W₂) (fun w₃ s₃ q => ?_) fun _ _ f => f
  obtain ⟨r₃, g₃, σ₃, go₃, sx₃, rel₃, W₃⟩ := q
  have go := (go₁.trans go₂).trans go₃
  have rel₂' := go₃.rel go₂.st rel₂
  cases r₂ <;> try exact W₃.elim
  cases r₃ <;> try exact W₃.elim
  rename_i j k
  obtain ⟨xs, hj, hx, h0, hk, W₃⟩ := W₃
  obtain ⟨l, hl, rfl⟩ := rel₂'
  obtain ⟨t, rfl⟩ := rel₃
  obtain ⟨vs, kk, hobj, hrs⟩ := go₃.st.lists j l xs hl hx
  have hlen := go₃.st.small xs (List.mem_of_getElem? hx)
  have hsz : vs.size = xs.length := by have := hrs.length; simpa using this.symm
  have hbig : xs.length ≤ 16777216 := hlen
  refine set_exact (kk := kk) hobj h0 (by omega) (by omega) ?_
  have hp := Go.put (h' := s₃.heap.update l (Obj.mapSeq (·.setIfInBounds k.toNat w))) (vs := vs.setIfInBounds k.toNat w) go₃.st hl hx hj (fun c hc => upd_get hc) (PySem.IsL.update hobj _) (ys := xs.set k.toNat r₁) (by
    rw [Array.toList_setIfInBounds]
    exact VRels.set _ hrs ((go₂.trans go₃).rel go₁.st rel₁)) (by rw [List.length_set]; exact hlen)
  exact ⟨m, g₃, _, (go.trans hp).toX, ((sx₁.trans sx₂).trans sx₃).trans ⟨rfl, rfl⟩, F.go S (go.trans hp), W₃⟩

theorem ss_expr {e : Expr} {a : E} {pos : Pos} (h : SE K n cx e a) (hc : isComp e = false) : SS K n cx (.Expr e pos) (.expr a) := fun env A m g σ s N Rt R F S W => by
  refine wpAny_Expr_any (wpAny_mono (h env A m g σ s _ R F S W) (fun w s₁ q => ?_) fun _ _ f => f) (by unfold interactive; rw [F.kind]; rfl) (no_swap hc)
  obtain ⟨r₁, g₁, σ₁, go₁, sx₁, rel₁, W₁⟩ := q
  exact ⟨m, g₁, σ₁, go₁.toX, sx₁, F.go S go₁, W₁⟩

theorem ss_ret {e : Expr} {a : E} {pos : Pos} (h : SE K n cx e a) : SS K n cx (.Return (some e) pos) (.ret a) := fun env A m g σ s N Rt R F S W => by
  refine wpAny_Return_some (wpAny_mono (h env A m g σ s _ R F S W) (fun w s₁ q => ?_) fun _ _ f => f)
  obtain ⟨r₁, g₁, σ₁, go₁, sx₁, rel₁, W₁⟩ := q
  exact ⟨r₁, g₁, σ₁, go₁.toX, sx₁, rel₁, W₁⟩

theorem ss_if {t : Expr} {a b : List Stmt} {pt : E} {pa pb : List S} {pos : Pos} (ht : STr K n cx t pt) (ha : SSs K n cx a pa) (hb : SSs K n cx b pb) : SS K n cx (.If t a b pos) (.ite pt pa pb) := fun env A m g σ s N Rt R F S W => by
  refine wpAny_If (wpAny_mono (ht env A m g σ s _ R F S W) (fun c s₁ q => ?_) fun _ _ f => f)
  obtain ⟨g₁, σ₁, go₁, sx₁, W₁⟩ := q
  cases c with
  | true => exact EndS.bind go₁.toX sx₁ (ha env A m g₁ σ₁ s₁ N Rt R (F.go S go₁) go₁.st W₁)
  | false => exact EndS.bind go₁.toX sx₁ (hb env A m g₁ σ₁ s₁ N Rt R (F.go S go₁) go₁.st W₁)

theorem codeAny_okE {A : Around} {env : Env} {c : Code} {s : Shared} {Q : Flow → Shared → Prop} (h : codeAny (model K.prog K.w) A c (fun r s' => match r with | .ok f => Q f s' | .error e => False) s) :
    codeAny (model K.prog K.w) A c (fun r s' => match r with | .ok f => Q f s' | .error e => cameBackBy (model K.prog K.w) A env noE e s') s :=
  codeAny_mono h fun r s' q => by cases r with | ok f => exact q | error e => exact q.elim

theorem ss_while {t : Expr} {b : List Stmt} {pt : E} {pb : List S} {pos : Pos} (ht : STr K n cx t pt) (hb : SSs K n cx b pb) : SS K n cx (.While t b [] pos) (.while pt pb) := fun env A m g σ s N Rt R F S W => by
  obtain ⟨k, W⟩ := W
  refine wpAny_While (codeAny_okE ?_)
  exact while_sound (fun m g σ s L F S W => ht env A m g σ s L R F S W) (fun m g σ s L F S W => hb env A m g σ s L Rt R F S W) F (Go.refl S).toX (Sx.refl s) W

theorem ss_for {t i : Expr} {b : List Stmt} {ks : List Nat} {src : Src} {pb : List S} {pos : Pos} (ht : cTgt cx t = some ks) (hset : ∀ env v, foldedSetIterable i env v = pure v) (hs : SSrc K n cx i src) (htg : tgtOk src t) (hb : SSs K n cx b pb) : SS K n cx (.For t i b [] pos) (.for ks src pb) := fun env A m g σ s N Rt R F S W => by
  refine wpAny_For (wpAny_mono (hs env A m g σ s t _ R F S htg W) (fun v s₁ q => wpAny_mono q (fun it s₂ q => ?_) fun _ _ f => f) fun _ _ f => f) (hset env)
  obtain ⟨g₂, σ₂, vs, ok, X, J, go, sx, I, hJ, hX, W₂⟩ := q
  exact codeAny_okE (for_sound R.handled I ht hX (fun m g σ s L F S W => hb env A m g σ s L Rt R F S W) hJ (F.go S go) go.toX sx W₂)

theorem sss_nil : SSs K n cx [] [] := fun env A m g σ s N Rt R F S W => wpAny_execs_nil ⟨m, g, σ, (Go.refl S).toX, Sx.refl s, F, W⟩
theorem sss_cons {st : Stmt} {r : List Stmt} {p : S} {ps : List S} (h : SS K n cx st p) (hr : SSs K n cx r ps) : SSs K n cx (st :: r) (p :: ps) := fun env A m g σ s N Rt R F S W => by
  refine wpAny_execs_cons (wpAny_mono (h env A m g σ s _ Rt R F S W) (fun f s₁ q => ?_) fun _ _ f => f)
  cases f with
  | next =>
    obtain ⟨m₁, g₁, σ₁, go, sx, F₁, W₁⟩ := q
    exact EndS.bind go sx (hr env A m₁ g₁ σ₁ s₁ N Rt R F₁ go.st W₁)
  | ret v => exact q
  | _ => exact q.elim
end
end Mini

set_option autoImplicit false
set_option linter.unusedVariables false
namespace Mini
open PySem
section
variable {K : Ctx} {pg : Pg} {n : Nat} {cx : Cx}

theorem swap_true {env : Env} {m : M} {g : G} {h : Heap} {elt : Expr} {gens : List Comprehension} {sc : Scope} {pos px : Pos} {x : Str} {l : Nat} (F : Fr K env cx m g h) (hs : swaps cx x px (.ListComp elt gens sc pos) = true) :
    swapsWith (.ListComp elt gens sc pos) (some (.Name x px)) l env = pure true ∧ cx.names.lookup x = some .local := by
  simp only [swaps, Bool.and_eq_true] at hs
  obtain ⟨⟨h1, h2⟩, h3⟩ := hs
  refine ⟨?_, by simpa using h1⟩
  show (pure (env.blockKind == .function && env.kindOf x == some .local && px.line == pos.line && !(sc.names.any fun q => q.1 == x && (q.2 == .local || q.2 == .cell))) : Sem Bool) = pure true
  have hb : env.blockKind = .function := by unfold Env.blockKind; rw [F.kind]; rfl
  have hk : env.kindOf x = cx.names.lookup x := by unfold Env.kindOf; rw [F.names]
  rw [hb, hk, h1, h2, h3]
  rfl

theorem swap_cell {env : Env} {m : M} {g : G} {h : Heap} {v : Expr} {px : Pos} {x : Str} {l : Nat} (F : Fr K env cx m g h) (hs : cellComp cx x v = true) : swapsWith v (some (.Name x px)) l env = pure false := by
  cases v <;> first | cases hs | skip
  rename_i elt gens sc pos
  have hs : (cx.names.lookup x == some .cell) = true := hs
  show (pure (env.blockKind == .function && env.kindOf x == some .local && px.line == pos.line && !(sc.names.any fun q => q.1 == x && (q.2 == .local || q.2 == .cell))) : Sem Bool) = pure false
  have hk : env.kindOf x = cx.names.lookup x := by unfold Env.kindOf; rw [F.names]
  rw [hk, show cx.names.lookup x = some .cell by simpa using hs, Bool.and_assoc, Bool.and_assoc, Bool.and_comm]
  rfl
theorem ss_setC {x : Str} {px pos : Pos} {v : Expr} {k : Nat} {e : E} (hk : slotOf cx x = some k) (h : SE K n cx v e) (hc : cellComp cx x v = true) : SS K n cx (.Assign [.Name x px] v pos) (.set k e) := fun env A m g σ s N Rt R F S W => by
  refine wpAny_Assign_Name (wpAny_mono (h env A m g σ s _ R F S W) (fun w s₁ q => ?_) fun _ _ f => f) (swap_cell F hc)
  obtain ⟨r₁, g₁, σ₁, go₁, sx₁, rel₁, W₁⟩ := q
  exact store_sound (F.go S go₁) go₁.st hk rel₁ fun s' go sx F' => ⟨_, g₁, σ₁, go₁.toX.trans go, sx₁.trans sx, F', W₁⟩
theorem ss_swap (hB : ∀ (e : Expr) (cx : Cx), Ok3 K n cx e (cB pg cx e)) {x : Str} {px pos : Pos} {v : Expr} {k : Nat} {e : E} (hk : slotOf cx x = some k) (he : (cB pg cx v).v = some e) (hs : swaps cx x px v = true) : SS K n cx (.Assign [.Name x px] v pos) (.set k e) := fun env A m g σ s N Rt R F S W => by
  obtain ⟨elt, gens, sc, p, rfl⟩ : ∃ elt gens sc p, v = .ListComp elt gens sc p := by
    cases v <;> first | (cases hs; done) | exact ⟨_, _, _, _, rfl⟩
  obtain ⟨hsw, hloc⟩ := swap_true (l := pos.line) F (show swaps cx x px (.ListComp elt gens sc p) = true from hs)
  have hk' : cx.slots.lookup x = some k := by
    unfold slotOf at hk
    rw [hloc] at hk
    exact hk
  unfold cB at he
  split at he
  all_goals first
    | (rename_i heq; cases heq; done)
    | skip
  · rename_i elt' y py iter sc' p' heq
    cases heq
    split at he
    · rename_i hok
      split at he
      · rename_i src pe h1 h2
        cases he
        obtain ⟨h3, h4⟩ := src_tgt (x := y) (px := py) h1
        exact ss_comp (compOk_ok hok) (set_plain h3) ((hB iter _).s src h3) h4 ((hB elt _).v pe h2) .none hloc hk' R F S hsw W
      · cases he
    · cases he
  · rename_i elt' y py iter t sc' p' heq
    cases heq
    split at he
    · rename_i hok
      split at he
      · rename_i src pe pt h1 h2 h5
        cases he
        obtain ⟨h3, h4⟩ := src_tgt (x := y) (px := py) h1
        exact ss_comp (compOk_ok hok) (set_plain h3) ((hB iter _).s src h3) h4 ((hB elt _).v pe h2) (.one ((hB t _).t pt h5)) hloc hk' R F S hsw W
      · cases he
    · cases he
  · cases he

theorem cS_all (hB : ∀ (e : Expr) (cx : Cx), Ok3 K n cx e (cB pg cx e)) : ∀ (N : Nat), (∀ (st : Stmt) (p : S), sizeOf st < N → cS pg cx st = some p → SS K n cx st p) ∧ (∀ (sts : List Stmt) (ps : List S), sizeOf sts < N → cSs pg cx sts = some ps → SSs K n cx sts ps)
  | 0 => ⟨fun _ _ h => absurd h (Nat.not_lt_zero _), fun _ _ h => absurd h (Nat.not_lt_zero _)⟩
  | N + 1 => by
    obtain ⟨ih, ihs⟩ := cS_all hB N
    constructor
    · intro st p hN hp
      unfold cS at hp
      split at hp
      · rename_i x px v pos
        split at hp
        · rename_i k e h1 h2
          split at hp
          · cases hp
          · rename_i hc
            cases hp
            by_cases hcc : isComp v = true
            · by_cases hce : cellComp cx x v = true
              · exact ss_setC h1 ((hB v cx).v e h2) hce
              · refine ss_swap hB h1 h2 ?_
                simpa [hcc, hce] using hc
            · exact ss_set h1 ((hB v cx).v e h2) (by simpa using hcc)
        · cases hp
      · rename_i es k tp v pos
        split at hp
        · rename_i ks e h1 h2
          split at hp
          · cases hp
          · rename_i hc
            cases hp
            simp only [Bool.or_eq_true, not_or, Bool.not_eq_true] at hc
            exact ss_unpack h1 ((hB v cx).v e h2) hc.1 hc.2
        · cases hp
      · rename_i o i tp v pos
        split at hp
        · cases hp
        · rename_i hc
          simp only [Bool.or_eq_true, not_or, Bool.not_eq_true] at hc
          split at hp
          · rename_i a b e h1 h2 h3
            cases hp
            exact ss_put ((hB o cx).v a h1) ((hB i cx).v b h2) ((hB v cx).v e h3) hc.2
          · cases hp
      · rename_i e pos
        split at hp
        · cases hp
        · rename_i hc
          simp only [Option.map_eq_some_iff] at hp
          obtain ⟨a, ha, rfl⟩ := hp
          exact ss_expr ((hB e cx).v a ha) (by simpa using hc)
      · rename_i t a b pos
        simp at hN
        split at hp
        · rename_i x y z h1 h2 h3
          cases hp
          exact ss_if ((hB t cx).t x h1) (ihs a y (by omega) h2) (ihs b z (by omega) h3)
        · cases hp
      · rename_i t a pos
        simp at hN
        split at hp
        · rename_i x y h1 h2
          cases hp
          exact ss_while ((hB t cx).t x h1) (ihs a y (by omega) h2)
        · cases hp
      · rename_i t i a pos
        simp at hN
        split at hp
        · rename_i ks src y h1 h2 h3
          split at hp
          · cases hp; exact ss_for h1 (set_plain h2) ((hB i cx).s _ h2) ⟨_, _, rfl⟩ (ihs a y (by omega) h3)
          · cases hp; exact ss_for h1 (set_plain h2) ((hB i cx).s _ h2) ⟨_, _, rfl⟩ (ihs a y (by omega) h3)
          · cases hp; exact ss_for h1 (set_plain h2) ((hB i cx).s _ h2) ⟨_, _, _, rfl⟩ (ihs a y (by omega) h3)
          · cases hp; exact ss_for h1 (set_plain h2) ((hB i cx).s _ h2) ⟨_, _, _, rfl⟩ (ihs a y (by omega) h3)
          · cases hp
        · cases hp
      · rename_i e pos
        simp only [Option.map_eq_some_iff] at hp
        obtain ⟨a, ha, rfl⟩ := hp
        exact ss_ret ((hB e cx).v a ha)
      · cases hp
        exact fun env A m g σ s N Rt R F S W => W.elim
      · cases hp
    · intro sts ps hN hp
      unfold cSs at hp
      split at hp
      · cases hp; exact sss_nil
      · rename_i st r
        simp at hN
        split at hp
        · rename_i a b h1 h2
          cases hp
          exact sss_cons (ih st a (by omega) h1) (ihs r b (by omega) h2)
        · cases hp
end
end Mini

set_option autoImplicit false
namespace Mini
open PySem
theorem zip_lookup {ns : List Str} : ∀ {vs : List Value} {x : Str}, vs.length = ns.length → x ∈ ns → ∃ v, (ns.zip vs).lookup x = some v := by
  induction ns with
  | nil => intro vs x _ h; cases h
  | cons n ns ih =>
    intro vs x hl h
    cases vs with
    | nil => cases hl
    | cons v vs =>
      rw [List.zip_cons_cons, List.lookup_cons]
      split
      · exact ⟨v, rfl⟩
      · rename_i hne
        rcases List.mem_cons.mp h with rfl | h
        · simp at hne
        · exact ih (by simpa using hl) h
theorem fm_congr {α β : Type} {f g : α → Option β} : ∀ (l : List α), (∀ x ∈ l, f x = g x) → l.filterMap f = l.filterMap g
  | [], _ => rfl
  | x :: l, h => by rw [List.filterMap_cons, List.filterMap_cons, h x (.head _), fm_congr l fun y hy => h y (.tail _ hy)]
theorem zip_filterMap {ns : List Str} : ∀ {vs : List Value}, vs.length = ns.length → ns.Nodup → ns.filterMap (fun n => Option.map (fun x => (n, x)) ((ns.zip vs).lookup n)) = ns.zip vs := by
  induction ns with
  | nil => intro vs _ _; rfl
  | cons n ns ih =>
    intro vs hl hn
    cases vs with
    | nil => cases hl
    | cons v vs =>
      rw [List.zip_cons_cons, List.filterMap_cons]
      simp only [List.lookup_cons, beq_self_eq_true, Option.map_some]
      congr 1
      rw [List.nodup_cons] at hn
      refine Eq.trans (fm_congr ns fun x hx => ?_) (ih (vs := vs) (by simpa using hl) hn.2)
      have : (x == n) = false := by rw [beq_eq_false_iff_ne]; rintro rfl; exact hn.1 hx
      rw [this]
theorem bind_all {name : Str} {params : Arguments} {body : List Stmt} {scope : Scope} {pm cd doc : Value} {vals : List Value} (h1 : params.posonlyargs = []) (h2 : params.vararg = none) (h3 : params.kwonlyargs = []) (h4 : params.kwarg = none)
    (hl : vals.length = params.args.length) (hn : (params.args.map (·.arg)).Nodup) : bindArgs (Calls.docDef name params body scope pm cd doc) ⟨vals, []⟩ = pure ((params.args.map (·.arg)).zip vals) := by
  unfold bindArgs Calls.docDef
  have hs : seqItems? Value.none = pure none := rfl
  have hl' : vals.length = (params.args.map (·.arg)).length := by simpa using hl
  simp only [h1, h2, h3, h4, List.map_nil, List.nil_append, List.forIn_nil, pure_bind, hs]
  generalize hN : params.args.map (·.arg) = ns at *
  have hm : ns.filter (fun n => ((ns.zip vals).lookup n).isNone) = [] := by
    rw [List.filter_eq_nil_iff]
    intro x hx
    obtain ⟨v, e⟩ := zip_lookup hl' hx
    simp [e]
  simp [hl', hm, zip_filterMap hl' hn]


/-- a function of the text's own stands in the heap, compiled -/
noncomputable def FnOk (K : Ctx) (pg : Pg) (f : Nat) (fn : Fn) : Prop := ∃ (name : Str) (params : Arguments) (body : List Stmt) (scope : Scope) (pm cd doc : Value) (o : Obj),
  K.hB.get? (K.fa f) = some o ∧ o.data = .func (Calls.docDef name params body scope pm cd doc) ∧ K.hB.CodeRec cd name ∧ cFn pg params scope body = some fn

theorem zipIdx_lookup : ∀ {l : List Str} {i k : Nat} {x : Str}, (l.zipIdx i).lookup x = some k → i ≤ k ∧ l[k - i]? = some x
  | [], _, _, _, h => by simp at h
  | y :: l, i, k, x, h => by
    rw [List.zipIdx_cons, List.lookup_cons] at h
    split at h
    · rename_i he
      cases h
      exact ⟨Nat.le_refl _, by simp at he; simp [he]⟩
    · obtain ⟨h1, h2⟩ := zipIdx_lookup h
      refine ⟨by omega, ?_⟩
      rw [show k - i = (k - (i + 1)) + 1 by omega]
      simpa using h2
theorem bindL_skip {kf : Str → Option NameKind} {x : Str} : ∀ {bs : List (Str × Value)} {m : Str → Option Value}, x ∉ bs.map (·.1) → bindL kf bs m x = m x
  | [], _, _ => rfl
  | (n, v) :: bs, m, h => by
    simp only [List.map_cons, List.mem_cons, not_or] at h
    rw [bindL, bindL_skip h.2]
    split
    · simp [h.1]
    · rfl
theorem bindC_skip {kf : Str → Option NameKind} {x : Str} : ∀ {bs : List (Str × Value)} {m : Str → Option Value}, x ∉ bs.map (·.1) → bindC kf bs m x = m x
  | [], _, _ => rfl
  | (n, v) :: bs, m, h => by
    simp only [List.map_cons, List.mem_cons, not_or] at h
    rw [bindC, bindC_skip h.2]
    split
    · rfl
    · simp [h.1]
theorem bindL_get {kf : Str → Option NameKind} {x : Str} {w : Value} (hk : kf x = some .local) : ∀ {bs : List (Str × Value)} {m : Str → Option Value}, (bs.map (·.1)).Nodup → (x, w) ∈ bs → bindL kf bs m x = some w
  | (n, v) :: bs, m, hn, h => by
    rw [List.map_cons, List.nodup_cons] at hn
    rw [bindL]
    rcases List.mem_cons.mp h with h | h
    · cases h
      rw [bindL_skip hn.1, if_pos hk]; simp
    · exact bindL_get hk hn.2 h
theorem bindC_get {kf : Str → Option NameKind} {x : Str} {w : Value} (hk : kf x ≠ some .local) : ∀ {bs : List (Str × Value)} {m : Str → Option Value}, (bs.map (·.1)).Nodup → (x, w) ∈ bs → bindC kf bs m x = some w
  | (n, v) :: bs, m, hn, h => by
    rw [List.map_cons, List.nodup_cons] at hn
    rw [bindC]
    rcases List.mem_cons.mp h with h | h
    · cases h
      rw [bindC_skip hn.1, if_neg hk]; simp
    · exact bindC_get hk hn.2 h
theorem cells_some {x : Str} : ∀ {names : List (Str × NameKind)} {n : Nat} {acc : List (Str × Addr)}, (∃ c, acc.lookup x = some c) ∨ (x, NameKind.cell) ∈ names → ∃ c, (cellsFrom n names acc).lookup x = some c
  | [], n, acc, h => by
    rcases h with h | h
    · exact h
    · cases h
  | (y, k) :: names, n, acc, h => by
    rw [cellsFrom]
    split
    · refine cells_some ?_
      rcases h with ⟨c, h⟩ | h
      · left
        rw [List.lookup_cons]
        split
        · exact ⟨_, rfl⟩
        · exact ⟨c, h⟩
      · rcases List.mem_cons.mp h with h | h
        · cases h
          left
          exact ⟨n, by simp⟩
        · exact .inr h
    · rename_i hk
      refine cells_some ?_
      rcases h with h | h
      · exact .inl h
      · rcases List.mem_cons.mp h with h | h
        · cases h; simp at hk
        · exact .inr h
theorem get_start {f : Fn} {vs : List V} {k : Nat} {v : V} (h : get (start f vs) k = some v) : vs[k]? = some v := by
  unfold start at h
  generalize f.ns - f.np = j at h
  induction vs generalizing k with
  | nil =>
    exfalso
    simp only [List.map_nil, List.nil_append] at h
    induction j generalizing k with
    | zero => cases h
    | succ j ih => cases k with
      | zero => cases h
      | succ k => exact ih h
  | cons u us ih => cases k with
    | zero => exact h
    | succ k => exact ih h

theorem own_there {K : Ctx} {g : G} {σ : H} {h : Heap} (S : St K g σ h) {b : Addr} (hb : g.own b) : ∃ o, h.get? b = some o := by
  rcases hb with hb | hb
  · exact S.there (List.prefix_refl _) hb
  · exact (S.imm b hb).2.2
theorem lookup_mem {α : Type} : ∀ {l : List (Str × α)} {n : Str} {c : α}, l.lookup n = some c → (n, c) ∈ l := PySem.mem_of_lookup

theorem cFn_some {pg : Pg} {ps : Arguments} {sc : Scope} {body : List Stmt} {fn : Fn} (h : cFn pg ps sc body = some fn) :
    sc.kind = .function ∧ sc.isCoroutine = false ∧ sc.isGenerator = false ∧ ps.posonlyargs = [] ∧ ps.vararg = none ∧ ps.kwonlyargs = [] ∧ ps.kwarg = none ∧ ((slotsOf sc.names).map (·.1)).take ps.args.length = ps.args.map (·.arg) ∧ ((slotsOf sc.names).map (·.1)).Nodup ∧
      (∀ a ∈ ps.args, sc.names.lookup a.arg = some .local ∨ sc.names.lookup a.arg = some .cell) ∧ ∃ b, cSs pg ⟨sc.names, slotsOf sc.names⟩ body = some b ∧ fn = ⟨ps.args.length, (slotsOf sc.names).length + 3, b⟩ := by
  unfold cFn at h
  dsimp only at h
  split at h
  · rename_i hc
    simp only [Bool.and_eq_true, Bool.not_eq_true', beq_iff_eq, List.isEmpty_iff, Option.isNone_iff_eq_none, decide_eq_true_eq, List.all_eq_true, Bool.or_eq_true] at hc
    obtain ⟨⟨⟨⟨⟨⟨⟨⟨⟨⟨h1, h2⟩, h3⟩, h4⟩, h5⟩, h6⟩, h7⟩, h8⟩, h9⟩, h10⟩, h11⟩ := hc
    simp only [Option.map_eq_some_iff] at h
    obtain ⟨b, hb, rfl⟩ := h
    exact ⟨h1, h2, h3, h4, h5, h6, h7, h9, h10, h11, b, hb, rfl⟩
  · cases h

theorem sf_all {K : Ctx} {pg : Pg} (G₀ : Gr K pg) (hΦ : ∀ f fn, K.Φ f = some fn → FnOk K pg f fn) (hfld : pg.hall ≠ "" → K.fields = pg.fields) (hfl : pg.hall = "" → pg.fields = []) : ∀ n, SF K n
  | 0 => fun f A g σ s vs ws Q R S r W => W.elim
  | n + 1 => fun f A g σ s vs ws Q R S r W => by
    have hf := sf_all G₀ hΦ hfld hfl n
    obtain ⟨fn, hfn, hlen, W⟩ := W
    obtain ⟨name, ps, body, sc, pm, cd, doc, o, ho, hd, hcd, hc⟩ := hΦ f fn hfn
    obtain ⟨c1, c2, c3, c4, c5, c6, c7, c8, c9, c10, b, cb, rfl⟩ := cFn_some hc
    have hlen : vs.length = ps.args.length := hlen
    have hwl : ws.length = ps.args.length := r.length ▸ hlen
    have hnd : (ps.args.map (·.arg)).Nodup := c8 ▸ (List.Sublist.nodup (List.take_sublist _ _) c9)
    have hbind := bind_all (name := name) (body := body) (scope := sc) (pm := pm) (cd := cd) (doc := doc) (vals := ws) c4 c5 c6 c7 hwl hnd
    have hslots : (slotsOf sc.names).map (·.1) = (sc.names.filter fun p => p.2 == .local || p.2 == .cell).map (·.1) := by unfold slotsOf; rw [List.zipIdx_map_fst]
    have hsl : ∀ x k, (slotsOf sc.names).lookup x = some k → ((slotsOf sc.names).map (·.1))[k]? = some x := fun x k h => by
      rw [hslots]
      have := (zipIdx_lookup (i := 0) h).2
      simpa using this
    have hkeys : ((ps.args.map (·.arg)).zip ws).map (·.1) = ps.args.map (·.arg) := by
      rw [List.map_fst_zip]; simp [hwl]
    have hbnd : (((ps.args.map (·.arg)).zip ws).map (·.1)).Nodup := by rw [hkeys]; exact hnd
    have hmem : ∀ x k v, (slotsOf sc.names).lookup x = some k → get (start ⟨ps.args.length, (slotsOf sc.names).length + 3, b⟩ vs) k = some v → ∃ w, (x, w) ∈ (ps.args.map (·.arg)).zip ws ∧ VRel K g s.heap v w := fun x k v h1 h2 => by
      have h3 := get_start h2
      obtain ⟨w, h4, h5⟩ := r.get h3
      refine ⟨w, ?_, h5⟩
      have hk : k < ps.args.length := by rw [← hlen]; exact (List.getElem?_eq_some_iff.mp h3).1
      have h6 : (ps.args.map (·.arg))[k]? = some x := by
        rw [← c8, List.getElem?_take, if_pos hk]; exact hsl x k h1
      refine List.mem_of_getElem? (i := k) ?_
      rw [List.getElem?_zip_eq_some]
      exact ⟨h6, h4⟩
    have hbase := fun b o e => S.base b o e
    refine PyProof.Rows.call_cells_ret (args := ws) (o := o) (by have := R.depth; omega) (hbase _ _ ho) hd (G₀.nolimit.at fun o e => hbase _ o e) (hcd.keeps hbase) hbind (fun x hx => ?_) (fun h₁ tk F X => ?_) c2 c3 c1
    · have : x.1 ∈ ps.args.map (·.arg) := by
        rw [← hkeys]; exact List.mem_map_of_mem hx
      obtain ⟨a, ha, e⟩ := List.mem_map.mp this
      have e : a.arg = x.1 := e
      rcases c10 a ha with h | h
      · exact .inl (e ▸ h)
      · refine .inr ⟨e ▸ h, ?_⟩
        obtain ⟨c, hc⟩ := cells_some (n := s.heap.objs.size + 1) (acc := []) (.inr (lookup_mem h))
        rw [← e, hc]; rfl
    · have go₀ : Go K g s.heap g σ h₁ := Go.change S F.keep
      have hno : ∀ c : Addr, (s.heap.objs.size : Nat) ≤ c → s.heap.get? c = none := fun c h => by
        cases e : s.heap.get? c with
        | none => rfl
        | some o => exact absurd (Heap.lt_size e) (Nat.not_lt.mpr h)
      have hpr : ∀ c : Addr, (s.heap.objs.size : Nat) ≤ c → ¬ g.own c ∧ K.hB.get? c = none := fun c h => by
        refine ⟨fun z => ?_, ?_⟩
        · obtain ⟨o, e⟩ := own_there S z
          rw [hno c h] at e; cases e
        · cases e : K.hB.get? c with
          | none => rfl
          | some o => have := S.base c o e; rw [hno c h] at this; cases this
      have hcl : ∀ x c, (cellsFrom (s.heap.objs.size + 1) sc.names []).lookup x = some c → (s.heap.objs.size : Nat) ≤ c := fun x c h => Nat.le_of_lt (X.above x c (lookup_mem h))
      have FR : Fr K (PyProof.Rows.envOfC name sc s.heap.objs.size (K.fa f) cd) ⟨sc.names, slotsOf sc.names⟩ (start ⟨ps.args.length, (slotsOf sc.names).length + 3, b⟩ vs) g h₁ := by
        refine ⟨c1, rfl, rfl, rfl, ⟨_, F.ns, fun x k v h1 h2 h3 => ?_⟩, fun x k h1 h2 => ?_, hpr _ (Nat.le_refl _), fun x c h => ?_, fun x y c h1 h2 => ?_, fun x y k h1 h2 => ?_, fun x k h => ?_, fun j hj => ?_⟩
        · obtain ⟨w, h4, h5⟩ := hmem x k v h1 h3
          exact ⟨w, bindL_get h2 hbnd h4, go₀.rel S h5⟩
        · obtain ⟨c, hc⟩ := cells_some (n := s.heap.objs.size + 1) (acc := []) (.inr (lookup_mem h2))
          refine ⟨c, _, hc, X.cell x c hc, fun v h3 => ?_⟩
          obtain ⟨w, h4, h5⟩ := hmem x k v h1 h3
          exact ⟨w, bindC_get (by show sc.names.lookup x ≠ _; rw [show sc.names.lookup x = some .cell from h2]; intro z; cases z) hbnd h4, go₀.rel S h5⟩
        · exact ⟨(hpr c (hcl x c h)).1, (hpr c (hcl x c h)).2, _, X.cell x c h⟩
        · exact PySem.name_of_addr X.apart (lookup_mem h1) (lookup_mem h2)
        · have a1 := hsl x k h1
          have a2 := hsl y k h2
          rw [a1] at a2; cases a2; rfl
        · have := (List.getElem?_eq_some_iff.mp (hsl x k h)).1
          simpa using this
        · cases e : get (start ⟨ps.args.length, (slotsOf sc.names).length + 3, b⟩ vs) j with
          | none => rfl
          | some v =>
            have h3 := (List.getElem?_eq_some_iff.mp (get_start e)).1
            have h4 : ps.args.length ≤ (slotsOf sc.names).length := by
              have := congrArg List.length c8
              simp at this
              omega
            have hj : (slotsOf sc.names).length ≤ j := hj
            omega
      have R' : Room (A.deeper (PyProof.Rows.envOfC name sc s.heap.objs.size (K.fa f) cd)) n := by
        have h1 := R.depth
        have h2 := R.units
        refine ⟨R.handled, ?_, ?_⟩
        · show A.depth + 1 + 3 * n + 10 < _; omega
        · show A.units + 3 + 10 * n + 300 < _; omega
      have hB : ∀ (e : Expr) (cx : Cx), Ok3 K n cx e (cB pg cx e) := fun e cx => cB_all G₀ hf hfld hfl _ e cx (Nat.lt_succ_self _)
      have body_ok := (cS_all hB _).2 body b (Nat.lt_succ_self _) cb
      refine wpAny_mono (body_ok _ _ _ g σ { s with heap := h₁, toks := tk } _ Q R' FR go₀.st W) (fun fl s' q => ?_) fun _ _ f => f
      have hfp : ∀ b, fpOf (PyProof.Rows.envOfC name sc s.heap.objs.size (K.fa f) cd) b → s.heap.get? b = none := fun b hb => by
        rcases hb with hb | ⟨x, hb⟩
        · rw [hb]; exact hno _ (Nat.le_refl _)
        · exact hno _ (hcl x b hb)
      cases fl with
      | next =>
        obtain ⟨m', g', σ', go, sx, F', W'⟩ := q
        exact ⟨.none, g', σ', (go₀.toX.trans go).toGo hfp, ⟨sx.1, sx.2⟩, rfl, W'⟩
      | ret v =>
        obtain ⟨rr, g', σ', go, sx, rel, W'⟩ := q
        exact ⟨rr, g', σ', (go₀.toX.trans go).toGo hfp, ⟨sx.1, sx.2⟩, rel, W'⟩
      | _ => exact q.elim
end Mini

set_option autoImplicit false
set_option linter.unusedVariables false
namespace Mini
open PySem PyProof.Rows

noncomputable def mkPg (p : Program) (consts : List (Str × Int)) (hall : Str) (fields : List Str) : Pg := ⟨((recsOf p).map (·.name)).zipIdx, consts, hall, fields⟩
noncomputable def phi (p : Program) (pg : Pg) (i : Nat) : Option Fn := match (recsOf p)[i]? with
  | some d => cFn pg d.params d.scope d.body
  | none => none
noncomputable def faOf (p : Program) (mg : Str → Option Value) (i : Nat) : Addr := match (recsOf p)[i]? with
  | some d => (match mg d.name with | some (.ref a) => a | _ => 0)
  | none => 0
noncomputable def mkCtx (prog p : Program) (w : World) (hB : Heap) (mg mb : Str → Option Value) (pg : Pg) (C : Addr) (fields : List Str) : Ctx := ⟨prog, w, hB, mg, mb, phi p pg, faOf p mg, C, fields⟩

/-- what is to be looked at in a text: its names take no builtin's place, its constants are ints -/
noncomputable def textOk (p : Program) (loose : List Str) (pg : Pg) : Bool :=
  blts.all (fun q => !(startupNames.contains q.1) && !(loose.contains q.1) && !(((recsOf p).map (·.name)).contains q.1) && !(((litsOf p).map (·.1)).contains q.1) && !(((clssOf p loose).map (·.name)).contains q.1)) &&
  pg.consts.all fun q => match valOf p q.1 with | some (.int i) => i == q.2 | _ => false
theorem blts_boot : ∀ q ∈ blts, bootBuiltins q.1 = some q.2 := by
  have : blts.all (fun q => match bootBuiltins q.1, q.2 with | some (.builtin a), .builtin b => a == b | some (.type a), .type b => a == b | _, _ => false) = true := by decide +kernel
  intro q hq
  have h := List.all_eq_true.mp this q hq
  split at h
  · rename_i a b h1 h2; rw [h1, h2, beq_iff_eq.mp h]
  · rename_i a b h1 h2; rw [h1, h2, beq_iff_eq.mp h]
  · cases h

section
variable {prog p : Program} {w : World} {hB : Heap} {mg mb : Str → Option Value} {loose : List Str} {mean : ExcName → Option Value} {consts : List (Str × Int)} {hall : Str} {fields : List Str} {C : Addr}

theorem fa_of (T : Top p loose mean mg mb hB) {i : Nat} {d : DefRec} (h : (recsOf p)[i]? = some d) : mg d.name = some (.ref (faOf p mg i)) ∧ ∃ o pm cd doc, hB.get? (faOf p mg i) = some o ∧ o.data = .func (Calls.docDef d.name d.params d.body d.scope pm cd doc) ∧ hB.CodeRec cd d.name := by
  obtain ⟨a, o, pm, cd, doc, h1, h2, h3, h4⟩ := T.fn d (List.mem_of_getElem? h)
  have : faOf p mg i = a := by unfold faOf; rw [h]; simp only [h1]
  rw [this]
  exact ⟨h1, o, pm, cd, doc, h2, h3, h4⟩

theorem fns_ok (T : Top p loose mean mg mb hB) {pg : Pg} : ∀ f fn, (mkCtx prog p w hB mg mb pg C fields).Φ f = some fn → FnOk (mkCtx prog p w hB mg mb pg C fields) pg f fn := fun f fn h => by
  have h : phi p pg f = some fn := h
  unfold phi at h
  split at h
  · rename_i d hd
    obtain ⟨_, o, pm, cd, doc, h2, h3, h4⟩ := fa_of T hd
    exact ⟨d.name, d.params, d.body, d.scope, pm, cd, doc, o, h2, h3, h4, h⟩
  · cases h

theorem gr_of (T : Top p loose mean mg mb hB) (ok : textOk p loose (mkPg p consts hall fields) = true)
    (hhall : hall ≠ "" → mg hall = some (.ref C))
    (hattr : ∀ (A : Around) (s : Shared) (Q : Value → Shared → Prop) (E : Value → Shared → Prop) (b d : Addr) (o : Obj) (vs : List Value) (k : Nat) (f : Str) (w' : Value), (∀ b o, hB.get? b = some o → s.heap.get? b = some o) →
      s.heap.get? b = some { cls := .ref C, dict := some d, data := .plain } → s.heap.get? d = some o → isDictOf o fields vs → fields[k]? = some f → vs[k]? = some w' → (∀ tk, Q w' { s with toks := tk }) →
      wpAny (model prog w) A (getAttr (.ref b) f true) Q E s)
    (hmake : hall ≠ "" → ∀ (A : Around) (n : Nat) (s : Shared) (pos : Pos) (args : List (Bool × Sem Value)) (Q : Value → Shared → Prop) (E : Value → Shared → Prop), Room A n → args.any (·.1) = false →
      wpAny (model prog w) A (evalArgs (.ref C) true args []) (fun a s₁ => a.kw = [] ∧ (∀ b o, hB.get? b = some o → s₁.heap.get? b = some o) ∧ a.pos.length = 5 ∧
        ∀ b d o h' tk, s₁.heap.get? b = none → s₁.heap.get? d = none → h'.get? b = some { cls := .ref C, dict := some d, data := .plain } → h'.get? d = some o → isDictOf o fields a.pos →
          (∀ c o, s₁.heap.get? c = some o → h'.get? c = some o) → Q (.ref b) { s₁ with heap := h', toks := tk }) E s →
      wpAny (model prog w) A (callWith pos (.ref C) [] args []) Q E s) :
    Gr (mkCtx prog p w hB mg mb (mkPg p consts hall fields) C fields) (mkPg p consts hall fields) := by
  simp only [textOk, Bool.and_eq_true, List.all_eq_true] at ok
  refine ⟨T.g, T.b, T.nolimit, fun x v h => ?_, fun x i h => ?_, fun x f h => ?_, fun x hx h0 => ⟨by subst hx; exact hhall h0, rfl⟩, hattr, hmake⟩
  · have hm := lookup_mem h
    have h1 := ok.1 _ hm
    simp only [Bool.not_eq_true', List.contains_eq_mem, decide_eq_false_iff_not] at h1
    obtain ⟨⟨⟨⟨a1, a2⟩, a3⟩, a4⟩, a5⟩ := h1
    refine ⟨T.free x a1 a2 a3 a4 a5, ?_⟩
    have hn : x ≠ "__name__" := fun z => a1 (z ▸ .head _)
    exact (T.builtins x hn).trans (blts_boot _ hm)
  · have h1 := ok.2 _ (lookup_mem h)
    split at h1
    · rename_i j hj
      obtain ⟨v, h2, h3⟩ := T.const x _ hj
      have e : j = i := beq_iff_eq.mp h1
      subst e
      cases h3 hB
      exact ⟨_, h2⟩
    · cases h1
  · have h1 := (zipIdx_lookup (i := 0) h).2
    rw [Nat.sub_zero, List.getElem?_map, Option.map_eq_some_iff] at h1
    obtain ⟨d, hd, rfl⟩ := h1
    obtain ⟨h2, o, pm, cd, doc, h3, h4, h5⟩ := fa_of T hd
    exact ⟨h2, o, _, h3, h4⟩

theorem ints_rels {K : Ctx} {g : G} {h : Heap} {is : List Int} {vs : List Value} (r : IntsAre vs is) : VRels K g h (is.map V.int) vs := by
  induction r with
  | nil => trivial
  | cons n t r ih => exact ⟨⟨_, rfl⟩, ih⟩

/-- the law is called with the script -/
theorem enter {K : Ctx} {pg : Pg} (G₀ : Gr K pg) (hΦ : ∀ f fn, K.Φ f = some fn → FnOk K pg f fn) (hfld : pg.hall ≠ "" → K.fields = pg.fields) (hfl : pg.hall = "" → pg.fields = []) {s₁ : Shared} (hs : K.hB = s₁.heap) {a : Addr} {is : List Int} {vs : List Value} {k : Nat}
    (ho : s₁.heap.get? a = some { cls := .type "list", data := .seq vs.toArray k }) (hi : IntsAre vs is) (hl : is.length ≤ 63) {n : Nat} (hn : n ≤ 40) {li : Nat} {fa : Addr} (hfa : K.fa li = fa) {R : Result → Shared → Prop}
    (hR : ∀ s', (∀ b o, s₁.heap.get? b = some o → s'.heap.get? b = some o) → s'.os = s₁.os → s'.gens = s₁.gens → R (.ok (.ret (.bool true))) s')
    (W : callW K.Φ n li [.ref 0] [is.map V.int] (fun v _ => v = .bool true) noX) : codeAny (model K.prog K.w) callerA (.call (.ref fa) ⟨[.ref a], []⟩) R s₁ := by
  have S : St K ⟨[a], fun _ => False⟩ [is.map V.int] s₁.heap := by
    refine ⟨fun b o e => hs ▸ e, rfl, fun i b xs h1 h2 => ?_, by simp, fun xs h => ?_, fun i b h1 h2 => ?_, fun b h => h.elim⟩
    · cases i with
      | zero =>
        simp at h1 h2
        subst h1 h2
        exact ⟨_, _, ho, ints_rels hi⟩
      | succ i => simp at h1
    · simp at h; subst h; show (is.map V.int).length ≤ 16777216; rw [List.length_map]; omega
    · cases i with
      | zero => exact absurd rfl h2
      | succ i => simp at h1
  have R' : Room callerA n := ⟨rfl, by show 1 + claimMargin + 3 * n + 10 < 1000; have : claimMargin ≤ 800 := by decide +kernel
                                       omega, by show 4 + 10 * n + 300 < 9900; omega⟩
  subst hfa
  refine codeAny_mono (sf_all G₀ hΦ hfld hfl n li callerA ⟨[a], fun _ => False⟩ _ s₁ [.ref 0] [.ref a] _ R' S ⟨⟨a, rfl, rfl⟩, trivial⟩ W) fun r s' q => ?_
  match r, q with
  | .ok (.ret v), ⟨rv, g', σ', go, sx, rel, e⟩ =>
    subst e
    cases rel
    exact hR s' (fun b o e => go.st.base b o (hs ▸ e)) sx.1 sx.2
end
end Mini

set_option autoImplicit false
set_option linter.unusedVariables false
namespace Mini
open PySem PyProof.Rows PySem.W

theorem post_ok (l : OpenLaw) (args : List WData) : l.row.toRowW.claim.post args (.bool true) args = true := by
  show (WShape.has [] (.bool true) .bool && (WTm.eq .res (.lit (.bool true))).holds [] { args := args, res := some (.bool true), after := args }) = true
  with_unfolding_all rfl
theorem reads_ok (l : OpenLaw) (cl : Str → Option Addr) (h : Heap) : ReadsW l.row.toRowW.claim.records cl h (.bool true) (.bool true) [] := by
  constructor
theorem good_ok (l : OpenLaw) {cl : Str → Option Addr} {mean : ExcName → Option Value} {args : List WData} {s₁ s' : Shared} (hg : s₁.gens = #[]) (h1 : ∀ b o, s₁.heap.get? b = some o → s'.heap.get? b = some o) (h2 : s'.os = s₁.os) (h3 : s'.gens = s₁.gens) :
    GoodWG l.row.toRowW.claim cl mean args s₁ (.ok (.ret (.bool true))) s' :=
  GoodW.toG ⟨.inl ⟨_, .bool true, [], rfl, fun _ => rfl, reads_ok l cl _, post_ok l args, fun _ => ⟨.nil, nofun⟩⟩, h1, h2, h3.trans hg⟩
theorem script_obj {P : Params} {h : Heap} {a : Addr} {vs : List Value} {xs : List PyData} (w : Well P h (.ref a) (ofPy (.list xs))) (hl : h.IsList a vs.toArray) : h.get? a = some { cls := .type "list", data := .seq vs.toArray } := by
  obtain ⟨o, ho, hc, n, hd⟩ := hl
  rw [show ofPy (.list xs) = .list (ofPys xs) from by simp only [ofPy]] at w
  cases w with
  | list h1 h2 =>
    rw [ho] at h1
    cases h1
    cases hd
    exact ho

/-- the claim, of a text without a class -/
theorem law_plain {l : OpenLaw} {p : Program} {loose : List Str} {w : World} {mean : ExcName → Option Value} {cl : Str → Option Addr} {mg mb : Str → Option Value} {s₁ : Shared} {consts : List (Str × Int)} {is : List Int} {vs : List Value} {a fa : Addr} {n li : Nat} {args : List WData} {prog : Program} {d : DefRec}
    (T : Top p loose mean mg mb s₁.heap) (ok : textOk p loose (mkPg p consts "" []) = true) (hw : Well w.params s₁.heap (.ref a) (ofPy (.list (is.map .int)))) (hl : s₁.heap.IsList a vs.toArray) (hi : IntsAre vs is) (hlen : is.length ≤ 63) (hg : s₁.gens = #[])
    (hmg : mg d.name = some (.ref fa)) (hd : (recsOf p)[li]? = some d) (hn : n ≤ 40) (W : callW (phi p (mkPg p consts "" [])) n li [.ref 0] [is.map V.int] (fun v _ => v = .bool true) noX) :
    codeAny (model prog w) callerA (.call (.ref fa) ⟨[.ref a], []⟩) (GoodWG l.row.toRowW.claim cl mean args s₁) s₁ := by
  refine enter (K := mkCtx prog p w s₁.heap mg mb (mkPg p consts "" []) 0 []) (gr_of T ok (fun z => absurd rfl z) (fun _ _ _ _ _ _ _ _ _ _ _ _ _ _ _ z => by cases z) (fun z => absurd rfl z)) (fns_ok T) (fun z => absurd rfl z) (fun _ => rfl) rfl (script_obj hw hl) hi hlen hn (li := li) ?_ (fun s' h1 h2 h3 => good_ok l hg h1 h2 h3) W
  have := (fa_of T hd).1
  rw [hmg] at this; cases this; rfl
end Mini

set_option autoImplicit false
set_option linter.unusedVariables false
namespace Mini

theorem forL_go {B : M → H → (M → H → Prop) → Prop} {xs : List Nat} {ok : H → Prop} {N : M → H → Prop} (I : Nat → M → H → Prop) :
    ∀ (its : List V) (k : Nat), (∀ i v m σ K, its[i]? = some v → I (k + i) m σ → (∀ m σ, I (k + i + 1) m σ → K m σ) → ok σ ∧ ∃ m', bindV xs m v = some m' ∧ B m' σ K) →
    (∀ m σ, I (k + its.length) m σ → ok σ ∧ N m σ) → ∀ m σ, I k m σ → forL B xs ok N its m σ
  | [], k, _, fin, m, σ, h => fin m σ h
  | v :: vs, k, step, fin, m, σ, h => by
    refine step 0 v m σ _ rfl h fun m σ h' => ?_
    refine forL_go I vs (k + 1) (fun i v m σ K e hi hK => step (i + 1) v m σ K (by simpa using e) (by rw [show k + (i + 1) = k + 1 + i by omega]; exact hi) (fun m σ q => hK m σ (by rw [show k + 1 + i + 1 = k + (i + 1) + 1 by omega]; exact q))) (fun m σ q => fin m σ (by rw [show k + (v :: vs).length = k + 1 + vs.length by simp; omega]; exact q)) m σ h'
theorem forL_rule {B : M → H → (M → H → Prop) → Prop} {xs : List Nat} {ok : H → Prop} {N : M → H → Prop} (I : Nat → M → H → Prop) {its : List V} {m : M} {σ : H}
    (h0 : I 0 m σ) (step : ∀ i v m σ K, its[i]? = some v → I i m σ → (∀ m σ, I (i + 1) m σ → K m σ) → ok σ ∧ ∃ m', bindV xs m v = some m' ∧ B m' σ K)
    (fin : ∀ m σ, I its.length m σ → ok σ ∧ N m σ) : forL B xs ok N its m σ :=
  forL_go I its 0 (fun i v m σ K e hi hK => step i v m σ K e (by simpa using hi) (fun m σ q => hK m σ (by simpa using q))) (fun m σ q => fin m σ (by simpa using q)) m σ h0
theorem while_go {T : M → H → (Bool → H → Prop) → Prop} {B : M → H → (M → H → Prop) → Prop} {N : M → H → Prop} (I : Nat → M → H → Prop)
    (step : ∀ k m σ (K : M → H → Prop), I k m σ → (∀ j m σ, j < k → I j m σ → K m σ) → T m σ (fun b σ => if b then B m σ K else N m σ)) : ∀ n k m σ, k < n → I k m σ → whileN T B N n m σ
  | 0, _, _, _, h, _ => absurd h (Nat.not_lt_zero _)
  | n + 1, k, m, σ, h, hi => step k m σ _ hi fun j m σ hj hi' => while_go I step n j m σ (by omega) hi'
theorem while_rule {T : M → H → (Bool → H → Prop) → Prop} {B : M → H → (M → H → Prop) → Prop} {N : M → H → Prop} (I : Nat → M → H → Prop) {k : Nat} {m : M} {σ : H} (h0 : I k m σ)
    (step : ∀ k m σ (K : M → H → Prop), I k m σ → (∀ j m σ, j < k → I j m σ → K m σ) → T m σ (fun b σ => if b then B m σ K else N m σ)) : ∃ n, whileN T B N n m σ := ⟨k + 1, while_go I step (k + 1) k m σ (Nat.lt_succ_self _) h0⟩
theorem rangeV_get {n : Int} {i : Nat} {v : V} (h : (rangeV n)[i]? = some v) : v = .int i ∧ (i : Int) < n := by
  unfold rangeV at h
  rw [List.getElem?_map, Option.map_eq_some_iff] at h
  obtain ⟨j, h1, h2⟩ := h
  rw [List.getElem?_eq_some_iff] at h1
  obtain ⟨h3, h4⟩ := h1
  rw [List.getElem_range] at h4
  rw [List.length_range] at h3
  subst h4
  exact ⟨h2.symm, by omega⟩
theorem e_add {a b : Int} {σ : H} {Q : P} : binop .add (.int a) (.int b) σ Q = Q (.int (a + b)) σ := rfl
theorem e_sub {a b : Int} {σ : H} {Q : P} : binop .sub (.int a) (.int b) σ Q = Q (.int (a - b)) σ := rfl
theorem e_mul {a b : Int} {σ : H} {Q : P} : binop .mul (.int a) (.int b) σ Q = ((-(2 ^ 63) < b ∧ b < 2 ^ 63) ∧ Q (.int (a * b)) σ) := rfl
theorem e_fdiv {a b : Int} {σ : H} {Q : P} : binop .fdiv (.int a) (.int b) σ Q = ((0 < b ∧ b < 1073741824) ∧ Q (.int (a / b)) σ) := rfl
theorem e_mod {a b : Int} {σ : H} {Q : P} : binop .mod (.int a) (.int b) σ Q = (0 < b ∧ Q (.int (a % b)) σ) := rfl
theorem e_cat {a b : Nat} {σ : H} {Q : P} : binop .add (.ref a) (.ref b) σ Q = ∃ xs ys, σ[a]? = some xs ∧ σ[b]? = some ys ∧ alloc (xs ++ ys) σ Q := rfl
theorem e_rep {a : Nat} {k : Int} {σ : H} {Q : P} : binop .mul (.ref a) (.int k) σ Q = ∃ xs, σ[a]? = some xs ∧ k < 2 ^ 24 ∧ -(2 ^ 24) < k ∧ alloc (List.replicate k.toNat xs).flatten σ Q := rfl
theorem e_lt {a b : Int} {σ : H} {Q : P} : cmpop .lt (.int a) (.int b) σ Q = Q (.bool (decide (a < b))) σ := rfl
theorem e_le {a b : Int} {σ : H} {Q : P} : cmpop .le (.int a) (.int b) σ Q = Q (.bool (decide (a ≤ b))) σ := rfl
theorem e_gt {a b : Int} {σ : H} {Q : P} : cmpop .gt (.int a) (.int b) σ Q = Q (.bool (decide (b < a))) σ := rfl
theorem e_ge {a b : Int} {σ : H} {Q : P} : cmpop .ge (.int a) (.int b) σ Q = Q (.bool (decide (b ≤ a))) σ := rfl
theorem e_eq {a b : Int} {σ : H} {Q : P} (h : Q (.bool (decide (a = b))) σ) : cmpop .eq (.int a) (.int b) σ Q := ⟨.int a, .int b, rfl, rfl, fun c hc => by
  have : c = decide (a = b) := by
    rw [Bool.eq_iff_iff, hc]; simp
  rw [this]; exact h⟩
theorem e_ne {a b : Int} {σ : H} {Q : P} (h : Q (.bool (decide (a ≠ b))) σ) : cmpop .ne (.int a) (.int b) σ Q := ⟨.int a, .int b, rfl, rfl, fun c hc => by
  have : c = decide (a ≠ b) := by
    rw [Bool.eq_iff_iff, hc]; simp
  rw [this]; exact h⟩
theorem e_seq {a b : Nat} {σ : H} {Q : P} (h : Q (.bool (decide (a = b))) σ) : cmpop .eq (.str a) (.str b) σ Q := ⟨.str a, .str b, rfl, rfl, fun c hc => by
  have : c = decide (a = b) := by
    rw [Bool.eq_iff_iff, hc]; simp
  rw [this]; exact h⟩
theorem e_sne {a b : Nat} {σ : H} {Q : P} (h : Q (.bool (decide (a ≠ b))) σ) : cmpop .ne (.str a) (.str b) σ Q := ⟨.str a, .str b, rfl, rfl, fun c hc => by
  have : c = decide (a ≠ b) := by
    rw [Bool.eq_iff_iff, hc]; simp
  rw [this]; exact h⟩
theorem e_tru {K : Bool → H → Prop} {b : Bool} {σ : H} : truthy K (.bool b) σ = K b σ := rfl
theorem e_len {a : Nat} {σ : H} {Q : P} : bi1 .len (.ref a) σ Q = ∃ xs, σ[a]? = some xs ∧ Q (.int xs.length) σ := rfl
theorem e_lenT {xs : List V} {σ : H} {Q : P} : bi1 .len (.tup xs) σ Q = (xs.length ≤ lim ∧ Q (.int xs.length) σ) := rfl
theorem e_list {a : Nat} {σ : H} {Q : P} : bi1 .list (.ref a) σ Q = ∃ xs, σ[a]? = some xs ∧ alloc xs σ Q := rfl
theorem e_intOf {b : Bool} {σ : H} {Q : P} : bi1 .intOf (.bool b) σ Q = Q (.int (if b then 1 else 0)) σ := rfl
theorem e_rev {a : Nat} {σ : H} {Q : P} : me0 .reverse (.ref a) σ Q = ∃ xs, a ≠ 0 ∧ σ[a]? = some xs ∧ Q .none (σ.set a xs.reverse) := rfl
theorem e_clear {a : Nat} {σ : H} {Q : P} : me0 .clear (.ref a) σ Q = ∃ xs, a ≠ 0 ∧ σ[a]? = some xs ∧ Q .none (σ.set a []) := rfl
theorem e_app {a : Nat} {v : V} {σ : H} {Q : P} : me1 .append (.ref a) v σ Q = ∃ xs, a ≠ 0 ∧ σ[a]? = some xs ∧ xs.length < lim ∧ Q .none (σ.set a (xs ++ [v])) := rfl
theorem e_pop {a : Nat} {k : Int} {σ : H} {Q : P} : me1 .pop (.ref a) (.int k) σ Q = ∃ xs v, a ≠ 0 ∧ σ[a]? = some xs ∧ 0 ≤ k ∧ xs[k.toNat]? = some v ∧ Q v (σ.set a (xs.eraseIdx k.toNat)) := rfl
theorem e_ref {a : Nat} : isRef (.ref a) = True := rfl
theorem e_item {a : Nat} {k : Int} {σ : H} {Q : P} : item (.ref a) (.int k) σ Q = ∃ xs v, σ[a]? = some xs ∧ ((0 ≤ k ∧ xs[k.toNat]? = some v) ∨ (k < 0 ∧ 0 ≤ k + xs.length ∧ xs[(k + xs.length).toNat]? = some v)) ∧ Q v σ := rfl
theorem e_itemT {xs : List V} {k : Int} {σ : H} {Q : P} : item (.tup xs) (.int k) σ Q = ((0 ≤ k ∧ k < 2 ^ 62) ∧ ∃ v, xs[k.toNat]? = some v ∧ Q v σ) := rfl
theorem e_from {a : Nat} {k : Int} {σ : H} {Q : P} : sliceFrom (.ref a) (.int k) σ Q = ∃ xs, σ[a]? = some xs ∧ 0 ≤ k ∧ alloc (xs.drop k.toNat) σ Q := rfl
theorem e_to {a : Nat} {k : Int} {σ : H} {Q : P} : sliceTo (.ref a) (.int k) σ Q = ∃ xs, σ[a]? = some xs ∧ 0 ≤ k ∧ alloc (xs.take k.toNat) σ Q := rfl
theorem e_field {xs : List V} {k : Nat} {σ : H} {Q : P} : field (.inst xs) k σ Q = ∃ v, xs[k]? = some v ∧ Q v σ := rfl
theorem rangeV_length (n : Int) : (rangeV n).length = n.toNat := by simp [rangeV]
theorem WSs_append {c : Cal} {B : List S} {x : X} {N : M → H → Prop} {Rt : P} : ∀ {A : List S} {m : M} {σ : H}, WSs c A x m σ (fun m σ => WSs c B x m σ N Rt) Rt → WSs c (A ++ B) x m σ N Rt
  | [], _, _, h => h
  | s :: A, m, σ, h => by
    have e : (fun m σ => WSs c (A ++ B) x m σ N Rt) = fun m σ => WSs c A x m σ (fun m σ => WSs c B x m σ N Rt) Rt := by
      funext m σ
      exact propext ⟨fun h => WSs_split h, fun h => WSs_append h⟩
    rw [List.cons_append, WSs, e]
    exact h
where
  WSs_split : ∀ {A : List S} {m : M} {σ : H}, WSs c (A ++ B) x m σ N Rt → WSs c A x m σ (fun m σ => WSs c B x m σ N Rt) Rt
    | [], _, _, h => h
    | s :: A, m, σ, h => by
      have e : (fun m σ => WSs c (A ++ B) x m σ N Rt) = fun m σ => WSs c A x m σ (fun m σ => WSs c B x m σ N Rt) Rt := by
        funext m σ
        exact propext ⟨fun h => WSs_split h, fun h => WSs_append h⟩
      rw [List.cons_append, WSs, e] at h
      exact h
end Mini

set_option autoImplicit false
set_option linter.unusedVariables false
namespace Mini
section
variable {c : Cal} {x : X} {m : M} {σ : H} {N : M → H → Prop} {R Q : P} {ss : List S} {K : Bool → H → Prop}

noncomputable def unK (m : M) (ys : List Nat) (L : M → H → Prop) : P := fun v σ => match v with
    | .tup vs => ∃ m', puts m ys vs = some m' ∧ L m' σ
    | _ => False
noncomputable def puK (m : M) (L : M → H → Prop) (v : V) (w k : V) (σ : H) : Prop := match w, k with
    | .ref a, .int k => ∃ xs, a ≠ 0 ∧ σ[a]? = some xs ∧ 0 ≤ k ∧ k < xs.length ∧ L m (σ.set a (xs.set k.toNat v))
    | _, _ => False
theorem s_nil (h : N m σ) : WSs c [] x m σ N R := h
theorem s_set {y : Nat} {e : E} (h : WE c x e m σ fun v σ => WSs c ss x (put m y v) σ N R) : WSs c (.set y e :: ss) x m σ N R := h
theorem s_unpack {ys : List Nat} {e : E} (h : WE c x e m σ (unK m ys fun m σ => WSs c ss x m σ N R)) : WSs c (.unpack ys e :: ss) x m σ N R := h
theorem s_unK {ys : List Nat} {L : M → H → Prop} {vs : List V} {m' : M} (e : puts m ys vs = some m') (h : L m' σ) : unK m ys L (.tup vs) σ := ⟨m', e, h⟩
theorem s_put {a i e : E} (h : WE c x e m σ fun v σ => WE c x a m σ fun w σ => WE c x i m σ fun k σ => puK m (fun m σ => WSs c ss x m σ N R) v w k σ) : WSs c (.put a i e :: ss) x m σ N R := h
theorem s_puK {L : M → H → Prop} {v : V} {a : Nat} {k : Int} {xs : List V} (ha : a ≠ 0) (hx : σ[a]? = some xs) (h0 : 0 ≤ k) (h1 : k < xs.length) (h : L m (σ.set a (xs.set k.toNat v))) : puK m L v (.ref a) (.int k) σ := ⟨xs, ha, hx, h0, h1, h⟩
theorem s_expr {e : E} (h : WE c x e m σ fun _ σ => WSs c ss x m σ N R) : WSs c (.expr e :: ss) x m σ N R := h
theorem s_ite {t : E} {a b : List S} (h : WT c x t m σ fun q σ => if q then WSs c a x m σ (fun m σ => WSs c ss x m σ N R) R else WSs c b x m σ (fun m σ => WSs c ss x m σ N R) R) : WSs c (.ite t a b :: ss) x m σ N R := h
theorem s_if1 {t : E} {a : List S} (h : WT c x t m σ fun q σ => if q then WSs c a x m σ (fun m σ => WSs c ss x m σ N R) R else WSs c ss x m σ N R) : WSs c (.ite t a [] :: ss) x m σ N R := h
theorem s_while {t : E} {b : List S} (h : ∃ n, whileN (fun m σ K => WT c x t m σ K) (fun m σ K => WSs c b x m σ K R) (fun m σ => WSs c ss x m σ N R) n m σ) : WSs c (.while t b :: ss) x m σ N R := h
theorem s_for {ys : List Nat} {s : Src} {b : List S} (h : WSrc c x s m σ fun its ok σ => forL (fun m σ K => WSs c b x m σ K R) ys ok (fun m σ => WSs c ss x m σ N R) its m σ) : WSs c (.for ys s b :: ss) x m σ N R := h
theorem s_ret {e : E} (h : WE c x e m σ R) : WSs c (.ret e :: ss) x m σ N R := h
theorem s_raise {k : Nat} (h : x k σ) : WSs c (.raise k :: ss) x m σ N R := h

theorem x_none (h : Q .none σ) : WE c x .none m σ Q := h
theorem x_bool {b : Bool} (h : Q (.bool b) σ) : WE c x (.bool b) m σ Q := h
theorem x_int {i : Int} (h : Q (.int i) σ) : WE c x (.int i) m σ Q := h
theorem x_str {k : Nat} (h : Q (.str k) σ) : WE c x (.str k) m σ Q := h
theorem x_var {y : Nat} {v : V} (e : get m y = some v) (h : Q v σ) : WE c x (.var y) m σ Q := ⟨v, e, h⟩
theorem x_bin {o : Bin} {a b : E} (h : WE c x a m σ fun v σ => WE c x b m σ fun w σ => binop o v w σ Q) : WE c x (.bin o a b) m σ Q := h
theorem x_neg {i : Int} (h : Q (.int (-i)) σ) : WE c x (.neg (.int i)) m σ Q := h
theorem x_not {a : E} (h : WE c x a m σ (truthy fun b σ => Q (.bool (!b)) σ)) : WE c x (.not a) m σ Q := h
theorem x_and {a b : E} (h : WE c x a m σ (truthy fun t σ => if t then WE c x b m σ Q else Q (.bool false) σ)) : WE c x (.and a b) m σ Q := h
theorem x_or {a b : E} (h : WE c x a m σ (truthy fun t σ => if t then Q (.bool true) σ else WE c x b m σ Q)) : WE c x (.or a b) m σ Q := h
theorem x_cmp {o : Cmp} {a b : E} (h : WE c x a m σ fun v σ => WE c x b m σ fun w σ => cmpop o v w σ Q) : WE c x (.cmp o a b) m σ Q := h
theorem x_ite {t a b : E} (h : WT c x t m σ fun q σ => if q then WE c x a m σ Q else WE c x b m σ Q) : WE c x (.ite t a b) m σ Q := h
theorem x_call {f : Nat} {as : List E} (h : WEs c x as m σ fun vs σ => c f vs σ Q x) : WE c x (.call f as) m σ Q := h
theorem x_hall {as : List E} (h : WEs c x as m σ fun vs σ => vs.length = 5 ∧ Q (.inst vs) σ) : WE c x (.hall as) m σ Q := h
theorem x_b1 {f : B1} {a : E} (h : WE c x a m σ fun v σ => bi1 f v σ Q) : WE c x (.b1 f a) m σ Q := h
noncomputable def mxK (Q : P) (v w : V) (σ : H) : Prop := match v, w with
    | .int i, .int j => Q (.int (max i j)) σ
    | _, _ => False
theorem x_max2 {a b : E} (h : WE c x a m σ fun v σ => WE c x b m σ fun w σ => mxK Q v w σ) : WE c x (.max2 a b) m σ Q := h
theorem x_mxK {i j : Int} (h : Q (.int (max i j)) σ) : mxK Q (.int i) (.int j) σ := h
noncomputable def lrK (Q : P) : P := fun v σ => match v with
    | .int n => (0 ≤ n ∧ n < 2 ^ 24) ∧ alloc (rangeV n) σ Q
    | _ => False
theorem x_lr {a : E} (h : WE c x a m σ (lrK Q)) : WE c x (.listRange a) m σ Q := h
theorem x_lrK {n : Int} (h : 0 ≤ n ∧ n < 2 ^ 24) (h2 : Q (.ref σ.length) (σ ++ [rangeV n])) : lrK Q (.int n) σ := ⟨h, by rw [rangeV_length]; unfold lim; omega, h2⟩
theorem x_isinst {a : E} {k : Kd} (h : WE c x a m σ fun v σ => ∃ b, isKd k v = some b ∧ Q (.bool b) σ) : WE c x (.isinst a k) m σ Q := h
theorem x_attr {a : E} {k : Nat} (h : WE c x a m σ fun v σ => field v k σ Q) : WE c x (.attr a k) m σ Q := h
theorem x_field {xs : List V} {k : Nat} {v : V} (e : xs[k]? = some v) (h : Q v σ) : field (.inst xs) k σ Q := ⟨v, e, h⟩
theorem x_idx {a b : E} (h : WE c x a m σ fun v σ => WE c x b m σ fun w σ => item v w σ Q) : WE c x (.idx a b) m σ Q := h
theorem x_item {a k : Nat} {xs : List V} {v : V} (hx : σ[a]? = some xs) (hv : xs[k]? = some v) (h : Q v σ) : item (.ref a) (.int k) σ Q := ⟨xs, v, hx, .inl ⟨by omega, by simpa using hv⟩, h⟩
theorem x_itemT {k : Nat} {xs : List V} {v : V} (hk : k < 100) (hv : xs[k]? = some v) (h : Q v σ) : item (.tup xs) (.int k) σ Q := ⟨by omega, v, by simpa using hv, h⟩
theorem x_from {a b : E} (h : WE c x a m σ fun v σ => WE c x b m σ fun w σ => sliceFrom v w σ Q) : WE c x (.from_ a b) m σ Q := h
theorem x_upto {a b : E} (h : WE c x a m σ fun v σ => WE c x b m σ fun w σ => sliceTo v w σ Q) : WE c x (.upto a b) m σ Q := h
theorem x_disp {as : List E} (h : WEs c x as m σ fun vs σ => alloc vs σ Q) : WE c x (.disp as) m σ Q := h
theorem x_tup {as : List E} (h : WEs c x as m σ fun vs σ => Q (.tup vs) σ) : WE c x (.tup as) m σ Q := h
theorem x_m0 {f : M0} {a : E} (h : WE c x a m σ fun v σ => me0 f v σ Q) : WE c x (.m0 f a) m σ Q := h
theorem x_m1 {f : M1} {a b : E} (h : WE c x a m σ fun v σ => isRef v ∧ WE c x b m σ fun w σ => me1 f v w σ Q) : WE c x (.m1 f a b) m σ Q := h
theorem x_isRef {a : Nat} {p : Prop} (h : p) : isRef (.ref a) ∧ p := ⟨trivial, h⟩
theorem x_comp {e : E} {y : Nat} {s : Src} (h : WSrc c x s m σ fun its ok σ => compL (fun _ σ K => K true σ) (fun v σ Q => WE c x e (put m y v) σ Q) ok its [] σ Q) : WE c x (.comp e y s) m σ Q := h
theorem x_compIf {e t : E} {y : Nat} {s : Src} (h : WSrc c x s m σ fun its ok σ => compL (fun v σ K => WT c x t (put m y v) σ K) (fun v σ Q => WE c x e (put m y v) σ Q) ok its [] σ Q) : WE c x (.compIf e y s t) m σ Q := h

theorem t_not {a : E} (h : WT c x a m σ fun b σ => K (!b) σ) : WT c x (.not a) m σ K := h
theorem t_and {a b : E} (h : WT c x a m σ fun t σ => if t then WT c x b m σ K else K false σ) : WT c x (.and a b) m σ K := h
theorem t_or {a b : E} (h : WT c x a m σ fun t σ => if t then K true σ else WT c x b m σ K) : WT c x (.or a b) m σ K := h
theorem t_cmp {o : Cmp} {a b : E} (h : WE c x a m σ fun v σ => WE c x b m σ fun w σ => cmpop o v w σ (truthy K)) : WT c x (.cmp o a b) m σ K := h
theorem t_cmp2 {o p : Cmp} {a b d : E} (h : WE c x a m σ fun v σ => WE c x b m σ fun w σ => cmpop o v w σ (truthy fun t σ => if t then WE c x d m σ fun u σ => cmpop p w u σ (truthy K) else K false σ)) : WT c x (.cmp2 o a b p d) m σ K := h
theorem t_bool {b : Bool} (h : K b σ) : WT c x (.bool b) m σ K := h
theorem t_var {y : Nat} {v : V} (e : get m y = some v) (h : truthy K v σ) : WT c x (.var y) m σ K := ⟨v, e, h⟩
theorem t_call {f : Nat} {as : List E} (h : WEs c x as m σ fun vs σ => c f vs σ (truthy K) x) : WT c x (.call f as) m σ K := h
theorem t_isinst {a : E} {k : Kd} (h : WE c x a m σ fun v σ => ∃ b, isKd k v = some b ∧ K b σ) : WT c x (.isinst a k) m σ K := h
theorem x_kd {v : V} {k : Kd} {b : Bool} {L : Bool → Prop} (e : isKd k v = some b) (h : L b) : ∃ b, isKd k v = some b ∧ L b := ⟨b, e, h⟩
theorem l_nil {K : List V → H → Prop} (h : K [] σ) : WEs c x [] m σ K := h
theorem l_cons {e : E} {es : List E} {K : List V → H → Prop} (h : WE c x e m σ fun v σ => WEs c x es m σ fun vs σ => K (v :: vs) σ) : WEs c x (e :: es) m σ K := h
section
variable {L : List V → (H → Prop) → H → Prop}
noncomputable def lsK (L : List V → (H → Prop) → H → Prop) : P := fun v σ => match v with
    | .ref a => ∃ xs, σ[a]? = some xs ∧ L xs (fun σ => σ[a]? = some xs) σ
    | _ => False
theorem r_list {a : E} (h : WE c x a m σ (lsK L)) : WSrc c x (.list a) m σ L := h
theorem r_lsK {a : Nat} {xs : List V} (hx : σ[a]? = some xs) (h : L xs (fun σ => σ[a]? = some xs) σ) : lsK L (.ref a) σ := ⟨xs, hx, h⟩
noncomputable def rgK (L : List V → (H → Prop) → H → Prop) : P := fun v σ => match v with
    | .int n => (0 ≤ n ∧ n < 2 ^ 24) ∧ L (rangeV n) (fun _ => True) σ
    | _ => False
theorem r_range {a : E} (h : WE c x a m σ (rgK L)) : WSrc c x (.range a) m σ L := h
theorem r_rgK {n : Int} (hn : 0 ≤ n ∧ n < 2 ^ 24) (h : L (rangeV n) (fun _ => True) σ) : rgK L (.int n) σ := ⟨hn, h⟩
noncomputable def enK (L : List V → (H → Prop) → H → Prop) : P := fun v σ => match v with
    | .ref a => ∃ xs, σ[a]? = some xs ∧ L (enumV 0 xs) (fun σ => σ[a]? = some xs) σ
    | _ => False
theorem r_enum {a : E} (h : WE c x a m σ (enK L)) : WSrc c x (.enum a) m σ L := h
theorem r_enK {a : Nat} {xs : List V} (hx : σ[a]? = some xs) (h : L (enumV 0 xs) (fun σ => σ[a]? = some xs) σ) : enK L (.ref a) σ := ⟨xs, hx, h⟩
end
theorem b_add {a b : Int} (h : Q (.int (a + b)) σ) : binop .add (.int a) (.int b) σ Q := h
theorem b_sub {a b : Int} (h : Q (.int (a - b)) σ) : binop .sub (.int a) (.int b) σ Q := h
theorem b_mul {a b : Int} (h1 : -(2 ^ 63) < b ∧ b < 2 ^ 63) (h : Q (.int (a * b)) σ) : binop .mul (.int a) (.int b) σ Q := ⟨h1, h⟩
theorem b_fdiv {a b : Int} (h1 : 0 < b ∧ b < 1073741824) (h : Q (.int (a / b)) σ) : binop .fdiv (.int a) (.int b) σ Q := ⟨h1, h⟩
theorem b_mod {a b : Int} (h1 : 0 < b) (h : Q (.int (a % b)) σ) : binop .mod (.int a) (.int b) σ Q := ⟨h1, h⟩
theorem c_lt {a b : Int} (h : Q (.bool (decide (a < b))) σ) : cmpop .lt (.int a) (.int b) σ Q := h
theorem c_le {a b : Int} (h : Q (.bool (decide (a ≤ b))) σ) : cmpop .le (.int a) (.int b) σ Q := h
theorem c_gt {a b : Int} (h : Q (.bool (decide (b < a))) σ) : cmpop .gt (.int a) (.int b) σ Q := h
theorem c_ge {a b : Int} (h : Q (.bool (decide (b ≤ a))) σ) : cmpop .ge (.int a) (.int b) σ Q := h
theorem x_t0 {v : V} {r : List V} (h : Q v σ) : item (.tup (v :: r)) (.int 0) σ Q := ⟨by omega, v, rfl, h⟩
theorem x_t1 {u v : V} {r : List V} (h : Q v σ) : item (.tup (u :: v :: r)) (.int 1) σ Q := ⟨by omega, v, rfl, h⟩
theorem x_t2 {t u v : V} {r : List V} (h : Q v σ) : item (.tup (t :: u :: v :: r)) (.int 2) σ Q := ⟨by omega, v, rfl, h⟩
theorem a_disp {vs : List V} (e : Nat.ble vs.length 1000 = true) (h : Q (.ref σ.length) (σ ++ [vs])) : alloc vs σ Q := ⟨Nat.le_trans (Nat.le_of_ble_eq_true e) (by decide), h⟩
theorem b_len {a : Nat} {xs : List V} (hx : σ[a]? = some xs) (h : Q (.int xs.length) σ) : bi1 .len (.ref a) σ Q := ⟨xs, hx, h⟩
theorem b_list {a : Nat} {xs : List V} (hx : σ[a]? = some xs) (hl : xs.length ≤ lim) (h : Q (.ref σ.length) (σ ++ [xs])) : bi1 .list (.ref a) σ Q := ⟨xs, hx, hl, h⟩
theorem x_it {a : Nat} {k : Int} {xs : List V} {v : V} (hx : σ[a]? = some xs) (hk : 0 ≤ k) (hv : xs[k.toNat]? = some v) (h : Q v σ) : item (.ref a) (.int k) σ Q := ⟨xs, v, hx, .inl ⟨hk, hv⟩, h⟩
theorem k_tru {b : Bool} (h : K b σ) : truthy K (.bool b) σ := h
theorem k_dec {p : Prop} [Decidable p] {A B : Prop} (h1 : p → A) (h2 : ¬ p → B) : if decide p = true then A else B := by
  by_cases h : p
  · simp only [h, decide_true, if_true]; exact h1 h
  · simp only [h, decide_false, Bool.false_eq_true, if_false]; exact h2 h
theorem k_yes {A B : Prop} (h : A) : if true = true then A else B := by simpa using h
theorem k_no {A B : Prop} (h : B) : if false = true then A else B := by simpa using h
theorem k_pos {p : Prop} [Decidable p] {A B : Prop} (hp : p) (h : A) : if decide p = true then A else B := k_dec (fun _ => h) (fun z => absurd hp z)
theorem k_neg {p : Prop} [Decidable p] {A B : Prop} (hp : ¬ p) (h : B) : if decide p = true then A else B := k_dec (fun z => absurd z hp) (fun _ => h)
theorem k_npos {p : Prop} [Decidable p] {A B : Prop} (hp : p) (h : B) : if (!decide p) = true then A else B := by simpa [hp] using h
theorem k_nneg {p : Prop} [Decidable p] {A B : Prop} (hp : ¬ p) (h : A) : if (!decide p) = true then A else B := by simpa [hp] using h
theorem k_nyes {A B : Prop} (h : B) : if (!true) = true then A else B := by simpa using h
theorem k_nno {A B : Prop} (h : A) : if (!false) = true then A else B := by simpa using h
end
end Mini

set_option autoImplicit false
set_option linter.unusedVariables false
set_option linter.unusedSimpArgs false
local macro_rules | `(tactic| walk_at "v") => `(tactic| ((repeat (first | with_reducible refine Mini.x_var (by with_unfolding_all rfl) ?_ | with_reducible refine Mini.l_cons ?_ | with_reducible refine Mini.l_nil ?_ | with_reducible refine Mini.x_int ?_ | with_reducible refine Mini.x_bin ?_ | with_reducible refine Mini.b_add ?_ | with_reducible refine Mini.x_attr ?_ | with_reducible refine Mini.x_field (by with_unfolding_all rfl) ?_ | with_reducible refine Mini.x_idx ?_ | with_reducible refine Mini.s_set ?_ | with_reducible refine Mini.s_nil ?_ | with_reducible refine Mini.s_unpack ?_ | with_reducible refine Mini.s_put ?_ | with_reducible refine Mini.s_expr ?_ | with_reducible refine Mini.s_if1 ?_ | with_reducible refine Mini.s_ite ?_ | with_reducible refine Mini.s_while ?_ | with_reducible refine Mini.s_for ?_ | with_reducible refine Mini.s_ret ?_ | with_reducible refine Mini.x_none ?_ | with_reducible refine Mini.x_bool ?_ | with_reducible refine Mini.x_str ?_ | with_reducible refine Mini.x_neg ?_ | with_reducible refine Mini.x_not ?_ | with_reducible refine Mini.x_and ?_ | with_reducible refine Mini.x_or ?_ | with_reducible refine Mini.x_cmp ?_ | with_reducible refine Mini.x_ite ?_ | with_reducible refine Mini.x_call ?_ | with_reducible refine Mini.x_hall ?_ | with_reducible refine Mini.x_b1 ?_ | with_reducible refine Mini.x_max2 ?_ | with_reducible refine Mini.x_mxK ?_ | with_reducible refine Mini.x_lr ?_ | with_reducible refine Mini.x_isinst ?_ | with_reducible refine Mini.x_t0 ?_ | with_reducible refine Mini.x_t1 ?_ | with_reducible refine Mini.x_t2 ?_ | with_reducible refine Mini.x_from ?_ | with_reducible refine Mini.x_upto ?_ | with_reducible refine Mini.x_disp ?_ | with_reducible refine Mini.x_tup ?_ | with_reducible refine Mini.x_m0 ?_ | with_reducible refine Mini.x_m1 ?_ | with_reducible refine Mini.x_isRef ?_ | with_reducible refine Mini.x_comp ?_ | with_reducible refine Mini.x_compIf ?_ | with_reducible refine Mini.t_not ?_ | with_reducible refine Mini.t_and ?_ | with_reducible refine Mini.t_or ?_ | with_reducible refine Mini.t_cmp ?_ | with_reducible refine Mini.t_cmp2 ?_ | with_reducible refine Mini.t_bool ?_ | with_reducible refine Mini.t_call ?_ | with_reducible refine Mini.t_isinst ?_ | with_reducible refine Mini.r_list ?_ | with_reducible refine Mini.r_range ?_ | with_reducible refine Mini.r_enum ?_ | with_reducible refine Mini.b_sub ?_ | with_reducible refine Mini.c_lt ?_ | with_reducible refine Mini.c_le ?_ | with_reducible refine Mini.c_gt ?_ | with_reducible refine Mini.c_ge ?_ | with_reducible refine Mini.k_tru ?_ | with_reducible refine Mini.k_yes ?_ | with_reducible refine Mini.k_no ?_ | with_reducible refine Mini.k_nyes ?_ | with_reducible refine Mini.k_nno ?_ | with_reducible refine Mini.e_eq ?_ | with_reducible refine Mini.e_seq ?_ | with_reducible refine Mini.s_unK (by with_unfolding_all rfl) ?_ | with_reducible refine Mini.t_var (by with_unfolding_all rfl) ?_ | with_reducible refine Mini.x_kd (by with_unfolding_all rfl) ?_ | with_reducible refine Mini.a_disp (by with_unfolding_all rfl) ?_ | with_reducible refine Mini.b_mul (by omega) ?_ | with_reducible refine Mini.b_fdiv (by omega) ?_ | with_reducible refine Mini.b_mod (by omega) ?_)); try dsimp only [Mini.put]))
local macro_rules | `(tactic| walk_at "i") => `(tactic| (try dsimp only [Mini.start, List.map_cons, List.map_nil, List.replicate, List.cons_append, List.nil_append, Nat.reduceSub]))
namespace Mini
/-- power -/
noncomputable def f0 : Fn := ⟨1, 6, [
  .set 1 (.int (1)),
  .for [2] (.range (.var 0)) [
    .set 1 (.bin .mul (.var 1) (.int (2)))],
  .ret (.var 1)]⟩
/-- partner -/
noncomputable def f1 : Fn := ⟨3, 6, [
  .ret (.bin .mod (.bin .add (.var 0) (.call 0 [(.var 1)])) (.var 2))]⟩
/-- way -/
noncomputable def f2 : Fn := ⟨3, 9, [
  .set 3 (.bin .mod (.bin .sub (.var 1) (.var 0)) (.var 2)),
  .set 4 (.disp []),
  .set 5 (.int (0)),
  .while (.cmp .gt (.var 3) (.int (0))) [
    .ite (.cmp .eq (.bin .mod (.var 3) (.int (2))) (.int (1))) [
      .expr (.m1 .append (.var 4) (.var 5))] [],
    .set 3 (.bin .fdiv (.var 3) (.int (2))),
    .set 5 (.bin .add (.var 5) (.int (1)))],
  .ret (.var 4)]⟩
/-- _law_cell_at -/
noncomputable def f3 : Fn := ⟨2, 5, [
  .ite (.cmp .lt (.var 1) (.b1 .len (.var 0))) [
    .ret (.idx (.var 0) (.var 1))] [],
  .ret (.int (0))]⟩
/-- _law_whole -/
noncomputable def f4 : Fn := ⟨1, 4, [
  .ret (.and (.isinst (.var 0) .int) (.not (.isinst (.var 0) .bool)))]⟩
/-- _law_power -/
noncomputable def f5 : Fn := ⟨1, 6, [
  .set 1 (.int (1)),
  .for [2] (.range (.var 0)) [
    .set 1 (.bin .add (.var 1) (.var 1))],
  .ret (.var 1)]⟩
noncomputable def f6a : List S := [
  .set 1 (.bin .add (.int (1)) (.bin .mod (.call 3 [(.var 0), (.int (1))]) (.int (40)))),
  .ite (.cmp .eq (.bin .mod (.call 3 [(.var 0), (.int (0))]) (.int (3))) (.int (1))) [
    .set 1 (.bin .add (.int (1)) (.bin .mod (.call 3 [(.var 0), (.int (1))]) (.int (1000))))] []]
noncomputable def f6a2 : List S := [
  .set 2 (.bin .mod (.call 3 [(.var 0), (.int (2))]) (.var 1)),
  .set 3 (.bin .mod (.call 3 [(.var 0), (.int (3))]) (.var 1)),
  .ite (.cmp .eq (.bin .mod (.bin .fdiv (.call 3 [(.var 0), (.int (0))]) (.int (3))) (.int (5))) (.int (1))) [
    .set 3 (.var 2)] []]
noncomputable def f6b : List S := [
  .expr (.m1 .append (.call 2 [(.var 2), (.var 3), (.var 1)]) (.neg (.int (1)))),
  .set 4 (.call 2 [(.var 2), (.var 3), (.var 1)]),
  .ite (.not (.isinst (.var 4) .list)) [
    .ret (.bool false)] [],
  .set 5 (.int (0)),
  .set 6 (.var 2),
  .set 7 (.neg (.int (1))),
  .for [8] (.list (.var 4)) [
    .ite (.or (.not (.call 4 [(.var 8)])) (.or (.cmp .le (.var 8) (.var 7)) (.cmp .ge (.call 5 [(.var 8)]) (.var 1)))) [
      .ret (.bool false)] [],
    .set 5 (.bin .add (.var 5) (.call 5 [(.var 8)])),
    .set 9 (.call 1 [(.var 6), (.var 8), (.var 1)]),
    .ite (.or (.not (.call 4 [(.var 9)])) (.cmp .ne (.var 9) (.bin .mod (.bin .add (.var 6) (.call 5 [(.var 8)])) (.var 1)))) [
      .ret (.bool false)] [],
    .set 6 (.var 9),
    .set 7 (.var 8)]]
noncomputable def f6c : List S := [
  .ite (.or (.cmp .ne (.var 6) (.var 3)) (.cmp .ne (.var 5) (.bin .mod (.bin .sub (.var 3) (.var 2)) (.var 1)))) [
    .ret (.bool false)] [],
  .ite (.cmp .eq (.var 1) (.int (1))) [
    .ret (.cmp .eq (.b1 .len (.var 4)) (.int (0)))] [],
  .set 8 (.int (0)),
  .while (.and (.cmp .lt (.call 5 [(.bin .add (.var 8) (.int (1)))]) (.var 1)) (.cmp .lt (.var 8) (.bin .mod (.call 3 [(.var 0), (.int (4))]) (.int (10))))) [
    .set 8 (.bin .add (.var 8) (.int (1)))],
  .set 9 (.call 1 [(.var 3), (.var 8), (.var 1)]),
  .ret (.and (.call 4 [(.var 9)]) (.cmp .eq (.var 9) (.bin .mod (.bin .add (.var 3) (.call 5 [(.var 8)])) (.var 1))))]
/-- law -/
noncomputable def f6 : Fn := ⟨1, 13, f6a ++ (f6a2 ++ (f6b ++ f6c))⟩

section
variable {Φ : Nat → Option Fn} {n : Nat} {σ : H} {Q : P} {x : X}

theorem w_power (hΦ : Φ 0 = some f0) {t : Nat} (h1 : t < 1000) (hQ : Q (.int (2 ^ t)) σ) : callW Φ (n + 1) 0 [.int t] σ Q x := by
  refine ⟨_, hΦ, rfl, ?_⟩
  unfold f0
  walk_at "i"
  walk_at "v"
  refine r_rgK (by omega) ?_
  refine forL_rule (fun i m σ' => σ' = σ ∧ ∃ s, m = [some (.int t), some (.int (2 ^ i)), s, none, none, none]) ⟨rfl, _, rfl⟩ ?_ ?_
  · rintro i v m _ K hv ⟨rfl, s, rfl⟩ hK
    obtain ⟨rfl, hi⟩ := rangeV_get hv
    refine ⟨trivial, _, rfl, ?_⟩
    walk_at "v"
    exact hK _ _ ⟨rfl, some (.int i), by rw [Int.pow_succ]⟩
  · rintro m _ ⟨rfl, s, rfl⟩
    rw [rangeV_length, Int.toNat_natCast]
    refine ⟨trivial, ?_⟩
    walk_at "v"
    exact hQ
theorem w_power' (hΦ : Φ 5 = some f5) {t : Nat} (h1 : t < 1000) (hQ : Q (.int (2 ^ t)) σ) : callW Φ (n + 1) 5 [.int t] σ Q x := by
  refine ⟨_, hΦ, rfl, ?_⟩
  unfold f5
  walk_at "i"
  walk_at "v"
  refine r_rgK (by omega) ?_
  refine forL_rule (fun i m σ' => σ' = σ ∧ ∃ s, m = [some (.int t), some (.int (2 ^ i)), s, none, none, none]) ⟨rfl, _, rfl⟩ ?_ ?_
  · rintro i v m _ K hv ⟨rfl, s, rfl⟩ hK
    obtain ⟨rfl, hi⟩ := rangeV_get hv
    refine ⟨trivial, _, rfl, ?_⟩
    walk_at "v"
    exact hK _ _ ⟨rfl, some (.int i), by rw [Int.pow_succ, show (2 : Int) ^ i * 2 = 2 ^ i + 2 ^ i by omega]⟩
  · rintro m _ ⟨rfl, s, rfl⟩
    rw [rangeV_length, Int.toNat_natCast]
    refine ⟨trivial, ?_⟩
    walk_at "v"
    exact hQ
theorem w_partner (h0 : Φ 0 = some f0) (h1 : Φ 1 = some f1) {a many : Int} {t : Nat} (ht : t < 1000) (hm : 0 < many) (hQ : Q (.int ((a + 2 ^ t) % many)) σ) : callW Φ (n + 2) 1 [.int a, .int t, .int many] σ Q x := by
  refine ⟨_, h1, rfl, ?_⟩
  unfold f1
  walk_at "i"
  walk_at "v"
  refine w_power h0 ht ?_
  walk_at "v"
  exact hQ
theorem w_whole (h3 : Φ 4 = some f4) {a : Int} (hQ : Q (.bool true) σ) : callW Φ (n + 1) 4 [.int a] σ Q x := by
  refine ⟨_, h3, rfl, ?_⟩
  unfold f4
  walk_at "i"
  walk_at "v"
  exact hQ
theorem w_cell (h2 : Φ 3 = some f3) {k : Nat} {is : List Int} {τ : H} (hQ : ∀ c : Int, Q (.int c) (is.map V.int :: τ)) : callW Φ (n + 1) 3 [.ref 0, .int k] (is.map V.int :: τ) Q x := by
  refine ⟨_, h2, rfl, ?_⟩
  unfold f3
  walk_at "i"
  walk_at "v"
  refine b_len (xs := is.map V.int) rfl ?_
  walk_at "v"
  refine k_dec (fun h => ?_) fun h => ?_
  · rw [List.length_map] at h
    have hk : k < is.length := by omega
    walk_at "v"
    exact x_item (xs := is.map V.int) (v := .int is[k]) rfl (by simp [hk]) (hQ _)
  · walk_at "v"
    exact hQ 0

noncomputable def tv (t : Nat) : V := .int t
noncomputable def pw : List Nat → Int
  | [] => 0
  | t :: l => 2 ^ t + pw l
theorem pw_app (l : List Nat) (t : Nat) : pw (l ++ [t]) = pw l + 2 ^ t := by
  induction l with
  | nil => simp [pw]
  | cons a l ih => simp [pw, ih]; omega
theorem p2 (t : Nat) : (0 : Int) < 2 ^ t := Int.pow_pos (by omega)
theorem pw_nn : ∀ l : List Nat, 0 ≤ pw l
  | [] => Int.le_refl _
  | t :: l => by have := pw_nn l; have := p2 t; simp only [pw]; omega
theorem pw_le : ∀ (l : List Nat) (t : Nat), t ∈ l → (2 : Int) ^ t ≤ pw l
  | [], t, h => by cases h
  | a :: l, t, h => by
    have hn := pw_nn l
    have ha := p2 a
    rcases List.mem_cons.mp h with rfl | h
    · simp only [pw]; omega
    · have := pw_le l t h; simp only [pw]; omega
theorem p2_lt {t : Nat} (h : (2 : Int) ^ t < 1024) : t < 10 := by
  rcases Nat.lt_or_ge t 10 with h' | h'
  · exact h'
  · have := Nat.pow_le_pow_right (n := 2) (by omega) h'
    have h2 : ((2 : Int) ^ 10) ≤ 2 ^ t := by exact_mod_cast this
    omega
structure WayOk (r : Int) (l : List Nat) : Prop where
  up : l.Pairwise (· < ·)
  sum : pw l = r
theorem w_way (h2 : Φ 2 = some f2) {a b many : Int} (hσ : 0 < σ.length) (hm : 0 < many) (hm2 : many ≤ 1000) (hQ : ∀ l, WayOk ((b - a) % many) l → Q (.ref σ.length) (σ ++ [l.map tv])) : callW Φ (n + 1) 2 [.int a, .int b, .int many] σ Q x := by
  refine ⟨_, h2, rfl, ?_⟩
  unfold f2
  walk_at "i"
  walk_at "v"
  have r0 : 0 ≤ (b - a) % many := Int.emod_nonneg _ (by omega)
  have r1 : (b - a) % many < many := Int.emod_lt_of_pos _ hm
  generalize hr : (b - a) % many = r at *
  refine while_rule (fun k m σ' => ∃ (t : Nat) (l : List Nat) (rest : Int), k = rest.toNat ∧ 0 ≤ rest ∧ rest * 2 ^ t + pw l = r ∧ l.Pairwise (· < ·) ∧ (∀ u ∈ l, u < t) ∧ l.length ≤ t ∧ σ' = σ ++ [l.map tv] ∧ m = [some (.int a), some (.int b), some (.int many), some (.int rest), some (.ref σ.length), some (.int t), none, none, none]) (k := r.toNat)
    ⟨0, [], r, rfl, r0, by simp [pw], List.Pairwise.nil, by simp, by simp, by simp, rfl⟩ ?_
  rintro k m _ K ⟨t, l, rest, rfl, hrest, hsum, hup, hlt, hlen, rfl, rfl⟩ hK
  walk_at "v"
  refine k_dec (fun hpos => ?_) fun hz => ?_
  · have ht : t < 10 := by
      apply p2_lt
      have := pw_nn l
      have hp := p2 t
      have : (2 : Int) ^ t * 1 ≤ 2 ^ t * rest := Int.mul_le_mul_of_nonneg_left (by omega) (by omega)
      rw [Int.mul_comm] at hsum
      omega
    have hs : rest * 2 ^ t = (rest / 2) * 2 ^ (t + 1) + (rest % 2) * 2 ^ t := by
      have := Int.mul_ediv_add_emod rest 2
      rw [Int.pow_succ]
      calc rest * 2 ^ t = (2 * (rest / 2) + rest % 2) * 2 ^ t := by rw [this]
        _ = _ := by rw [Int.add_mul]; congr 1; rw [Int.mul_comm 2, Int.mul_assoc, Int.mul_comm 2]
    walk_at "v"
    refine k_dec (fun hodd => ?_) fun hev => ?_
    · walk_at "v"
      rw [e_app]
      refine ⟨l.map tv, by omega, by simp, ?_, ?_⟩
      · simp [lim]; omega
      walk_at "v"
      refine hK (rest / 2).toNat _ _ (by omega) ⟨t + 1, l ++ [t], rest / 2, rfl, by omega, ?_, ?_, ?_, by simp; omega, by simp [tv], by simp⟩
      · rw [pw_app, ← hsum, hs, hodd]; omega
      · rw [List.pairwise_append]
        refine ⟨hup, by simp, ?_⟩
        intro u hu w hw
        simp at hw; subst hw; exact hlt u hu
      · intro u hu
        rcases List.mem_append.mp hu with h | h
        · have := hlt u h; omega
        · simp at h; omega
    · walk_at "v"
      have : rest % 2 = 0 := by omega
      refine hK (rest / 2).toNat _ _ (by omega) ⟨t + 1, l, rest / 2, rfl, by omega, ?_, hup, ?_, by omega, rfl, by simp⟩
      · rw [← hsum, hs, this]; omega
      · intro u hu; have := hlt u hu; omega
  · walk_at "v"
    have : rest = 0 := by omega
    subst this
    exact hQ l ⟨hup, by simpa using hsum⟩

structure Fs (Φ : Nat → Option Fn) : Prop where
  h0 : Φ 0 = some f0
  h1 : Φ 1 = some f1
  h2 : Φ 2 = some f2
  h3 : Φ 3 = some f3
  h4 : Φ 4 = some f4
  h5 : Φ 5 = some f5
  h6 : Φ 6 = some f6

theorem w_end (F : Fs Φ) {is : List Int} {τ : H} {many one other : Int} {l : List Nat} {s7 s8 s9 : Option V} {N : M → H → Prop} {a : Nat}
    (hm : 1 ≤ many) (hm2 : many ≤ 1000) (hone : 0 ≤ one ∧ one < many) (hother : 0 ≤ other ∧ other < many) (hl : WayOk ((other - one) % many) l) (ha : (is.map V.int :: τ)[a]? = some (l.map tv)) (hQ : ∀ σ, Q (.bool true) σ) :
    WSs (callW Φ (n + 2)) f6c x [some (.ref 0), some (.int many), some (.int one), some (.int other), some (.ref a), some (.int (pw l)), some (.int ((one + pw l) % many)), s7, s8, s9, none, none, none] (is.map V.int :: τ) N Q := by
  unfold f6c
  have e1 : (one + pw l) % many = other := by
    rw [hl.sum, Int.add_emod_emod, show one + (other - one) = other by omega]
    exact Int.emod_eq_of_lt hother.1 hother.2
  rw [e1, hl.sum]
  walk_at "v"
  refine e_ne ?_
  walk_at "v"
  refine k_neg (by simp) ?_
  walk_at "v"
  refine e_ne ?_
  walk_at "v"
  refine k_neg (by simp) ?_
  walk_at "v"
  refine k_dec (fun h1 => ?_) fun h1 => ?_
  · subst h1
    have hnil : l = [] := by
      have := hl.sum
      cases l with
      | nil => rfl
      | cons t l =>
        have h1 := p2 t
        have h2 := pw_nn l
        simp only [pw] at this
        omega
    subst hnil
    walk_at "v"
    refine b_len ha ?_
    walk_at "v"
    exact hQ _
  · walk_at "v"
    refine while_rule (fun k m σ' => σ' = (is.map V.int :: τ) ∧ ∃ t : Nat, k = 10 - t ∧ t ≤ 10 ∧ m = [some (.ref 0), some (.int many), some (.int one), some (.int other), some (.ref a), some (.int ((other - one) % many)), some (.int other), s7, some (.int t), s9, none, none, none]) (k := 10)
      ⟨rfl, 0, rfl, by omega, rfl⟩ ?_
    rintro k m _ K ⟨rfl, t, rfl, ht, rfl⟩ hK
    have fin : WSs (callW Φ (n + 2)) [.set 9 (.call 1 [(.var 3), (.var 8), (.var 1)]),
  .ret (.and (.call 4 [(.var 9)]) (.cmp .eq (.var 9) (.bin .mod (.bin .add (.var 3) (.call 5 [(.var 8)])) (.var 1))))] x [some (.ref 0), some (.int many), some (.int one), some (.int other), some (.ref a), some (.int ((other - one) % many)), some (.int other), s7, some (.int t), s9, none, none, none] (is.map V.int :: τ) N Q := by
      walk_at "v"
      refine w_partner F.h0 F.h1 (by omega) (by omega) ?_
      walk_at "v"
      refine w_whole F.h4 ?_
      walk_at "v"
      refine w_power' F.h5 (by omega) ?_
      walk_at "v"
      simpa using hQ _
    walk_at "v"
    refine w_power' (t := t + 1) F.h5 (by omega) ?_
    walk_at "v"
    refine k_dec (fun h1 => ?_) fun h1 => fin
    walk_at "v"
    refine w_cell (k := 4) F.h3 fun c => ?_
    walk_at "v"
    refine k_dec (fun h2 => ?_) fun h2 => fin
    walk_at "v"
    exact hK (10 - (t + 1)) _ _ (by omega) ⟨rfl, t + 1, rfl, by omega, by simp⟩
theorem up_len : ∀ (l : List Nat) (a b : Nat), l.Pairwise (· < ·) → (∀ t ∈ l, a ≤ t ∧ t < b) → l.length ≤ b - a
  | [], _, _, _, _ => by simp
  | t :: l, a, b, h, hb => by
    rw [List.pairwise_cons] at h
    have h1 := hb t (by simp)
    have := up_len l (t + 1) b h.2 (fun u hu => ⟨h.1 u hu, (hb u (by simp [hu])).2⟩)
    simp only [List.length_cons]
    omega
theorem WayOk.lt {r many : Int} {l : List Nat} (h : WayOk r l) (hr : r < many) {t : Nat} (ht : t ∈ l) : (2 : Int) ^ t < many := by
  have := pw_le l t ht
  have := h.sum
  omega
theorem WayOk.len {r : Int} {l : List Nat} (h : WayOk r l) (hr : r < 1000) : l.length < lim := by
  have := up_len l 0 10 h.up (fun t ht => ⟨Nat.zero_le _, p2_lt (by have := h.lt hr ht; omega)⟩)
  simp only [lim]; omega
theorem w_mid (F : Fs Φ) {is : List Int} {τ : H} {many one other : Int} {N : M → H → Prop}
    (hm : 1 ≤ many) (hm2 : many ≤ 1000) (hone : 0 ≤ one ∧ one < many) (hother : 0 ≤ other ∧ other < many)
    (hN : ∀ (l : List Nat) (a : Nat) (τ : H) (s7 s8 s9 : Option V), WayOk ((other - one) % many) l → (is.map V.int :: τ)[a]? = some (l.map tv) → N [some (.ref 0), some (.int many), some (.int one), some (.int other), some (.ref a), some (.int (pw l)), some (.int ((one + pw l) % many)), s7, s8, s9, none, none, none] (is.map V.int :: τ)) :
    WSs (callW Φ (n + 2)) f6b x [some (.ref 0), some (.int many), some (.int one), some (.int other), none, none, none, none, none, none, none, none, none] (is.map V.int :: τ) N Q := by
  have hr : (other - one) % many < many := Int.emod_lt_of_pos _ (by omega)
  unfold f6b
  walk_at "v"
  refine w_way F.h2 (by simp) (by omega) hm2 fun l0 hl0 => ?_
  walk_at "v"
  rw [e_app]
  refine ⟨l0.map tv, by simp, by simp, by simpa using hl0.len (by omega), ?_⟩
  have e : (is.map V.int :: τ ++ [l0.map tv]).set (is.map V.int :: τ).length (l0.map tv ++ [.int (-1)]) = is.map V.int :: (τ ++ [l0.map tv ++ [.int (-1)]]) := by simp
  rw [e]
  generalize τ ++ [l0.map tv ++ [.int (-1)]] = τ'
  walk_at "v"
  refine w_way F.h2 (by simp) (by omega) hm2 fun l hl => ?_
  generalize ha : (is.map V.int :: τ').length = a
  have ha' : (is.map V.int :: τ' ++ [l.map tv])[a]? = some (l.map tv) := by subst ha; simp
  rw [List.cons_append] at ha' ⊢
  generalize τ' ++ [l.map tv] = τ'' at *
  walk_at "v"
  refine r_lsK ha' ?_
  refine forL_rule (fun i m σ' => σ' = is.map V.int :: τ'' ∧ ∃ (s8 s9 : Option V) (last : Int), (∀ t ∈ l.drop i, last < (t : Int)) ∧ m = [some (.ref 0), some (.int many), some (.int one), some (.int other), some (.ref a), some (.int (pw (l.take i))), some (.int ((one + pw (l.take i)) % many)), some (.int last), s8, s9, none, none, none]) ?_ ?_ ?_
  · refine ⟨rfl, none, none, -1, fun t _ => by omega, ?_⟩
    simp [pw, Int.emod_eq_of_lt hone.1 hone.2]
  · rintro i v m _ K hv ⟨rfl, s8, s9, last, hlast, rfl⟩ hK
    rw [List.getElem?_map, Option.map_eq_some_iff] at hv
    obtain ⟨t, hv, rfl⟩ := hv
    have hi : i < l.length := (List.getElem?_eq_some_iff.mp hv).1
    have hti : l[i] = t := (List.getElem?_eq_some_iff.mp hv).2
    have hdrop : l.drop i = t :: l.drop (i + 1) := by rw [List.drop_eq_getElem_cons hi, hti]
    have htake : l.take (i + 1) = l.take i ++ [t] := by rw [List.take_add_one, hv]; rfl
    have hmem : t ∈ l := List.mem_of_getElem? hv
    have hlt := hl.lt hr hmem
    have h10 : t < 10 := p2_lt (by omega)
    have hlt2 : last < t := hlast t (by rw [hdrop]; simp)
    refine ⟨ha', _, rfl, ?_⟩
    simp only [tv]
    walk_at "v"
    refine w_whole F.h4 ?_
    walk_at "v"
    refine k_neg (by omega) ?_
    walk_at "v"
    refine w_power' F.h5 (by omega) ?_
    walk_at "v"
    refine k_neg (by omega) ?_
    walk_at "v"
    refine w_power' F.h5 (by omega) ?_
    walk_at "v"
    refine w_partner F.h0 F.h1 (by omega) (by omega) ?_
    walk_at "v"
    refine w_whole F.h4 ?_
    walk_at "v"
    refine w_power' F.h5 (by omega) ?_
    walk_at "v"
    refine e_ne ?_
    walk_at "v"
    refine k_neg (by simp) ?_
    walk_at "v"
    refine hK _ _ ⟨rfl, some (.int t), some (.int (((one + pw (l.take i)) % many + 2 ^ t) % many)), (t : Int), ?_, ?_⟩
    · intro u hu
      have hp := List.Pairwise.sublist (List.drop_sublist i l) hl.up
      rw [hdrop, List.pairwise_cons] at hp
      have := hp.1 u hu
      omega
    · rw [htake, pw_app]; simp [Int.add_assoc]
  · rintro m _ ⟨rfl, s8, s9, last, hlast, rfl⟩
    refine ⟨ha', ?_⟩
    rw [List.length_map, List.take_length]
    exact hN l a τ'' _ _ _ hl ha'

theorem w_law {is : List Int} (F : Fs Φ) : callW Φ 4 6 [.ref 0] [is.map V.int] (fun v _ => v = .bool true) x := by
  refine ⟨_, F.h6, rfl, ?_⟩
  unfold f6
  refine WSs_append ?_
  have key : ∀ many : Int, 1 ≤ many → many ≤ 1000 → WSs (callW Φ 3) (f6a2 ++ (f6b ++ f6c)) x [some (.ref 0), some (.int many), none, none, none, none, none, none, none, none, none, none, none] [is.map V.int] (fun _ σ => (fun v _ => v = V.bool true) V.none σ) (fun v _ => v = V.bool true) := by
    intro many hm hm2
    refine WSs_append ?_
    have key2 : ∀ one other : Int, 0 ≤ one ∧ one < many → 0 ≤ other ∧ other < many → WSs (callW Φ 3) (f6b ++ f6c) x [some (.ref 0), some (.int many), some (.int one), some (.int other), none, none, none, none, none, none, none, none, none] [is.map V.int] (fun _ σ => (fun v _ => v = V.bool true) V.none σ) (fun v _ => v = V.bool true) := by
      intro one other h1 h2
      refine WSs_append ?_
      refine w_mid F hm hm2 h1 h2 fun l a τ s7 s8 s9 hl ha => ?_
      exact w_end F hm hm2 h1 h2 hl ha fun _ => rfl
    have b1 : ∀ c : Int, 0 ≤ c % many ∧ c % many < many := fun c => ⟨Int.emod_nonneg _ (by omega), Int.emod_lt_of_pos _ (by omega)⟩
    unfold f6a2
    walk_at "v"
    refine w_cell (k := 2) F.h3 fun c => ?_
    walk_at "v"
    refine w_cell (k := 3) F.h3 fun d => ?_
    walk_at "v"
    refine w_cell (k := 0) F.h3 fun d => ?_
    walk_at "v"
    refine k_dec (fun _ => ?_) fun _ => ?_
    · walk_at "v"
      exact key2 _ _ (b1 _) (b1 _)
    · exact key2 _ _ (b1 _) (b1 _)
  unfold f6a
  walk_at "i"
  walk_at "v"
  refine w_cell (k := 1) F.h3 fun c => ?_
  walk_at "v"
  refine w_cell (k := 0) F.h3 fun d => ?_
  walk_at "v"
  refine k_dec (fun _ => ?_) fun _ => ?_
  · walk_at "v"
    refine w_cell (k := 1) F.h3 fun c => ?_
    walk_at "v"
    exact key _ (by omega) (by omega)
  · exact key _ (by omega) (by omega)
end
end Mini

open PySem PySem.W PyProof.Rows
set_option maxRecDepth 100000 in
set_option maxHeartbeats 8000000 in
theorem PySem.Challenge.cw_uf030039_02_holds : PySem.Challenge.rw_uf030039_02.Holds := by
  w_on
  o_law
  o_head Hook.none
  case hw => w_witness2
  intro w s₀ s₁ mg mb G Y fa o pm cd doc dV kV ho hd hcd hD hmg hg args vals as hpre hlay hrd hwl hlo
  refine Ground.open G ?_
  intro T B D TE TW
  wrow_args hpre hlay hrd hwl hlo
  refine enter_call ?_
  rename_i is _ _ _ _ _ _ _ a vs _ hL _ hw _ hI _ hlen _
  exact Mini.law_plain (l := PySem.Challenge.rw_uf030039_02) (consts := []) (n := 4) T (by kernel_rfl) hw hL hI (by omega) hg hmg (li := 6) rfl (by omega)
    (Mini.w_law ⟨by kernel_rfl, by kernel_rfl, by kernel_rfl, by kernel_rfl, by kernel_rfl, by kernel_rfl, by kernel_rfl⟩)
