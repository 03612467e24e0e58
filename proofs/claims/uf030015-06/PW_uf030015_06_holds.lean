import PyProof.Rows.All
import Wide.All
import OpenK.AllK
import Wide.FinOn
import PyProof.P3Statements
import KE.IntText
import PyProof.CompFree
import PyProof.CompUse
import PyProof.Walks
import PyProof.WalksMore
import PyProof.Calls
import PyProof.ListOps
import PyProof.Cells
import PyProof.Rules2
import PyProof.Rules3
import PyProof.Rows.RuleB_floordiv
import PyProof.Rows.RuleB_mod
import PyProof.Rows.RuleB_sub
import PyProof.PureInt
import PyProof.AutoIntOps
import PyProof.Rows.Chain
import PyProof.MakeMany
import PyProof.TupleIter
import PyProof.TupleOps
import PyProof.Rows.TupMore
import PyProof.ListTruth
import PyProof.Truth
import PyProof.Rows.RuleU_int
import PyProof.Rows.IntRules
import PyProof.Rows.StrTemp
import PyProof.ListIndexNeg
import PyProof.Rows.StrRules
import PyProof.P3Eq
import PyProof.P3In
import PyProof.NeData
import PyProof.TupleKey
import PyProof.SliceList
import PyProof.DefCall
import KE.KUnpack
import PyProof.RulesAssignMore
import PyProof.Raises
import PyProof.SeqWrite
import PyProof.ForAny
import PyProof.EnumFor
import PyProof.EnumMake
import PyProof.RangeFor
import PyProof.PvWalk
import PyProof.Boot
import PyProof.EnumStmt
import KE.KIntText
import PyProof.TupleOfSeq
import PyProof.Rows.ListCopyD
import PyProof.WalkInts
import PyProof.Conv_int_bool
import PyProof.CallStr
import PyProof.IsiSeqPairs
import PyProof.IsiPairs
import PyProof.ForAppend
import KE.KItem
import PyProof.Dict
import PyProof.SetKind
import PyProof.Rows.SetFrom
import PyProof.Rows.SortPure
import PyProof.FactsAll.set_1
import PyProof.CollectWalk
import PyProof.FactsAll.set_2
import PyProof.Rows.SortShell
import KE.KSortTup
import Wide.Tac
import PySem.Challenge.RW_uf030015_06
set_option Elab.async false

/-! N1 -/
namespace Mine
open PySem
set_option genSizeOf false
set_option genInjectivity false

/-! values and stores of the abstract machine -/
inductive V where
  | undef | none | bool (b : Bool) | int (i : Int) | str (s : Str) | tup (vs : List V) | ref (n : Nat)
inductive O where
  | list (vs : List V)
  | tab (P : Addr)
  | gone
abbrev Store := List O
/-- behind an exception: its class's number -/
abbrev XPost := Nat → Store → Prop
abbrev VPost := V → Store → Prop
abbrev Oracle := Nat → List V → Store → VPost → XPost → Prop
/-! expressions, lists of them, tests, statements: what must hold for what shall hold behind -/
abbrev Ex := Oracle → List V → Store → VPost → XPost → Prop
abbrev Es := Oracle → List V → Store → (List V → Store → Prop) → XPost → Prop
abbrev Tx := Oracle → List V → Store → (Bool → Store → Prop) → XPost → Prop
inductive Fl where
  | next | brk | cont
  | ret (v : V)
  | exc (c : Nat)
abbrev Post := Fl → List V → Store → Prop
abbrev Sx := Oracle → List V → Store → Post → Prop

inductive BOp where | add | sub | mul | floordiv | mod | pow
inductive Ty where | int | bool | str | tuple | list

noncomputable def maxLen : Nat := 1000000
noncomputable def small (i : Int) : Bool := decide (-(2 ^ 63) ≤ i) && decide (i < 2 ^ 63)
noncomputable def b2i (b : Bool) : Int := if b then 1 else 0

noncomputable def mapO {α β : Type} (f : α → Option β) : List α → Option (List β)
  | [] => some []
  | a :: as => (f a).bind fun b => (mapO f as).map (b :: ·)

/-- a value as plain data, read at most so deep -/
noncomputable def listD (f : V → Option PyData) : Option O → Option PyData
  | some (.list vs) => (mapO f vs).map PyData.list
  | _ => Option.none
noncomputable def toD (σ : Store) : Nat → V → Option PyData
  | 0, _ => Option.none
  | n + 1, v => match v with
    | .none => some .none
    | .bool b => some (.bool b)
    | .int i => some (.int i)
    | .str x => some (.str x)
    | .tup vs => (mapO (toD σ n) vs).map PyData.tuple
    | .ref k => listD (toD σ n) σ[k]?
    | .undef => Option.none

/-! operations -/
inductive TruK (σ : Store) (K : Bool → Prop) : V → Prop
  | none : K false → TruK σ K .none
  | bool {b : Bool} : K b → TruK σ K (.bool b)
  | int {i : Int} : K (i != 0) → TruK σ K (.int i)
  | str {s : Str} : s.length ≤ maxLen → K (s.length != 0) → TruK σ K (.str s)
  | tup {vs : List V} : vs.length ≤ maxLen → K (!vs.isEmpty) → TruK σ K (.tup vs)
  | list {n : Nat} {vs : List V} : σ[n]? = some (.list vs) → K (!vs.isEmpty) → TruK σ K (.ref n)

inductive BinK (σ : Store) (Q : VPost) : BOp → V → V → Prop
  | add {x y : Int} : Q (.int (x + y)) σ → BinK σ Q .add (.int x) (.int y)
  | addS {x y : Str} : x.length + y.length ≤ maxLen → Q (.str (x ++ y)) σ → BinK σ Q .add (.str x) (.str y)
  | addT {x y : List V} : x ≠ [] → y ≠ [] → x.length + y.length ≤ maxLen → Q (.tup (x ++ y)) σ → BinK σ Q .add (.tup x) (.tup y)
  | addL {n m : Nat} {x y : List V} : σ[n]? = some (.list x) → σ[m]? = some (.list y) → x.length + y.length ≤ maxLen → Q (.ref σ.length) (σ ++ [.list (x ++ y)]) → BinK σ Q .add (.ref n) (.ref m)
  | sub {x y : Int} : Q (.int (x - y)) σ → BinK σ Q .sub (.int x) (.int y)
  | mul {x y : Int} : small x = true ∨ small y = true → Q (.int (x * y)) σ → BinK σ Q .mul (.int x) (.int y)
  | div {x y : Int} : y ≠ 0 → small y = true → Q (.int (x.fdiv y)) σ → BinK σ Q .floordiv (.int x) (.int y)
  | mod {x y : Int} : y ≠ 0 → Q (.int (x.fmod y)) σ → BinK σ Q .mod (.int x) (.int y)
  | pow {n : Nat} : 0 < n → n ≤ 9 → Q (.int (10 ^ n)) σ → BinK σ Q .pow (.int 10) (.int n)

/-- tuples of ints, item by item -/
noncomputable def ltRow : List Int → List Int → Bool
  | [], [] => false
  | [], _ :: _ => true
  | _ :: _, [] => false
  | a :: as, b :: bs => if a = b then ltRow as bs else decide (a < b)
noncomputable def isNone : V → Bool
  | .none => true
  | _ => false
noncomputable def eqD (x y : PyData) (K : Bool → Prop) : Prop := x.canLay0 = true ∧ y.canLay0 = true ∧ K (PyData.eqv x y)
inductive CmpK (σ : Store) (K : Bool → Prop) : CmpOp → V → V → Prop
  | eq {a b : V} {x y : PyData} : toD σ 6 a = some x → toD σ 6 b = some y → x.canLay0 = true → y.canLay0 = true → K (PyData.eqv x y) → CmpK σ K .Eq a b
  | ne {a b : V} {x y : PyData} : toD σ 6 a = some x → toD σ 6 b = some y → x.canLay0 = true → y.canLay0 = true → K (!PyData.eqv x y) → CmpK σ K .NotEq a b
  | lt {x y : Int} : K (decide (x < y)) → CmpK σ K .Lt (.int x) (.int y)
  | le {x y : Int} : K (decide (x ≤ y)) → CmpK σ K .LtE (.int x) (.int y)
  | gt {x y : Int} : K (decide (x > y)) → CmpK σ K .Gt (.int x) (.int y)
  | ge {x y : Int} : K (decide (x ≥ y)) → CmpK σ K .GtE (.int x) (.int y)
  | ltT {x y : List Int} : K (ltRow x y) → CmpK σ K .Lt (.tup (x.map .int)) (.tup (y.map .int))
  | is {a : V} : K (isNone a) → CmpK σ K .Is a .none
  | isnot {a : V} : K (!isNone a) → CmpK σ K .IsNot a .none
  | inL {a b : V} {x : PyData} {ys : List PyData} : toD σ 6 a = some x → toD σ 6 b = some (.list ys) → x.canLay0 = true → PyData.canLayAll0 ys = true → K (ys.any fun y => PyData.eqv y x) → CmpK σ K .In a b
  | ninL {a b : V} {x : PyData} {ys : List PyData} : toD σ 6 a = some x → toD σ 6 b = some (.list ys) → x.canLay0 = true → PyData.canLayAll0 ys = true → K (!ys.any fun y => PyData.eqv y x) → CmpK σ K .NotIn a b
  | inT {a b : V} {x : PyData} {ys : List PyData} : toD σ 6 a = some x → toD σ 6 b = some (.tuple ys) → x.canLay0 = true → PyData.canLayAll0 ys = true → K (ys.any fun y => PyData.eqv y x) → CmpK σ K .In a b
  | ninT {a b : V} {x : PyData} {ys : List PyData} : toD σ 6 a = some x → toD σ 6 b = some (.tuple ys) → x.canLay0 = true → PyData.canLayAll0 ys = true → K (!ys.any fun y => PyData.eqv y x) → CmpK σ K .NotIn a b

/-- an index, from the front or from behind -/
noncomputable def Idx (k : Int) (n j : Nat) : Prop := (k = j ∧ j < n) ∨ (k + n = j ∧ k < 0)
inductive SubK (σ : Store) (Q : VPost) : V → V → Prop
  | tup {vs : List V} {k : Int} {j : Nat} {v : V} : small k = true → Idx k vs.length j → vs[j]? = some v → Q v σ → SubK σ Q (.tup vs) (.int k)
  | list {n : Nat} {vs : List V} {k : Int} {j : Nat} {v : V} : σ[n]? = some (.list vs) → Idx k vs.length j → vs[j]? = some v → Q v σ → SubK σ Q (.ref n) (.int k)

inductive BoundK (n d : Nat) : Option V → Nat → Prop
  | no : BoundK n d Option.none d
  | pos {i j : Nat} : small i = true → j = min i n → BoundK n d (some (.int i)) j
  | neg {i : Int} {j : Nat} : i < 0 → small i = true → j = (i + n).toNat → BoundK n d (some (.int i)) j
noncomputable def cut {α : Type} (l : List α) (a b : Nat) : List α := (l.take b).drop a
inductive SliceK (σ : Store) (Q : VPost) : V → Option V → Option V → Prop
  | list {n : Nat} {vs : List V} {lo hi : Option V} {x y : Nat} : σ[n]? = some (.list vs) → BoundK vs.length 0 lo x → BoundK vs.length vs.length hi y → Q (.ref σ.length) (σ ++ [.list (cut vs x y)]) → SliceK σ Q (.ref n) lo hi

/-- what stands behind sorted: any list that may be it -/
inductive SortK (σ : Store) (Q : VPost) : Bool → V → Prop
  | ints {n : Nat} {ns : List Int} : σ[n]? = some (.list (ns.map .int)) → ns.length < 64 → (∀ ms : List Int, ms.Perm ns → ms.Pairwise (· ≤ ·) → Q (.ref σ.length) (σ ++ [.list (ms.map .int)])) → SortK σ Q false (.ref n)
  | rows {n : Nat} {rs : List (List Int)} : σ[n]? = some (.list (rs.map fun r => .tup (r.map .int))) → rs.length < 64 → (∀ r ∈ rs, r ≠ []) →
      (∀ ts : List (List Int), ts.Perm rs → ts.Pairwise (fun a b => ltRow b a = false) → Q (.ref σ.length) (σ ++ [.list (ts.map fun r => .tup (r.map .int))])) → SortK σ Q false (.ref n)
  | set {n : Nat} {ns : List Int} : σ[n]? = some (.list (ns.map .int)) → ns.length < 64 → (∀ ms : List Int, ms.Pairwise (· < ·) → (∀ x, x ∈ ms ↔ x ∈ ns) → Q (.ref σ.length) (σ ++ [.list (ms.map .int)])) → SortK σ Q true (.ref n)

noncomputable def tyIs (t : Ty) : V → Bool
  | .bool _ => match t with | .bool | .int => true | _ => false
  | .int _ => match t with | .int => true | _ => false
  | .str _ => match t with | .str => true | _ => false
  | .tup _ => match t with | .tuple => true | _ => false
  | .ref _ => match t with | .list => true | _ => false
  | _ => false
/-- the built-in functions -/
inductive Pr where | len | list | tuple | str | int | min | max | isinst (t : Ty)
inductive PrimK (σ : Store) (Q : VPost) : Pr → List V → Prop
  | lenL {n : Nat} {vs : List V} : σ[n]? = some (.list vs) → Q (.int vs.length) σ → PrimK σ Q .len [.ref n]
  | lenT {vs : List V} : vs.length ≤ maxLen → Q (.int vs.length) σ → PrimK σ Q .len [.tup vs]
  | list {n : Nat} {vs : List V} : σ[n]? = some (.list vs) → Q (.ref σ.length) (σ ++ [.list vs]) → PrimK σ Q .list [.ref n]
  | tuple {n : Nat} {vs : List V} : σ[n]? = some (.list vs) → Q (.tup vs) σ → PrimK σ Q .tuple [.ref n]
  | str {i : Int} : small i = true → Q (.str (Str.ofString (toString i))) σ → PrimK σ Q .str [.int i]
  | intB {b : Bool} : Q (.int (b2i b)) σ → PrimK σ Q .int [.bool b]
  | intS {x : Str} {i : Int} : x.length ≤ 640 → intText? x = some i → Q (.int i) σ → PrimK σ Q .int [.str x]
  | min {a b : Int} : Q (.int (if b < a then b else a)) σ → PrimK σ Q .min [.int a, .int b]
  | max {a b : Int} : Q (.int (if b > a then b else a)) σ → PrimK σ Q .max [.int a, .int b]
  | isB {t : Ty} {b : Bool} : Q (.bool (tyIs t (.bool b))) σ → PrimK σ Q (.isinst t) [.bool b]
  | isI {t : Ty} {i : Int} : Q (.bool (tyIs t (.int i))) σ → PrimK σ Q (.isinst t) [.int i]
  | isS {t : Ty} {s : Str} : Q (.bool (tyIs t (.str s))) σ → PrimK σ Q (.isinst t) [.str s]
  | isT {t : Ty} {vs : List V} : Q (.bool (tyIs t (.tup vs))) σ → PrimK σ Q (.isinst t) [.tup vs]
  | isL {t : Ty} {n : Nat} {vs : List V} : σ[n]? = some (.list vs) → Q (.bool (tyIs t (.ref n))) σ → PrimK σ Q (.isinst t) [.ref n]
inductive AppK (σ : Store) (Q : VPost) (v : V) : V → Prop
  | mk {n : Nat} {vs : List V} : σ[n]? = some (.list vs) → vs.length < maxLen → n ≠ 0 → Q .none (σ.set n (.list (vs ++ [v]))) → AppK σ Q v (.ref n)
noncomputable def isList (σ : Store) (v : V) : Prop := ∃ n vs, v = .ref n ∧ σ[n]? = some (.list vs)

/-! sources of loops -/
noncomputable def rangeL (a : Int) : Nat → List V
  | 0 => []
  | n + 1 => .int a :: rangeL (a + 1) n
noncomputable def enumL (k : Int) : List V → List V
  | [] => []
  | v :: r => .tup [.int k, v] :: enumL (k + 1) r
inductive SrcT where | plain | range | enum
/-- the items of a loop's source; what must stand as it stood -/
inductive SrcK (σ : Store) : SrcT → List V → List V → (Store → Prop) → Prop
  | list {n : Nat} {vs : List V} : σ[n]? = some (.list vs) → SrcK σ .plain [.ref n] vs (fun σ' => σ'[n]? = some (.list vs))
  | tup {vs : List V} : SrcK σ .plain [.tup vs] vs (fun _ => True)
  | range {b : Int} : -(2 ^ 62) ≤ b → b ≤ maxLen → SrcK σ .range [.int b] (rangeL 0 b.toNat) (fun _ => True)
  | range2 {a b : Int} : 0 ≤ a → a ≤ maxLen → -(2 ^ 62) ≤ b → b ≤ maxLen → SrcK σ .range [.int a, .int b] (rangeL a (b - a).toNat) (fun _ => True)
  | enum {n : Nat} {vs : List V} : σ[n]? = some (.list vs) → SrcK σ .enum [.ref n] (enumL 0 vs) (fun σ' => σ'[n]? = some (.list vs))

inductive Pat where
  | var (i : Nat)
  | tup (ps : List Nat)
noncomputable def setAll : List Nat → List V → List V → List V
  | i :: is, v :: vs, ρ => setAll is vs (ρ.set i v)
  | _, _, ρ => ρ
inductive BindK (σ : Store) (K : List V → Prop) (ρ : List V) : Pat → V → Prop
  | var {i : Nat} {v : V} : K (ρ.set i v) → BindK σ K ρ (.var i) v
  | tup {ps : List Nat} {vs : List V} : ps.length = vs.length → K (setAll ps vs ρ) → BindK σ K ρ (.tup ps) (.tup vs)
  | list {ps : List Nat} {n : Nat} {vs : List V} : σ[n]? = some (.list vs) → ps.length = vs.length → K (setAll ps vs ρ) → BindK σ K ρ (.tup ps) (.ref n)
inductive SetK (σ : Store) (K : Store → Prop) (v : V) : V → V → Prop
  | mk {n : Nat} {vs : List V} {k : Nat} : σ[n]? = some (.list vs) → n ≠ 0 → k < vs.length → K (σ.set n (.list (vs.set k v))) → SetK σ K v (.ref n) (.int k)

/-! expressions -/
noncomputable def xNone : Ex := fun _ _ σ Q _ => Q .none σ
noncomputable def xBool (b : Bool) : Ex := fun _ _ σ Q _ => Q (.bool b) σ
noncomputable def xInt (i : Int) : Ex := fun _ _ σ Q _ => Q (.int i) σ
noncomputable def xStr (s : Str) : Ex := fun _ _ σ Q _ => Q (.str s) σ
noncomputable def xLoc (i : Nat) : Ex := fun _ ρ σ Q _ => ∃ v, ρ[i]? = some v ∧ v ≠ .undef ∧ Q v σ
noncomputable def xBin (op : BOp) (a b : Ex) : Ex := fun C ρ σ Q X => a C ρ σ (fun x σ₁ => b C ρ σ₁ (fun y σ₂ => BinK σ₂ Q op x y) X) X
noncomputable def xNeg (a : Ex) : Ex := fun C ρ σ Q X => a C ρ σ (fun x σ₁ => ∃ i, x = .int i ∧ Q (.int (-i)) σ₁) X
noncomputable def xNot (a : Ex) : Ex := fun C ρ σ Q X => a C ρ σ (fun x σ₁ => TruK σ₁ (fun b => Q (.bool (!b)) σ₁) x) X
noncomputable def evs : List Ex → Es
  | [] => fun _ _ σ Q _ => Q [] σ
  | e :: es => fun C ρ σ Q X => e C ρ σ (fun v σ₁ => evs es C ρ σ₁ (fun vs σ₂ => Q (v :: vs) σ₂) X) X
/-- and (d = true), or (d = false): the value -/
noncomputable def xBoo (d : Bool) : List Ex → Ex
  | [] => fun _ _ _ _ _ => False
  | [e] => e
  | e :: e' :: es => fun C ρ σ Q X => e C ρ σ (fun v σ₁ => TruK σ₁ (fun b => if b = d then xBoo d (e' :: es) C ρ σ₁ Q X else Q v σ₁) v) X
/-- a chain of comparisons -/
noncomputable def chain : List CmpOp → List Ex → V → Tx
  | [op], [r], x => fun C ρ σ Q X => r C ρ σ (fun y σ₁ => CmpK σ₁ (fun b => Q b σ₁) op x y) X
  | op :: op' :: ops, r :: r' :: rs, x => fun C ρ σ Q X => r C ρ σ (fun y σ₁ => CmpK σ₁ (fun b => if b = true then chain (op' :: ops) (r' :: rs) y C ρ σ₁ Q X else Q false σ₁) op x y) X
  | _, _, _ => fun _ _ _ _ _ => False
noncomputable def tCmp (l : Ex) (ops : List CmpOp) (rs : List Ex) : Tx := fun C ρ σ Q X => l C ρ σ (fun x σ₁ => chain ops rs x C ρ σ₁ Q X) X
noncomputable def xOf (t : Tx) : Ex := fun C ρ σ Q X => t C ρ σ (fun b σ₁ => Q (.bool b) σ₁) X
noncomputable def xTup (es : List Ex) : Ex := fun C ρ σ Q X => evs es C ρ σ (fun vs σ₁ => Q (.tup vs) σ₁) X
noncomputable def xList (es : List Ex) : Ex := fun C ρ σ Q X => evs es C ρ σ (fun vs σ₁ => Q (.ref σ₁.length) (σ₁ ++ [.list vs])) X
noncomputable def xSub (a i : Ex) : Ex := fun C ρ σ Q X => a C ρ σ (fun x σ₁ => i C ρ σ₁ (fun y σ₂ => SubK σ₂ Q x y) X) X
noncomputable def evo : Option Ex → Oracle → List V → Store → (Option V → Store → Prop) → XPost → Prop
  | Option.none => fun _ _ σ Q _ => Q Option.none σ
  | some e => fun C ρ σ Q X => e C ρ σ (fun v σ₁ => Q (some v) σ₁) X
noncomputable def xSlice (a : Ex) (lo hi : Option Ex) : Ex := fun C ρ σ Q X => a C ρ σ (fun x σ₁ => evo lo C ρ σ₁ (fun y σ₂ => evo hi C ρ σ₂ (fun z σ₃ => SliceK σ₃ Q x y z) X) X) X
noncomputable def xCall (f : Nat) (es : List Ex) : Ex := fun C ρ σ Q X => evs es C ρ σ (fun vs σ₁ => C f vs σ₁ Q X) X
noncomputable def xPrim (p : Pr) (es : List Ex) : Ex := fun C ρ σ Q X => evs es C ρ σ (fun vs σ₁ => PrimK σ₁ Q p vs) X
noncomputable def xApp (o x : Ex) : Ex := fun C ρ σ Q X => o C ρ σ (fun v σ₁ => isList σ₁ v ∧ x C ρ σ₁ (fun u σ₂ => AppK σ₂ Q u v) X) X
noncomputable def xSort (u : Bool) (a : Ex) : Ex := fun C ρ σ Q X => a C ρ σ (fun v σ₁ => SortK σ₁ Q u v) X
noncomputable def noX : XPost := fun _ _ => False

/-! tests -/
noncomputable def tVal (a : Ex) : Tx := fun C ρ σ Q X => a C ρ σ (fun v σ₁ => TruK σ₁ (fun b => Q b σ₁) v) X
noncomputable def tNot (t : Tx) : Tx := fun C ρ σ Q X => t C ρ σ (fun b σ₁ => Q (!b) σ₁) X
noncomputable def tAnd : List Tx → Tx
  | [] => fun _ _ σ Q _ => Q true σ
  | t :: ts => fun C ρ σ Q X => t C ρ σ (fun b σ₁ => if b = true then tAnd ts C ρ σ₁ Q X else Q false σ₁) X
noncomputable def tOr : List Tx → Tx
  | [] => fun _ _ σ Q _ => Q false σ
  | t :: ts => fun C ρ σ Q X => t C ρ σ (fun b σ₁ => if b = true then Q true σ₁ else tOr ts C ρ σ₁ Q X) X

/-- a comprehension's turns -/
noncomputable def compW (turn : V → Store → (Option V → Store → Prop) → Prop) (same : Store → Prop) : List V → List V → Store → (List V → Store → Prop) → Prop
  | [], acc, σ, Q => Q acc σ
  | v :: vs, acc, σ, Q => turn v σ fun r σ' => same σ' ∧ compW turn same vs (acc ++ r.toList) σ' Q
noncomputable def turnC (C : Oracle) (elt : Ex) (i : Nat) (ifs : List Tx) (ρ : List V) (v : V) (σ : Store) (R : Option V → Store → Prop) : Prop :=
  tAnd ifs C (ρ.set i v) σ (fun b σ₁ => if b = true then elt C (ρ.set i v) σ₁ (fun x σ₂ => R (some x) σ₂) noX else R Option.none σ₁) noX
noncomputable def xComp (elt : Ex) (i : Nat) (k : SrcT) (src : List Ex) (ifs : List Tx) : Ex := fun C ρ σ Q X => evs src C ρ σ (fun vs σ₁ => ∃ items same, SrcK σ₁ k vs items same ∧ items.length ≤ maxLen ∧
  compW (turnC C elt i ifs ρ) same items [] σ₁ fun ys σ₂ => Q (.ref σ₂.length) (σ₂ ++ [.list ys])) X

/-! statements -/
noncomputable def sExpr (e : Ex) : Sx := fun C ρ σ Q => e C ρ σ (fun _ σ₁ => Q .next ρ σ₁) (fun c σ₁ => Q (.exc c) ρ σ₁)
noncomputable def sRet (e : Ex) : Sx := fun C ρ σ Q => e C ρ σ (fun v σ₁ => Q (.ret v) ρ σ₁) (fun c σ₁ => Q (.exc c) ρ σ₁)
noncomputable def sRetN : Sx := fun _ ρ σ Q => Q (.ret .none) ρ σ
noncomputable def sPass : Sx := fun _ ρ σ Q => Q .next ρ σ
noncomputable def sSet (p : Pat) (e : Ex) : Sx := fun C ρ σ Q => e C ρ σ (fun v σ₁ => BindK σ₁ (fun ρ' => Q .next ρ' σ₁) ρ p v) (fun c σ₁ => Q (.exc c) ρ σ₁)
noncomputable def sItem (o i e : Ex) : Sx := fun C ρ σ Q => e C ρ σ (fun v σ₁ => o C ρ σ₁ (fun x σ₂ => i C ρ σ₂ (fun y σ₃ => SetK σ₃ (fun σ₄ => Q .next ρ σ₄) v x y) (fun c σ₃ => Q (.exc c) ρ σ₃)) (fun c σ₂ => Q (.exc c) ρ σ₂)) (fun c σ₁ => Q (.exc c) ρ σ₁)
noncomputable def seqK (K : List V → Store → Prop) (Q : Post) : Post
  | .next, ρ, σ => K ρ σ
  | fl, ρ, σ => Q fl ρ σ
noncomputable def sSeq : List Sx → Sx
  | [] => fun _ ρ σ Q => Q .next ρ σ
  | s :: ss => fun C ρ σ Q => s C ρ σ (seqK (fun ρ₁ σ₁ => sSeq ss C ρ₁ σ₁ Q) Q)
noncomputable def sIf (c : Tx) (b o : List Sx) : Sx := fun C ρ σ Q => c C ρ σ (fun t σ₁ => if t = true then sSeq b C ρ σ₁ Q else sSeq o C ρ σ₁ Q) (fun c σ₁ => Q (.exc c) ρ σ₁)
/-- behind a loop's turn -/
noncomputable def loopK (K : List V → Store → Prop) (Q : Post) : Post
  | .next, ρ, σ => K ρ σ
  | .cont, ρ, σ => K ρ σ
  | .brk, ρ, σ => Q .next ρ σ
  | fl, ρ, σ => Q fl ρ σ
noncomputable def forW (turn : V → List V → Store → Post → Prop) (same : Store → Prop) : List V → List V → Store → Post → Prop
  | [], ρ, σ, Q => Q .next ρ σ
  | v :: vs, ρ, σ, Q => turn v ρ σ (loopK (fun ρ' σ' => same σ' ∧ forW turn same vs ρ' σ' Q) Q)
noncomputable def turnF (C : Oracle) (p : Pat) (body : List Sx) (v : V) (ρ : List V) (σ : Store) (Q : Post) : Prop := BindK σ (fun ρ' => sSeq body C ρ' σ Q) ρ p v
noncomputable def sFor (p : Pat) (k : SrcT) (src : List Ex) (body : List Sx) : Sx := fun C ρ σ Q => evs src C ρ σ (fun vs σ₁ => ∃ items same, SrcK σ₁ k vs items same ∧ forW (turnF C p body) same items ρ σ₁ Q) (fun c σ₁ => Q (.exc c) ρ σ₁)

/-- a function: how many parameters, how many slots, its body -/
structure Fn where
  params : Nat
  slots : Nat
  body : List Sx
noncomputable def retK (Q : VPost) (X : XPost) : Post
  | .ret v, _, σ => Q v σ
  | .next, _, σ => Q .none σ
  | .exc c, _, σ => X c σ
  | _, _, _ => False
/-- calls, at most so deep -/
noncomputable def callW (P : List Fn) : Nat → Oracle
  | 0 => fun _ _ _ _ _ => False
  | d + 1 => fun f args σ Q X => ∃ fn, P[f]? = some fn ∧ args.length = fn.params ∧ sSeq fn.body (callW P d) (args ++ List.replicate (fn.slots - fn.params) V.undef) σ (retK Q X)

/-! names -/
inductive Gl where
  | fn (i : Nat)
  | str (s : Str)
  | int (i : Int)
abbrev GlT := List (Str × Gl)
abbrev Vs := List (Str × Nat)
end Mine

/-! N2 -/
namespace Mine
open PySem PySem.Calls
set_option genSizeOf false
set_option genInjectivity false

mutual
/-- the value v of the heap stands for V -/
noncomputable def Rel (h : Heap) (φ : List Addr) : V → Value → Prop
  | .undef, _ => False
  | .none, v => v = .none
  | .bool b, v => v = .bool b
  | .int i, v => ∃ t, v = .int i t
  | .str s, v => ∃ t, v = .str s t
  | .tup vs, v => ∃ a items n, v = .ref a ∧ h.get? a = some { cls := .type "tuple", data := .seq items n } ∧ RelL h φ vs items.toList
  | .ref n, v => ∃ a, v = .ref a ∧ φ[n]? = some a
noncomputable def RelL (h : Heap) (φ : List Addr) : List V → List Value → Prop
  | [], [] => True
  | V :: Vs, v :: vs => Rel h φ V v ∧ RelL h φ Vs vs
  | _, _ => False
end
theorem rel_int {h : Heap} {φ : List Addr} {i : Int} {t : Tok} : Rel h φ (.int i) (.int i t) := ⟨t, rfl⟩
theorem rel_str {h : Heap} {φ : List Addr} {x : Str} {t : Tok} : Rel h φ (.str x) (.str x t) := ⟨t, rfl⟩
theorem rel_bool {h : Heap} {φ : List Addr} {b : Bool} : Rel h φ (.bool b) (.bool b) := rfl
theorem rel_none {h : Heap} {φ : List Addr} : Rel h φ .none .none := rfl

noncomputable def RelO (h : Heap) (φ : List Addr) : O → Addr → Prop
  | .list vs, a => ∃ items n, h.get? a = some { cls := .type "list", data := .seq items n } ∧ RelL h φ vs items.toList ∧ vs.length ≤ 2 ^ 20
  | .tab P, a => a = P ∧ h.get? a = some { cls := .none, data := .fields #[] }
  | .gone, a => ∃ us, h.get? a = some { cls := .none, data := .fields us }

structure Sim (h₀ h : Heap) (φ : List Addr) (σ : Store) : Prop where
  keep : ∀ b o, h₀.get? b = some o → h.get? b = some o
  len : φ.length = σ.length
  nodup : φ.Nodup
  new : ∀ (n : Nat) a, φ[n + 1]? = some a → h₀.get? a = none
  obj : ∀ (n : Nat) o, σ[n]? = some o → ∃ a, φ[n]? = some a ∧ RelO h φ o a

/-- all but the store's objects, and what is the frame's own, stays -/
noncomputable def Keep (φ : List Addr) (own : Addr → Prop) (h h' : Heap) : Prop := ∀ b o, b ∉ φ → ¬ own b → h.get? b = some o → h'.get? b = some o
noncomputable def noOwn : Addr → Prop := fun _ => False

/-- an address whose object is no tuple -/
noncomputable def NoTup (h : Heap) (a : Addr) : Prop := ∀ items n, h.get? a ≠ some { cls := .type "tuple", data := .seq items n }
theorem noTup {h : Heap} {a : Addr} {o : Obj} (e : h.get? a = some o) (k : o.cls ≠ .type "tuple") : NoTup h a := fun _ _ e' => by
  rw [e] at e'; cases e'; exact k rfl
theorem noTupD {h : Heap} {a : Addr} {o : Obj} (e : h.get? a = some o) (k : ∀ items n, o.data ≠ .seq items n) : NoTup h a := fun _ _ e' => by
  rw [e] at e'; cases e'; exact k _ _ rfl

theorem RelL.nil {h : Heap} {φ : List Addr} : RelL h φ [] [] := trivial
theorem RelL.length {h : Heap} {φ : List Addr} : ∀ {Vs : List V} {vs : List Value}, RelL h φ Vs vs → Vs.length = vs.length
  | [], [], _ => rfl
  | _ :: _, _ :: _, x => congrArg (· + 1) (RelL.length x.2)
theorem RelL.one {h : Heap} {φ : List Addr} {V : V} : ∀ {vs : List Value}, RelL h φ [V] vs → ∃ v, vs = [v] ∧ Rel h φ V v
  | [v], r => ⟨v, rfl, r.1⟩
  | _ :: _ :: _, r => r.2.elim
theorem RelL.two {h : Heap} {φ : List Addr} {V W : Mine.V} : ∀ {vs : List Value}, RelL h φ [V, W] vs → ∃ v u, vs = [v, u] ∧ Rel h φ V v ∧ Rel h φ W u
  | [v, u], r => ⟨v, u, rfl, r.1, r.2.1⟩
  | [_], r => r.2.elim
  | _ :: _ :: _ :: _, r => r.2.2.elim
theorem RelL.get {h : Heap} {φ : List Addr} : ∀ {Vs : List V} {vs : List Value} {i : Nat} {V : V}, RelL h φ Vs vs → Vs[i]? = some V → ∃ v, vs[i]? = some v ∧ Rel h φ V v
  | _ :: _, _ :: _, 0, _, x, e => ⟨_, rfl, Option.some.inj e ▸ x.1⟩
  | _ :: _, _ :: _, i + 1, _, x, e => RelL.get (i := i) x.2 e
theorem RelL.append {h : Heap} {φ : List Addr} : ∀ {Vs Ws : List V} {vs ws : List Value}, RelL h φ Vs vs → RelL h φ Ws ws → RelL h φ (Vs ++ Ws) (vs ++ ws)
  | [], _, [], _, _, y => y
  | _ :: _, _, _ :: _, _, x, y => ⟨x.1, RelL.append x.2 y⟩

section
variable {h h' : Heap} {φ φ' : List Addr}
theorem pre_get {α : Type} {l l' : List α} (h : l <+: l') {n : Nat} {a : α} (e : l[n]? = some a) : l'[n]? = some a :=
  List.IsPrefix.getElem?_eq_some h e
where
  List.IsPrefix.getElem?_eq_some {l l' : List α} (h : l <+: l') {n : Nat} {a : α} (e : l[n]? = some a) : l'[n]? = some a := by
    obtain ⟨t, rfl⟩ := h
    rw [List.getElem?_append_left (List.getElem?_eq_some_iff.mp e).1]; exact e
mutual
theorem Rel.keep (k : ∀ b items n, h.get? b = some { cls := .type "tuple", data := .seq items n } → h'.get? b = some { cls := .type "tuple", data := .seq items n }) (hp : φ <+: φ') : ∀ (V : V) (v : Value), Rel h φ V v → Rel h' φ' V v
  | .undef, _, x => x
  | .none, _, x => x
  | .bool _, _, x => x
  | .int _, _, x => x
  | .str _, _, x => x
  | .tup Vs, _, ⟨a, items, n, e, g, r⟩ => ⟨a, items, n, e, k a items n g, RelL.keep k hp Vs _ r⟩
  | .ref _, _, ⟨a, e, g⟩ => ⟨a, e, pre_get hp g⟩
theorem RelL.keep (k : ∀ b items n, h.get? b = some { cls := .type "tuple", data := .seq items n } → h'.get? b = some { cls := .type "tuple", data := .seq items n }) (hp : φ <+: φ') : ∀ (Vs : List V) (vs : List Value), RelL h φ Vs vs → RelL h' φ' Vs vs
  | [], [], _ => trivial
  | V :: Vs, v :: vs, x => ⟨Rel.keep k hp V v x.1, RelL.keep k hp Vs vs x.2⟩
  | [], _ :: _, x => x
  | _ :: _, [], x => x
end
end

theorem RelO.keep {h h' : Heap} {φ φ' : List Addr} (hp : φ <+: φ') (kt : ∀ b items n, h.get? b = some { cls := .type "tuple", data := .seq items n } → h'.get? b = some { cls := .type "tuple", data := .seq items n }) :
    ∀ {o : O} {a : Addr}, (∀ ob, h.get? a = some ob → h'.get? a = some ob) → RelO h φ o a → RelO h' φ' o a
  | .list _, _, k, ⟨items, n, e, r, z⟩ => ⟨items, n, k _ e, RelL.keep kt hp _ _ r, z⟩
  | .tab _, _, k, x => ⟨x.1, k _ x.2⟩
  | .gone, _, k, ⟨us, e⟩ => ⟨us, k _ e⟩
theorem list_tuple : Value.type "list" ≠ Value.type "tuple" := by simp
/-- an object of the store: no tuple, no namespace, no cell, no iterator -/
inductive There (h : Heap) (a : Addr) : Prop
  | mk (ob : Obj) : h.get? a = some ob → ob.cls ≠ .type "tuple" → (∀ us, ob.data = .fields us → ob.cls = .none) → (∀ es ep, ob.data ≠ .dict es ep) → (∀ v, ob.data ≠ .cell v) → There h a
theorem RelO.there {h : Heap} {φ : List Addr} : ∀ {o : O} {a : Addr}, RelO h φ o a → There h a
  | .list _, _, ⟨_, _, e, _⟩ => .mk _ e list_tuple nofun nofun nofun
  | .tab _, _, x => .mk _ x.2 nofun (fun _ _ => rfl) nofun nofun
  | .gone, _, ⟨_, e⟩ => .mk _ e nofun (fun _ _ => rfl) nofun nofun

theorem get_none {h : Heap} {a : Addr} (l : h.objs.size ≤ a) : h.get? a = none := by
  cases e : h.get? a with
  | none => rfl
  | some o => exact absurd (Heap.lt_size e) (Nat.not_lt.mpr l)
theorem Sim.at {h₀ h : Heap} {φ : List Addr} {σ : Store} (x : Sim h₀ h φ σ) {a : Addr} (m : a ∈ φ) : There h a := by
  obtain ⟨n, hn, rfl⟩ := List.mem_iff_getElem.mp m
  have hs : n < σ.length := x.len ▸ hn
  obtain ⟨a, e, r⟩ := x.obj n σ[n] (List.getElem?_eq_getElem hs)
  rw [List.getElem?_eq_getElem hn] at e
  exact Option.some.inj e ▸ r.there
theorem Sim.noTup {h₀ h : Heap} {φ : List Addr} {σ : Store} (x : Sim h₀ h φ σ) {a : Addr} (m : a ∈ φ) : NoTup h a :=
  match x.at m with | .mk _ e k _ _ _ => Mine.noTup e k
theorem Sim.lt {h₀ h : Heap} {φ : List Addr} {σ : Store} (x : Sim h₀ h φ σ) {a : Addr} (m : a ∈ φ) : a < h.objs.size :=
  match x.at m with | .mk _ e _ _ _ _ => Heap.lt_size e
theorem Sim.out {h₀ h : Heap} {φ : List Addr} {σ : Store} (x : Sim h₀ h φ σ) {a : Addr} (n : h.get? a = none) : a ∉ φ := fun m =>
  match x.at m with | .mk _ e _ _ _ _ => nomatch n.symm.trans e
theorem Sim.none₀ {h₀ h : Heap} {φ : List Addr} {σ : Store} (x : Sim h₀ h φ σ) {a : Addr} (n : h.get? a = none) : h₀.get? a = none := by
  cases e : h₀.get? a with
  | none => rfl
  | some o => have := x.keep a o e; rw [n] at this; cases this
/-- a heap that keeps the store's objects and the tuples -/
theorem Sim.keeps {h₀ h h' : Heap} {φ : List Addr} {σ : Store} {own : Addr → Prop} (x : Sim h₀ h φ σ) (k : ∀ b o, ¬ own b → h.get? b = some o → h'.get? b = some o)
    (ho : ∀ a, own a → NoTup h a ∧ a ∉ φ ∧ h₀.get? a = none) : Sim h₀ h' φ σ where
  keep b o e := k b o (fun m => by rw [(ho b m).2.2] at e; cases e) (x.keep b o e)
  len := x.len
  nodup := x.nodup
  new := x.new
  obj n o e := let ⟨a, g, r⟩ := x.obj n o e; ⟨a, g, r.keep (List.prefix_refl _) (fun b items n e => k b _ (fun m => (ho b m).1 items n e) e) fun ob => k a ob fun m => (ho a m).2.1 (List.mem_of_getElem? g)⟩
theorem mem_snoc {α : Type} {l : List α} {a b : α} (h : b ∈ l ++ [a]) : b ∈ l ∨ b = a := (List.mem_append.mp h).imp id List.mem_singleton.mp
/-- a new object of the store -/
theorem Sim.add {h₀ h : Heap} {φ : List Addr} {σ : Store} (x : Sim h₀ h φ σ) {a : Addr} {o : O} (hn : a ∉ φ) (h0 : h₀.get? a = none) (r : RelO h φ o a) : Sim h₀ h (φ ++ [a]) (σ ++ [o]) where
  keep := x.keep
  len := by rw [List.length_append, List.length_append, x.len]; rfl
  nodup := List.nodup_append.mpr ⟨x.nodup, List.nodup_cons.mpr ⟨List.not_mem_nil, List.nodup_nil⟩, fun b hb c hc e => hn (List.mem_singleton.mp hc ▸ e ▸ hb)⟩
  new m b hb := by
    rcases Nat.lt_or_ge (m + 1) φ.length with hlt | hge
    · rw [List.getElem?_append_left hlt] at hb; exact x.new m b hb
    · rw [List.getElem?_append_right hge] at hb
      exact List.mem_singleton.mp (List.mem_of_getElem? hb) ▸ h0
  obj n ob e := by
    have kp : ∀ {ob b}, RelO h φ ob b → RelO h (φ ++ [a]) ob b := fun r => r.keep (List.prefix_append _ _) (fun _ _ _ e => e) fun _ e => e
    rcases Nat.lt_or_ge n σ.length with hlt | hge
    · rw [List.getElem?_append_left hlt] at e
      obtain ⟨b, g, r⟩ := x.obj n ob e
      exact ⟨b, pre_get (List.prefix_append _ _) g, kp r⟩
    · rw [List.getElem?_append_right hge] at e
      have : n = φ.length := by
        have := (List.getElem?_eq_some_iff.mp e).1
        rw [x.len]; exact Nat.le_antisymm (by rw [List.length_singleton] at this; exact Nat.le_of_sub_eq_zero (Nat.lt_one_iff.mp this)) hge
      refine ⟨a, by rw [this]; exact List.getElem?_concat_length, kp ?_⟩
      exact List.mem_singleton.mp (List.mem_of_getElem? e) ▸ r

/-! states, and steps between them -/
structure Cf (h₀ : Heap) where
  s : Shared
  φ : List Addr
  σ : Store
  sim : Sim h₀ s.heap φ σ
section
variable {h₀ : Heap}
/-- a step; what is own may be gone behind it -/
structure WStp (own : Addr → Prop) (c c' : Cf h₀) : Prop where
  only : c'.s.os = c.s.os ∧ c'.s.gens = c.s.gens
  pre : c.φ <+: c'.φ
  keep : Keep c.φ own c.s.heap c'.s.heap
  fresh : ∀ a ∈ c'.φ, a ∈ c.φ ∨ c.s.heap.get? a = none
structure Stp (own : Addr → Prop) (c c' : Cf h₀) : Prop extends WStp own c c' where
  pres : ∀ b o, c.s.heap.get? b = some o → ∃ o', c'.s.heap.get? b = some o'
theorem Stp.refl {own : Addr → Prop} (c : Cf h₀) : Stp own c c := ⟨⟨⟨rfl, rfl⟩, List.prefix_refl _, fun _ _ _ _ e => e, fun _ m => .inl m⟩, fun _ o e => ⟨o, e⟩⟩
theorem Stp.gone {own : Addr → Prop} {c c' : Cf h₀} (x : Stp own c c') {a : Addr} (e : c'.s.heap.get? a = none) : c.s.heap.get? a = none := by
  cases q : c.s.heap.get? a with
  | none => rfl
  | some o => obtain ⟨o', e'⟩ := x.pres a o q; rw [e] at e'; cases e'
theorem WStp.out {own : Addr → Prop} {c c' : Cf h₀} (x : WStp own c c') {a : Addr} {o : Obj} (e : c.s.heap.get? a = some o) (n : a ∉ c.φ) : a ∉ c'.φ := fun m => (x.fresh a m).elim n fun e' => by rw [e] at e'; cases e'
theorem Stp.trans {own : Addr → Prop} {c c₁ c₂ : Cf h₀} (x : Stp own c c₁) (y : Stp own c₁ c₂) : Stp own c c₂ where
  only := ⟨y.only.1.trans x.only.1, y.only.2.trans x.only.2⟩
  pre := x.pre.trans y.pre
  keep b o h1 h2 e := y.keep b o (x.out e h1) h2 (x.keep b o h1 h2 e)
  fresh a m := (y.fresh a m).elim (x.fresh a) fun e => .inr (x.gone e)
  pres b o e := let ⟨o', e'⟩ := x.pres b o e; y.pres b o' e'
/-- a step behind it that turns what was not there alone -/
theorem Stp.transNew {own own' : Addr → Prop} {c c₁ c₂ : Cf h₀} (x : Stp own c c₁) (y : WStp own' c₁ c₂) (h : ∀ b, own' b → c.s.heap.get? b = none) : Stp own c c₂ where
  only := ⟨y.only.1.trans x.only.1, y.only.2.trans x.only.2⟩
  pre := x.pre.trans y.pre
  keep b o h1 h2 e := y.keep b o (x.out e h1) (fun m => nomatch (h b m).symm.trans e) (x.keep b o h1 h2 e)
  fresh a m := (y.fresh a m).elim (x.fresh a) fun e => .inr (x.gone e)
  pres b o e := let ⟨o', e'⟩ := x.pres b o e; (Classical.em (b ∈ c₁.φ)).elim (fun m => match c₂.sim.at (y.pre.subset m) with | .mk ob e _ _ _ _ => ⟨ob, e⟩) fun m => ⟨o', y.keep b o' m (fun m => nomatch (h b m).symm.trans e) e'⟩
theorem Stp.wider {own own' : Addr → Prop} {c c' : Cf h₀} (x : Stp own c c') (h : ∀ a, own a → own' a) : Stp own' c c' := ⟨⟨x.only, x.pre, fun b o h1 h2 => x.keep b o h1 fun m => h2 (h b m), x.fresh⟩, x.pres⟩
theorem Stp.any {own : Addr → Prop} {c c' : Cf h₀} (x : Stp noOwn c c') : Stp own c c' := x.wider fun _ f => f.elim
/-- what was not there is nobody's own -/
theorem Stp.drop {own : Addr → Prop} {c c' : Cf h₀} (x : Stp own c c') (h : ∀ b, own b → c.s.heap.get? b = none) : Stp noOwn c c' :=
  ⟨⟨x.only, x.pre, fun b o h1 _ e => x.keep b o h1 (fun m => nomatch (h b m).symm.trans e) e, x.fresh⟩, x.pres⟩

/-- the store's objects stand, all that there was stands but what is own -/
noncomputable def Cf.keepOwn (c : Cf h₀) (s : Shared) {own : Addr → Prop} (k : ∀ b o, ¬ own b → c.s.heap.get? b = some o → s.heap.get? b = some o) (ho : ∀ a, own a → NoTup c.s.heap a ∧ a ∉ c.φ ∧ h₀.get? a = none) : Cf h₀ := ⟨s, c.φ, c.σ, c.sim.keeps k ho⟩
noncomputable def Cf.keep (c : Cf h₀) (s : Shared) (k : ∀ b o, c.s.heap.get? b = some o → s.heap.get? b = some o) : Cf h₀ := c.keepOwn s (own := noOwn) (fun b o _ e => k b o e) fun _ f => f.elim
theorem Cf.keepOwn_stp {c : Cf h₀} {s : Shared} {own : Addr → Prop} {k : ∀ b o, ¬ own b → c.s.heap.get? b = some o → s.heap.get? b = some o} {ho : ∀ a, own a → NoTup c.s.heap a ∧ a ∉ c.φ ∧ h₀.get? a = none} (only : s.os = c.s.os ∧ s.gens = c.s.gens)
    (pres : ∀ b o, own b → c.s.heap.get? b = some o → ∃ o', s.heap.get? b = some o') : Stp own c (c.keepOwn s k ho) :=
  ⟨⟨only, List.prefix_refl _, fun b o _ h e => k b o h e, fun _ m => .inl m⟩, fun b o e => (Classical.em (own b)).elim (fun h => pres b o h e) fun h => ⟨o, k b o h e⟩⟩
theorem Cf.keep_stp {c : Cf h₀} {s : Shared} {k : ∀ b o, c.s.heap.get? b = some o → s.heap.get? b = some o} (only : s.os = c.s.os ∧ s.gens = c.s.gens) : Stp noOwn c (c.keep s k) := keepOwn_stp only fun _ _ f => f.elim

theorem Rel.own {own : Addr → Prop} {c c' : Cf h₀} {V : V} {v : Value} (r : Rel c.s.heap c.φ V v) (x : WStp own c c') (ho : ∀ a, own a → NoTup c.s.heap a) : Rel c'.s.heap c'.φ V v :=
  Rel.keep (fun b items n e => x.keep b _ (fun m => c.sim.noTup m items n e) (fun m => ho b m items n e) e) x.pre _ _ r
theorem RelL.own {own : Addr → Prop} {c c' : Cf h₀} {Vs : List V} {vs : List Value} (r : RelL c.s.heap c.φ Vs vs) (x : WStp own c c') (ho : ∀ a, own a → NoTup c.s.heap a) : RelL c'.s.heap c'.φ Vs vs :=
  RelL.keep (fun b items n e => x.keep b _ (fun m => c.sim.noTup m items n e) (fun m => ho b m items n e) e) x.pre _ _ r
theorem Rel.step {c c' : Cf h₀} {V : V} {v : Value} (r : Rel c.s.heap c.φ V v) (x : Stp noOwn c c') : Rel c'.s.heap c'.φ V v := r.own x.toWStp fun _ f => f.elim
theorem RelL.step {c c' : Cf h₀} {Vs : List V} {vs : List Value} (r : RelL c.s.heap c.φ Vs vs) (x : Stp noOwn c c') : RelL c'.s.heap c'.φ Vs vs := r.own x.toWStp fun _ f => f.elim
/-- the list of the store at n -/
theorem Cf.list {c : Cf h₀} {n : Nat} {vs : List V} {v : Value} (e : c.σ[n]? = some (.list vs)) (r : Rel c.s.heap c.φ (.ref n) v) :
    ∃ a items k, v = .ref a ∧ c.φ[n]? = some a ∧ IsL c.s.heap a items k ∧ RelL c.s.heap c.φ vs items.toList ∧ vs.length ≤ 2 ^ 20 :=
  let ⟨_, ev, ea⟩ := r
  let ⟨a', ea', items, k, g, rl, z⟩ := c.sim.obj n _ e
  ⟨a', items, k, ev.trans (congrArg Value.ref (Option.some.inj (ea.symm.trans ea'))), ea', g, rl, z⟩
end

/-- what is fixed in a walk -/
structure Ctx where
  prog : Program
  w : World
  h₀ : Heap
  C : Oracle
  d : Nat
  /-- at this address stands an exception of the class so numbered -/
  exc : Heap → Addr → Nat → Prop
abbrev Ctx.M (K : Ctx) : Model := model K.prog K.w
/-- a frame's environment, and the slots of its names -/
structure Loc where
  env : Env
  vs : Vs
/-- room for d more calls -/
structure ROk (K : Ctx) (A : Around) : Prop where
  hd : A.handled = none
  depth : A.depth + K.d < 900
  units : A.units + 3 * K.d < 9000

section
variable {K : Ctx}
/-- behind a value -/
inductive PV (c : Cf K.h₀) (Q : VPost) (v : Value) : Shared → Prop
  | mk (c' : Cf K.h₀) (V : V) : Stp noOwn c c' → Rel c'.s.heap c'.φ V v → Q V c'.σ → PV c Q v c'.s
inductive PVs (c : Cf K.h₀) (Q : List V → Store → Prop) (vs : List Value) : Shared → Prop
  | mk (c' : Cf K.h₀) (Vs : List V) : Stp noOwn c c' → RelL c'.s.heap c'.φ Vs vs → Q Vs c'.σ → PVs c Q vs c'.s
inductive PB (c : Cf K.h₀) (Q : Bool → Store → Prop) (b : Bool) : Shared → Prop
  | mk (c' : Cf K.h₀) : Stp noOwn c c' → Q b c'.σ → PB c Q b c'.s
/-- behind an exception -/
inductive PX (c : Cf K.h₀) (X : XPost) : Value → Shared → Prop
  | mk (c' : Cf K.h₀) (k : Nat) (a : Addr) : c.s.heap.get? a = none → a ∉ c'.φ → Stp noOwn c c' → K.exc c'.s.heap a k → X k c'.σ → PX c X (.ref a) c'.s
theorem PX.lift {c₀ c : Cf K.h₀} {X : XPost} (x : Stp noOwn c₀ c) {e : Value} {s' : Shared} : PX c X e s' → PX c₀ X e s'
  | .mk c' k a n o st ex q => .mk c' k a (x.gone n) o (x.trans st) ex q
theorem PX.no {c : Cf K.h₀} {X : XPost} (h : ∀ k σ, ¬ X k σ) {e : Value} {s' : Shared} : ¬ PX c X e s'
  | .mk _ _ _ _ _ _ _ q => h _ _ q

variable {A : Around} {c₀ c : Cf K.h₀} {X : XPost}
/-- one thing behind the other -/
theorem seq {m : Sem Value} {Q : VPost} {P : Value → Shared → Prop} (st : Stp noOwn c₀ c) (h : wpAny K.M A m (PV c Q) (PX c X) c.s)
    (k : ∀ (c₁ : Cf K.h₀) (V : V) (v : Value), Stp noOwn c₀ c₁ → Stp noOwn c c₁ → Rel c₁.s.heap c₁.φ V v → Q V c₁.σ → P v c₁.s) : wpAny K.M A m P (PX c₀ X) c.s :=
  wpAny_mono h (fun v _ y => match y with | .mk c₁ V s₁ r q => k c₁ V v (st.trans s₁) s₁ r q) fun _ _ x => x.lift st
theorem seqs {m : Sem (List Value)} {Q : List V → Store → Prop} {P : List Value → Shared → Prop} (st : Stp noOwn c₀ c) (h : wpAny K.M A m (PVs c Q) (PX c X) c.s)
    (k : ∀ (c₁ : Cf K.h₀) (Vs : List V) (vs : List Value), Stp noOwn c₀ c₁ → Stp noOwn c c₁ → RelL c₁.s.heap c₁.φ Vs vs → Q Vs c₁.σ → P vs c₁.s) : wpAny K.M A m P (PX c₀ X) c.s :=
  wpAny_mono h (fun v _ y => match y with | .mk c₁ V s₁ r q => k c₁ V v (st.trans s₁) s₁ r q) fun _ _ x => x.lift st
theorem seqb {m : Sem Bool} {Q : Bool → Store → Prop} {P : Bool → Shared → Prop} (st : Stp noOwn c₀ c) (h : wpAny K.M A m (PB c Q) (PX c X) c.s)
    (k : ∀ (c₁ : Cf K.h₀) (b : Bool), Stp noOwn c₀ c₁ → Stp noOwn c c₁ → Q b c₁.σ → P b c₁.s) : wpAny K.M A m P (PX c₀ X) c.s :=
  wpAny_mono h (fun b _ y => match y with | .mk c₁ s₁ q => k c₁ b (st.trans s₁) s₁ q) fun _ _ x => x.lift st
theorem fin {m : Sem Value} {Q : VPost} (st : Stp noOwn c₀ c) (h : wpAny K.M A m (PV c Q) (PX c X) c.s) : wpAny K.M A m (PV c₀ Q) (PX c₀ X) c.s :=
  seq st h fun c₁ V _ s₁ _ r q => .mk c₁ V s₁ r q
theorem finb {m : Sem Bool} {Q : Bool → Store → Prop} (st : Stp noOwn c₀ c) (h : wpAny K.M A m (PB c Q) (PX c X) c.s) : wpAny K.M A m (PB c₀ Q) (PX c₀ X) c.s :=
  seqb st h fun c₁ _ s₁ _ q => .mk c₁ s₁ q
theorem PV.lift {Q : VPost} {v : Value} {s' : Shared} (st : Stp noOwn c₀ c) : PV c Q v s' → PV c₀ Q v s'
  | .mk c₁ V s₁ r q => .mk c₁ V (st.trans s₁) r q
theorem PB.lift {Q : Bool → Store → Prop} {b : Bool} {s' : Shared} (st : Stp noOwn c₀ c) : PB c Q b s' → PB c₀ Q b s'
  | .mk c₁ s₁ q => .mk c₁ (st.trans s₁) q
/-- the state with other tokens -/
noncomputable abbrev Cf.toks (c : Cf K.h₀) (tk : Nat) : Cf K.h₀ := c.keep { c.s with toks := tk } fun _ _ e => e
theorem PV.plain {Q : VPost} {V : V} {v : Value} {tk : Nat} (r : Rel c.s.heap c.φ V v) (q : Q V c.σ) : PV c Q v { c.s with toks := tk } := PV.mk (c.toks tk) V (Cf.keep_stp ⟨rfl, rfl⟩) r q
theorem PV.same {Q : VPost} {V : V} {v : Value} (r : Rel c.s.heap c.φ V v) (q : Q V c.σ) : PV c Q v c.s := .mk c V (.refl c) r q
/-- a value behind a heap that keeps all -/
theorem PV.kept {Q : VPost} {V : V} {v : Value} {h' : Heap} {tk : Nat} (k : ∀ b o, c.s.heap.get? b = some o → h'.get? b = some o) (r : Rel h' c.φ V v) (q : Q V c.σ) : PV c Q v { c.s with heap := h', toks := tk } :=
  PV.mk (c.keep { c.s with heap := h', toks := tk } k) V (Cf.keep_stp ⟨rfl, rfl⟩) r q
theorem keepT {h h' : Heap} (k : ∀ b o, h.get? b = some o → h'.get? b = some o) : ∀ b items n, h.get? b = some { cls := .type "tuple", data := .seq items n } → h'.get? b = some { cls := .type "tuple", data := .seq items n } := fun b _ _ e => k b _ e
/-- the state with a new object -/
noncomputable def Cf.add {h₀ : Heap} (c : Cf h₀) {o : O} {a : Addr} {h' : Heap} {tk : Nat} (k : ∀ b ob, c.s.heap.get? b = some ob → h'.get? b = some ob) (n : c.s.heap.get? a = none) (r : RelO h' c.φ o a) : Cf h₀ :=
  ⟨{ c.s with heap := h', toks := tk }, c.φ ++ [a], c.σ ++ [o], (c.keep { c.s with heap := h', toks := tk } k).sim.add (c.sim.out n) (c.sim.none₀ n) r⟩
/-- a new object of the store, behind a heap that keeps all -/
theorem PV.new {Q : VPost} {o : O} {a : Addr} {h' : Heap} {tk : Nat} (k : ∀ b ob, c.s.heap.get? b = some ob → h'.get? b = some ob) (n : c.s.heap.get? a = none) (r : RelO h' c.φ o a) (q : Q (.ref c.σ.length) (c.σ ++ [o])) :
    PV c Q (.ref a) { c.s with heap := h', toks := tk } :=
  PV.mk (c.add k n r) (.ref c.σ.length)
    ⟨⟨⟨rfl, rfl⟩, List.prefix_append _ _, fun b o _ _ e => k b o e, fun _ m => (mem_snoc m).imp id fun e => (congrArg c.s.heap.get? e).trans n⟩, fun b o e => ⟨o, k b o e⟩⟩ ⟨a, rfl, by rw [← c.sim.len]; exact List.getElem?_concat_length⟩ q
theorem PV.list {Q : VPost} {Vs : List V} {items : Array Value} {a : Addr} {h' : Heap} {tk n : Nat} (r : RelL c.s.heap c.φ Vs items.toList) (hz : Vs.length ≤ 2 ^ 20) (ha : c.s.heap.get? a = none) (k : ∀ b ob, c.s.heap.get? b = some ob → h'.get? b = some ob)
    (e : h'.get? a = some { cls := .type "list", data := .seq items n }) (q : Q (.ref c.σ.length) (c.σ ++ [.list Vs])) : PV c Q (.ref a) { c.s with heap := h', toks := tk } :=
  PV.new (o := .list Vs) k ha ⟨items, n, e, RelL.keep (keepT k) (List.prefix_refl _) _ _ r, hz⟩ q
theorem PV.pushL {Q : VPost} {Vs : List V} {items : List Value} (r : RelL c.s.heap c.φ Vs items) (hz : Vs.length ≤ 2 ^ 20) (q : Q (.ref c.σ.length) (c.σ ++ [.list Vs])) :
    PV c Q (.ref c.s.heap.objs.size) { c.s with heap := c.s.heap.push { cls := .type "list", data := .seq items.toArray 0 } } :=
  PV.list (tk := c.s.toks) r hz (get_none (Nat.le_refl _)) (fun _ _ e => Heap.get?_push_of_some _ e) (Heap.get?_push_size _ rfl) q
theorem PV.tup {Q : VPost} {Vs : List V} {items : Array Value} {a : Addr} {h' : Heap} {tk n : Nat} (r : RelL c.s.heap c.φ Vs items.toList) (k : ∀ b ob, c.s.heap.get? b = some ob → h'.get? b = some ob)
    (e : h'.get? a = some { cls := .type "tuple", data := .seq items n }) (q : Q (.tup Vs) c.σ) : PV c Q (.ref a) { c.s with heap := h', toks := tk } :=
  PV.kept (V := .tup Vs) k ⟨a, items, n, rfl, e, RelL.keep (keepT k) (List.prefix_refl _) _ _ r⟩ q
theorem PV.pushT {Q : VPost} {Vs : List V} {items : List Value} (r : RelL c.s.heap c.φ Vs items) (q : Q (.tup Vs) c.σ) :
    PV c Q (.ref c.s.heap.objs.size) { c.s with heap := c.s.heap.push { cls := .type "tuple", data := .seq items.toArray 0 } } :=
  PV.tup (tk := c.s.toks) r (fun _ _ e => Heap.get?_push_of_some _ e) (Heap.get?_push_size _ rfl) q
end

/-! the frame -/
/-- a slot's value, if it has one -/
noncomputable def SlotIs {h₀ : Heap} (c : Cf h₀) (ρ : List V) (i : Nat) (ov : Option Value) : Prop := ∀ V, ρ[i]? = some V → V ≠ .undef → ∃ v, ov = some v ∧ Rel c.s.heap c.φ V v
inductive NsAt {h₀ : Heap} (c : Cf h₀) (L : Loc) (ρ : List V) : Prop
  | mk (m : Str → Option Value) : c.s.heap.Ns L.env.locals m → (∀ x i, L.vs.lookup x = some i → L.env.kindOf x = some .local → SlotIs c ρ i (m x)) → NsAt c L ρ
inductive CellAt {h₀ : Heap} (c : Cf h₀) (L : Loc) (ρ : List V) (x : Str) (i : Nat) : Prop
  | mk (a : Addr) (ov : Option Value) : L.env.cells.lookup x = some a → a ∉ c.φ → h₀.get? a = none → c.s.heap.IsCell a ov → SlotIs c ρ i ov → CellAt c L ρ x i
structure Fr {h₀ : Heap} (c : Cf h₀) (L : Loc) (ρ : List V) : Prop where
  fn : L.env.scope.kind = .function
  glob : L.env.globals = mainGlobals
  blt : L.env.builtins = builtinsNs
  locNew : h₀.get? L.env.locals = none
  locOut : L.env.locals ∉ c.φ
  inj : ∀ x y i, L.vs.lookup x = some i → L.vs.lookup y = some i → x = y
  ns : NsAt c L ρ
  cell : ∀ x i, L.vs.lookup x = some i → L.env.kindOf x = some .cell ∨ L.env.kindOf x = some .free → CellAt c L ρ x i
  cellInj : ∀ x y i j a, L.vs.lookup x = some i → L.vs.lookup y = some j → L.env.cells.lookup x = some a → L.env.cells.lookup y = some a → x = y
/-- the addresses of a frame -/
noncomputable def Loc.own (L : Loc) : Addr → Prop := fun a => a = L.env.locals ∨ ∃ x i, L.vs.lookup x = some i ∧ L.env.kindOf x = some .cell ∧ L.env.cells.lookup x = some a
section
variable {h₀ : Heap} {c c' : Cf h₀} {L : Loc} {ρ : List V}
theorem ns_get {h : Heap} {a : Addr} {m : Str → Option Value} (n : h.Ns a m) : ∃ o, h.get? a = some o ∧ ∃ es ep, o.data = .dict es ep := let ⟨o, es, ep, e, d, _⟩ := n; ⟨o, e, es, ep, d⟩
theorem ns_keep {h h' : Heap} {a : Addr} {m : Str → Option Value} (n : h.Ns a m) (k : ∀ o, h.get? a = some o → h'.get? a = some o) : h'.Ns a m := let ⟨o, es, ep, e, d⟩ := n; ⟨o, es, ep, k o e, d⟩
theorem cell_keep {h h' : Heap} {a : Addr} {v : Option Value} (n : h.IsCell a v) (k : ∀ o, h.get? a = some o → h'.get? a = some o) : h'.IsCell a v := let ⟨o, e, d⟩ := n; ⟨o, k o e, d⟩
theorem SlotIs.own {own : Addr → Prop} {i : Nat} {ov : Option Value} (x : SlotIs c ρ i ov) (st : WStp own c c') (hn : ∀ a, own a → NoTup c.s.heap a) : SlotIs c' ρ i ov := fun V h1 h2 => let ⟨v, e, r⟩ := x V h1 h2; ⟨v, e, r.own st hn⟩
/-- a step that leaves the frame's namespace and cells -/
theorem Fr.keep {own : Addr → Prop} (F : Fr c L ρ) (st : WStp own c c') (hn : ∀ a, own a → NoTup c.s.heap a) (hl : ¬ own L.env.locals) (hc : ∀ a ov, c.s.heap.IsCell a ov → ¬ own a) : Fr c' L ρ where
  fn := F.fn
  glob := F.glob
  blt := F.blt
  locNew := F.locNew
  locOut := match F.ns with | .mk _ n _ => let ⟨_, e, _⟩ := ns_get n; st.out e F.locOut
  inj := F.inj
  ns := match F.ns with | .mk m n q => .mk m (ns_keep n fun o e => st.keep _ o F.locOut hl e) fun x i h1 h2 => (q x i h1 h2).own st hn
  cell x i h1 h2 := match F.cell x i h1 h2 with
    | .mk a ov e o n ic r => .mk a ov e (let ⟨_, e', _⟩ := ic; st.out e' o) n (cell_keep ic fun oo e' => st.keep _ oo o (hc a ov ic) e') (r.own st hn)
  cellInj := F.cellInj
theorem Fr.step (F : Fr c L ρ) (st : Stp noOwn c c') : Fr c' L ρ := F.keep st.toWStp (fun _ f => f.elim) (fun f => f) fun _ _ _ f => f
theorem noTup_ns {h : Heap} {a : Addr} {m : Str → Option Value} (n : h.Ns a m) : NoTup h a := let ⟨_, e, _, _, d⟩ := ns_get n; noTupD e fun _ _ e' => nomatch d.symm.trans e'
theorem noTup_cell {h : Heap} {a : Addr} {v : Option Value} (n : h.IsCell a v) : NoTup h a := let ⟨_, e, d⟩ := n; noTupD e fun _ _ e' => nomatch d.symm.trans e'
theorem Fr.noTup (F : Fr c L ρ) {a : Addr} : L.own a → NoTup c.s.heap a
  | .inl h => h ▸ match F.ns with | .mk _ n _ => noTup_ns n
  | .inr ⟨x, i, hx, hk, e⟩ => match F.cell x i hx (.inl hk) with | .mk _ _ e1 _ _ ic _ => Option.some.inj (e1.symm.trans e) ▸ noTup_cell ic
theorem SlotIs.undef {i : Nat} {v : V} {j : Nat} {ov : Option Value} (x : SlotIs c (ρ.set i v) j ov) : SlotIs c (ρ.set i .undef) j ov := fun V h hV => x V (by
    rw [List.getElem?_set] at h ⊢
    split at h
    · split at h
      · cases h; exact absurd rfl hV
      · cases h
    · rename_i hij; rw [if_neg hij]; exact h) hV
/-- one of its slots is let go -/
theorem Fr.undef {i : Nat} {v : V} (F : Fr c L (ρ.set i v)) : Fr c L (ρ.set i .undef) where
  fn := F.fn
  glob := F.glob
  blt := F.blt
  locNew := F.locNew
  locOut := F.locOut
  inj := F.inj
  ns := match F.ns with | .mk m n q => .mk m n fun x j h1 h2 => (q x j h1 h2).undef
  cell x j h1 h2 := match F.cell x j h1 h2 with | .mk a ov e o n ic r => .mk a ov e o n ic r.undef
  cellInj := F.cellInj
end
end Mine

/-! N3 -/
namespace Mine
open PySem PySem.Calls

section
variable (K : Ctx) (L : Loc)
/-- in this frame the tree e does what a says -/
noncomputable def EOk (e : Expr) (a : Ex) : Prop :=
  ∀ (A : Around) (c : Cf K.h₀) (ρ : List V) (Q : VPost) (X : XPost), ROk K A → Fr c L ρ → a K.C ρ c.σ Q X → wpAny K.M A (eval e L.env) (PV c Q) (PX c X) c.s
/-- displays, arguments -/
noncomputable def LOk (es : List Expr) (as : List Ex) : Prop :=
  ∀ (A : Around) (c : Cf K.h₀) (ρ : List V) (Q : List V → Store → Prop) (X : XPost) (pos : Pos), ROk K A → Fr c L ρ → evs as K.C ρ c.σ Q X →
    wpAny K.M A (spliced (backTo pos (starEach es L.env))) (PVs c fun vs σ => vs.length = es.length ∧ Q vs σ) (PX c X) c.s
/-- boolean operators -/
noncomputable def BOk (es : List Expr) (as : List Ex) : Prop :=
  ∀ (A : Around) (c : Cf K.h₀) (ρ : List V) (Q : VPost) (X : XPost) (pos : Pos) (op : BoolOp), ROk K A → Fr c L ρ → xBoo (op == .And) as K.C ρ c.σ Q X → wpAny K.M A (boolOp pos op (evalEach es L.env)) (PV c Q) (PX c X) c.s
/-- a chain of comparisons -/
noncomputable def COk (ops : List CmpOp) (es : List Expr) (as : List Ex) : Prop :=
  ∀ (A : Around) (c : Cf K.h₀) (ρ : List V) (Q : Bool → Store → Prop) (X : XPost) (pos : Pos) (V : V) (v : Value), ROk K A → Fr c L ρ → Rel c.s.heap c.φ V v → chain ops as V K.C ρ c.σ Q X →
    wpAny K.M A (compareChain pos v ops (evalEach es L.env)) (fun x s => ∃ b, x = .bool b ∧ PB c Q b s) (PX c X) c.s ∧ wpAny K.M A (testChain pos v ops (evalEach es L.env)) (PB c Q) (PX c X) c.s
/-- a test -/
noncomputable def TOk (e : Expr) (t : Tx) : Prop :=
  ∀ (A : Around) (c : Cf K.h₀) (ρ : List V) (Q : Bool → Store → Prop) (X : XPost), ROk K A → Fr c L ρ → t K.C ρ c.σ Q X → wpAny K.M A (isTrue e L.env (eval e L.env)) (PB c Q) (PX c X) c.s
/-- tests, all of them or one of them -/
noncomputable def AOk (es : List Expr) (ts : List Tx) : Prop :=
  ∀ (A : Around) (c : Cf K.h₀) (ρ : List V) (Q : Bool → Store → Prop) (X : XPost), ROk K A → Fr c L ρ →
    (tAnd ts K.C ρ c.σ Q X → wpAny K.M A (allTrue .And es L.env) (PB c Q) (PX c X) c.s) ∧ (tOr ts K.C ρ c.σ Q X → wpAny K.M A (allTrue .Or es L.env) (PB c Q) (PX c X) c.s)
end
noncomputable def NoStar (e : Expr) : Prop := ∀ rest env, starEach (e :: rest) env = (false, eval e env) :: starEach rest env
noncomputable def NoSlice (e : Expr) : Prop := ∀ o i, subscripted e false o i = operate [o, i] (getItem o i)

section
variable {K : Ctx} {L : Loc}
theorem ok_none {k pos} : EOk K L (.Constant .none k pos) xNone := fun _ _ _ _ _ _ _ q => wpAny_Constant_none (PV.same rel_none q)
theorem ok_bool {b k pos} : EOk K L (.Constant (.bool b) k pos) (xBool b) := fun _ _ _ _ _ _ _ q => wpAny_Constant_bool (PV.same rel_bool q)
theorem ok_int {i k pos} : EOk K L (.Constant (.int i) k pos) (xInt i) := fun _ _ _ _ _ _ _ q => wpAny_Constant_int (PV.plain rel_int q)
theorem ok_str {x k pos} : EOk K L (.Constant (.str x) k pos) (xStr x) := fun _ _ _ _ _ _ _ q => wpAny_Constant_str (PV.plain rel_str q)

noncomputable def isVar (sc : Scope) (x : Str) : Bool := match sc.names.lookup x with
  | some .local | some .cell | some .free => true
  | _ => false
theorem isVar_kind {sc : Scope} {x : Str} (h : isVar sc x = true) : sc.names.lookup x = some .local ∨ sc.names.lookup x = some .cell ∨ sc.names.lookup x = some .free := by
  unfold isVar at h
  split at h
  · exact .inl ‹_›
  · exact .inr (.inl ‹_›)
  · exact .inr (.inr ‹_›)
  · cases h
noncomputable def nameOk (x : Str) : Bool := !(x == ("__debug__" : Str)) && !(x == ("__classdict__" : Str))
theorem nameOk_1 {x : Str} (h : nameOk x = true) : (x == ("__debug__" : Str)) = false := (Bool.not_eq_true' _).mp (Bool.and_eq_true_iff.mp h).1
theorem nameOk_2 {x : Str} (h : nameOk x = true) : (x == ("__classdict__" : Str)) = false := (Bool.not_eq_true' _).mp (Bool.and_eq_true_iff.mp h).2
theorem ok_loc {x : Str} {i : Nat} {pos} (hx : L.vs.lookup x = some i) (hk : isVar L.env.scope x = true) (hn : nameOk x = true) : EOk K L (.Name x pos) (xLoc i) := fun _ c ρ _ _ _ F ⟨V, e, hV, q⟩ => by
  refine wpAny_Name ?_ (nameOk_1 hn)
  rcases isVar_kind hk with hl | hl
  · exact match F.ns with | .mk m n r => let ⟨_, hv, rl⟩ := r x i hx hl V e hV; wpAny_loadName_local F.fn hl n hv (PV.same rl q)
  · exact match F.cell x i hx hl with
    | .mk a ov e1 _ _ ic r => by
      obtain ⟨v, rfl, rl⟩ := r V e hV
      exact hl.elim (fun hl => wpAny_loadName_cell F.fn hl e1 ic (PV.same rl q)) fun hl => wpAny_loadName_free F.fn hl e1 ic (PV.same rl q) (nameOk_2 hn)

theorem size_le {n : Nat} (h : n ≤ maxLen) : n ≤ sizeLine := Nat.le_trans h (by decide)
theorem size_le' {n : Nat} (h : n ≤ 2 ^ 20) : n ≤ sizeLine := Nat.le_trans h (by decide)
theorem size_63 {n : Nat} (h : n ≤ 2 ^ 20) : (n : Int) < 2 ^ 63 := Int.lt_of_le_of_lt (Int.ofNat_le.mpr h) (by decide)
theorem maxLen_le {n : Nat} (h : n ≤ maxLen) : n ≤ 2 ^ 20 := Nat.le_trans h (by decide)
theorem RelL.size {h : Heap} {φ : List Addr} {Vs : List V} {items : Array Value} (r : RelL h φ Vs items.toList) : items.size = Vs.length := Array.length_toList.symm.trans r.length.symm
theorem isEmpty_eq {α β : Type} : ∀ {items : Array α} {vs : List β}, items.size = vs.length → (!items.isEmpty) = !vs.isEmpty
  | ⟨[]⟩, [], _ => rfl
  | ⟨_ :: _⟩, _ :: _, _ => rfl

theorem truthy_ok {A : Around} {c : Cf K.h₀} {V : V} {v : Value} {T : Bool → Prop} {R : Bool → Shared → Prop} {E : Value → Shared → Prop} (r : Rel c.s.heap c.φ V v) (ht : TruK c.σ T V) (h : ∀ b tk, T b → R b { c.s with toks := tk }) : wpAny K.M A (truthy v) R E c.s := by
  cases ht with
  | none q => cases r; exact fun Γ p hΓ => h _ c.s.toks q
  | bool q => cases r; exact wpAny_truthy_bool (h _ c.s.toks q)
  | int q => obtain ⟨t, rfl⟩ := r; exact PyProof.Rows.truthy_int (h _ c.s.toks q)
  | @str x hz q =>
    obtain ⟨t, rfl⟩ := r
    have e : ((x.length : Int) != 0) = (x.length != 0) := by cases x.length <;> rfl
    exact PySem.P.truthy_str (Int.not_le.mpr (size_63 (maxLen_le hz))) (e ▸ h _ _ q)
  | tup hz q => obtain ⟨a, items, n, rfl, g, rl⟩ := r; exact PyProof.Rows.truthy_tuple ⟨_, g, rfl, n, rfl⟩ (rl.size ▸ size_63 (maxLen_le hz)) (isEmpty_eq rl.size ▸ h _ _ q)
  | list e q => obtain ⟨a, items, k, rfl, _, hL, rl, z⟩ := Cf.list e r; exact wpAny_truthy_list hL.isList (rl.size ▸ size_63 z) (isEmpty_eq rl.size ▸ h _ _ q)

theorem small_abs {i : Int} (h : small i = true) : i.natAbs < 2 ^ 64 := by
  unfold small at h
  have h1 := of_decide_eq_true (Bool.and_eq_true_iff.mp h).1
  have h2 := of_decide_eq_true (Bool.and_eq_true_iff.mp h).2
  omega
theorem small_log {i : Int} (h : small i = true) : i.natAbs.log2 < 64 := by
  by_cases h0 : i.natAbs = 0
  · rw [h0]; decide
  · exact (Nat.log2_lt h0).mpr (small_abs h)
theorem small_bits {i : Int} (h : small i = true) : Builtin.Int.intBits i ≤ 64 := by
  unfold Builtin.Int.intBits
  split
  · exact Nat.zero_le _
  · exact small_log h

noncomputable def cOp : BOp → Operator
  | .add => .Add | .sub => .Sub | .mul => .Mult | .floordiv => .FloorDiv | .mod => .Mod | .pow => .Pow
theorem arr_append {α : Type} {a b : Array α} : (a.toList ++ b.toList).toArray = a ++ b := by simp
theorem no_items {h : Heap} {φ : List Addr} {Vs : List V} {items : Array Value} (r : RelL h φ Vs items.toList) (e : items.isEmpty = true) : Vs = [] := List.length_eq_zero_iff.mp (r.size.symm.trans (of_decide_eq_true e))
theorem pow_room : ∀ n : Nat, n < 10 → ¬ Builtin.Int.intTooBig ((Builtin.Int.intBits 10 : Int) * n) = true := by decide +kernel
theorem bin_ok {A : Around} {c : Cf K.h₀} {Q : VPost} {E : Value → Shared → Prop} {o : BOp} {V W : Mine.V} {a b : Value} (ra : Rel c.s.heap c.φ V a) (rb : Rel c.s.heap c.φ W b) (q : BinK c.σ Q o V W) : wpAny K.M A (binaryOp (cOp o) a b) (PV c Q) E c.s := by
  cases q with
  | add q => obtain ⟨t, rfl⟩ := ra; obtain ⟨u, rfl⟩ := rb; exact PySem.P.add_int (PV.plain rel_int q)
  | addS hz q => obtain ⟨t, rfl⟩ := ra; obtain ⟨u, rfl⟩ := rb; exact PyProof.Rows.add_str (fun _ _ => PV.plain rel_str q) (size_le hz)
  | @addT xs ys h1 h2 hz q =>
    obtain ⟨t, it, n, rfl, g, rl⟩ := ra
    obtain ⟨u, iu, k, rfl, gu, rlu⟩ := rb
    refine PySem.P.add_tuple g gu (fun h => h1 (no_items rl h)) (fun h => h2 (no_items rlu h)) ?_ (by rw [rl.size, rlu.size]; exact size_le hz)
    rw [← arr_append]
    exact PV.pushT (rl.append rlu) q
  | addL e1 e2 hz q =>
    obtain ⟨a, ia, k, rfl, _, hA, rla, _⟩ := Cf.list e1 ra
    obtain ⟨b, ib, k', rfl, _, hB, rlb, _⟩ := Cf.list e2 rb
    refine PySem.P.add_list hA hB ?_ (by rw [rla.size, rlb.size]; exact size_le hz)
    rw [← arr_append]
    exact PV.pushL (rla.append rlb) (maxLen_le (List.length_append ▸ hz)) q
  | sub q => obtain ⟨t, rfl⟩ := ra; obtain ⟨u, rfl⟩ := rb; exact PyProof.Rows.sub_int' (PV.plain rel_int q)
  | mul hs q => obtain ⟨t, rfl⟩ := ra; obtain ⟨u, rfl⟩ := rb; exact PySem.P.mul_int (PV.plain rel_int q) (hs.elim (fun h => IntMulOk.of_left (small_bits h)) fun h => IntMulOk.of_right (small_bits h))
  | div h0 hs q => obtain ⟨t, rfl⟩ := ra; obtain ⟨u, rfl⟩ := rb; exact PyProof.Rows.floordiv_int h0 (PV.plain rel_int q) (Or.inl (PyProof.noPylong_of_log2 (Nat.lt_of_lt_of_le (small_log hs) (by decide))))
  | mod h0 q => obtain ⟨t, rfl⟩ := ra; obtain ⟨u, rfl⟩ := rb; exact PyProof.Rows.mod_int' h0 (PV.plain rel_int q)
  | @pow n h0 h9 q =>
    obtain ⟨t, rfl⟩ := ra; obtain ⟨u, rfl⟩ := rb
    refine PySem.AutoIntOps.pow_4 (Int.natCast_nonneg n) (fun h => Nat.pos_iff_ne_zero.mp h0 (Int.natCast_eq_zero.mp (beq_iff_eq.mp h))) (by decide) (by decide) ?_ (PV.plain rel_int q)
    exact pow_room n (Nat.lt_succ_of_le h9)

theorem ok_bin {l r : Expr} {o : BOp} {a b : Ex} {pos} (hl : EOk K L l a) (hr : EOk K L r b) : EOk K L (.BinOp l (cOp o) r pos) (xBin o a b) := fun A c ρ _ X R F q =>
  wpAny_BinOp (seq (.refl c) (hl A c ρ _ X R F q) fun c₁ _ _ s₁ _ r₁ q₁ => seq s₁ (hr A c₁ ρ _ X R (F.step s₁) q₁) fun _ _ _ s₂ t₂ r₂ q₂ => fin s₂ (bin_ok (r₁.step t₂) r₂ q₂))
theorem ok_neg {x : Expr} {a : Ex} {pos} (h : EOk K L x a) : EOk K L (.UnaryOp .USub x pos) (xNeg a) := fun A c ρ _ X R F q =>
  wpAny_UnaryOp (seq (.refl c) (h A c ρ _ X R F q) fun c₁ _ _ s₁ _ r₁ ⟨_, e, q₁⟩ => fin s₁ (by subst e; obtain ⟨t, rfl⟩ := r₁; exact PySem.P.neg_int (PV.plain rel_int q₁)))
theorem ok_not {x : Expr} {a : Ex} {pos} (h : EOk K L x a) : EOk K L (.UnaryOp .Not x pos) (xNot a) := fun A c ρ _ X R F q =>
  wpAny_UnaryOp (seq (.refl c) (h A c ρ _ X R F q) fun c₁ _ _ s₁ _ r₁ q₁ => not_value (truthy_ok r₁ q₁ fun b tk q => .mk (c₁.toks tk) _ (s₁.trans (Cf.keep_stp ⟨rfl, rfl⟩)) rel_bool q))

theorem lok_nil : LOk K L [] [] := fun _ c _ _ _ _ _ _ q => wpAny_items_nil (.mk c [] (.refl c) trivial ⟨rfl, q⟩)
theorem lok_cons {e : Expr} {a : Ex} {es : List Expr} {as : List Ex} (hn : NoStar e) (he : EOk K L e a) (hes : LOk K L es as) : LOk K L (e :: es) (a :: as) := fun A c ρ _ X pos R F q =>
  wpAny_items_cons (seq (.refl c) (he A c ρ _ X R F q) fun c₁ V _ s₁ _ r₁ q₁ => seqs s₁ (hes A c₁ ρ _ X pos R (F.step s₁) q₁) fun c₂ Vs _ s₂ t₂ r₂ q₂ => .mk c₂ (V :: Vs) s₂ ⟨r₁.step t₂, r₂⟩ ⟨congrArg (· + 1) q₂.1, q₂.2⟩) (hn es L.env)
theorem ok_tup {es : List Expr} {as : List Ex} {k pos} (h : LOk K L es as) (hz : es.length ≤ 1000) : EOk K L (.Tuple es k pos) (xTup as) := fun A c ρ _ X R F q =>
  wpAny_Tuple (seqs (.refl c) (h A c ρ _ X pos R F q) fun c₁ _ _ s₁ _ r₁ q₁ => ⟨size_le' (r₁.length ▸ q₁.1 ▸ Nat.le_trans hz (by decide)), (PV.pushT r₁ q₁.2).lift s₁⟩)
theorem ok_list {es : List Expr} {as : List Ex} {pos} (h : LOk K L es as) (hz : es.length ≤ 1000) : EOk K L (.List es pos) (xList as) := fun A c ρ _ X R F q =>
  wpAny_List (seqs (.refl c) (h A c ρ _ X pos R F q) fun c₁ _ _ s₁ _ r₁ q₁ => ⟨size_le' (r₁.length ▸ q₁.1 ▸ Nat.le_trans hz (by decide)), (PV.pushL r₁ (q₁.1 ▸ Nat.le_trans hz (by decide)) q₁.2).lift s₁⟩)

/-! boolean operators -/
theorem bok_one {e : Expr} {a : Ex} (h : EOk K L e a) : BOk K L [e] [a] := fun A c ρ Q X _ _ R F q => h A c ρ Q X R F q
theorem bok_cons {e e' : Expr} {a a' : Ex} {es : List Expr} {as : List Ex} (h : EOk K L e a) (hs : BOk K L (e' :: es) (a' :: as)) : BOk K L (e :: e' :: es) (a :: a' :: as) := fun A c ρ Q X pos op R F q => by
  show wpAny K.M A (do
    let v ← eval e L.env
    standAt pos
    let t ← holding [v] (truthy v)
    match op, t with
    | .And, false | .Or, true => pure v
    | _, _ => boolOp pos op (evalEach (e' :: es) L.env)) _ _ c.s
  refine wpAny_bind (seq (.refl c) (h A c ρ _ X R F q) fun c₁ V v s₁ _ r₁ q₁ => wpAny_bind (wpAny_standAt (wpAny_bind (wpAny_holding (truthy_ok r₁ q₁ fun b tk q₂ => ?_)))))
  have s₂ : Stp noOwn c (c₁.toks tk) := s₁.trans (Cf.keep_stp ⟨rfl, rfl⟩)
  have go : ∀ b', b = b' → (op == .And) = b' → wpAny K.M A (boolOp pos op (evalEach (e' :: es) L.env)) (PV c Q) (PX c X) (c₁.toks tk).s := fun b' h1 h2 => fin s₂ (hs A (c₁.toks tk) ρ Q X pos op R (F.step s₂) (by rw [if_pos (h1.trans h2.symm)] at q₂; exact q₂))
  have no : b ≠ (op == .And) → PV c Q v (c₁.toks tk).s := fun hb => .mk (c₁.toks tk) V s₂ r₁ (by rw [if_neg hb] at q₂; exact q₂)
  cases op <;> cases b
  · exact wpAny_pure (no nofun)
  · exact go true rfl rfl
  · exact go false rfl rfl
  · exact wpAny_pure (no nofun)
theorem ok_and {es : List Expr} {as : List Ex} {pos} (h : BOk K L es as) : EOk K L (.BoolOp .And es pos) (xBoo true as) := fun A c ρ Q X R F q => h A c ρ Q X pos .And R F q
theorem ok_or {es : List Expr} {as : List Ex} {pos} (h : BOk K L es as) : EOk K L (.BoolOp .Or es pos) (xBoo false as) := fun A c ρ Q X R F q => h A c ρ Q X pos .Or R F q

/-! comparisons -/
theorem mapO_cons {α β : Type} {f : α → Option β} {a : α} {as : List α} {bs : List β} (h : mapO f (a :: as) = some bs) : ∃ b bs', f a = some b ∧ mapO f as = some bs' ∧ bs = b :: bs' :=
  let ⟨b, h1, h2⟩ := Option.bind_eq_some_iff.mp h; let ⟨bs', h3, h4⟩ := Option.map_eq_some_iff.mp h2; ⟨b, bs', h1, h3, h4.symm⟩
/-- the data that a value is, and how deep it is -/
inductive DataIs (h : Heap) (v : Value) (n : Nat) (d : PyData) : Prop
  | mk (as : List Addr) : Reads h v d as → d.depth ≤ n → DataIs h v n d
theorem mapO_reads {h : Heap} {φ : List Addr} {f : V → Option PyData} {n : Nat} (hf : ∀ V v dt, f V = some dt → Rel h φ V v → DataIs h v n dt) :
    ∀ (Vs : List V) (vs : List Value) (ds : List PyData), mapO f Vs = some ds → RelL h φ Vs vs → (∃ as, ReadsAll h vs ds as) ∧ PyData.depthAll ds ≤ n
  | [], [], _, e, _ => Option.some.inj e ▸ ⟨⟨_, .nil⟩, Nat.zero_le _⟩
  | V :: Vs, v :: vs, _, e, r => let ⟨b, bs, e1, e2, e3⟩ := mapO_cons e
    match hf V v b e1 r.1 with
    | .mk _ h1 d1 => let ⟨⟨_, h2⟩, d2⟩ := mapO_reads hf Vs vs bs e2 r.2; e3 ▸ ⟨⟨_, .cons h1 h2⟩, Nat.max_le.mpr ⟨d1, d2⟩⟩
theorem listD_inv {f : V → Option PyData} : ∀ {o : Option O} {d : PyData}, listD f o = some d → ∃ vs ds, o = some (.list vs) ∧ mapO f vs = some ds ∧ PyData.list ds = d
  | some (.list vs), _, e => let ⟨ds, e1, e2⟩ := Option.map_eq_some_iff.mp e; ⟨vs, ds, rfl, e1, e2⟩
theorem toD_reads {h₀ : Heap} {c : Cf h₀} : ∀ (n : Nat) (V : V) (v : Value) (dt : PyData), toD c.σ n V = some dt → Rel c.s.heap c.φ V v → DataIs c.s.heap v n dt
  | n + 1, .none, _, _, e, r => Option.some.inj e ▸ r ▸ .mk _ .none (Nat.zero_le _)
  | n + 1, .bool _, _, _, e, r => Option.some.inj e ▸ r ▸ .mk _ (.bool _) (Nat.zero_le _)
  | n + 1, .int _, _, _, e, ⟨_, r⟩ => Option.some.inj e ▸ r ▸ .mk _ (.int _ _) (Nat.zero_le _)
  | n + 1, .str _, _, _, e, ⟨_, r⟩ => Option.some.inj e ▸ r ▸ .mk _ (.str _ _) (Nat.zero_le _)
  | n + 1, .tup vs, _, _, e, ⟨_, _, _, r, g, rl⟩ => let ⟨ds, e1, e2⟩ := Option.map_eq_some_iff.mp e
    let ⟨⟨_, ra⟩, da⟩ := mapO_reads (fun V v dt e r => toD_reads n V v dt e r) vs _ ds e1 rl
    e2 ▸ r ▸ .mk _ (.tuple g rfl rfl ra) (Nat.succ_le_succ da)
  | n + 1, .ref k, _, _, e, r => let ⟨vs, ds, ek, e1, e2⟩ := listD_inv e
    let ⟨_, _, _, ev, _, g, rl, _⟩ := Cf.list ek r
    let ⟨⟨_, ra⟩, da⟩ := mapO_reads (fun V v dt e r => toD_reads n V v dt e r) vs _ ds e1 rl
    e2 ▸ ev ▸ .mk _ (.list g rfl rfl ra) (Nat.succ_le_succ da)
theorem ROk.u100 {A : Around} (R : ROk K A) : A.units + 100 < 9900 := Nat.lt_of_lt_of_le (Nat.add_lt_add_right (Nat.lt_of_le_of_lt (Nat.le_add_right _ _) R.units) 100) (by decide)
theorem line_ok {A : Around} {n m : Nat} (R : ROk K A) (h : n ≤ 6) : A.units + min n m < cLine :=
  Nat.lt_of_le_of_lt (Nat.add_le_add_left (Nat.le_trans (Nat.min_le_left _ _) h) _) (Nat.lt_of_lt_of_le (Nat.lt_of_le_of_lt (Nat.add_le_add_left (by decide) _) R.u100) (by decide))
theorem line_ok' {A : Around} {n m : Nat} (R : ROk K A) (h : m ≤ 6) : A.units + 1 + min n m < cLine :=
  Nat.lt_of_le_of_lt (Nat.le_trans (Nat.add_le_add_left (Nat.le_trans (Nat.min_le_right _ _) h) _) (Nat.le_of_eq (Nat.add_assoc _ 1 6))) (Nat.lt_of_lt_of_le (Nat.lt_of_le_of_lt (Nat.add_le_add_left (by decide) _) R.u100) (by decide))
theorem ints_map {h : Heap} {φ : List Addr} : ∀ {xs : List Int} {vs : List Value}, RelL h φ (xs.map .int) vs → PyProof.Rows.IntsAre vs xs
  | [], [], _ => .nil
  | _ :: _, _ :: _, ⟨⟨_, e⟩, r⟩ => e ▸ .cons _ _ (ints_map r)
theorem ltRow_cons {x y : Int} {a b : List Int} (h : x = y) : ltRow (x :: a) (y :: b) = ltRow a b := if_pos h
theorem ltRow_cons' {x y : Int} {a b : List Int} (h : x ≠ y) : ltRow (x :: a) (y :: b) = decide (x < y) := if_neg h
theorem lt_loop {β : Type} {M : Model} {A : Around} {E : Value → Shared → Prop} {s : Shared} {body : Value × Value → β → Sem (ForInStep β)} {r₀ : β} {R : β → Shared → Prop} {yes : Bool → β}
    (hb : ∀ (p q : Int) (t u : Tok) (R' : ForInStep β → Shared → Prop), (p = q → R' (.yield r₀) s) → (p ≠ q → R' (.done (yes (decide (p < q)))) s) → wpAny M A (body (.int p t, .int q u) r₀) R' E s) :
    ∀ {a b : List Int} {vs us : List Value}, PyProof.Rows.IntsAre vs a → PyProof.Rows.IntsAre us b → (ltRow a b = decide (vs.length < us.length) → R r₀ s) → R (yes (ltRow a b)) s → wpAny M A (forIn (vs.zip us) r₀ body) R E s
  | _, _, _, _, .nil, .nil, h, _ => wpAny_pure (h rfl)
  | _, _, _, _, .nil, .cons _ _ _, h, _ => wpAny_pure (h (decide_eq_true (Nat.zero_lt_succ _)).symm)
  | _, _, _, _, .cons _ _ _, .nil, h, _ => wpAny_pure (h rfl)
  | _, _, _, _, .cons p t ha, .cons q u hb', h, hy => by
    rw [List.zip_cons_cons, List.forIn_cons]
    refine wpAny_bind (hb p q t u _ (fun e => ?_) fun e => ?_)
    · exact lt_loop hb ha hb' (fun e' => h ((ltRow_cons e).trans (e'.trans (decide_eq_decide.mpr Nat.succ_lt_succ_iff.symm)))) (ltRow_cons e ▸ hy)
    · exact wpAny_pure (ltRow_cons' e ▸ hy)
theorem tup_lt {A : Around} {s : Shared} {E : Value → Shared → Prop} {a c : Addr} {xs ys : List Int} {ix iy : Array Value} {n k : Nat} (gx : IsT s.heap a ix n) (gy : IsT s.heap c iy k) (rx : PyProof.Rows.IntsAre ix.toList xs) (ry : PyProof.Rows.IntsAre iy.toList ys)
    {P : Fin → Shared → Prop} (h : P (.done (.ret (.bool (ltRow xs ys)))) s) : wpAny K.M A (Builtin.«tuple.__lt__» ⟨[.ref a, .ref c], []⟩) P E s := by
  show wpAny _ _ (isInstance (.ref c) (.type "tuple") >>= _) _ _ s
  refine wpAny_bind (wpAny_isInstance (T := "tuple") ⟨_, gy, rfl⟩ AutoSeq1.sub_tuple_tuple (wpAny_bind (wpAny_tupleItemsOf gx rfl (wpAny_bind (wpAny_tupleItemsOf gy rfl (wpAny_bind ?_))))))
  refine lt_loop (yes := fun b => (some (.done (.ret (.bool b))), ())) (fun p q t u R' h1 h2 => wpAny_bind (wpAny_eqBool_int ?_)) rx ry (fun e => wpAny_pure (e ▸ h :)) (wpAny_pure h)
  by_cases e : p = q
  · rw [beq_iff_eq.mpr e]; exact wpAny_pure (h1 e)
  · rw [beq_eq_false_iff_ne.mpr e]
    exact wpAny_bind (wpAny_rule (wpAny_bind (PyProof.Rows.lt_int (wpAny_bind (wpAny_pure (wpAny_pure (h2 e)))))))

/-- a comparison -/
theorem cmp_ok {A : Around} {c : Cf K.h₀} {op : CmpOp} {V W : Mine.V} {v u : Value} {T : Bool → Prop} {P : Value → Shared → Prop} {E : Value → Shared → Prop} (R : ROk K A) (r1 : Rel c.s.heap c.φ V v) (r2 : Rel c.s.heap c.φ W u) (q : CmpK c.σ T op V W) (h : ∀ b, T b → P (.bool b) c.s) :
    wpAny K.M A (compareOp op v u) P E c.s := by
  cases q with
  | eq e1 e2 c1 c2 q => exact match toD_reads 6 _ _ _ e1 r1, toD_reads 6 _ _ _ e2 r2 with | .mk _ ra da, .mk _ rb _ => SeqAt.compareEq_reads ra rb c1 c2 (line_ok R da) (h _ q)
  | ne e1 e2 c1 c2 q => exact match toD_reads 6 _ _ _ e1 r1, toD_reads 6 _ _ _ e2 r2 with | .mk _ ra da, .mk _ rb _ => SeqAt.compareNe_reads ra rb c1 c2 (line_ok R da) (h _ q)
  | inL e1 e2 c1 c2 q => exact match toD_reads 6 _ _ _ e1 r1, toD_reads 6 _ _ _ e2 r2 with | .mk _ ra da, .mk _ rb _ => SeqAt.in_list_reads rb ra c2 c1 (line_ok' R da) (h _ q)
  | ninL e1 e2 c1 c2 q => exact match toD_reads 6 _ _ _ e1 r1, toD_reads 6 _ _ _ e2 r2 with | .mk _ ra da, .mk _ rb _ => SeqAt.notIn_list_reads rb ra c2 c1 (line_ok' R da) (h _ q)
  | inT e1 e2 c1 c2 q => exact match toD_reads 6 _ _ _ e1 r1, toD_reads 6 _ _ _ e2 r2 with | .mk _ ra da, .mk _ rb _ => SeqAt.in_tuple_reads rb ra c2 c1 (line_ok' R da) (h _ q)
  | ninT e1 e2 c1 c2 q => exact match toD_reads 6 _ _ _ e1 r1, toD_reads 6 _ _ _ e2 r2 with | .mk _ ra da, .mk _ rb _ => SeqAt.notIn_tuple_reads rb ra c2 c1 (line_ok' R da) (h _ q)
  | lt q => obtain ⟨t, rfl⟩ := r1; obtain ⟨t', rfl⟩ := r2; exact PyProof.Rows.lt_int (h _ q)
  | le q => obtain ⟨t, rfl⟩ := r1; obtain ⟨t', rfl⟩ := r2; exact PySem.P.le_int (h _ q)
  | gt q => obtain ⟨t, rfl⟩ := r1; obtain ⟨t', rfl⟩ := r2; exact PyProof.Rows.gt_int (h _ q)
  | ge q => obtain ⟨t, rfl⟩ := r1; obtain ⟨t', rfl⟩ := r2; exact PySem.P.ge_int (h _ q)
  | ltT q =>
    obtain ⟨a, ix, n, rfl, gx, rx⟩ := r1
    obtain ⟨b, iy, k, rfl, gy, ry⟩ := r2
    exact wpAny_richCompare_same_room (op := .Lt) (T := "tuple") ⟨_, gx, rfl⟩ ⟨_, gy, rfl⟩ F.slot_tuple_lt (wpAny_call_entry F.slot_tuple_lt ⟨_, gx, rfl⟩ F.entry_tuple_lt (tup_lt gx gy (ints_map rx) (ints_map ry) ⟨_, rfl, by simp, h _ q⟩) (F.args_tuple_lt_2 _ _))
      (Nat.lt_of_lt_of_le (Nat.lt_of_le_of_lt (Nat.le_add_right _ 100) R.u100) (by decide))
  | is q => cases r2; exact is_none (rel_isNone r1 ▸ h _ q)
  | isnot q => cases r2; exact isNot_none (rel_isNone r1 ▸ h _ q)
where
  rel_isNone {h : Heap} {φ : List Addr} : ∀ {V : Mine.V} {v : Value}, Rel h φ V v → isNone V = (v == .none)
    | .none, _, r => by cases r; rfl
    | .bool _, _, r => by cases r; rfl
    | .int _, _, ⟨_, r⟩ => by cases r; rfl
    | .str _, _, ⟨_, r⟩ => by cases r; rfl
    | .tup _, _, ⟨_, _, _, r, _⟩ => by cases r; rfl
    | .ref _, _, ⟨_, r, _⟩ => by cases r; rfl

theorem cok_one {op : CmpOp} {e : Expr} {a : Ex} (h : EOk K L e a) : COk K L [op] [e] [a] := fun A c ρ Q X pos V v R F r q => by
  constructor
  · show wpAny K.M A (do
      let rv ← holding [v] (eval e L.env)
      standAt pos
      operate [v, rv] (compareOp op v rv)) _ _ c.s
    exact wpAny_bind (wpAny_holding (seq (.refl c) (h A c ρ _ X R F q) fun c₁ _ _ s₁ _ r₁ q₁ => wpAny_bind (wpAny_standAt (PyProof.Rows.wpAny_operate' (cmp_ok R (r.step s₁) r₁ q₁ fun b q => ⟨b, rfl, .mk c₁ s₁ q⟩)))))
  · show wpAny K.M A (do
      let rv ← holding [v] (eval e L.env)
      standAt pos
      let x ← operate [v, rv] (compareOp op v rv)
      holding [x] (truthy x)) _ _ c.s
    exact wpAny_bind (wpAny_holding (seq (.refl c) (h A c ρ _ X R F q) fun c₁ _ _ s₁ _ r₁ q₁ => wpAny_bind (wpAny_standAt (wpAny_bind (PyProof.Rows.wpAny_operate' (cmp_ok R (r.step s₁) r₁ q₁ fun b q => wpAny_holding (wpAny_truthy_bool (.mk c₁ s₁ q))))))))
theorem cok_cons {op op' : CmpOp} {ops : List CmpOp} {e e' : Expr} {es : List Expr} {a a' : Ex} {as : List Ex} (h : EOk K L e a) (hs : COk K L (op' :: ops) (e' :: es) (a' :: as)) : COk K L (op :: op' :: ops) (e :: e' :: es) (a :: a' :: as) := fun A c ρ Q X pos V v R F r q => by
  constructor
  · show wpAny K.M A (do
      let rv ← holding [v] (eval e L.env)
      standAt pos
      let x ← holding [v, rv] (compareOp op v rv)
      release [v, rv] [x]
      if ← holding [x, rv] (truthy x) then compareChain pos rv (op' :: ops) (evalEach (e' :: es) L.env) else pure x) _ _ c.s
    refine wpAny_bind (wpAny_holding (seq (.refl c) (h A c ρ _ X R F q) fun c₁ W u s₁ _ r₁ q₁ => ?_))
    refine wpAny_bind (wpAny_standAt (wpAny_bind (wpAny_holding (cmp_ok R (r.step s₁) r₁ q₁ fun b q => ?_))))
    refine wpAny_bind (PyProof.Rows.wpAny_release' (wpAny_bind (wpAny_holding (wpAny_truthy_bool ?_))))
    cases b with
    | false => exact wpAny_pure ⟨false, rfl, .mk c₁ s₁ q⟩
    | true => exact wpAny_mono (hs A c₁ ρ Q X pos W u R (F.step s₁) r₁ q).1 (fun _ _ ⟨b, e, z⟩ => ⟨b, e, z.lift s₁⟩) fun _ _ z => z.lift s₁
  · show wpAny K.M A (do
      let rv ← holding [v] (eval e L.env)
      standAt pos
      let x ← holding [v, rv] (compareOp op v rv)
      release [v, rv] [x]
      if ← holding [x, rv] (truthy x) then testChain pos rv (op' :: ops) (evalEach (e' :: es) L.env) else pure false) _ _ c.s
    refine wpAny_bind (wpAny_holding (seq (.refl c) (h A c ρ _ X R F q) fun c₁ W u s₁ _ r₁ q₁ => ?_))
    refine wpAny_bind (wpAny_standAt (wpAny_bind (wpAny_holding (cmp_ok R (r.step s₁) r₁ q₁ fun b q => ?_))))
    refine wpAny_bind (PyProof.Rows.wpAny_release' (wpAny_bind (wpAny_holding (wpAny_truthy_bool ?_))))
    cases b with
    | false => exact wpAny_pure (.mk c₁ s₁ q)
    | true => exact finb s₁ (hs A c₁ ρ Q X pos W u R (F.step s₁) r₁ q).2
theorem ok_cmp {l : Expr} {a : Ex} {ops : List CmpOp} {es : List Expr} {as : List Ex} {pos} (hm : lastMarks ops es = false) (h : EOk K L l a) (hs : COk K L ops es as) : EOk K L (.Compare l ops es pos) (xOf (tCmp a ops as)) := fun A c ρ _ X R F q => by
  rw [arm_eval_Compare, PyProof.Rows.markedEach_of_false _ _ _ hm]
  exact wpAny_bind (seq (.refl c) (h A c ρ _ X R F q) fun c₁ V v s₁ _ r₁ q₁ => wpAny_mono (hs A c₁ ρ _ X pos V v R (F.step s₁) r₁ q₁).1 (fun _ _ ⟨_, e, z⟩ => match z with | .mk c₂ s₂ q₂ => e ▸ .mk c₂ _ (s₁.trans s₂) rel_bool q₂) fun _ _ z => z.lift s₁)
theorem tok_cmp {l : Expr} {a : Ex} {ops : List CmpOp} {es : List Expr} {as : List Ex} {pos} (hm : lastMarks ops es = false) (h : EOk K L l a) (hs : COk K L ops es as) : TOk K L (.Compare l ops es pos) (tCmp a ops as) := fun A c ρ _ X R F q => by
  rw [arm_isTrue_Compare, PyProof.Rows.markedEach_of_false _ _ _ hm]
  exact wpAny_bind (seq (.refl c) (h A c ρ _ X R F q) fun c₁ V v s₁ _ r₁ q₁ => finb s₁ (hs A c₁ ρ _ X pos V v R (F.step s₁) r₁ q₁).2)
theorem tok_not {x : Expr} {t : Tx} {pos} (h : TOk K L x t) : TOk K L (.UnaryOp .Not x pos) (tNot t) := fun A c ρ _ X R F q => by
  rw [arm_isTrue_UnaryOp]
  exact wpAny_bind (seqb (.refl c) (h A c ρ _ X R F q) fun c₁ _ s₁ _ q₁ => wpAny_pure (.mk c₁ s₁ q₁))
theorem tok_and {es : List Expr} {ts : List Tx} {pos} (h : AOk K L es ts) : TOk K L (.BoolOp .And es pos) (tAnd ts) := fun A c ρ Q X R F q => (h A c ρ Q X R F).1 q
theorem tok_or {es : List Expr} {ts : List Tx} {pos} (h : AOk K L es ts) : TOk K L (.BoolOp .Or es pos) (tOr ts) := fun A c ρ Q X R F q => (h A c ρ Q X R F).2 q
/-- a test of another kind: by its value -/
theorem tok_val {e : Expr} {a : Ex} (he : ∀ env whole, isTrue e env whole = (do let v ← whole; standAt e.pos; holding [v] (truthy v))) (h : EOk K L e a) : TOk K L e (tVal a) := fun A c ρ _ X R F q => by
  rw [he]
  exact wpAny_bind (seq (.refl c) (h A c ρ _ X R F q) fun c₁ _ _ s₁ _ r₁ q₁ => wpAny_bind (wpAny_standAt (wpAny_holding (truthy_ok r₁ q₁ fun _ tk q => .mk (c₁.toks tk) (s₁.trans (Cf.keep_stp ⟨rfl, rfl⟩)) q))))
theorem aok_nil : AOk K L [] [] := fun _ c _ _ _ _ _ => ⟨fun q => wpAny_pure (.mk c (.refl c) q), fun q => wpAny_pure (.mk c (.refl c) q)⟩
theorem aok_cons {e : Expr} {t : Tx} {es : List Expr} {ts : List Tx} (h : TOk K L e t) (hs : AOk K L es ts) : AOk K L (e :: es) (t :: ts) := fun A c ρ Q X R F => by
  rw [arm_allTrue_cons, arm_allTrue_cons]
  refine ⟨fun q => wpAny_bind (seqb (.refl c) (h A c ρ _ X R F q) fun c₁ b s₁ _ q₁ => ?_), fun q => wpAny_bind (seqb (.refl c) (h A c ρ _ X R F q) fun c₁ b s₁ _ q₁ => ?_)⟩
  · cases b with
    | false => exact wpAny_pure (.mk c₁ s₁ q₁)
    | true => exact finb s₁ ((hs A c₁ ρ Q X R (F.step s₁)).1 q₁)
  · cases b with
    | true => exact wpAny_pure (.mk c₁ s₁ q₁)
    | false => exact finb s₁ ((hs A c₁ ρ Q X R (F.step s₁)).2 q₁)

/-! items -/
theorem idx_ok {k : Int} {n j : Nat} : Idx k n j → seqIndex? k n = some j ∧ j < n
  | .inl ⟨e, h⟩ => ⟨by subst e; unfold seqIndex?; simp only [if_neg (Int.not_lt.mpr (Int.natCast_nonneg j))]; rw [if_pos (by simp [h])]; rfl, h⟩
  | .inr ⟨e, h⟩ => have hj : j < n := by omega
    ⟨by unfold seqIndex?; simp only [if_pos h]; rw [if_pos (by simp; omega), e]; rfl, hj⟩
theorem small_lo {i : Int} (h : small i = true) : -(2 ^ 63) ≤ i := of_decide_eq_true (Bool.and_eq_true_iff.mp h).1
theorem small_hi {i : Int} (h : small i = true) : i < 2 ^ 63 := of_decide_eq_true (Bool.and_eq_true_iff.mp h).2
theorem sub_ok {A : Around} {c : Cf K.h₀} {Q : VPost} {E : Value → Shared → Prop} {value slice : Expr} {V W : Mine.V} {a i : Value} (ra : Rel c.s.heap c.φ V a) (ri : Rel c.s.heap c.φ W i) (hs : NoSlice slice) (q : SubK c.σ Q V W) : wpAny K.M A (PyProof.Rows.subscriptTail value slice a i) (PV c Q) E c.s := by
  cases q with
  | tup hk hi e q =>
    obtain ⟨t, items, n, rfl, g, rl⟩ := ra
    obtain ⟨u, rfl⟩ := ri
    obtain ⟨y, ey, ry⟩ := rl.get e
    exact PyProof.Rows.item_tupleT (l := items.toList) ⟨_, g, rfl, n, rfl⟩ (small_lo hk) (small_hi hk) (rl.length ▸ (idx_ok hi).1) ey (PV.same ry q) (hs _ _)
  | list em hi e q =>
    obtain ⟨l, items, n, rfl, _, g, rl, z⟩ := Cf.list em ra
    obtain ⟨u, rfl⟩ := ri
    obtain ⟨y, ey, ry⟩ := rl.get e
    refine PyProof.Rows.tail_any (T := "list") ⟨_, g, rfl⟩ slot_list_getitem.lookup ?_ (hs _ _)
    rw [Array.getElem?_toList] at ey
    rcases hi with ⟨rfl, hj⟩ | ⟨hj, hk⟩
    · exact wpAny_getItem_list g.isList (Int.natCast_nonneg _) (Int.ofNat_lt.mpr (Nat.lt_of_lt_of_le hj (Nat.le_trans z (by decide)))) ey (PV.same ry q)
    · rw [← rl.size] at hj
      have z' : items.size ≤ 1048576 := rl.size ▸ z
      exact wpAny_getItem_list_neg g.isList hk (by omega) (by omega) (hj ▸ ey) (PV.same ry q)
theorem ok_sub {l r : Expr} {a b : Ex} {pos} (hs : NoSlice r) (hl : EOk K L l a) (hr : EOk K L r b) : EOk K L (.Subscript l r pos) (xSub a b) := fun A c ρ _ X R F q =>
  PyProof.Rows.Subscript_ (seq (.refl c) (hl A c ρ _ X R F q) fun c₁ _ _ s₁ _ r₁ q₁ => seq s₁ (hr A c₁ ρ _ X R (F.step s₁) q₁) fun _ _ _ s₂ t₂ r₂ q₂ => fin s₂ (sub_ok (r₁.step t₂) r₂ hs q₂))
end
end Mine

/-! N4 -/
namespace Mine
open PySem PySem.Calls

theorem lookup_zip_gen : ∀ (xs : List Str) (vs : List Value) (T : List (Str × Value)), xs.Nodup → xs.length = vs.length → (∀ n ∈ xs, T.lookup n = (xs.zip vs).lookup n) → xs.filterMap (fun n => (T.lookup n).map (n, ·)) = xs.zip vs
  | [], _, _, _, _, _ => by rw [List.zip_nil_left]; rfl
  | x :: xs, v :: vs, T, hnd, hl, hT => by
    have hx := List.nodup_cons.mp hnd
    have h1 : T.lookup x = some v := (hT x List.mem_cons_self).trans (by rw [List.zip_cons_cons, List.lookup_cons, beq_self_eq_true])
    rw [List.filterMap_cons, h1]
    refine congrArg _ (lookup_zip_gen xs vs T hx.2 (Nat.succ.inj hl) fun n hn => (hT n (List.mem_cons_of_mem _ hn)).trans ?_)
    rw [List.zip_cons_cons, List.lookup_cons, beq_eq_false_iff_ne.mpr (show n ≠ x from fun e => hx.1 (e ▸ hn))]
theorem lookup_zip_none : ∀ {names : List Str} {vals : List Value}, names.length = vals.length → ∀ n ∈ names, ((names.zip vals).lookup n).isNone = false
  | x :: xs, v :: vs, hl, n, hn => by
    rw [List.zip_cons_cons, List.lookup_cons]
    cases h : n == x with
    | true => rfl
    | false => exact lookup_zip_none (Nat.succ.inj hl) n ((List.mem_cons.mp hn).resolve_left fun e => by rw [e, beq_self_eq_true] at h; cases h)
theorem no_missing {names : List Str} {vals : List Value} {k : Nat} (h : names.length = vals.length) : (names.take k).filter (fun n => ((names.zip vals).lookup n).isNone) = [] :=
  List.filter_eq_nil_iff.mpr fun n hn => Bool.eq_false_iff.mp (lookup_zip_none h n (List.mem_of_mem_take hn))
theorem no_missing' {names : List Str} {vals : List Value} {k : Nat} (h : names.length = vals.length) : ¬ (!((names.take k).filter (fun n => ((names.zip vals).lookup n).isNone)).isEmpty) = true := by rw [no_missing h]; exact nofun
noncomputable def plainArgs : Arguments → Option (List Arg)
  | ⟨[], args, none, [], [], none, []⟩ => some args
  | _ => none
theorem plainArgs_eq {a : Arguments} {args : List Arg} (h : plainArgs a = some args) : a = ⟨[], args, none, [], [], none, []⟩ := by
  unfold plainArgs at h
  split at h
  · cases h; rfl
  · cases h
theorem bindArgs_plain {fd : FuncData} {args : List Arg} {vals : List Value} (hp : fd.params = ⟨[], args, none, [], [], none, []⟩) (hd : fd.defaults = .none)
    (hlen : (args.map (·.arg)).length = vals.length) (hnd : (args.map (·.arg)).Nodup) : bindArgs fd ⟨vals, []⟩ = pure ((args.map (·.arg)).zip vals) := by
  obtain ⟨_, _, params⟩ := fd
  dsimp only at hp hd
  subst hp hd
  have e : ((args.map Arg.arg) ++ []).filterMap (fun n => (((args.map Arg.arg).zip vals).lookup n).map (n, ·)) = (args.map Arg.arg).zip vals := (congrArg _ (List.append_nil _)).trans (lookup_zip_gen (args.map Arg.arg) vals _ hnd hlen fun _ _ => rfl)
  refine Eq.trans (if_neg ?_) (Eq.trans (if_neg ?_) ?_)
  · exact fun h => Nat.not_lt.mpr (Nat.le_of_eq hlen.symm) (of_decide_eq_true (Bool.and_eq_true_iff.mp h).1)
  · exact no_missing' hlen
  · refine Eq.trans (congrArg (fun l => forIn (m := Sem) l _ _ >>= _) (show List.zip (List.drop _ (args.map (·.arg))) (List.drop _ ([] : List Value)) = [] from ?_)) ?_
    · rw [List.drop_nil, List.zip_nil_right]
    · exact congrArg (pure (f := Sem)) e

theorem ns_ne_cell {h : Heap} {a b : Addr} {m : Str → Option Value} {ov : Option Value} (n : h.Ns a m) (x : h.IsCell b ov) : b ≠ a := fun e => by
  obtain ⟨o, e1, es, ep, d⟩ := ns_get n
  obtain ⟨o', e', d'⟩ := x
  rw [e, e1] at e'; cases e'; cases d.symm.trans d'
theorem set_get_ne {α : Type} {l : List α} {i j : Nat} {x : α} (h : i ≠ j) : (l.set i x)[j]? = l[j]? := List.getElem?_set_ne h
theorem set_get_self {α : Type} {l : List α} {i : Nat} {x y : α} (h : (l.set i x)[i]? = some y) : x = y := by
  rw [List.getElem?_set, if_pos rfl] at h
  split at h
  · exact Option.some.inj h
  · cases h
theorem SlotIs.other {h₀ : Heap} {c : Cf h₀} {ρ : List V} {i j : Nat} {V : V} {ov : Option Value} (x : SlotIs c ρ j ov) (h : i ≠ j) : SlotIs c (ρ.set i V) j ov := fun W hW hne => x W (set_get_ne h ▸ hW) hne
theorem SlotIs.this {h₀ : Heap} {c : Cf h₀} {ρ : List V} {i : Nat} {V : V} {v : Value} (r : Rel c.s.heap c.φ V v) : SlotIs c (ρ.set i V) i (some v) := fun _ hW _ => ⟨v, rfl, set_get_self hW ▸ r⟩

section
variable {K : Ctx} {L : Loc} {A : Around} {c : Cf K.h₀} {ρ : List V} {E : Value → Shared → Prop}
/-- a name of the frame is stored: what holds behind -/
noncomputable def Stored (L : Loc) (own : Addr → Prop) (c : Cf K.h₀) (ρ : List V) (s' : Shared) : Prop := ∃ c' : Cf K.h₀, c'.s = s' ∧ c'.φ = c.φ ∧ c'.σ = c.σ ∧ Stp own c c' ∧ Fr c' L ρ
theorem store_local {x : Str} {i : Nat} {V : V} {v : Value} {Q : Unit → Shared → Prop} (F : Fr c L ρ) (hx : L.vs.lookup x = some i) (hk : L.env.kindOf x = some .local) (r : Rel c.s.heap c.φ V v)
    (h : ∀ c' : Cf K.h₀, c'.φ = c.φ → c'.σ = c.σ → Stp (· = L.env.locals) c c' → Fr c' L (ρ.set i V) → Q () c'.s) : wpAny K.M A (storeName L.env x v) Q E c.s := by
  cases F.ns with
  | mk m n rn =>
  refine wpAny_storeName_local hk n (fun h' hn hs => ?_) (by rw [F.fn]; rfl)
  have ho : ∀ a, a = L.env.locals → NoTup c.s.heap a ∧ a ∉ c.φ ∧ K.h₀.get? a = none := fun a e => e ▸ ⟨noTup_ns n, F.locOut, F.locNew⟩
  have kk : ∀ b o, ¬ b = L.env.locals → c.s.heap.get? b = some o → h'.get? b = some o := fun b o hb e => (hs.2 b hb).trans e
  have st : Stp (· = L.env.locals) c (c.keepOwn { c.s with heap := h', toks := c.s.toks + 1 } kk ho) := Cf.keepOwn_stp ⟨rfl, rfl⟩ fun b _ e _ => e ▸ let ⟨o, e', _⟩ := ns_get hn; ⟨o, e'⟩
  have ht : ∀ a, a = L.env.locals → NoTup c.s.heap a := fun a e => (ho a e).1
  have ij : ∀ {y j}, L.vs.lookup y = some j → y ≠ x → i ≠ j := fun hy ne e => ne (F.inj _ x i (e ▸ hy) hx)
  refine h (c.keepOwn _ kk ho) rfl rfl st ⟨F.fn, F.glob, F.blt, F.locNew, F.locOut, F.inj, .mk _ hn fun y j hy hky => ?_, fun y j hy hky => ?_, F.cellInj⟩
  · by_cases hyx : y = x
    · subst hyx
      cases hx.symm.trans hy
      rw [if_pos rfl]; exact SlotIs.this (r.own st.toWStp ht)
    · rw [if_neg hyx]; exact ((rn y j hy hky).own st.toWStp ht).other (ij hy hyx)
  · cases F.cell y j hy hky with
    | mk a ov e1 e2 e3 ic rc =>
    refine .mk a ov e1 e2 e3 (cell_keep ic fun o e => kk a o (ns_ne_cell n ic) e) ((rc.own st.toWStp ht).other (ij hy ?_))
    rintro rfl
    rw [hk] at hky; rcases hky with q | q <;> cases q
theorem store_cell {x : Str} {i : Nat} {V : V} {v : Value} {Q : Unit → Shared → Prop} (F : Fr c L ρ) (hx : L.vs.lookup x = some i) (hk : L.env.kindOf x = some .cell) (r : Rel c.s.heap c.φ V v)
    (h : ∀ c' : Cf K.h₀, c'.φ = c.φ → c'.σ = c.σ → Stp L.own c c' → Fr c' L (ρ.set i V) → Q () c'.s) : wpAny K.M A (storeName L.env x v) Q E c.s := by
  cases F.ns with
  | mk m n rn =>
  cases F.cell x i hx (.inl hk) with
  | mk a ov e1 e2 e3 ic rc =>
  refine wpAny_storeName_cell F.fn hk e1 ic fun h' ic' hs => ?_
  have ho : ∀ b, b = a → NoTup c.s.heap b ∧ b ∉ c.φ ∧ K.h₀.get? b = none := fun b e => e ▸ ⟨noTup_cell ic, e2, e3⟩
  have kk : ∀ b o, ¬ b = a → c.s.heap.get? b = some o → h'.get? b = some o := fun b o hb e => (hs.2 b hb).trans e
  have st : Stp (· = a) c (c.keepOwn { c.s with heap := h' } kk ho) := Cf.keepOwn_stp ⟨rfl, rfl⟩ fun b _ e _ => e ▸ let ⟨o, e', _⟩ := ic'; ⟨o, e'⟩
  have ht : ∀ b, b = a → NoTup c.s.heap b := fun b e => (ho b e).1
  have ij : ∀ {y j}, L.vs.lookup y = some j → y ≠ x → i ≠ j := fun hy ne e => ne (F.inj _ x i (e ▸ hy) hx)
  refine h (c.keepOwn _ kk ho) rfl rfl (st.wider fun b e => .inr ⟨x, i, hx, hk, e ▸ e1⟩) ⟨F.fn, F.glob, F.blt, F.locNew, F.locOut, F.inj, .mk m (ns_keep n fun o e => kk _ o (Ne.symm (ns_ne_cell n ic)) e) fun y j hy hky => ?_, fun y j hy hky => ?_, F.cellInj⟩
  · refine ((rn y j hy hky).own st.toWStp ht).other (ij hy ?_)
    rintro rfl
    rw [hk] at hky; cases hky
  · by_cases hyx : y = x
    · subst hyx
      cases hx.symm.trans hy
      exact .mk a (some v) e1 e2 e3 ic' (SlotIs.this (r.own st.toWStp ht))
    · cases F.cell y j hy hky with
      | mk b ov' f1 f2 f3 ic2 rc2 =>
      exact .mk b ov' f1 f2 f3 (cell_keep ic2 fun o e => kk b o (fun e => hyx (F.cellInj y x j i a hy hx (e ▸ f1) e1)) e) ((rc2.own st.toWStp ht).other (ij hy hyx))
theorem store_ok {x : Str} {i : Nat} {V : V} {v : Value} {Q : Unit → Shared → Prop} (F : Fr c L ρ) (hx : L.vs.lookup x = some i) (hk : L.env.kindOf x = some .local ∨ L.env.kindOf x = some .cell) (r : Rel c.s.heap c.φ V v)
    (h : ∀ c' : Cf K.h₀, c'.φ = c.φ → c'.σ = c.σ → Stp L.own c c' → Fr c' L (ρ.set i V) → Q () c'.s) : wpAny K.M A (storeName L.env x v) Q E c.s :=
  hk.elim (fun hk => store_local F hx hk r fun c' e1 e2 st F' => h c' e1 e2 (st.wider fun _ e => .inl e) F') fun hk => store_cell F hx hk r h

inductive CNames (L : Loc) : List Expr → List Nat → Prop
  | nil : CNames L [] []
  | cons {x : Str} {i : Nat} {p : Pos} {es : List Expr} {is : List Nat} : L.vs.lookup x = some i → L.env.kindOf x = some .local ∨ L.env.kindOf x = some .cell → CNames L es is → CNames L (.Name x p :: es) (i :: is)
inductive CPat (L : Loc) : Expr → Pat → Prop
  | name {x : Str} {i : Nat} {p : Pos} : L.vs.lookup x = some i → L.env.kindOf x = some .local ∨ L.env.kindOf x = some .cell → CPat L (.Name x p) (.var i)
  | tup {es : List Expr} {is : List Nat} {k : Nat} {p : Pos} : CNames L es is → CPat L (.Tuple es k p) (.tup is)
theorem CNames.len : ∀ {es : List Expr} {is : List Nat}, CNames L es is → (assignEach es L.env).length = is.length
  | _, _, .nil => rfl
  | _, _, .cons _ _ h => congrArg (· + 1) h.len
theorem CNames.noStar : ∀ {es : List Expr} {is : List Nat}, CNames L es is → (assignEach es L.env).findIdx? (·.1) = none
  | _, _, .nil => rfl
  | _, _, .cons (es := es) _ _ h => by
    show ((false, _) :: assignEach es L.env).findIdx? _ = none
    rw [List.findIdx?_cons, h.noStar]; rfl
theorem names_ok {es : List Expr} {is : List Nat} (h : CNames L es is) : ∀ {c : Cf K.h₀} {ρ Vs : List V} {us : List Value} {Q : Unit → Shared → Prop}, Fr c L ρ → RelL c.s.heap c.φ Vs us → is.length = Vs.length →
    (∀ c' : Cf K.h₀, c'.φ = c.φ → c'.σ = c.σ → Stp L.own c c' → Fr c' L (setAll is Vs ρ) → Q () c'.s) → wpAny K.M A (assignInOrder ((assignEach es L.env).map (·.2)) us) Q E c.s := by
  induction h with
  | nil =>
    intro c ρ Vs us Q F r hl hQ
    cases List.length_eq_zero_iff.mp hl.symm
    exact wpAny_pure (hQ c rfl rfl (.refl c) F)
  | @cons x i p es is hx hk _ ih =>
    intro c ρ Vs us Q F r hl hQ
    match Vs, us, r with
    | [], _, _ => cases hl
    | V :: Vs, u :: us, r =>
      show wpAny K.M A (do holding us (assign (.Name x p) L.env u); assignInOrder ((assignEach es L.env).map (·.2)) us) Q E c.s
      exact wpAny_bind (wpAny_holding (wpAny_assign_Name (store_ok F hx hk r.1 fun c₁ e1 e2 st F₁ => ih F₁ (r.2.own st.toWStp fun _ m => F.noTup m) (Nat.succ.inj hl) fun c₂ f1 f2 st₂ F₂ => hQ c₂ (f1.trans e1) (f2.trans e2) (st.trans st₂) F₂)))
theorem assign_ok {t : Expr} {p : Pat} (h : CPat L t p) {V : V} {v : Value} {Q : Unit → Shared → Prop} {T : List Mine.V → Prop} (hh : A.handled = none) (F : Fr c L ρ) (r : Rel c.s.heap c.φ V v) (e : BindK c.σ T ρ p V)
    (hQ : ∀ (c' : Cf K.h₀) (ρ' : List Mine.V), c'.φ = c.φ → c'.σ = c.σ → Stp L.own c c' → Fr c' L ρ' → T ρ' → Q () c'.s) : wpAny K.M A (assign t L.env v) Q E c.s := by
  have kx : ∀ {h' : Heap} {m : Nat}, (∀ b o, b ≠ m → c.s.heap.get? b = some o → h'.get? b = some o) → c.s.heap.objs.size ≤ m → ∀ b o, c.s.heap.get? b = some o → h'.get? b = some o := fun kx hm b o e => kx b o (Nat.ne_of_lt (Nat.lt_of_lt_of_le (Heap.lt_size e) hm)) e
  have go : ∀ {es : List Expr} {is : List Nat} {Vs : List Mine.V} {us : List Value} {h' : Heap}, CNames L es is → RelL c.s.heap c.φ Vs us → is.length = Vs.length → T (setAll is Vs ρ) → (∀ b o, c.s.heap.get? b = some o → h'.get? b = some o) →
      wpAny K.M A (assignInOrder ((assignEach es L.env).map (·.2)) us) Q E { c.s with heap := h' } := fun hn rl hl q k =>
    have st : Stp noOwn c (c.keep { c.s with heap := _ } k) := Cf.keep_stp ⟨rfl, rfl⟩
    names_ok (c := c.keep { c.s with heap := _ } k) hn (F.step st) (rl.step st) hl fun c' e1 e2 st₂ F₂ => hQ c' _ e1 e2 (st.any.trans st₂) F₂ q
  cases h with
  | name hx hk => cases e with | var q => exact wpAny_assign_Name (store_ok F hx hk r fun c' e1 e2 st F' => hQ c' _ e1 e2 st F' q)
  | @tup es is k p hn =>
    cases e with
    | tup hl q =>
      obtain ⟨a, items, n, rfl, g, rl⟩ := r
      exact wpAny_assign_Tuple hh ⟨_, g, rfl, n, rfl⟩ (by rw [hn.len, hl, rl.size]) hn.noStar fun h' k' => go hn rl hl q (kx k' (Nat.le_refl _))
    | list ek hl q =>
      obtain ⟨a, items, z, rfl, ea, g, rl, _⟩ := Cf.list ek r
      rw [PyProof.Rows.assign_Tuple]
      refine wpAny_bind (wpAny_standAt ?_)
      unfold unpack
      rw [show (assignEach es L.env).length = items.size by rw [hn.len, hl, rl.size], hn.noStar]
      exact wpAny_bind (wpAny_holding (PySem.W.kun_itemsOf hh g.isList fun h' k' => go hn rl hl q (kx k' (Nat.le_refl _))))
end
end Mine

/-! N5 -/
namespace Mine
open PySem PySem.Calls
set_option genSizeOf false
set_option genInjectivity false

section
variable {K : Ctx}
/-- behind a statement -/
inductive PF (c : Cf K.h₀) (L : Loc) (Q : Post) : Flow → Shared → Prop
  | next (c' : Cf K.h₀) (ρ' : List V) : Stp L.own c c' → Fr c' L ρ' → Q .next ρ' c'.σ → PF c L Q .next c'.s
  | brk (c' : Cf K.h₀) (ρ' : List V) : Stp L.own c c' → Fr c' L ρ' → Q .brk ρ' c'.σ → PF c L Q .brk c'.s
  | cont (c' : Cf K.h₀) (ρ' : List V) : Stp L.own c c' → Fr c' L ρ' → Q .cont ρ' c'.σ → PF c L Q .cont c'.s
  | ret (c' : Cf K.h₀) (ρ' : List V) (V : V) (v : Value) : Stp L.own c c' → Fr c' L ρ' → Rel c'.s.heap c'.φ V v → Q (.ret V) ρ' c'.σ → PF c L Q (.ret v) c'.s
inductive PE (c : Cf K.h₀) (L : Loc) (Q : Post) : Value → Shared → Prop
  | mk (c' : Cf K.h₀) (ρ' : List V) (k : Nat) (a : Addr) : c.s.heap.get? a = none → a ∉ c'.φ → Stp L.own c c' → Fr c' L ρ' → K.exc c'.s.heap a k → Q (.exc k) ρ' c'.σ → PE c L Q (.ref a) c'.s
variable {c₀ c : Cf K.h₀} {L : Loc} {ρ : List V} {Q : Post}
theorem PF.lift {f : Flow} {s : Shared} (st : Stp L.own c₀ c) : PF c L Q f s → PF c₀ L Q f s
  | .next c' ρ' s F q => .next c' ρ' (st.trans s) F q
  | .brk c' ρ' s F q => .brk c' ρ' (st.trans s) F q
  | .cont c' ρ' s F q => .cont c' ρ' (st.trans s) F q
  | .ret c' ρ' V v s F r q => .ret c' ρ' V v (st.trans s) F r q
theorem PE.lift {e : Value} {s : Shared} (st : Stp L.own c₀ c) : PE c L Q e s → PE c₀ L Q e s
  | .mk c' ρ' k a n o s F x q => .mk c' ρ' k a (st.gone n) o (st.trans s) F x q
theorem PX.toE {e : Value} {s : Shared} (F : Fr c L ρ) : PX c (fun k σ => Q (.exc k) ρ σ) e s → PE c L Q e s
  | .mk c' k a n o st x q => .mk c' ρ k a n o st.any (F.step st) x q

/-- an exception's own change, and nothing else -/
noncomputable def XKeep (c : Cf K.h₀) (a : Addr) (k : Nat) (P : Value → Shared → Prop) : Prop := ∀ c' : Cf K.h₀, c'.φ = c.φ → c'.σ = c.σ → WStp (· = a) c c' → K.exc c'.s.heap a k → P (.ref a) c'.s
/-- how exceptions pass -/
structure XR (K : Ctx) : Prop where
  noTup : ∀ h a k, K.exc h a k → NoTup h a ∧ (∀ es ep o, h.get? a = some o → o.data ≠ .dict es ep) ∧ ∀ v, ¬ h.IsCell a v
  note : ∀ {A : Around} {c : Cf K.h₀} {L : Loc} {ρ : List V} {a : Addr} {k : Nat} {P : Value → Shared → Prop}, A.handled = none → Fr c L ρ → K.exc c.s.heap a k → a ∉ c.φ → K.h₀.get? a = none → XKeep c a k P → notedBy K.M A L.env P (.ref a) c.s
  came : ∀ {A : Around} {c : Cf K.h₀} {L : Loc} {ρ : List V} {a : Addr} {k : Nat} {P : Value → Shared → Prop}, A.handled = none → Fr c L ρ → K.exc c.s.heap a k → a ∉ c.φ → K.h₀.get? a = none → XKeep c a k P → cameBackBy K.M A L.env P (.ref a) c.s
  leave : ∀ {A : Around} {c : Cf K.h₀} {L : Loc} {ρ : List V} {a : Addr} {k : Nat} {P : Value → Shared → Prop}, A.handled = none → Fr c L ρ → K.exc c.s.heap a k → a ∉ c.φ → K.h₀.get? a = none → XKeep c a k P → wpAny K.M A (leaving L.env (.ref a)) (fun _ s => P (.ref a) s) (fun e s => P e s) c.s
theorem Fr.exc {c' : Cf K.h₀} {a : Addr} {k : Nat} (x : XR K) (F : Fr c L ρ) (e : K.exc c.s.heap a k) (st : WStp (· = a) c c') : Fr c' L ρ := by
  obtain ⟨h1, h2, h3⟩ := x.noTup _ _ _ e
  refine F.keep st (fun b e => e ▸ h1) (fun e => ?_) fun b ov ic e => h3 ov (e ▸ ic)
  cases F.ns with
  | mk m n q => obtain ⟨o, e1, es, ep, d⟩ := ns_get n; exact h2 es ep o (e ▸ e1) d
/-- an exception of a statement, noted -/
theorem PE.note {A : Around} {e : Value} {s : Shared} (x : XR K) (hh : A.handled = none) : PE c L Q e s → notedBy K.M A L.env (PE c L Q) e s
  | .mk c' ρ' k a n o st F ex q => x.note hh F ex o (c.sim.none₀ n) fun c'' e1 e2 st' ex' => .mk c'' ρ' k a n (e1 ▸ o) (st.transNew st' fun _ e => e ▸ n) (F.exc x ex st') ex' (e2 ▸ q)
theorem PE.came {A : Around} {e : Value} {s : Shared} (x : XR K) (hh : A.handled = none) : PE c L Q e s → cameBackBy K.M A L.env (PE c L Q) e s
  | .mk c' ρ' k a n o st F ex q => x.came hh F ex o (c.sim.none₀ n) fun c'' e1 e2 st' ex' => .mk c'' ρ' k a n (e1 ▸ o) (st.transNew st' fun _ e => e ▸ n) (F.exc x ex st') ex' (e2 ▸ q)
end

section
variable (K : Ctx) (L : Loc)
noncomputable def SOk (st : Stmt) (a : Sx) : Prop := ∀ (A : Around) (c : Cf K.h₀) (ρ : List V) (Q : Post), ROk K A → Fr c L ρ → a K.C ρ c.σ Q → wpAny K.M A (exec st L.env) (PF c L Q) (PE c L Q) c.s
noncomputable def SsOk (st : List Stmt) (a : List Sx) : Prop := ∀ (A : Around) (c : Cf K.h₀) (ρ : List V) (Q : Post), ROk K A → Fr c L ρ → sSeq a K.C ρ c.σ Q → wpAny K.M A (execs st L.env) (PF c L Q) (PE c L Q) c.s
end
/-- no comprehension, whose store is another one -/
noncomputable def NoComp (e : Expr) : Prop := ∀ t l env, swapsWith e t l env = pure false

section
variable {K : Ctx} {L : Loc}
/-- an expression within a statement -/
theorem inS {A : Around} {c : Cf K.h₀} {ρ : List V} {Q : Post} {m : Sem Value} {T : VPost} {P : Value → Shared → Prop} (F : Fr c L ρ) (h : wpAny K.M A m (PV c T) (PX c fun k σ => Q (.exc k) ρ σ) c.s)
    (k : ∀ (c₁ : Cf K.h₀) (V : V) (v : Value), Stp noOwn c c₁ → Rel c₁.s.heap c₁.φ V v → T V c₁.σ → P v c₁.s) : wpAny K.M A m P (PE c L Q) c.s :=
  wpAny_mono h (fun v _ y => match y with | .mk c₁ V s₁ r q => k c₁ V v s₁ r q) fun _ _ x => x.toE F
theorem inS2 {A : Around} {c₀ c : Cf K.h₀} {ρ : List V} {Q : Post} {m : Sem Value} {T : VPost} {P : Value → Shared → Prop} (st : Stp noOwn c₀ c) (F : Fr c₀ L ρ) (h : wpAny K.M A m (PV c T) (PX c fun k σ => Q (.exc k) ρ σ) c.s)
    (k : ∀ (c₁ : Cf K.h₀) (V : V) (v : Value), Stp noOwn c₀ c₁ → Stp noOwn c c₁ → Rel c₁.s.heap c₁.φ V v → T V c₁.σ → P v c₁.s) : wpAny K.M A m P (PE c₀ L Q) c.s :=
  wpAny_mono h (fun v _ y => match y with | .mk c₁ V s₁ r q => k c₁ V v (st.trans s₁) s₁ r q) fun _ _ x => (x.lift st).toE F
theorem interactive_fn {env : Env} (h : env.scope.kind = .function) : interactive env = false := by unfold interactive; rw [h]; rfl
theorem sok_expr {e : Expr} {a : Ex} {pos} (hc : NoComp e) (h : EOk K L e a) : SOk K L (.Expr e pos) (sExpr a) := fun A c ρ _ R F q =>
  wpAny_Expr_any (inS F (h A c ρ _ _ R F q) fun c₁ _ _ s₁ _ q₁ => .next c₁ ρ s₁.any (F.step s₁) q₁) (interactive_fn F.fn) (hc _ _ _)
theorem sok_ret {e : Expr} {a : Ex} {pos} (h : EOk K L e a) : SOk K L (.Return (some e) pos) (sRet a) := fun A c ρ _ R F q =>
  wpAny_Return_some (inS F (h A c ρ _ _ R F q) fun c₁ V v s₁ r q₁ => .ret c₁ ρ V v s₁.any (F.step s₁) r q₁)
theorem sok_retN {pos} : SOk K L (.Return none pos) sRetN := fun _ c ρ _ _ F q => wpAny_Return_none (.ret c ρ .none .none (.refl c) F rel_none q)
theorem sok_pass {pos} : SOk K L (.Pass pos) sPass := fun _ c ρ _ _ F q => wpAny_bind (wpAny_standAt (wpAny_pure (.next c ρ (.refl c) F q)))
theorem sok_assign {t value : Expr} {p : Pat} {a : Ex} {pos} (hc : swapsWith value (some t) pos.line L.env = pure false) (hw : swappedStores [t] value L.env = pure none) (hst : (assignEach [t] L.env).map (·.2) = [assign t L.env]) (ht : CPat L t p) (h : EOk K L value a) :
    SOk K L (.Assign [t] value pos) (sSet p a) := fun A c ρ _ R F q =>
  wpAny_Assign_stores (inS F (h A c ρ _ _ R F q) fun c₁ _ v s₁ r q₁ => hst ▸ assign_ok ht R.hd (F.step s₁) r q₁ fun c₂ ρ' _ e2 s₂ F₂ q₂ => .next c₂ ρ' (s₁.any.trans s₂) F₂ (e2 ▸ q₂)) hc hw
theorem ssok_nil : SsOk K L [] [] := fun _ c ρ _ _ F q => wpAny_execs_nil (.next c ρ (.refl c) F q)
theorem ssok_cons {st : Stmt} {a : Sx} {sts : List Stmt} {as : List Sx} (h : SOk K L st a) (hs : SsOk K L sts as) : SsOk K L (st :: sts) (a :: as) := fun A c ρ Q R F q =>
  wpAny_execs_cons (wpAny_mono (h A c ρ _ R F q) (fun _ _ y => match y with
    | .next c₁ ρ₁ s₁ F₁ q₁ => wpAny_mono (hs A c₁ ρ₁ Q R F₁ q₁) (fun _ _ z => z.lift s₁) fun _ _ z => z.lift s₁
    | .brk c₁ ρ₁ s₁ F₁ q₁ => .brk c₁ ρ₁ s₁ F₁ q₁
    | .cont c₁ ρ₁ s₁ F₁ q₁ => .cont c₁ ρ₁ s₁ F₁ q₁
    | .ret c₁ ρ₁ V v s₁ F₁ r q₁ => .ret c₁ ρ₁ V v s₁ F₁ r q₁) fun _ _ x => match x with | .mk c' ρ' k a n o s F x q => .mk c' ρ' k a n o s F x q)
theorem sok_if {test : Expr} {t : Tx} {b o : List Stmt} {b' o' : List Sx} {pos} (ht : TOk K L test t) (hb : SsOk K L b b') (ho : SsOk K L o o') : SOk K L (.If test b o pos) (sIf t b' o') := fun A c ρ Q R F q =>
  wpAny_If (wpAny_mono (ht A c ρ _ _ R F q) (fun x _ y => match x, y with
    | true, .mk c₁ s₁ q₁ => wpAny_mono (hb A c₁ ρ Q R (F.step s₁) q₁) (fun _ _ z => z.lift s₁.any) fun _ _ z => z.lift s₁.any
    | false, .mk c₁ s₁ q₁ => wpAny_mono (ho A c₁ ρ Q R (F.step s₁) q₁) (fun _ _ z => z.lift s₁.any) fun _ _ z => z.lift s₁.any) fun _ _ x => x.toE F)
end

/-! loops -/
/-- an iterator's object -/
inductive ItOb (h : Heap) (b : Addr) : Prop
  | mk (o : Obj) (us : Array Value) : h.get? b = some o → o.data = .fields us → o.cls ≠ .none → o.cls ≠ .type "tuple" → ItOb h b
theorem ItOb.noTup {h : Heap} {b : Addr} : ItOb h b → NoTup h b
  | .mk _ _ e _ _ k => Mine.noTup e k
theorem ItOb.out {h₀ h : Heap} {φ : List Addr} {σ : Store} (S : Sim h₀ h φ σ) {b : Addr} (x : ItOb h b) : b ∉ φ := fun m => match x, S.at m with
  | .mk _ us e d k _, .mk _ e' _ kk _ _ => k (Option.some.inj (e'.symm.trans e) ▸ kk us (Option.some.inj (e'.symm.trans e) ▸ d))
theorem ItOb.notNs {h : Heap} {b : Addr} {m : Str → Option Value} (x : ItOb h b) (n : h.Ns b m) : False := match x with
  | .mk _ _ e d _ _ => let ⟨_, e', _, _, d'⟩ := ns_get n; nomatch d.symm.trans ((congrArg Obj.data (Option.some.inj (e.symm.trans e'))).trans d')
theorem ItOb.notCell {h : Heap} {b : Addr} {v : Option Value} (x : ItOb h b) (n : h.IsCell b v) : False := match x with
  | .mk _ _ e d _ _ => let ⟨_, e', d'⟩ := n; nomatch d.symm.trans ((congrArg Obj.data (Option.some.inj (e.symm.trans e'))).trans d')
section
variable {K : Ctx}
/-- a step of an iterator -/
inductive ItGo (fp : List Addr) (c : Cf K.h₀) (P : Cf K.h₀ → Prop) : Shared → Prop
  | mk (c' : Cf K.h₀) : c'.φ = c.φ → c'.σ = c.σ → WStp (· ∈ fp) c c' → P c' → ItGo fp c P c'.s
noncomputable def NX : Value → Shared → Prop := fun _ _ => False
variable (K) in
/-- what an iterator is: its own objects fp, its state at the i-th item -/
structure Itr (A : Around) (t : Expr) (I : Addr) (fp : List Addr) (items : List V) (same : Store → Prop) (St : Nat → Cf K.h₀ → Prop) : Prop where
  new : ∀ b ∈ fp, K.h₀.get? b = none
  mine : ∀ i c, St i c → ∀ b ∈ fp, ItOb c.s.heap b
  frame : ∀ i (c c' : Cf K.h₀), St i c → c.φ <+: c'.φ → same c'.σ → (∀ b ∈ fp, ∀ o, c.s.heap.get? b = some o → c'.s.heap.get? b = some o) → (∀ V v, Rel c.s.heap c.φ V v → Rel c'.s.heap c'.φ V v) → St i c'
  item : ∀ i V c, items[i]? = some V → St i c → wpAny K.M A (pyNext (.ref I)) (fun r s₁ => ∃ v, r = some v ∧ wpAny K.M A (letOwnedTupleGo t (.ref I) v) (fun _ s₂ => ItGo fp c (fun c' => Rel c'.s.heap c'.φ V v ∧ St (i + 1) c') s₂) NX s₁) NX c.s
  done : ∀ c, St items.length c → wpAny K.M A (pyNext (.ref I)) (fun r s₁ => r = none ∧ ItGo fp c (fun _ => True) s₁) NX c.s
variable (K) in
/-- an iterator is its own iterator -/
noncomputable def SelfIt (A : Around) (I : Addr) (St : Nat → Cf K.h₀ → Prop) : Prop := ∀ i c, St i c → wpAny K.M A (pyIter (.ref I)) (fun v s₁ => v = .ref I ∧ s₁ = c.s) NX c.s
variable {c c' : Cf K.h₀} {L : Loc} {ρ : List V}
theorem Fr.iter {fp : List Addr} (F : Fr c L ρ) (mine : ∀ b ∈ fp, ItOb c.s.heap b) (st : WStp (· ∈ fp) c c') : Fr c' L ρ :=
  F.keep st (fun b m => (mine b m).noTup) (fun m => match F.ns with | .mk _ n _ => (mine _ m).notNs n) fun b _ ic m => (mine b m).notCell ic
theorem Fr.notOwn (F : Fr c L ρ) {b : Addr} (x : ItOb c.s.heap b) : ¬ L.own b
  | .inl e => match F.ns with | .mk _ n _ => x.notNs (e ▸ n)
  | .inr ⟨y, i, hy, hk, ec⟩ => match F.cell y i hy (.inl hk) with | .mk _ _ e1 _ _ ic _ => x.notCell (Option.some.inj (e1.symm.trans ec) ▸ ic)

theorem for_loop {A : Around} {Q : Post} {t : Expr} {p : Pat} {I : Addr} {fp : List Addr} {items : List V} {same : Store → Prop} {St : Nat → Cf K.h₀ → Prop} {body : List Stmt} {body' : List Sx} {cp : Cf K.h₀}
    (x : XR K) (R : ROk K A) (st₀ : Stp noOwn cp c) (hfp : ∀ b ∈ fp, cp.s.heap.get? b = none) (W : Itr K A t I fp items same St) (ht : CPat L t p) (hb : SsOk K L body body') (F : Fr c L ρ) (h0 : St 0 c) (q : forW (turnF K.C p body') same items ρ c.σ Q) :
    codeAny K.M A (.forLoop t (.ref I) body [] L.env) (fun r s' => match r with | .ok f => PF cp L Q f s' | .error e => PE cp L Q e s') c.s := by
  refine codeAny_forLoop_any (fun n s' => ∃ i c' ρ', c'.s = s' ∧ (i + n = items.length + 1 ∧ i ≤ items.length) ∧ Stp L.own cp c' ∧ Fr c' L ρ' ∧ St i c' ∧ forW (turnF K.C p body') same (items.drop i) ρ' c'.σ Q) ?_ (items.length + 1)
    ⟨0, c, ρ, rfl, ⟨Nat.zero_add _, Nat.zero_le _⟩, st₀.any, F, h0, q⟩
  rintro n s' ⟨i, c', ρ', rfl, hn, stp, F', st', q'⟩
  rcases Nat.lt_or_ge i items.length with hlt | hge
  · rw [List.drop_eq_getElem_cons hlt] at q'
    have mine := W.mine i c' st'
    refine wpAny_mono (W.item i items[i] c' (List.getElem?_eq_getElem hlt) st') (fun r s₁ ⟨v, e, y⟩ => ?_) fun _ _ e => e.elim
    subst e
    refine wpAny_mono y (fun _ s₂ z => ?_) fun _ _ e => e.elim
    match z with
    | .mk c₂ e1 e2 s₂ ⟨rl, st₂⟩ =>
    have F₂ := F'.iter mine s₂
    have stp₂ : Stp L.own cp c₂ := stp.transNew s₂ hfp
    have mine₂ := W.mine (i + 1) c₂ st₂
    refine assign_ok ht R.hd F₂ rl (e2 ▸ q') fun c₃ ρ₃ f1 f2 s₃ F₃ q₃ => ?_
    refine wpAny_mono (hb A c₃ ρ₃ _ R F₃ (f2.symm ▸ q₃)) (fun f s₄ y => ?_) fun e s₄ y => (PE.lift (stp₂.trans s₃) ?_ : PE cp L Q e s₄).note x R.hd
    · have go : ∀ {c₄ : Cf K.h₀} {ρ₄ : List V}, Stp L.own c₃ c₄ → Fr c₄ L ρ₄ → same c₄.σ → forW (turnF K.C p body') same (items.drop (i + 1)) ρ₄ c₄.σ Q →
          ∃ m, m < n ∧ ∃ i c' ρ', c'.s = c₄.s ∧ (i + m = items.length + 1 ∧ i ≤ items.length) ∧ Stp L.own cp c' ∧ Fr c' L ρ' ∧ St i c' ∧ forW (turnF K.C p body') same (items.drop i) ρ' c'.σ Q := fun {c₄ ρ₄} s₄ F₄ hs hq =>
        ⟨n - 1, by omega, i + 1, c₄, ρ₄, rfl, ⟨by omega, hlt⟩, (stp₂.trans s₃).trans s₄, F₄, W.frame (i + 1) c₂ c₄ st₂ (f1 ▸ s₃.pre.trans s₄.pre) hs
          (fun b hb o e => (s₃.trans s₄).keep b o (ItOb.out c₂.sim (mine₂ b hb)) (F₂.notOwn (mine₂ b hb)) e) (fun V v r => r.own (s₃.trans s₄).toWStp fun _ m => F₂.noTup m), hq⟩
      match y with
      | .next c₄ ρ₄ s₄ F₄ q₄ => exact go s₄ F₄ q₄.1 q₄.2
      | .cont c₄ ρ₄ s₄ F₄ q₄ => exact go s₄ F₄ q₄.1 q₄.2
      | .brk c₄ ρ₄ s₄ F₄ q₄ => exact .next c₄ ρ₄ ((stp₂.trans s₃).trans s₄) F₄ q₄
      | .ret c₄ ρ₄ V u s₄ F₄ r q₄ => exact .ret c₄ ρ₄ V u ((stp₂.trans s₃).trans s₄) F₄ r q₄
    · exact match y with | .mk c₄ ρ₄ k a n o s₄ F₄ ex q₄ => .mk c₄ ρ₄ k a n o s₄ F₄ ex q₄
  · cases Nat.le_antisymm hn.2 hge
    rw [List.drop_length] at q'
    refine wpAny_mono (W.done c' st') (fun r s₁ ⟨e, z⟩ => ?_) fun _ _ e => e.elim
    subst e
    match z with
    | .mk c₂ e1 e2 s₂ _ => exact wpAny_execs_nil (.next c₂ ρ' (stp.transNew s₂ hfp) (F'.iter (W.mine _ c' st') s₂) (e2 ▸ q'))
end
end Mine

/-! N6 -/
namespace Mine
open PySem PySem.Calls
set_option genSizeOf false
set_option genInjectivity false

noncomputable def plainIter (n : String) : Bool := !["enumerate", "zip", "dict_itemiterator", "dict_reverseitemiterator", "odict_iterator", "itertools.zip_longest", "itertools.pairwise"].contains n
theorem letOwned_other {M : Model} {A : Around} {E : Value → Shared → Prop} {s : Shared} {t : Expr} {I : Addr} {v : Value} {o : Obj} {n : String} {Q : Unit → Shared → Prop} (ho : s.heap.get? I = some o) (hc : o.cls = .type n)
    (hn : plainIter n = true) (hQ : Q () s) : wpAny M A (letOwnedTupleGo t (.ref I) v) Q E s := by
  have key : ∀ a : Addr, wpAny M A (do
      let o ← load I
      match o.cls, o.data with
      | .type n, .fields vs =>
        if ["enumerate", "zip", "dict_itemiterator", "dict_reverseitemiterator", "odict_iterator", "itertools.zip_longest", "itertools.pairwise"].contains n && vs[0]? == some (rawInt a) then
          rule "for.unpacks-the-owned-tuple"
          updateField I 0 .none
      | _, _ => pure ()) Q E s := fun a => by
    refine wpAny_bind (wpAny_load ho ?_)
    obtain ⟨_, _, dt, _⟩ := o
    cases hc
    cases dt <;> first | exact wpAny_pure hQ | skip
    show wpAny M A (if (_ && _) = true then _ else pure ()) Q E s
    rw [if_neg fun h => Bool.eq_false_iff.mp ((Bool.not_eq_true' _).mp hn) (Bool.and_eq_true_iff.mp h).1]
    exact wpAny_pure hQ
  cases t <;> first
    | exact wpAny_pure hQ
    | (cases v <;> first | exact wpAny_pure hQ | exact key _)
theorem rangeL_length : ∀ (n : Nat) (a : Int), (rangeL a n).length = n
  | 0, _ => rfl
  | n + 1, a => congrArg (· + 1) (rangeL_length n (a + 1))
theorem rangeL_get : ∀ (n : Nat) (a : Int) (i : Nat) (V : V), (rangeL a n)[i]? = some V → i < n ∧ V = .int (a + i)
  | n + 1, a, 0, V, e => ⟨Nat.zero_lt_succ _, (Option.some.inj e).symm.trans (by rw [Int.natCast_zero, Int.add_zero])⟩
  | n + 1, a, i + 1, V, e => let ⟨h1, h2⟩ := rangeL_get n (a + 1) i V e; ⟨Nat.succ_lt_succ h1, h2.trans (by rw [Int.natCast_succ, Int.add_assoc, Int.add_comm 1])⟩
theorem enumL_length : ∀ (l : List V) (k : Int), (enumL k l).length = l.length
  | [], _ => rfl
  | _ :: r, k => congrArg (· + 1) (enumL_length r (k + 1))
theorem enumL_get : ∀ (l : List V) (k : Int) (i : Nat) (V : V), (enumL k l)[i]? = some V → ∃ W, l[i]? = some W ∧ V = .tup [.int (k + i), W]
  | x :: r, k, 0, V, e => ⟨x, rfl, (Option.some.inj e).symm.trans (by rw [Int.natCast_zero, Int.add_zero])⟩
  | x :: r, k, i + 1, V, e => let ⟨W, h1, h2⟩ := enumL_get r (k + 1) i V e; ⟨W, h1, h2.trans (by rw [Int.natCast_succ, Int.add_assoc, Int.add_comm 1])⟩

section
variable {K : Ctx} {A : Around} {t : Expr} {c : Cf K.h₀}
/-- the change of an iterator's own objects -/
theorem itGo {fp : List Addr} {h' : Heap} {tk : Nat} {P : Cf K.h₀ → Prop} (new : ∀ b ∈ fp, K.h₀.get? b = none) (mine : ∀ b ∈ fp, ItOb c.s.heap b) (k : ∀ b o, b ∉ fp → c.s.heap.get? b = some o → h'.get? b = some o)
    (q : ∀ c' : Cf K.h₀, c'.φ = c.φ → c'.σ = c.σ → c'.s.heap = h' → WStp (· ∈ fp) c c' → P c') : ItGo fp c P { c.s with heap := h', toks := tk } :=
  have ho : ∀ a, a ∈ fp → NoTup c.s.heap a ∧ a ∉ c.φ ∧ K.h₀.get? a = none := fun a m => ⟨(mine a m).noTup, (mine a m).out c.sim, new a m⟩
  have st : WStp (· ∈ fp) c (c.keepOwn { c.s with heap := h', toks := tk } k ho) := ⟨⟨rfl, rfl⟩, List.prefix_refl _, fun b o _ => k b o, fun _ m => .inl m⟩
  .mk (c.keepOwn { c.s with heap := h', toks := tk } k ho) rfl rfl st (q _ rfl rfl rfl st)
theorem one {I : Addr} {P : Addr → Prop} (h : P I) : ∀ b ∈ [I], P b := fun _ m => List.mem_singleton.mp m ▸ h
theorem extOut {I : Addr} {h h' : Heap} (x : ∀ b o, b ≠ I → h.get? b = some o → h'.get? b = some o) : ∀ b o, b ∉ [I] → h.get? b = some o → h'.get? b = some o := fun b o m e => x b o (fun q => m (List.mem_singleton.mpr q)) e
theorem listIter_ob {h : Heap} {I a : Addr} {i : Nat} (x : h.IsListIter I a i) : ItOb h I := let ⟨o, e, k, d⟩ := x; .mk o _ e d (by rw [k]; exact nofun) (by rw [k]; simp)
theorem listIter_keep {h h' : Heap} {I a : Addr} {i : Nat} (x : h.IsListIter I a i) (k : ∀ o, h.get? I = some o → h'.get? I = some o) : h'.IsListIter I a i := let ⟨o, e, r⟩ := x; ⟨o, k o e, r⟩
theorem tupIter_ob {h : Heap} {I a : Addr} {i : Nat} (x : h.IsTupleIter I a i) : ItOb h I := let ⟨o, e, k, d⟩ := x; .mk o _ e d (by rw [k]; exact nofun) (by rw [k]; simp)
theorem itr_list {I : Addr} {n : Nat} {Vs : List V} (hh : A.handled = none) (hI : K.h₀.get? I = none) : Itr K A t I [I] Vs (fun σ' => σ'[n]? = some (.list Vs)) (fun i c => c.σ[n]? = some (.list Vs) ∧ ∃ a, c.φ[n]? = some a ∧ c.s.heap.IsListIter I a i) where
  new := one hI
  mine _ _ x := let ⟨_, _, _, it⟩ := x; one (listIter_ob it)
  frame _ _ _ x hp hs k _ := let ⟨_, a, ea, it⟩ := x; ⟨hs, a, pre_get hp ea, listIter_keep it (k I (List.mem_singleton.mpr rfl))⟩
  item i V c hV x := by
    obtain ⟨es, a, ea, hit⟩ := x
    obtain ⟨a', items, z, e1, ea', g, rl, _⟩ := Cf.list (v := .ref a) es ⟨a, rfl, ea⟩
    cases e1
    obtain ⟨v, ev, rv⟩ := rl.get hV
    refine wpAny_pyNext_list_item hit ⟨_, g, rfl, z, rfl⟩ (Array.getElem?_toList ▸ ev) fun h' hit' hs' => ⟨v, rfl, ?_⟩
    obtain ⟨o', e', k', d'⟩ := id hit'
    exact letOwned_other e' k' (by decide) (itGo (tk := c.s.toks) (one hI) (one (listIter_ob hit)) (extOut hs'.extBut) fun c' f1 f2 f3 st => ⟨rv.own st (one (listIter_ob hit).noTup), f2.symm ▸ es, a, f1.symm ▸ ea, f3.symm ▸ hit'⟩)
  done c x := by
    obtain ⟨es, a, ea, hit⟩ := x
    obtain ⟨a', items, z, e1, ea', g, rl, _⟩ := Cf.list (v := .ref a) es ⟨a, rfl, ea⟩
    cases e1
    exact wpAny_pyNext_list_end hh hit ⟨_, g, rfl, z, rfl⟩ (Array.getElem?_eq_none (Nat.le_of_eq rl.size)) fun h' he' => ⟨rfl, itGo (tk := c.s.toks) (one hI) (one (listIter_ob hit)) (extOut he') fun _ _ _ _ _ => trivial⟩
theorem self_list {I : Addr} {n : Nat} {Vs : List V} : SelfIt K A I (fun i c => c.σ[n]? = some (.list Vs) ∧ ∃ a, c.φ[n]? = some a ∧ c.s.heap.IsListIter I a i) := fun _ _ x => let ⟨_, _, _, hit⟩ := x; wpAny_pyIter_listiter hit ⟨rfl, rfl⟩
theorem itr_tuple {I T : Addr} {Vs : List V} (hh : A.handled = none) (hI : K.h₀.get? I = none) : Itr K A t I [I] Vs (fun _ => True) (fun i c => c.s.heap.IsTupleIter I T i ∧ Rel c.s.heap c.φ (.tup Vs) (.ref T)) where
  new := one hI
  mine _ _ x := one (tupIter_ob x.1)
  frame _ _ _ x _ _ k kr := ⟨let ⟨o, e, r⟩ := x.1; ⟨o, k I (List.mem_singleton.mpr rfl) o e, r⟩, kr _ _ x.2⟩
  item i V c hV x := by
    obtain ⟨hit, r⟩ := x
    obtain ⟨T', items, z, eT, g, rl⟩ := id r
    cases eT
    obtain ⟨v, ev, rv⟩ := rl.get hV
    refine wpAny_pyNext_tuple_item hit ⟨_, g, rfl, z, rfl⟩ (Array.getElem?_toList ▸ ev) fun h' hit' hs' => ⟨v, rfl, ?_⟩
    obtain ⟨o', e', k', d'⟩ := id hit'
    exact letOwned_other e' k' (by decide) (itGo (tk := c.s.toks) (one hI) (one (tupIter_ob hit)) (extOut hs'.extBut) fun c' f1 f2 f3 st => ⟨rv.own st (one (tupIter_ob hit).noTup), f3.symm ▸ hit', r.own st (one (tupIter_ob hit).noTup)⟩)
  done c x := by
    obtain ⟨hit, r⟩ := x
    obtain ⟨T', items, z, eT, g, rl⟩ := id r
    cases eT
    exact wpAny_pyNext_tuple_end hh hit ⟨_, g, rfl, z, rfl⟩ (Array.getElem?_eq_none (Nat.le_of_eq rl.size)) fun h' he' => ⟨rfl, itGo (tk := c.s.toks) (one hI) (one (tupIter_ob hit)) (extOut he') fun _ _ _ _ _ => trivial⟩
theorem self_tuple {I T : Addr} {Vs : List V} : SelfIt K A I (fun i c => c.s.heap.IsTupleIter I T i ∧ Rel c.s.heap c.φ (.tup Vs) (.ref T)) := fun _ _ x => wpAny_pyIter_tupleiter x.1 ⟨rfl, rfl⟩
theorem rangeIter_ob {h : Heap} {I : Addr} {a b d : Int} (x : IsRangeIter h I a b d) : ItOb h I := .mk _ _ x rfl nofun (by simp)
theorem itr_range {I : Addr} {a : Int} {n : Nat} (hh : A.handled = none) (hI : K.h₀.get? I = none) : Itr K A t I [I] (rangeL a n) (fun _ => True) (fun i c => IsRangeIter c.s.heap I (a + i) ((n : Int) - i) 1) where
  new := one hI
  mine _ _ x := one (rangeIter_ob x)
  frame _ _ _ x _ _ k _ := k I (List.mem_singleton.mpr rfl) _ x
  item i V c hV x := by
    obtain ⟨hi, rfl⟩ := rangeL_get n a i V hV
    refine wpAny_pyNext_range_item x (Int.sub_pos_of_lt (Int.ofNat_lt.mpr hi)) fun h' hit' hs' => ⟨_, rfl, letOwned_other hit' rfl (by decide) (itGo (one hI) (one (rangeIter_ob x)) (extOut hs'.extBut) fun c' f1 f2 f3 st => ⟨rel_int, ?_⟩)⟩
    rw [f3, Int.natCast_succ, ← Int.add_assoc, ← Int.sub_sub]
    exact hit'
  done c x := wpAny_pyNext_range_end hh x (by rw [rangeL_length, Int.sub_self]; exact Int.le_refl 0) fun h' he' => ⟨rfl, itGo (tk := c.s.toks) (one hI) (one (rangeIter_ob x)) (extOut he') fun _ _ _ _ _ => trivial⟩
theorem self_range {I : Addr} {a : Int} {n : Nat} : SelfIt K A I (fun i c => IsRangeIter c.s.heap I (a + i) ((n : Int) - i) 1) := fun _ _ x => wpAny_pyIter_rangeiter x ⟨rfl, rfl⟩
theorem two {I J : Addr} {P : Addr → Prop} (h : P I) (h' : P J) : ∀ b ∈ [I, J], P b := fun _ m => (List.mem_cons.mp m).elim (fun e => e ▸ h) fun m => List.mem_singleton.mp m ▸ h'
theorem enum_ob {h : Heap} {I J : Addr} {i : Int} {old : Value} (x : IsEnum h I J i old) : ItOb h I := .mk _ _ x rfl nofun (by simp)
theorem itr_enum {I J : Addr} {n : Nat} {Vs : List V} {es : List Expr} {k : Nat} {p : Pos} (hh : A.handled = none) (hI : K.h₀.get? I = none) (hJ : K.h₀.get? J = none) (hIJ : I ≠ J) :
    Itr K A (.Tuple es k p) I [I, J] (enumL 0 Vs) (fun σ' => σ'[n]? = some (.list Vs)) (fun i c => c.σ[n]? = some (.list Vs) ∧ ∃ a old, c.φ[n]? = some a ∧ IsEnum c.s.heap I J i old ∧ c.s.heap.IsListIter J a i) where
  new := two hI hJ
  mine _ _ x := let ⟨_, _, _, _, e, it⟩ := x; two (enum_ob e) (listIter_ob it)
  frame _ _ _ x hp hs k _ := let ⟨_, a, old, ea, e, it⟩ := x; ⟨hs, a, old, pre_get hp ea, k I List.mem_cons_self _ e, listIter_keep it (k J (List.mem_cons_of_mem _ List.mem_cons_self))⟩
  item i V c hV x := by
    obtain ⟨es, a, old, ea, he, hit⟩ := x
    obtain ⟨W, hW, rfl⟩ := enumL_get Vs 0 i V hV
    obtain ⟨a', items, z, e1, ea', g, rl, _⟩ := Cf.list (v := .ref a) es ⟨a, rfl, ea⟩
    cases e1
    obtain ⟨v, ev, rv⟩ := rl.get hW
    refine wpAny_pyNext_enum_item he hit ⟨_, g, rfl, z, rfl⟩ (Array.getElem?_toList ▸ ev) hIJ fun h₁ heo hit₁ ht₁ hz₁ hk₁ => ⟨_, rfl, ?_⟩
    refine wpAny_letOwnedTupleGo_enum heo fun h₂ he₂ hs₂ => ?_
    have mine := two (P := ItOb c.s.heap) (enum_ob he) (listIter_ob hit)
    refine itGo (two hI hJ) mine (fun b o m e => ?_) fun c' f1 f2 f3 st => ⟨?_, f2.symm ▸ es, a, v, f1.symm ▸ ea, ?_, ?_⟩
    · have hb : b ≠ I := fun q => m (q ▸ List.mem_cons_self)
      exact (hs₂.2 b hb).trans (hk₁ b o hb (fun q => m (q ▸ List.mem_cons_of_mem _ List.mem_cons_self)) e)
    · refine ⟨_, _, 0, rfl, (congrArg (fun h => Heap.get? h c.s.heap.objs.size) f3).trans ((hs₂.2 _ (Ne.symm (Nat.ne_of_lt (Heap.lt_size he)))).trans ht₁), ?_, rv.own st fun b m => (mine b m).noTup, trivial⟩
      rw [Int.zero_add]; exact rel_int
    · rw [f3, Int.natCast_succ]; exact he₂
    · rw [f3]; exact listIter_keep hit₁ fun o e => (hs₂.2 J (Ne.symm hIJ)).trans e
  done c x := by
    obtain ⟨es, a, old, ea, he, hit⟩ := x
    rw [enumL_length] at he hit
    obtain ⟨a', items, z, e1, ea', g, rl, _⟩ := Cf.list (v := .ref a) es ⟨a, rfl, ea⟩
    cases e1
    refine wpAny_pyNext_enum_end hh he hit ⟨_, g, rfl, z, rfl⟩ (Array.getElem?_eq_none (Nat.le_of_eq rl.size)) fun h' he' => ⟨rfl, itGo (tk := c.s.toks) (two hI hJ) (two (enum_ob he) (listIter_ob hit)) (fun b o m e => he' b o (fun q => m (q ▸ List.mem_cons_of_mem _ List.mem_cons_self)) e) fun _ _ _ _ _ => trivial⟩
end
end Mine

/-! N7 -/
namespace Mine
open PySem PySem.Calls
set_option genSizeOf false
set_option genInjectivity false

noncomputable def bltNames : List Str := ["len", "list", "tuple", "sorted", "str", "int", "min", "max", "isinstance", "range", "enumerate", "set", "bool"]
/-- what stands below: the text's own functions and tables, the built-in names -/
structure Gnd (h₀ : Heap) (G : GlT) (fa : Nat → Addr) (mg mb : Str → Option Value) : Prop where
  ns : h₀.Ns mainGlobals mg
  nsb : h₀.Ns builtinsNs mb
  nolimit : h₀.NoLimit
  fn : ∀ x i, G.lookup x = some (.fn i) → mg x = some (.ref (fa i))
  isfn : ∀ x i, G.lookup x = some (.fn i) → ∃ o fd, h₀.get? (fa i) = some o ∧ o.data = .func fd
  str : ∀ x z, G.lookup x = some (.str z) → ∃ t, mg x = some (.str z t)
  int : ∀ x z, G.lookup x = some (.int z) → ∃ t, mg x = some (.int z t)
  blt : ∀ x ∈ bltNames, G.lookup x = none → mg x = none
  bv : ∀ x : Str, x ≠ "__name__" → mb x = bootBuiltins x
noncomputable def isGlob (sc : Scope) (x : Str) : Bool := sc.names.lookup x == some NameKind.globalImplicit
/-- a name that is a built-in one -/
noncomputable def freeName (G : GlT) (sc : Scope) (x : Str) : Bool := isGlob sc x && (G.lookup x).isNone

section
variable {K : Ctx} {L : Loc} {G : GlT} {fa : Nat → Addr} {mg mb : Str → Option Value}
theorem isGlob_kind {env : Env} {x : Str} (h : isGlob env.scope x = true) : env.kindOf x = some .globalImplicit := beq_iff_eq.mp h
theorem blt_name {x : Str} (hb : x ∈ bltNames) : x ≠ "__name__" ∧ (x == ("__debug__" : Str)) = false :=
  (by decide +kernel : ∀ x ∈ bltNames, x ≠ "__name__" ∧ (x == ("__debug__" : Str)) = false) x hb
section
variable {A : Around} {c : Cf K.h₀} {ρ : List V} {x : Str} {pos : Pos} {Q : Value → Shared → Prop} {E : Value → Shared → Prop}
theorem name_glob (g : Gnd K.h₀ G fa mg mb) (F : Fr c L ρ) {v : Value} (hv : mg x = some v) (hk : isGlob L.env.scope x = true) (hd : (x == ("__debug__" : Str)) = false) (h : Q v c.s) : wpAny K.M A (eval (.Name x pos) L.env) Q E c.s :=
  Name_function_global F.fn (isGlob_kind hk) (loadGlobal_global (F.glob ▸ g.ns.keeps c.sim.keep) hv h) hd
theorem name_blt (g : Gnd K.h₀ G fa mg mb) (F : Fr c L ρ) {v : Value} (hx : freeName G L.env.scope x = true) (hb : x ∈ bltNames) (hv : bootBuiltins x = some v) (h : Q v c.s) : wpAny K.M A (eval (.Name x pos) L.env) Q E c.s :=
  have hx := Bool.and_eq_true_iff.mp hx
  Name_function_global F.fn (isGlob_kind hx.1) (loadGlobal_builtin (F.glob ▸ g.ns.keeps c.sim.keep) (g.blt x hb (Option.isNone_iff_eq_none.mp hx.2)) (F.blt ▸ g.nsb.keeps c.sim.keep) ((g.bv x (blt_name hb).1).trans hv) h) (blt_name hb).2
end
theorem ok_gstr (g : Gnd K.h₀ G fa mg mb) {x z : Str} {pos : Pos} (hx : G.lookup x = some (.str z)) (hk : isGlob L.env.scope x = true) (hd : nameOk x = true) : EOk K L (.Name x pos) (xStr z) := fun _ _ _ _ _ _ F q =>
  let ⟨_, e⟩ := g.str x z hx; name_glob g F e hk (nameOk_1 hd) (PV.same rel_str q)
theorem ok_gint (g : Gnd K.h₀ G fa mg mb) {x : Str} {z : Int} {pos : Pos} (hx : G.lookup x = some (.int z)) (hk : isGlob L.env.scope x = true) (hd : nameOk x = true) : EOk K L (.Name x pos) (xInt z) := fun _ _ _ _ _ _ F q =>
  let ⟨_, e⟩ := g.int x z hx; name_glob g F e hk (nameOk_1 hd) (PV.same rel_int q)

noncomputable def NoStars (es : List Expr) : Prop := ∀ env pos, (backTo pos (starEach es env)).any (·.1) = false
theorem noStars_nil : NoStars [] := fun _ _ => rfl
theorem noStars_cons {e : Expr} {es : List Expr} (h : NoStar e) (hs : NoStars es) : NoStars (e :: es) := fun env pos => by
  rw [h es env]
  show (false || (backTo pos (starEach es env)).any (·.1)) = false
  rw [hs env pos]; rfl
theorem call_eq {f : Str} {pf pos : Pos} {es : List Expr} {env : Env} : eval (.Call (.Name f pf) es [] pos) env = (do callWith pos (← eval (.Name f pf) env) [] (backTo pos (starEach es env)) []) := rfl
/-- the arguments of a call -/
theorem args_ok {A : Around} {c : Cf K.h₀} {ρ : List V} {Q : List V → Store → Prop} {X : XPost} {f : Value} {e : Expr} {es : List Expr} {as : List Ex} {pos : Pos} {P : Args → Shared → Prop} (R : ROk K A) (hn : NoStar e) (hl : LOk K L (e :: es) as) (F : Fr c L ρ) (q : evs as K.C ρ c.σ Q X)
    (h : ∀ (c₁ : Cf K.h₀) (Vs : List V) (vals : List Value), Stp noOwn c c₁ → RelL c₁.s.heap c₁.φ Vs vals → Q Vs c₁.σ → P ⟨vals, []⟩ c₁.s) : wpAny K.M A (evalArgs f true (backTo pos (starEach (e :: es) L.env)) []) P (PX c X) c.s := by
  have hl' := seqs (.refl c) (hl A c ρ Q X pos R F q) fun c₁ Vs vals s₁ _ r q => h c₁ Vs vals s₁ r q.2
  rw [hn es L.env] at hl' ⊢
  exact evalArgs_plain hl'
/-- a call of a built-in function or type -/
theorem call_val {A : Around} {c : Cf K.h₀} {ρ : List V} {Q : List V → Store → Prop} {X : XPost} {f : Value} (hf : (∃ T, f = .type T) ∨ ∃ T, f = .builtin T) {e : Expr} {es : List Expr} {as : List Ex} {pos : Pos} {P : Value → Shared → Prop} (R : ROk K A) (hn : NoStar e) (hns : NoStars (e :: es))
    (hl : LOk K L (e :: es) as) (F : Fr c L ρ) (q : evs as K.C ρ c.σ Q X) (h : ∀ (c₁ : Cf K.h₀) (Vs : List V) (vals : List Value), Stp noOwn c c₁ → RelL c₁.s.heap c₁.φ Vs vals → Q Vs c₁.σ → wpAny K.M A (call f vals) P (PX c X) c₁.s) :
    wpAny K.M A (callWith pos f [] (backTo pos (starEach (e :: es) L.env)) []) P (PX c X) c.s := by
  have key : wpAny K.M A (evalArgs f true (backTo pos (starEach (e :: es) L.env)) []) (fun a s₁ => wpAny K.M A (call f ([] ++ a.pos) a.kw) P (PX c X) s₁) (PX c X) c.s := args_ok R hn hl F q h
  rcases hf with ⟨T, rfl⟩ | ⟨T, rfl⟩
  · exact PySem.callWith_type (hns _ _) key
  · exact callWith_builtin (hns _ _) key

/-! the sources of loops -/
variable (K) in
/-- an iterator stands -/
inductive ItAt (A : Around) (c : Cf K.h₀) (k : SrcT) (t : Expr) (Q : List V → (Store → Prop) → Store → Prop) : Value → Shared → Prop
  | mk (c₁ : Cf K.h₀) (items : List V) (same : Store → Prop) (I : Addr) (fp : List Addr) (St : Nat → Cf K.h₀ → Prop) : Stp noOwn c c₁ → Q items same c₁.σ → same c₁.σ → Itr K A t I fp items same St → St 0 c₁ → (∀ b ∈ fp, c.s.heap.get? b = none) → (k ≠ .enum → SelfIt K A I St) → ItAt A c k t Q (.ref I) c₁.s
variable (K L) in
noncomputable def SrcOk (iter : Expr) (k : SrcT) (as : List Ex) (t : Expr) : Prop :=
  ∀ (A : Around) (c : Cf K.h₀) (ρ : List V) (Q : List V → (Store → Prop) → Store → Prop) (X : XPost), ROk K A → Fr c L ρ → evs as K.C ρ c.σ (fun Vs σ₁ => ∃ items same, SrcK σ₁ k Vs items same ∧ Q items same σ₁) X →
    wpAny K.M A (eval iter L.env) (fun x s₁ => wpAny K.M A (pyIter x) (ItAt K A c k t Q) (PX c X) s₁) (PX c X) c.s
theorem push_keep {h : Heap} {o : Obj} : ∀ b ob, h.get? b = some ob → (h.push o).get? b = some ob := fun _ _ e => Heap.get?_push_of_some _ e
theorem push_keep2 {h : Heap} {o o' : Obj} : ∀ b ob, h.get? b = some ob → ((h.push o).push o').get? b = some ob := fun _ _ e => Heap.get?_push_of_some _ (Heap.get?_push_of_some _ e)
theorem none_size {h : Heap} : h.get? h.objs.size = none := get_none (Nat.le_refl _)
theorem none_size1 {h : Heap} {o : Obj} : h.get? (h.push o).objs.size = none := get_none (by rw [Heap.size_push]; exact Nat.le_succ _)
theorem src_plain {iter : Expr} {a : Ex} {t : Expr} (h : EOk K L iter a) : SrcOk K L iter .plain [a] t := fun A c ρ Q X R F q =>
  seq (.refl c) (h A c ρ _ X R F q) fun c₁ V v s₁ _ r ⟨items, same, sk, q₁⟩ => by
    cases sk with
    | tup =>
      obtain ⟨T, its, z, rfl, g, rr⟩ := id r
      have st : Stp noOwn c₁ (c₁.keep { c₁.s with heap := c₁.s.heap.push { cls := .type "tuple_iterator", data := .fields #[.ref T, .int 0 0] } } push_keep) := Cf.keep_stp ⟨rfl, rfl⟩
      exact wpAny_pyIter_tuple ⟨_, g, rfl, z, rfl⟩ (.mk (c₁.keep _ push_keep) _ _ _ _ _ (s₁.trans st) q₁ trivial (itr_tuple (T := T) R.hd (c₁.sim.none₀ none_size)) ⟨⟨_, Heap.get?_push_size _ rfl, rfl, rfl⟩, r.step st⟩ (one (s₁.gone none_size)) fun _ => self_tuple)
    | list en =>
      obtain ⟨l, its, z, rfl, el, g, rr, hz⟩ := Cf.list en r
      have st : Stp noOwn c₁ (c₁.keep { c₁.s with heap := c₁.s.heap.push { cls := .type "list_iterator", data := .fields #[.ref l, .int 0 0] } } push_keep) := Cf.keep_stp ⟨rfl, rfl⟩
      exact wpAny_pyIter_list g.isList (.mk (c₁.keep _ push_keep) _ _ _ _ _ (s₁.trans st) q₁ en (itr_list R.hd (c₁.sim.none₀ none_size)) ⟨en, l, el, ⟨_, Heap.get?_push_size _ rfl, rfl, rfl⟩⟩ (one (s₁.gone none_size)) fun _ => self_list)
theorem boot_range : bootBuiltins "range" = some (.type "range") := by decide +kernel
theorem boot_enumerate : bootBuiltins "enumerate" = some (.type "enumerate") := by decide +kernel
theorem range_at {A : Around} {c c₁ : Cf K.h₀} {a b : Int} {tk : Nat} {t1 t2 t3 : Tok} {o : Obj} {t : Expr} {n : Nat} {Q : List V → (Store → Prop) → Store → Prop} {E : Value → Shared → Prop} (hh : A.handled = none) (s₁ : Stp noOwn c c₁) (ha : -(2 ^ 62) ≤ a) (ha' : a < 2 ^ 62) (hb : -(2 ^ 62) ≤ b) (hb' : b < 2 ^ 62)
    (hr : IsRange (c₁.s.heap.push o) c₁.s.heap.objs.size a b 1 t1 t2 t3) (hn : Builtin.Range.rangeSize a b 1 = n) (q : Q (rangeL a n) (fun _ => True) c₁.σ) : wpAny K.M A (pyIter (.ref c₁.s.heap.objs.size)) (ItAt K A c .range t Q) E { c₁.s with heap := c₁.s.heap.push o, toks := tk } := by
  refine wpAny_pyIter_range hr (small_one ha ha' hb hb') ?_
  rw [hn]
  exact .mk (c₁.keep { c₁.s with heap := (c₁.s.heap.push o).push _, toks := _ } push_keep2) _ _ _ _ _ (s₁.trans (Cf.keep_stp ⟨rfl, rfl⟩)) q trivial (itr_range (a := a) (n := n) hh (c₁.sim.none₀ none_size1)) ((Heap.get?_push_size _ rfl).trans (by simp)) (one (s₁.gone none_size1)) fun _ => self_range
theorem src_range (g : Gnd K.h₀ G fa mg mb) {e : Expr} {es : List Expr} {as : List Ex} {t : Expr} {pf pos : Pos} (hx : freeName G L.env.scope ("range" : Str) = true) (hn : NoStar e) (hns : NoStars (e :: es)) (hl : LOk K L (e :: es) as) :
    SrcOk K L (.Call (.Name ("range" : Str) pf) (e :: es) [] pos) .range as t := fun A c ρ Q X R F q => by
  rw [call_eq]
  refine wpAny_bind (name_blt g F hx (by decide) boot_range (call_val (.inl ⟨_, rfl⟩) R hn hns hl F q fun c₁ Vs vals s₁ r ⟨items, same, sk, q₁⟩ => ?_))
  have h62 : ((maxLen : Nat) : Int) < 2 ^ 62 := by decide
  cases sk with
  | @range b h1 h2 =>
    obtain ⟨_, rfl, u, rfl⟩ := r.one
    exact call_range_1 (range_at R.hd s₁ (by decide) (by decide) h1 (Int.lt_of_le_of_lt h2 h62) (IsRange.new _ _ _ _ _ _ _) (by rw [rangeSize_one]; split <;> omega) q₁)
  | @range2 a b h1 h2 h3 h4 =>
    obtain ⟨_, _, rfl, ⟨u, rfl⟩, u', rfl⟩ := r.two
    exact call_range_2 (range_at R.hd s₁ (Int.le_trans (by decide) h1) (Int.lt_of_le_of_lt h2 h62) h3 (Int.lt_of_le_of_lt h4 h62) (IsRange.new _ _ _ _ _ _ _) (by rw [rangeSize_one]; split <;> omega) q₁)
theorem src_enum (g : Gnd K.h₀ G fa mg mb) {e : Expr} {a : Ex} {ts : List Expr} {kt : Nat} {pt pf pos : Pos} (hx : freeName G L.env.scope ("enumerate" : Str) = true) (hn : NoStar e) (hl : LOk K L [e] [a]) :
    SrcOk K L (.Call (.Name ("enumerate" : Str) pf) [e] [] pos) .enum [a] (.Tuple ts kt pt) := fun A c ρ Q X R F q => by
  rw [call_eq]
  refine wpAny_bind (name_blt g F hx (by decide) boot_enumerate (call_val (.inl ⟨_, rfl⟩) R hn (noStars_cons hn noStars_nil) hl F q fun c₁ Vs vals s₁ r ⟨items, same, sk, q₁⟩ => ?_))
  cases sk with
  | enum en =>
    obtain ⟨_, rfl, r'⟩ := r.one
    obtain ⟨l, its, z, rfl, el, gl, rr, hz⟩ := Cf.list en r'
    refine call_enumerate_list gl.isList fun h' he hit hsz kk => wpAny_pyIter_enum he ?_
    have n1 : c₁.s.heap.get? (c₁.s.heap.objs.size + 1) = none := get_none (Nat.le_succ _)
    exact .mk (c₁.keep { c₁.s with heap := h' } kk) _ _ _ _ _ (s₁.trans (Cf.keep_stp ⟨rfl, rfl⟩)) q₁ en (itr_enum R.hd (c₁.sim.none₀ n1) (c₁.sim.none₀ none_size) (Nat.succ_ne_self _)) ⟨en, l, .none, el, he, hit⟩ (two (s₁.gone n1) (s₁.gone none_size)) fun h => absurd rfl h
theorem sok_for {t iter : Expr} {p : Pat} {k : SrcT} {as : List Ex} {body : List Stmt} {body' : List Sx} {pos} (x : XR K) (hs : ∀ x, foldedSetIterable iter L.env x = pure x) (ht : CPat L t p) (hi : SrcOk K L iter k as t) (hb : SsOk K L body body') :
    SOk K L (.For t iter body [] pos) (sFor p k as body') := fun A c ρ Q R F q =>
  wpAny_For (wpAny_mono (hi A c ρ (fun items same σ₁ => forW (turnF K.C p body') same items ρ σ₁ Q) _ R F q) (fun _ _ y => wpAny_mono y (fun _ _ z => match z with
    | .mk c₁ _ _ _ _ _ s₁ q₁ _ W st0 hfp _ => codeAny_mono (for_loop x R s₁ hfp W ht hb (F.step s₁) st0 q₁) fun r _ hr => match r, hr with
      | .ok _, hr => hr
      | .error _, hr => hr.came x R.hd) fun _ _ e => e.toE F) fun _ _ e => e.toE F) hs

/-! calls of the text's own functions -/
variable (K) in
/-- behind a call -/
noncomputable def callP (c : Cf K.h₀) (Q : VPost) (X : XPost) : Result → Shared → Prop
  | .ok (.ret v), s => PV c Q v s
  | .ok _, _ => False
  | .error e, s => PX c X e s
variable (K G) in
noncomputable def CSound (fa : Nat → Addr) : Prop := ∀ (x : Str) (i : Nat), G.lookup x = some (.fn i) → ∀ (A : Around) (c : Cf K.h₀) (Vs : List V) (vals : List Value) (Q : VPost) (X : XPost), ROk K A → RelL c.s.heap c.φ Vs vals → K.C i Vs c.σ Q X →
  codeAny K.M A (.call (.ref (fa i)) ⟨vals, []⟩) (callP K c Q X) c.s
theorem ok_call (g : Gnd K.h₀ G fa mg mb) (hC : CSound K G fa) {x : Str} {i : Nat} {e : Expr} {es : List Expr} {as : List Ex} {pf pos : Pos} (hx : G.lookup x = some (.fn i)) (hk : isGlob L.env.scope x = true) (hd : nameOk x = true) (hn : NoStar e) (hl : LOk K L (e :: es) as) :
    EOk K L (.Call (.Name x pf) (e :: es) [] pos) (xCall i as) := fun A c ρ Q X R F q => by
  rw [call_eq]
  obtain ⟨o, fd, ho, hdat⟩ := g.isfn x i hx
  refine wpAny_bind (name_glob g F (g.fn x i hx) hk (nameOk_1 hd) (callWith_function (o := o) (fd := fd) (args_ok R hn hl F q fun c₁ Vs vals s₁ r q₁ => ?_)))
  exact ⟨⟨c₁.sim.keep _ _ ho, hdat⟩, wpAny_call (codeAny_mono (hC x i hx A c₁ Vs vals Q X R r q₁) fun r _ hr => match r, hr with
    | .ok (.ret _), hr => hr.lift s₁
    | .error _, hr => hr.lift s₁)⟩
end
end Mine

/-! N8 -/
namespace Mine
open PySem PySem.Calls

noncomputable def tyName : Ty → String
  | .int => "int" | .bool => "bool" | .str => "str" | .tuple => "tuple" | .list => "list"
theorem boot_len : bootBuiltins "len" = some (.builtin "len") := by decide +kernel
theorem boot_list : bootBuiltins "list" = some (.type "list") := by decide +kernel
theorem boot_tuple : bootBuiltins "tuple" = some (.type "tuple") := by decide +kernel
theorem boot_sorted : bootBuiltins "sorted" = some (.builtin "sorted") := by decide +kernel
theorem boot_str : bootBuiltins "str" = some (.type "str") := by decide +kernel
theorem boot_int : bootBuiltins "int" = some (.type "int") := by decide +kernel
theorem boot_bool : bootBuiltins "bool" = some (.type "bool") := by decide +kernel
theorem boot_min : bootBuiltins "min" = some (.builtin "min") := by decide +kernel
theorem boot_max : bootBuiltins "max" = some (.builtin "max") := by decide +kernel
theorem boot_isinstance : bootBuiltins "isinstance" = some (.builtin "isinstance") := by decide +kernel
theorem boot_set : bootBuiltins "set" = some (.type "set") := by decide +kernel

section
variable {K : Ctx} {L : Loc} {G : GlT} {fa : Nat → Addr} {mg mb : Str → Option Value}
/-- the functions behind the names -/
noncomputable def prVal : Pr → Value
  | .len => .builtin "len" | .list => .type "list" | .tuple => .type "tuple" | .str => .type "str" | .int => .type "int" | .min => .builtin "min" | .max => .builtin "max" | .isinst _ => .builtin "isinstance"
noncomputable def prArgs : Pr → List Value → List Value
  | .isinst t, vs => vs ++ [.type (tyName t)]
  | _, vs => vs
theorem prim_ok {A : Around} {c : Cf K.h₀} {p : Pr} {Vs : List V} {vals : List Value} {Q : VPost} {E : Value → Shared → Prop} (hh : A.handled = none) (r : RelL c.s.heap c.φ Vs vals) (q : PrimK c.σ Q p Vs) : wpAny K.M A (call (prVal p) (prArgs p vals)) (PV c Q) E c.s := by
  cases q with
  | lenL e q =>
    obtain ⟨v, rfl, r'⟩ := r.one
    obtain ⟨a, items, k, rfl, _, g, rl, z⟩ := Cf.list e r'
    exact call_len_list g.isList (rl.size ▸ size_63 z) (by rw [rl.size]; exact PV.plain rel_int q)
  | lenT hz q =>
    obtain ⟨v, rfl, a, items, n, rfl, g, rl⟩ := r.one
    exact PySem.P.len_tuple g (Int.not_le.mpr (rl.size ▸ size_63 (maxLen_le hz))) (by rw [rl.size]; exact PV.plain rel_int q)
  | list e q =>
    obtain ⟨v, rfl, r'⟩ := r.one
    obtain ⟨a, items, k, rfl, _, g, rl, z⟩ := Cf.list e r'
    exact PySem.call_list_seq (hsz := size_le' (rl.size ▸ z)) a (.inl rfl) g rfl rfl fun h' c' hk hD => PV.list (tk := c.s.toks) rl z none_size hk hD q
  | tuple e q =>
    obtain ⟨v, rfl, r'⟩ := r.one
    obtain ⟨a, items, k, rfl, _, g, rl, z⟩ := Cf.list e r'
    refine call_tuple_list g.isList (fun h' hk => ?_) (size_le' (rl.size ▸ z))
    have st : Stp noOwn c (c.keep { c.s with heap := h' } hk) := Cf.keep_stp ⟨rfl, rfl⟩
    exact (PV.pushT (rl.step st) q).lift st
  | str hb q =>
    obtain ⟨v, rfl, t, rfl⟩ := r.one
    exact PySem.P.str_of_int (Nat.lt_of_lt_of_le (small_log hb) (by decide)) (PV.plain rel_str q)
  | intB q => obtain ⟨v, rfl, rfl⟩ := r.one; exact call_int_bool (PV.plain rel_int q)
  | intS hx hn q => obtain ⟨v, rfl, t, rfl⟩ := r.one; exact W.KIN.call_text hn hx (PV.plain rel_int q)
  | min q =>
    obtain ⟨v, u, rfl, ⟨t, rfl⟩, t', rfl⟩ := r.two
    exact min_two_ints hh fun h' tk k => PV.kept k (by split <;> exact rel_int) q
  | max q =>
    obtain ⟨v, u, rfl, ⟨t, rfl⟩, t', rfl⟩ := r.two
    exact max_two_ints hh fun h' tk k => PV.kept k (by split <;> exact rel_int) q
  | @isB t b q => obtain ⟨v, rfl, rfl⟩ := r.one; cases t <;> first | exact IsiPair.bool_int (PV.same rel_bool q) | exact IsiPair.bool_bool (PV.same rel_bool q) | exact IsiPair.bool_str (PV.plain rel_bool q) | exact IsiPair.bool_tuple (PV.plain rel_bool q) | exact IsiPair.bool_list (PV.plain rel_bool q)
  | @isI t b q => obtain ⟨v, rfl, u, rfl⟩ := r.one; cases t <;> first | exact IsiPair.int_int (PV.same rel_bool q) | exact IsiPair.int_bool (PV.plain rel_bool q) | exact IsiPair.int_str (PV.plain rel_bool q) | exact IsiPair.int_tuple (PV.plain rel_bool q) | exact IsiPair.int_list (PV.plain rel_bool q)
  | @isS t b q => obtain ⟨v, rfl, u, rfl⟩ := r.one; cases t <;> first | exact IsiPair.str_int (PV.plain rel_bool q) | exact IsiPair.str_bool (PV.plain rel_bool q) | exact IsiPair.str_str (PV.same rel_bool q) | exact IsiPair.str_tuple (PV.plain rel_bool q) | exact IsiPair.str_list (PV.plain rel_bool q)
  | @isT t b q =>
    obtain ⟨v, rfl, a, items, n, rfl, g, rl⟩ := r.one
    have hT : c.s.heap.IsTuple a items := ⟨_, g, rfl, n, rfl⟩
    cases t <;> first | exact IsiPair.isTuple_int hT (fun _ _ e => e) (PV.plain rel_bool q) | exact IsiPair.isTuple_bool hT (fun _ _ e => e) (PV.plain rel_bool q) | exact IsiPair.isTuple_str hT (fun _ _ e => e) (PV.plain rel_bool q) | exact IsiPair.isTuple_tuple hT (fun _ _ e => e) (PV.same rel_bool q) | exact IsiPair.isTuple_list hT (fun _ _ e => e) (PV.plain rel_bool q)
  | @isL t _ _ e q =>
    obtain ⟨v, rfl, r'⟩ := r.one
    obtain ⟨a, items, k, rfl, _, g, rl, z⟩ := Cf.list e r'
    have hT := g.isList
    cases t <;> first | exact IsiPair.isList_int hT (fun _ _ e => e) (PV.plain rel_bool q) | exact IsiPair.isList_bool hT (fun _ _ e => e) (PV.plain rel_bool q) | exact IsiPair.isList_str hT (fun _ _ e => e) (PV.plain rel_bool q) | exact IsiPair.isList_tuple hT (fun _ _ e => e) (PV.plain rel_bool q) | exact IsiPair.isList_list hT (fun _ _ e => e) (PV.same rel_bool q)
theorem ok_blt (g : Gnd K.h₀ G fa mg mb) {x : Str} {p : Pr} {e : Expr} {es : List Expr} {as : List Ex} {pf pos : Pos} (hp : ∀ vs, prArgs p vs = vs) (hx : freeName G L.env.scope x = true) (hb : x ∈ bltNames) (hv : bootBuiltins x = some (prVal p))
    (hf : (∃ T, prVal p = .type T) ∨ ∃ T, prVal p = .builtin T) (hn : NoStar e) (hns : NoStars (e :: es)) (hl : LOk K L (e :: es) as) : EOk K L (.Call (.Name x pf) (e :: es) [] pos) (xPrim p as) := fun A c ρ Q X R F q => by
  rw [call_eq]
  exact wpAny_bind (name_blt g F hx hb hv (call_val hf R hn hns hl F q fun c₁ Vs vals s₁ r q₁ => fin s₁ (hp vals ▸ prim_ok R.hd r q₁)))
theorem ok_isinst (g : Gnd K.h₀ G fa mg mb) {x : Str} {ty : Ty} {e : Expr} {a : Ex} {pf pt pos : Pos} (hi : freeName G L.env.scope ("isinstance" : Str) = true) (hx : freeName G L.env.scope x = true) (hb : x ∈ bltNames) (hv : bootBuiltins x = some (.type (tyName ty)))
    (hn : NoStar e) (h : EOk K L e a) : EOk K L (.Call (.Name ("isinstance" : Str) pf) [e, .Name x pt] [] pos) (xPrim (.isinst ty) [a]) := fun A c ρ Q X R F q => by
  rw [call_eq]
  refine wpAny_bind (name_blt g F hi (by decide) boot_isinstance (callWith_builtin (by rw [hn]; rfl) ?_))
  have key : wpAny K.M A (spliced (backTo pos (starEach [e, .Name x pt] L.env))) (fun vals s₁ => wpAny K.M A (call (.builtin "isinstance") ([] ++ vals) []) (PV c Q) (PX c X) s₁) (PX c X) c.s :=
    wpAny_items_cons (seq (.refl c) (h A c ρ _ X R F q) fun c₁ V v s₁ _ r q₁ => wpAny_items_cons (name_blt g (F.step s₁) hx hb hv (wpAny_items_nil (fin s₁ (prim_ok (c := c₁) (Vs := [V]) (vals := [v]) R.hd ⟨r, trivial⟩ q₁))))) (hn _ _)
  rw [hn] at key ⊢
  exact evalArgs_plain key

theorem nodup_inj {α : Type} {l : List α} (h : l.Nodup) {i j : Nat} {a : α} (hi : l[i]? = some a) (hj : l[j]? = some a) : i = j := by
  obtain ⟨hi, ei⟩ := List.getElem?_eq_some_iff.mp hi
  obtain ⟨hj, ej⟩ := List.getElem?_eq_some_iff.mp hj
  rw [List.nodup_iff_pairwise_ne, List.pairwise_iff_getElem] at h
  rcases Nat.lt_trichotomy i j with q | q | q
  · exact absurd (ei.trans ej.symm) (h i j hi hj q)
  · exact q
  · exact absurd (ej.trans ei.symm) (h j i hj hi q)
/-- an object of the store changed -/
theorem Cf.setO {c : Cf K.h₀} {n : Nat} {a : Addr} {o : O} {h' : Heap} {tk : Nat} (ea : c.φ[n]? = some a) (hn0 : n ≠ 0) (hs : Heap.SameBut a c.s.heap h') (hr : ∀ (_ : ∀ Vs us, RelL c.s.heap c.φ Vs us → RelL h' c.φ Vs us), RelO h' c.φ o a) :
    ∃ c' : Cf K.h₀, c'.s = { c.s with heap := h', toks := tk } ∧ c'.φ = c.φ ∧ c'.σ = c.σ.set n o ∧ Stp noOwn c c' := by
  have ma : a ∈ c.φ := List.mem_of_getElem? ea
  have kk : ∀ b ob, b ≠ a → c.s.heap.get? b = some ob → h'.get? b = some ob := fun b ob hb e => (hs.2 b hb).trans e
  have kt : ∀ b items n, c.s.heap.get? b = some { cls := .type "tuple", data := .seq items n } → h'.get? b = some { cls := .type "tuple", data := .seq items n } := fun b items n e => kk b _ (fun q => c.sim.noTup ma items n (q ▸ e)) e
  have hr := hr fun Vs us r => RelL.keep kt (List.prefix_refl _) Vs us r
  have S : Sim K.h₀ h' c.φ (c.σ.set n o) := by
    refine ⟨fun b ob e => kk b ob (fun q => ?_) (c.sim.keep b ob e), by rw [List.length_set]; exact c.sim.len, c.sim.nodup, c.sim.new, fun m ob e => ?_⟩
    · match n, hn0 with
      | n + 1, _ => rw [q, c.sim.new n a ea] at e; cases e
    · by_cases hm : n = m
      · subst hm; exact ⟨a, ea, set_get_self e ▸ hr⟩
      · rw [set_get_ne hm] at e
        obtain ⟨b, eb, r⟩ := c.sim.obj m ob e
        exact ⟨b, eb, r.keep (List.prefix_refl _) kt fun ob e => kk b ob (fun q => hm (nodup_inj c.sim.nodup ea (q ▸ eb))) e⟩
  refine ⟨⟨{ c.s with heap := h', toks := tk }, c.φ, c.σ.set n o, S⟩, rfl, rfl, rfl, ⟨⟨rfl, rfl⟩, List.prefix_refl _, fun b ob hb _ e => kk b ob (fun q => hb (q ▸ ma)) e, fun _ m => .inl m⟩, fun b ob e => ?_⟩
  by_cases hb : b = a
  · subst hb; exact match hr.there with | .mk o' e' _ _ _ _ => ⟨o', e'⟩
  · exact ⟨ob, kk b ob hb e⟩
theorem append_ok {A : Around} {c : Cf K.h₀} {V W : Mine.V} {v u : Value} {Q : VPost} {E : Value → Shared → Prop} (r : Rel c.s.heap c.φ V v) (r' : Rel c.s.heap c.φ W u) (q : AppK c.σ Q W V) : wpAny K.M A (call (.builtin "list.append") [v, u]) (PV c Q) E c.s := by
  cases q with
  | mk en hz hn q =>
    obtain ⟨a, items, k, rfl, ea, g, rl, z⟩ := Cf.list en r
    refine wpAny_list_append_plain ⟨k, g⟩ (fun h' hp hs => ?_) (size_le (Nat.le_of_lt (rl.size ▸ hz)))
    obtain ⟨k', e'⟩ := hp
    obtain ⟨c', e1, e2, e3, st⟩ := Cf.setO (o := .list _) (tk := c.s.toks) ea hn hs fun keep => ⟨_, k', e', by rw [Array.toList_push]; exact (keep _ _ rl).append (keep [W] [u] ⟨r', trivial⟩), by rw [List.length_append]; exact maxLen_le hz⟩
    exact e1 ▸ .mk c' .none st rel_none (e3 ▸ q)
theorem ok_append {o e : Expr} {a b : Ex} {apos pos : Pos} (hbase : ∀ env, attributeBase o ("append" : Str) env (eval o env) = eval o env) (hline : (apos.endLine == pos.line) = true) (hn : NoStar e)
    (ho : EOk K L o a) (he : EOk K L e b) : EOk K L (.Call (.Attribute o ("append" : Str) apos) [e] [] pos) (xApp a b) := fun A c ρ Q X R F q =>
  wpAny_Call_append (hbase L.env) (by rw [hn]; rfl) hline (by rw [hn]; rfl) (seq (.refl c) (ho A c ρ _ X R F q) fun c₁ V v s₁ _ r₁ q₁ => by
    obtain ⟨⟨n, us, rfl, en⟩, q₁⟩ := q₁
    obtain ⟨l, items, k, rfl, el, gl, rr, hz⟩ := Cf.list en r₁
    exact ⟨l, items, rfl, ⟨_, k, gl, rfl, rfl, rfl⟩, seq s₁ (he A c₁ ρ _ X R (F.step s₁) q₁) fun c₂ W u s₂ t₂ r₂ q₂ => fin s₂ (append_ok (r₁.step t₂) r₂ q₂)⟩)

theorem relL_set {h : Heap} {φ : List Addr} {v : V} {u : Value} : ∀ {Vs : List V} {us : List Value}, RelL h φ Vs us → Rel h φ v u → ∀ j, RelL h φ (Vs.set j v) (us.set j u)
  | [], [], r, _, _ => r
  | _ :: _, _ :: _, r, q, 0 => ⟨q, r.2⟩
  | _ :: _, _ :: _, r, q, j + 1 => ⟨r.1, relL_set r.2 q j⟩
theorem set_ok {A : Around} {c : Cf K.h₀} {o i v : V} {ov iv u : Value} {E : Value → Shared → Prop} {T : Store → Prop} {P : Unit → Shared → Prop} (ro : Rel c.s.heap c.φ o ov) (ri : Rel c.s.heap c.φ i iv) (rv : Rel c.s.heap c.φ v u)
    (q : SetK c.σ T v o i) (h : ∀ c' : Cf K.h₀, Stp noOwn c c' → T c'.σ → P () c'.s) : wpAny K.M A (setItem ov iv u) P E c.s := by
  cases q with
  | @mk n vs k en hn hk q =>
    obtain ⟨a, items, z, rfl, ea, g, rl, hz⟩ := Cf.list en ro
    obtain ⟨t, rfl⟩ := ri
    have gg : c.s.heap.get? a = some (PySem.W.listOf items z) := g
    refine PySem.W.ki_setAt gg (Int.natCast_nonneg k) (size_63 (Nat.le_trans (Nat.le_of_lt hk) hz)) (by rw [rl.size]; exact Int.ofNat_lt.mpr hk) ?_
    obtain ⟨c', e1, e2, e3, st⟩ := Cf.setO (c := c) (o := .list (vs.set k v)) (tk := c.s.toks) ea hn (Heap.SameBut.update ..) fun keep => ⟨_, _, PySem.IsL.update g (·.setIfInBounds k u), by rw [Array.toList_setIfInBounds]; exact keep _ _ (relL_set rl rv k), by rw [List.length_set]; exact hz⟩
    exact e1 ▸ h c' st (e3 ▸ q)
theorem sok_item {o i value : Expr} {a b e : Ex} {pos' pos : Pos} (hs : swapsWith value (some (.Subscript o i pos')) pos.line L.env = pure false) (ho : EOk K L o a) (hi : EOk K L i b) (hv : EOk K L value e) : SOk K L (.Assign [.Subscript o i pos'] value pos) (sItem a b e) := fun A c ρ Q R F q =>
  wpAny_Assign_Subscript (inS2 (.refl c) F (hv A c ρ _ _ R F q) fun c₁ _ _ s₁ _ r₁ q₁ => inS2 s₁ F (ho A c₁ ρ _ _ R (F.step s₁) q₁) fun c₂ _ _ s₂ t₂ r₂ q₂ => inS2 s₂ F (hi A c₂ ρ _ _ R (F.step s₂) q₂) fun c₃ _ _ s₃ t₃ r₃ q₃ =>
    set_ok (r₂.step t₃) r₃ ((r₁.step t₂).step t₃) q₃ fun c₄ s₄ q₄ => .next c₄ ρ (s₃.trans s₄).any (F.step (s₃.trans s₄)) q₄) hs

/-! slices -/
theorem push_at2 {h : Heap} {o o' : Obj} (k : o'.isFreed = false := by rfl) : ((h.push o).push o').get? (h.objs.size + 1) = some o' := by rw [← Heap.size_push h o]; exact Heap.get?_push_size _ k
theorem bound_ok {h : Heap} {φ : List Addr} {n d : Nat} : ∀ {o : Option V} {z : Nat} {v : Value}, BoundK n d o z → Rel h φ (o.getD .none) v → ∃ a, IsPart v a ∧ (match a with | none => (d : Int) | some i => max 0 (min (if i < 0 then i + n else i) n)) = (z : Int)
  | _, _, _, .no, r => ⟨none, by cases r; exact .none, rfl⟩
  | _, _, _, .pos (i := i) _ hj, ⟨t, e⟩ => ⟨some i, e ▸ .int _ t, by subst hj; show max 0 (min (if (i : Int) < 0 then _ else _) _) = _; rw [if_neg (Int.not_lt.mpr (Int.natCast_nonneg i))]; omega⟩
  | _, _, _, .neg (i := i) h0 _ hj, ⟨t, e⟩ => ⟨some i, e ▸ .int _ t, by subst hj; show max 0 (min (if i < 0 then _ else _) _) = _; rw [if_pos h0]; omega⟩
theorem bounds_ok {h : Heap} {φ : List Addr} {lo hi : Option V} {n x y : Nat} {vl vu : Value} (hx : BoundK n 0 lo x) (hy : BoundK n n hi y) (rl : Rel h φ (lo.getD .none) vl) (ru : Rel h φ (hi.getD .none) vu) :
    ∃ a b, IsPart vl a ∧ IsPart vu b ∧ sliceBounds a b none n = ((x : Int), (y : Int), 1) := by
  obtain ⟨a, pa, ea⟩ := bound_ok hx rl
  obtain ⟨b, pb, eb⟩ := bound_ok hy ru
  refine ⟨a, b, pa, pb, ?_⟩
  rw [← ea, ← eb]
  cases a <;> cases b <;> rfl
theorem relL_drop {h : Heap} {φ : List Addr} : ∀ {Vs : List V} {us : List Value} (n : Nat), RelL h φ Vs us → RelL h φ (Vs.drop n) (us.drop n)
  | _, _, 0, r => r
  | [], [], _ + 1, r => r
  | _ :: _, _ :: _, n + 1, r => relL_drop n r.2
theorem relL_take {h : Heap} {φ : List Addr} : ∀ {Vs : List V} {us : List Value} (n : Nat), RelL h φ Vs us → RelL h φ (Vs.take n) (us.take n)
  | _, _, 0, _ => trivial
  | [], [], _ + 1, r => r
  | _ :: _, _ :: _, n + 1, r => ⟨r.1, relL_take n r.2⟩
variable (K L) in
noncomputable def OOk (e : Option Expr) (a : Option Ex) : Prop :=
  ∀ (A : Around) (c : Cf K.h₀) (ρ : List V) (Q : Option V → Store → Prop) (X : XPost), ROk K A → Fr c L ρ → evo a K.C ρ c.σ Q X → wpAny K.M A (evalPart e L.env) (PV c fun x σ => ∃ o, x = Option.getD o .none ∧ Q o σ) (PX c X) c.s
theorem ook_none : OOk K L none none := fun _ c _ _ _ _ _ q => wpAny_pure (.mk c .none (.refl c) rel_none ⟨none, rfl, q⟩)
theorem ook_some {e : Expr} {a : Ex} (h : EOk K L e a) : OOk K L (some e) (some a) := fun A c ρ Q X R F q => by
  rw [evalPart_some]
  exact seq (.refl c) (h A c ρ _ X R F q) fun c₁ V _ s₁ _ r q₁ => .mk c₁ V s₁ r ⟨some V, rfl, q₁⟩
theorem ok_slice {value : Expr} {lo hi : Option Expr} {a : Ex} {x y : Option Ex} {p pos : Pos} (ht : ∀ o r, letTemporaryGo value o r = pure ()) (hv : EOk K L value a) (hl : OOk K L lo x) (hh : OOk K L hi y) : EOk K L (.Subscript value (.Slice lo hi none p) pos) (xSlice a x y) := fun A c ρ Q X R F q =>
  wpAny_Subscript_list_slice (seq (.refl c) (hv A c ρ _ X R F q) fun c₁ V u s₁ _ r₁ q₁ => seq s₁ (hl A c₁ ρ _ X R (F.step s₁) q₁) fun c₂ V₂ vl s₂ t₂ r₂ ⟨lv, e₂, q₂⟩ => seq s₂ (hh A c₂ ρ _ X R (F.step s₂) q₂) fun c₃ V₃ vu s₃ t₃ r₃ ⟨hv, e₃, q₃⟩ => by
    subst e₂ e₃
    have r₁ := (r₁.step t₂).step t₃
    cases q₃ with
    | list en hx hy q =>
      obtain ⟨l, items, k, rfl, _, g, rL, z⟩ := Cf.list en r₁
      rw [← rL.size] at hx hy
      obtain ⟨pa, pb, p1, p2, hb⟩ := bounds_ok hx hy (r₂.step t₃) r₃
      refine ⟨l, items, pa, pb, rfl, g.isList, size_le' (rL.size ▸ z), p1, p2, PV.lift s₃ (PV.list (tk := c₃.s.toks) ?_ ?_ (get_none (Nat.le_succ _)) push_keep2 push_at2 q)⟩
      · show RelL _ _ _ (slicePick items pa pb none).toList
        unfold slicePick
        rw [hb]
        simp only [sliceRange_one, pick_run]
        unfold cut
        rw [List.drop_take]
        exact relL_take _ (relL_drop _ rL)
      · unfold cut; rw [List.length_drop, List.length_take]; omega) ht
end
end Mine

/-! N9 -/
namespace Mine
open PySem PySem.Calls
set_option genSizeOf false
set_option genInjectivity false

noncomputable def slotsFrom : Nat → List Str → Vs
  | _, [] => []
  | n, x :: r => (x, n) :: slotsFrom (n + 1) r
theorem slots_get : ∀ (xs : List Str) (n : Nat) {x : Str} {i : Nat}, (slotsFrom n xs).lookup x = some i → ∃ j, i = n + j ∧ xs[j]? = some x
  | y :: r, n, x, i, h => by
    rw [slotsFrom, List.lookup_cons] at h
    cases e : x == y with
    | true => rw [e] at h; exact ⟨0, (Option.some.inj h).symm, congrArg some (beq_iff_eq.mp e).symm⟩
    | false => rw [e] at h; obtain ⟨j, h1, h2⟩ := slots_get r (n + 1) h; exact ⟨j + 1, h1.trans (by rw [Nat.add_assoc, Nat.add_comm 1]), h2⟩
theorem slots_at {xs : List Str} {x : Str} {i : Nat} (h : (slotsFrom 0 xs).lookup x = some i) : xs[i]? = some x := let ⟨_, e, q⟩ := slots_get xs 0 h; (e.trans (Nat.zero_add _)) ▸ q

theorem bindL_out {k : Str → Option NameKind} : ∀ (ps : List Str) (vs : List Value) (m : Str → Option Value) {x : Str}, x ∉ ps → bindL k (ps.zip vs) m x = m x
  | [], _, _, _, _ => rfl
  | _ :: _, [], _, _, _ => rfl
  | p :: ps, v :: vs, m, x, h => by
    rw [List.zip_cons_cons, bindL, bindL_out ps vs _ (fun hh => h (List.mem_cons_of_mem _ hh))]
    split
    · exact if_neg (show ¬ x = p from fun e => h (e ▸ List.mem_cons_self))
    · rfl
theorem bindC_out {k : Str → Option NameKind} : ∀ (ps : List Str) (vs : List Value) (m : Str → Option Value) {x : Str}, x ∉ ps → bindC k (ps.zip vs) m x = m x
  | [], _, _, _, _ => rfl
  | _ :: _, [], _, _, _ => rfl
  | p :: ps, v :: vs, m, x, h => by
    rw [List.zip_cons_cons, bindC, bindC_out ps vs _ (fun hh => h (List.mem_cons_of_mem _ hh))]
    split
    · rfl
    · exact if_neg (show ¬ x = p from fun e => h (e ▸ List.mem_cons_self))
theorem bindL_get {k : Str → Option NameKind} : ∀ (ps : List Str) (vs : List Value) (m : Str → Option Value) {i : Nat} {x : Str} {v : Value}, ps.Nodup → ps[i]? = some x → vs[i]? = some v → k x = some .local → bindL k (ps.zip vs) m x = some v
  | p :: ps, u :: vs, m, 0, x, v, hnd, h, h', hk => by
    cases h; cases h'
    rw [List.zip_cons_cons, bindL, bindL_out ps vs _ (List.nodup_cons.mp hnd).1, if_pos hk, if_pos rfl]
  | p :: ps, u :: vs, m, i + 1, x, v, hnd, h, h', hk => by
    rw [List.zip_cons_cons, bindL]
    exact bindL_get ps vs _ (List.nodup_cons.mp hnd).2 h h' hk
theorem bindC_get {k : Str → Option NameKind} : ∀ (ps : List Str) (vs : List Value) (m : Str → Option Value) {i : Nat} {x : Str} {v : Value}, ps.Nodup → ps[i]? = some x → vs[i]? = some v → k x ≠ some .local → bindC k (ps.zip vs) m x = some v
  | p :: ps, u :: vs, m, 0, x, v, hnd, h, h', hk => by
    cases h; cases h'
    rw [List.zip_cons_cons, bindC, bindC_out ps vs _ (List.nodup_cons.mp hnd).1, if_neg hk, if_pos rfl]
  | p :: ps, u :: vs, m, i + 1, x, v, hnd, h, h', hk => by
    rw [List.zip_cons_cons, bindC]
    exact bindC_get ps vs _ (List.nodup_cons.mp hnd).2 h h' hk
theorem cells_some : ∀ (names : List (Str × NameKind)) (n : Nat) (acc : List (Str × Addr)) {x : Str}, (acc.lookup x).isSome = true ∨ (x, NameKind.cell) ∈ names → ((cellsFrom n names acc).lookup x).isSome = true
  | [], _, _, _, h => h.elim id fun h => nomatch h
  | (y, k) :: r, n, acc, x, h => by
    rw [cellsFrom]
    cases hk : k == NameKind.cell with
    | false => exact cells_some r n acc (h.imp id fun m => (List.mem_cons.mp m).resolve_left fun e => by cases e; cases hk)
    | true =>
      refine cells_some r (n + 1) _ ?_
      rw [List.lookup_cons]
      cases e : x == y with
      | true => exact .inl rfl
      | false => exact h.imp id fun m => (List.mem_cons.mp m).resolve_left fun e' => by cases e'; rw [beq_self_eq_true] at e; cases e

/-- a def's own names: its parameters first -/
noncomputable def ownOf (sc : Scope) : List Str := (sc.names.filter fun x => (x.2 == .local || x.2 == .cell) && x.1 != (".0" : Str)).map (·.1)
noncomputable def ownNames (ps : List Str) (sc : Scope) : List Str := ps ++ (ownOf sc).filter fun x => !ps.contains x
noncomputable def isOwn (sc : Scope) (x : Str) : Bool := match sc.names.lookup x with
  | some .local | some .cell => true
  | _ => false
theorem isOwn_kind {sc : Scope} {x : Str} (h : isOwn sc x = true) : sc.names.lookup x = some .local ∨ sc.names.lookup x = some .cell := by
  unfold isOwn at h
  split at h
  · exact .inl ‹_›
  · exact .inr ‹_›
  · cases h
/-- a def that can be walked -/
structure DefOk (scope : Scope) (args : List Str) : Prop where
  nodup : args.Nodup
  own : ∀ x ∈ ownNames args scope, isOwn scope x = true
  kind : scope.kind = .function
  co : scope.isCoroutine = false
  gen : scope.isGenerator = false
noncomputable abbrev slotsOf (args : List Str) (sc : Scope) : Vs := slotsFrom 0 (ownNames args sc)
theorem slot_val {h₀ : Heap} {c c' : Cf h₀} {ps xs : List Str} {Vs : List V} {vals : List Value} {i k : Nat} {x : Str} {ov : Option Value} (hl : ps.length = Vs.length) (rl : RelL c.s.heap c.φ Vs vals) (hx : (ps ++ xs)[i]? = some x) (st : WStp noOwn c c')
    (h : ∀ v, ps[i]? = some x → vals[i]? = some v → ov = some v) : SlotIs c' (Vs ++ List.replicate k V.undef) i ov := fun W hW hne => by
  have hi : i < Vs.length := Nat.lt_of_not_le fun h => hne (by
    rw [List.getElem?_append_right h, List.getElem?_replicate] at hW
    split at hW
    · exact (Option.some.inj hW).symm
    · cases hW)
  rw [List.getElem?_append_left hi] at hW
  rw [List.getElem?_append_left (hl ▸ hi)] at hx
  obtain ⟨v, e, r⟩ := rl.get hW
  exact ⟨v, h v hx e, r.own st fun _ f => f.elim⟩

section
variable {K : Ctx}
theorem call_frame {c : Cf K.h₀} {s₁ : Shared} {fd : FuncData} {a : Addr} {args : List Str} {Vs : List V} {vals : List Value} {k : Nat} (D : DefOk fd.scope args) (hg : fd.globals = mainGlobals) (hb : fd.builtins = builtinsNs) (rl : RelL c.s.heap c.φ Vs vals) (hl : args.length = Vs.length)
    (x : InCallC c.s (callEnvC fd c.s.heap.objs.size a).locals (bindL (callEnvC fd c.s.heap.objs.size a).kindOf (args.zip vals) fun _ => none) (callEnvC fd c.s.heap.objs.size a).cells (bindC (callEnvC fd c.s.heap.objs.size a).kindOf (args.zip vals) fun _ => none) s₁) :
    Fr (c.keep s₁ x.toInCall.keep) ⟨callEnvC fd c.s.heap.objs.size a, slotsOf args fd.scope⟩ (Vs ++ List.replicate k V.undef) := by
  have st : WStp noOwn c (c.keep s₁ x.toInCall.keep) := by
    obtain ⟨h₁, tk, rfl, _⟩ := x.done
    exact (Cf.keep_stp (c := c) (k := x.toInCall.keep) ⟨rfl, rfl⟩).toWStp
  exact {
    fn := D.kind
    glob := hg
    blt := hb
    locNew := c.sim.none₀ none_size
    locOut := c.sim.out none_size
    inj := fun y z i hy hz => Option.some.inj ((slots_at hy).symm.trans (slots_at hz))
    ns := .mk _ x.toInCall.ns fun y i hy hk => slot_val hl rl (slots_at hy) st fun v h1 h2 => bindL_get _ _ _ D.nodup h1 h2 hk
    cell := fun y i hy hk => by
      have hget := slots_at hy
      have hc : fd.scope.names.lookup y = some .cell := (isOwn_kind (D.own y (List.mem_of_getElem? hget))).resolve_left fun e => by
        rw [show (callEnvC fd c.s.heap.objs.size a).kindOf y = _ from e] at hk
        rcases hk with q | q <;> cases q
      obtain ⟨b, ec⟩ := Option.isSome_iff_exists.mp (cells_some fd.scope.names (c.s.heap.objs.size + 1) [] (.inr (mem_of_lookup hc)))
      have ec' : (callEnvC fd c.s.heap.objs.size a).cells.lookup y = some b := ec
      have n : c.s.heap.get? b = none := get_none (Nat.le_of_lt (x.above y b (mem_of_lookup ec')))
      exact .mk b _ ec' (c.sim.out n) (c.sim.none₀ n) (x.cell y b ec') (slot_val hl rl hget st fun v h1 h2 => bindC_get _ _ _ D.nodup h1 h2 (by rw [show (callEnvC fd c.s.heap.objs.size a).kindOf y = _ from hc]; exact nofun))
    cellInj := fun y z i j b _ _ h1 h2 => name_of_addr x.apart (mem_of_lookup h1) (mem_of_lookup h2) }

/-- a call, from its body -/
theorem call_ok {K : Ctx} (X₀ : XR K) {d : Nat} (hd : K.d = d) {A : Around} {c : Cf K.h₀} {fd : FuncData} {a : Addr} {o : Obj} {args : List Arg} {Vs : List V} {vals : List Value} {k : Nat} {body : List Stmt} {body' : List Sx} {Q : VPost} {X : XPost}
    (hp : fd.params = ⟨[], args, none, [], [], none, []⟩) (D : DefOk fd.scope (args.map (·.arg))) (hg : fd.globals = mainGlobals) (hb : fd.builtins = builtinsNs) (hbody : fd.body = .stmts body) (hclo : fd.closure = []) (hdf : fd.defaults = .none)
    (R : A.handled = none ∧ A.depth + (d + 1) < 900 ∧ A.units + 3 * (d + 1) < 9000) (ho : c.s.heap.get? a = some o) (hdat : o.data = .func fd) (hlim : c.s.heap.NoLimit) (hcd : c.s.heap.CodeRec fd.code fd.qualname) (rl : RelL c.s.heap c.φ Vs vals) (hl : (args.map (·.arg)).length = Vs.length)
    (hB : ∀ env, env.scope = fd.scope → env.code = fd.code → SsOk K ⟨env, slotsOf (args.map (·.arg)) fd.scope⟩ body body') (q : sSeq body' K.C (Vs ++ List.replicate k V.undef) c.σ (retK Q X)) : codeAny K.M A (.call (.ref a) ⟨vals, []⟩) (callP K c Q X) c.s := by
  obtain ⟨hh, hdep, hun⟩ := R
  have hroom : A.depth < recursionLimit := Nat.lt_of_lt_of_le (Nat.lt_of_le_of_lt (Nat.le_add_right _ _) hdep) (by decide)
  refine codeAny_call_cells (binds := (args.map (·.arg)).zip vals) hroom ho hdat hlim hcd hbody (bindArgs_plain hp hdf (hl.trans rl.length) D.nodup) hclo (fun y hy => ?_) (fun s₁ x => ?_) D.co D.gen D.kind
  · exact (isOwn_kind (D.own y.1 (List.mem_append_left _ (List.of_mem_zip hy).1))).imp id fun e => ⟨e, cells_some _ _ _ (.inr (mem_of_lookup e))⟩
  · have F := call_frame (k := k) (a := a) D hg hb rl hl x
    have st₀ : Stp noOwn c (c.keep s₁ x.toInCall.keep) := by
      obtain ⟨h₁, tk, rfl, _⟩ := x.done
      exact Cf.keep_stp ⟨rfl, rfl⟩
    have new : ∀ b, Loc.own ⟨callEnvC fd c.s.heap.objs.size a, slotsOf (args.map (·.arg)) fd.scope⟩ b → c.s.heap.get? b = none
      | _, .inl e => e ▸ none_size
      | b, .inr ⟨y, i, _, _, ec⟩ => get_none (Nat.le_of_lt (x.above y b (mem_of_lookup ec)))
    have R' : ROk K (A.deeper (callEnvC fd c.s.heap.objs.size a)) := ⟨hh, by rw [hd]; show A.depth + 1 + d < 900; omega, by rw [hd]; show A.units + 3 + 3 * d < 9000; omega⟩
    refine wpAny_mono (hB _ rfl rfl _ (c.keep s₁ x.toInCall.keep) _ _ R' F q) (fun f s' y => ?_) fun e s' y => ?_
    · exact match y with
      | .next c' _ st _ q => .mk c' .none (st₀.transNew st.toWStp new) rel_none q
      | .ret c' _ V _ st _ r q => .mk c' V (st₀.transNew st.toWStp new) r q
      | .brk _ _ _ _ q => q.elim
      | .cont _ _ _ _ q => q.elim
    · exact match y with
      | .mk c' ρ' k a n o st F' ex q => X₀.leave (P := fun e s => PX c X e s) R'.hd F' ex o (c.sim.none₀ (st₀.gone n)) fun c'' e1 e2 st' ex' => .mk c'' k a (st₀.gone n) (e1 ▸ o) ((st₀.transNew st.toWStp new).transNew st' fun _ e => e ▸ st₀.gone n) ex' (e2 ▸ q)
end
end Mine

/-! N10 -/
namespace Mine
open PySem PySem.Calls
set_option genSizeOf false
set_option genInjectivity false

/-- the cells that a comprehension takes along -/
noncomputable def clGo (env : Env) : List (Str × NameKind) → List (Str × Addr) → List (Str × Addr)
  | [], acc => acc
  | (n, k) :: r, acc => if k == .free then clGo env r ((n, (env.cells.lookup n).getD 0) :: acc) else clGo env r acc
theorem closure_go {env : Env} : ∀ (names : List (Str × NameKind)) (acc : List (Str × Addr)), (∀ y ∈ names, y.2 = .free → ∃ a, env.cells.lookup y.1 = some a) →
    (forIn names acc fun x cs => (if x.2 == NameKind.free then do let a ← cellOf env x.1; pure (ForInStep.yield ((x.1, a) :: cs)) else pure (ForInStep.yield cs) : Sem (ForInStep (List (Str × Addr))))) = pure (clGo env names acc)
  | [], _, _ => rfl
  | (n, k) :: r, acc, hh => by
    rw [List.forIn_cons, clGo]
    dsimp only
    cases hk : k == NameKind.free with
    | false => exact closure_go r acc fun y hy => hh y (List.mem_cons_of_mem _ hy)
    | true =>
      obtain ⟨a, ha⟩ := hh (n, k) List.mem_cons_self (beq_iff_eq.mp hk)
      rw [if_pos rfl, if_pos rfl, show cellOf env n = pure a by unfold cellOf; rw [ha], ha]
      exact closure_go r _ fun y hy => hh y (List.mem_cons_of_mem _ hy)
theorem closure_ok {env : Env} {sc : Scope} (h : ∀ y ∈ sc.names, y.2 = .free → ∃ a, env.cells.lookup y.1 = some a) : closureFor sc env = pure (clGo env sc.names []) := by
  exact congrArg (fun m : Sem (List (Str × Addr)) => m >>= pure) (closure_go sc.names [] h)
theorem clGo_acc (env : Env) : ∀ (names : List (Str × NameKind)) (acc : List (Str × Addr)) (y : Str), (∀ p ∈ acc, p.2 = (env.cells.lookup p.1).getD 0) → (acc.lookup y).isSome = true ∨ (y, NameKind.free) ∈ names →
    (clGo env names acc).lookup y = some ((env.cells.lookup y).getD 0)
  | [], acc, y, ha, h => by
    obtain ⟨a, hc⟩ := Option.isSome_iff_exists.mp (h.resolve_right fun h => nomatch h)
    exact hc.trans (congrArg some (ha (y, a) (mem_of_lookup hc)))
  | (n, k) :: r, acc, y, ha, h => by
    rw [clGo]
    cases hk : k == NameKind.free with
    | false => exact clGo_acc env r acc y ha (h.imp id fun m => (List.mem_cons.mp m).resolve_left fun e => by cases e; cases hk)
    | true =>
      refine clGo_acc env r _ y (fun p hp => (List.mem_cons.mp hp).elim (fun e => e ▸ rfl) (ha p)) ?_
      rw [List.lookup_cons]
      cases e : y == n with
      | true => exact .inl rfl
      | false => exact h.imp id fun m => (List.mem_cons.mp m).resolve_left fun e' => by cases e'; rw [beq_self_eq_true] at e; cases e
theorem clGo_none (env : Env) : ∀ (names : List (Str × NameKind)) (acc : List (Str × Addr)) (y : Str), acc.lookup y = none → (y, NameKind.free) ∉ names → (clGo env names acc).lookup y = none
  | [], _, _, h, _ => h
  | (n, k) :: r, acc, y, h, hn => by
    rw [clGo]
    cases hk : k == NameKind.free with
    | false => exact clGo_none env r acc y h fun m => hn (List.mem_cons_of_mem _ m)
    | true =>
      refine clGo_none env r _ y ?_ fun m => hn (List.mem_cons_of_mem _ m)
      rw [List.lookup_cons, beq_eq_false_iff_ne.mpr fun e => hn (by rw [e, ← beq_iff_eq.mp hk]; exact List.mem_cons_self)]
      exact h
theorem lookup_relabel {env : Env} {x : Str} : ∀ (names : List (Str × NameKind)),
    (names.map fun (n, k) => if (k == NameKind.free && env.scope.kind == .function && env.kindOf n == some .cell) then (n, NameKind.cell) else (n, k)).lookup x =
    (names.lookup x).map fun k => if (k == NameKind.free && env.scope.kind == .function && env.kindOf x == some .cell) then NameKind.cell else k
  | [] => rfl
  | (n, k) :: r => by
    have ih := lookup_relabel (env := env) (x := x) r
    show List.lookup x ((if (k == NameKind.free && env.scope.kind == .function && env.kindOf n == some .cell) = true then (n, NameKind.cell) else (n, k)) :: _) = Option.map _ (List.lookup x ((n, k) :: r))
    by_cases hc : (k == NameKind.free && env.scope.kind == .function && env.kindOf n == some .cell) = true
    · rw [if_pos hc, List.lookup_cons, List.lookup_cons]
      cases e : x == n with
      | true => rw [beq_iff_eq.mp e]; exact congrArg some (if_pos hc).symm
      | false => exact ih
    · rw [if_neg hc, List.lookup_cons, List.lookup_cons]
      cases e : x == n with
      | true => rw [beq_iff_eq.mp e]; exact congrArg some (if_neg hc).symm
      | false => exact ih
theorem relabel_lookup {env : Env} {sc : Scope} {x : Str} : (relabel sc env).names.lookup x = (sc.names.lookup x).map fun k => if (k == NameKind.free && env.scope.kind == .function && env.kindOf x == some .cell) then NameKind.cell else k := lookup_relabel sc.names
theorem relabel_free {env : Env} {sc : Scope} {y : Str} (h : sc.names.lookup y = some .free) : (relabel sc env).names.lookup y = some .cell ∨ (relabel sc env).names.lookup y = some .free := by
  rw [relabel_lookup, h, Option.map_some]
  split
  · exact .inl rfl
  · exact .inr rfl

/-- a comprehension's block, in this frame -/
structure CompSc (L : Loc) (sc : Scope) (vs' : Vs) (x : Str) (i : Nat) : Prop where
  kind : sc.kind = .function
  cell : ∀ y ∈ sc.names, y.2 ≠ .cell
  names : ∀ y ∈ sc.names, y.2 = .local → sc.names.lookup y.1 = some .local
  var : sc.names.lookup x = some .local
  once : (x, NameKind.free) ∉ sc.names
  slot : vs'.lookup x = some i
  free : ∀ y ∈ sc.names, y.2 = .free → ∃ j, L.vs.lookup y.1 = some j ∧ (L.env.kindOf y.1 = some .cell ∨ L.env.kindOf y.1 = some .free)
  vars : ∀ y j, vs'.lookup y = some j → (y = x ∧ j = i) ∨ (y ≠ x ∧ sc.names.lookup y = some .free ∧ L.vs.lookup y = some j ∧ j ≠ i)
/-- its frame -/
noncomputable abbrev compL (L : Loc) (sc : Scope) (vs' : Vs) (C : Addr) : Loc := ⟨compEnvC sc (clGo L.env sc.names []) C L.env, vs'⟩
section
variable {h₀ : Heap} {c c' : Cf h₀} {L : Loc} {ρ : List V} {sc : Scope} {vs' : Vs} {x : Str} {i : Nat} {C : Addr}
theorem comp_kind (cs : CompSc L sc vs' x i) : (compL L sc vs' C).env.kindOf x = some .local := lookup_relabel_local cs.var
theorem comp_cell (cs : CompSc L sc vs' x i) (F : Fr c L ρ) {y : Str} {j : Nat} (hf : sc.names.lookup y = some .free) (hv : L.vs.lookup y = some j) : CellAt c L ρ y j ∧ ∀ a, L.env.cells.lookup y = some a → (clGo L.env sc.names []).lookup y = some a := by
  obtain ⟨j', hv', hk⟩ := cs.free (y, .free) (mem_of_lookup hf) rfl
  cases hv.symm.trans hv'
  exact ⟨F.cell y j hv hk, fun a e => by rw [clGo_acc L.env sc.names [] y (fun _ h => nomatch h) (.inr (mem_of_lookup hf)), e]; rfl⟩
theorem comp_frame (cs : CompSc L sc vs' x i) (F : Fr c L ρ) (st : WStp noOwn c c') {m : Str → Option Value} (n : c'.s.heap.Ns C m) (hC : c.s.heap.get? C = none) (ho : C ∉ c'.φ) : Fr c' (compL L sc vs' C) (ρ.set i .undef) where
  fn := cs.kind
  glob := F.glob
  blt := F.blt
  locNew := c.sim.none₀ hC
  locOut := ho
  inj y z j hy hz := by
    rcases cs.vars y j hy with ⟨rfl, rfl⟩ | ⟨h1, _, h2, h3⟩
    · rcases cs.vars z _ hz with ⟨rfl, _⟩ | ⟨_, _, _, h3⟩
      · rfl
      · exact absurd rfl h3
    · rcases cs.vars z j hz with ⟨rfl, rfl⟩ | ⟨_, _, h4, _⟩
      · exact absurd rfl h3
      · exact F.inj y z j h2 h4
  ns := .mk m n fun y j hy hk => by
    rcases cs.vars y j hy with ⟨rfl, rfl⟩ | ⟨_, hf, _, _⟩
    · exact fun V hV hne => absurd (set_get_self hV).symm hne
    · rcases relabel_free (env := L.env) hf with e | e <;> cases e.symm.trans hk
  cell y j hy hk := by
    rcases cs.vars y j hy with ⟨rfl, rfl⟩ | ⟨_, hf, hv, hj⟩
    · rw [comp_kind cs] at hk; rcases hk with q | q <;> cases q
    · obtain ⟨ca, hl⟩ := comp_cell cs F hf hv
      exact match ca with
      | .mk a ov e1 e2 e3 ic rr => .mk a ov (hl a e1) (let ⟨_, e, _⟩ := ic; st.out e e2) e3 (cell_keep ic fun o e => st.keep _ o e2 (fun f => f) e) ((rr.own st fun _ f => f.elim).other (Ne.symm hj))
  cellInj y z j j' a hy hz h1 h2 := by
    have nx : (clGo L.env sc.names []).lookup x = none := clGo_none L.env sc.names [] x rfl cs.once
    rcases cs.vars y j hy with ⟨rfl, rfl⟩ | ⟨_, hf, hv, _⟩
    · cases nx.symm.trans h1
    · rcases cs.vars z j' hz with ⟨rfl, rfl⟩ | ⟨_, hf', hv', _⟩
      · cases nx.symm.trans h2
      · obtain ⟨⟨a1, _, e1, _⟩, l1⟩ := comp_cell cs F hf hv
        obtain ⟨⟨a2, _, e2, _⟩, l2⟩ := comp_cell cs F hf' hv'
        cases (l1 a1 e1).symm.trans h1
        cases (l2 a2 e2).symm.trans h2
        exact F.cellInj y z j j' _ hv hv' e1 e2
end

section
variable {K : Ctx} {L : Loc}
variable (K L) in
/-- a comprehension's conditions -/
noncomputable def TsOk (es : List Expr) (ts : List Tx) : Prop :=
  ∀ (A : Around) (c : Cf K.h₀) (ρ : List V) (Q : Bool → Store → Prop), ROk K A → Fr c L ρ → tAnd ts K.C ρ c.σ Q noX →
    wpAny K.M A (forIn es true fun e r => if r = true then do let ok ← isTrue e L.env (eval e L.env); pure (ForInStep.yield ok) else pure (ForInStep.yield r)) (PB c Q) (PX c noX) c.s
theorem forIn_no {A : Around} {env : Env} {Q : Bool → Shared → Prop} {E : Value → Shared → Prop} {s : Shared} : ∀ (es : List Expr), Q false s →
    wpAny K.M A (forIn es false fun e r => if r = true then do let ok ← isTrue e env (eval e env); pure (ForInStep.yield ok) else pure (ForInStep.yield r)) Q E s
  | [], h => wpAny_pure h
  | _ :: es, h => by
    rw [List.forIn_cons]
    exact wpAny_bind (wpAny_pure (forIn_no es h))
theorem tsok_nil : TsOk K L [] [] := fun _ c _ _ _ _ q => wpAny_tests_nil (.mk c (.refl c) q)
theorem tsok_cons {e : Expr} {t : Tx} {es : List Expr} {ts : List Tx} (h : TOk K L e t) (hs : TsOk K L es ts) : TsOk K L (e :: es) (t :: ts) := fun A c ρ Q R F q => by
  rw [List.forIn_cons]
  refine wpAny_bind (wpAny_bind (seqb (.refl c) (h A c ρ _ noX R F q) fun c₁ b s₁ _ q₁ => wpAny_pure ?_))
  cases b with
  | false => exact forIn_no es (.mk c₁ s₁ q₁)
  | true => exact finb s₁ (hs A c₁ ρ Q R (F.step s₁) q₁)
/-- no exception comes -/
theorem noPX {c : Cf K.h₀} {P : Prop} {e : Value} {s : Shared} (x : PX c noX e s) : P := absurd x (PX.no fun _ _ f => f)
end
end Mine

/-! N11 -/
namespace Mine
open PySem PySem.Calls
set_option genSizeOf false
set_option genInjectivity false

section
variable {K : Ctx} {L : Loc} {A : Around} {vs' : Vs}
theorem via_pure {α : Type} {M : Model} {P : Shared → Prop} {E E' : Value → Shared → Prop} {s : Shared} {t : Sem α} {Q : α → Shared → Prop} (h : wpAny M A (pure () : Sem Unit) (fun _ s' => P s') E' s)
    (k : P s → wpAny M A t Q E s) : wpAny M A t Q E s := fun Γ p hΓ => k (h Γ p hΓ) Γ p hΓ
/-- a comprehension's list, which is nobody's yet -/
inductive AccAt (c : Cf K.h₀) (D : Addr) (acc : List V) : Prop
  | mk (arr : Array Value) (n : Nat) : D ∉ c.φ → IsL c.s.heap D arr n → RelL c.s.heap c.φ acc arr.toList → AccAt c D acc
theorem AccAt.own {own : Addr → Prop} {c c' : Cf K.h₀} {D : Addr} {acc : List V} (st : WStp own c c') (ht : ∀ a, own a → NoTup c.s.heap a) (hD : ¬ own D) : AccAt c D acc → AccAt c' D acc
  | .mk arr n o e r => .mk arr n (st.out e o) (st.keep D _ o hD e) (r.own st ht)
theorem AccAt.step {c c' : Cf K.h₀} {D : Addr} {acc : List V} (st : Stp noOwn c c') (x : AccAt c D acc) : AccAt c' D acc := x.own st.toWStp (fun _ f => f.elim) fun f => f
theorem AccAt.noIt {c : Cf K.h₀} {D : Addr} {acc : List V} (x : ItOb c.s.heap D) : AccAt c D acc → False
  | .mk _ _ _ e _ => match x with | .mk _ _ e' d _ _ => nomatch d.symm.trans (congrArg Obj.data (Option.some.inj (e'.symm.trans e)))
theorem AccAt.noNs {c : Cf K.h₀} {D : Addr} {acc : List V} {m : Str → Option Value} (n : c.s.heap.Ns D m) : AccAt c D acc → False
  | .mk _ _ _ e _ => let ⟨_, e', _, _, d⟩ := ns_get n; nomatch d.symm.trans (congrArg Obj.data (Option.some.inj (e'.symm.trans e)))
theorem AccAt.noCell {c : Cf K.h₀} {D : Addr} {acc : List V} {v : Option Value} (n : c.s.heap.IsCell D v) : AccAt c D acc → False
  | .mk _ _ _ e _ => let ⟨_, e', d⟩ := n; nomatch d.symm.trans (congrArg Obj.data (Option.some.inj (e'.symm.trans e)))
theorem AccAt.noTup {c : Cf K.h₀} {D : Addr} {acc : List V} : AccAt c D acc → NoTup c.s.heap D
  | .mk _ _ _ e _ => Mine.noTup e list_tuple
/-- between two turns -/
inductive CompI (c : Cf K.h₀) (Lc : Loc) (ρ : List V) (D : Addr) (St : Nat → Cf K.h₀ → Prop) (items : List V) (W : Nat → List V → Store → Prop) (n : Nat) : Shared → Prop
  | mk (c' : Cf K.h₀) (j : Nat) (acc : List V) : j + n = items.length + 1 → j ≤ items.length → Stp noOwn c c' → Fr c' Lc ρ → St j c' → AccAt c' D acc → acc.length ≤ j → W j acc c'.σ → CompI c Lc ρ D St items W n c'.s

theorem comp_turn {c : Cf K.h₀} {ρ : List V} {scope : Scope} {x : Str} {i : Nat} {px : Pos} {elt : Expr} {ifs : List Expr} {a : Ex} {ts : List Tx} {I D C : Addr} {fp : List Addr} {items : List V} {same : Store → Prop} {St : Nat → Cf K.h₀ → Prop} {Qc : List V → Store → Prop} {E : Value → Shared → Prop}
    (R : ROk K A) (cs : CompSc L scope vs' x i) (hfp : ∀ b ∈ fp, c.s.heap.get? b = none) (hD : c.s.heap.get? D = none) (hC : c.s.heap.get? C = none) (W : Itr K A (.Name x px) I fp items same St) (helt : EOk K (compL L scope vs' C) elt a) (hts : TsOk K (compL L scope vs' C) ifs ts) (hz : items.length ≤ maxLen)
    {n j : Nat} {c' : Cf K.h₀} {acc : List V} (hn : j + n = items.length + 1) (hlt : j < items.length) (stp : Stp noOwn c c') (F : Fr c' (compL L scope vs' C) (ρ.set i .undef)) (st : St j c') (ac : AccAt c' D acc) (hal : acc.length ≤ j)
    (q : turnC K.C a i ts ρ items[j] c'.σ fun r σ' => same σ' ∧ compW (turnC K.C a i ts ρ) same (items.drop (j + 1)) (acc ++ r.toList) σ' Qc) :
    wpAny K.M A (pyNext (.ref I)) (fun r s₁ => ∃ v, r = some v ∧ wpAny K.M A (assign (.Name x px) (compL L scope vs' C).env v) (fun _ s₂ => wpAny K.M A (forIn ifs true fun e r => if r = true then do let ok ← isTrue e (compL L scope vs' C).env (eval e (compL L scope vs' C).env); pure (ForInStep.yield ok) else pure (ForInStep.yield r)) (fun ok s₃ =>
        if ok = true then wpAny K.M A (eval elt (compL L scope vs' C).env) (fun y s₄ => wpAny K.M A (call (.builtin "list.append") [.ref D, y]) (fun _ s₅ => ∃ m, m < n ∧ CompI c (compL L scope vs' C) (ρ.set i .undef) D St items (fun j acc σ => compW (turnC K.C a i ts ρ) same (items.drop j) acc σ Qc) m s₅) E s₄) E s₃
        else ∃ m, m < n ∧ CompI c (compL L scope vs' C) (ρ.set i .undef) D St items (fun j acc σ => compW (turnC K.C a i ts ρ) same (items.drop j) acc σ Qc) m s₃) E s₂) E s₁) E c'.s := by
  have mine := W.mine j c' st
  refine wpAny_mono (W.item j items[j] c' (List.getElem?_eq_getElem hlt) st) (fun r s₁ ⟨v, e, y⟩ => ⟨v, e, via_pure y fun z => ?_⟩) fun _ _ e => e.elim
  match z with
  | .mk c₁ e1 e2 s₁ ⟨rl, st₁⟩ =>
  have F₁ := F.iter mine s₁
  have mine₁ := W.mine (j + 1) c₁ st₁
  have ac₁ := ac.own s₁ (fun b m => (mine b m).noTup) fun m => ac.noIt (mine D m)
  have stp₁ := stp.transNew s₁ hfp
  refine wpAny_assign_Name (store_local F₁ cs.slot (comp_kind cs) rl fun c₂ f1 f2 s₂ F₂ => ?_)
  rw [List.set_set] at F₂
  have hns : ∀ b, b = C → NoTup c₁.s.heap b ∧ ∃ m, c₁.s.heap.Ns b m := fun b e => match F₁.ns with | .mk m n _ => e ▸ ⟨noTup_ns n, m, n⟩
  have ac₂ := ac₁.own s₂.toWStp (fun b e => (hns b e).1) fun e => let ⟨m, n⟩ := (hns D e).2; ac₁.noNs n
  have stp₂ := stp₁.transNew s₂.toWStp fun b e => e ▸ hC
  have go : ∀ {c₃ : Cf K.h₀} {acc' : List V}, Stp noOwn c c₃ → WStp (fun b => b = C ∨ b = D) c₁ c₃ → Fr c₃ (compL L scope vs' C) (ρ.set i items[j]) → AccAt c₃ D acc' → acc'.length ≤ j + 1 → same c₃.σ ∧ compW (turnC K.C a i ts ρ) same (items.drop (j + 1)) acc' c₃.σ Qc →
      ∃ m, m < n ∧ CompI c (compL L scope vs' C) (ρ.set i .undef) D St items (fun j acc σ => compW (turnC K.C a i ts ρ) same (items.drop j) acc σ Qc) m c₃.s := fun {c₃ acc'} stp₃ s₃ F₃ ac₃ hl q =>
    ⟨n - 1, by omega, .mk c₃ (j + 1) acc' (by omega) hlt stp₃ F₃.undef (W.frame (j + 1) c₁ c₃ st₁ s₃.pre q.1 (fun b hb o e => s₃.keep b o ((mine₁ b hb).out c₁.sim) (fun m => m.elim (fun m => let ⟨_, n⟩ := (hns b m).2; (mine₁ b hb).notNs n) fun m => ac₁.noIt (m ▸ mine₁ b hb)) e)
      fun V v r => r.own s₃ fun b m => m.elim (fun e => (hns b e).1) fun e => e ▸ ac₁.noTup) ac₃ hl q.2⟩
  refine wpAny_mono (hts A c₂ (ρ.set i items[j]) _ R F₂ (by rw [f2, e2]; exact q)) (fun ok s₃ y => ?_) fun _ _ e => noPX e
  match ok, y with
  | false, .mk c₃ s₃ q₃ =>
    exact go (stp₂.trans s₃) ((s₂.wider fun _ e => .inl e).trans s₃.any).toWStp (F₂.step s₃) (ac₂.step s₃) (Nat.le_succ_of_le hal) (by have q₃ : same c₃.σ ∧ compW (turnC K.C a i ts ρ) same (items.drop (j + 1)) (acc ++ []) c₃.σ Qc := q₃; rw [List.append_nil] at q₃; exact q₃)
  | true, .mk c₃ s₃ q₃ =>
    refine wpAny_mono (helt A c₃ (ρ.set i items[j]) _ noX R (F₂.step s₃) q₃) (fun u s₄ y => ?_) fun _ _ e => noPX e
    match y with
    | .mk c₄ V s₄ r₄ q₄ =>
    have F₄ := (F₂.step s₃).step s₄
    have ac₄ := (ac₂.step s₃).step s₄
    match ac₄ with
    | .mk arr k oD eD rD =>
    refine wpAny_list_append_plain ⟨k, eD⟩ (fun h₅ hp hs => ?_) (size_le (by rw [rD.size]; exact Nat.le_trans hal (Nat.le_trans (Nat.le_of_lt hlt) hz)))
    obtain ⟨k', e'⟩ := hp
    have ho : ∀ b, b = D → NoTup c₄.s.heap b ∧ b ∉ c₄.φ ∧ K.h₀.get? b = none := fun b e => e ▸ ⟨Mine.noTup eD list_tuple, oD, c.sim.none₀ hD⟩
    have s₅ : Stp (· = D) c₄ (c₄.keepOwn { c₄.s with heap := h₅ } (fun b o hb e => (hs.2 b hb).trans e) ho) := Cf.keepOwn_stp ⟨rfl, rfl⟩ fun b _ e _ => e ▸ ⟨_, e'⟩
    have F₅ := F₄.keep s₅.toWStp (fun b e => (ho b e).1) (fun e => match F₄.ns with | .mk _ n _ => ac₄.noNs (e ▸ n)) fun b _ ic e => ac₄.noCell (e ▸ ic)
    refine go (((stp₂.trans s₃).trans s₄).transNew s₅.toWStp fun b e => e ▸ hD) (((s₂.wider fun _ e => .inl e).trans (s₃.trans s₄).any).trans (s₅.wider fun _ e => .inr e)).toWStp F₅ (.mk _ k' oD e' ?_) (by rw [List.length_append]; exact Nat.succ_le_succ hal) q₄
    rw [Array.toList_push]
    exact (rD.own s₅.toWStp fun b e => (ho b e).1).append ⟨r₄.own s₅.toWStp fun b e => (ho b e).1, trivial⟩

/-- what a comprehension has made -/
inductive Made (c : Cf K.h₀) (Qc : List V → Store → Prop) (D C : Addr) : Shared → Prop
  | mk (c' : Cf K.h₀) (acc : List V) (m : Str → Option Value) : Stp noOwn c c' → c.s.heap.get? D = none → c.s.heap.get? C = none → C ∉ c'.φ → c'.s.heap.Ns C m → AccAt c' D acc → acc.length ≤ maxLen → Qc acc c'.σ → Made c Qc D C c'.s
theorem comp_core {c c₂ : Cf K.h₀} {ρ : List V} {scope : Scope} {x : Str} {i : Nat} {px pos : Pos} {elt iter : Expr} {ifs : List Expr} {a : Ex} {ts : List Tx} {I : Addr} {fp : List Addr} {items : List V} {same : Store → Prop} {St : Nat → Cf K.h₀ → Prop} {Qc : List V → Store → Prop}
    {RR : Value → Addr → Result → Shared → Prop} {E : Value → Shared → Prop}
    (R : ROk K A) (F : Fr c L ρ) (st : Stp noOwn c c₂) (cs : CompSc L scope vs' x i) (hfp : ∀ b ∈ fp, c.s.heap.get? b = none) (W : Itr K A (.Name x px) I fp items same St) (self : SelfIt K A I St) (st0 : St 0 c₂) (hsame : same c₂.σ)
    (helt : ∀ C, EOk K (compL L scope vs' C) elt a) (hts : ∀ C, TsOk K (compL L scope vs' C) ifs ts) (hz : items.length ≤ maxLen) (q : compW (turnC K.C a i ts ρ) same items [] c₂.σ Qc) (hfin : ∀ D C s', Made c Qc D C s' → RR (.ref D) C (.ok .next) s') :
    wpAny K.M A (newList []) (fun acc s₃ => wpAny K.M A (newFunctionEnv scope L.env.globals (clGo L.env scope.names []) [] L.env.qual none .none (some L.env)) (fun cenv s₄ =>
      codeAny K.M A (.compStart (.ListComp elt [⟨.Name x px, iter, ifs, 0⟩] scope pos) 0 (.ref I) acc { cenv with scope := relabel scope L.env }) (RR acc cenv.locals) s₄) E s₃) E c₂.s := by
  refine wpAny_newObj_type (wpAny_newFunctionEnv cs.cell (fun _ h => nomatch h) (fun h₁ hns hsb => ?_) cs.kind)
  have nD : c₂.s.heap.get? c₂.s.heap.objs.size = none := none_size
  have nC : c₂.s.heap.get? (c₂.s.heap.push { cls := .type "list", dict := none, data := .seq ([] : List Value).toArray }).objs.size = none := none_size1
  have below : ∀ {b o}, (c₂.s.heap.push { cls := .type "list", dict := none, data := .seq ([] : List Value).toArray }).get? b = some o → b ≠ (c₂.s.heap.push { cls := .type "list", dict := none, data := .seq ([] : List Value).toArray }).objs.size := fun e => Nat.ne_of_lt (Heap.lt_size e)
  have old : ∀ b o, (c₂.s.heap.push { cls := .type "list", dict := none, data := .seq ([] : List Value).toArray }).get? b = some o → h₁.get? b = some o := fun b o e => hsb.extBut b o (below e) (Heap.get?_push_of_some _ e)
  have eD := old _ _ (Heap.get?_push_size c₂.s.heap (o := { cls := .type "list", dict := none, data := .seq ([] : List Value).toArray }) rfl)
  generalize (c₂.s.heap.push { cls := .type "list", dict := none, data := .seq ([] : List Value).toArray }).objs.size = C at hns nC ⊢
  have keep : ∀ b o, c₂.s.heap.get? b = some o → h₁.get? b = some o := fun b o e => old b o (Heap.get?_push_of_some _ e)
  have s₃ : Stp noOwn c₂ (c₂.keep { c₂.s with heap := h₁, toks := c₂.s.toks + ([] : List (Str × Value)).length } keep) := Cf.keep_stp ⟨rfl, rfl⟩
  have F₃ := comp_frame cs (F.step st) s₃.toWStp hns nC (c₂.sim.out nC)
  have h0 : St 0 (c₂.keep { c₂.s with heap := h₁, toks := c₂.s.toks + ([] : List (Str × Value)).length } keep) := W.frame 0 c₂ _ st0 (List.prefix_refl _) hsame (fun b _ o e => keep b o e) fun V v r => r.step s₃
  have loop : codeAny K.M A (.compLoop (.ListComp elt [⟨.Name x px, iter, ifs, 0⟩] scope pos) 0 (.ref I) (.ref c₂.s.heap.objs.size) (compL L scope vs' C).env) (RR (.ref c₂.s.heap.objs.size) C) { c₂.s with heap := h₁, toks := c₂.s.toks + ([] : List (Str × Value)).length } := by
    refine codeAny_compLoop_tests (fun n s' => CompI c (compL L scope vs' C) (ρ.set i .undef) c₂.s.heap.objs.size St items (fun j acc σ => compW (turnC K.C a i ts ρ) same (items.drop j) acc σ Qc) n s') (fun n s' y => ?_) (items.length + 1)
      (.mk _ 0 [] (Nat.zero_add _) (Nat.zero_le _) (st.trans s₃) F₃ h0 (.mk #[] _ (c₂.sim.out nD) eD trivial) (Nat.le_refl _) q)
    match y with
    | .mk c' j acc hn hj stp F' st' ac hal q' =>
    rcases Nat.lt_or_ge j items.length with hlt | hge
    · rw [List.drop_eq_getElem_cons hlt] at q'
      refine wpAny_mono (comp_turn R cs hfp (st.gone nD) (st.gone nC) W (helt C) (hts C) hz hn hlt stp F' st' ac hal q') (fun r s₁ ⟨v, e, z⟩ => ?_) fun _ _ e => e
      subst e; exact z
    · cases Nat.le_antisymm hj hge
      rw [List.drop_length] at q'
      refine wpAny_mono (W.done c' st') (fun r s₁ ⟨e, z⟩ => ?_) fun _ _ e => e.elim
      subst e
      exact match z with
      | .mk c₁ e1 e2 s₁ _ => have mine := W.mine _ c' st'; have F₁ := F'.iter mine s₁
        match F₁.ns with
        | .mk m n _ => hfin _ C _ (.mk c₁ acc m (stp.transNew s₁ hfp) (st.gone nD) (st.gone nC) F₁.locOut n (ac.own s₁ (fun b m => (mine b m).noTup) fun m => ac.noIt (mine _ m)) (Nat.le_trans hal hz) (e2 ▸ q'))
  refine codeAny_compStart_list loop (wpAny_mono (self 0 _ h0) (fun v s₁ ⟨e1, e2⟩ => ?_) fun _ _ e => e.elim)
  subst e1 e2; exact loop

/-- it becomes the store's -/
theorem Made.join {c c' : Cf K.h₀} {acc : List V} {D : Addr} (st : Stp noOwn c c') (nD : c.s.heap.get? D = none) (hz : acc.length ≤ maxLen) : AccAt c' D acc → ∃ c₂ : Cf K.h₀, c₂.s = c'.s ∧ c₂.φ = c'.φ ++ [D] ∧ c₂.σ = c'.σ ++ [.list acc] ∧ Stp noOwn c c₂ ∧ Rel c₂.s.heap c₂.φ (.ref c'.σ.length) (.ref D)
  | .mk arr n o e r => ⟨⟨c'.s, c'.φ ++ [D], c'.σ ++ [.list acc], c'.sim.add (o := .list acc) o (c.sim.none₀ nD) ⟨arr, n, e, r, maxLen_le hz⟩⟩, rfl, rfl, rfl,
    ⟨⟨st.only, st.pre.trans (List.prefix_append _ _), st.keep, fun a m => (mem_snoc m).elim (st.fresh a) fun e => .inr (e ▸ nD)⟩, st.pres⟩, ⟨D, rfl, by rw [← c'.sim.len]; exact List.getElem?_concat_length⟩⟩
/-- a comprehension's frame lets its names go -/
theorem letGo {own : Addr → Prop} {c c' : Cf K.h₀} {C : Addr} {m : Str → Option Value} {h' : Heap} (st : Stp own c c') (n : c'.s.heap.Ns C m) (hC : C ∉ c'.φ) (nC : c.s.heap.get? C = none) (hs : Heap.SameBut C c'.s.heap h') :
    ∃ c₂ : Cf K.h₀, c₂.s = { c'.s with heap := h' } ∧ c₂.φ = c'.φ ∧ c₂.σ = c'.σ ∧ Stp own c c₂ ∧ WStp (· = C) c' c₂ :=
  have ho : ∀ a, a = C → NoTup c'.s.heap a ∧ a ∉ c'.φ ∧ K.h₀.get? a = none := fun a e => e ▸ ⟨noTup_ns n, hC, c.sim.none₀ nC⟩
  have s₂ : WStp (· = C) c' (c'.keepOwn { c'.s with heap := h' } (fun b o hb e => (hs.2 b hb).trans e) ho) := ⟨⟨rfl, rfl⟩, List.prefix_refl _, fun b o _ hb e => (hs.2 b hb).trans e, fun _ m => .inl m⟩
  ⟨c'.keepOwn { c'.s with heap := h' } (fun b o hb e => (hs.2 b hb).trans e) ho, rfl, rfl, rfl, st.transNew s₂ fun b e => e ▸ nC, s₂⟩
theorem comp_closure {c : Cf K.h₀} {ρ : List V} {scope : Scope} {x : Str} {i : Nat} (cs : CompSc L scope vs' x i) (F : Fr c L ρ) : closureFor scope L.env = pure (clGo L.env scope.names []) :=
  closure_ok fun y hy hf => let ⟨j, hj, hk⟩ := cs.free y hy hf; match F.cell y.1 j hj hk with | .mk a _ e _ _ _ _ => ⟨a, e⟩
theorem ok_comp {scope : Scope} {x : Str} {i : Nat} {px pos : Pos} {elt iter : Expr} {ifs : List Expr} {a : Ex} {ts : List Tx} {src : List Ex} {k : SrcT} (cs : CompSc L scope vs' x i) (hs : ∀ x, foldedSetIterable iter L.env x = pure x)
    (hsrc : SrcOk K L iter k src (.Name x px)) (hk : k ≠ .enum) (helt : ∀ C, EOk K (compL L scope vs' C) elt a) (hts : ∀ C, TsOk K (compL L scope vs' C) ifs ts) :
    EOk K L (.ListComp elt [⟨.Name x px, iter, ifs, 0⟩] scope pos) (xComp a i k src ts) := fun A c ρ Q X R F q => by
  rw [eval_ListComp]
  refine wpAny_comprehension_free (use := none) rfl hs (comp_closure cs F) cs.kind cs.names (wpAny_mono (hsrc A c ρ (fun items same σ₁ => items.length ≤ maxLen ∧ compW (turnC K.C a i ts ρ) same items [] σ₁ fun ys σ₂ => Q (.ref σ₂.length) (σ₂ ++ [O.list ys])) X R F q) (fun xv s₁ h₁ => wpAny_mono h₁ (fun it s₂ h₂ => ?_) fun _ _ e => e) fun _ _ e => e)
  match h₂ with
  | .mk c₁ items same I fp St s₁ ⟨hz, q₁⟩ hsm W st0 hfp self =>
  refine comp_core (RR := fun acc C => compPost K.M A (PX c X) none (PV c Q) acc C) R F s₁ cs hfp W (self hk) st0 hsm helt hts hz q₁ fun D C s' y => ?_
  match y with
  | .mk c' acc m st nD nC oC n ac hal q' =>
  refine ⟨m, n, fun h' hs' => ?_⟩
  obtain ⟨c₂, e1, e2, e3, s₂, r₂⟩ := Made.join st nD hal ac
  have oC₂ : C ∉ c₂.φ := e2 ▸ fun mm => (mem_snoc mm).elim oC fun e => ac.noNs (e ▸ n)
  obtain ⟨c₃, f1, f2, f3, s₃, t₃⟩ := letGo s₂ (e1 ▸ n) oC₂ nC (e1 ▸ hs')
  have := PV.mk (c := c) (Q := Q) c₃ _ s₃ (r₂.own t₃ fun b e => e ▸ noTup_ns (e1.symm ▸ n)) (by rw [f3, e3]; exact q')
  rw [f1, e1] at this; exact this
/-- y = [..]: stored while the comprehension's frame stands -/
theorem sok_comp {scope : Scope} {x y : Str} {i iy : Nat} {px py pos spos : Pos} {elt iter : Expr} {ifs : List Expr} {a : Ex} {ts : List Tx} {src : List Ex} {k : SrcT} (cs : CompSc L scope vs' x i) (hs : ∀ x, foldedSetIterable iter L.env x = pure x)
    (hsrc : SrcOk K L iter k src (.Name x px)) (hk : k ≠ .enum) (helt : ∀ C, EOk K (compL L scope vs' C) elt a) (hts : ∀ C, TsOk K (compL L scope vs' C) ifs ts) (hy : L.vs.lookup y = some iy) (hky : L.env.kindOf y = some .local)
    (hsw : swapsWith (.ListComp elt [⟨.Name x px, iter, ifs, 0⟩] scope pos) (some (.Name y py)) spos.line L.env = pure true) :
    SOk K L (.Assign [.Name y py] (.ListComp elt [⟨.Name x px, iter, ifs, 0⟩] scope pos) spos) (sSet (.var iy) (xComp a i k src ts)) := fun A c ρ Q R F q => by
  rw [exec_Assign_Name_used _ _ _ _ hsw]
  refine wpAny_bind (wpAny_standAt (wpAny_bind ?_))
  show wpAny _ A (do let _ ← comprehension (.ListComp elt [⟨.Name x px, iter, ifs, 0⟩] scope pos) scope L.env _ (newList []) false (eval iter L.env) (some (assign (.Name y py) L.env))) _ _ c.s
  refine wpAny_bind (wpAny_mono (wpAny_comprehension_free (use := some (assign (.Name y py) L.env)) (Q := fun _ s' => PF c L Q .next s') (E := PE c L Q) rfl hs (comp_closure cs F) cs.kind cs.names
    (wpAny_mono (hsrc A c ρ (fun items same σ₁ => items.length ≤ maxLen ∧ compW (turnC K.C a i ts ρ) same items [] σ₁ fun ys σ₂ => BindK (σ₂ ++ [O.list ys]) (fun ρ' => Q .next ρ' (σ₂ ++ [O.list ys])) ρ (.var iy) (.ref σ₂.length)) (fun k σ => Q (.exc k) ρ σ) R F q) (fun xv s₁ h₁ => wpAny_mono h₁ (fun it s₂ h₂ => ?_) fun _ _ e => e.toE F) fun _ _ e => e.toE F)) (fun _ s' hq => wpAny_pure (wpAny_pure hq)) fun _ _ e => e)
  match h₂ with
  | .mk c₁ items same I fp St s₁ ⟨hz, q₁⟩ hsm W st0 hfp self =>
  refine comp_core (RR := fun acc C => compPost K.M A (PE c L Q) (some (assign (.Name y py) L.env)) (fun _ s' => PF c L Q .next s') acc C) R F s₁ cs hfp W (self hk) st0 hsm helt hts hz q₁ fun D C s' y' => ?_
  match y' with
  | .mk c' acc m st nD nC oC n ac hal q' =>
  obtain ⟨c₂, e1, e2, e3, s₂, r₂⟩ := Made.join st nD hal ac
  have oC₂ : C ∉ c₂.φ := e2 ▸ fun mm => (mem_snoc mm).elim oC fun e => ac.noNs (e ▸ n)
  have n₂ : c₂.s.heap.Ns C m := e1.symm ▸ n
  have hLe : L.env.locals ≠ C := fun e => match F.ns with | .mk _ n _ => let ⟨_, e', _⟩ := ns_get n; nomatch ((congrArg c.s.heap.get? e).trans nC).symm.trans e'
  show wpAny _ A (assign (.Name y py) L.env (.ref D)) _ _ _
  rw [← e1]
  refine wpAny_assign_Name (store_local (F.step s₂) hy hky r₂ fun c₃ f1 f2 s₃ F₃ => ?_)
  have oC₃ : C ∉ c₃.φ := f1 ▸ oC₂
  have n₃ : c₃.s.heap.Ns C m := ns_keep n₂ fun o e => s₃.keep C o oC₂ (fun h => hLe h.symm) e
  refine ⟨m, n₃, fun h' hs' => ?_⟩
  obtain ⟨c₄, g1, g2, g3, s₄, t₄⟩ := letGo (s₂.any.trans (s₃.wider fun _ e => .inl e) : Stp L.own c c₃) n₃ oC₃ nC hs'
  have F₄ := F₃.keep t₄ (fun b e => e ▸ noTup_ns n₃) hLe fun b ov ic e => ns_ne_cell n₃ ic e
  cases q' with
  | var q' => exact g1 ▸ PF.next c₄ _ s₄ F₄ (by rw [g3, f2, e3]; exact q')
end
end Mine

/-! N12 -/
namespace Mine
open PySem PySem.Calls
set_option genSizeOf false
set_option genInjectivity false

noncomputable def isCF (sc : Scope) (x : Str) : Bool := match sc.names.lookup x with
  | some .cell | some .free => true
  | _ => false
theorem isCF_kind {sc : Scope} {x : Str} (h : isCF sc x = true) : sc.names.lookup x = some .cell ∨ sc.names.lookup x = some .free := by
  unfold isCF at h
  split at h
  · exact .inl ‹_›
  · exact .inr ‹_›
  · cases h
/-- the scope as the frame has it -/
structure Agree (env : Env) (sc : Scope) : Prop where
  var : ∀ x, isVar env.scope x = isVar sc x
  glob : ∀ x, isGlob env.scope x = isGlob sc x
  cf : ∀ x, isCF sc x = true → isCF env.scope x = true
theorem Agree.of_eq {env : Env} {sc : Scope} (h : env.scope = sc) : Agree env sc := ⟨fun _ => by rw [h], fun _ => by rw [h], fun _ q => by rw [h]; exact q⟩
theorem relabel_kind {env : Env} {sc : Scope} (x : Str) : (relabel sc env).names.lookup x = sc.names.lookup x ∨ (sc.names.lookup x = some .free ∧ (relabel sc env).names.lookup x = some .cell) := by
  rw [relabel_lookup]
  cases h : sc.names.lookup x with
  | none => exact .inl rfl
  | some k =>
    rw [Option.map_some]
    by_cases hq : (k == NameKind.free && env.scope.kind == .function && env.kindOf x == some .cell) = true
    · rw [if_pos hq]
      exact .inr ⟨congrArg some (beq_iff_eq.mp (Bool.and_eq_true_iff.mp (Bool.and_eq_true_iff.mp hq).1).1), rfl⟩
    · rw [if_neg hq]; exact .inl rfl
theorem Agree.comp {env : Env} {sc : Scope} {cl : List (Str × Addr)} {C : Addr} : Agree (compEnvC sc cl C env) sc where
  var x := by show isVar (relabel sc env) x = _; unfold isVar; rcases relabel_kind (env := env) (sc := sc) x with e | ⟨e, e'⟩ <;> first | rw [e, e'] | rw [e]
  glob x := by show isGlob (relabel sc env) x = _; unfold isGlob; rcases relabel_kind (env := env) (sc := sc) x with e | ⟨e, e'⟩ <;> first | (rw [e, e']; rfl) | rw [e]
  cf x h := by
    show isCF (relabel sc env) x = true
    unfold isCF at h ⊢
    rcases relabel_kind (env := env) (sc := sc) x with e | ⟨_, e'⟩
    · rw [e]; exact h
    · rw [e']

/-- the names of a comprehension's block: its own one, then those from around -/
noncomputable def compVars (sc : Scope) (vs : Vs) (x : Str) (nx : Nat) : Vs := (x, nx) :: sc.names.filterMap fun y => if y.2 == .free then (vs.lookup y.1).map (y.1, ·) else none
noncomputable def compOk (sc : Scope) (vs : Vs) (csc : Scope) (x : Str) (nx : Nat) : Bool :=
  csc.kind == .function && csc.names.all (fun y => y.2 != .cell && (y.2 != .local || csc.names.lookup y.1 == some .local) && (y.2 != .free || (csc.names.lookup y.1 == some .free && isCF sc y.1 && (vs.lookup y.1).isSome))) &&
    csc.names.lookup x == some .local && vs.all (fun p => p.2 != nx)
theorem lookup_mem_filterMap {names : List (Str × NameKind)} {vs : Vs} {y : Str} {j : Nat} (h : (names.filterMap fun y => if y.2 == .free then (vs.lookup y.1).map (y.1, ·) else none).lookup y = some j) : (y, NameKind.free) ∈ names ∧ vs.lookup y = some j := by
  obtain ⟨⟨n, k⟩, hp, e⟩ := List.mem_filterMap.mp (mem_of_lookup h)
  split at e
  · rename_i hf
    obtain ⟨j', hj, e⟩ := Option.map_eq_some_iff.mp e
    cases e
    cases beq_iff_eq.mp hf
    exact ⟨hp, hj⟩
  · cases e
theorem comp_sc {env : Env} {sc csc : Scope} {vs : Vs} {x : Str} {nx : Nat} (hcf : ∀ y, isCF sc y = true → isCF env.scope y = true) (h : compOk sc vs csc x nx = true) : CompSc ⟨env, vs⟩ csc (compVars csc vs x nx) x nx := by
  unfold compOk at h
  simp only [Bool.and_eq_true, beq_iff_eq, List.all_eq_true, bne_iff_ne, ne_eq, Bool.or_eq_true, Option.isSome_iff_exists] at h
  obtain ⟨⟨⟨h1, h2⟩, h3⟩, h4⟩ := h
  have hfree : ∀ y, (y, NameKind.free) ∈ csc.names → csc.names.lookup y = some .free ∧ isCF sc y = true ∧ ∃ j, vs.lookup y = some j := fun y hy => by
    have := (h2 _ hy).2.resolve_left fun n => n rfl
    exact ⟨this.1.1, this.1.2, this.2⟩
  refine ⟨h1, fun y hy => (h2 y hy).1.1, fun y hy hl => (h2 y hy).1.2.resolve_left fun n => n hl, h3, fun m => ?_, ?_, fun y hy hf => ?_, fun y j hj => ?_⟩
  · cases h3.symm.trans (hfree x m).1
  · rw [compVars, List.lookup_cons, beq_self_eq_true]
  · obtain ⟨n, k⟩ := y
    cases hf
    obtain ⟨_, c, j, hj⟩ := hfree n hy
    exact ⟨j, hj, isCF_kind (hcf n c)⟩
  · rw [compVars, List.lookup_cons] at hj
    cases e : y == x with
    | true => rw [e] at hj; exact .inl ⟨beq_iff_eq.mp e, (Option.some.inj hj).symm⟩
    | false =>
      rw [e] at hj
      obtain ⟨m, hv⟩ := lookup_mem_filterMap hj
      exact .inr ⟨beq_eq_false_iff_ne.mp e, (hfree y m).1, hv, h4 (y, j) (mem_of_lookup hv)⟩

/-! the reading of Python's trees, with its proof -/
structure RE where
  v : Ex
  t : Tx
abbrev rv (a : Ex) : RE := ⟨a, tVal a⟩
structure EGood (K : Ctx) (L : Loc) (e : Expr) (a : RE) : Prop where
  star : NoStar e
  slice : NoSlice e
  ok : EOk K L e a.v
  test : TOk K L e a.t
inductive AllG (K : Ctx) (L : Loc) : List Expr → List RE → Prop
  | nil : AllG K L [] []
  | cons {e : Expr} {a : RE} {es : List Expr} {as : List RE} : EGood K L e a → AllG K L es as → AllG K L (e :: es) (a :: as)
/-- what the reading leans on -/
structure Bg (K : Ctx) (G : GlT) (fa : Nat → Addr) (mg mb : Str → Option Value) : Prop where
  g : Gnd K.h₀ G fa mg mb
  hC : CSound K G fa
  hx : XR K
abbrev vals (as : List RE) : List Ex := as.map RE.v
abbrev tests (as : List RE) : List Tx := as.map RE.t
section
variable {K : Ctx} {L : Loc}
theorem gv {e : Expr} {a : Ex} (h1 : NoStar e) (h2 : NoSlice e) (he : ∀ env whole, isTrue e env whole = (do let v ← whole; standAt e.pos; holding [v] (truthy v))) (h : EOk K L e a) : EGood K L e (rv a) := ⟨h1, h2, h, tok_val he h⟩
theorem AllG.all {es : List Expr} {as : List RE} (h : AllG K L es as) : LOk K L es (vals as) ∧ AOk K L es (tests as) ∧ NoStars es ∧ TsOk K L es (tests as) := by
  induction h with
  | nil => exact ⟨lok_nil, aok_nil, noStars_nil, tsok_nil⟩
  | cons h _ ih => exact ⟨lok_cons h.star h.ok ih.1, aok_cons h.test ih.2.1, noStars_cons h.star ih.2.2.1, tsok_cons h.test ih.2.2.2⟩
theorem AllG.B {es : List Expr} {as : List RE} (h : AllG K L es as) : ∀ {e : Expr} {a : RE}, EGood K L e a → BOk K L (e :: es) (vals (a :: as)) := by
  induction h with
  | nil => exact fun h => bok_one h.ok
  | cons h _ ih => exact fun h' => bok_cons h'.ok (ih h)
theorem AllG.C {es : List Expr} {as : List RE} (h : AllG K L es as) : ∀ {e : Expr} {a : RE} {ops : List CmpOp}, EGood K L e a → ops.length = (e :: es).length → COk K L ops (e :: es) (vals (a :: as)) := by
  induction h with
  | nil => exact fun {_ _ ops} h hl => match ops, hl with | [_], _ => cok_one h.ok
  | cons h _ ih => exact fun {_ _ ops} h' hl => match ops, hl with | _ :: _ :: _, hl => cok_cons h'.ok (ih h (Nat.succ.inj hl))
end

section
variable {K : Ctx} {G : GlT} {fa : Nat → Addr} {mg mb : Str → Option Value}
variable (K) in
abbrev Good (sc : Scope) (vs : Vs) (e : Expr) : Type := { a : RE // ∀ env, Agree env sc → EGood K ⟨env, vs⟩ e a }
variable (K) in
abbrev Goods (sc : Scope) (vs : Vs) (es : List Expr) : Type := { as : List RE // ∀ env, Agree env sc → AllG K ⟨env, vs⟩ es as }
variable (K) in
abbrev Rdr := (sc : Scope) → (vs : Vs) → (e : Expr) → Option (Good K sc vs e)
noncomputable def rL {sc : Scope} {vs : Vs} (f : (e : Expr) → Option (Good K sc vs e)) : (es : List Expr) → Option (Goods K sc vs es)
  | [] => some ⟨[], fun _ _ => .nil⟩
  | e :: es => (f e).bind fun a => (rL f es).map fun as => ⟨a.1 :: as.1, fun env h => .cons (a.2 env h) (as.2 env h)⟩
noncomputable def rConst {sc : Scope} {vs : Vs} {k : Nat} {p : Pos} : (c : Const) → Option (Good K sc vs (.Constant c k p))
  | .none => some ⟨rv xNone, fun _ _ => gv (fun _ _ => rfl) (fun _ _ => rfl) (fun _ _ => rfl) ok_none⟩
  | .bool b => some ⟨rv (xBool b), fun _ _ => gv (fun _ _ => rfl) (fun _ _ => rfl) (fun _ _ => rfl) ok_bool⟩
  | .int i => some ⟨rv (xInt i), fun _ _ => gv (fun _ _ => rfl) (fun _ _ => rfl) (fun _ _ => rfl) ok_int⟩
  | .str s => some ⟨rv (xStr s), fun _ _ => gv (fun _ _ => rfl) (fun _ _ => rfl) (fun _ _ => rfl) ok_str⟩
  | _ => none
/-- a name's kind, looked up -/
noncomputable def look {α : Type} (o : Option α) : Option { a : α // o = some a } := match o with
  | some a => some ⟨a, rfl⟩
  | none => none
noncomputable def rName (B : Bg K G fa mg mb) (sc : Scope) (vs : Vs) (x : Str) (p : Pos) : Option (Good K sc vs (.Name x p)) :=
  if hn : nameOk x = true then
    if hv : isVar sc x = true then (look (vs.lookup x)).map fun i => ⟨rv (xLoc i.1), fun _ hA => gv (fun _ _ => rfl) (fun _ _ => rfl) (fun _ _ => rfl) (ok_loc i.2 ((hA.var x).trans hv) hn)⟩
    else if hg : isGlob sc x = true then (look (G.lookup x)).bind fun
      | ⟨.str s, e⟩ => some ⟨rv (xStr s), fun _ hA => gv (fun _ _ => rfl) (fun _ _ => rfl) (fun _ _ => rfl) (ok_gstr B.g e ((hA.glob x).trans hg) hn)⟩
      | ⟨.int i, e⟩ => some ⟨rv (xInt i), fun _ hA => gv (fun _ _ => rfl) (fun _ _ => rfl) (fun _ _ => rfl) (ok_gint B.g e ((hA.glob x).trans hg) hn)⟩
      | ⟨.fn _, _⟩ => none
    else none
  else none
noncomputable def rOp : (op : Operator) → Option { o : BOp // cOp o = op }
  | .Add => some ⟨.add, rfl⟩ | .Sub => some ⟨.sub, rfl⟩ | .Mult => some ⟨.mul, rfl⟩ | .FloorDiv => some ⟨.floordiv, rfl⟩ | .Mod => some ⟨.mod, rfl⟩ | .Pow => some ⟨.pow, rfl⟩ | _ => none
theorem Agree.free {env : Env} {sc : Scope} (hA : Agree env sc) {x : Str} (h : freeName G sc x = true) : freeName G env.scope x = true := by unfold freeName at h ⊢; rw [hA.glob x]; exact h

/-- the source of a loop -/
abbrev SrcR (K : Ctx) (sc : Scope) (vs : Vs) (t e : Expr) : Type := { r : SrcT × List RE // ∀ env, Agree env sc → SrcOk K ⟨env, vs⟩ e r.1 (vals r.2) t ∧ ∀ x, foldedSetIterable e env x = pure x }
noncomputable def isSet : Expr → Bool
  | .Set .. => true
  | _ => false
theorem notSet_of {e : Expr} (h : isSet e = false) (env : Env) (x : Value) : foldedSetIterable e env x = pure x := by
  cases e <;> first | rfl | cases h
noncomputable def isTup : Expr → Bool
  | .Tuple .. => true
  | _ => false
noncomputable def rPlain {sc : Scope} {vs : Vs} (f : (e : Expr) → Option (Good K sc vs e)) (t e : Expr) : Option (SrcR K sc vs t e) :=
  if hs : isSet e = false then (f e).map fun b => ⟨(.plain, [b.1]), fun env h => ⟨src_plain (b.2 env h).ok, notSet_of hs env⟩⟩ else none
noncomputable def rEnum (B : Bg K G fa mg mb) {sc : Scope} {vs : Vs} (f : (e : Expr) → Option (Good K sc vs e)) (pf pos : Pos) (a : Expr) : (t : Expr) → Option (SrcR K sc vs t (.Call (.Name ("enumerate" : Str) pf) [a] [] pos))
  | .Tuple _ _ _ => if hf : freeName G sc ("enumerate" : Str) = true then (f a).map fun b => ⟨(.enum, [b.1]), fun env h => ⟨src_enum B.g (h.free hf) (b.2 env h).star (AllG.cons (b.2 env h) .nil).all.1, fun _ => rfl⟩⟩ else none
  | _ => none
noncomputable def rRange (B : Bg K G fa mg mb) {sc : Scope} {vs : Vs} (f : (e : Expr) → Option (Good K sc vs e)) (t : Expr) (pf pos : Pos) (a : Expr) (as : List Expr) : Option (SrcR K sc vs t (.Call (.Name ("range" : Str) pf) (a :: as) [] pos)) :=
  if hf : freeName G sc ("range" : Str) = true then (f a).bind fun b => (rL f as).map fun bs => ⟨(.range, b.1 :: bs.1), fun env h =>
    have al := (AllG.cons (b.2 env h) (bs.2 env h)).all
    ⟨src_range B.g (h.free hf) (b.2 env h).star al.2.2.1 al.1, fun _ => rfl⟩⟩ else none
noncomputable def rSrc (B : Bg K G fa mg mb) {sc : Scope} {vs : Vs} (f : (e : Expr) → Option (Good K sc vs e)) (t : Expr) : (e : Expr) → Option (SrcR K sc vs t e)
  | .Call (.Name x pf) (a :: as) [] pos =>
    if hr : x = ("range" : Str) then (rRange B f t pf pos a as).map fun r => ⟨r.1, fun env h => by subst hr; exact r.2 env h⟩
    else if he : x = ("enumerate" : Str) then (match as with
      | [] => (rEnum B f pf pos a t).map fun r => ⟨r.1, fun env h => by subst he; exact r.2 env h⟩
      | _ :: _ => none)
    else rPlain f t (.Call (.Name x pf) (a :: as) [] pos)
  | e => rPlain f t e

/-! calls -/
noncomputable def bltOf (x : Str) : Option { p : Pr // x ∈ bltNames ∧ bootBuiltins x = some (prVal p) ∧ (∀ vs, prArgs p vs = vs) ∧ ((∃ T, prVal p = .type T) ∨ ∃ T, prVal p = .builtin T) } :=
  if h : x = ("len" : Str) then some ⟨.len, by subst h; exact ⟨by decide, boot_len, fun _ => rfl, .inr ⟨_, rfl⟩⟩⟩
  else if h : x = ("list" : Str) then some ⟨.list, by subst h; exact ⟨by decide, boot_list, fun _ => rfl, .inl ⟨_, rfl⟩⟩⟩
  else if h : x = ("tuple" : Str) then some ⟨.tuple, by subst h; exact ⟨by decide, boot_tuple, fun _ => rfl, .inl ⟨_, rfl⟩⟩⟩
  else if h : x = ("str" : Str) then some ⟨.str, by subst h; exact ⟨by decide, boot_str, fun _ => rfl, .inl ⟨_, rfl⟩⟩⟩
  else if h : x = ("int" : Str) then some ⟨.int, by subst h; exact ⟨by decide, boot_int, fun _ => rfl, .inl ⟨_, rfl⟩⟩⟩
  else if h : x = ("min" : Str) then some ⟨.min, by subst h; exact ⟨by decide, boot_min, fun _ => rfl, .inr ⟨_, rfl⟩⟩⟩
  else if h : x = ("max" : Str) then some ⟨.max, by subst h; exact ⟨by decide, boot_max, fun _ => rfl, .inr ⟨_, rfl⟩⟩⟩
  else none
noncomputable def tyOf (x : Str) : Option { t : Ty // x ∈ bltNames ∧ bootBuiltins x = some (.type (tyName t)) } :=
  if h : x = ("int" : Str) then some ⟨.int, by subst h; exact ⟨by decide, boot_int⟩⟩
  else if h : x = ("bool" : Str) then some ⟨.bool, by subst h; exact ⟨by decide, boot_bool⟩⟩
  else if h : x = ("str" : Str) then some ⟨.str, by subst h; exact ⟨by decide, boot_str⟩⟩
  else if h : x = ("tuple" : Str) then some ⟨.tuple, by subst h; exact ⟨by decide, boot_tuple⟩⟩
  else if h : x = ("list" : Str) then some ⟨.list, by subst h; exact ⟨by decide, boot_list⟩⟩
  else none
/-- how sorted is read: given where it is wanted -/
structure SortR (K : Ctx) (G : GlT) : Prop where
  one : ∀ {L : Loc} {e : Expr} {a : Ex} {pf pos : Pos}, freeName G L.env.scope ("sorted" : Str) = true → NoStar e → EOk K L e a → EOk K L (.Call (.Name ("sorted" : Str) pf) [e] [] pos) (xSort false a)
  set : ∀ {L : Loc} {e : Expr} {a : Ex} {pf pf' pos pos' : Pos}, freeName G L.env.scope ("sorted" : Str) = true → freeName G L.env.scope ("set" : Str) = true → NoStar e → EOk K L e a →
    EOk K L (.Call (.Name ("sorted" : Str) pf) [.Call (.Name ("set" : Str) pf') [e] [] pos'] [] pos) (xSort true a)
noncomputable def rIsi (B : Bg K G fa mg mb) {sc : Scope} {vs : Vs} (f : (e : Expr) → Option (Good K sc vs e)) (pf pos : Pos) (a : Expr) : (as : List Expr) → Option (Good K sc vs (.Call (.Name ("isinstance" : Str) pf) (a :: as) [] pos))
  | [.Name y _] => if hf : (freeName G sc ("isinstance" : Str) && freeName G sc y) = true then (tyOf y).bind fun ty => (f a).map fun b => ⟨rv (xPrim (.isinst ty.1) [b.1.v]), fun env h =>
      have hf := Bool.and_eq_true_iff.mp hf
      gv (fun _ _ => rfl) (fun _ _ => rfl) (fun _ _ => rfl) (ok_isinst B.g (h.free hf.1) (h.free hf.2) ty.2.1 ty.2.2 (b.2 env h).star (b.2 env h).ok)⟩ else none
  | _ => none
noncomputable def rSorted (S : SortR K G) {sc : Scope} {vs : Vs} (f : (e : Expr) → Option (Good K sc vs e)) (pf pos : Pos) : (as : List Expr) → Option (Good K sc vs (.Call (.Name ("sorted" : Str) pf) as [] pos))
  | [.Call (.Name y pf') [e] [] pos'] => if hy : y = ("set" : Str) then
      if hf : (freeName G sc ("sorted" : Str) && freeName G sc ("set" : Str)) = true then (f e).map fun b => ⟨rv (xSort true b.1.v), fun env h => gv (fun _ _ => rfl) (fun _ _ => rfl) (fun _ _ => rfl) (by
        have hf := Bool.and_eq_true_iff.mp hf
        subst hy; exact S.set (h.free hf.1) (h.free hf.2) (b.2 env h).star (b.2 env h).ok)⟩ else none
    else if hf : freeName G sc ("sorted" : Str) = true then (f (.Call (.Name y pf') [e] [] pos')).map fun b => ⟨rv (xSort false b.1.v), fun env h => gv (fun _ _ => rfl) (fun _ _ => rfl) (fun _ _ => rfl) (S.one (h.free hf) (b.2 env h).star (b.2 env h).ok)⟩ else none
  | [e] => if hf : freeName G sc ("sorted" : Str) = true then (f e).map fun b => ⟨rv (xSort false b.1.v), fun env h => gv (fun _ _ => rfl) (fun _ _ => rfl) (fun _ _ => rfl) (S.one (h.free hf) (b.2 env h).star (b.2 env h).ok)⟩ else none
  | _ => none
/-- a call by a name -/
noncomputable def rCall (B : Bg K G fa mg mb) (S : SortR K G) {sc : Scope} {vs : Vs} (f : (e : Expr) → Option (Good K sc vs e)) (x : Str) (pf pos : Pos) : (as : List Expr) → Option (Good K sc vs (.Call (.Name x pf) as [] pos))
  | [] => none
  | a :: as =>
    if hi : x = ("isinstance" : Str) then (rIsi B f pf pos a as).map fun r => ⟨r.1, fun env h => by subst hi; exact r.2 env h⟩
    else if hs : x = ("sorted" : Str) then (rSorted S f pf pos (a :: as)).map fun r => ⟨r.1, fun env h => by subst hs; exact r.2 env h⟩
    else if hg : (isGlob sc x && nameOk x) = true then (f a).bind fun b => (rL f as).bind fun bs => (match hl : G.lookup x with
      | some (.fn i) => some ⟨rv (xCall i (vals (b.1 :: bs.1))), fun env h =>
          have hg := Bool.and_eq_true_iff.mp hg
          gv (fun _ _ => rfl) (fun _ _ => rfl) (fun _ _ => rfl) (ok_call B.g B.hC hl ((h.glob x).trans hg.1) hg.2 (b.2 env h).star (AllG.cons (b.2 env h) (bs.2 env h)).all.1)⟩
      | some _ => none
      | none => (bltOf x).map fun p => ⟨rv (xPrim p.1 (vals (b.1 :: bs.1))), fun env h =>
          have al := (AllG.cons (b.2 env h) (bs.2 env h)).all
          gv (fun _ _ => rfl) (fun _ _ => rfl) (fun _ _ => rfl) (ok_blt B.g p.2.2.2.1 (h.free (by unfold freeName; rw [hl, (Bool.and_eq_true_iff.mp hg).1]; rfl)) p.2.1 p.2.2.1 p.2.2.2.2 (b.2 env h).star al.2.2.1 al.1)⟩)
    else none
end
end Mine

/-! N13 -/
namespace Mine
open PySem PySem.Calls
set_option genSizeOf false
set_option genInjectivity false

section
variable {K : Ctx} {G : GlT} {fa : Nat → Addr} {mg mb : Str → Option Value}
/-- what a comprehension's reading gives -/
structure CompRd (K : Ctx) (L : Loc) (elt : Expr) (x : Str) (px : Pos) (iter : Expr) (ifs : List Expr) (csc : Scope) (vs' : Vs) (nx : Nat) (a : Ex) (k : SrcT) (as : List Ex) (ts : List Tx) : Prop where
  sc : CompSc L csc vs' x nx
  fold : ∀ x, foldedSetIterable iter L.env x = pure x
  src : SrcOk K L iter k as (.Name x px)
  kind : k ≠ .enum
  elt : ∀ C, EOk K (compL L csc vs' C) elt a
  ifs : ∀ C, TsOk K (compL L csc vs' C) ifs ts
structure CompV where
  a : Ex
  k : SrcT
  as : List Ex
  ts : List Tx
noncomputable def notEnum : (k : SrcT) → Option { _u : Unit // k ≠ .enum }
  | .plain => some ⟨(), nofun⟩
  | .range => some ⟨(), nofun⟩
  | .enum => none
noncomputable def rComp (B : Bg K G fa mg mb) (nx : Nat) (ff : Rdr K) (sc : Scope) (vs : Vs) (elt : Expr) (x : Str) (px : Pos) (iter : Expr) (ifs : List Expr) (csc : Scope) :
    Option { r : CompV // ∀ env, Agree env sc → CompRd K ⟨env, vs⟩ elt x px iter ifs csc (compVars csc vs x nx) nx r.a r.k r.as r.ts } :=
  if hc : compOk sc vs csc x nx = true then (rSrc B (ff sc vs) (.Name x px) iter).bind fun s => (ff csc (compVars csc vs x nx) elt).bind fun a => (rL (ff csc (compVars csc vs x nx)) ifs).bind fun ts => (notEnum s.1.1).map fun hk =>
    ⟨⟨a.1.v, s.1.1, vals s.1.2, tests ts.1⟩, fun env h => ⟨comp_sc h.cf hc, (s.2 env h).2, (s.2 env h).1, hk.2, fun _ => (a.2 _ Agree.comp).ok, fun _ => (ts.2 _ Agree.comp).all.2.2.2⟩⟩ else none
noncomputable def rOpt {sc : Scope} {vs : Vs} (f : (e : Expr) → Option (Good K sc vs e)) : (o : Option Expr) → Option { a : Option Ex // ∀ env, Agree env sc → OOk K ⟨env, vs⟩ o a }
  | none => some ⟨none, fun _ _ => ook_none⟩
  | some e => (f e).map fun a => ⟨some a.1.v, fun env h => ook_some (a.2 env h).ok⟩
noncomputable def rSub (B : Bg K G fa mg mb) {sc : Scope} {vs : Vs} (f : (e : Expr) → Option (Good K sc vs e)) (pos : Pos) (a : Expr) : (i : Expr) → Option (Good K sc vs (.Subscript a i pos))
  | .Slice lo hi none _ => (match a with
    | .Name o po => (rName B sc vs o po).bind fun x => (rOpt f lo).bind fun y => (rOpt f hi).map fun z => ⟨rv (xSlice x.1.v y.1 z.1), fun env h => gv (fun _ _ => rfl) (fun _ _ => rfl) (fun _ _ => rfl) (ok_slice (fun _ _ => rfl) (x.2 env h).ok (y.2 env h) (z.2 env h))⟩
    | _ => none)
  | i => (f a).bind fun x => (f i).map fun y => ⟨rv (xSub x.1.v y.1.v), fun env h => gv (fun _ _ => rfl) (fun _ _ => rfl) (fun _ _ => rfl) (ok_sub (y.2 env h).slice (x.2 env h).ok (y.2 env h).ok)⟩
noncomputable def rAttr (B : Bg K G fa mg mb) {sc : Scope} {vs : Vs} (f : (e : Expr) → Option (Good K sc vs e)) (m : Str) (apos pos : Pos) : (o : Expr) → (as : List Expr) → Option (Good K sc vs (.Call (.Attribute o m apos) as [] pos))
  | .Name o po, [a] => if hm : m = ("append" : Str) then if hl : (apos.endLine == pos.line) = true then (rName B sc vs o po).bind fun x => (f a).map fun y => ⟨rv (xApp x.1.v y.1.v), fun env h => gv (fun _ _ => rfl) (fun _ _ => rfl) (fun _ _ => rfl) (by
      subst hm; exact ok_append (fun _ => rfl) hl (y.2 env h).star (x.2 env h).ok (y.2 env h).ok)⟩ else none else none
  | _, _ => none
noncomputable def rBool {sc : Scope} {vs : Vs} (f : (e : Expr) → Option (Good K sc vs e)) (pos : Pos) (op : BoolOp) : (es : List Expr) → Option (Good K sc vs (.BoolOp op es pos))
  | [] => none
  | e :: es => (f e).bind fun a => (rL f es).bind fun as => (match op with
    | .And => some ⟨⟨xBoo true (vals (a.1 :: as.1)), tAnd (tests (a.1 :: as.1))⟩, fun env h => ⟨fun _ _ => rfl, fun _ _ => rfl, ok_and ((as.2 env h).B (a.2 env h)), tok_and (AllG.cons (a.2 env h) (as.2 env h)).all.2.1⟩⟩
    | .Or => some ⟨⟨xBoo false (vals (a.1 :: as.1)), tOr (tests (a.1 :: as.1))⟩, fun env h => ⟨fun _ _ => rfl, fun _ _ => rfl, ok_or ((as.2 env h).B (a.2 env h)), tok_or (AllG.cons (a.2 env h) (as.2 env h)).all.2.1⟩⟩)
noncomputable def rCmp {sc : Scope} {vs : Vs} (f : (e : Expr) → Option (Good K sc vs e)) (pos : Pos) (l : Expr) (ops : List CmpOp) : (es : List Expr) → Option (Good K sc vs (.Compare l ops es pos))
  | [] => none
  | e :: es => if hm : lastMarks ops (e :: es) = false then if hl : ops.length = (e :: es).length then (f l).bind fun x => (f e).bind fun a => (rL f es).map fun as =>
      ⟨⟨xOf (tCmp x.1.v ops (vals (a.1 :: as.1))), tCmp x.1.v ops (vals (a.1 :: as.1))⟩, fun env h => ⟨fun _ _ => rfl, fun _ _ => rfl, ok_cmp hm (x.2 env h).ok ((as.2 env h).C (a.2 env h) hl), tok_cmp hm (x.2 env h).ok ((as.2 env h).C (a.2 env h) hl)⟩⟩ else none else none
noncomputable def rUn {sc : Scope} {vs : Vs} (f : (e : Expr) → Option (Good K sc vs e)) (pos : Pos) (x : Expr) : (op : UnaryOp) → Option (Good K sc vs (.UnaryOp op x pos))
  | .USub => (f x).map fun a => ⟨rv (xNeg a.1.v), fun env h => gv (fun _ _ => rfl) (fun _ _ => rfl) (fun _ _ => rfl) (ok_neg (a.2 env h).ok)⟩
  | .Not => (f x).map fun (a : Good K sc vs x) => ⟨RE.mk (xNot a.1.v) (tNot a.1.t), fun env h => ⟨fun _ _ => rfl, fun _ _ => rfl, ok_not (a.2 env h).ok, tok_not (a.2 env h).test⟩⟩
  | _ => none
noncomputable def rLC (B : Bg K G fa mg mb) (nx : Nat) (ff : Rdr K) (sc : Scope) (vs : Vs) (elt : Expr) (csc : Scope) (pos : Pos) : (gs : List Comprehension) → Option (Good K sc vs (.ListComp elt gs csc pos))
  | [⟨.Name x px, iter, ifs, 0⟩] => (rComp B nx ff sc vs elt x px iter ifs csc).map fun r => ⟨rv (xComp r.1.a nx r.1.k r.1.as r.1.ts), fun env h => have q := r.2 env h
      gv (fun _ _ => rfl) (fun _ _ => rfl) (fun _ _ => rfl) (ok_comp q.sc q.fold q.src q.kind q.elt q.ifs)⟩
  | _ => none
noncomputable def rE (B : Bg K G fa mg mb) (S : SortR K G) (nx : Nat) : Nat → Rdr K
  | 0, _, _, _ => none
  | n + 1, sc, vs, e => match e with
    | .Constant c _ _ => rConst c
    | .Name x p => rName B sc vs x p
    | .BinOp l op r _ => (rOp op).bind fun o => (rE B S nx n sc vs l).bind fun a => (rE B S nx n sc vs r).map fun b => ⟨rv (xBin o.1 a.1.v b.1.v), fun env h => gv (fun _ _ => rfl) (fun _ _ => rfl) (fun _ _ => rfl) (by obtain ⟨o, ho⟩ := o; subst ho; exact ok_bin (a.2 env h).ok (b.2 env h).ok)⟩
    | .UnaryOp op x p => rUn (rE B S nx n sc vs) p x op
    | .BoolOp op es p => rBool (rE B S nx n sc vs) p op es
    | .Compare l ops es p => rCmp (rE B S nx n sc vs) p l ops es
    | .Tuple es _ _ => if hz : es.length ≤ 1000 then (rL (rE B S nx n sc vs) es).map fun as => ⟨rv (xTup (vals as.1)), fun env h => gv (fun _ _ => rfl) (fun _ _ => rfl) (fun _ _ => rfl) (ok_tup (as.2 env h).all.1 hz)⟩ else none
    | .List es _ => if hz : es.length ≤ 1000 then (rL (rE B S nx n sc vs) es).map fun as => ⟨rv (xList (vals as.1)), fun env h => gv (fun _ _ => rfl) (fun _ _ => rfl) (fun _ _ => rfl) (ok_list (as.2 env h).all.1 hz)⟩ else none
    | .Subscript a i p => rSub B (rE B S nx n sc vs) p a i
    | .Call (.Name x pf) as [] p => rCall B S (rE B S nx n sc vs) x pf p as
    | .Call (.Attribute o m ap) as [] p => rAttr B (rE B S nx n sc vs) m ap p o as
    | .ListComp elt gs csc p => rLC B nx (rE B S nx n) sc vs elt csc p gs
    | _ => none

/-! statements -/
abbrev SGood (K : Ctx) (sc : Scope) (vs : Vs) (st : Stmt) : Type := { a : Sx // ∀ env, env.scope = sc → SOk K ⟨env, vs⟩ st a }
abbrev SGoods (K : Ctx) (sc : Scope) (vs : Vs) (st : List Stmt) : Type := { a : List Sx // ∀ env, env.scope = sc → SsOk K ⟨env, vs⟩ st a }
noncomputable def rSs {sc : Scope} {vs : Vs} (f : (st : Stmt) → Option (SGood K sc vs st)) : (sts : List Stmt) → Option (SGoods K sc vs sts)
  | [] => some ⟨[], fun _ _ => ssok_nil⟩
  | s :: ss => (f s).bind fun a => (rSs f ss).map fun as => ⟨a.1 :: as.1, fun env h => ssok_cons (a.2 env h) (as.2 env h)⟩
noncomputable def rNames (sc : Scope) (vs : Vs) : (es : List Expr) → Option { is : List Nat // ∀ env, env.scope = sc → CNames ⟨env, vs⟩ es is }
  | [] => some ⟨[], fun _ _ => .nil⟩
  | .Name x _ :: r => if ho : isOwn sc x = true then (look (vs.lookup x)).bind fun i => (rNames sc vs r).map fun is => ⟨i.1 :: is.1, fun env h => .cons i.2 (by have := isOwn_kind ho; rw [← h] at this; exact this) (is.2 env h)⟩ else none
  | _ => none
noncomputable def rPat (sc : Scope) (vs : Vs) : (e : Expr) → Option { p : Pat // ∀ env, env.scope = sc → CPat ⟨env, vs⟩ e p ∧ (assignEach [e] env).map (·.2) = [assign e env] }
  | .Name x _ => if ho : isOwn sc x = true then (look (vs.lookup x)).map fun i => ⟨.var i.1, fun env h => ⟨.name i.2 (by have := isOwn_kind ho; rw [← h] at this; exact this), rfl⟩⟩ else none
  | .Tuple es _ _ => (rNames sc vs es).map fun is => ⟨.tup is.1, fun env h => ⟨.tup (is.2 env h), rfl⟩⟩
  | _ => none
noncomputable def isLC : Expr → Bool
  | .ListComp .. | .SetComp .. | .DictComp .. => true
  | _ => false
theorem noComp_of {e : Expr} (h : isLC e = false) : NoComp e := by
  cases e <;> first | exact fun _ _ _ => rfl | cases h
theorem noSwap {t value : Expr} {env : Env} (h : isTup value = false) : swappedStores [t] value env = pure none := by
  unfold swappedStores
  cases t <;> first | rfl | (cases value <;> first | rfl | (exfalso; cases h))
noncomputable def rSet {sc : Scope} {vs : Vs} (f : (e : Expr) → Option (Good K sc vs e)) (p : Pos) (value t : Expr) : Option (SGood K sc vs (.Assign [t] value p)) :=
  if hl : isLC value = false then if ht : isTup value = false then (rPat sc vs t).bind fun q => (f value).map fun a => ⟨sSet q.1 a.1.v, fun env h => sok_assign (noComp_of hl _ _ _) (noSwap ht) (q.2 env h).2 (q.2 env h).1 (a.2 env (.of_eq h)).ok⟩ else none else none
noncomputable def rSetN {sc : Scope} {vs : Vs} (f : (e : Expr) → Option (Good K sc vs e)) (p : Pos) (value : Expr) (y : Str) (py : Pos) : Option (SGood K sc vs (.Assign [.Name y py] value p)) :=
  if hl : isLC value = false then (rPat sc vs (.Name y py)).bind fun q => (f value).map fun a => ⟨sSet q.1 a.1.v, fun env h => sok_assign (noComp_of hl _ _ _) rfl (q.2 env h).2 (q.2 env h).1 (a.2 env (.of_eq h)).ok⟩ else none
noncomputable def rSetC (B : Bg K G fa mg mb) (nx : Nat) (ff : Rdr K) (sc : Scope) (vs : Vs) (p : Pos) (elt : Expr) (csc : Scope) (pc : Pos) (y : Str) (py : Pos) : (gs : List Comprehension) → Option (SGood K sc vs (.Assign [.Name y py] (.ListComp elt gs csc pc) p))
  | [⟨.Name x px, iter, ifs, 0⟩] => if ho : isOwn sc y = true then (look (vs.lookup y)).bind fun i => (rComp B nx ff sc vs elt x px iter ifs csc).map fun r => ⟨sSet (.var i.1) (xComp r.1.a nx r.1.k r.1.as r.1.ts), fun env h => by
      have q := r.2 env (.of_eq h)
      have hk := isOwn_kind ho
      rw [← h] at hk
      obtain ⟨b, hb, hl⟩ : ∃ b, swapsWith (.ListComp elt [⟨.Name x px, iter, ifs, 0⟩] csc pc) (some (.Name y py)) p.line env = pure b ∧ (b = true → env.kindOf y = some .local) :=
        ⟨_, rfl, fun e => beq_iff_eq.mp (Bool.and_eq_true_iff.mp (Bool.and_eq_true_iff.mp (Bool.and_eq_true_iff.mp e).1).1).2⟩
      cases b with
      | true => exact sok_comp q.sc q.fold q.src q.kind q.elt q.ifs i.2 (hl rfl) hb
      | false => exact sok_assign hb rfl rfl (.name i.2 hk) (ok_comp q.sc q.fold q.src q.kind q.elt q.ifs)⟩ else none
  | _ => none
noncomputable def rItem {sc : Scope} {vs : Vs} (f : (e : Expr) → Option (Good K sc vs e)) (p : Pos) (value o i : Expr) (q : Pos) : Option (SGood K sc vs (.Assign [.Subscript o i q] value p)) :=
  if hl : isLC value = false then (f o).bind fun a => (f i).bind fun b => (f value).map fun e => ⟨sItem a.1.v b.1.v e.1.v, fun env h => sok_item (noComp_of hl _ _ _) (a.2 env (.of_eq h)).ok (b.2 env (.of_eq h)).ok (e.2 env (.of_eq h)).ok⟩ else none
noncomputable def rAssign (B : Bg K G fa mg mb) (nx : Nat) (ff : Rdr K) (sc : Scope) (vs : Vs) (p : Pos) (value : Expr) : (t : Expr) → Option (SGood K sc vs (.Assign [t] value p))
  | .Name y py => (match value with
    | .ListComp elt gs csc pc => rSetC B nx ff sc vs p elt csc pc y py gs
    | value => rSetN (ff sc vs) p value y py)
  | .Subscript o i q => rItem (ff sc vs) p value o i q
  | t => rSet (ff sc vs) p value t
noncomputable def rS (B : Bg K G fa mg mb) (S : SortR K G) (nx : Nat) (sc : Scope) (vs : Vs) (m : Nat) : Nat → (st : Stmt) → Option (SGood K sc vs st)
  | 0, _ => none
  | n + 1, st => match st with
    | .Expr e _ => if hl : isLC e = false then (rE B S nx m sc vs e).map fun a => ⟨sExpr a.1.v, fun env h => sok_expr (noComp_of hl) (a.2 env (.of_eq h)).ok⟩ else none
    | .Return none _ => some ⟨sRetN, fun _ _ => sok_retN⟩
    | .Return (some e) _ => (rE B S nx m sc vs e).map fun a => ⟨sRet a.1.v, fun env h => sok_ret (a.2 env (.of_eq h)).ok⟩
    | .Assign [t] value p => rAssign B nx (rE B S nx m) sc vs p value t
    | .If test b o _ => (rE B S nx m sc vs test).bind fun a => (rSs (rS B S nx sc vs m n) b).bind fun b' => (rSs (rS B S nx sc vs m n) o).map fun o' => ⟨sIf a.1.t b'.1 o'.1, fun env h => sok_if (a.2 env (.of_eq h)).test (b'.2 env h) (o'.2 env h)⟩
    | .For t iter body [] _ => (rPat sc vs t).bind fun p => (rSrc B (rE B S nx m sc vs) t iter).bind fun s => (rSs (rS B S nx sc vs m n) body).map fun b => ⟨sFor p.1 s.1.1 (vals s.1.2) b.1, fun env h => sok_for B.hx (s.2 env (.of_eq h)).2 (p.2 env h).1 (s.2 env (.of_eq h)).1 (b.2 env h)⟩
    | .Pass _ => some ⟨sPass, fun _ _ => sok_pass⟩
    | _ => none

/-! functions -/
/-- a def's body does as the abstract one says -/
structure FnOk (K : Ctx) (params : Arguments) (body : List Stmt) (sc : Scope) (fn : Fn) (args : List Arg) : Prop where
  params : params = ⟨[], args, none, [], [], none, []⟩
  len : fn.params = (args.map (·.arg)).length
  ok : DefOk sc (args.map (·.arg))
  body : ∀ env, env.scope = sc → SsOk K ⟨env, slotsOf (args.map (·.arg)) sc⟩ body fn.body
noncomputable def rFn (B : Bg K G fa mg mb) (S : SortR K G) (extra : Nat) (body : List Stmt) (sc : Scope) : (params : Arguments) → Option { fn : Fn // ∃ args, FnOk K params body sc fn args }
  | ⟨[], args, none, [], [], none, []⟩ =>
    if hc : (decide ((args.map (·.arg)).Nodup) && (ownNames (args.map (·.arg)) sc).all (isOwn sc) && (sc.kind == .function) && !sc.isCoroutine && !sc.isGenerator) = true then
      (rSs (rS B S (ownNames (args.map (·.arg)) sc).length sc (slotsOf (args.map (·.arg)) sc) 40 20) body).map fun b => ⟨⟨(args.map (·.arg)).length, (ownNames (args.map (·.arg)) sc).length + extra, b.1⟩, args, by
        simp only [Bool.and_eq_true, decide_eq_true_eq, Bool.not_eq_true', List.all_eq_true, beq_iff_eq] at hc
        exact ⟨rfl, rfl, ⟨hc.1.1.1.1, hc.1.1.1.2, hc.1.1.2, hc.1.2, hc.2⟩, b.2⟩⟩
    else none
  | _ => none
end
end Mine

/-! MTab -/
namespace Mine
open PySem

/-- rising -/
noncomputable def Ris (xs : Array Nat) : Prop := ∀ i j, i < j → j < xs.size → xs.getD i 0 < xs.getD j 0
theorem getD_in {xs : Array Nat} {i d e : Nat} (h : i < xs.size) : xs.getD i d = xs.getD i e := by simp [Array.getD, h]

theorem below_go {xs : Array Nat} {j : Nat} (R : Ris xs) : ∀ (f lo hi : Nat), lo ≤ hi → hi ≤ xs.size → hi - lo ≤ f → (∀ i, i < lo → xs.getD i 0 < j) → (∀ i, hi ≤ i → i < xs.size → j ≤ xs.getD i 0) →
    SetTable.below.go xs j f lo hi ≤ xs.size ∧ (∀ i, i < SetTable.below.go xs j f lo hi → xs.getD i 0 < j) ∧ ∀ i, SetTable.below.go xs j f lo hi ≤ i → i < xs.size → j ≤ xs.getD i 0
  | 0, lo, hi, h1, h2, h3, a, b => by
    have : lo = hi := by omega
    subst this
    rw [show SetTable.below.go xs j 0 lo lo = lo from rfl]
    exact ⟨h2, a, b⟩
  | f + 1, lo, hi, h1, h2, h3, a, b => by
    rw [show SetTable.below.go xs j (f + 1) lo hi = if lo < hi then (if xs.getD ((lo + hi) / 2) j < j then SetTable.below.go xs j f ((lo + hi) / 2 + 1) hi else SetTable.below.go xs j f lo ((lo + hi) / 2)) else lo from rfl]
    by_cases hlt : lo < hi
    · rw [if_pos hlt]
      have hm : (lo + hi) / 2 < xs.size := by omega
      have up : ∀ i k, i ≤ k → k < xs.size → xs.getD i 0 ≤ xs.getD k 0 := fun i k h h' => by
        by_cases e : i = k
        · rw [e]; exact Nat.le_refl _
        · exact Nat.le_of_lt (R i k (by omega) h')
      rw [getD_in (e := 0) hm]
      by_cases hc : xs.getD ((lo + hi) / 2) 0 < j
      · rw [if_pos hc]
        exact below_go R f _ hi (by omega) h2 (by omega) (fun i hi' => Nat.lt_of_le_of_lt (up i ((lo + hi) / 2) (by omega) hm) hc) b
      · rw [if_neg hc]
        exact below_go R f lo _ (by omega) (by omega) (by omega) a fun i h4 h5 => Nat.le_trans (Nat.le_of_not_lt hc) (up _ i h4 h5)
    · rw [if_neg hlt]
      have : lo = hi := by omega
      subst this
      exact ⟨h2, a, b⟩
theorem below_ok {xs : Array Nat} {j : Nat} (R : Ris xs) : SetTable.below xs j ≤ xs.size ∧ (∀ i, i < SetTable.below xs j → xs.getD i 0 < j) ∧ ∀ i, SetTable.below xs j ≤ i → i < xs.size → j ≤ xs.getD i 0 :=
  below_go R xs.size 0 xs.size (Nat.zero_le _) (Nat.le_refl _) (by omega) (fun i h => by omega) fun i h h' => by omega

/-- the next place behind one -/
theorem below_next {xs : Array Nat} (R : Ris xs) {i : Nat} (h : i < xs.size) : SetTable.below xs (xs.getD i 0 + 1) = i + 1 := by
  obtain ⟨a, b, c⟩ := below_ok (j := xs.getD i 0 + 1) R
  rcases Nat.lt_trichotomy (SetTable.below xs (xs.getD i 0 + 1)) (i + 1) with h1 | h1 | h1
  · have := c i (by omega) h; omega
  · exact h1
  · have := b (i + 1) h1
    have h2 := R i (i + 1) (by omega) (by omega)
    omega
theorem below_zero {xs : Array Nat} (R : Ris xs) : SetTable.below xs 0 = 0 := by
  obtain ⟨a, b, c⟩ := below_ok (j := 0) R
  by_cases h : SetTable.below xs 0 = 0
  · exact h
  · have := b 0 (by omega); omega

theorem insertAt_size {α : Type} {xs : Array α} {p : Nat} {x : α} (h : p ≤ xs.size) : (SetTable.insertAt xs p x).size = xs.size + 1 := by
  unfold SetTable.insertAt; simp; omega
theorem insertAt_get {α : Type} {xs : Array α} {p k : Nat} {x : α} (h : p ≤ xs.size) : (SetTable.insertAt xs p x)[k]? = if k < p then xs[k]? else if k = p then some x else xs[k - 1]? := by
  unfold SetTable.insertAt
  rw [Array.getElem?_append]
  simp only [Array.size_push, Array.size_extract]
  rw [show min p xs.size - 0 = p by omega]
  by_cases h1 : k < p
  · rw [if_pos (by omega), if_pos h1, Array.getElem?_push_lt (by simp; omega)]
    simp [show k < xs.size by omega]
  · rw [if_neg h1]
    by_cases h2 : k = p
    · subst h2
      rw [if_pos (by omega), if_pos rfl]
      rw [Array.getElem?_push]
      simp [show min k xs.size = k by omega]
    · rw [if_neg (by omega), if_neg h2]
      rw [Array.getElem?_extract]
      by_cases h3 : k - 1 < xs.size
      · rw [if_pos (by omega)]; congr 1; omega
      · rw [if_neg (by omega), Array.getElem?_eq_none (by omega)]
theorem getD_get (xs : Array Nat) (k : Nat) : xs.getD k 0 = (xs[k]?).getD 0 := by rw [Array.getD_eq_getD_getElem?]
theorem ris_insert {xs : Array Nat} {j : Nat} (R : Ris xs) (hj : xs[SetTable.below xs j]? ≠ some j) : Ris (SetTable.insertAt xs (SetTable.below xs j) j) := by
  obtain ⟨a, b, c⟩ := below_ok (j := j) R
  intro i k hik hk
  rw [insertAt_size a] at hk
  rw [getD_get, getD_get, insertAt_get a, insertAt_get a]
  have hup : ∀ m, SetTable.below xs j ≤ m → m < xs.size → j < xs.getD m 0 := fun m h1 h2 => by
    have h3 := c m h1 h2
    by_cases hm : m = SetTable.below xs j
    · have h4 : xs[SetTable.below xs j]? = some (xs.getD m 0) := by rw [← hm, getD_get, Array.getElem?_eq_getElem h2]; rfl
      rw [h4] at hj
      have : xs.getD m 0 ≠ j := fun e => hj (by rw [e])
      omega
    · have h5 := c (SetTable.below xs j) (Nat.le_refl _) (by omega)
      have h6 := R (SetTable.below xs j) m (by omega) h2
      omega
  generalize SetTable.below xs j = p at *
  by_cases h1 : i < p
  · rw [if_pos h1, ← getD_get]
    by_cases h2 : k < p
    · rw [if_pos h2, ← getD_get]; exact R i k hik (by omega)
    · rw [if_neg h2]
      by_cases h3 : k = p
      · rw [if_pos h3]; exact b i h1
      · rw [if_neg h3, ← getD_get]; exact R i (k - 1) (by omega) (by omega)
  · rw [if_neg h1, if_neg (show ¬ k < p by omega), if_neg (show ¬ k = p by omega), ← getD_get]
    by_cases h2 : i = p
    · rw [if_pos h2]; exact hup (k - 1) (by omega) (by omega)
    · rw [if_neg h2, ← getD_get]; exact R (i - 1) (k - 1) (by omega) (by omega)
theorem ris_range (n : Nat) : Ris (Array.range n) := fun i j h hj => by
  have hj' : j < n := by simpa using hj
  simp [Array.getD, hj', show i < n by omega, h]

/-- a slot that a new element may take -/
noncomputable def Free (t : SetTable) (j : Nat) : Prop := t.place[SetTable.below t.place j]? ≠ some j
theorem slot_free {t : SetTable} {j : Nat} (h : ∀ i, t.slot j ≠ .live i) : Free t j := fun e => by
  refine h (SetTable.below t.place j) ?_
  unfold SetTable.slot
  simp [e]
theorem advance_dummy {t : SetTable} {p : SetTable.Probe} : (t.advance p).dummy = p.dummy := by
  unfold SetTable.advance
  split <;> rfl
theorem probe_free {t : SetTable} {f : Nat → Int} {h : Int} : ∀ (n : Nat) (p : SetTable.Probe) {j : Nat} {d : Option Nat}, (∀ e, p.dummy = some e → Free t e) → SetTable.probe.go t f h n p = some (.empty j d) → Free t j ∧ ∀ e, d = some e → Free t e
  | 0, p, j, d, _, hh => by simp [SetTable.probe.go] at hh
  | n + 1, p, j, d, hp, hh => by
    simp only [SetTable.probe.go] at hh
    split at hh
    · rename_i hs
      cases hh
      exact ⟨slot_free (fun i e => by rw [hs] at e; cases e), hp⟩
    · rename_i hs
      refine probe_free n _ (fun e he => ?_) hh
      rw [advance_dummy] at he
      cases he
      exact slot_free fun i e => by rw [hs] at e; cases e
    · split at hh
      · cases hh
      · exact probe_free n _ (fun e he => hp e (by rw [advance_dummy] at he; exact he)) hh
theorem freeSlot_free {t : SetTable} {h : Int} {j : Nat} {b : Bool} (e : t.freeSlot h = some (j, b)) : Free t j := by
  unfold SetTable.freeSlot at e
  split at e
  · rename_i j' d hp
    obtain ⟨a1, a2⟩ := probe_free _ _ (fun e he => by simp [SetTable.probeStart] at he) hp
    cases e
    cases d with
    | none => exact a1
    | some x => exact a2 x rfl
  · cases e

theorem standIn_ris {t : SetTable} {n : Nat} : Ris (t.standIn n).place := ris_range n
theorem orStandIn_ris {t : SetTable} {n : Nat} (R : Ris t.place) : Ris (t.orStandIn n).place ∧ (t.orStandIn n).led = t.led := by
  unfold SetTable.orStandIn
  split
  · exact ⟨R, rfl⟩
  · exact ⟨standIn_ris, rfl⟩
theorem layNew_ris {t : SetTable} {es : Array (Int × Value)} {h : Int} {x : Value} (R : Ris t.place) : Ris (layNew t es h x).2.1.place ∧ (layNew t es h x).2.1.led = t.led := by
  unfold layNew
  split
  · rename_i slot wd hf
    have hr : Ris (t.put slot).1.place := ris_insert R (freeSlot_free hf)
    exact orStandIn_ris (t := (t.put slot).1) hr
  · exact ⟨standIn_ris, rfl⟩
theorem ris_live {g : Nat → Option Nat} (n : Nat) : Ris ((((List.range n).filterMap fun j => (g j).map (j, ·)).map (·.1)).toArray) := by
  have hp : (((List.range n).filterMap fun j => (g j).map (j, ·)).map (·.1)).Pairwise (· < ·) := by
    rw [List.pairwise_map, List.pairwise_filterMap]
    refine List.pairwise_lt_range.imp fun {a b} hab x hx y hy => ?_
    obtain ⟨u, _, rfl⟩ := Option.map_eq_some_iff.mp hx
    obtain ⟨v, _, rfl⟩ := Option.map_eq_some_iff.mp hy
    exact hab
  intro i j hij hj
  have hj' : j < (((List.range n).filterMap fun j => (g j).map (j, ·)).map (·.1)).length := by simpa using hj
  have := List.pairwise_iff_getElem.mp hp i j (by omega) hj' hij
  rw [getD_get, getD_get]
  rw [List.getElem?_toArray, List.getElem?_toArray, List.getElem?_eq_getElem hj', List.getElem?_eq_getElem (by omega)]
  exact this
theorem relayAll_ris {t : SetTable} {es : Array (Int × Value)} {n : Nat} : Ris (relayAll t es n).2.1.place ∧ (relayAll t es n).2.1.led = t.led := by
  unfold relayAll
  split
  · rename_i t' order hr
    have key : Ris t'.place ∧ t'.led = t.led := by
      unfold SetTable.relaid SetTable.laid at hr
      simp only [Option.bind_eq_bind, Option.pure_def, Option.bind_eq_some_iff, Option.some.injEq, Prod.mk.injEq] at hr
      obtain ⟨owner, _, rfl, _⟩ := hr
      exact ⟨ris_live _, rfl⟩
    dsimp only
    split
    · exact key
    · exact ⟨standIn_ris, rfl⟩
  · exact ⟨standIn_ris, rfl⟩
end Mine

/-! MSetB -/
namespace Mine
open PySem PySem.Spec PyProof.Rows

section
variable {prog : Program} {w : World} {A : Around} {E : Value → Shared → Prop} {s : Shared}

noncomputable def keysOf (es : Array (Int × Value)) : List Int := es.toList.map fun e => numOf e.2
variable (prog w) in
/-- a set of ints, its table known so far as a walk needs it -/
noncomputable def SetR (h : Heap) (a : Addr) (led : Bool) (ks : List Int) : Prop :=
  ∃ o es ep t, h.get? a = some o ∧ o.ExactSet ∧ o.data = .set es ep t ∧ ElemsOf (intKind prog w) es.toList ∧ ks = keysOf es ∧ ks.Nodup ∧ es.size < scanBound ∧ t.fits es.size = true ∧ Ris t.place ∧ t.led = led

theorem elem_int {es : List (Int × Value)} (h : ElemsOf (intKind prog w) es) {e : Int × Value} (he : e ∈ es) : ∃ t, e.2 = .int (numOf e.2) t := by
  obtain ⟨⟨k, hk, _⟩, _⟩ := h e he
  obtain ⟨t, ht⟩ := Value.isInt_shape hk
  exact ⟨t, by rw [ht]; rfl⟩
theorem is_iff {es : List (Int × Value)} (h : ElemsOf (intKind prog w) es) {e : Int × Value} (he : e ∈ es) {k : Int} : (intKind prog w).is k e.2 = true ↔ numOf e.2 = k := by
  obtain ⟨t, ht⟩ := elem_int h he
  rw [ht]
  constructor
  · intro hk
    have hk : Value.isInt k (Value.int (numOf e.2) t) = true := hk
    obtain ⟨t', e'⟩ := Value.isInt_shape hk
    cases e'; rfl
  · intro hk
    have : numOf e.2 = k := by simpa [numOf] using hk
    rw [this]; exact intKind_is _ _ _ _

/-- an element joined, the table laid anew if it must -/
theorem add_tail {g : Bool → Sem Unit} (hg : ∀ (b : Bool) (s₁ : Shared) (Q' : Unit → Shared → Prop), Q' () s₁ → wpAny (model prog w) A (g b) Q' E s₁)
    {a : Addr} {o : Obj} {es : Array (Int × Value)} {ep : Nat} {t : SetTable} (ho : s.heap.get? a = some o) (hex : o.ExactSet) (hd : o.data = .set es ep t)
    {es1 : Array (Int × Value)} {t2 : SetTable} (hel1 : ElemsOf (intKind prog w) es1.toList) (hnd : (keysOf es1).Nodup) (hb1 : es1.size < scanBound) (hf2 : t2.fits es1.size = true) (hr : Ris t2.place) {led : Bool} (hled : t2.led = led)
    {wasDummy : Bool} {R : Option Bool → Shared → Prop}
    (h : ∀ h' ks', Heap.SameBut a s.heap h' → SetR prog w h' a led ks' → ks'.Perm (keysOf es1) → R (some true) { s with heap := h' }) :
    wpAny (model prog w) A (do
        storeSet a es1 t2
        if (!wasDummy && t2.tooFull) = true then do
            g (relayAll t2 es1 (SetTable.grown es1.size)).2.2
            storeSet a (relayAll t2 es1 (SetTable.grown es1.size)).1 (relayAll t2 es1 (SetTable.grown es1.size)).2.1
            pure (some true)
          else pure (some true)) R E s := by
  have stored : ∀ {h₁ : Heap} {o₁ : Obj} {es₁ : Array (Int × Value)} {ep₁ : Nat} {t₁ : SetTable} (es' : Array (Int × Value)) (t' : SetTable), h₁.get? a = some o₁ → o₁.data = .set es₁ ep₁ t₁ →
      (h₁.update a (Obj.putSet es' t')).get? a = some { o₁ with data := .set es' (ep₁ + 1) t' } := fun es' t' h1 h2 => by
    have := Heap.get?_update_self (Obj.putSet es' t') h1 (by rw [putSet_of es' t' h2]; rfl)
    rw [putSet_of es' t' h2] at this; exact this
  refine wpAny_bind (wpAny_storeSet_of ho hd ?_ (fits_of_scanBound hb1))
  have ho1 := stored es1 t2 ho hd
  have hsb1 := Heap.SameBut.update s.heap a (Obj.putSet es1 t2)
  split
  · have hp := relayAll_perm t2 es1 (SetTable.grown es1.size)
    have hfr := relayAll_fits t2 es1 (SetTable.grown es1.size)
    have hrr := relayAll_ris (t := t2) (es := es1) (n := SetTable.grown es1.size)
    generalize relayAll t2 es1 (SetTable.grown es1.size) = Rl at hp hfr hrr ⊢
    obtain ⟨es2, t3, gave2⟩ := Rl
    dsimp only at hp hfr hrr ⊢
    have hsz : es2.size = es1.size := by rw [← Array.length_toList, hp.length_eq, Array.length_toList]
    have hb2 : es2.size < scanBound := by rw [hsz]; exact hb1
    have hk : (keysOf es2).Perm (keysOf es1) := hp.map _
    refine wpAny_bind (hg _ _ _ ?_)
    refine wpAny_bind (wpAny_storeSet_of ho1 rfl ?_ (fits_of_scanBound hb2))
    exact wpAny_pure (h _ (keysOf es2) (hsb1.trans (Heap.SameBut.update _ a _)) ⟨_, es2, _, t3, stored es2 t3 ho1 rfl, hex, rfl, hel1.perm hp, rfl, hk.nodup_iff.mpr hnd, hb2, hfr, hrr.1, hrr.2.trans hled⟩ hk)
  · exact wpAny_pure (h _ (keysOf es1) hsb1 ⟨_, es1, _, t2, ho1, hex, rfl, hel1, rfl, hnd, hb1, hf2, hr, hled⟩ (List.Perm.refl _))

theorem add_ok {a : Addr} {led : Bool} {ks : List Int} {k : Int} {tk : Tok} {Q : Bool → Shared → Prop} (S : SetR prog w s.heap a led ks) (hroom : ks.length + 1 < scanBound)
    (h : ∀ h' ks' b, Heap.SameBut a s.heap h' → SetR prog w h' a led ks' → (∀ x, x ∈ ks' ↔ x ∈ ks ∨ x = k) → ks'.length ≤ ks.length + 1 → Q b { s with heap := h' }) :
    wpAny (model prog w) A (setAddHashed a (.int k tk) ((intKind prog w).hash k)) Q E s := by
  obtain ⟨o, es, ep, t, ho, hex, hd, hel, hks, hnd, hb, hf, hr, hled⟩ := id S
  have hlen : ks.length = es.size := by rw [hks]; simp [keysOf]
  have hkey := intKind_is prog w k tk
  have hsc : (Value.int k tk).scannable = true := rfl
  unfold setAddHashed setAddHashedIn
  refine wpAny_holding (wpAny_bind (wpAny_setState_of ho hd hf ?_))
  dsimp only
  rw [byScan_of hsc hb hel]
  simp only [↓reduceIte]
  unfold setAddByScan
  refine wpAny_bind ?_
  refine wpAny_bind (wpAny_rule ?_)
  refine wpAny_bind (wpAny_setScan_of hkey ho hd hf hel ?_)
  cases hi : List.findIdx? (fun e => (intKind prog w).is k e.2) es.toList with
  | some j =>
    dsimp only
    obtain ⟨hj, hpj, _⟩ := List.findIdx?_eq_some_iff_getElem.mp hi
    have hm : k ∈ ks := by
      rw [hks]
      exact List.mem_map.mpr ⟨es.toList[j], List.getElem_mem hj, (is_iff hel (List.getElem_mem hj)).mp hpj⟩
    refine wpAny_pure (wpAny_pure ?_)
    have e : s = { s with heap := s.heap } := by cases s; rfl
    rw [e]
    exact h s.heap ks _ (Heap.SameBut.refl a s.heap) S (fun x => ⟨.inl, fun q => q.elim id fun q => q ▸ hm⟩) (Nat.le_succ _)
  | none =>
    dsimp only
    have hm : k ∉ ks := fun q => by
      rw [hks] at q
      obtain ⟨e, he, hk⟩ := List.mem_map.mp q
      have h1 := List.findIdx?_eq_none_iff.mp hi e he
      rw [(is_iff hel he).mpr hk] at h1; cases h1
    have hgw : ∀ (b : Bool) {s₁ : Shared} {Q' : Unit → Shared → Prop}, Q' () s₁ → wpAny (model prog w) A (match b with | true => rule "set.scan.the-table-gave-way" | false => pure ()) Q' E s₁ :=
      fun b s₁ Q' hq => by cases b <;> first | exact wpAny_pure hq | exact wpAny_rule hq
    have hperm := layNew_perm t es ((intKind prog w).hash k) (.int k tk)
    have hfits := layNew_fits t es ((intKind prog w).hash k) (.int k tk)
    have hris := layNew_ris (es := es) (h := (intKind prog w).hash k) (x := .int k tk) hr
    generalize layNew t es ((intKind prog w).hash k) (.int k tk) = L at hperm hfits hris ⊢
    obtain ⟨es1, t1, wasDummy, gave⟩ := L
    dsimp only at hperm hfits hris ⊢
    rw [Array.toList_push] at hperm
    have hel1 : ElemsOf (intKind prog w) es1.toList := (hel.push hkey hsc).perm hperm
    have hsz1 : es1.size = es.size + 1 := by rw [← Array.length_toList, hperm.length_eq, List.length_append, Array.length_toList]; rfl
    have hk1 : (keysOf es1).Perm (ks ++ [k]) := by
      rw [hks]
      have := hperm.map fun e => numOf e.2
      rw [List.map_append] at this
      exact this
    have hnd1 : (keysOf es1).Nodup := by
      rw [hk1.nodup_iff, List.nodup_append]
      exact ⟨hnd, by simp, fun x hx y hy e => by simp at hy; subst hy; subst e; exact hm hx⟩
    have hb1' : es1.size < scanBound := by omega
    refine wpAny_bind (hgw _ ?_)
    have hend : ∀ h' ks', Heap.SameBut a s.heap h' → SetR prog w h' a led ks' → ks'.Perm (keysOf es1) → Q true { s with heap := h' } := fun h' ks' hsb hS hp => by
      have hp' := hp.trans hk1
      refine h h' ks' true hsb hS (fun x => ?_) (by rw [hp'.length_eq]; simp)
      rw [hp'.mem_iff]; simp
    split
    · refine wpAny_bind ?_
      rw [hashByValue_scannable 8 hsc]
      refine wpAny_pure ?_
      refine add_tail ?_ ho hex hd hel1 hnd1 hb1' ?_ ?_ (led := led) ?_ ?_
      · intro b s₁ Q' hq; cases b <;> first | exact wpAny_pure hq | exact wpAny_rule hq
      · exact hfits
      · exact hris.1
      · exact hris.2.trans hled
      · intro h' ks' hsb hS' hp; dsimp only; exact wpAny_pure (hend h' ks' hsb hS' hp)
    · refine wpAny_bind (wpAny_pure ?_)
      simp only [↓reduceIte]
      refine add_tail ?_ ho hex hd hel1 hnd1 hb1' hfits hris.1 (led := led) (hris.2.trans hled) ?_
      · intro b s₁ Q' hq; cases b <;> first | exact wpAny_pure hq | exact wpAny_rule hq
      · intro h' ks' hsb hS' hp; dsimp only; exact wpAny_pure (hend h' ks' hsb hS' hp)
end

section
variable {prog : Program} {w : World} {A : Around} {R : Result → Shared → Prop} {I : Addr} {fp wr : List Addr} {G : Array GenState → Array GenState → Prop} {n : Nat} {P : Nat → Value → Prop} {St : Nat → Shared → Prop}

theorem SetR.keep {h h' : Heap} {a : Addr} {led : Bool} {ks : List Int} (S : SetR prog w h a led ks) (k : ∀ o, h.get? a = some o → h'.get? a = some o) : SetR prog w h' a led ks := by
  obtain ⟨o, es, ep, t, ho, rest⟩ := S
  exact ⟨o, es, ep, t, k o ho, rest⟩

theorem update_loop (W : WalksS prog w A.in1 I fp wr G n P St) (S : Addr) (hSf : S ∉ fp) (val : Nat → Int) (hval : ∀ i v, P i v → ∃ t, v = .int (val i) t) (hb : n + 1 < scanBound) {led : Bool} :
    ∀ (k i : Nat) (s : Shared) (ks : List Int), n - i = k → i ≤ n → St i s → SetR prog w s.heap S led ks → (∀ x, x ∈ ks ↔ ∃ j, j < i ∧ val j = x) → ks.length ≤ i →
      (∀ s' ks', Moved (S :: wr) G s s' → SetR prog w s'.heap S led ks' → (∀ x, x ∈ ks' ↔ ∃ j, j < n ∧ val j = x) → ks'.length ≤ n → R (.ok (.ret .none)) s') →
      codeAny (model prog w) A (.builtin "set.update.loop" ⟨[.ref S, .ref I], []⟩) R s := by
  have hSw : S ∉ wr := fun h => hSf (W.sub _ h)
  have hsub : ∀ b ∈ wr, b ∈ S :: wr := fun b hb => List.mem_cons_of_mem _ hb
  intro k
  induction k with
  | zero =>
    intro i s ks hk hi hst hS hm hl hR
    have hin : i = n := by omega
    subst hin
    refine codeAny_builtin F.entry_set_update_loop ?_
    rw [Around.under_plainId F.plain_set_update_loop _]
    show wpAny _ A.in1 (pyNext (.ref I) >>= _) _ _ s
    refine wpAny_bind (W.done s _ _ hst fun s' hmv => ?_)
    show wpAny _ A.in1 (ret Value.none) _ _ s'
    exact wpAny_pure (hR s' ks (hmv.mono hsub) (hS.keep fun o e => hmv.heap S _ hSw e) hm hl)
  | succ k ih =>
    intro i s ks hk hi hst hS hm hl hR
    have hlt : i < n := by omega
    refine codeAny_builtin F.entry_set_update_loop ?_
    rw [Around.under_plainId F.plain_set_update_loop _]
    show wpAny _ A.in1 (pyNext (.ref I) >>= _) _ _ s
    refine wpAny_bind (W.item i s _ _ hlt hst fun v s' hP hst' hmv => ?_)
    obtain ⟨t, rfl⟩ := hval i v hP
    have hS' := hS.keep (h' := s'.heap) fun o e => hmv.heap S _ hSw e
    show wpAny _ A.in1 (holding [Value.int (val i) t] (setAdd S (.int (val i) t)) >>= _) _ _ s'
    refine wpAny_bind (wpAny_holding ?_)
    unfold setAdd
    refine wpAny_holding ?_
    refine wpAny_bind ((intKind prog w).pyHash (k := val i) (intKind_is _ _ _ _) ?_)
    refine add_ok (s := { s' with toks := s'.toks + 1 }) hS' (by omega) fun h' ks' b hsb hS2 hm2 hl2 => ?_
    refine wpAny_pure ⟨plainId_quiet F.plain_set_update_loop _, ih (i + 1) _ ks' (by omega) hlt (W.frame _ s' _ _ hst' (Nat.le_succ _) fun b hb o e => ?_) hS2 (fun x => ?_) (by omega) fun s'' ks'' hm'' hS'' hms hls => ?_⟩
    · rw [hsb.2 b (fun h : b = S => hSf (by rw [← h]; exact hb))]; exact e
    · rw [hm2 x, hm x]
      constructor
      · rintro (⟨j, h1, h2⟩ | rfl)
        · exact ⟨j, by omega, h2⟩
        · exact ⟨i, by omega, rfl⟩
      · rintro ⟨j, h1, h2⟩
        by_cases hj : j = i
        · exact .inr (by rw [← h2, hj])
        · exact .inl ⟨j, by omega, h2⟩
    · refine hR s'' ks'' (Moved.trans W.gtrans ((hmv.mono hsub).then_heap (Nat.le_succ _) fun b o hb e => ?_) hm'') hS'' hms hls
      rw [hsb.2 b (fun h : b = S => hb (by rw [h]; exact List.mem_cons_self))]; exact e
end
end Mine

/-! MSetC -/
namespace Mine
open PySem PySem.Spec PyProof.Rows

/-- do the sets of this world stand by their tables? -/
noncomputable def ledIn (w : World) : Bool := !w.params.followText "set-order"

section
variable {prog : Program} {w : World} {A : Around} {E : Value → Shared → Prop} {s : Shared}

theorem set_new_led (a : Value) {Q₁ : Value → Shared → Prop}
    (h : Q₁ (.ref s.heap.objs.size) { s with heap := s.heap.push { cls := .type "set", dict := none, data := .set #[] 0 (.fresh 0 0 (ledIn w)) } }) :
    codeAny (model prog w) A (.call (.builtin "set.__new__") ⟨[.type "set", a], []⟩) (wants Q₁ E) s := by
  refine codeAny_of_tree ?_
  show wpAny _ A.in1 (do checkBuiltinCall "set.__new__" ⟨[.type "set", a], []⟩; again (.builtin "set.__new__" ⟨[.type "set", a], []⟩)) _ _ s
  refine wpAny_bind (wpAny_of_eq (PySem.F.newCall_set_1 a) (wpAny_pure ⟨plainId_quiet PySem.F.plain_set_new _, codeAny_builtin PySem.F.entry_set_new ?_⟩))
  rw [Around.under_plainId PySem.F.plain_set_new _]
  unfold Builtin.«set.__new__» Builtin.Frozenset.newClass
  have hsub := sub_set_self
  obtain ⟨hp, g, d, tk, os⟩ := s
  dsimp only
  wp_walk
  refine wpAny_askSetting (wpAny_pure ?_)
  dsimp only
  simp only [newObj]
  refine wpAny_bind (wpAny_alloc (wpAny_pure ?_))
  exact wpAny_pure h

theorem fresh_set {h : Heap} {led : Bool} : SetR prog w (h.push { cls := .type "set", dict := none, data := .set #[] 0 (.fresh 0 0 led) }) h.objs.size led [] :=
  ⟨_, #[], 0, _, Heap.get?_push_size _ rfl, ⟨rfl, rfl, rfl⟩, rfl, fun e he => by simp at he, rfl, List.nodup_nil, by decide, rfl, fun i j _ hj => by simp [SetTable.fresh] at hj, rfl⟩

set_option maxRecDepth 100000 in
set_option maxHeartbeats 3200000 in
theorem call_set {l : Addr} {items : Array Value} {ns : List Int} {Q : Value → Shared → Prop}
    (hh : A.handled = none) (hl : s.heap.IsList l items) (hi : IntsAre items.toList ns) (hb : items.size + 1 < scanBound)
    (h : ∀ (h' : Heap) (tk : Nat) (ks : List Int), SetR prog w h' s.heap.objs.size (ledIn w) ks → (∀ x, x ∈ ks ↔ x ∈ ns) → ks.length ≤ items.size →
      (∀ b o, b < s.heap.objs.size → s.heap.get? b = some o → h'.get? b = some o) → Q (.ref s.heap.objs.size) { s with heap := h', toks := tk }) :
    wpAny (model prog w) A (call (.type "set") [.ref l]) Q E s := by
  have hlen : items.size = ns.length := by have := IntsAre.length hi; simpa using this
  obtain ⟨c, tl, hmro⟩ := F.called_set.mro
  have hmade := F.called_set.made
  have hsub := F.called_set.sub
  refine wpAny_call (codeAny_of_tree ?_)
  show wpAny _ _ (callAny (.type "set") _) _ _ _
  refine wpAny_pure ⟨Code.quiet_builtin _ (by decide +kernel), codeAny_builtin F.entry_type_call ?_⟩
  rw [Around.under_plain (weight_type_call_type "set" [.ref l] []) rfl]
  have h1 := F.called_set.notType
  have h2 := F.called_set.canCreate
  have hct := PySem.F.typeCall_set_1 (.ref l)
  repeat (any_goals (first | assumption | wp_step))
  refine codeAny_mono (set_new_led (.ref l) (E := E) (Q₁ := fun obj s₁ => obj = .ref s.heap.objs.size ∧ s₁ = { s with heap := s.heap.push { cls := .type "set", dict := none, data := .set #[] 0 (.fresh 0 0 (ledIn w)) } }) ⟨rfl, rfl⟩) fun r s₁ hr => ?_
  cases r with
  | error e => exact hr
  | ok fl =>
    cases fl with
    | ret obj =>
      obtain ⟨rfl, rfl⟩ := hr
      have hS : (s.heap.push { cls := .type "set", dict := none, data := .set #[] 0 (.fresh 0 0 (ledIn w)) }).get? s.heap.objs.size = some { cls := .type "set", dict := none, data := .set #[] 0 (.fresh 0 0 (ledIn w)) } := Heap.get?_push_size _ rfl
      have hT : Shared.TypeIs { s with heap := s.heap.push { cls := .type "set", dict := none, data := .set #[] 0 (.fresh 0 0 (ledIn w)) } } (.ref s.heap.objs.size) "set" := ⟨_, hS, rfl⟩
      have hli := F.called_set.init.lookup
      have hbi := F.called_set.init.bind (.ref s.heap.objs.size)
      repeat (any_goals (first | assumption | wp_step))
      refine codeAny_mono (codeAny_call_builtin (R := wants (fun r s₂ => r = .none ∧ ∃ h' tk ks, s₂ = { s with heap := h', toks := tk } ∧ SetR prog w h' s.heap.objs.size (ledIn w) ks ∧ (∀ x, x ∈ ks ↔ x ∈ ns) ∧ ks.length ≤ items.size ∧
          (∀ b o, b < s.heap.objs.size → s.heap.get? b = some o → h'.get? b = some o)) E) F.called_set.init.plain F.entry_set_init (check_set_init_1 hT ?_)) fun r₂ s₂ hr₂ => ?_
      · obtain ⟨ol, hol, hcl, nl, hdl⟩ := hl
        obtain ⟨ocls, odict, odata, oslots⟩ := ol
        simp only at hcl hdl
        subst hcl; subst hdl
        have hol' : (s.heap.push { cls := .type "set", dict := none, data := .set #[] 0 (.fresh 0 0 (ledIn w)) }).get? l = some { cls := .type "list", dict := odict, data := .seq items nl, slots := oslots } := Heap.get?_push_of_some _ hol
        have hsls := PySem.F.sub_list_set
        have hslf := PySem.F.sub_list_frozenset
        have hne : (Value.type "list" == Value.type "dict") = false := by decide
        have hl1 : (s.heap.push { cls := .type "set", dict := none, data := .set #[] 0 (.fresh 0 0 (ledIn w)) }).IsList l items := ⟨_, hol', rfl, nl, rfl⟩
        unfold Builtin.«set.__init__» noKeywords Builtin.Frozenset.updateFrom
        generalize hPI : pyIter = PI
        wp_walk
        subst hPI
        refine wpAny_pyIter_list hl1 ?_
        refine wpAny_bind (wpAny_runValue ?_)
        have hlS : l < s.heap.objs.size := Heap.lt_size hol
        have hh3 : A.in1.in1.in1.handled = none := by simp [hh]
        have hneI : l ≠ (s.heap.push { cls := .type "set", dict := none, data := .set #[] 0 (.fresh 0 0 (ledIn w)) }).objs.size := by
          rw [Heap.size_push]; exact Nat.ne_of_lt (Nat.lt_succ_of_lt hlS)
        have hSf : s.heap.objs.size ∉ [(s.heap.push { cls := .type "set", dict := none, data := .set #[] 0 (.fresh 0 0 (ledIn w)) }).objs.size, l] := by
          rw [Heap.size_push]; simp only [List.mem_cons, List.mem_singleton, List.not_mem_nil, or_false, not_or]
          exact ⟨Nat.ne_of_lt (Nat.lt_succ_self _), Nat.ne_of_gt hlS⟩
        have hval : ∀ (i : Nat) (v : Value), items[i]? = some v → ∃ t, v = .int ((fun i => ns.getD i 0) i) t := fun i v hv =>
          IntsAre.int_at hi i v (by rw [Array.getElem?_toList]; exact hv)
        refine update_loop ((Walks.list hh3 _ l hneI items).toS) s.heap.objs.size hSf (fun i => ns.getD i 0) hval hb (led := ledIn w) (items.size - 0) 0 _ [] (by omega) (Nat.zero_le _)
          ⟨⟨_, Heap.get?_push_size _ rfl, rfl, rfl⟩, (hl1.push _)⟩ (fresh_set.keep fun o e => Heap.get?_push_of_some _ e) (fun x => ⟨fun q => absurd q (by simp), fun ⟨j, hj, _⟩ => absurd hj (Nat.not_lt_zero _)⟩) (Nat.le_refl _) ?_
        intro s' ks hm hS' hms hls
        obtain ⟨h', g', d', tk', os'⟩ := s'
        have eg : g' = s.gens := hm.gens
        have ed : d' = s.drawn := hm.drawn
        have eo : os' = s.os := hm.os
        subst eg; subst ed; subst eo
        show wpAny _ _ _ _ _ _
        refine wpAny_pure ?_
        show wpAny _ _ (ret Value.none) _ _ _
        refine wpAny_pure ⟨rfl, h', tk', ks, rfl, hS', fun x => ?_, hls, fun b o hb e => ?_⟩
        · rw [hms x]
          constructor
          · rintro ⟨j, hj, rfl⟩
            have : j < ns.length := by omega
            simp [this]
          · intro hx
            obtain ⟨j, hj, e⟩ := List.mem_iff_getElem.mp hx
            exact ⟨j, by omega, by simp [hj, e]⟩
        · have hb1 : b ≠ s.heap.objs.size := Nat.ne_of_lt hb
          have hb2 : b ≠ (s.heap.push { cls := .type "set", dict := none, data := .set #[] 0 (.fresh 0 0 (ledIn w)) }).objs.size := by
            rw [Heap.size_push]; exact Nat.ne_of_lt (Nat.lt_succ_of_lt hb)
          exact hm.heap b o (by simp only [List.mem_cons, List.mem_singleton, List.not_mem_nil, or_false, not_or]; exact ⟨hb1, hb2⟩) (Heap.get?_push_of_some _ (Heap.get?_push_of_some _ e))
      · cases r₂ with
        | error e => exact hr₂
        | ok fl₂ =>
          cases fl₂ with
          | ret r =>
            obtain ⟨rfl, h', tk, ks, rfl, hS', hms, hls, hk'⟩ := hr₂
            repeat (any_goals (first | assumption | wp_step))
            exact h _ _ _ hS' hms hls hk'
          | _ => exact hr₂.elim
    | _ => exact hr.elim
end
end Mine

/-! MSetI -/
namespace Mine
open PySem PySem.Spec PyProof.Rows
set_option maxRecDepth 100000

theorem entry_set_iter : entryFor table "set.__iter__" = some Builtin.«frozenset.__iter__» :=
  entryFor_alias (id' := "frozenset.__iter__") (by kernel_rfl) rfl (by decide +kernel) (by kernel_rfl)
theorem slot_setiter_next : Slot "set_iterator" "__next__" "set_iterator.__next__" :=
  .of (owner := "set_iterator") (n := "__next__") (by rw [typeLookup_type, builtinLookup_eq_fast]; kernel_rfl) (by decide +kernel) (by decide +kernel) (by decide +kernel)
    (by first | exact .inl (by decide +kernel) | exact .inr (by decide +kernel)) (by rw [isSubtype_type]; kernel_rfl)
theorem entry_setiter_next : entryFor table "set_iterator.__next__" = some Builtin.«set_iterator.__next__» := entryFor_of_fast (by kernel_rfl)
theorem args_setiter_next (a : Value) : argsOk "set_iterator.__next__" ⟨[a], []⟩ := by unfold argsOk; kernel_rfl

section
variable {prog : Program} {w : World} {A : Around} {E : Value → Shared → Prop} {s : Shared}

noncomputable def iterObj (first : Value) (i : Nat) (a : Addr) (n ep : Nat) : Obj := { cls := .type "set_iterator", data := .fields #[first, rawInt i, .ref a, rawInt n, rawInt ep] }

theorem enter_next {I a : Addr} {first : Value} {i n ep : Nat} {o : Obj} {es : Array (Int × Value)} {t : SetTable} {Q : PySem.Fin → Shared → Prop} {A : Around} (hI : s.heap.get? I = some (iterObj first i a n ep)) (ho : s.heap.get? a = some o) (hd : o.data = .set es ep t) (hf : t.fits es.size = true) (hn : es.size = n)
    (h : wpAny (model prog w) A (match first with
      | .int slot _ => do
        match ← setNext a slot.toNat i ep with
        | some (x, next) => do
          setField (.ref I) 0 (rawInt next)
          setField (.ref I) 1 (rawInt ((i : Int) + 1))
          ret x
        | none => do
          setField (.ref I) 2 .none
          raiseNew (← newExc (.type "StopIteration") [])
      | _ => do
        let some places ← seqItems? first | unsupported "internal:set_iterator"
        match places[i]? with
        | some (.int place _) => do
          let x ← setNextDrawn a place.toNat ep
          setField (.ref I) 1 (rawInt ((i : Int) + 1))
          ret x
        | some _ => unsupported "internal:set_iterator"
        | none => do
          setField (.ref I) 0 (rawInt 0)
          setField (.ref I) 2 .none
          raiseNew (← newExc (.type "StopIteration") [])) Q E s) : wpAny (model prog w) A (Builtin.«set_iterator.__next__» ⟨[.ref I], []⟩) Q E s := by
  unfold Builtin.«set_iterator.__next__»
  refine wpAny_bind (m := slotArgs "__next__" 0 _) (wpAny_pure ?_)
  dsimp only
  refine wpAny_bind (wpAny_fieldsOf hI rfl ?_)
  dsimp only [rawInt]
  refine wpAny_bind (wpAny_setEntries_of ho hd hf ?_)
  rw [if_neg (by simp [hn])]
  exact h

theorem next_some {I a : Addr} {slot nx i n ep : Nat} {x : Value} {o : Obj} {es : Array (Int × Value)} {t : SetTable} {Q : Option Value → Shared → Prop} (hI : s.heap.get? I = some (iterObj (rawInt slot) i a n ep)) (ho : s.heap.get? a = some o) (hd : o.data = .set es ep t) (hf : t.fits es.size = true) (hn : es.size = n)
    (hs : ∀ (E' : Value → Shared → Prop) (Q' : Option (Value × Nat) → Shared → Prop), Q' (some (x, nx)) s → wpAny (model prog w) A.in1 (setNext a slot i ep) Q' E' s)
    (hQ : ∀ h', h'.get? I = some (iterObj (rawInt nx) (i + 1) a n ep) → Heap.SameBut I s.heap h' → Q (some x) { s with heap := h' }) : wpAny (model prog w) A (pyNext (.ref I)) Q E s := by
  have hT : s.TypeIs (.ref I) "set_iterator" := ⟨_, hI, rfl⟩
  unfold pyNext
  refine wpAny_bind (wpAny_attempt (wpAny_callSpecial?_slot (name := Str.ofString "__next__") hT slot_setiter_next
    (wpAny_call_entry slot_setiter_next hT entry_setiter_next (enter_next hI ho hd hf hn ?_) (args_setiter_next _))))
  show wpAny _ _ (setNext a slot i ep >>= _) _ _ s
  refine wpAny_bind (hs _ _ ?_)
  dsimp only
  have hI1 : (s.heap.update I (Obj.mapFields (·.setIfInBounds 0 (rawInt nx)))).get? I = some (iterObj (rawInt nx) i a n ep) := Heap.get?_update_self _ hI rfl
  have hI2 : ((s.heap.update I (Obj.mapFields (·.setIfInBounds 0 (rawInt nx)))).update I (Obj.mapFields (·.setIfInBounds 1 (rawInt ((i : Int) + 1))))).get? I = some (iterObj (rawInt nx) (i + 1) a n ep) := Heap.get?_update_self _ hI1 rfl
  refine wpAny_bind (wpAny_setField hI rfl (by simp [iterObj]) ?_)
  refine wpAny_bind (wpAny_setField hI1 rfl (by simp) ?_)
  exact wpAny_pure ⟨x, rfl, wpAny_pure (hQ _ hI2 ((Heap.SameBut.update ..).trans (Heap.SameBut.update ..)))⟩

theorem stop_go {I : Addr} {o : Obj} {vs : Array Value} {Q : Option Value → Shared → Prop} {s₀ : Shared} (hh : A.handled = none) (hI : s.heap.get? I = some o) (hd : o.data = .fields vs) (hz : 2 < vs.size) (hx : Heap.SameBut I s₀.heap s.heap)
    (hQ : ∀ h', Heap.ExtBut I s₀.heap h' → Q none { s with heap := h' }) :
    wpAny (model prog w) A.in1 (do setField (.ref I) 2 .none; raiseNew (← newExc (.type "StopIteration") [])) (fun (_ : PySem.Fin) _ => False)
      (fun e s' => wpAny (model prog w) A (do if ← isInstance e (.type "StopIteration") then pure none else throw e) Q E s') s := by
  refine wpAny_bind (wpAny_setField hI hd hz ?_)
  show wpAny _ _ (newExc (.type "StopIteration") [] >>= _) _ _ _
  refine wpAny_bind ?_
  simp only [newExc, newTuple]
  refine wpAny_bind (wpAny_newObj_type ?_ (by size_fits))
  refine wpAny_bind (m := firstArgMember _ _) (wpAny_of_eq (a := Value.none) (by first | rfl | (simp only [firstArgMember]; rfl)) ?_)
  refine wpAny_newObj_type ?_ (by size_fits)
  simp only [raiseNew]
  refine wpAny_bind (wpAny_handled ?_)
  rw [show A.in1.handled = none from hh]
  refine wpAny_bind (wpAny_pure (wpAny_throw ?_))
  refine wpAny_bind (wpAny_isInstance (T := "StopIteration") (b := true) ⟨_, Heap.get?_push_size _ rfl, rfl⟩ isSubtype_stop ?_)
  exact wpAny_pure (hQ _ ((((hx.trans (Heap.SameBut.update ..)).extBut).push _).push _))
theorem next_none {I a : Addr} {slot i n ep : Nat} {o : Obj} {es : Array (Int × Value)} {t : SetTable} {Q : Option Value → Shared → Prop} (hh : A.handled = none) (hI : s.heap.get? I = some (iterObj (rawInt slot) i a n ep)) (ho : s.heap.get? a = some o) (hd : o.data = .set es ep t) (hf : t.fits es.size = true) (hn : es.size = n)
    (hs : ∀ (E' : Value → Shared → Prop) (Q' : Option (Value × Nat) → Shared → Prop), Q' none s → wpAny (model prog w) A.in1 (setNext a slot i ep) Q' E' s)
    (hQ : ∀ h', Heap.ExtBut I s.heap h' → Q none { s with heap := h' }) : wpAny (model prog w) A (pyNext (.ref I)) Q E s := by
  have hT : s.TypeIs (.ref I) "set_iterator" := ⟨_, hI, rfl⟩
  unfold pyNext
  refine wpAny_bind (wpAny_attempt (wpAny_callSpecial?_slot (name := Str.ofString "__next__") hT slot_setiter_next
    (wpAny_call_entry slot_setiter_next hT entry_setiter_next (enter_next hI ho hd hf hn ?_) (args_setiter_next _))))
  show wpAny _ _ (setNext a slot i ep >>= _) _ _ s
  refine wpAny_bind (hs _ _ ?_)
  dsimp only
  exact wpAny_mono (stop_go hh hI rfl (by simp) (Heap.SameBut.refl _ _) hQ) (fun _ _ f => f.elim) fun _ _ e => e

theorem ite_no {α : Type} {M : Model} {c : Prop} [Decidable c] {x y : Sem α} {Q : α → Shared → Prop} (h : ¬ c) (q : wpAny M A y Q E s) : wpAny M A (if c then x else y) Q E s := by rw [if_neg h]; exact q
theorem ite_yes {α : Type} {M : Model} {c : Prop} [Decidable c] {x y : Sem α} {Q : α → Shared → Prop} (h : c) (q : wpAny M A x Q E s) : wpAny M A (if c then x else y) Q E s := by rw [if_pos h]; exact q
theorem byText_ok {Q : Bool → Shared → Prop} (q : Q (w.params.followText "set-order") s) : wpAny (model prog w) A setsByText Q E s := by
  unfold setsByText
  exact wpAny_bind (wpAny_askSetting (wpAny_pure q))

/-- where the walk stands behind i elements -/
noncomputable def slAt (pl : Array Nat) : Nat → Nat
  | 0 => 0
  | i + 1 => pl.getD i 0 + 1
theorem below_sl {pl : Array Nat} (R : Ris pl) : ∀ {i : Nat}, i ≤ pl.size → SetTable.below pl (slAt pl i) = i
  | 0, _ => below_zero R
  | i + 1, h => below_next R (by omega)

theorem setNext_led {a : Addr} {i ep : Nat} {o : Obj} {es : Array (Int × Value)} {t : SetTable} (ho : s.heap.get? a = some o) (hd : o.data = .set es ep t) (hf : t.fits es.size = true) (R : Ris t.place) (hw : w.params.followText "set-order" = false) (hl : t.led = true) (hp : ¬ (t.plain = false ∧ 1 < es.size)) (hi : i ≤ es.size) :
    ∀ (E' : Value → Shared → Prop) (Q' : Option (Value × Nat) → Shared → Prop), Q' (es[i]?.map fun e => (e.2, slAt t.place (i + 1))) s → wpAny (model prog w) A (setNext a (slAt t.place i) i ep) Q' E' s := by
  intro E' Q' q
  have hsz : t.place.size = es.size := by simp only [SetTable.fits, Bool.and_eq_true, beq_iff_eq] at hf; exact hf.1
  unfold setNext
  refine wpAny_bind (wpAny_setState_of ho hd hf ?_)
  dsimp only
  refine wpAny_bind (byText_ok ?_)
  rw [hw]
  refine ite_no (by decide) ?_
  refine ite_no (show ¬ ((!t.plain && decide (es.size > 1)) = true) by
    intro h
    simp only [Bool.and_eq_true, Bool.not_eq_true', decide_eq_true_eq] at h
    exact hp h) ?_
  refine wpAny_bind (show wpAny (model prog w) A (if (!t.led && !es.isEmpty) = true then unsupported _ else pure ()) _ _ _ from ite_no (by simp [hl]) (wpAny_pure ?_))
  rw [below_sl R (by omega)]
  refine wpAny_pure ?_
  by_cases h : i < es.size
  · have e1 : es[i]? = some es[i] := Array.getElem?_eq_getElem h
    have e2 : t.place[i]? = some (t.place.getD i 0) := by rw [getD_get, Array.getElem?_eq_getElem (by omega)]; rfl
    rw [e1] at q ⊢
    rw [e2]
    exact q
  · have e1 : es[i]? = none := Array.getElem?_eq_none (by omega)
    rw [e1] at q ⊢
    exact q

theorem erase_perm {α : Type} : ∀ (l : List α) (i : Nat) (h : i < l.length), (l[i] :: l.eraseIdx i).Perm l
  | x :: l, 0, _ => by simp
  | x :: l, i + 1, h => by
    have hi : i < l.length := by simpa using h
    rw [List.eraseIdx_cons_succ, List.getElem_cons_succ]
    exact (List.Perm.swap _ _ _).trans (List.Perm.cons _ (erase_perm l i hi))
theorem pick_go {α : Type} (nx : Nat → Nat) : ∀ (f k : Nat) (left : List α) (out : Array α), f = left.length → (pickOrder.go nx f k left out).toList.Perm (out.toList ++ left)
  | 0, k, left, out, h => by
    have : left = [] := List.length_eq_zero_iff.mp h.symm
    subst this
    simp [pickOrder.go]
  | f + 1, k, left, out, h => by
    have hlt : nx k % left.length < left.length := Nat.mod_lt _ (by omega)
    rw [pickOrder.go, List.getElem?_eq_getElem hlt]
    dsimp only
    refine (pick_go nx f (k + 1) _ _ (by rw [List.length_eraseIdx_of_lt hlt]; omega)).trans ?_
    rw [Array.toList_push, List.append_assoc]
    exact List.Perm.append_left _ (erase_perm _ _ hlt)
theorem pick_perm {α : Type} (nx : Nat → Nat) (xs : Array α) : (pickOrder nx xs).toList.Perm xs.toList := by
  have := pick_go nx xs.size 0 xs.toList #[] (by simp)
  simpa [pickOrder] using this

theorem setNext_text {a : Addr} {i ep slot : Nat} {o : Obj} {es : Array (Int × Value)} {t : SetTable} (ho : s.heap.get? a = some o) (hd : o.data = .set es ep t) (hf : t.fits es.size = true) (hw : w.params.followText "set-order" = true) :
    ∀ (E' : Value → Shared → Prop) (Q' : Option (Value × Nat) → Shared → Prop), Q' ((pickOrder (w.params.setOrder a ep) es)[i]?.map fun e => (e.2, slot)) s → wpAny (model prog w) A (setNext a slot i ep) Q' E' s := by
  intro E' Q' q
  unfold setNext
  refine wpAny_bind (wpAny_setState_of ho hd hf ?_)
  dsimp only
  refine wpAny_bind (byText_ok ?_)
  rw [hw]
  refine ite_yes rfl ?_
  refine ite_no (by simp) ?_
  refine wpAny_bind ?_
  unfold setWalk
  refine wpAny_bind (wpAny_setState_of ho hd hf ?_)
  dsimp only
  refine wpAny_bind (byText_ok ?_)
  rw [hw]
  refine ite_yes rfl ?_
  refine wpAny_bind (wpAny_askSetting (wpAny_pure (wpAny_pure ?_)))
  exact q

/-- an order drawn -/
theorem draw_ok {α : Type} : ∀ (n : Nat) (xs : List α) (s : Shared) {Q : List α → Shared → Prop}, n = xs.length → (∀ ys dr, ys.Perm xs → Q ys { s with drawn := dr }) → wpAny (model prog w) A (drawOrder n xs) Q E s
  | 0, xs, s, Q, h, q => by
    have : xs = [] := List.length_eq_zero_iff.mp h.symm
    subst this
    unfold drawOrder
    exact wpAny_pure (q [] s.drawn (List.Perm.refl _))
  | n + 1, [], s, Q, h, q => by simp at h
  | n + 1, x :: xs, s, Q, h, q => by
    unfold drawOrder
    refine wpAny_bind ?_
    refine fun Γ p hΓ => ⟨by simp, ?_⟩
    have hlt : w.draws .order (s.drawn.get .order) % (x :: xs).length < (x :: xs).length := Nat.mod_lt _ (by simp)
    show wpAny (model prog w) A (match (x :: xs)[w.draws .order (s.drawn.get .order) % (x :: xs).length]? with
      | some y => do return y :: (← drawOrder n ((x :: xs).eraseIdx (w.draws .order (s.drawn.get .order) % (x :: xs).length)))
      | none => unsupported "internal:drawOrder") Q E { s with drawn := s.drawn.bump .order }
    generalize w.draws .order (s.drawn.get .order) % (x :: xs).length = j at hlt ⊢
    rw [List.getElem?_eq_getElem hlt]
    dsimp only
    refine wpAny_bind (draw_ok n _ _ (by rw [List.length_eraseIdx_of_lt hlt]; simp at h; simp; omega) fun ys dr hp => wpAny_pure ?_)
    exact q _ dr ((List.Perm.cons _ hp).trans (erase_perm _ _ hlt))
end
end Mine

/-! MSetW -/
namespace Mine
open PySem PySem.Spec PyProof.Rows
set_option maxRecDepth 100000

theorem slot_setiter_iter : Slot "set_iterator" "__iter__" "set_iterator.__iter__" :=
  .of (owner := "set_iterator") (n := "__iter__") (by rw [typeLookup_type, builtinLookup_eq_fast]; kernel_rfl) (by decide +kernel) (by decide +kernel) (by decide +kernel)
    (by first | exact .inl (by decide +kernel) | exact .inr (by decide +kernel)) (by rw [isSubtype_type]; kernel_rfl)
theorem entry_setiter_iter : entryFor table "set_iterator.__iter__" = some Builtin.«dict_keyiterator.__iter__» :=
  entryFor_alias (id' := "dict_keyiterator.__iter__") (by kernel_rfl) rfl (by decide +kernel) (by kernel_rfl)
theorem args_setiter_iter (a : Value) : argsOk "set_iterator.__iter__" ⟨[a], []⟩ := by unfold argsOk; kernel_rfl

noncomputable def sameG : Array GenState → Array GenState → Prop := fun a b => b = a
/-- the i-th of the elements, as the walk meets them -/
noncomputable def outAt (out : Array (Int × Value)) (i : Nat) (v : Value) : Prop := ∃ e, out[i]? = some e ∧ v = e.2

section
variable {prog : Program} {w : World} {A : Around} {E : Value → Shared → Prop} {s : Shared}

theorem iter_self {I : Addr} {first : Value} {i n ep : Nat} {a : Addr} {Q : Value → Shared → Prop} (hI : s.heap.get? I = some (iterObj first i a n ep)) (q : Q (.ref I) s) : wpAny (model prog w) A (pyIter (.ref I)) Q E s := by
  have hT : s.TypeIs (.ref I) "set_iterator" := ⟨_, hI, rfl⟩
  refine wpAny_pyIter_slot hT slot_setiter_iter (wpAny_call_entry slot_setiter_iter hT entry_setiter_iter ?_ (args_setiter_iter _))
  show wpAny _ _ (ret (.ref I)) _ _ s
  exact wpAny_pure ⟨_, rfl, "set_iterator", _, hT, slot_setiter_next.lookup, q⟩

/-- a walk that asks setNext -/
theorem walk_next {I a : Addr} {n ep : Nat} {o : Obj} {es out : Array (Int × Value)} {t : SetTable} (hh : A.handled = none) (hIa : a ≠ I) (hd : o.data = .set es ep t) (hf : t.fits es.size = true) (hn : es.size = n) (ho : out.size = n) (sl : Nat → Nat)
    (hs : ∀ (s : Shared) (i : Nat), i ≤ n → s.heap.get? a = some o → ∀ (E' : Value → Shared → Prop) (Q' : Option (Value × Nat) → Shared → Prop), Q' (out[i]?.map fun e => (e.2, sl (i + 1))) s → wpAny (model prog w) A.in1 (setNext a (sl i) i ep) Q' E' s) :
    WalksS prog w A I [I, a] [I] sameG n (outAt out) (fun i s => i ≤ n ∧ s.heap.get? I = some (iterObj (rawInt (sl i)) i a n ep) ∧ s.heap.get? a = some o) where
  sub := fun b hb => by simp at hb; subst hb; simp
  grefl := fun _ => rfl
  gtrans := fun _ _ _ h1 h2 => h2.trans h1
  frame := fun i s h' tk st _ k => ⟨st.1, k I (by simp) _ st.2.1, k a (by simp) _ st.2.2⟩
  item := fun i s Q E hi st hQ => by
    have e : out[i]? = some out[i] := Array.getElem?_eq_getElem (by omega)
    refine next_some (x := out[i].2) (nx := sl (i + 1)) st.2.1 st.2.2 hd hf hn (fun E' Q' q => hs s i (by omega) st.2.2 E' Q' (by rw [e]; exact q)) fun h' h1 h2 => ?_
    refine hQ _ _ ⟨out[i], e, rfl⟩ ⟨hi, h1, (h2.2 a hIa).trans st.2.2⟩ ⟨fun b ob hb eb => (h2.2 b (by simpa using hb)).trans eb, rfl, rfl, rfl, Nat.le_refl _⟩
  done := fun s Q E st hQ => by
    have e : out[n]? = none := Array.getElem?_eq_none (by omega)
    refine next_none hh st.2.1 st.2.2 hd hf hn (fun E' Q' q => hs s n (Nat.le_refl _) st.2.2 E' Q' (by rw [e]; exact q)) fun h' h1 => hQ _ ⟨fun b ob hb eb => h1 b ob (by simpa using hb) eb, rfl, rfl, rfl, Nat.le_refl _⟩
  self := fun i s Q E st q => iter_self st.2.1 q

noncomputable def drawnOut (es : Array (Int × Value)) (π : List Nat) : Array (Int × Value) := (π.map fun j => es[j]?.getD (0, .none)).toArray
theorem drawnOut_perm {es : Array (Int × Value)} {π : List Nat} (h : π.Perm (List.range es.size)) : (drawnOut es π).toList.Perm es.toList := by
  have e : (List.range es.size).map (fun j => es[j]?.getD (0, .none)) = es.toList := by
    apply List.ext_getElem?
    intro i
    rw [List.getElem?_map]
    by_cases hi : i < es.size
    · simp [hi]
    · simp [hi]
  have := h.map fun j => es[j]?.getD (0, .none)
  rw [e] at this
  simpa [drawnOut] using this

theorem next_drawn {I a T : Addr} {i n ep j : Nat} {o oT : Obj} {es : Array (Int × Value)} {t : SetTable} {pl : Array Value} {c : Nat} {Q : Option Value → Shared → Prop} (hI : s.heap.get? I = some (iterObj (.ref T) i a n ep)) (ho : s.heap.get? a = some o) (hd : o.data = .set es ep t) (hf : t.fits es.size = true) (hn : es.size = n)
    (hT : s.heap.get? T = some oT) (hdT : oT.data = .seq pl c) (hpl : pl[i]? = some (rawInt j)) {x : Int × Value} (hx : es[j]? = some x)
    (hQ : ∀ h', h'.get? I = some (iterObj (.ref T) (i + 1) a n ep) → Heap.SameBut I s.heap h' → Q (some x.2) { s with heap := h' }) : wpAny (model prog w) A (pyNext (.ref I)) Q E s := by
  have hTy : s.TypeIs (.ref I) "set_iterator" := ⟨_, hI, rfl⟩
  unfold pyNext
  refine wpAny_bind (wpAny_attempt (wpAny_callSpecial?_slot (name := Str.ofString "__next__") hTy slot_setiter_next
    (wpAny_call_entry slot_setiter_next hTy entry_setiter_next (enter_next hI ho hd hf hn ?_) (args_setiter_next _))))
  dsimp only
  refine wpAny_bind (wpAny_seqItems hT hdT ?_)
  dsimp only
  rw [hpl]
  dsimp only [rawInt]
  refine wpAny_bind ?_
  unfold setNextDrawn
  refine wpAny_bind (wpAny_setState_of ho hd hf ?_)
  dsimp only
  refine ite_no (by simp) ?_
  rw [Int.toNat_natCast, hx]
  refine wpAny_pure ?_
  have hI1 : (s.heap.update I (Obj.mapFields (·.setIfInBounds 1 (rawInt ((i : Int) + 1))))).get? I = some (iterObj (.ref T) (i + 1) a n ep) := Heap.get?_update_self _ hI rfl
  refine wpAny_bind (wpAny_setField hI rfl (by simp) ?_)
  exact wpAny_pure ⟨x.2, rfl, wpAny_pure (hQ _ hI1 (Heap.SameBut.update ..))⟩
theorem end_drawn {I a T : Addr} {i n ep : Nat} {o oT : Obj} {es : Array (Int × Value)} {t : SetTable} {pl : Array Value} {c : Nat} {Q : Option Value → Shared → Prop} (hh : A.handled = none) (hI : s.heap.get? I = some (iterObj (.ref T) i a n ep)) (ho : s.heap.get? a = some o) (hd : o.data = .set es ep t) (hf : t.fits es.size = true) (hn : es.size = n)
    (hT : s.heap.get? T = some oT) (hdT : oT.data = .seq pl c) (hpl : pl[i]? = none)
    (hQ : ∀ h', Heap.ExtBut I s.heap h' → Q none { s with heap := h' }) : wpAny (model prog w) A (pyNext (.ref I)) Q E s := by
  have hTy : s.TypeIs (.ref I) "set_iterator" := ⟨_, hI, rfl⟩
  unfold pyNext
  refine wpAny_bind (wpAny_attempt (wpAny_callSpecial?_slot (name := Str.ofString "__next__") hTy slot_setiter_next
    (wpAny_call_entry slot_setiter_next hTy entry_setiter_next (enter_next hI ho hd hf hn ?_) (args_setiter_next _))))
  dsimp only
  refine wpAny_bind (wpAny_seqItems hT hdT ?_)
  dsimp only
  rw [hpl]
  dsimp only
  have hI1 : (s.heap.update I (Obj.mapFields (·.setIfInBounds 0 (rawInt 0)))).get? I = some (iterObj (rawInt 0) i a n ep) := Heap.get?_update_self _ hI rfl
  refine wpAny_bind (wpAny_setField hI rfl (by simp) ?_)
  exact wpAny_mono (stop_go (s₀ := s) (s := { s with heap := s.heap.update I (Obj.mapFields (·.setIfInBounds 0 (rawInt 0))) }) hh hI1 rfl (by simp) (Heap.SameBut.update ..) hQ) (fun _ _ f => f.elim) fun _ _ e => e

theorem walk_drawn {I a T : Addr} {n ep : Nat} {o oT : Obj} {es : Array (Int × Value)} {t : SetTable} {π : List Nat} {c : Nat} (hh : A.handled = none) (hIa : a ≠ I) (hIT : T ≠ I) (hd : o.data = .set es ep t) (hf : t.fits es.size = true) (hn : es.size = n) (hπ : π.Perm (List.range es.size)) (hdT : oT.data = .seq (π.map fun (j : Nat) => rawInt j).toArray c) :
    WalksS prog w A I [I, a, T] [I] sameG n (outAt (drawnOut es π)) (fun i s => i ≤ n ∧ s.heap.get? I = some (iterObj (.ref T) i a n ep) ∧ s.heap.get? a = some o ∧ s.heap.get? T = some oT) where
  sub := fun b hb => by simp at hb; subst hb; simp
  grefl := fun _ => rfl
  gtrans := fun _ _ _ h1 h2 => h2.trans h1
  frame := fun i s h' tk st _ k => ⟨st.1, k I (by simp) _ st.2.1, k a (by simp) _ st.2.2.1, k T (by simp) _ st.2.2.2⟩
  item := fun i s Q E hi st hQ => by
    have hlen : π.length = es.size := by rw [hπ.length_eq, List.length_range]
    have hi' : i < π.length := by omega
    have hj : π[i] < es.size := by simpa using hπ.mem_iff.mp (List.getElem_mem hi')
    have hx : es[π[i]]? = some es[π[i]] := Array.getElem?_eq_getElem hj
    refine next_drawn st.2.1 st.2.2.1 hd hf hn st.2.2.2 hdT (j := π[i]) (by simp [hi']) hx fun h' h1 h2 => ?_
    refine hQ _ _ ⟨es[π[i]], by simp [drawnOut, hi', hj], rfl⟩ ⟨hi, h1, (h2.2 a hIa).trans st.2.2.1, (h2.2 T hIT).trans st.2.2.2⟩ ⟨fun b ob hb eb => (h2.2 b (by simpa using hb)).trans eb, rfl, rfl, rfl, Nat.le_refl _⟩
  done := fun s Q E st hQ => by
    have hlen : π.length = es.size := by rw [hπ.length_eq, List.length_range]
    refine end_drawn hh st.2.1 st.2.2.1 hd hf hn st.2.2.2 hdT (by simp; omega) fun h' h1 => hQ _ ⟨fun b ob hb eb => h1 b ob (by simpa using hb) eb, rfl, rfl, rfl, Nat.le_refl _⟩
  self := fun i s Q E st q => iter_self st.2.1 q

/-- what a walk over a set begins with -/
structure SetWalk (prog : Program) (w : World) (A : Around) (es : Array (Int × Value)) (a : Addr) (s₀ s : Shared) (I : Addr) : Prop where
  walk : ∃ fp out St, out.toList.Perm es.toList ∧ WalksS prog w A I fp [I] sameG es.size (outAt out) St ∧ St 0 s ∧ ∀ b ∈ fp, b = a ∨ s₀.heap.objs.size ≤ b
  old : s₀.heap.objs.size ≤ I
  keep : ∀ b o, s₀.heap.get? b = some o → s.heap.get? b = some o
  size : s₀.heap.objs.size ≤ s.heap.objs.size
  os : s.os = s₀.os
  gens : s.gens = s₀.gens

theorem iter_set {a : Addr} {o : Obj} {es : Array (Int × Value)} {ep : Nat} {t : SetTable} {Q : Value → Shared → Prop} {A' : Around} (hh : A'.handled = none) (ho : s.heap.get? a = some o) (hex : o.ExactSet) (hd : o.data = .set es ep t) (hf : t.fits es.size = true) (R : Ris t.place) (hl : t.led = ledIn w)
    (hz : es.size < scanBound) (q : ∀ I s₁, SetWalk prog w A' es a s s₁ I → Q (.ref I) s₁) : wpAny (model prog w) A (pyIter (.ref a)) Q E s := by
  have hT : s.TypeIs (.ref a) "set" := ⟨o, ho, hex.1⟩
  have ha : a < s.heap.objs.size := Heap.lt_size ho
  refine wpAny_pyIter_slot hT PySem.F.slot_set_iter (wpAny_call_entry PySem.F.slot_set_iter hT entry_set_iter ?_ (PySem.F.args_set_iter_1 _))
  unfold Builtin.«frozenset.__iter__»
  refine wpAny_bind (m := Builtin.Frozenset.slot0 "__iter__" _) (wpAny_pure ?_)
  refine wpAny_bind ?_
  unfold Builtin.Frozenset.sizeOf
  refine wpAny_bind (wpAny_setEntries_of ho hd hf (wpAny_pure ?_))
  refine wpAny_bind ?_
  unfold setDrawn
  refine wpAny_bind (wpAny_setState_of ho hd hf ?_)
  dsimp only
  refine wpAny_bind (byText_ok (wpAny_pure ?_))
  have make : ∀ (s₁ : Shared) (first : Value), s₁.heap.get? a = some o → (Q (.ref s₁.heap.objs.size) { s₁ with heap := s₁.heap.push (iterObj first 0 a es.size ep) }) →
      wpAny (model prog w) A.in1 (do ret (← newFields "set_iterator" [first, rawInt 0, .ref a, rawInt es.size, rawInt (← setEpoch a)])) (fun fin s' => ∃ v, fin = .done (.ret v) ∧ (∃ T' r, s'.TypeIs v T' ∧ typeLookup (.type T') "__next__" = pure (some r) ∧ Q v s')) E s₁ := fun s₁ first ho₁ hq => by
    refine wpAny_bind (wpAny_setEpoch_of ho₁ hd hf ?_)
    refine wpAny_bind (wpAny_newObj_type ?_ (by size_fits))
    exact wpAny_pure ⟨_, rfl, "set_iterator", _, ⟨_, Heap.get?_push_size _ rfl, rfl⟩, slot_setiter_next.lookup, hq⟩
  by_cases hdr : (!w.params.followText "set-order" && (!t.plain && decide (es.size > 1))) = true
  · refine ite_yes (show (!w.params.followText "set-order" && (!t.plain && decide (es.size > 1))) = true from hdr) ?_
    refine wpAny_bind (draw_ok es.size (List.range es.size) s (by simp) fun π dr hp => ?_)
    have hlen : π.length = es.size := by rw [hp.length_eq, List.length_range]
    refine wpAny_bind (wpAny_newTuple ?_ (by rw [List.length_map, hlen]; exact fits_of_scanBound hz))
    have hT1 : (s.heap.push { cls := .type "tuple", data := .seq (π.map fun (j : Nat) => rawInt j).toArray }).get? s.heap.objs.size = some { cls := .type "tuple", data := .seq (π.map fun (j : Nat) => rawInt j).toArray } := Heap.get?_push_size _ rfl
    refine make _ _ (Heap.get?_push_of_some _ ho) (q _ _ ⟨⟨[(s.heap.push { cls := .type "tuple", data := .seq (π.map fun (j : Nat) => rawInt j).toArray }).objs.size, a, s.heap.objs.size], drawnOut es π, _, drawnOut_perm hp,
      walk_drawn (T := s.heap.objs.size) (o := o) (ep := ep) (c := 0) hh ?_ ?_ hd hf rfl hp rfl, ⟨Nat.zero_le _, Heap.get?_push_size _ rfl, Heap.get?_push_of_some _ (Heap.get?_push_of_some _ ho), Heap.get?_push_of_some _ hT1⟩, ?_⟩, ?_, fun b o e => Heap.get?_push_of_some _ (Heap.get?_push_of_some _ e), ?_, rfl, rfl⟩)
    · rw [Heap.size_push]; exact Nat.ne_of_lt (Nat.lt_succ_of_lt ha)
    · rw [Heap.size_push]; exact Nat.ne_of_lt (Nat.lt_succ_self _)
    · intro b hb
      simp only [List.mem_cons, List.not_mem_nil, or_false] at hb
      simp only [Heap.size_push] at hb
      rcases hb with rfl | rfl | rfl
      · exact .inr (Nat.le_succ _)
      · exact .inl rfl
      · exact .inr (Nat.le_refl _)
    · simp only [Heap.size_push]; exact Nat.le_succ _
    · simp only [Heap.size_push]; exact Nat.le_succ_of_le (Nat.le_succ _)
  · refine ite_no (show ¬ ((!w.params.followText "set-order" && (!t.plain && decide (es.size > 1))) = true) from hdr) (wpAny_bind (wpAny_pure ?_))
    have hne : a ≠ s.heap.objs.size := Nat.ne_of_lt ha
    cases hw : w.params.followText "set-order" with
    | true =>
      refine make s (rawInt 0) ho (q _ _ ⟨⟨[s.heap.objs.size, a], pickOrder (w.params.setOrder a ep) es, _, pick_perm _ _, walk_next (o := o) (ep := ep) (t := t) hh hne hd hf rfl ?_ (fun _ => 0) (fun s' i _ h' => setNext_text h' hd hf hw), ⟨Nat.zero_le _, Heap.get?_push_size _ rfl, Heap.get?_push_of_some _ ho⟩, ?_⟩, Nat.le_refl _, fun b o e => Heap.get?_push_of_some _ e, ?_, rfl, rfl⟩)
      · have := (pick_perm (w.params.setOrder a ep) es).length_eq; simpa using this
      · intro b hb
        simp only [List.mem_cons, List.not_mem_nil, or_false] at hb
        rcases hb with rfl | rfl
        · exact .inr (Nat.le_refl _)
        · exact .inl rfl
      · simp only [Heap.size_push]; exact Nat.le_succ _
    | false =>
      rw [hw] at hdr
      have hp : ¬ (t.plain = false ∧ 1 < es.size) := fun h => hdr (by simp [h.1, h.2])
      have hled : t.led = true := by rw [hl]; simp [ledIn, hw]
      refine make s (rawInt 0) ho (q _ _ ⟨⟨[s.heap.objs.size, a], es, _, List.Perm.refl _, walk_next (o := o) (ep := ep) (t := t) hh hne hd hf rfl rfl (slAt t.place) (fun s' i hi h' => setNext_led h' hd hf R hw hled hp hi), ⟨Nat.zero_le _, Heap.get?_push_size _ rfl, Heap.get?_push_of_some _ ho⟩, ?_⟩, Nat.le_refl _, fun b o e => Heap.get?_push_of_some _ e, ?_, rfl, rfl⟩)
      · intro b hb
        simp only [List.mem_cons, List.not_mem_nil, or_false] at hb
        rcases hb with rfl | rfl
        · exact .inr (Nat.le_refl _)
        · exact .inl rfl
      · simp only [Heap.size_push]; exact Nat.le_succ _
end
end Mine

/-! MSetS -/
namespace Mine
open PySem PySem.Spec PyProof.Rows
set_option maxRecDepth 100000

theorem len_set : typeLookup (.type "set") "__len__" = pure (some (.builtin "set.__len__")) := by rw [typeLookup_type, builtinLookup_eq_fast]; kernel_rfl

section
variable {prog : Program} {w : World} {A : Around} {E : Value → Shared → Prop} {s : Shared}

theorem collect_set {a : Addr} {ks : List Int} {Q : List Value → Shared → Prop} (hh : A.handled = none) (S : SetR prog w s.heap a (ledIn w) ks)
    (q : ∀ acc ns s', IntsAre acc ns → ns.Perm ks → (∀ b o, s.heap.get? b = some o → s'.heap.get? b = some o) → s.heap.objs.size ≤ s'.heap.objs.size → s'.os = s.os → s'.gens = s.gens → Q acc s') : wpAny (model prog w) A (collect (.ref a)) Q E s := by
  obtain ⟨o, es, ep, t, ho, hex, hd, hel, hks, hnd, hb, hf, hr, hled⟩ := id S
  have ha : a < s.heap.objs.size := Heap.lt_size ho
  have hT : s.TypeIs (.ref a) "set" := ⟨o, ho, hex.1⟩
  unfold collect
  refine wpAny_bind (wpAny_runValue (codeAny_builtin PySem.F.entry_proto_collect ?_))
  rw [Around.under_plainId PySem.F.plain_proto_collect _]
  show wpAny _ A.in1 (newList [] >>= fun l => again (.builtin "list.__iadd__" ⟨[l, .ref a], []⟩)) _ _ s
  refine wpAny_bind (wpAny_newObj_type ?_)
  refine wpAny_pure ⟨plainId_quiet PySem.F.plain_list_iadd _, codeAny_builtin PySem.F.entry_list_iadd ?_⟩
  rw [Around.under_plainId PySem.F.plain_list_iadd _]
  have hS₁ : (s.heap.push { cls := .type "list", data := .seq ([] : List Value).toArray }).get? s.heap.objs.size = some { cls := .type "list", data := .seq ([] : List Value).toArray } := Heap.get?_push_size _ rfl
  have ho₁ : (s.heap.push { cls := .type "list", data := .seq ([] : List Value).toArray }).get? a = some o := Heap.get?_push_of_some _ ho
  show wpAny _ A.in1 (Builtin.List.listExtendWith (.ref s.heap.objs.size) (.ref a) (.ref s.heap.objs.size)) _ _ _
  unfold Builtin.List.listExtendWith
  have hT₁ : Shared.TypeIs { s with heap := s.heap.push { cls := .type "list", data := .seq ([] : List Value).toArray } } (.ref a) "set" := ⟨o, ho₁, hex.1⟩
  refine wpAny_bind (wpAny_typeOf hT₁ ?_)
  have h1 : Builtin.List.listSameRef (.ref s.heap.objs.size) (.ref a) = false := by
    simp only [Builtin.List.listSameRef, beq_eq_false_iff_ne, ne_eq]; exact Nat.ne_of_gt ha
  have h2 : (Value.type "set" == Value.type "list") = false := by decide
  have h3 : (Value.type "set" == Value.type "tuple") = false := by decide
  simp only [h1, h2, h3, Bool.or_false, Bool.false_eq_true, if_false]
  refine wpAny_bind (iter_set (A' := A.in1) (s := { s with heap := s.heap.push { cls := .type "list", data := .seq ([] : List Value).toArray } }) hh ho₁ hex hd hf hr hled hb fun I s₂ W => ?_)
  obtain ⟨fp, out, St, hout, WS, hst, hfp⟩ := W.walk
  have hT₂ : s₂.TypeIs (.ref a) "set" := ⟨o, W.keep a o ho₁, hex.1⟩
  refine wpAny_bind (wpAny_holding ?_)
  unfold Builtin.List.listLengthHint
  refine wpAny_bind (wpAny_specialOf hT₂ len_set ?_)
  (generalize hid : ("set.__len__" : String) = id0; wp_delta; rw [show splitId id0 = some ("set", "__len__") from by subst hid; decide +kernel]; subst hid)
  refine wpAny_bind (wpAny_isInstance (b := true) hT₂ sub_set_self ?_)
  refine wpAny_bind (wpAny_typeOf hT₂ ?_)
  refine wpAny_pure ?_
  refine ite_yes (by decide) ?_
  refine wpAny_bind (wpAny_rule ?_)
  have hS₂ := W.keep _ _ hS₁
  have hSf : s.heap.objs.size ∉ fp := fun m => by
    rcases hfp _ m with e | e
    · exact Nat.ne_of_gt ha e
    · rw [Heap.size_push] at e; exact Nat.not_succ_le_self _ e
  refine wpAny_bind ?_
  show wpAny _ A.in1 (updateSeq s.heap.objs.size (·.push .none) >>= fun _ => updateSeq s.heap.objs.size (·.pop)) _ _ _
  refine wpAny_bind (wpAny_updateSeq hS₂ rfl ?_)
  have hS₃ := Heap.get?_update_self (Obj.mapSeq (·.push Value.none)) hS₂ rfl
  refine wpAny_updateSeq hS₃ rfl ?_
  have hS₄ := Heap.get?_update_self (Obj.mapSeq (·.pop)) hS₃ rfl
  have oth : ∀ b o, b ≠ s.heap.objs.size → s₂.heap.get? b = some o → ((s₂.heap.update s.heap.objs.size (Obj.mapSeq (·.push Value.none))).update s.heap.objs.size (Obj.mapSeq (·.pop))).get? b = some o :=
    fun b o hb e => (Heap.get?_update_other _ _ (Ne.symm hb)).trans ((Heap.get?_update_other _ _ (Ne.symm hb)).trans e)
  refine wpAny_pure ⟨plainId_quiet PySem.F.plain_extend_loop _, codeAny_extend_loopS WS (fits_of_scanBound hb) _ hSf _ es.size 0 _ _ _ rfl (Nat.zero_le _)
    (WS.frame 0 s₂ _ s₂.toks hst (Nat.le_refl _) fun b hb o e => oth b o (fun h => hSf (h ▸ hb)) e) hS₄ (ItemsOf.nil _) fun s' acc' c' hm hS' hacc => ?_⟩
  show wpAny _ A (load s.heap.objs.size >>= _) _ _ s'
  refine wpAny_bind (wpAny_load hS' ?_)
  have hsz : out.size = es.size := by have := hout.length_eq; simpa using this
  have hacc' : acc'.toList = out.toList.map (·.2) := by
    apply List.ext_getElem?
    intro j
    rw [Array.getElem?_toList, List.getElem?_map, Array.getElem?_toList]
    by_cases hj : j < es.size
    · have hj' : j < acc'.size := by rw [hacc.1]; exact hj
      have e1 : acc'[j]? = some acc'[j] := Array.getElem?_eq_getElem hj'
      obtain ⟨e, h1, h2⟩ := hacc.2 j _ e1
      rw [e1, h1, h2]; rfl
    · rw [Array.getElem?_eq_none (by rw [hacc.1]; omega), Array.getElem?_eq_none (by omega)]; rfl
  have hint : ∀ v ∈ acc'.toList, ∃ n t, v = Value.int n t := fun v hv => by
    rw [hacc'] at hv
    obtain ⟨e, he, rfl⟩ := List.mem_map.mp hv
    obtain ⟨t, ht⟩ := elem_int hel (hout.mem_iff.mp he)
    exact ⟨_, t, ht⟩
  refine wpAny_pure (q acc'.toList _ s' (intsAre_map _ hint) ?_ (fun b o e => ?_) ?_ ?_ ?_)
  · rw [hacc', List.map_map, hks]
    exact hout.map _
  · have hb : b < s.heap.objs.size := Heap.lt_size e
    have hbI : b ≠ I := fun h => by
      have := W.old
      rw [Heap.size_push] at this
      rw [h] at hb
      exact Nat.lt_irrefl _ (Nat.lt_trans hb (Nat.lt_of_succ_le this))
    refine hm.heap b o ?_ (oth b o (Nat.ne_of_lt hb) (W.keep b o (Heap.get?_push_of_some _ e)))
    simp only [List.mem_cons, List.not_mem_nil, or_false, not_or]
    exact ⟨Nat.ne_of_lt hb, hbI⟩
  · exact Nat.le_of_lt (Heap.lt_size hS')
  · exact hm.os.trans W.os
  · exact hm.gens.trans W.gens

theorem sorted_set {a : Addr} {ks : List Int} {Q : Value → Shared → Prop} (hh : A.handled = none) (S : SetR prog w s.heap a (ledIn w) ks) (h64 : ks.length < 64)
    (q : ∀ D (out : Array Value) (ns : List Int) (h' : Heap) (s' : Shared) (c : Nat), IntsAre out.toList ns → ns.Perm ks → ns.Pairwise (· ≤ ·) → s.heap.get? D = none → h'.get? D = some { cls := .type "list", data := .seq out c } → (∀ b o, s.heap.get? b = some o → h'.get? b = some o) → s'.os = s.os → s'.gens = s.gens → Q (.ref D) { s' with heap := h' }) :
    wpAny (model prog w) A (call (.builtin "sorted") [.ref a]) Q E s := by
  refine Calls.call_function_entry kind_sorted plain_sorted entry_sorted (args_sorted1 _) ?_
  unfold Builtin.«sorted»
  refine wpAny_bind (m := checkCount "sorted" 1 1 _) (wpAny_pure ?_)
  refine wpAny_bind (collect_set hh S fun acc ns s₁ hI hp hk hz hos hg => ?_)
  have hlen : acc.length = ks.length := (IntsAre.length hI).trans hp.length_eq
  refine wpAny_bind (wpAny_newList ?_ (by rw [hlen, sizeLine_eq]; omega))
  have hoL : (s₁.heap.push (seqObj "list" acc.toArray 0)).get? s₁.heap.objs.size = some (seqObj "list" acc.toArray 0) := Heap.get?_push_size _ rfl
  have hlt : ∀ b o, s₁.heap.get? b = some o → b ≠ s₁.heap.objs.size := fun b o e => Nat.ne_of_lt (Heap.lt_size e)
  refine wpAny_bind (wpAny_holding (wpAny_call_entry (s := { s₁ with heap := s₁.heap.push (seqObj "list" acc.toArray 0) }) slot_list_sort ⟨_, hoL, rfl⟩ entry_list_sort (list_sort_tree (s := { s₁ with heap := s₁.heap.push (seqObj "list" acc.toArray 0) }) hoL hI (by omega) fun out ns' a1 a2 a3 => ⟨_, rfl, ?_⟩) (args_list_sort _)))
  obtain ⟨c1, g1⟩ : ∃ c1, ((s₁.heap.push (seqObj "list" acc.toArray 0)).update s₁.heap.objs.size (Obj.mapSeq fun _ => (#[] : Array Value))).get? s₁.heap.objs.size = some (seqObj "list" #[] c1) := ⟨_, get?_update_seq hoL fun _ => #[]⟩
  have g2 : ((((s₁.heap.push (seqObj "list" acc.toArray 0)).update s₁.heap.objs.size (Obj.mapSeq fun _ => (#[] : Array Value))).push (seqObj "tuple" acc.toArray 0)).push (seqObj "list" #[] 0)).get? s₁.heap.objs.size = some (seqObj "list" #[] c1) := Heap.get?_push_of_some _ (Heap.get?_push_of_some _ g1)
  obtain ⟨c3, g3⟩ : ∃ c3, (sortedHeap (s₁.heap.push (seqObj "list" acc.toArray 0)) s₁.heap.objs.size acc out).get? s₁.heap.objs.size = some (seqObj "list" out c3) := ⟨_, get?_update_seq g2 fun _ => out⟩
  refine wpAny_pure ⟨_, rfl, q s₁.heap.objs.size out ns' _ s₁ c3 a1 (a2.trans hp) a3 ?_ g3 (fun b o e => ?_) hos hg⟩
  · exact Heap.get?_none_of_le hz
  · have e1 := hk b o e
    have hb := hlt b o e1
    unfold sortedHeap
    rw [Heap.get?_update_ne _ _ _ _ hb]
    refine Heap.get?_push_of_some _ (Heap.get?_push_of_some _ ?_)
    rw [Heap.get?_update_ne _ _ _ _ hb]
    exact Heap.get?_push_of_some _ e1
end
end Mine

/-! MSort -/
namespace Mine
open PySem PySem.W PyProof.Rows

/-- a tree of questions, answered by lt; all of them below n -/
noncomputable def Tr (lt : Nat → Nat → Bool) (n : Nat) {α : Type} : KasT α → (α → Prop) → Prop
  | .ret a, Q => Q a
  | .ask i j k, Q => i < n ∧ j < n ∧ Tr lt n (k (lt i j)) Q
theorem Tr.bind {lt : Nat → Nat → Bool} {n : Nat} {α β : Type} {f : α → KasT β} {Q : β → Prop} : ∀ {t : KasT α}, Tr lt n t (fun a => Tr lt n (f a) Q) → Tr lt n (t.bind f) Q
  | .ret a, h => h
  | .ask i j k, h => ⟨h.1, h.2.1, Tr.bind (t := k (lt i j)) h.2.2⟩
theorem Tr.mono {lt : Nat → Nat → Bool} {n : Nat} {α : Type} {Q Q' : α → Prop} (hq : ∀ a, Q a → Q' a) : ∀ {t : KasT α}, Tr lt n t Q → Tr lt n t Q'
  | .ret a, h => hq a h
  | .ask i j k, h => ⟨h.1, h.2.1, Tr.mono (t := k (lt i j)) hq h.2.2⟩

/-- a weak order, strict -/
structure Weak (lt : Nat → Nat → Bool) : Prop where
  irr : ∀ i, lt i i = false
  asy : ∀ i j, lt i j = true → lt j i = false
  neg : ∀ i j k, lt i k = true → lt i j = true ∨ lt j k = true

variable {lt : Nat → Nat → Bool}
theorem Weak.tr (W : Weak lt) {i j k : Nat} (h1 : lt i j = true) (h2 : lt j k = true) : lt i k = true := by
  rcases W.neg i k j h1 with h | h
  · exact h
  · rw [W.asy _ _ h2] at h; cases h
/-- ahead, what is alike by its place -/
noncomputable def Bf (lt : Nat → Nat → Bool) (i j : Nat) : Prop := lt i j = true ∨ (lt j i = false ∧ i < j)
theorem Bf.no (W : Weak lt) {i j : Nat} (h : Bf lt i j) : lt j i = false := h.elim (fun h => W.asy _ _ h) fun h => h.1
theorem Bf.trans (W : Weak lt) {i j k : Nat} (h1 : Bf lt i j) (h2 : Bf lt j k) : Bf lt i k := by
  rcases h1 with a | ⟨a, b⟩
  · rcases W.neg i k j a with h | h
    · exact .inl h
    · rw [h2.no W] at h; cases h
  · rcases h2 with c | ⟨c, e⟩
    · rcases W.neg j i k c with h | h
      · rw [a] at h; cases h
      · exact .inl h
    · cases hk : lt k i with
      | false => exact .inr ⟨hk, by omega⟩
      | true =>
        rcases W.neg k j i hk with h | h
        · rw [c] at h; cases h
        · rw [a] at h; cases h

noncomputable def at' (p : Array Nat) (k : Nat) : Nat := p.getD k 0
theorem sat_eq (p : Array Nat) (k : Nat) : at' p k = (p[k]?).getD 0 := by unfold at'; rw [Array.getD_eq_getD_getElem?]

/-- the places from m on stand as they stood -/
structure Fix (n : Nat) (p : Array Nat) (m : Nat) : Prop where
  size : p.size = n
  perm : p.Perm (List.toArray (List.range n))
  le : m ≤ n
  rest : ∀ k, m ≤ k → k < n → at' p k = k
  low : ∀ k, k < m → at' p k < m
theorem Fix.inb {n m : Nat} {p : Array Nat} (F : Fix n p m) {k : Nat} (h : k < n) : at' p k < n := by
  by_cases hk : k < m
  · exact Nat.lt_of_lt_of_le (F.low k hk) F.le
  · rw [F.rest k (by omega) h]; exact h
theorem Fix.up {n m m' : Nat} {p : Array Nat} (F : Fix n p m) (h : m ≤ m') (h' : m' ≤ n) : Fix n p m' where
  size := F.size
  perm := F.perm
  le := h'
  rest := fun k a b => F.rest k (by omega) b
  low := fun k a => by
    by_cases hk : k < m
    · have := F.low k hk; omega
    · rw [F.rest k (by omega) (by omega)]; exact a

theorem at_rev {p : Array Nat} {i j k : Nat} (hj : j ≤ p.size) (hij : i ≤ j) : at' (kas_rev p i j) k = if i ≤ k ∧ k < j then at' p (i + j - 1 - k) else at' p k := by
  unfold kas_rev
  rw [sat_eq, getElem?_mirror hj _ (by omega)]
  by_cases h : i ≤ k ∧ k < j
  · rw [if_pos h]
    by_cases h2 : (i ≤ k ∧ k < i + (j - i) / 2) ∨ (j - (j - i) / 2 ≤ k ∧ k < j)
    · rw [if_pos h2, sat_eq]
    · rw [if_neg h2, sat_eq]
      have : k = i + j - 1 - k := by omega
      rw [← this]
  · rw [if_neg h, if_neg (by omega), sat_eq]
theorem Fix.rev {n m i j : Nat} {p : Array Nat} (F : Fix n p m) (hij : i ≤ j) (hj : j ≤ m) : Fix n (kas_rev p i j) m where
  size := by unfold kas_rev; rw [mirror_size]; exact F.size
  perm := (mirror_perm _ _ _ _).trans F.perm
  le := F.le
  rest := fun k a b => by
    rw [at_rev (by rw [F.size]; have := F.le; omega) hij, if_neg (by omega)]; exact F.rest k a b
  low := fun k a => by
    rw [at_rev (by rw [F.size]; have := F.le; omega) hij]
    split
    · exact F.low _ (by omega)
    · exact F.low _ a

noncomputable def Srt (lt : Nat → Nat → Bool) (p : Array Nat) (m : Nat) : Prop := ∀ i j, i < j → j < m → Bf lt (at' p i) (at' p j)
noncomputable def Dsc (lt : Nat → Nat → Bool) (p : Array Nat) (m : Nat) : Prop := ∀ i j, i < j → j < m → Bf lt (at' p j) (at' p i)

theorem Srt.chain (W : Weak lt) {p : Array Nat} {a : Nat} (h : Srt lt p a) : ∀ {m : Nat}, a ≤ m → (∀ k, a ≤ k → 1 ≤ k → k < m → Bf lt (at' p (k - 1)) (at' p k)) → Srt lt p m
  | 0, hm, _ => fun i j hij hj => by omega
  | m + 1, hm, hc => by
    by_cases ha : a = m + 1
    · rw [← ha]; exact h
    have ih : Srt lt p m := Srt.chain W h (by omega) fun k a b c => hc k a b (by omega)
    intro i j hij hj
    by_cases hjm : j < m
    · exact ih i j hij hjm
    · have : j = m := by omega
      subst this
      have h1 := hc j (by omega) (by omega) (by omega)
      by_cases hi : i = j - 1
      · rw [hi]; exact h1
      · exact (ih i (j - 1) (by omega) (by omega)).trans W h1
theorem Dsc.rev {n m : Nat} {p : Array Nat} (F : Fix n p m) (h : Dsc lt p m) : Srt lt (kas_rev p 0 m) m := fun i j hij hj => by
  have hz : m ≤ p.size := by rw [F.size]; exact F.le
  rw [at_rev hz (Nat.zero_le _), at_rev hz (Nat.zero_le _), if_pos (by omega), if_pos (by omega)]
  exact h _ _ (by omega) (by omega)

theorem sasc_ok {n : Nat} {p : Array Nat} : ∀ (f a : Nat) {Q : Nat → Prop}, 1 ≤ a → a + f ≤ n → (∀ k, k < n → at' p k < n) →
    (∀ m, a ≤ m → m ≤ a + f → (∀ k, a ≤ k → k < m → lt (at' p k) (at' p (k - 1)) = false) → (m < a + f → lt (at' p m) (at' p (m - 1)) = true) → Q m) → Tr lt n (kas_asc p f a) Q
  | 0, a, Q, _, _, _, hQ => by
    rw [kas_asc]
    exact hQ a (Nat.le_refl _) (by omega) (fun k h1 h2 => by omega) fun h => by omega
  | f + 1, a, Q, h1, h2, hp, hQ => by
    rw [kas_asc]
    refine ⟨hp a (by omega), hp (a - 1) (by omega), ?_⟩
    show Tr lt n (if lt (at' p a) (at' p (a - 1)) = true then _ else _) Q
    split
    · rename_i hc
      exact hQ a (Nat.le_refl _) (by omega) (fun k h1 h2 => by omega) fun _ => hc
    · rename_i hc
      refine sasc_ok f (a + 1) (by omega) (by omega) hp fun m m1 m2 m3 m4 => hQ m (by omega) (by omega) (fun k k1 k2 => ?_) fun h => m4 (by omega)
      by_cases hk : k = a
      · rw [hk]; simpa using hc
      · exact m3 k (by omega) k2

theorem tail3_ok {n m : Nat} {p : Array Nat} {Q : Nat × Array Nat → Prop} (W : Weak lt) (F : Fix n p m) (h1 : 1 ≤ m) (h : Dsc lt p m) (hQ : ∀ r, 1 ≤ r.1 → Fix n r.2 r.1 → Srt lt r.2 r.1 → Q r) : Tr lt n (kas_tail3 m n p) Q := by
  unfold kas_tail3
  have F' := F.rev (Nat.zero_le m) (Nat.le_refl m)
  have S := h.rev F
  have hle := F.le
  refine Tr.bind (sasc_ok (n - m) m h1 (by omega) (fun k hk => F'.inb hk) fun r r1 r2 r3 r4 => ?_)
  have Fr := F'.up r1 (by omega)
  refine hQ (r, kas_rev p 0 m) (by show 1 ≤ r; omega) Fr (S.chain W r1 fun k k1 k2 k3 => ?_)
  have e : at' (kas_rev p 0 m) k = k := F'.rest k k1 (by omega)
  refine .inr ⟨r3 k k1 k3, ?_⟩
  rw [e]
  by_cases hk : k - 1 < m
  · have := F'.low (k - 1) hk; omega
  · rw [F'.rest (k - 1) (by omega) (by omega)]; omega

/-- a run down, its last ones alike and still in their order -/
structure Run (lt : Nat → Nat → Bool) (n : Nat) (p : Array Nat) (m q : Nat) : Prop where
  fix : Fix n p m
  le : q + 1 ≤ m
  dsc : Dsc lt p (m - (q + 1))
  strict : ∀ i j, i < m - (q + 1) → m - (q + 1) ≤ j → j < m → lt (at' p j) (at' p i) = true
  alike : ∀ i j, m - (q + 1) ≤ i → i < j → j < m → lt (at' p i) (at' p j) = false ∧ lt (at' p j) (at' p i) = false ∧ at' p i < at' p j

theorem Run.dscRev {n m q : Nat} {p : Array Nat} (R : Run lt n p m q) : Dsc lt (kas_rev p (m - (q + 1)) m) m := fun i j hij hj => by
  have hz : m ≤ p.size := by rw [R.fix.size]; exact R.fix.le
  have hg := R.le
  rw [at_rev hz (by omega), at_rev hz (by omega)]
  by_cases hi : m - (q + 1) ≤ i
  · rw [if_pos (by omega), if_pos (by omega)]
    obtain ⟨a1, a2, a3⟩ := R.alike (m - (q + 1) + m - 1 - j) (m - (q + 1) + m - 1 - i) (by omega) (by omega) (by omega)
    exact .inr ⟨a2, a3⟩
  · rw [if_neg (c := m - (q + 1) ≤ i ∧ i < m) (by omega)]
    split
    · exact .inl (R.strict i _ (by omega) (by omega) (by omega))
    · exact R.dsc i j hij (by omega)
/-- nothing to turn round -/
theorem rev_one {p : Array Nat} {m : Nat} : kas_rev p (m - (0 + 1)) m = p := by
  unfold kas_rev
  rw [show (m - (m - (0 + 1))) / 2 = 0 by omega]
  rfl
/-- the next one is below all -/
theorem Run.below {n m q : Nat} {p : Array Nat} (W : Weak lt) (R : Run lt n p m q) {x : Nat} (h : lt x (at' p (m - 1)) = true) : ∀ i, i < m → lt x (at' p i) = true := fun i hi => by
  have hg := R.le
  by_cases hgi : m - (q + 1) ≤ i
  · by_cases e : i = m - 1
    · rw [e]; exact h
    · obtain ⟨a1, a2, _⟩ := R.alike i (m - 1) hgi (by omega) (by omega)
      rcases W.neg x (at' p i) (at' p (m - 1)) h with h' | h'
      · exact h'
      · rw [a1] at h'; cases h'
  · exact W.tr h (R.strict i (m - 1) (by omega) (by omega) (by omega))
theorem Run.next {n m q : Nat} {p : Array Nat} (W : Weak lt) (R : Run lt n p m q) (hm : m < n) (h : lt (at' p m) (at' p (m - 1)) = true) : Run lt n (kas_rev p (m - (q + 1)) m) (m + 1) 0 := by
  have hg := R.le
  have hz : m ≤ p.size := by rw [R.fix.size]; exact R.fix.le
  have F := R.fix.rev (i := m - (q + 1)) (j := m) (by omega) (Nat.le_refl _)
  refine ⟨F.up (Nat.le_succ _) hm, by omega, ?_, fun i j hi hj hj' => ?_, fun i j a b c => by omega⟩
  · rw [show m + 1 - (0 + 1) = m by omega]; exact R.dscRev
  · have : j = m := by omega
    subst this
    have e1 : at' (kas_rev p (j - (q + 1)) j) j = at' p j := by rw [F.rest j (Nat.le_refl _) hm, R.fix.rest j (Nat.le_refl _) hm]
    rw [e1, at_rev hz (by omega)]
    split
    · exact R.below W h _ (by omega)
    · exact R.below W h _ (by omega)
theorem Run.same {n m q : Nat} {p : Array Nat} (W : Weak lt) (R : Run lt n p m q) (hm : m < n) (h1 : lt (at' p m) (at' p (m - 1)) = false) (h2 : lt (at' p (m - 1)) (at' p m) = false) : Run lt n p (m + 1) (q + 1) := by
  have hg := R.le
  have e := R.fix.rest m (Nat.le_refl _) hm
  have eg : m + 1 - (q + 1 + 1) = m - (q + 1) := by omega
  have al : ∀ i, m - (q + 1) ≤ i → i < m → lt (at' p i) (at' p m) = false ∧ lt (at' p m) (at' p i) = false := fun i a b => by
    by_cases hi : i = m - 1
    · rw [hi]; exact ⟨h2, h1⟩
    · obtain ⟨a1, a2, _⟩ := R.alike i (m - 1) a (by omega) (by omega)
      constructor
      · cases hc : lt (at' p i) (at' p m) with
        | false => rfl
        | true => rcases W.neg _ (at' p (m - 1)) _ hc with h | h
                  · rw [a1] at h; cases h
                  · rw [h2] at h; cases h
      · cases hc : lt (at' p m) (at' p i) with
        | false => rfl
        | true => rcases W.neg _ (at' p (m - 1)) _ hc with h | h
                  · rw [h1] at h; cases h
                  · rw [a2] at h; cases h
  refine ⟨R.fix.up (Nat.le_succ _) hm, by omega, ?_, fun i j hi hj hj' => ?_, fun i j a b c => ?_⟩
  · rw [eg]; exact R.dsc
  · rw [eg] at hi hj
    by_cases hjm : j < m
    · exact R.strict i j hi hj hjm
    · have : j = m := by omega
      subst this
      have hs := R.strict i (j - 1) hi (by omega) (by omega)
      rcases W.neg _ (at' p j) _ hs with h | h
      · rw [h2] at h; cases h
      · exact h
  · rw [eg] at a
    by_cases hjm : j < m
    · exact R.alike i j a b hjm
    · have : j = m := by omega
      subst this
      refine ⟨(al i a b).1, (al i a b).2, ?_⟩
      rw [e]; exact R.fix.low i b

theorem sdesc_ok {n : Nat} (W : Weak lt) {Q : Array Nat × Nat × Nat → Prop} (hQ : ∀ r, Run lt n r.1 r.2.1 r.2.2 → Q r) : ∀ (f : Nat) (p : Array Nat) (m q : Nat), m + f ≤ n → Run lt n p m q → Tr lt n (kas_desc f p m q) Q
  | 0, p, m, q, _, R => by rw [kas_desc]; exact hQ _ R
  | f + 1, p, m, q, hf, R => by
    have hm : m < n := by omega
    have hg := R.le
    rw [kas_desc]
    refine ⟨R.fix.inb hm, R.fix.inb (by omega), ?_⟩
    show Tr lt n (if lt (at' p m) (at' p (m - 1)) = true then _ else _) Q
    split
    · rename_i hc
      split
      · exact sdesc_ok W hQ f _ (m + 1) 0 (by omega) (R.next W hm hc)
      · rename_i hq
        have : q = 0 := by omega
        subst this
        have := R.next W hm hc
        rw [rev_one] at this
        exact sdesc_ok W hQ f _ (m + 1) 0 (by omega) this
    · rename_i hc
      refine ⟨R.fix.inb (by omega), R.fix.inb hm, ?_⟩
      show Tr lt n (if lt (at' p (m - 1)) (at' p m) = true then _ else _) Q
      split
      · exact hQ _ R
      · rename_i hd
        exact sdesc_ok W hQ f _ (m + 1) (q + 1) (by omega) (R.same W hm (by simpa using hc) (by simpa using hd))

theorem descPart_ok {n m : Nat} {p : Array Nat} {Q : Nat × Array Nat → Prop} (W : Weak lt) (hm : m < n) (R : Run lt n p (m + 1) 0) (hQ : ∀ r, 1 ≤ r.1 → Fix n r.2 r.1 → Srt lt r.2 r.1 → Q r) : Tr lt n (kas_descPart m n p) Q := by
  unfold kas_descPart
  refine Tr.bind (sdesc_ok W (fun r R => ?_) (n - (m + 1)) p (m + 1) 0 (by omega) R)
  have hg := R.le
  split
  · exact tail3_ok W (R.fix.rev (by omega) (Nat.le_refl _)) (by omega) R.dscRev hQ
  · rename_i hq
    have e : r.2.2 = 0 := by omega
    have := R.dscRev
    rw [e, rev_one] at this
    exact tail3_ok W R.fix (by omega) this hQ

theorem fix_start {n : Nat} : Fix n (List.toArray (List.range n)) 0 where
  size := by simp
  perm := Array.Perm.refl _
  le := Nat.zero_le _
  rest := fun k _ h => by rw [sat_eq]; simp [h]
  low := fun k h => by omega

theorem scount_ok {n : Nat} {Q : Nat × Array Nat → Prop} (W : Weak lt) (h1 : 1 ≤ n) (hQ : ∀ r, 1 ≤ r.1 → Fix n r.2 r.1 → Srt lt r.2 r.1 → Q r) : Tr lt n (kas_count n (List.toArray (List.range n))) Q := by
  unfold kas_count
  have F : Fix n (List.toArray (List.range n)) 0 := fix_start
  have hat : ∀ k, k < n → at' (List.toArray (List.range n)) k = k := fun k h => F.rest k (Nat.zero_le _) h
  refine Tr.bind (sasc_ok (n - 1) 1 (Nat.le_refl _) (by omega) (fun k hk => F.inb hk) fun m m1 m2 m3 m4 => ?_)
  have hmn : m ≤ n := by omega
  have Fm := F.up (Nat.zero_le m) hmn
  have S : Srt lt (List.toArray (List.range n)) m := Srt.chain W (a := 1) (fun i j a b => by omega) m1 fun k k1 k2 k3 => by
    refine .inr ⟨m3 k k1 k3, ?_⟩
    rw [hat k (by omega), hat (k - 1) (by omega)]; omega
  split
  · exact hQ (m, _) m1 Fm S
  · rename_i hne
    have hlt : m < n := by
      have : m ≠ n := by simpa using hne
      omega
    have hst : lt m (m - 1) = true := by
      have := m4 (by omega)
      rw [hat m hlt, hat (m - 1) (by omega)] at this; exact this
    split
    · refine ⟨F.inb (by omega), F.inb (by omega), ?_⟩
      show Tr lt n (if lt (at' _ 0) (at' _ (m - 1)) = true then _ else _) Q
      rw [hat 0 (by omega), hat (m - 1) (by omega)]
      split
      · exact hQ (m, _) m1 Fm S
      · rename_i h0
        have h0' : lt 0 (m - 1) = false := by simpa using h0
        -- all of them alike
        have up : ∀ i j, i ≤ j → j < m → lt j i = false := fun i j a b => by
          by_cases e : i = j
          · rw [e]; exact W.irr j
          · have := (S i j (by omega) b).no W
            rw [hat i (by omega), hat j (by omega)] at this; exact this
        have al : ∀ i j, i < m → j < m → lt i j = false := fun i j a b => by
          cases hc : lt i j with
          | false => rfl
          | true =>
            rcases W.neg _ 0 _ hc with h | h
            · rw [up 0 i (Nat.zero_le _) a] at h; cases h
            · rcases W.neg _ (m - 1) _ h with h | h
              · rw [h0'] at h; cases h
              · rw [up j (m - 1) (by omega) (by omega)] at h; cases h
        have hz : m ≤ (List.toArray (List.range n)).size := by simpa using hmn
        have hr : ∀ k, k < m → at' (kas_rev (List.toArray (List.range n)) 0 m) k = m - 1 - k := fun k hk => by
          rw [at_rev hz (Nat.zero_le _), if_pos (by omega), hat _ (by omega)]; omega
        have Fr := Fm.rev (Nat.zero_le m) (Nat.le_refl m)
        refine descPart_ok W hlt ⟨Fr.up (Nat.le_succ _) hlt, by omega, fun i j a b => ?_, fun i j a b c => ?_, fun i j a b c => by omega⟩ hQ
        · rw [hr i (by omega), hr j (by omega)]
          exact .inr ⟨al _ _ (by omega) (by omega), by omega⟩
        · have : j = m := by omega
          subst this
          rw [Fr.rest j (Nat.le_refl _) hlt, hr i (by omega)]
          rcases W.neg _ (j - 1 - i) _ hst with h | h
          · exact h
          · rw [al _ _ (by omega) (by omega)] at h; cases h
    · have e : m = 1 := by omega
      subst e
      refine descPart_ok W hlt ⟨Fm.up (Nat.le_succ _) hlt, by omega, fun i j a b => by omega, fun i j a b c => ?_, fun i j a b c => by omega⟩ hQ
      have h1 : j = 1 := by omega
      have h2 : i = 0 := by omega
      subst h1 h2
      rw [hat 1 hlt, hat 0 (by omega)]; exact hst

theorem splace_ok {n k : Nat} {p : Array Nat} (W : Weak lt) (F : Fix n p k) (S : Srt lt p k) (hk : k < n) {Q : Nat → Prop} (hQ : ∀ l, l ≤ k → (∀ i, i < l → lt k (at' p i) = false) → (∀ i, l ≤ i → i < k → lt k (at' p i) = true) → Q l) :
    ∀ (f l r : Nat), l ≤ r → r ≤ k → r - l ≤ f → (∀ i, i < l → lt k (at' p i) = false) → (∀ i, r ≤ i → i < k → lt k (at' p i) = true) → Tr lt n (kas_place p k f l r) Q
  | 0, l, r, h1, h2, h3, a, b => by
    rw [kas_place]
    have : l = r := by omega
    exact hQ l (by omega) a (this ▸ b)
  | f + 1, l, r, h1, h2, h3, a, b => by
    rw [kas_place]
    split
    · have : l = r := by omega
      exact hQ l (by omega) a (this ▸ b)
    · refine ⟨F.inb hk, F.inb (by omega), ?_⟩
      show Tr lt n (if lt (at' p k) (at' p ((l + r) / 2)) = true then _ else _) Q
      rw [F.rest k (Nat.le_refl _) hk]
      have up : ∀ i j, i ≤ j → j < k → lt k (at' p i) = true → lt k (at' p j) = true := fun i j c e h => by
        by_cases hij : i = j
        · rw [← hij]; exact h
        · rcases W.neg _ (at' p j) _ h with h | h
          · exact h
          · rw [(S i j (by omega) e).no W] at h; cases h
      split
      · rename_i hc
        refine splace_ok W F S hk hQ f l _ (by omega) (by omega) (by omega) a fun i c e => up _ i c e hc
      · rename_i hc
        refine splace_ok W F S hk hQ f _ r (by omega) h2 (by omega) (fun i c => ?_) b
        cases hi : lt k (at' p i) with
        | false => rfl
        | true => exact absurd (up i ((l + r) / 2) (by omega) (by omega) hi) hc

theorem at_bubble {p : Array Nat} {k l i : Nat} (hk : k < p.size) (hl : l ≤ k) : at' (bubble p k (k - l)) i = if i = l then at' p k else if l < i ∧ i ≤ k then at' p (i - 1) else at' p i := by
  rw [sat_eq, getElem?_bubble hk _ (by omega)]
  rw [show k - (k - l) = l by omega]
  split
  · rw [sat_eq]
  · split <;> rw [sat_eq]

theorem sbin_ok {n : Nat} (W : Weak lt) {Q : Array Nat → Prop} (hQ : ∀ p, Fix n p n → Srt lt p n → Q p) : ∀ (f : Nat) (p : Array Nat) (k : Nat), k + f = n → Fix n p k → Srt lt p k → Tr lt n (kas_bin f p k) Q
  | 0, p, k, h, F, S => by
    rw [kas_bin]
    have : k = n := by omega
    subst this
    exact hQ p F S
  | f + 1, p, k, h, F, S => by
    rw [kas_bin]
    have hk : k < n := by omega
    refine Tr.bind (splace_ok W F S hk (fun l hl a b => ?_) k 0 k (Nat.zero_le _) (Nat.le_refl _) (by omega) (fun i hi => by omega) fun i hi hi' => by omega)
    have hz : k < p.size := by rw [F.size]; exact hk
    have hb := fun i => at_bubble (i := i) hz hl
    have ek := F.rest k (Nat.le_refl _) hk
    refine sbin_ok W hQ f _ (k + 1) (by omega) ⟨by rw [bubble_size]; exact F.size, (bubble_perm _ _ _).trans F.perm, hk, fun i c e => ?_, fun i c => ?_⟩ fun i j hij hj => ?_
    · rw [hb, if_neg (by omega), if_neg (by omega)]; exact F.rest i (by omega) e
    · rw [hb]
      split
      · rw [ek]; omega
      · split
        · have := F.low (i - 1) (by omega); omega
        · have := F.low i (by omega); omega
    · rw [hb i, hb j]
      by_cases hi : i = l
      · rw [if_pos hi, if_neg (by omega), if_pos (by omega), ek]
        exact .inl (b _ (by omega) (by omega))
      · rw [if_neg hi]
        by_cases hj' : j = l
        · rw [if_pos hj', if_neg (by omega), ek]
          exact .inr ⟨a i (by omega), F.low i (by omega)⟩
        · rw [if_neg hj']
          by_cases hil : l < i
          · rw [if_pos (by omega), if_pos (by omega)]
            exact S _ _ (by omega) (by omega)
          · rw [if_neg (by omega)]
            split
            · exact S _ _ (by omega) (by omega)
            · exact S _ _ (by omega) (by omega)

/-- the sort: what comes of it -/
theorem sort_ok {n : Nat} (W : Weak lt) (h : 1 ≤ n) : Tr lt n (kas_sort n) fun p => p.toList.Perm (List.range n) ∧ p.toList.Pairwise (Bf lt) := by
  have fin : ∀ p, Fix n p n → Srt lt p n → p.toList.Perm (List.range n) ∧ p.toList.Pairwise (Bf lt) := fun p F S => by
    refine ⟨by simpa using F.perm.toList, ?_⟩
    rw [List.pairwise_iff_getElem]
    intro i j hi hj hij
    have e : ∀ k (hk : k < p.toList.length), at' p k = p.toList[k] := fun k hk => by
      rw [sat_eq]
      have hk' : k < p.size := by simpa using hk
      simp [hk']
    rw [← e i hi, ← e j hj]
    exact S i j hij (by rw [← F.size]; simpa using hj)
  unfold kas_sort
  refine Tr.bind (scount_ok W h fun r r1 F S => ?_)
  have hle := F.le
  split
  · rename_i hr
    rw [show max r.1 1 = r.1 by omega]
    exact sbin_ok W fin _ _ _ (by omega) F S
  · have e : r.1 = n := by omega
    rw [e] at F S
    exact fin _ F S
end Mine

/-! NSorted -/
namespace Mine
open PySem PySem.Calls PyProof.Rows PySem.W
set_option maxRecDepth 100000

/-! the order of rows -/
theorem ltRow_irr : ∀ a : List Int, ltRow a a = false
  | [] => rfl
  | x :: a => by rw [ltRow, if_pos rfl]; exact ltRow_irr a
theorem ltRow_asy : ∀ a b : List Int, ltRow a b = true → ltRow b a = false
  | [], [], h => by cases h
  | [], _ :: _, _ => rfl
  | _ :: _, [], h => by cases h
  | x :: a, y :: b, h => by
    rw [ltRow] at h ⊢
    by_cases e : x = y
    · rw [if_pos e] at h; rw [if_pos e.symm]; exact ltRow_asy a b h
    · rw [if_neg e] at h; rw [if_neg (Ne.symm e)]
      simp only [decide_eq_true_eq] at h
      simp only [decide_eq_false_iff_not]; omega
theorem ltRow_neg : ∀ a b c : List Int, ltRow a c = true → ltRow a b = true ∨ ltRow b c = true
  | [], [], _, h => .inr h
  | [], _ :: _, _, _ => .inl rfl
  | _ :: _, _, [], h => by cases h
  | _ :: _, [], _ :: _, _ => .inr rfl
  | x :: a, y :: b, z :: c, h => by
    rw [ltRow] at h
    rw [ltRow, ltRow]
    by_cases e : x = z
    · rw [if_pos e] at h
      subst e
      by_cases e2 : x = y
      · subst e2
        rw [if_pos rfl, if_pos rfl]; exact ltRow_neg a b c h
      · rw [if_neg e2, if_neg (Ne.symm e2)]
        simp only [decide_eq_true_eq]; omega
    · rw [if_neg e] at h
      simp only [decide_eq_true_eq] at h
      by_cases e2 : x = y
      · subst e2
        right; rw [if_neg e]; simp only [decide_eq_true_eq]; omega
      · by_cases e3 : y = z
        · left; rw [if_neg e2]; simp only [decide_eq_true_eq]; omega
        · rw [if_neg e2, if_neg e3]; simp only [decide_eq_true_eq]; omega
noncomputable def ltAt (rs : List (List Int)) (i j : Nat) : Bool := ltRow (rs.getD i []) (rs.getD j [])
noncomputable def ahead (ks : List (List Int)) (i j : Nat) : Prop := ltRow (ks.getD i []) (ks.getD j []) = true ∨ (ltRow (ks.getD j []) (ks.getD i []) = false ∧ i < j)
theorem weakRow (rs : List (List Int)) : Weak (ltAt rs) where
  irr := fun i => ltRow_irr _
  asy := fun i j => ltRow_asy _ _
  neg := fun i j k => ltRow_neg _ _ _
theorem bf_ahead {rs : List (List Int)} : Bf (ltAt rs) = ahead rs := rfl

/-- the questions of a sort, asked of the machine -/
theorem tr_wp {lt : Nat → Nat → Bool} {n : Nat} {α : Type} {cmp : Nat → Nat → (Bool → Shared → Prop) → Shared → Prop} {s : Shared} (hc : ∀ i j (C : Bool → Shared → Prop), i < n → j < n → C (lt i j) s → cmp i j C s) {Qt : α → Prop} {Q : α → Shared → Prop} (hq : ∀ a, Qt a → Q a s) :
    ∀ {t : KasT α}, Tr lt n t Qt → t.kasWp cmp Q s
  | .ret a, h => hq a h
  | .ask i j k, h => hc i j _ h.1 h.2.1 (tr_wp hc hq (t := k (lt i j)) h.2.2)

section
variable {prog : Program} {w : World} {A : Around} {E : Value → Shared → Prop} {s : Shared}

theorem lex_ok {fin : Bool} {Q : Bool → Shared → Prop} : ∀ (a b : List Int) (vs us : List Value) (i : Nat), IntsAre vs a → IntsAre us b → fin = decide (vs.length < us.length) → Q (ltRow a b) s → KatLex prog w A true fin Q (vs.zip us) i s
  | [], [], _, _, i, .nil, .nil, hf, q => by
    refine kat_nil ?_
    subst hf; exact q
  | [], _ :: _, _, _, i, .nil, .cons _ _ _, hf, q => by
    refine kat_nil ?_
    subst hf
    simpa [ltRow] using q
  | _ :: _, [], _, _, i, .cons _ _ _, .nil, hf, q => by
    refine kat_nil ?_
    subst hf
    simpa [ltRow] using q
  | x :: a, y :: b, _, _, i, .cons _ t ha, .cons _ u hb, hf, q => by
    rw [List.zip_cons_cons]
    refine kat_cons (wpAny_eqBool_int ?_)
    rw [ltRow] at q
    by_cases e : x = y
    · rw [if_pos e] at q
      rw [show (x == y) = true by simpa using e]
      exact kat_yes (lex_ok a b _ _ (i + 1) ha hb (by rw [hf]; simp) q)
    · rw [if_neg e] at q
      rw [show (x == y) = false by simpa using e]
      refine kat_no ?_
      cases i with
      | zero => exact oneLt_int q
      | succ i => exact kat_one _ _ (PyProof.Rows.lt_int q)

/-- rows of ints, as they lie -/
noncomputable def RowsAre (h : Heap) : List Value → List (List Int) → Prop
  | [], [] => True
  | v :: vs, r :: rs => (∃ a items n, v = .ref a ∧ h.get? a = some { cls := .type "tuple", data := .seq items n } ∧ IntsAre items.toList r) ∧ RowsAre h vs rs
  | _, _ => False
theorem RowsAre.len {h : Heap} : ∀ {vs : List Value} {rs : List (List Int)}, RowsAre h vs rs → vs.length = rs.length
  | [], [], _ => rfl
  | _ :: _, _ :: _, x => by rw [List.length_cons, List.length_cons, x.2.len]
  | [], _ :: _, x => x.elim
  | _ :: _, [], x => x.elim
theorem RowsAre.keeps {h h' : Heap} (k : ∀ b o, o.cls = .type "tuple" → h.get? b = some o → h'.get? b = some o) : ∀ {vs : List Value} {rs : List (List Int)}, RowsAre h vs rs → RowsAre h' vs rs
  | [], [], _ => trivial
  | _ :: _, _ :: _, x => ⟨let ⟨a, it, n, e, g, i⟩ := x.1; ⟨a, it, n, e, k a _ rfl g, i⟩, x.2.keeps k⟩
  | [], _ :: _, x => x.elim
  | _ :: _, [], x => x.elim
theorem RowsAre.at' {h : Heap} : ∀ {vs : List Value} {rs : List (List Int)}, RowsAre h vs rs → ∀ {i : Nat}, i < vs.length → ∃ a items n, vs.getD i .none = .ref a ∧ h.get? a = some { cls := .type "tuple", data := .seq items n } ∧ IntsAre items.toList (rs.getD i [])
  | [], [], _, i, hi => by simp at hi
  | _ :: _, _ :: _, x, 0, _ => by simpa using x.1
  | _ :: vs, _ :: rs, x, i + 1, hi => by
    obtain ⟨a, it, n, h1, h2, h3⟩ := x.2.at' (i := i) (by simpa using hi)
    exact ⟨a, it, n, by simpa using h1, h2, by simpa using h3⟩
  | [], _ :: _, x, _, _ => x.elim
  | _ :: _, [], x, _, _ => x.elim
theorem RowsAre.tups {h : Heap} : ∀ {vs : List Value} {rs : List (List Int)}, RowsAre h vs rs → (∀ r ∈ rs, r ≠ []) → ∃ fs, KatTups h vs fs ∧ fs.length = vs.length ∧ ∀ v ∈ fs, ∃ i t, v = Value.int i t
  | [], [], _, _ => ⟨[], trivial, rfl, fun v hv => by cases hv⟩
  | _ :: _, r :: _, x, hne => by
    obtain ⟨⟨a, it, n, rfl, g, hi⟩, x2⟩ := x
    obtain ⟨fs, t, hl, hv⟩ := x2.tups fun r hr => hne r (List.mem_cons_of_mem _ hr)
    have hr := hne r List.mem_cons_self
    obtain ⟨y, rr, rfl⟩ : ∃ y rr, r = y :: rr := by
      cases r with
      | nil => exact absurd rfl hr
      | cons y rr => exact ⟨y, rr, rfl⟩
    generalize hL : it.toList = L at hi
    cases hi with
    | cons i tk hrest =>
      refine ⟨.int y tk :: fs, KatTups.cons g rfl rfl (by rw [← Array.getElem?_toList, hL]; rfl) t, by simp [hl], fun v hv' => ?_⟩
      rcases List.mem_cons.mp hv' with rfl | hv'
      · exact ⟨_, _, rfl⟩
      · exact hv v hv'
  | [], _ :: _, x, _ => x.elim
  | _ :: _, [], x, _ => x.elim

theorem looks_int {M : Model} {h : Heap} {i : Int} {t : Tok} : Looks M h (typeOf (.int i t)) (.type "int") := fun A Q E s _ q => wpAny_typeOf (typeIs_int s i t) q

theorem sort_rows {a : Addr} {vs : List Value} {rs : List (List Int)} {n : Nat} {P : PySem.Fin → Shared → Prop} (ho : s.heap.get? a = some (seqObj "list" vs.toArray n)) (hr : RowsAre s.heap vs rs) (hne : ∀ r ∈ rs, r ≠ []) (h64 : vs.length < 64)
    (h : ∀ p : List Nat, p.Perm (List.range vs.length) → p.Pairwise (ahead rs) → P (.done (.ret .none)) { s with heap := sortedHeap s.heap a vs (p.map fun i => vs.getD i Value.none).toArray }) :
    wpAny (model prog w) A (Builtin.«list.sort» ⟨[.ref a], []⟩) P E s := by
  rw [list_sort_plain]
  have hsl : vs.length ≤ sizeLine := by rw [sizeLine_eq]; omega
  refine wpAny_bind (listItems_at ho rfl ?_)
  refine wpAny_bind (listUpdate_at ho rfl ?_ (by rw [List.size_toArray]; exact hsl) (Nat.zero_le _))
  obtain ⟨e1, ho1⟩ : ∃ e1, (s.heap.update a (Obj.mapSeq fun _ => (#[] : Array Value))).get? a = some (seqObj "list" #[] e1) := ⟨_, get?_update_seq ho (fun _ => #[])⟩
  refine wpAny_bind (seqEpoch_at ho1 rfl ?_)
  refine wpAny_bind (wpAny_newTuple ?_ (by show vs.length ≤ _; exact hsl))
  refine wpAny_bind (wpAny_newList ?_ (Nat.zero_le _))
  refine wpAny_holding ?_
  have ho6 : (((s.heap.update a (Obj.mapSeq fun _ => (#[] : Array Value))).push (seqObj "tuple" vs.toArray 0)).push (seqObj "list" #[] 0)).get? a = some (seqObj "list" #[] e1) := Heap.get?_push_of_some _ (Heap.get?_push_of_some _ ho1)
  have hr6 : RowsAre (((s.heap.update a (Obj.mapSeq fun _ => (#[] : Array Value))).push (seqObj "tuple" vs.toArray 0)).push (seqObj "list" #[] 0)) vs rs := hr.keeps fun b o hc e => by
    refine Heap.get?_push_of_some _ (Heap.get?_push_of_some _ ?_)
    refine (Heap.get?_update_ne _ _ _ _ fun hb => ?_).trans e
    rw [hb, ho] at e; cases e; exact absurd hc (by simp [seqObj])
  show wpAny (model prog w) A _ P E { s with heap := ((s.heap.update a (Obj.mapSeq fun _ => (#[] : Array Value))).push (seqObj "tuple" vs.toArray 0)).push (seqObj "list" #[] 0) }
  dsimp only
  have hrange : (List.range vs.length).map (fun i => vs.getD i Value.none) = vs := by
    apply List.ext_getElem?
    intro i
    rw [List.getElem?_map]
    by_cases hi : i < vs.length
    · simp [hi]
    · simp [hi]
  by_cases h2 : vs.toArray.size < 2
  · rw [if_pos h2, if_pos h2]
    refine wpAny_bind (wpAny_pure ?_)
    rw [StateT.run_pure]
    refine wpAny_bind (wpAny_pure ?_)
    dsimp only
    refine wpAny_bind (seqEpoch_at ho6 rfl ?_)
    refine wpAny_bind (listUpdate_at ho6 rfl ?_ (Nat.zero_le _) (by rw [Array.size_map]; show (pairsOf vs).size ≤ _; rw [pairsOf_size, sizeLine_eq]; omega))
    simp only [bne_self_eq_false, Bool.false_eq_true, if_false]
    refine wpAny_pure ?_
    have e : (arrOf (SortSt.mk' general' (vs.toArray.zip vs.toArray) #[] 7 none)).map (·.2) = ((List.range vs.length).map fun i => vs.getD i Value.none).toArray := by
      rw [hrange]
      show (vs.toArray.zip vs.toArray).map (·.2) = vs.toArray
      apply Array.toList_inj.mp
      simp [List.map_snd_zip]
    have hp := h (List.range vs.length) (List.Perm.refl _) ?_
    · rw [← e] at hp; exact hp
    · have hlt : vs.length < 2 := by simpa using h2
      match hv : vs.length, hlt with
      | 0, _ => simp
      | 1, _ => simp
  · rw [if_neg h2, if_neg h2]
    have h2' : 2 ≤ vs.length := by simp only [List.size_toArray] at h2; omega
    obtain ⟨fs, tup, hfl, hfi⟩ := hr6.tups hne
    refine wpAny_bind (kat_kind tup (by omega) (T := .type "int") (fun v hv => by obtain ⟨i, t, rfl⟩ := hfi v hv; exact looks_int) rfl ?_)
    refine wpAny_bind (wpAny_mono (kat_run (Q := fun st' s' => s' = { s with heap := ((s.heap.update a (Obj.mapSeq fun _ => (#[] : Array Value))).push (seqObj "tuple" vs.toArray 0)).push (seqObj "list" #[] 0) } ∧ ∃ p : Array Nat, arrOf st' = p.map (kas_item (vs.toArray.zip vs.toArray)) ∧ failedOf st' = none ∧ p.toList.Perm (List.range vs.length) ∧ p.toList.Pairwise (Bf (ltAt rs)))
      (G := fun p s' => s' = { s with heap := ((s.heap.update a (Obj.mapSeq fun _ => (#[] : Array Value))).push (seqObj "tuple" vs.toArray 0)).push (seqObj "list" #[] 0) } ∧ p.toList.Perm (List.range vs.length) ∧ p.toList.Pairwise (Bf (ltAt rs)))
      rfl h2' h64 (fun p st' s' _ a2 a3 a4 => ⟨a4.1, p, a2, a3, a4.2.1, a4.2.2⟩) (tr_wp (lt := ltAt rs) (fun i j C hi hj hC => ?_) (fun p hp => ⟨rfl, hp.1, hp.2⟩) (sort_ok (weakRow rs) (by omega)))) ?_ fun _ _ e => e)
    · obtain ⟨x, ix, nx, ex, gx, hx⟩ := hr6.at' hi
      obtain ⟨y, iy, ny, ey, gy, hy⟩ := hr6.at' hj
      show wpAny _ _ (keyLt' _ (vs.getD i Value.none) (vs.getD j Value.none)) _ _ _
      rw [ex, ey]
      refine kat_lt (b := true) gx rfl gy rfl (lex_ok _ _ _ _ 0 hx hy (by simp) hC)
    · rintro ⟨⟨⟩, st'⟩ s' ⟨rfl, p, har, hf, hp1, hp2⟩
      dsimp only
      have hout := kat_snds (ks := vs) rfl har
      have hsz : (List.toArray (p.toList.map fun i => vs.getD i Value.none)).size = vs.length := by rw [List.size_toArray, List.length_map, hp1.length_eq, List.length_range]
      refine wpAny_bind (seqEpoch_at ho6 rfl ?_)
      refine wpAny_bind (listUpdate_at ho6 rfl ?_ (Nat.zero_le _) (by rw [hout]; exact Nat.le_trans (Nat.le_of_eq hsz) (Nat.le_succ_of_le hsl)))
      rw [hf]
      simp only [bne_self_eq_false, Bool.false_eq_true, if_false]
      rw [hout]
      exact wpAny_pure (h p.toList hp1 hp2)
end
end Mine

/-! NSortE -/
namespace Mine
open PySem PySem.Calls PyProof.Rows PySem.W
set_option maxRecDepth 100000

theorem relL_ints {h : Heap} {φ : List Addr} {vs : List Value} {xs : List Int} (x : IntsAre vs xs) : RelL h φ (xs.map V.int) vs := by
  induction x with
  | nil => exact .nil
  | cons n t _ ih => exact ⟨⟨t, rfl⟩, ih⟩
theorem ints_of {h : Heap} {φ : List Addr} : ∀ {ns : List Int} {vs : List Value}, RelL h φ (ns.map .int) vs → IntsAre vs ns
  | [], [], _ => .nil
  | _ :: _, _ :: _, ⟨⟨t, e⟩, r⟩ => e ▸ .cons _ t (ints_of r)
theorem rows_of {h : Heap} {φ : List Addr} : ∀ {rs : List (List Int)} {vs : List Value}, RelL h φ (rs.map fun r => .tup (r.map .int)) vs → RowsAre h vs rs
  | [], [], _ => trivial
  | _ :: _, _ :: _, ⟨⟨x, it, n, e, g, rl⟩, r⟩ => ⟨⟨x, it, n, e, g, ints_of rl⟩, rows_of r⟩
theorem relL_pick {h : Heap} {φ : List Addr} {Vs : List V} {vs : List Value} (r : RelL h φ Vs vs) : ∀ (p : List Nat), (∀ i ∈ p, i < Vs.length) → RelL h φ (p.map fun i => Vs.getD i .none) (p.map fun i => vs.getD i Value.none)
  | [], _ => .nil
  | i :: p, hp => by
    refine ⟨?_, relL_pick r p fun j hj => hp j (List.mem_cons_of_mem _ hj)⟩
    have hi := hp i List.mem_cons_self
    obtain ⟨v, e, rl⟩ := r.get (List.getElem?_eq_getElem hi)
    show Rel h φ (Vs.getD i V.none) (vs.getD i Value.none)
    rw [List.getD_eq_getElem?_getD, List.getD_eq_getElem?_getD, e, List.getElem?_eq_getElem hi]
    exact rl
theorem PV.listIn {K : Ctx} {c : Cf K.h₀} {Q : VPost} {Vs : List V} {items : Array Value} {a : Addr} {h' : Heap} {s' : Shared} {n : Nat} (r : RelL c.s.heap c.φ Vs items.toList) (hz : Vs.length ≤ 2 ^ 20) (ha : c.s.heap.get? a = none) (k : ∀ b ob, c.s.heap.get? b = some ob → h'.get? b = some ob)
    (e : h'.get? a = some { cls := .type "list", data := .seq items n }) (only : s'.os = c.s.os ∧ s'.gens = c.s.gens) (q : Q (.ref c.σ.length) (c.σ ++ [.list Vs])) : PV c Q (.ref a) { s' with heap := h' } :=
  PV.mk ⟨{ s' with heap := h' }, c.φ ++ [a], c.σ ++ [.list Vs], (c.keep { s' with heap := h' } k).sim.add (o := .list Vs) (c.sim.out ha) (c.sim.none₀ ha) ⟨items, n, e, RelL.keep (keepT k) (List.prefix_refl _) _ _ r, hz⟩⟩ (.ref c.σ.length)
    ⟨⟨only, List.prefix_append _ _, fun b o _ _ e => k b o e, fun _ m => (mem_snoc m).imp id fun e => (congrArg c.s.heap.get? e).trans ha⟩, fun b o e => ⟨o, k b o e⟩⟩ ⟨a, rfl, by rw [← c.sim.len]; exact List.getElem?_concat_length⟩ q

section
variable {prog : Program} {w : World} {s : Shared} {A : Around} {E : Value → Shared → Prop}
theorem sortedAll_facts {h : Heap} {vs : List Value} {out : Array Value} : h.get? (h.objs.size + 1) = none ∧ (∃ c, (sortedAll h vs out).get? (h.objs.size + 1) = some { cls := .type "list", data := .seq out c }) ∧ ∀ b o, h.get? b = some o → (sortedAll h vs out).get? b = some o := by
  have hsz : ((h.push (seqObj "list" #[] 0)).update h.objs.size (Obj.mapSeq (· ++ vs.toArray))).objs.size = h.objs.size + 1 := by rw [Heap.size_update, size_push']
  have g0 : (((h.push (seqObj "list" #[] 0)).update h.objs.size (Obj.mapSeq (· ++ vs.toArray))).push (seqObj "list" vs.toArray 0)).get? (h.objs.size + 1) = some (seqObj "list" vs.toArray 0) := by rw [← hsz]; exact Heap.get?_push_size _ rfl
  obtain ⟨c1, g1⟩ : ∃ c1, ((((h.push (seqObj "list" #[] 0)).update h.objs.size (Obj.mapSeq (· ++ vs.toArray))).push (seqObj "list" vs.toArray 0)).update (h.objs.size + 1) (Obj.mapSeq fun _ => (#[] : Array Value))).get? (h.objs.size + 1) = some (seqObj "list" #[] c1) := ⟨_, get?_update_seq g0 fun _ => #[]⟩
  have g2 := Heap.get?_push_of_some (seqObj "list" #[] 0) (Heap.get?_push_of_some (seqObj "tuple" vs.toArray 0) g1)
  refine ⟨Heap.get?_none_of_le (Nat.le_succ _), ⟨_, get?_update_seq g2 fun _ => out⟩, fun b o e => ?_⟩
  have hb : b < h.objs.size := Heap.lt_size e
  have h1 : b ≠ h.objs.size := Nat.ne_of_lt hb
  have h2 : b ≠ h.objs.size + 1 := Nat.ne_of_lt (Nat.lt_succ_of_lt hb)
  unfold sortedAll sortedHeap
  rw [Heap.get?_update_ne _ _ _ _ h2]
  refine Heap.get?_push_of_some _ (Heap.get?_push_of_some _ ?_)
  rw [Heap.get?_update_ne _ _ _ _ h2]
  refine Heap.get?_push_of_some _ ?_
  rw [Heap.get?_update_ne _ _ _ _ h1]
  exact Heap.get?_push_of_some _ e

theorem sorted_rows {l : Addr} {vs : List Value} {rs : List (List Int)} {P : Value → Shared → Prop} (hl : s.heap.IsList l vs.toArray) (hr : RowsAre s.heap vs rs) (hne : ∀ r ∈ rs, r ≠ []) (h64 : vs.length < 64)
    (h : ∀ p : List Nat, p.Perm (List.range vs.length) → p.Pairwise (ahead rs) → P (.ref (s.heap.objs.size + 1)) { s with heap := sortedAll s.heap vs (p.map fun i => vs.getD i Value.none).toArray }) :
    wpAny (model prog w) A (call (.builtin "sorted") [.ref l]) P E s := by
  refine Calls.call_function_entry kind_sorted plain_sorted entry_sorted (args_sorted1 _) ?_
  unfold Builtin.«sorted»
  refine wpAny_bind (m := checkCount "sorted" 1 1 _) (wpAny_pure ?_)
  refine wpAny_bind (collect_list hl ?_ (by rw [sizeLine_eq]; omega))
  refine wpAny_bind (wpAny_newList ?_ (by rw [sizeLine_eq]; omega))
  have hsz : ((s.heap.push (seqObj "list" #[] 0)).update s.heap.objs.size (Obj.mapSeq (· ++ vs.toArray))).objs.size = s.heap.objs.size + 1 := by
    rw [Heap.size_update, size_push']
  have hoL : (((s.heap.push (seqObj "list" #[] 0)).update s.heap.objs.size (Obj.mapSeq (· ++ vs.toArray))).push (seqObj "list" vs.toArray 0)).get? (s.heap.objs.size + 1) = some (seqObj "list" vs.toArray 0) := by
    rw [← hsz]; exact Heap.get?_push_size _ rfl
  have hr' : RowsAre (((s.heap.push (seqObj "list" #[] 0)).update s.heap.objs.size (Obj.mapSeq (· ++ vs.toArray))).push (seqObj "list" vs.toArray 0)) vs rs := hr.keeps fun b o _ e => by
    refine Heap.get?_push_of_some _ ?_
    rw [Heap.get?_update_ne _ _ _ _ (Nat.ne_of_lt (Heap.lt_size e))]
    exact Heap.get?_push_of_some _ e
  show wpAny _ _ _ _ _ { s with heap := ((s.heap.push (seqObj "list" #[] 0)).update s.heap.objs.size (Obj.mapSeq (· ++ vs.toArray))).push (seqObj "list" vs.toArray 0) }
  rw [hsz]
  refine wpAny_bind (wpAny_holding (wpAny_call_entry (s := { s with heap := ((s.heap.push (seqObj "list" #[] 0)).update s.heap.objs.size (Obj.mapSeq (· ++ vs.toArray))).push (seqObj "list" vs.toArray 0) }) slot_list_sort ⟨_, hoL, rfl⟩ entry_list_sort
    (sort_rows (s := { s with heap := ((s.heap.push (seqObj "list" #[] 0)).update s.heap.objs.size (Obj.mapSeq (· ++ vs.toArray))).push (seqObj "list" vs.toArray 0) }) hoL hr' hne h64 fun p a1 a2 => ⟨_, rfl, ?_⟩) (args_list_sort _)))
  exact wpAny_pure ⟨_, rfl, h p a1 a2⟩

end

section
variable {K : Ctx} {L : Loc} {G : GlT} {fa : Nat → Addr} {mg mb : Str → Option Value}
theorem sorted_ok {A : Around} {E : Value → Shared → Prop} {c : Cf K.h₀} {Q : VPost} {V : V} {v : Value} (r : Rel c.s.heap c.φ V v) (q : SortK c.σ Q false V) : wpAny K.M A (call (.builtin "sorted") [v]) (PV c Q) E c.s := by
  cases q with
  | @«ints» n ns en hl q =>
    obtain ⟨a, items, k, rfl, _, g, rl, z⟩ := Cf.list en r
    have gl : c.s.heap.IsList a items.toList.toArray := by rw [Array.toArray_toList]; exact g.isList
    have hi := ints_of rl
    refine sorted_ints gl hi (by rw [IntsAre.length hi]; exact hl) fun out ns' a1 a2 a3 => ?_
    obtain ⟨f1, ⟨_, f2⟩, f3⟩ := sortedAll_facts (h := c.s.heap) (vs := items.toList) (out := out)
    exact PV.listIn (s' := c.s) (relL_ints a1) (by rw [List.length_map, a2.length_eq, ← List.length_map (f := V.int)]; exact z) f1 f3 f2 ⟨rfl, rfl⟩ (q ns' a2 a3)
  | @rows n rs en hl hne q =>
    obtain ⟨a, items, k, rfl, _, g, rl, z⟩ := Cf.list en r
    have gl : c.s.heap.IsList a items.toList.toArray := by rw [Array.toArray_toList]; exact g.isList
    have hsz : items.toList.length = rs.length := by rw [← rl.length, List.length_map]
    refine sorted_rows gl (rows_of rl) hne (by rw [hsz]; exact hl) fun p a1 a2 => ?_
    obtain ⟨f1, ⟨_, f2⟩, f3⟩ := sortedAll_facts (h := c.s.heap) (vs := items.toList) (out := (p.map fun i => items.toList.getD i Value.none).toArray)
    rw [hsz] at a1
    have hin : ∀ i ∈ p, i < rs.length := fun i hi => List.mem_range.mp (a1.mem_iff.mp hi)
    have hts : (p.map fun i => rs.getD i []).map (fun r => V.tup (r.map V.int)) = p.map fun i => (rs.map fun r => V.tup (r.map V.int)).getD i .none := by
      rw [List.map_map]
      refine List.map_congr_left fun i hi => ?_
      rw [Function.comp_apply, List.getD_eq_getElem?_getD, List.getD_eq_getElem?_getD, List.getElem?_map, List.getElem?_eq_getElem (hin i hi)]; rfl
    have hperm : (p.map fun i => rs.getD i []).Perm rs := by
      refine (a1.map fun i => rs.getD i []).trans (List.Perm.of_eq ?_)
      apply List.ext_getElem (by rw [List.length_map, List.length_range])
      intro i h1 h2
      rw [List.getElem_map, List.getElem_range, List.getD_eq_getElem?_getD, List.getElem?_eq_getElem h2]; rfl
    refine PV.listIn (s' := c.s) (Vs := (p.map fun i => rs.getD i []).map fun r => V.tup (r.map V.int)) ?_ ?_ f1 f3 f2 ⟨rfl, rfl⟩ (q _ hperm ?_)
    · rw [hts]; exact relL_pick rl p fun i hi => by rw [List.length_map]; exact hin i hi
    · rw [List.length_map, hperm.length_eq, ← List.length_map (f := fun r : List Int => V.tup (r.map V.int))]; exact z
    · rw [List.pairwise_map]
      exact a2.imp fun {i j} hb => Bf.no (weakRow rs) (i := i) (j := j) hb
theorem sortedSet_ok {A : Around} {E : Value → Shared → Prop} {c : Cf K.h₀} {Q : VPost} {ns : List Int} {D : Addr} {ks : List Int} (hh : A.handled = none) (R : SetR K.prog K.w c.s.heap D (ledIn K.w) ks) (h64 : ks.length < 64) (hm : ∀ x, x ∈ ks ↔ x ∈ ns)
    (q : ∀ ms : List Int, ms.Pairwise (· < ·) → (∀ x, x ∈ ms ↔ x ∈ ns) → Q (.ref c.σ.length) (c.σ ++ [.list (ms.map .int)])) : wpAny K.M A (call (.builtin "sorted") [.ref D]) (PV c Q) E c.s := by
  have hnd : ks.Nodup := by obtain ⟨_, _, _, _, _, _, _, _, _, h, _⟩ := R; exact h
  refine sorted_set hh R h64 fun D' out ms h' s' n a1 a2 a3 f1 f2 f3 ho hg => ?_
  refine PV.listIn (relL_ints a1) (by rw [List.length_map, a2.length_eq]; exact Nat.le_trans (Nat.le_of_lt h64) (by decide)) f1 f3 f2 ⟨ho, hg⟩ (q ms ?_ fun x => (a2.mem_iff).trans (hm x))
  have hn : ms.Nodup := a2.nodup_iff.mpr hnd
  exact (a3.and hn).imp fun {x y} h => Int.lt_iff_le_and_ne.mpr h
/-- one argument -/
noncomputable def one1 (P : V → Store → Prop) : List V → Store → Prop
  | [v], σ => P v σ
  | _, _ => False
theorem one1_inv {P : V → Store → Prop} {σ : Store} : ∀ {vs : List V}, one1 P vs σ → ∃ v, vs = [v] ∧ P v σ
  | [v], h => ⟨v, rfl, h⟩
variable (K) in
/-- a set stands -/
inductive SetAt (c : Cf K.h₀) (Q : VPost) : Value → Shared → Prop
  | mk (c₁ : Cf K.h₀) (D : Addr) (ks ns : List Int) : Stp noOwn c c₁ → SetR K.prog K.w c₁.s.heap D (ledIn K.w) ks → ks.length < 64 → (∀ x, x ∈ ks ↔ x ∈ ns) → (∀ ms : List Int, ms.Pairwise (· < ·) → (∀ x, x ∈ ms ↔ x ∈ ns) → Q (.ref c₁.σ.length) (c₁.σ ++ [.list (ms.map .int)])) → SetAt c Q (.ref D) c₁.s
theorem sort_rd (g : Gnd K.h₀ G fa mg mb) : SortR K G where
  one {L e a pf pos} hf hn he := fun A c ρ Q X R F q => by
    rw [call_eq]
    refine wpAny_bind (name_blt g F hf (by decide) boot_sorted (call_val (.inr ⟨_, rfl⟩) R hn (noStars_cons hn noStars_nil) (lok_cons hn he lok_nil) F (Q := one1 fun v σ => SortK σ Q false v) q fun c₁ Vs vals s₁ r y => ?_))
    obtain ⟨V, rfl, y⟩ := one1_inv y
    obtain ⟨v, rfl, r'⟩ := r.one
    exact fin s₁ (sorted_ok r' y)
  set {L e a pf pf' pos pos'} hf hf' hn he := fun A c ρ Q X R F q => by
    rw [call_eq]
    have hns : NoStar (.Call (.Name ("set" : Str) pf') [e] [] pos') := fun _ _ => rfl
    refine wpAny_bind (name_blt g F hf (by decide) boot_sorted (callWith_builtin (noStars_cons hns noStars_nil L.env pos) ?_))
    have inner : wpAny K.M A (eval (.Call (.Name ("set" : Str) pf') [e] [] pos') L.env) (SetAt K c Q) (PX c X) c.s := by
      rw [call_eq]
      refine wpAny_bind (name_blt g F hf' (by decide) boot_set (call_val (.inl ⟨_, rfl⟩) R hn (noStars_cons hn noStars_nil) (lok_cons hn he lok_nil) F (Q := one1 fun v σ => SortK σ Q true v) q fun c₁ Vs vals s₁ r y => ?_))
      obtain ⟨V, rfl, y⟩ := one1_inv y
      obtain ⟨v, rfl, r'⟩ := r.one
      cases y with
      | @set n ns en hl y' =>
        obtain ⟨l, items, k, rfl, _, gl, rr, z⟩ := Cf.list en r'
        have hsz : items.size = ns.length := by rw [← Array.length_toList, ← rr.length, List.length_map]
        refine call_set R.hd gl.isList (ints_of rr) (by rw [hsz]; exact Nat.lt_of_lt_of_le (Nat.succ_lt_succ hl) (by decide)) fun h' tk ks hS hm hkl kk => ?_
        exact .mk (c₁.keep { c₁.s with heap := h', toks := tk } fun b o e => kk b o (Heap.lt_size e) e) _ ks ns (s₁.trans (Cf.keep_stp ⟨rfl, rfl⟩)) hS (Nat.lt_of_le_of_lt (hsz ▸ hkl) hl) hm y'
    have hl' : wpAny K.M A (spliced (backTo pos (starEach [.Call (.Name ("set" : Str) pf') [e] [] pos'] L.env))) (fun vals s₁ => wpAny K.M A (call (.builtin "sorted") ([] ++ vals) []) (PV c Q) (PX c X) s₁) (PX c X) c.s :=
      wpAny_items_cons (wpAny_mono inner (fun x s₁ y => match y with
        | .mk c₁ D ks ns s₁ hS hkl hm y => wpAny_items_nil (fin s₁ (sortedSet_ok R.hd hS hkl hm y))) fun _ _ e => e) (hns [] L.env)
    rw [hns [] L.env] at hl' ⊢
    exact evalArgs_plain hl'
end
end Mine

/-! NHead -/
namespace Mine
open PySem PySem.Calls PySem.W PyProof.Rows

/-! the top, run at once upon a tree: what is seen behind it -/
noncomputable def topRunT (p : Program) (w : World) (n₀ : Nat) (ann : Option Value) : Nat → SharedT → Thread → Option SharedT
  | 0, _, _ => none
  | n + 1, s, t => match through t with
    | true => some s
    | false => match PySem.W.Fast.tw6613529449190102663 n₀ ann t with
      | false => none
      | true => match PySem.W.Fast.tw10156331382660048174 (PySem.W.Fast.tw11892475500146522536 PySem.W.Fast.tw14364793385576792824) p w s t with
        | some (s', t') => topRunT p w n₀ ann n s' t'
        | none => none
theorem topRun_ofT {p : Program} {w : World} {n₀ : Nat} {ann : Option Value} : ∀ {n : Nat} {s s' : SharedT} {t : Thread}, topRunT p w n₀ ann n s t = some s' → topRun treeTable p w n₀ ann n s.abs t = some s'.abs
  | 0, _, _, _, h => by cases h
  | n + 1, s, s', t, h => by
    unfold topRunT at h
    unfold topRun
    rw [← PySem.W.Fast.te6613529449190102663, ← PySem.W.Fast.te10156331382660048174, ← PySem.W.Fast.te11892475500146522536, ← PySem.W.Fast.te14364793385576792824] at h
    cases he : through t with
    | true => rw [he] at h; cases h; rfl
    | false =>
      rw [he] at h
      cases hk : stepOk n₀ ann t with
      | false => rw [hk] at h; cases h
      | true =>
        rw [hk] at h
        cases hs : stepT (denote treeTable) p w s t with
        | none => rw [hs] at h; cases h
        | some r => obtain ⟨s₂, t₂⟩ := r; rw [hs] at h; rw [stepT_spec hs]; exact topRun_ofT h

noncomputable def bootTree (P : Params) : BT := ((boot_heap P).objs.toList.foldl (fun (x : BT × Nat) o => (x.1.ins x.2 o, x.2 + 1)) (BT.nil, 0)).1
theorem bootTree_eq (P : Params) : boot_heap P = absHeap (bootTree P) 11 {} := by kernel_rfl

noncomputable def runQ (p q : Program) (N : Nat) (w : World) (os : OsState) := match (boot_heap w.params).isNs mainGlobals with
  | true => (topRunT p w 11 ((boot_heap w.params).nsMap mainGlobals "__annotations__") N ⟨bootTree w.params, 11, {}, Array.mk [], boot_drawn, boot_toks, os⟩ (topStub p)).bind fun s₁ =>
      match staticsOk (PySem.W.Fast.tw5923862056798008813 p.main.body) (boot_heap w.params) s₁.abs.heap && namesBound p s₁.abs.heap && gensDone s₁.abs && laidKept (boot_heap w.params) s₁.abs.heap with
      | true => some (PySem.W.Fast.tw4187177175401517315 q [] (PySem.W.Fast.tw5923862056798008813 p.main.body) (fun _ => true) true s₁.abs)
      | false => none
  | false => none

theorem left_once {p q : Program} {N : Nat} (e : opening p = plainProg p.main.scope.names) (hN : Nat.ble 600 N = true) (f : ∀ s, fenceModules? p s = some s)
    (run : ∀ w os, runQ p q N w os = some (openGood q [])) : LeftO p q [] (fun _ => true) (fun _ => ()) (fun _ => ()) N := fun w => by
  obtain ⟨⟨h, gs, d, k, os⟩, e1, e2⟩ := Option.map_eq_some_iff.mp (boot_open e hN f w)
  obtain ⟨rfl, rfl, rfl, rfl⟩ : h = boot_heap w.params ∧ gs = Array.mk [] ∧ d = boot_drawn ∧ k = boot_toks := by simpa using e2
  unfold openEnds
  rw [e1]
  have r := run w os
  unfold runQ at r
  rw [← PySem.W.Fast.te5923862056798008813, ← PySem.W.Fast.te4187177175401517315] at r
  show (topFrom treeTable p w N _).map _ = _
  unfold topFrom
  cases h1 : (boot_heap w.params).isNs mainGlobals with
  | false => rw [h1] at r; cases r
  | true =>
    rw [h1] at r
    dsimp only at r ⊢
    obtain ⟨s₁, r1, r2⟩ := Option.bind_eq_some_iff.mp r
    have r1 := topRun_ofT r1
    show ((topRun treeTable p w (boot_heap w.params).objs.size ((boot_heap w.params).nsMap mainGlobals (Str.ofString "__annotations__")) N ⟨boot_heap w.params, Array.mk [], boot_drawn, boot_toks, os⟩ (topStub p)).bind _).map _ = _
    have r1' : topRun treeTable p w (boot_heap w.params).objs.size ((boot_heap w.params).nsMap mainGlobals (Str.ofString "__annotations__")) N ⟨boot_heap w.params, Array.mk [], boot_drawn, boot_toks, os⟩ (topStub p) = some s₁.abs := by
      rw [show (⟨boot_heap w.params, Array.mk [], boot_drawn, boot_toks, os⟩ : Shared) = SharedT.abs ⟨bootTree w.params, 11, {}, Array.mk [], boot_drawn, boot_toks, os⟩ from congrArg (fun h => (⟨h, Array.mk [], boot_drawn, boot_toks, os⟩ : Shared)) (bootTree_eq w.params)]
      exact r1
    rw [r1']
    cases h2 : (staticsOk (importedModules p.main.body) (boot_heap w.params) s₁.abs.heap && namesBound p s₁.abs.heap && gensDone s₁.abs && laidKept (boot_heap w.params) s₁.abs.heap) with
    | false => rw [h2] at r2; cases r2
    | true =>
      rw [h2] at r2
      show ((match (staticsOk (importedModules p.main.body) (boot_heap w.params) s₁.abs.heap && namesBound p s₁.abs.heap && gensDone s₁.abs && laidKept (boot_heap w.params) s₁.abs.heap) with | true => some s₁.abs | false => none) : Option Shared).map _ = _
      rw [h2]
      exact congrArg (fun x => some (x, ())) (Option.some.inj r2)
end Mine

/-! N14 -/
namespace Mine
open PySem PySem.Calls PySem.W PyProof.Rows
set_option genSizeOf false
set_option genInjectivity false

/-- what is fixed in a law's walk -/
structure Lw where
  prog : Program
  w : World
  h₀ : Heap
  exc : Heap → Addr → Nat → Prop
  G : GlT
  fa : Nat → Addr
  mg : Str → Option Value
  mb : Str → Option Value
abbrev Lw.K (l : Lw) (P : List Fn) (d : Nat) : Ctx := ⟨l.prog, l.w, l.h₀, callW P d, d, l.exc⟩
/-- a def of the text, and its reading -/
structure FunAt (l : Lw) (P : List Fn) (i : Nat) (fn : Fn) (o : Obj) (name : Str) (params : Arguments) (body : List Stmt) (sc : Scope) (pm code doc : Value) : Prop where
  get : l.h₀.get? (l.fa i) = some o
  data : o.data = .func (docDef name params body sc pm code doc)
  code : l.h₀.CodeRec code name
  ok : ∀ d, Bg (l.K P d) l.G l.fa l.mg l.mb → SortR (l.K P d) l.G → ∃ args, FnOk (l.K P d) params body sc fn args
structure LwOk (l : Lw) (P : List Fn) : Prop where
  g : Gnd l.h₀ l.G l.fa l.mg l.mb
  hx : ∀ d, XR (l.K P d)
  so : ∀ d, SortR (l.K P d) l.G
  fn : ∀ x i fn, l.G.lookup x = some (.fn i) → P[i]? = some fn → ∃ o name params body sc pm code doc, FunAt l P i fn o name params body sc pm code doc
theorem callP_up {l : Lw} {P : List Fn} {d : Nat} {c : Cf l.h₀} {Q : VPost} {X : XPost} : ∀ {r : Result} {s : Shared}, callP (l.K P d) c Q X r s → callP (l.K P (d + 1)) c Q X r s
  | .ok (.ret _), _, y => by cases (y : PV _ _ _ _) with | mk c' V st r q => exact PV.mk (K := l.K P (d + 1)) c' V st r q
  | .ok .next, _, y => y
  | .ok .brk, _, y => y
  | .ok .cont, _, y => y
  | .error _, _, y => by cases (y : PX _ _ _ _) with | mk c' k a n o st e q => exact PX.mk (K := l.K P (d + 1)) c' k a n o st e q
theorem csound {l : Lw} {P : List Fn} (h : LwOk l P) : ∀ d, CSound (l.K P d) l.G l.fa
  | 0 => fun _ _ _ _ _ _ _ _ _ _ _ q => q.elim
  | d + 1 => fun x i hx A c Vs vals Q X R r ⟨fn, e, hl, q⟩ => by
    obtain ⟨o, name, params, body, sc, pm, code, doc, fa⟩ := h.fn x i fn hx e
    obtain ⟨args, ok⟩ := fa.ok d ⟨h.g, csound h d, h.hx d⟩ (h.so d)
    refine codeAny_mono (call_ok (K := l.K P d) (c := c) (Q := Q) (X := X) (h.hx d) rfl (fd := docDef name params body sc pm code doc) ok.params ok.ok rfl rfl rfl rfl rfl ⟨R.hd, R.depth, R.units⟩ (c.sim.keep _ _ fa.get) fa.data (h.g.nolimit.keeps c.sim.keep) (fa.code.keeps c.sim.keep) r (ok.len.symm.trans hl.symm)
      (fun env he _ => ok.body env he) q) fun _ _ y => callP_up y

/-! the ground -/
noncomputable def glFrom : Nat → List DefRec → GlT
  | _, [] => []
  | n, d :: r => (d.name, .fn n) :: glFrom (n + 1) r
theorem glFrom_get : ∀ (ds : List DefRec) (n : Nat) {x : Str} {g : Gl}, (glFrom n ds).lookup x = some g → ∃ j d, g = .fn (n + j) ∧ ds[j]? = some d ∧ d.name = x
  | y :: r, n, x, g, h => by
    rw [glFrom, List.lookup_cons] at h
    cases e : x == y.name with
    | true => rw [e] at h; exact ⟨0, y, (Option.some.inj h).symm, rfl, (beq_iff_eq.mp e).symm⟩
    | false => rw [e] at h; obtain ⟨j, d, h1, h2, h3⟩ := glFrom_get r (n + 1) h; exact ⟨j + 1, d, h1.trans (by rw [Nat.add_assoc, Nat.add_comm 1]), h2, h3⟩
/-- the text's constants -/
noncomputable def litOf (x : Str) : Option PyData → Option (Str × Gl)
  | some (.str z) => some (x, .str z)
  | some (.int i) => some (x, .int i)
  | _ => none
noncomputable def glLits (p : Program) : GlT := (litsOf p).filterMap fun x => litOf x.1 (valOf p x.1)
noncomputable def glAll (p : Program) : GlT := glFrom 0 (recsOf p) ++ glLits p
theorem lookup_app {α : Type} {x : Str} : ∀ (a b : List (Str × α)) {v : α}, (a ++ b).lookup x = some v → a.lookup x = some v ∨ b.lookup x = some v
  | [], _, _, h => .inr h
  | (y, w) :: a, b, v, h => by
    rw [List.cons_append, List.lookup_cons] at h
    rw [List.lookup_cons]
    cases e : x == y with
    | true => rw [e] at h; exact .inl h
    | false => rw [e] at h; exact lookup_app a b h
theorem litOf_inv {x y : Str} {g : Gl} : ∀ {o : Option PyData}, litOf x o = some (y, g) → x = y ∧ ((∃ z, g = .str z ∧ o = some (.str z)) ∨ ∃ i, g = .int i ∧ o = some (.int i))
  | some (.str z), h => by cases h; exact ⟨rfl, .inl ⟨z, rfl, rfl⟩⟩
  | some (.int z), h => by cases h; exact ⟨rfl, .inr ⟨z, rfl, rfl⟩⟩
theorem glAll_get {p : Program} {x : Str} {g : Gl} (h : (glAll p).lookup x = some g) : (∃ i d, g = .fn i ∧ (recsOf p)[i]? = some d ∧ d.name = x) ∨ (∃ z, g = .str z ∧ valOf p x = some (.str z)) ∨ ∃ i, g = .int i ∧ valOf p x = some (.int i) := by
  rcases lookup_app _ _ h with h | h
  · obtain ⟨j, d, h1, h2, h3⟩ := glFrom_get _ 0 h
    exact .inl ⟨j, d, h1.trans (by rw [Nat.zero_add]), h2, h3⟩
  · obtain ⟨y, _, e⟩ := List.mem_filterMap.mp (mem_of_lookup h)
    obtain ⟨e', q⟩ := litOf_inv e
    exact .inr (e' ▸ q)
/-- where the functions lie -/
noncomputable def addrIn (mg : Str → Option Value) (x : Str) : Addr := match mg x with
  | some (.ref a) => a
  | _ => 0
noncomputable def addrOf (mg : Str → Option Value) (ds : List DefRec) (i : Nat) : Addr := match ds[i]? with
  | some d => addrIn mg d.name
  | none => 0
theorem addrOf_eq {mg : Str → Option Value} {ds : List DefRec} {i : Nat} {d : DefRec} {a : Addr} (h : ds[i]? = some d) (e : mg d.name = some (.ref a)) : addrOf mg ds i = a := by unfold addrOf addrIn; rw [h]; dsimp only; rw [e]
noncomputable def bltFree (p : Program) (loose : List Str) : Bool :=
  bltNames.all fun x => !(startupNames.contains x || loose.contains x || ((recsOf p).map (·.name)).contains x || ((litsOf p).map (·.1)).contains x || ((clssOf p loose).map (·.name)).contains x) || ((glAll p).lookup x).isSome
theorem gnd_of {p : Program} {loose : List Str} {mean : ExcName → Option Value} {mg mb : Str → Option Value} {h : Heap} (T : Top p loose mean mg mb h) (hb : bltFree p loose = true) : Gnd h (glAll p) (addrOf mg (recsOf p)) mg mb where
  ns := T.g
  nsb := T.b
  nolimit := T.nolimit
  fn x i hx := by
    obtain ⟨j, d, e, hd, rfl⟩ := (glAll_get hx).resolve_right fun q => by rcases q with ⟨_, q, _⟩ | ⟨_, q, _⟩ <;> cases q
    cases e
    obtain ⟨a, o, pm, cd, doc, h1, _⟩ := T.fn d (List.mem_of_getElem? hd)
    rw [h1, addrOf_eq hd h1]
  isfn x i hx := by
    obtain ⟨j, d, e, hd, rfl⟩ := (glAll_get hx).resolve_right fun q => by rcases q with ⟨_, q, _⟩ | ⟨_, q, _⟩ <;> cases q
    cases e
    obtain ⟨a, o, pm, cd, doc, h1, h2, h3, _⟩ := T.fn d (List.mem_of_getElem? hd)
    exact ⟨o, _, addrOf_eq hd h1 ▸ h2, h3⟩
  str x z hx := by
    rcases glAll_get hx with ⟨_, _, q, _⟩ | ⟨_, q, hv⟩ | ⟨_, q, _⟩ <;> cases q
    obtain ⟨v, hv, r⟩ := T.const x _ hv
    cases r h; exact ⟨_, hv⟩
  int x z hx := by
    rcases glAll_get hx with ⟨_, _, q, _⟩ | ⟨_, q, _⟩ | ⟨_, q, hv⟩ <;> cases q
    obtain ⟨v, hv, r⟩ := T.const x _ hv
    cases r h; exact ⟨_, hv⟩
  blt x hx hn := by
    have := List.all_eq_true.mp hb x hx
    rw [hn] at this
    simp only [Option.isSome_none, Bool.or_false, Bool.not_eq_true', Bool.or_eq_false_iff] at this
    obtain ⟨⟨⟨⟨a1, a2⟩, a3⟩, a4⟩, a5⟩ := this
    exact T.free x (fun m => Bool.eq_false_iff.mp a1 (List.contains_iff_mem.mpr m)) (fun m => Bool.eq_false_iff.mp a2 (List.contains_iff_mem.mpr m)) (fun m => Bool.eq_false_iff.mp a3 (List.contains_iff_mem.mpr m)) (fun m => Bool.eq_false_iff.mp a4 (List.contains_iff_mem.mpr m)) (fun m => Bool.eq_false_iff.mp a5 (List.contains_iff_mem.mpr m))
  bv := T.builtins

/-- the text's functions, read -/
abbrev Reads (G : GlT) (ds : List DefRec) (extra : Nat) (P : List Fn) : Prop := ∀ (K : Ctx) (fa : Nat → Addr) (mg mb : Str → Option Value) (B : Bg K G fa mg mb) (S : SortR K G), mapO (fun d : DefRec => (rFn B S extra d.body d.scope d.params).map Subtype.val) ds = some P
theorem mapO_get {α β : Type} {f : α → Option β} : ∀ (as : List α) {bs : List β} {i : Nat} {a : α} {b : β}, mapO f as = some bs → as[i]? = some a → bs[i]? = some b → f a = some b
  | a :: as, bs, i, x, b, h, ha, hb => by
    obtain ⟨y, hy, h⟩ := Option.bind_eq_some_iff.mp h
    obtain ⟨ys, hys, rfl⟩ := Option.map_eq_some_iff.mp h
    cases i with
    | zero => cases ha; cases hb; exact hy
    | succ i => exact mapO_get as hys ha hb
theorem lw_ok {l : Lw} {p : Program} {loose : List Str} {mean : ExcName → Option Value} {P : List Fn} {extra : Nat} (T : Top p loose mean l.mg l.mb l.h₀) (hb : bltFree p loose = true) (hG : l.G = glAll p) (hfa : l.fa = addrOf l.mg (recsOf p)) (hx : ∀ d, XR (l.K P d)) (so : ∀ d, SortR (l.K P d) l.G) (hP : Reads (glAll p) (recsOf p) extra P) : LwOk l P where
  g := hG ▸ hfa ▸ gnd_of T hb
  hx := hx
  so := so
  fn x i fn h hi := by
    obtain ⟨j, d, e, hd, _⟩ := (glAll_get (hG ▸ h)).resolve_right fun q => by rcases q with ⟨_, q, _⟩ | ⟨_, q, _⟩ <;> cases q
    cases e
    obtain ⟨a, o, pm, cd, doc, h1, h2, h3, h4⟩ := T.fn d (List.mem_of_getElem? hd)
    refine ⟨o, d.name, d.params, d.body, d.scope, pm, cd, doc, hfa ▸ addrOf_eq hd h1 ▸ h2, h3, h4, fun k B S => ?_⟩
    have e := mapO_get _ (hP _ _ _ _ (hG ▸ B) (hG ▸ S)) hd hi
    obtain ⟨r, _, e⟩ := Option.map_eq_some_iff.mp e
    exact e ▸ r.2

theorem well_all {P : Params} {h : Heap} : ∀ {vs : List Value} {xs : List Int}, WellAll P h vs (ofPys (xs.map PyData.int)) → IntsAre vs xs
  | _, [], x => by rw [List.map_nil, ofPys] at x; cases x; exact .nil
  | _, i :: xs, x => by
    rw [List.map_cons, ofPys, ofPy] at x
    cases x with
    | cons a b => cases a; exact .cons i _ (well_all b)
theorem well_ints {P : Params} {h : Heap} {l : Addr} {xs : List Int} (x : Well P h (.ref l) (ofPy (.list (xs.map PyData.int)))) : ∃ vs, h.get? l = some { cls := .type "list", data := .seq vs.toArray } ∧ IntsAre vs xs := by
  rw [ofPy] at x
  cases x with
  | list e a => exact ⟨_, e, well_all a⟩
/-- the state at the law's call -/
noncomputable def cf₀ {s : Shared} {l : Addr} {vs : List Value} {xs : List Int} (hl : s.heap.get? l = some { cls := .type "list", data := .seq vs.toArray }) (hv : IntsAre vs xs) (hz : xs.length ≤ 63) : Cf s.heap :=
  ⟨s, [l], [.list (xs.map .int)], fun _ _ e => e, rfl, List.nodup_cons.mpr ⟨List.not_mem_nil, List.nodup_nil⟩, fun _ _ e => (nomatch e), fun n o e => match n, e with
    | 0, e => ⟨l, rfl, Option.some.inj e ▸ ⟨vs.toArray, 0, hl, relL_ints hv, by rw [List.length_map]; exact Nat.le_trans hz (by decide)⟩⟩⟩
/-- a law whose text raises nothing that it catches -/
noncomputable def lw₀ (p : Program) (w : World) (q : Program) (h : Heap) (mg mb : Str → Option Value) : Lw := ⟨p, w, h, fun _ _ _ => False, glAll q, addrOf mg (recsOf q), mg, mb⟩
theorem xr₀ {p : Program} {w : World} {q : Program} {h : Heap} {mg mb : Str → Option Value} {P : List Fn} {d : Nat} : XR ((lw₀ p w q h mg mb).K P d) := ⟨fun _ _ _ f => f.elim, fun _ _ f => f.elim, fun _ _ f => f.elim, fun _ _ f => f.elim⟩
theorem law_go {p q : Program} {w : World} {loose : List Str} {mean : ExcName → Option Value} {mg mb : Str → Option Value} {s₁ : Shared} {P : List Fn} {extra : Nat} {c : ClaimW} {cl : Str → Option Addr} {args : List WData} {a l : Addr} {vs : List Value} {xs : List Int} {i d : Nat} {name : Str}
    (T : Top q loose mean mg mb s₁.heap) (hb : bltFree q loose = true) (hP : Reads (glAll q) (recsOf q) extra P) (hi : (glAll q).lookup name = some (.fn i)) (hd : d ≤ 500) (hmg : mg name = some (.ref a)) (hg : s₁.gens = #[])
    (hl : s₁.heap.get? l = some { cls := .type "list", data := .seq vs.toArray }) (hv : IntsAre vs xs) (hz : xs.length ≤ 63)
    (hr : ∀ cls, c.raises args cls = false) (hpost : c.post args (.bool true) args = true)
    (plain : callW P d i [.ref 0] [.list (xs.map .int)] (fun v _ => v = .bool true) (fun _ _ => False)) :
    codeAny (model p w) callerA (.call (.ref a) ⟨[.ref l], []⟩) (GoodWG c cl mean args s₁) s₁ := by
  have g := gnd_of T hb
  have ok : LwOk (lw₀ p w q s₁.heap mg mb) P := lw_ok T hb rfl rfl (fun _ => xr₀) (fun _ => sort_rd (K := Lw.K _ _ _) g) hP
  have ha := g.fn name i hi
  rw [hmg] at ha
  cases ha
  have R : ROk ((lw₀ p w q s₁.heap mg mb).K P d) callerA := ⟨rfl, by show 1 + claimMargin + d < 900; unfold claimMargin; omega, by show 4 + 3 * d < 9000; omega⟩
  refine codeAny_mono (csound ok d name i hi callerA (cf₀ hl hv hz) [.ref 0] [.ref l] _ _ R ⟨⟨l, rfl, rfl⟩, trivial⟩ plain) fun r s' y => ?_
  match r, y with
  | .ok (.ret v), y =>
    obtain ⟨c', V, st, r, rfl⟩ := (y : PV _ _ _ _)
    cases r
    exact GoodW.toG ⟨.inl ⟨.bool true, .bool true, [], rfl, hr, .bool true, hpost, fun _ => ⟨List.nodup_nil, fun _ h => nomatch h⟩⟩, c'.sim.keep, st.only.1, st.only.2.trans hg⟩
  | .error e, y => exact (PX.no (fun _ _ f => f) (y : PX _ _ _ _)).elim
end Mine

/-! NWp -/
namespace Mine
open PySem
set_option genSizeOf false
set_option genInjectivity false

/-! what the abstract machine does, step by step -/
section
variable {C : Oracle} {ρ : List V} {σ : Store} {Q : Post} {P : VPost} {X : XPost} {i n : Nat} {e e' a b : Ex} {es es' : List Ex} {t : Tx} {ts : List Tx} {K : Bool → Store → Prop} {R : List V → Store → Prop} {s : Sx} {ss ss' : List Sx}
theorem call_in {Ps : List Fn} {f : Nat} {fn : Fn} {d : Nat} {args : List V} (h : Ps[f]? = some fn) (hl : args.length = fn.params) (q : sSeq fn.body (callW Ps d) (args ++ List.replicate (fn.slots - fn.params) V.undef) σ (retK P X)) : callW Ps (d + 1) f args σ P X := ⟨fn, h, hl, q⟩
theorem k_next (q : R ρ σ) : seqK R Q .next ρ σ := q
theorem k_ret {v : V} (q : Q (.ret v) ρ σ) : seqK R Q (.ret v) ρ σ := q
theorem k_exc {c : Nat} (q : Q (.exc c) ρ σ) : seqK R Q (.exc c) ρ σ := q
theorem k_brk (q : Q .brk ρ σ) : seqK R Q .brk ρ σ := q
theorem k_cont (q : Q .cont ρ σ) : seqK R Q .cont ρ σ := q
theorem k_ret' {v : V} (q : P v σ) : retK P X (.ret v) ρ σ := q
theorem k_next' (q : P .none σ) : retK P X .next ρ σ := q
theorem lk_next (q : R ρ σ) : loopK R Q .next ρ σ := q
theorem lk_cont (q : R ρ σ) : loopK R Q .cont ρ σ := q
theorem lk_brk (q : Q .next ρ σ) : loopK R Q .brk ρ σ := q
theorem lk_ret {v : V} (q : Q (.ret v) ρ σ) : loopK R Q (.ret v) ρ σ := q
theorem lk_exc {c : Nat} (q : Q (.exc c) ρ σ) : loopK R Q (.exc c) ρ σ := q

theorem s_nil (q : Q .next ρ σ) : sSeq [] C ρ σ Q := q
theorem s_cons (q : s C ρ σ (seqK (fun ρ₁ σ₁ => sSeq ss C ρ₁ σ₁ Q) Q)) : sSeq (s :: ss) C ρ σ Q := q
theorem s_expr (q : e C ρ σ (fun _ σ₁ => Q .next ρ σ₁) (fun c σ₁ => Q (.exc c) ρ σ₁)) : sExpr e C ρ σ Q := q
theorem s_ret (q : e C ρ σ (fun v σ₁ => Q (.ret v) ρ σ₁) (fun c σ₁ => Q (.exc c) ρ σ₁)) : sRet e C ρ σ Q := q
theorem s_retN (q : Q (.ret .none) ρ σ) : sRetN C ρ σ Q := q
theorem s_pass (q : Q .next ρ σ) : sPass C ρ σ Q := q
theorem s_set {p : Pat} (q : e C ρ σ (fun v σ₁ => BindK σ₁ (fun ρ' => Q .next ρ' σ₁) ρ p v) (fun c σ₁ => Q (.exc c) ρ σ₁)) : sSet p e C ρ σ Q := q
theorem s_item (q : e C ρ σ (fun v σ₁ => a C ρ σ₁ (fun x σ₂ => b C ρ σ₂ (fun y σ₃ => SetK σ₃ (fun σ₄ => Q .next ρ σ₄) v x y) (fun c σ₃ => Q (.exc c) ρ σ₃)) (fun c σ₂ => Q (.exc c) ρ σ₂)) (fun c σ₁ => Q (.exc c) ρ σ₁)) : sItem a b e C ρ σ Q := q
theorem s_if (q : t C ρ σ (fun t σ₁ => if t = true then sSeq ss C ρ σ₁ Q else sSeq ss' C ρ σ₁ Q) (fun c σ₁ => Q (.exc c) ρ σ₁)) : sIf t ss ss' C ρ σ Q := q
theorem s_for {p : Pat} {k : SrcT} (q : evs es C ρ σ (fun vs σ₁ => ∃ items same, SrcK σ₁ k vs items same ∧ forW (turnF C p ss) same items ρ σ₁ Q) (fun c σ₁ => Q (.exc c) ρ σ₁)) : sFor p k es ss C ρ σ Q := q

theorem e_none (q : P .none σ) : xNone C ρ σ P X := q
theorem e_bool {t : Bool} (q : P (.bool t) σ) : xBool t C ρ σ P X := q
theorem e_int {k : Int} (q : P (.int k) σ) : xInt k C ρ σ P X := q
theorem e_str {k : Str} (q : P (.str k) σ) : xStr k C ρ σ P X := q
noncomputable def def? : V → Bool
  | .undef => false
  | _ => true
theorem e_loc {v : V} (h : ρ[i]? = some v) (hd : def? v = true) (q : P v σ) : xLoc i C ρ σ P X := ⟨v, h, fun e => Bool.false_ne_true ((congrArg def? e).symm.trans hd), q⟩
theorem e_bin {op : BOp} (q : a C ρ σ (fun x σ₁ => b C ρ σ₁ (fun y σ₂ => BinK σ₂ P op x y) X) X) : xBin op a b C ρ σ P X := q
theorem e_neg (q : a C ρ σ (fun x σ₁ => ∃ i, x = .int i ∧ P (.int (-i)) σ₁) X) : xNeg a C ρ σ P X := q
theorem r_neg {k : Int} (q : P (.int (-k)) σ) : ∃ i, V.int k = .int i ∧ P (.int (-i)) σ := ⟨k, rfl, q⟩
theorem e_not (q : a C ρ σ (fun x σ₁ => TruK σ₁ (fun b => P (.bool (!b)) σ₁) x) X) : xNot a C ρ σ P X := q
theorem b_one {d : Bool} (q : e C ρ σ P X) : xBoo d [e] C ρ σ P X := q
theorem b_cons {d : Bool} (q : e C ρ σ (fun v σ₁ => TruK σ₁ (fun b => if b = d then xBoo d (e' :: es) C ρ σ₁ P X else P v σ₁) v) X) : xBoo d (e :: e' :: es) C ρ σ P X := q
theorem e_of (q : t C ρ σ (fun b σ₁ => P (.bool b) σ₁) X) : xOf t C ρ σ P X := q
theorem e_tup (q : evs es C ρ σ (fun vs σ₁ => P (.tup vs) σ₁) X) : xTup es C ρ σ P X := q
theorem e_list (q : evs es C ρ σ (fun vs σ₁ => P (.ref σ₁.length) (σ₁ ++ [.list vs])) X) : xList es C ρ σ P X := q
theorem e_sub (q : a C ρ σ (fun x σ₁ => b C ρ σ₁ (fun y σ₂ => SubK σ₂ P x y) X) X) : xSub a b C ρ σ P X := q
theorem e_call {f : Nat} (q : evs es C ρ σ (fun vs σ₁ => C f vs σ₁ P X) X) : xCall f es C ρ σ P X := q
theorem e_prim {p : Pr} (q : evs es C ρ σ (fun vs σ₁ => PrimK σ₁ P p vs) X) : xPrim p es C ρ σ P X := q
theorem e_app (q : a C ρ σ (fun v σ₁ => isList σ₁ v ∧ b C ρ σ₁ (fun u σ₂ => AppK σ₂ P u v) X) X) : xApp a b C ρ σ P X := q
theorem e_slice {lo hi : Option Ex} (q : a C ρ σ (fun x σ₁ => evo lo C ρ σ₁ (fun y σ₂ => evo hi C ρ σ₂ (fun z σ₃ => SliceK σ₃ P x y z) X) X) X) : xSlice a lo hi C ρ σ P X := q
theorem o_none {P : Option V → Store → Prop} (q : P none σ) : evo none C ρ σ P X := q
theorem o_some {P : Option V → Store → Prop} (q : e C ρ σ (fun v σ₁ => P (some v) σ₁) X) : evo (some e) C ρ σ P X := q
theorem e_sort {u : Bool} (q : a C ρ σ (fun v σ₁ => SortK σ₁ P u v) X) : xSort u a C ρ σ P X := q
theorem e_comp {k : SrcT} (q : evs es C ρ σ (fun vs σ₁ => ∃ items same, SrcK σ₁ k vs items same ∧ items.length ≤ maxLen ∧ compW (turnC C e i ts ρ) same items [] σ₁ fun ys σ₂ => P (.ref σ₂.length) (σ₂ ++ [.list ys])) X) : xComp e i k es ts C ρ σ P X := q
theorem l_nil {P : List V → Store → Prop} (q : P [] σ) : evs [] C ρ σ P X := q
theorem l_cons {P : List V → Store → Prop} (q : e C ρ σ (fun v σ₁ => evs es C ρ σ₁ (fun vs σ₂ => P (v :: vs) σ₂) X) X) : evs (e :: es) C ρ σ P X := q
theorem c_one {op : CmpOp} {x : V} (q : e C ρ σ (fun y σ₁ => CmpK σ₁ (fun b => K b σ₁) op x y) X) : chain [op] [e] x C ρ σ K X := q
theorem c_cons {op op' : CmpOp} {ops : List CmpOp} {x : V} (q : e C ρ σ (fun y σ₁ => CmpK σ₁ (fun b => if b = true then chain (op' :: ops) (e' :: es) y C ρ σ₁ K X else K false σ₁) op x y) X) : chain (op :: op' :: ops) (e :: e' :: es) x C ρ σ K X := q
theorem t_cmp {ops : List CmpOp} (q : e C ρ σ (fun x σ₁ => chain ops es x C ρ σ₁ K X) X) : tCmp e ops es C ρ σ K X := q
theorem t_val (q : e C ρ σ (fun v σ₁ => TruK σ₁ (fun b => K b σ₁) v) X) : tVal e C ρ σ K X := q
theorem t_not (q : t C ρ σ (fun b σ₁ => K (!b) σ₁) X) : tNot t C ρ σ K X := q
theorem ts_nil (q : K true σ) : tAnd [] C ρ σ K X := q
theorem ts_cons (q : t C ρ σ (fun b σ₁ => if b = true then tAnd ts C ρ σ₁ K X else K false σ₁) X) : tAnd (t :: ts) C ρ σ K X := q
theorem to_nil (q : K false σ) : tOr [] C ρ σ K X := q
theorem to_cons (q : t C ρ σ (fun b σ₁ => if b = true then K true σ₁ else tOr ts C ρ σ₁ K X) X) : tOr (t :: ts) C ρ σ K X := q
theorem u_c {i : Nat} {v : V} {R : Option V → Store → Prop} (q : tAnd ts C (ρ.set i v) σ (fun b σ₁ => if b = true then e C (ρ.set i v) σ₁ (fun x σ₂ => R (some x) σ₂) noX else R none σ₁) noX) : turnC C e i ts ρ v σ R := q
theorem u_f {p : Pat} {v : V} (q : BindK σ (fun ρ' => sSeq ss C ρ' σ Q) ρ p v) : turnF C p ss v ρ σ Q := q
end

section
variable {σ : Store} {K : Bool → Prop} {x y : Int} {n : Nat}
theorem cm_eq (q : K (decide (x = y))) : CmpK σ K .Eq (.int x) (.int y) := .eq (x := .int x) (y := .int y) rfl rfl rfl rfl (by
  rw [show PyData.eqv (.int x) (.int y) = decide (x = y) from rfl]; exact q)
theorem cm_ne (q : K (!decide (x = y))) : CmpK σ K .NotEq (.int x) (.int y) := .ne (x := .int x) (y := .int y) rfl rfl rfl rfl q
theorem cm_eqB {a b : Bool} (q : K (a == b)) : CmpK σ K .Eq (.bool a) (.bool b) := .eq (x := .bool a) (y := .bool b) rfl rfl rfl rfl q
theorem cm_neB {a b : Bool} (q : K (!(a == b))) : CmpK σ K .NotEq (.bool a) (.bool b) := .ne (x := .bool a) (y := .bool b) rfl rfl rfl rfl q
theorem cm_eqS {x y : Str} (hx : PyData.strOk x = true) (hy : PyData.strOk y = true) (q : K (x == y)) : CmpK σ K .Eq (.str x) (.str y) := .eq (x := .str x) (y := .str y) rfl rfl hx hy q
/-- data that equals itself -/
theorem cm_eqD {a b : V} {x : PyData} (ha : toD σ 6 a = some x) (hb : toD σ 6 b = some x) (hc : x.canLay0 = true) (q : K true) : CmpK σ K .Eq a b := .eq ha hb hc hc (by rw [PySem.SeqAt.eqv_refl x hc]; exact q)
theorem cm_neD {a b : V} {x : PyData} (ha : toD σ 6 a = some x) (hb : toD σ 6 b = some x) (hc : x.canLay0 = true) (q : K false) : CmpK σ K .NotEq a b := .ne ha hb hc hc (by rw [PySem.SeqAt.eqv_refl x hc]; exact q)
theorem cm_isN (q : K true) : CmpK σ K .Is .none .none := .is q
theorem cm_isI (q : K false) : CmpK σ K .Is (.int x) .none := .is q
theorem cm_isT {vs : List V} (q : K false) : CmpK σ K .Is (.tup vs) .none := .is q
theorem cm_isB {b : Bool} (q : K false) : CmpK σ K .Is (.bool b) .none := .is q
theorem cm_isnN (q : K false) : CmpK σ K .IsNot .none .none := .isnot q
theorem cm_isnI (q : K true) : CmpK σ K .IsNot (.int x) .none := .isnot q
theorem cm_isnT {vs : List V} (q : K true) : CmpK σ K .IsNot (.tup vs) .none := .isnot q

variable {Q : VPost}
theorem small_of {x : Int} (h : -1000000000000000 ≤ x) (h' : x ≤ 1000000000000000) : small x = true := Bool.and_eq_true_iff.mpr ⟨decide_eq_true (Int.le_trans (by decide) h), decide_eq_true (Int.lt_of_le_of_lt h' (by decide))⟩
theorem r_mulK {k : Nat} (h : small (OfNat.ofNat k) = true) (q : Q (.int (x * OfNat.ofNat k)) σ) : BinK σ Q .mul (.int x) (.int (OfNat.ofNat k)) := .mul (.inr h) q
theorem r_mul (h : (-1000000000000000 ≤ x ∧ x ≤ 1000000000000000) ∨ (-1000000000000000 ≤ y ∧ y ≤ 1000000000000000)) (q : Q (.int (x * y)) σ) : BinK σ Q .mul (.int x) (.int y) := .mul (h.imp (fun h => small_of h.1 h.2) fun h => small_of h.1 h.2) q
theorem r_mod (h : 0 < y) (q : Q (.int (x % y)) σ) : BinK σ Q .mod (.int x) (.int y) := .mod (Int.ne_of_gt h) (Int.fmod_eq_emod_of_nonneg x (Int.le_of_lt h) ▸ q)
theorem r_modK {k : Nat} (h : decide ((0 : Int) < OfNat.ofNat k) = true) (q : Q (.int (x % OfNat.ofNat k)) σ) : BinK σ Q .mod (.int x) (.int (OfNat.ofNat k)) := r_mod (of_decide_eq_true h) q
theorem r_div (h : 0 < y ∧ y ≤ 1000000000000000) (q : Q (.int (x / y)) σ) : BinK σ Q .floordiv (.int x) (.int y) :=
  .div (Int.ne_of_gt h.1) (small_of (Int.le_trans (by decide) (Int.le_of_lt h.1)) h.2) (Int.fdiv_eq_ediv_of_nonneg x (Int.le_of_lt h.1) ▸ q)
theorem r_divK {k : Nat} (h : (decide ((0 : Int) < OfNat.ofNat k) && decide ((OfNat.ofNat k : Int) ≤ 1000000000000000)) = true) (q : Q (.int (x / OfNat.ofNat k)) σ) : BinK σ Q .floordiv (.int x) (.int (OfNat.ofNat k)) :=
  have h := Bool.and_eq_true_iff.mp h
  r_div ⟨of_decide_eq_true h.1, of_decide_eq_true h.2⟩ q
theorem r_pow6 (q : Q (.int 1000000) σ) : BinK σ Q .pow (.int 10) (.int 6) := BinK.pow (n := 6) (by decide) (by decide) q
theorem idx_pos {k : Int} {m : Nat} (h : 0 ≤ k) (h' : k.toNat < m) : Idx k m k.toNat := .inl ⟨(Int.toNat_of_nonneg h).symm, h'⟩
theorem r_subT {vs : List V} {k : Int} {v : V} (h : 0 ≤ k) (hk : k < 1000000) (h' : vs[k.toNat]? = some v) (q : Q v σ) : SubK σ Q (.tup vs) (.int k) :=
  .tup (small_of (Int.le_trans (by decide) h) (Int.le_trans (Int.le_of_lt hk) (by decide))) (idx_pos h (List.getElem?_eq_some_iff.mp h').1) h' q
theorem r_subTK {vs : List V} {k : Int} {v : V} (h : (decide (0 ≤ k) && decide (k < 1000000)) = true) (h' : vs[k.toNat]? = some v) (q : Q v σ) : SubK σ Q (.tup vs) (.int k) :=
  have h := Bool.and_eq_true_iff.mp h
  r_subT (of_decide_eq_true h.1) (of_decide_eq_true h.2) h' q
theorem r_subL {vs : List V} {k : Int} {v : V} (e : σ[n]? = some (.list vs)) (h : 0 ≤ k) (h' : vs[k.toNat]? = some v) (q : Q v σ) : SubK σ Q (.ref n) (.int k) := .list e (idx_pos h (List.getElem?_eq_some_iff.mp h').1) h' q
theorem r_subLK {vs : List V} {k : Int} {v : V} (e : σ[n]? = some (.list vs)) (h : decide (0 ≤ k) = true) (h' : vs[k.toNat]? = some v) (q : Q v σ) : SubK σ Q (.ref n) (.int k) := r_subL e (of_decide_eq_true h) h' q
theorem r_min (q : Q (.int (min x y)) σ) : PrimK σ Q .min [.int x, .int y] := .min (by rw [show (if y < x then y else x) = min x y by rw [Int.min_def]; split <;> split <;> omega]; exact q)
theorem r_max (q : Q (.int (max x y)) σ) : PrimK σ Q .max [.int x, .int y] := .max (by rw [show (if y > x then y else x) = max x y by rw [Int.max_def]; split <;> split <;> omega]; exact q)
theorem r_isB {b : Bool} (q : Q (.bool true) σ) : PrimK σ Q (.isinst .bool) [.bool b] := .isB q
theorem r_isBI {b : Bool} (q : Q (.bool true) σ) : PrimK σ Q (.isinst .int) [.bool b] := .isB q
theorem r_isI (q : Q (.bool true) σ) : PrimK σ Q (.isinst .int) [.int x] := .isI q
theorem r_isIB (q : Q (.bool false) σ) : PrimK σ Q (.isinst .bool) [.int x] := .isI q
theorem r_isT {vs : List V} (q : Q (.bool true) σ) : PrimK σ Q (.isinst .tuple) [.tup vs] := .isT q
theorem r_isL {vs : List V} (e : σ[n]? = some (.list vs)) (q : Q (.bool true) σ) : PrimK σ Q (.isinst .list) [.ref n] := .isL e q
theorem r_isS {s : Str} (q : Q (.bool true) σ) : PrimK σ Q (.isinst .str) [.str s] := .isS q
theorem a_list {vs : List V} {B : Prop} (e : σ[n]? = some (.list vs)) (q : B) : isList σ (.ref n) ∧ B := ⟨⟨n, vs, rfl, e⟩, q⟩
theorem r_append {vs : List V} {v : V} (e : σ[n]? = some (.list vs)) (hn : n ≠ 0) (hz : vs.length < 1000000) (q : Q .none (σ.set n (.list (vs ++ [v])))) : AppK σ Q v (.ref n) := .mk e hz hn q
theorem st_list {vs : List V} {k : Int} {v : V} {K : Store → Prop} (e : σ[n]? = some (.list vs)) (hn : n ≠ 0) (h : 0 ≤ k) (h' : k.toNat < vs.length) (q : K (σ.set n (.list (vs.set k.toNat v)))) : SetK σ K v (.ref n) (.int k) := by
  have := SetK.mk (v := v) (k := k.toNat) e hn h' q
  rwa [Int.toNat_of_nonneg h] at this

variable {A B : Prop}
theorem ite_t (a : A) : ite (true = true) A B := a
theorem ite_f (b : B) : ite (false = true) A B := b
theorem ite_nt (b : B) : ite ((!true) = true) A B := b
theorem ite_nf (a : A) : ite ((!false) = true) A B := a
theorem ite_tf (b : B) : ite (true = false) A B := b
theorem ite_ff (a : A) : ite (false = false) A B := a
theorem ite_p {c : Prop} [Decidable c] (h : c) (a : A) : ite c A B := (if_pos h).symm ▸ a
theorem ite_n {c : Prop} [Decidable c] (h : ¬ c) (b : B) : ite c A B := (if_neg h).symm ▸ b
theorem ite_b {b : Bool} (x : b = true → A) (y : b = false → B) : ite (b = true) A B := match b, x, y with
  | true, x, _ => x rfl
  | false, _, y => y rfl
theorem ite_bf {b : Bool} (x : b = false → A) (y : b = true → B) : ite (b = false) A B := match b, x, y with
  | false, x, _ => x rfl
  | true, _, y => y rfl
theorem ite_d {c : Prop} [Decidable c] (a : c → A) (b : ¬ c → B) : ite (decide c = true) A B := ite_b (fun h => a (of_decide_eq_true h)) fun h => b (of_decide_eq_false h)
theorem ite_df {c : Prop} [Decidable c] (a : ¬ c → A) (b : c → B) : ite (decide c = false) A B := ite_bf (fun h => a (of_decide_eq_false h)) fun h => b (of_decide_eq_true h)
theorem ite_nd {c : Prop} [Decidable c] (a : ¬ c → A) (b : c → B) : ite ((!decide c) = true) A B := ite_b (fun h => a (of_decide_eq_false (by cases e : decide c; rfl; rw [e] at h; cases h))) fun h => b (of_decide_eq_true (by cases e : decide c; rw [e] at h; cases h; rfl))
end

/-- the first n statements up to I, the others from it -/
theorem s_cut {C : Oracle} (n : Nat) (I : List V → Store → Prop) {l : List Sx} {ρ : List V} {σ : Store} {Q : Post}
    (h : ∀ R : List V → Store → Prop, (∀ ρ' σ', I ρ' σ' → R ρ' σ') → sSeq (l.take n) C ρ σ (seqK R Q))
    (rest : ∀ ρ' σ', I ρ' σ' → sSeq (l.drop n) C ρ' σ' Q) : sSeq l C ρ σ Q := by
  have key : ∀ (n : Nat) (l : List Sx) (ρ : List V) (σ : Store), sSeq (l.take n) C ρ σ (seqK (fun ρ' σ' => sSeq (l.drop n) C ρ' σ' Q) Q) = sSeq l C ρ σ Q := by
    intro n
    induction n with
    | zero => intro l ρ σ; rfl
    | succ n ih =>
      intro l ρ σ
      cases l with
      | nil => rfl
      | cons s ss =>
        refine congrArg (s C ρ σ) (funext fun fl => funext fun ρ₁ => funext fun σ₁ => ?_)
        cases fl <;> first | rfl | exact ih ss ρ₁ σ₁
  exact key n l ρ σ ▸ h _ rest

noncomputable def cellAt (xs : List Int) (k : Int) : Int := xs.getD k.toNat 0
end Mine

/-! NWpL -/
namespace Mine
open PySem

section
variable {turn : V → List V → Store → Post → Prop} {same : Store → Prop} {Q : Post}
/-- a loop with an invariant -/
theorem forW_inv (I : Nat → List V → Store → Prop) : ∀ (items : List V) (k : Nat) (ρ : List V) (σ : Store),
    (∀ i v ρ σ (R : List V → Store → Prop), items[i]? = some v → I (k + i) ρ σ → (∀ ρ' σ', same σ' → I (k + i + 1) ρ' σ' → R ρ' σ') → turn v ρ σ (loopK R Q)) →
    (∀ ρ σ, I (k + items.length) ρ σ → Q .next ρ σ) → I k ρ σ → forW turn same items ρ σ Q
  | [], k, ρ, σ, _, fin, h0 => fin ρ σ h0
  | v :: vs, k, ρ, σ, step, fin, h0 => step 0 v ρ σ _ rfl h0 fun ρ' σ' s i => ⟨s, forW_inv I vs (k + 1) ρ' σ' (fun j v ρ σ K hv hI h1 => by
      have e : k + 1 + j = k + (j + 1) := by rw [Nat.add_assoc, Nat.add_comm 1]
      rw [e] at hI h1
      exact step (j + 1) v ρ σ K hv hI h1) (fun ρ σ h => fin ρ σ (by rw [List.length_cons, Nat.add_comm vs.length, ← Nat.add_assoc]; exact h)) i⟩

theorem rangeL_at : ∀ (n : Nat) (a : Int) (i : Nat) (v : V), (rangeL a n)[i]? = some v → v = .int (a + i) ∧ i < n
  | n + 1, a, 0, v, h => ⟨by rw [← Option.some.inj h]; exact congrArg V.int (Int.add_zero a).symm, Nat.succ_pos n⟩
  | n + 1, a, i + 1, v, h => let ⟨h1, h2⟩ := rangeL_at n (a + 1) i v h; ⟨h1.trans (congrArg V.int (by omega)), Nat.succ_lt_succ h2⟩
theorem rangeL_len : ∀ (n : Nat) (a : Int), (rangeL a n).length = n
  | 0, _ => rfl
  | n + 1, a => congrArg (· + 1) (rangeL_len n _)
theorem enumL_at : ∀ (vs : List V) (a : Int) (i : Nat) (u : V), (enumL a vs)[i]? = some u → ∃ v, vs[i]? = some v ∧ u = .tup [.int (a + i), v]
  | v :: vs, a, 0, u, h => ⟨v, rfl, by rw [← Option.some.inj h, show a + ((0 : Nat) : Int) = a from Int.add_zero a]⟩
  | v :: vs, a, i + 1, u, h => let ⟨w, h1, h2⟩ := enumL_at vs (a + 1) i u h; ⟨w, h1, h2.trans (by rw [show a + 1 + (i : Int) = a + ((i + 1 : Nat) : Int) by omega])⟩
theorem enumL_len : ∀ (vs : List V) (a : Int), (enumL a vs).length = vs.length
  | [], _ => rfl
  | _ :: vs, _ => congrArg (· + 1) (enumL_len vs _)

variable {ρ : List V} {σ : Store}
theorem le_mx {b : Int} (hb : -1000000 ≤ b) : -(2 ^ 62) ≤ b := Int.le_trans (by decide) hb
theorem f_range2 {a b : Int} (I : Nat → List V → Store → Prop) (ha : 0 ≤ a ∧ a ≤ 1000000) (hb : -1000000 ≤ b ∧ b ≤ 1000000) (h0 : I 0 ρ σ)
    (step : ∀ (i : Nat) ρ σ (R : List V → Store → Prop), a + i < b → I i ρ σ → (∀ ρ' σ', I (i + 1) ρ' σ' → R ρ' σ') → turn (.int (a + i)) ρ σ (loopK R Q))
    (fin : ∀ ρ σ, I (b - a).toNat ρ σ → Q .next ρ σ) : ∃ items same, SrcK σ .range [.int a, .int b] items same ∧ forW turn same items ρ σ Q :=
  ⟨_, _, .range2 ha.1 ha.2 (le_mx hb.1) hb.2, forW_inv I _ 0 ρ σ (fun i v ρ σ K hv hI h1 => by
    obtain ⟨rfl, hi⟩ := rangeL_at _ _ _ _ hv
    rw [Nat.zero_add] at hI h1
    exact step i ρ σ K (by omega) hI fun ρ' σ' h => h1 ρ' σ' trivial h) (fun ρ σ h => fin ρ σ (by rw [rangeL_len, Nat.zero_add] at h; exact h)) h0⟩
theorem f_range {b : Int} (I : Nat → List V → Store → Prop) (hb : -1000000 ≤ b ∧ b ≤ 1000000) (h0 : I 0 ρ σ)
    (step : ∀ (i : Nat) ρ σ (R : List V → Store → Prop), (i : Int) < b → I i ρ σ → (∀ ρ' σ', I (i + 1) ρ' σ' → R ρ' σ') → turn (.int i) ρ σ (loopK R Q))
    (fin : ∀ ρ σ, I b.toNat ρ σ → Q .next ρ σ) : ∃ items same, SrcK σ .range [.int b] items same ∧ forW turn same items ρ σ Q :=
  ⟨_, _, .range (le_mx hb.1) hb.2, forW_inv I _ 0 ρ σ (fun i v ρ σ K hv hI h1 => by
    obtain ⟨rfl, hi⟩ := rangeL_at _ _ _ _ hv
    rw [Nat.zero_add] at hI h1
    rw [Int.zero_add]
    exact step i ρ σ K (by omega) hI fun ρ' σ' h => h1 ρ' σ' trivial h) (fun ρ σ h => fin ρ σ (by rw [rangeL_len, Nat.zero_add] at h; exact h)) h0⟩
theorem f_list {n : Nat} {vs : List V} (I : Nat → List V → Store → Prop) (e : σ[n]? = some (.list vs)) (h0 : I 0 ρ σ)
    (step : ∀ (i : Nat) v ρ σ (R : List V → Store → Prop), vs[i]? = some v → I i ρ σ → (∀ ρ' σ', σ'[n]? = some (.list vs) → I (i + 1) ρ' σ' → R ρ' σ') → turn v ρ σ (loopK R Q))
    (fin : ∀ ρ σ, I vs.length ρ σ → Q .next ρ σ) : ∃ items same, SrcK σ .plain [.ref n] items same ∧ forW turn same items ρ σ Q :=
  ⟨_, _, .list e, forW_inv I _ 0 ρ σ (fun i v ρ σ K hv hI h1 => by rw [Nat.zero_add] at hI h1; exact step i v ρ σ K hv hI h1) (fun ρ σ h => fin ρ σ (by rw [Nat.zero_add] at h; exact h)) h0⟩
theorem f_tup {vs : List V} (I : Nat → List V → Store → Prop) (h0 : I 0 ρ σ)
    (step : ∀ (i : Nat) v ρ σ (R : List V → Store → Prop), vs[i]? = some v → I i ρ σ → (∀ ρ' σ', I (i + 1) ρ' σ' → R ρ' σ') → turn v ρ σ (loopK R Q))
    (fin : ∀ ρ σ, I vs.length ρ σ → Q .next ρ σ) : ∃ items same, SrcK σ .plain [.tup vs] items same ∧ forW turn same items ρ σ Q :=
  ⟨_, _, .tup, forW_inv I _ 0 ρ σ (fun i v ρ σ K hv hI h1 => by rw [Nat.zero_add] at hI h1; exact step i v ρ σ K hv hI fun ρ' σ' h => h1 ρ' σ' trivial h) (fun ρ σ h => fin ρ σ (by rw [Nat.zero_add] at h; exact h)) h0⟩
theorem f_enum {n : Nat} {vs : List V} (I : Nat → List V → Store → Prop) (e : σ[n]? = some (.list vs)) (h0 : I 0 ρ σ)
    (step : ∀ (i : Nat) v ρ σ (R : List V → Store → Prop), vs[i]? = some v → I i ρ σ → (∀ ρ' σ', σ'[n]? = some (.list vs) → I (i + 1) ρ' σ' → R ρ' σ') → turn (.tup [.int i, v]) ρ σ (loopK R Q))
    (fin : ∀ ρ σ, I vs.length ρ σ → Q .next ρ σ) : ∃ items same, SrcK σ .enum [.ref n] items same ∧ forW turn same items ρ σ Q :=
  ⟨_, _, .enum e, forW_inv I _ 0 ρ σ (fun i v ρ σ K hv hI h1 => by
    obtain ⟨u, hu, rfl⟩ := enumL_at _ _ _ _ hv
    rw [Nat.zero_add] at hI h1
    rw [Int.zero_add]
    exact step i u ρ σ K hu hI h1) (fun ρ σ h => fin ρ σ (by rw [enumL_len, Nat.zero_add] at h; exact h)) h0⟩
end

section
variable {turn : V → Store → (Option V → Store → Prop) → Prop} {same : Store → Prop} {Q : List V → Store → Prop}
/-- a comprehension with an invariant -/
theorem compW_inv (I : Nat → List V → Store → Prop) : ∀ (items : List V) (k : Nat) (acc : List V) (σ : Store),
    (∀ i v acc σ (K : Option V → Store → Prop), items[i]? = some v → I (k + i) acc σ → (∀ r σ', same σ' → I (k + i + 1) (acc ++ r.toList) σ' → K r σ') → turn v σ K) →
    (∀ acc σ, I (k + items.length) acc σ → Q acc σ) → I k acc σ → compW turn same items acc σ Q
  | [], k, acc, σ, _, fin, h0 => fin acc σ h0
  | v :: vs, k, acc, σ, step, fin, h0 => step 0 v acc σ _ rfl h0 fun r σ' s i => ⟨s, compW_inv I vs (k + 1) _ σ' (fun j v acc σ K hv hI h1 => by
      have e : k + 1 + j = k + (j + 1) := by rw [Nat.add_assoc, Nat.add_comm 1]
      rw [e] at hI h1
      exact step (j + 1) v acc σ K hv hI h1) (fun acc σ h => fin acc σ (by rw [List.length_cons, Nat.add_comm vs.length, ← Nat.add_assoc]; exact h)) i⟩
/-- each item mapped, or left out; the store stands -/
theorem compW_map {α : Type} {σ : Store} {g : α → V} (f : α → Option V) (hs : same σ) : ∀ (l : List α) (acc : List V), (∀ x ∈ l, ∀ K : Option V → Store → Prop, K (f x) σ → turn (g x) σ K) → Q (acc ++ l.filterMap f) σ → compW turn same (l.map g) acc σ Q
  | [], acc, _, q => by rw [List.filterMap_nil, List.append_nil] at q; exact q
  | v :: vs, acc, h, q => h v List.mem_cons_self _ ⟨hs, compW_map f hs vs _ (fun u hu => h u (List.mem_cons_of_mem _ hu)) (by
    rw [List.append_assoc]
    cases hv : f v with
    | none => rw [List.filterMap_cons_none hv] at q; exact q
    | some x => rw [List.filterMap_cons_some hv] at q; exact q)⟩
variable {σ : Store}
/-- [.. for x in list], the items being g's images -/
theorem c_list {α : Type} {n : Nat} {l : List α} {g : α → V} (f : α → Option V) (e : σ[n]? = some (.list (l.map g))) (hz : l.length ≤ 1000000) (h : ∀ x ∈ l, ∀ K : Option V → Store → Prop, K (f x) σ → turn (g x) σ K)
    (q : Q (l.filterMap f) σ) : ∃ items same, SrcK σ .plain [.ref n] items same ∧ items.length ≤ maxLen ∧ compW turn same items [] σ Q :=
  ⟨_, _, .list e, by rw [List.length_map]; exact hz, compW_map f e l [] h q⟩
theorem rangeL_eq : ∀ (n : Nat) (a : Nat), rangeL a n = (List.range' a n).map fun k : Nat => V.int k
  | 0, _ => rfl
  | n + 1, a => congrArg (V.int a :: ·) (rangeL_eq n (a + 1))
/-- [.. for k in range(b)] -/
theorem c_range {b : Int} (f : Nat → Option V) (hb : -1000000 ≤ b ∧ b ≤ 1000000) (h : ∀ k : Nat, (k : Int) < b → ∀ K : Option V → Store → Prop, K (f k) σ → turn (.int k) σ K)
    (q : Q ((List.range b.toNat).filterMap f) σ) : ∃ items same, SrcK σ .range [.int b] items same ∧ items.length ≤ maxLen ∧ compW turn same items [] σ Q :=
  ⟨_, _, .range (le_mx hb.1) hb.2, by rw [rangeL_len]; have := hb.2; unfold maxLen; omega, by
    rw [show rangeL 0 b.toNat = (List.range b.toNat).map fun k : Nat => V.int k by rw [List.range_eq_range']; exact rangeL_eq _ 0]
    exact compW_map f trivial _ [] (fun k hk => h k (by have := List.mem_range.mp hk; omega)) q⟩
end

theorem get_app {σ τ : Store} {n : Nat} {o : O} (h : σ[n]? = some o) : (σ ++ τ)[n]? = some o := by
  rw [List.getElem?_append_left (List.getElem?_eq_some_iff.mp h).1]; exact h
theorem pre_at {σ σ' : Store} (p : σ <+: σ') {n : Nat} {o : O} (h : σ[n]? = some o) : σ'[n]? = some o := let ⟨_, e⟩ := p; e ▸ get_app h
theorem pre_app {σ τ : Store} : σ <+: σ ++ τ := List.prefix_append _ _
theorem get_last {σ : Store} {o : O} : (σ ++ [o])[σ.length]? = some o := List.getElem?_concat_length
theorem get_set_ne {σ : Store} {n m : Nat} {o x : O} (hn : n ≠ m) (h : σ[m]? = some o) : (σ.set n x)[m]? = some o := by
  rw [List.getElem?_set_ne hn]; exact h
theorem get_set_eq {σ : Store} {n : Nat} {o x : O} (h : σ[n]? = some o) : (σ.set n x)[n]? = some x := by
  rw [List.getElem?_set_self (List.getElem?_eq_some_iff.mp h).1]
theorem mapO_map {α : Type} {f : V → Option PyData} {g : α → V} {dat : α → PyData} : ∀ l : List α, (∀ x ∈ l, f (g x) = some (dat x)) → mapO f (l.map g) = some (l.map dat)
  | [], _ => rfl
  | r :: rs, h => by rw [List.map_cons, mapO, mapO_map rs fun x hx => h x (List.mem_cons_of_mem _ hx), h r List.mem_cons_self]; rfl
theorem toD_map {α : Type} {σ : Store} {n m : Nat} {l : List α} {g : α → V} {dat : α → PyData} (e : σ[n]? = some (.list (l.map g))) (h : ∀ x ∈ l, toD σ m (g x) = some (dat x)) : toD σ (m + 1) (.ref n) = some (.list (l.map dat)) := by
  show listD (toD σ m) σ[n]? = _
  rw [e]
  show Option.map _ (mapO (toD σ m) (l.map g)) = _
  rw [mapO_map l h]; rfl
theorem canAll_map {α : Type} {dat : α → PyData} : ∀ l : List α, (∀ x ∈ l, (dat x).canLay0 = true) → PyData.canLayAll0 (l.map dat) = true
  | [], _ => rfl
  | r :: rs, h => by rw [List.map_cons, PyData.canLayAll0, canAll_map rs fun x hx => h x (List.mem_cons_of_mem _ hx), h r List.mem_cons_self]; rfl
theorem can_map {α : Type} {l : List α} {dat : α → PyData} (h : ∀ x ∈ l, (dat x).canLay0 = true) : (PyData.list (l.map dat)).canLay0 = true := by
  rw [PyData.canLay0]; exact canAll_map l h

/-- a shelf's habit: low, or left -/
noncomputable def hab (b : Bool) : V := .str (if b then Str.ofString "low" else Str.ofString "left")
noncomputable def habD (b : Bool) : PyData := .str (if b then Str.ofString "low" else Str.ofString "left")
theorem ok_low : PyData.strOk (Str.ofString "low") = true := by decide +kernel
theorem ok_left : PyData.strOk (Str.ofString "left") = true := by decide +kernel
theorem low_left : (Str.ofString "left" == Str.ofString "low") = false := by decide +kernel
theorem left_low : (Str.ofString "low" == Str.ofString "left") = false := by decide +kernel
theorem cm_low {σ : Store} {K : Bool → Prop} : ∀ {b : Bool}, K b → CmpK σ K .Eq (hab b) (.str (Str.ofString "low"))
  | true, q => cm_eqS (x := Str.ofString "low") ok_low ok_low (by rw [beq_self_eq_true]; exact q)
  | false, q => cm_eqS (x := Str.ofString "left") ok_left ok_low (by rw [low_left]; exact q)
theorem cm_left {σ : Store} {K : Bool → Prop} : ∀ {b : Bool}, K (!b) → CmpK σ K .Eq (hab b) (.str (Str.ofString "left"))
  | true, q => cm_eqS (x := Str.ofString "low") ok_low ok_left (by rw [left_low]; exact q)
  | false, q => cm_eqS (x := Str.ofString "left") ok_left ok_left (by rw [beq_self_eq_true]; exact q)
theorem toD_hab {σ : Store} {n : Nat} {b : Bool} : toD σ (n + 1) (hab b) = some (habD b) := rfl
theorem can_hab : ∀ {b : Bool}, (habD b).canLay0 = true
  | true => ok_low
  | false => ok_left
theorem def_hab {b : Bool} : def? (hab b) = true := rfl
end Mine

/-! P04 -/
namespace Mine

/-! the first gap between stretches -/
noncomputable def gapStep (size b : Int) (r : Int × Int) : Int := if r.1 < b + size ∧ r.2 > b then r.2 else b
noncomputable def FreeAt (size : Int) (rows : List (Int × Int)) (b : Int) : Prop := ∀ r ∈ rows, ¬ (r.1 < b + size ∧ r.2 > b)

theorem gap_aux {size : Int} : ∀ (rest done : List (Int × Int)) (b : Int), (done ++ rest).Pairwise (fun x y => x.1 ≤ y.1) → FreeAt size done b → (∀ c, 0 ≤ c → c < b → ¬ FreeAt size done c) → 0 ≤ b →
    FreeAt size (done ++ rest) (rest.foldl (gapStep size) b) ∧ 0 ≤ rest.foldl (gapStep size) b ∧ (∀ c, 0 ≤ c → c < rest.foldl (gapStep size) b → ¬ FreeAt size (done ++ rest) c)
  | [], done, b, _, h1, h2, h3 => by simpa using ⟨h1, h3, h2⟩
  | r :: rest, done, b, hp, h1, h2, h3 => by
    have hp' : ((done ++ [r]) ++ rest).Pairwise (fun x y => x.1 ≤ y.1) := by simpa using hp
    have hle : ∀ x ∈ done, x.1 ≤ r.1 := fun x hx => (List.pairwise_append.mp hp).2.2 x hx r (by simp)
    have hmem : ∀ {c}, FreeAt size (done ++ [r]) c ↔ FreeAt size done c ∧ ¬ (r.1 < c + size ∧ r.2 > c) := by
      intro c
      refine ⟨fun h => ⟨fun x hx => h x (by simp [hx]), h r (by simp)⟩, fun h x hx => ?_⟩
      rcases List.mem_append.mp hx with hx | hx
      · exact h.1 x hx
      · rw [List.mem_singleton.mp hx]; exact h.2
    rw [List.foldl_cons]
    have key : FreeAt size (done ++ [r]) (gapStep size b r) ∧ (∀ c, 0 ≤ c → c < gapStep size b r → ¬ FreeAt size (done ++ [r]) c) ∧ 0 ≤ gapStep size b r := by
      unfold gapStep
      split
      · rename_i hc
        refine ⟨hmem.mpr ⟨fun x hx hn => ?_, fun hn => by omega⟩, fun c hc0 hc1 hf => ?_, by omega⟩
        · have := h1 x hx
          have := hle x hx
          omega
        · have hf := hmem.mp hf
          by_cases hcb : c < b
          · exact h2 c hc0 hcb hf.1
          · exact hf.2 (by omega)
      · rename_i hc
        exact ⟨hmem.mpr ⟨h1, hc⟩, fun c hc0 hc1 hf => h2 c hc0 hc1 (hmem.mp hf).1, h3⟩
    have := gap_aux rest (done ++ [r]) (gapStep size b r) hp' key.1 key.2.1 key.2.2
    simpa using this

theorem gap_in {size : Int} : ∀ (rest : List (Int × Int)) (b : Int), rest.foldl (gapStep size) b = b ∨ ∃ r ∈ rest, rest.foldl (gapStep size) b = r.2
  | [], b => .inl rfl
  | r :: rest, b => by
    rw [List.foldl_cons]
    rcases gap_in rest (gapStep size b r) with h | ⟨x, hx, h⟩
    · rw [h]; unfold gapStep
      split
      · exact .inr ⟨r, by simp, rfl⟩
      · exact .inl rfl
    · exact .inr ⟨x, by simp [hx], h⟩

/-- what a first gap is -/
structure IsGap (size room : Int) (rows : List (Int × Int)) (g : Option Int) : Prop where
  some : ∀ b, g = some b → 0 ≤ b ∧ b + size ≤ room ∧ FreeAt size rows b ∧ (∀ c, 0 ≤ c → FreeAt size rows c → b ≤ c) ∧ (b = 0 ∨ ∃ r ∈ rows, b = r.2)
  none : g = none → ∀ c, 0 ≤ c → c + size ≤ room → ¬ FreeAt size rows c

theorem isGap {size room : Int} {rows ts : List (Int × Int)} (hp : ts.Perm rows) (hs : ts.Pairwise (fun x y => x.1 ≤ y.1)) {g : Int} (hg : g = ts.foldl (gapStep size) 0) :
    IsGap size room rows (if g + size > room then none else some g) := by
  subst hg
  obtain ⟨h1, h2, h3⟩ := gap_aux (size := size) ts [] 0 hs (fun _ h => by cases h) (fun c h h' => by omega) (Int.le_refl 0)
  have hf : ∀ c, FreeAt size ts c ↔ FreeAt size rows c := fun c => ⟨fun h x hx => h x (hp.mem_iff.mpr hx), fun h x hx => h x (hp.mem_iff.mp hx)⟩
  rw [List.nil_append] at h1 h3
  refine ⟨fun b hb => ?_, fun hb c h h' hn => ?_⟩
  · split at hb
    · cases hb
    · cases hb
      refine ⟨h2, by omega, (hf _).mp h1, fun c hc hfc => ?_, ?_⟩
      · by_cases hlt : c < ts.foldl (gapStep size) 0
        · exact absurd ((hf c).mpr hfc) (h3 c hc hlt)
        · omega
      · rcases gap_in (size := size) ts 0 with h | ⟨r, hr, h⟩
        · exact .inl h
        · exact .inr ⟨r, hp.mem_iff.mp hr, h⟩
  · split at hb
    · by_cases hlt : c < ts.foldl (gapStep size) 0
      · exact h3 c h hlt ((hf c).mpr hn)
      · omega
    · cases hb

/-! boxes by their first and second side -/
structure Bx where
  p : Int
  s : Int
  pl : Int
  sl : Int
noncomputable def Clear (a b p s : Int) (o : Bx) : Prop := p + a ≤ o.p ∨ o.p + o.pl ≤ p ∨ s + b ≤ o.s ∨ o.s + o.sl ≤ s
structure Gd (O : List Bx) (P S a b p s : Int) : Prop where
  p0 : 0 ≤ p
  s0 : 0 ≤ s
  p1 : p + a ≤ P
  s1 : s + b ≤ S
  clear : ∀ o ∈ O, Clear a b p s o
/-- the first of all good places -/
structure IsMin (G : Int → Int → Prop) (p s : Int) : Prop where
  good : G p s
  least : ∀ p' s', G p' s' → p < p' ∨ (p = p' ∧ s ≤ s')
noncomputable def First (G : Int → Int → Prop) : Option (Int × Int) → Prop
  | none => ∀ p s, ¬ G p s
  | some (p, s) => IsMin G p s

theorem first_unique {G : Int → Int → Prop} {x y : Option (Int × Int)} (hx : First G x) (hy : First G y) : x = y := by
  match x, y, hx, hy with
  | none, none, _, _ => rfl
  | none, some (p, s), hx, hy => exact absurd hy.good (hx p s)
  | some (p, s), none, hx, hy => exact absurd hx.good (hy p s)
  | some (p, s), some (p', s'), hx, hy =>
    have h1 := hx.least _ _ hy.good
    have h2 := hy.least _ _ hx.good
    have : p = p' := by omega
    subst this
    have : s = s' := by omega
    subst this; rfl

/-- a good place, let down to an end of a box -/
theorem let_down {O : List Bx} {P S a b p s : Int} (g : Gd O P S a b p s) : ∃ e, e ≤ p ∧ (e = 0 ∨ (0 < e ∧ ∃ o ∈ O, e = o.p + o.pl)) ∧ Gd O P S a b e s := by
  have key : ∀ (L : List Bx), ∃ e, 0 ≤ e ∧ e ≤ p ∧ (e = 0 ∨ (0 < e ∧ ∃ o ∈ L, e = o.p + o.pl)) ∧ ∀ o ∈ L, o.p + o.pl ≤ p → o.p + o.pl ≤ e := by
    intro L
    induction L with
    | nil => exact ⟨0, Int.le_refl 0, g.p0, .inl rfl, fun _ h => by cases h⟩
    | cons x L ih =>
      obtain ⟨e, h0, h1, h2, h3⟩ := ih
      by_cases hx : x.p + x.pl ≤ p ∧ e < x.p + x.pl
      · refine ⟨x.p + x.pl, by omega, hx.1, .inr ⟨by omega, x, by simp, rfl⟩, fun o ho hp => ?_⟩
        rcases List.mem_cons.mp ho with rfl | ho
        · exact Int.le_refl _
        · have := h3 o ho hp; omega
      · refine ⟨e, h0, h1, h2.imp id fun ⟨h, o, ho, he⟩ => ⟨h, o, by simp [ho], he⟩, fun o ho hp => ?_⟩
        rcases List.mem_cons.mp ho with rfl | ho
        · omega
        · exact h3 o ho hp
  obtain ⟨e, h0, h1, h2, h3⟩ := key O
  refine ⟨e, h1, h2, h0, g.s0, by have := g.p1; omega, g.s1, fun o ho => ?_⟩
  rcases g.clear o ho with h | h | h | h
  · exact .inl (by omega)
  · exact .inr (.inl (h3 o ho h))
  · exact .inr (.inr (.inl h))
  · exact .inr (.inr (.inr h))

noncomputable def band (a p : Int) (O : List Bx) : List Bx := O.filter fun o => decide (o.p < p + a) && decide (p < o.p + o.pl)
noncomputable def stretches (O : List Bx) : List (Int × Int) := O.map fun o => (o.s, o.s + o.sl)
theorem band_free {O : List Bx} {a b p s : Int} : FreeAt b (stretches (band a p O)) s ↔ ∀ o ∈ O, Clear a b p s o := by
  refine ⟨fun h o ho => ?_, fun h r hr => ?_⟩
  · unfold Clear
    by_cases hb : o.p < p + a ∧ p < o.p + o.pl
    · have := h (o.s, o.s + o.sl) (List.mem_map.mpr ⟨o, List.mem_filter.mpr ⟨ho, by simp [hb]⟩, rfl⟩)
      dsimp only at this
      omega
    · omega
  · obtain ⟨o, ho, rfl⟩ := List.mem_map.mp hr
    obtain ⟨ho, hb⟩ := List.mem_filter.mp ho
    simp only [Bool.and_eq_true, decide_eq_true_eq] at hb
    have := h o ho
    unfold Clear at this
    dsimp only
    omega

/-- the search, from the first begin on -/
inductive Search (O : List Bx) (P S a b : Int) : List Int → Option (Int × Int) → Prop
  | nil : Search O P S a b [] none
  | hit {p s : Int} {ms : List Int} : IsGap b S (stretches (band a p O)) (some s) → p + a ≤ P → Search O P S a b (p :: ms) (some (p, s))
  | miss {p : Int} {ms : List Int} {g : Option Int} {r : Option (Int × Int)} : IsGap b S (stretches (band a p O)) g → (g = none ∨ ¬ p + a ≤ P) → Search O P S a b ms r → Search O P S a b (p :: ms) r

theorem search_least {O : List Bx} {P S a b : Int} {ms : List Int} {r : Option (Int × Int)} (h : Search O P S a b ms r) (hs : ms.Pairwise (· < ·)) (h0 : ∀ m ∈ ms, 0 ≤ m) :
    (∀ p s, r = some (p, s) → p ∈ ms ∧ Gd O P S a b p s ∧ (s = 0 ∨ ∃ o ∈ O, s = o.s + o.sl) ∧ ∀ e ∈ ms, ∀ s', Gd O P S a b e s' → p < e ∨ (p = e ∧ s ≤ s')) ∧ (r = none → ∀ e ∈ ms, ∀ s', ¬ Gd O P S a b e s') := by
  induction h with
  | nil => exact ⟨fun _ _ e => (by cases e), fun _ _ e => (by cases e)⟩
  | @hit p s ms g hp =>
    refine ⟨fun p' s' e => ?_, fun e => by cases e⟩
    cases e
    obtain ⟨g0, g1, g2, g3, g4⟩ := g.some s rfl
    refine ⟨by simp, ⟨h0 p (by simp), g0, hp, g1, band_free.mp g2⟩, ?_, fun e he s' gd => ?_⟩
    · rcases g4 with h | ⟨r, hr, h⟩
      · exact .inl h
      · obtain ⟨o, ho, rfl⟩ := List.mem_map.mp hr
        exact .inr ⟨o, (List.mem_filter.mp ho).1, h⟩
    · rcases List.mem_cons.mp he with rfl | he
      · exact .inr ⟨rfl, g3 s' gd.s0 (band_free.mpr gd.clear)⟩
      · exact .inl ((List.pairwise_cons.mp hs).1 e he)
  | @miss p ms g r hg hn _ ih =>
    have hno : ∀ s', ¬ Gd O P S a b p s' := fun s' gd => by
      rcases hn with hn | hn
      · exact hg.none hn s' gd.s0 gd.s1 (band_free.mpr gd.clear)
      · exact hn gd.p1
    obtain ⟨i1, i2⟩ := ih (List.pairwise_cons.mp hs).2 (fun m hm => h0 m (by simp [hm]))
    refine ⟨fun p' s' e => ?_, fun e q hq s' gd => ?_⟩
    · obtain ⟨j1, j2, j3, j4⟩ := i1 p' s' e
      refine ⟨by simp [j1], j2, j3, fun q hq s'' gd => ?_⟩
      rcases List.mem_cons.mp hq with rfl | hq
      · exact absurd gd (hno s'')
      · exact j4 q hq s'' gd
    · rcases List.mem_cons.mp hq with rfl | hq
      · exact hno s' gd
      · exact i2 e q hq s' gd

/-- where the search begins: 0 and the ends of the boxes -/
noncomputable def begEdges (O : List Bx) (a P : Int) : List Int := 0 :: (O.map fun o => o.p + o.pl).filter fun e => decide (0 < e) && decide (e ≤ P - a)
/-- on ends alone -/
noncomputable def OnEnds (O : List Bx) : Option (Int × Int) → Prop
  | none => True
  | some (p, s) => (p = 0 ∨ ∃ o ∈ O, p = o.p + o.pl) ∧ (s = 0 ∨ ∃ o ∈ O, s = o.s + o.sl)
theorem search_first {O : List Bx} {P S a b : Int} {ms : List Int} {r : Option (Int × Int)} (h : Search O P S a b ms r) (hs : ms.Pairwise (· < ·)) (hm : ∀ x, x ∈ ms ↔ x ∈ begEdges O a P) : First (Gd O P S a b) r ∧ OnEnds O r := by
  have hmem : ∀ x, x ∈ begEdges O a P ↔ x = 0 ∨ (0 < x ∧ x ≤ P - a ∧ ∃ o ∈ O, x = o.p + o.pl) := by
    intro x
    simp only [begEdges, List.mem_cons, List.mem_filter, List.mem_map, Bool.and_eq_true, decide_eq_true_eq]
    constructor
    · rintro (h | ⟨⟨o, ho, rfl⟩, h⟩)
      · exact .inl h
      · exact .inr ⟨h.1, h.2, o, ho, rfl⟩
    · rintro (h | ⟨h1, h2, o, ho, rfl⟩)
      · exact .inl h
      · exact .inr ⟨⟨o, ho, rfl⟩, h1, h2⟩
  have h0 : ∀ m ∈ ms, 0 ≤ m := fun m hm' => by
    rcases (hmem m).mp ((hm m).mp hm') with h | h <;> omega
  obtain ⟨h1, h2⟩ := search_least h hs h0
  have hd : ∀ p s, Gd O P S a b p s → ∃ e ∈ ms, e ≤ p ∧ Gd O P S a b e s := fun p s g => by
    obtain ⟨e, e1, e2, e3⟩ := let_down g
    refine ⟨e, (hm e).mpr ((hmem e).mpr (e2.imp id fun h => ⟨h.1, by have := e3.p1; omega, h.2⟩)), e1, e3⟩
  match r, h1, h2 with
  | none, _, h2 =>
    refine ⟨fun p s g => ?_, trivial⟩
    obtain ⟨e, he, _, ge⟩ := hd p s g
    exact h2 rfl e he s ge
  | some (p, s), h1, _ =>
    obtain ⟨j1, j2, j3, j4⟩ := h1 p s rfl
    refine ⟨⟨j2, fun p' s' g => ?_⟩, ?_, j3⟩
    · obtain ⟨e, he, hle, ge⟩ := hd p' s' g
      have := j4 e he s' ge
      omega
    · rcases (hmem p).mp ((hm p).mp j1) with h | h
      · exact .inl h
      · exact .inr h.2.2

/-! all numbers times one -/
noncomputable def Bx.by (o : Bx) (m n : Int) : Bx := ⟨o.p * m, o.s * n, o.pl * m, o.sl * n⟩
theorem le_mul {x y m : Int} (hm : 0 < m) : x * m ≤ y * m ↔ x ≤ y := ⟨fun h => Int.le_of_mul_le_mul_right h hm, fun h => Int.mul_le_mul_of_nonneg_right h (Int.le_of_lt hm)⟩
theorem clear_by {o : Bx} {a b p s m n : Int} (hm : 0 < m) (hn : 0 < n) : Clear (a * m) (b * n) (p * m) (s * n) (o.by m n) ↔ Clear a b p s o := by
  unfold Clear Bx.by
  dsimp only
  rw [← Int.add_mul, ← Int.add_mul, ← Int.add_mul, ← Int.add_mul, le_mul hm, le_mul hm, le_mul hn, le_mul hn]
theorem gd_by {O : List Bx} {P S a b p s m n : Int} (hm : 0 < m) (hn : 0 < n) : Gd (O.map (·.by m n)) (P * m) (S * n) (a * m) (b * n) (p * m) (s * n) ↔ Gd O P S a b p s := by
  have z : ∀ {x k : Int}, 0 < k → (0 ≤ x * k ↔ 0 ≤ x) := fun {x k} hk => by have := le_mul (x := 0) (y := x) hk; rwa [Int.zero_mul] at this
  constructor
  · intro g
    refine ⟨(z hm).mp g.p0, (z hn).mp g.s0, (le_mul hm).mp (by rw [Int.add_mul]; exact g.p1), (le_mul hn).mp (by rw [Int.add_mul]; exact g.s1), fun o ho => (clear_by hm hn).mp (g.clear _ (List.mem_map.mpr ⟨o, ho, rfl⟩))⟩
  · intro g
    refine ⟨(z hm).mpr g.p0, (z hn).mpr g.s0, by rw [← Int.add_mul]; exact (le_mul hm).mpr g.p1, by rw [← Int.add_mul]; exact (le_mul hn).mpr g.s1, fun o ho => ?_⟩
    obtain ⟨o, ho', rfl⟩ := List.mem_map.mp ho
    exact (clear_by hm hn).mpr (g.clear o ho')
noncomputable def byO (m n : Int) : Option (Int × Int) → Option (Int × Int)
  | none => none
  | some (p, s) => some (p * m, s * n)
theorem first_by {O : List Bx} {P S a b m n : Int} (hm : 0 < m) (hn : 0 < n) {r d : Option (Int × Int)} (h : First (Gd (O.map (·.by m n)) (P * m) (S * n) (a * m) (b * n)) r) (he : OnEnds (O.map (·.by m n)) r) (hd : First (Gd O P S a b) d) : r = byO m n d := by
  have key : ∃ r', r = byO m n r' := by
    match r, he with
    | none, _ => exact ⟨none, rfl⟩
    | some (p, s), he =>
      obtain ⟨h1, h2⟩ := he
      have e1 : ∃ p', p = p' * m := by
        rcases h1 with h | ⟨o, ho, h⟩
        · exact ⟨0, by rw [h, Int.zero_mul]⟩
        · obtain ⟨o, _, rfl⟩ := List.mem_map.mp ho
          exact ⟨o.p + o.pl, by rw [h, Int.add_mul]; rfl⟩
      have e2 : ∃ s', s = s' * n := by
        rcases h2 with h | ⟨o, ho, h⟩
        · exact ⟨0, by rw [h, Int.zero_mul]⟩
        · obtain ⟨o, _, rfl⟩ := List.mem_map.mp ho
          exact ⟨o.s + o.sl, by rw [h, Int.add_mul]; rfl⟩
      obtain ⟨p', rfl⟩ := e1
      obtain ⟨s', rfl⟩ := e2
      exact ⟨some (p', s'), rfl⟩
  obtain ⟨r', rfl⟩ := key
  have : First (Gd O P S a b) r' := by
    match r', h with
    | none, h => exact fun p s g => h _ _ ((gd_by hm hn).mpr g)
    | some (p, s), h =>
      refine ⟨(gd_by hm hn).mp h.good, fun p' s' g => ?_⟩
      rcases h.least _ _ ((gd_by hm hn).mpr g) with h | ⟨h, h'⟩
      · exact .inl (by
          refine Int.not_le.mp fun q => ?_
          have := (le_mul hm).mpr q; omega)
      · refine .inr ⟨?_, (le_mul hn).mp h'⟩
        have h1 := (le_mul hm).mp (Int.le_of_eq h)
        have h2 := (le_mul hm).mp (Int.le_of_eq h.symm)
        omega
  rw [first_unique this hd]

end Mine

/-! P04b -/
namespace Mine

/-! the law's own search: the first of a list in order -/
noncomputable def lexLe (x y : Int × Int) : Prop := x.1 < y.1 ∨ (x.1 = y.1 ∧ x.2 ≤ y.2)
theorem lexLe_tot {x y : Int × Int} (h : ¬ lexLe x y) : lexLe y x := by unfold lexLe at *; omega
/-- the first of what a list holds -/
noncomputable def FirstIn (G : Int → Int → Prop) (L : List (Int × Int)) (d : Option (Int × Int)) : Prop := First (fun p s => G p s ∧ (p, s) ∈ L) d
theorem firstIn_nil {G : Int → Int → Prop} : FirstIn G [] none := fun _ _ h => by cases h.2
theorem firstIn_none {G : Int → Int → Prop} {L : List (Int × Int)} {y : Int × Int} (h : FirstIn G L none) (hy : G y.1 y.2) : FirstIn G (L ++ [y]) (some y) := by
  refine ⟨⟨hy, by simp⟩, fun p s g => ?_⟩
  rcases List.mem_append.mp g.2 with m | m
  · exact absurd ⟨g.1, m⟩ (h p s)
  · have := List.mem_singleton.mp m; subst this; exact .inr ⟨rfl, Int.le_refl _⟩
theorem firstIn_skip {G : Int → Int → Prop} {L : List (Int × Int)} {y : Int × Int} {d : Option (Int × Int)} (h : FirstIn G L d) (hy : ¬ G y.1 y.2) : FirstIn G (L ++ [y]) d := by
  have e : ∀ p s, (G p s ∧ (p, s) ∈ L ++ [y]) → G p s ∧ (p, s) ∈ L := fun p s g => by
    rcases List.mem_append.mp g.2 with m | m
    · exact ⟨g.1, m⟩
    · have := List.mem_singleton.mp m; subst this; exact absurd g.1 hy
  match d, h with
  | none, h => exact fun p s g => h p s (e p s g)
  | some (p, s), h => exact ⟨⟨h.good.1, by simp [h.good.2]⟩, fun p' s' g => h.least p' s' (e p' s' g)⟩
theorem firstIn_keep {G : Int → Int → Prop} {L : List (Int × Int)} {x y : Int × Int} (h : FirstIn G L (some x)) (hy : lexLe x y) : FirstIn G (L ++ [y]) (some x) := by
  refine ⟨⟨h.good.1, by simp [h.good.2]⟩, fun p s g => ?_⟩
  rcases List.mem_append.mp g.2 with m | m
  · exact h.least p s ⟨g.1, m⟩
  · have := List.mem_singleton.mp m; subst this; exact hy
theorem firstIn_less {G : Int → Int → Prop} {L : List (Int × Int)} {x y : Int × Int} (h : FirstIn G L (some x)) (hg : G y.1 y.2) (hy : lexLe y x) : FirstIn G (L ++ [y]) (some y) := by
  refine ⟨⟨hg, by simp⟩, fun p s g => ?_⟩
  rcases List.mem_append.mp g.2 with m | m
  · have := h.least p s ⟨g.1, m⟩
    unfold lexLe at hy; omega
  · have := List.mem_singleton.mp m; subst this; exact .inr ⟨rfl, Int.le_refl _⟩
theorem firstIn_all {G : Int → Int → Prop} {L : List (Int × Int)} {d : Option (Int × Int)} (h : FirstIn G L d) (hL : ∀ p s, First G (some (p, s)) → (p, s) ∈ L) (ex : ∃ d', First G d') : First G d := by
  obtain ⟨d', h'⟩ := ex
  have : FirstIn G L d' := by
    match d', h' with
    | none, h' => exact fun p s g => h' p s g.1
    | some (p, s), h' => exact ⟨⟨h'.good, hL p s h'⟩, fun p' s' g => h'.least p' s' g.1⟩
  rw [first_unique h this]; exact h'

/-! the spots of a shelf, by rows -/
noncomputable def spots (S P : Int) : List (Int × Int) := (List.range (S * P).toNat).map fun (k : Nat) => ((k : Int) / S, (k : Int) % S)
theorem spots_sorted {S P : Int} (hS : 0 < S) : (spots S P).Pairwise lexLe := by
  refine List.pairwise_map.mpr (List.Pairwise.imp ?_ List.pairwise_lt_range)
  intro a b h
  have h1 : (a : Int) / S ≤ (b : Int) / S := Int.ediv_le_ediv hS (by omega)
  by_cases e : (a : Int) / S = (b : Int) / S
  · refine .inr ⟨e, ?_⟩
    have ha := Int.mul_ediv_add_emod (a : Int) S
    have hb := Int.mul_ediv_add_emod (b : Int) S
    rw [e] at ha
    show (a : Int) % S ≤ (b : Int) % S
    omega
  · exact .inl (by show (a : Int) / S < (b : Int) / S; omega)
theorem mem_spots {S P p s : Int} (h0 : 0 ≤ p) (h1 : p < P) (h2 : 0 ≤ s) (h3 : s < S) : (p, s) ∈ spots S P := by
  have hn : 0 ≤ p * S := Int.mul_nonneg h0 (by omega)
  have hle : (p + 1) * S ≤ P * S := Int.mul_le_mul_of_nonneg_right (by omega) (by omega)
  rw [Int.add_mul, Int.mul_comm P S] at hle
  refine List.mem_map.mpr ⟨(p * S + s).toNat, List.mem_range.mpr (by omega), ?_⟩
  have e : (((p * S + s).toNat : Nat) : Int) = s + p * S := by omega
  rw [e, Int.add_mul_ediv_right _ _ (by omega), Int.add_mul_emod_self_right, Int.ediv_eq_zero_of_lt h2 h3, Int.emod_eq_of_lt h2 h3, Int.zero_add]

/-- a first one there is -/
theorem first_ex {O : List Bx} {P S a b : Int} (ha : 0 < a) (hb : 0 < b) : ∃ d, First (Gd O P S a b) d := by
  have hdec : ∀ p s, Gd O P S a b p s ∨ ¬ Gd O P S a b p s := fun _ _ => Classical.em _
  have key : ∀ L : List (Int × Int), ∃ d, FirstIn (Gd O P S a b) L d := by
    intro L
    -- by the items from behind
    have : ∀ (L' L : List (Int × Int)), (∃ d, FirstIn (Gd O P S a b) L d) → ∃ d, FirstIn (Gd O P S a b) (L ++ L') d := by
      intro L'
      induction L' with
      | nil => intro L h; simpa using h
      | cons y L' ih =>
        intro L ⟨d, h⟩
        rw [show L ++ y :: L' = (L ++ [y]) ++ L' by simp]
        refine ih _ ?_
        rcases hdec y.1 y.2 with hy | hy
        · match d, h with
          | none, h => exact ⟨_, firstIn_none h hy⟩
          | some x, h =>
            by_cases hx : lexLe x y
            · exact ⟨_, firstIn_keep h hx⟩
            · exact ⟨_, firstIn_less h hy (lexLe_tot hx)⟩
        · exact ⟨_, firstIn_skip h hy⟩
    simpa using this L [] ⟨none, firstIn_nil⟩
  obtain ⟨d, h⟩ := key (spots S P)
  refine ⟨d, ?_⟩
  have hm : ∀ p s, Gd O P S a b p s → (p, s) ∈ spots S P := fun p s g => mem_spots g.p0 (by have := g.p1; omega) g.s0 (by have := g.s1; omega)
  match d, h with
  | none, h => exact fun p s g => h p s ⟨g, hm p s g⟩
  | some (p, s), h => exact ⟨h.good.1, fun p' s' g => h.least p' s' ⟨g, hm p' s' g⟩⟩

end Mine

/-! NPl -/
namespace Mine
open PySem
noncomputable def optV : Option Int → V
  | none => .none
  | some b => .int b
noncomputable def rowV (r : Int × Int) : V := .tup [.int r.1, .int r.2]
/-- a place by up and left, from first and second -/
noncomputable def pairV : Option (Int × Int) → V
  | none => .none
  | some (p, s) => .tup [.int p, .int s]
noncomputable def pairW : Option (Int × Int) → V
  | none => .none
  | some (p, s) => .tup [.int s, .int p]
structure Ot where
  l : Int
  u : Int
  w : Int
  h : Int
noncomputable def Ot.v (o : Ot) : V := .tup [.int o.l, .int o.u, .int o.w, .int o.h]
noncomputable def Ot.dat (o : Ot) : PyData := .tuple [.int o.l, .int o.u, .int o.w, .int o.h]
noncomputable def Ot.low (o : Ot) : Bx := ⟨o.u, o.l, o.h, o.w⟩
noncomputable def Ot.lef (o : Ot) : Bx := ⟨o.l, o.u, o.w, o.h⟩

noncomputable def swapO : Option (Int × Int) → Option (Int × Int)
  | none => none
  | some (p, s) => some (s, p)
theorem swapO_swapO : ∀ r, swapO (swapO r) = r
  | none => rfl
  | some _ => rfl
theorem pairW_eq : ∀ {r}, pairW r = pairV (swapO r)
  | none => rfl
  | some _ => rfl
/-- the first free place, by up and left: of all up first (low), or left first -/
noncomputable def FirstSpot (os : List Ot) (W H w h : Int) : Bool → Option (Int × Int) → Prop
  | true, r => First (Gd (os.map Ot.low) H W h w) r ∧ OnEnds (os.map Ot.low) r
  | false, r => First (Gd (os.map Ot.lef) W H w h) (swapO r) ∧ OnEnds (os.map Ot.lef) (swapO r)
theorem List.mem_map_get {α β : Type} {f : α → β} {l : List α} {i : Nat} {y : β} (h : (l.map f)[i]? = some y) : ∃ x, l[i]? = some x ∧ y = f x := by
  rw [List.getElem?_map] at h
  obtain ⟨x, hx, e⟩ := Option.map_eq_some_iff.mp h
  exact ⟨x, hx, e.symm⟩
theorem drop_at {α : Type} {l : List α} {i : Nat} {x : α} (h : l[i]? = some x) : l.drop i = x :: l.drop (i + 1) := by
  obtain ⟨hi, rfl⟩ := List.getElem?_eq_some_iff.mp h
  exact List.drop_eq_getElem_cons hi
theorem filterMap_if {α β : Type} {f : α → Bool} {g : α → β} : ∀ l : List α, l.filterMap (fun x => if f x = true then some (g x) else none) = (l.filter f).map g
  | [] => rfl
  | x :: l => by
    cases h : f x with
    | true => rw [List.filter_cons_of_pos h, List.filterMap_cons_some (by rw [h]; rfl), filterMap_if l]; rfl
    | false => rw [List.filter_cons_of_neg (by rw [h]; exact Bool.false_ne_true), List.filterMap_cons_none (by rw [h]; rfl), filterMap_if l]
theorem filterMap_some {α β : Type} {f : α → β} : ∀ l : List α, l.filterMap (fun x => some (f x)) = l.map f
  | [] => rfl
  | x :: l => congrArg (f x :: ·) (filterMap_some l)
section
variable {turn : V → Store → (Option V → Store → Prop) → Prop} {Q : List V → Store → Prop} {σ : Store}
/-- [f(x) for x in list] -/
theorem c_map {α β : Type} {n : Nat} {l : List α} {g : α → V} (f : α → β) (k : β → V) (e : σ[n]? = some (.list (l.map g))) (hz : l.length ≤ 1000000) (h : ∀ x ∈ l, ∀ K : Option V → Store → Prop, K (some (k (f x))) σ → turn (g x) σ K)
    (q : Q ((l.map f).map k) σ) : ∃ items same, SrcK σ .plain [.ref n] items same ∧ items.length ≤ maxLen ∧ compW turn same items [] σ Q :=
  c_list (fun x => some (k (f x))) e hz h (by rw [filterMap_some]; rw [List.map_map] at q; exact q)
/-- [x for x in list if p(x)] -/
theorem c_filter {α : Type} {n : Nat} {l : List α} {g : α → V} (p : α → Bool) (e : σ[n]? = some (.list (l.map g))) (hz : l.length ≤ 1000000) (h : ∀ x ∈ l, ∀ K : Option V → Store → Prop, (p x = true → K (some (g x)) σ) → (p x = false → K none σ) → turn (g x) σ K)
    (q : Q ((l.filter p).map g) σ) : ∃ items same, SrcK σ .plain [.ref n] items same ∧ items.length ≤ maxLen ∧ compW turn same items [] σ Q :=
  c_list (fun x => if p x = true then some (g x) else none) e hz (fun x hx K hK => h x hx K (fun e => by rw [if_pos e] at hK; exact hK) fun e => by rw [if_neg (Bool.eq_false_iff.mp e)] at hK; exact hK) (by rw [filterMap_if]; exact q)
/-- two tests, one behind the other -/
theorem ite_2 {c c' : Prop} [Decidable c] [Decidable c'] {A B : Prop} (h1 : (decide c && decide c') = true → A) (h2 : (decide c && decide c') = false → B) : ite (decide c = true) (ite (decide c' = true) A B) B :=
  ite_d (fun a => ite_d (fun b => h1 (by rw [decide_eq_true a, decide_eq_true b]; rfl)) fun b => h2 (by rw [decide_eq_true a, decide_eq_false b]; rfl)) fun a => h2 (by rw [decide_eq_false a]; rfl)
end
theorem c_rmap {turn : V → Store → (Option V → Store → Prop) → Prop} {Q : List V → Store → Prop} {σ : Store} {β : Type} {b : Int} (f : Nat → β) (k : β → V) (hb : -1000000 ≤ b ∧ b ≤ 1000000) (h : ∀ i : Nat, (i : Int) < b → ∀ K : Option V → Store → Prop, K (some (k (f i))) σ → turn (.int i) σ K)
    (q : Q (((List.range b.toNat).map f).map k) σ) : ∃ items same, SrcK σ .range [.int b] items same ∧ items.length ≤ maxLen ∧ compW turn same items [] σ Q :=
  c_range (fun i => some (k (f i))) hb h (by rw [filterMap_some]; rw [List.map_map] at q; exact q)
theorem r_pick {σ : Store} {Q : VPost} {n : Nat} {k : Int} (e : σ[n]? = some (.list [.str (Str.ofString "low"), .str (Str.ofString "left")])) (h : 0 ≤ k ∧ k < 2) (q : ∀ b, Q (hab b) σ) : SubK σ Q (.ref n) (.int k) := by
  rcases (by omega : k = 0 ∨ k = 1) with rfl | rfl
  · exact r_subL e (by decide) rfl (q true)
  · exact r_subL e (by decide) rfl (q false)
theorem pw_at {α : Type} {R : α → α → Prop} {l : List α} {i : Nat} {y : α} (h : l.Pairwise R) (hy : l[i]? = some y) : ∀ x ∈ l.take i, R x y := fun x hx => by
  rw [← List.take_append_drop i l, drop_at hy] at h
  exact (List.pairwise_append.mp h).2.2 x hx y List.mem_cons_self
theorem take_at {α : Type} {l : List α} {i : Nat} {y : α} (hy : l[i]? = some y) : l.take (i + 1) = l.take i ++ [y] := by rw [List.take_add_one, hy]; rfl
theorem gd_swap {os : List Ot} {W H w h l u : Int} (g : Gd (os.map Ot.low) H W h w u l) : Gd (os.map Ot.lef) W H w h l u :=
  ⟨g.s0, g.p0, g.s1, g.p1, fun o ho => by
    obtain ⟨x, hx, rfl⟩ := List.mem_map.mp ho
    have := g.clear x.low (List.mem_map.mpr ⟨x, hx, rfl⟩)
    unfold Clear Ot.low at this; unfold Clear Ot.lef; dsimp only at this ⊢
    rcases this with h | h | h | h
    · exact .inr (.inr (.inl h))
    · exact .inr (.inr (.inr h))
    · exact .inl h
    · exact .inr (.inl h)⟩
theorem gd_swap' {os : List Ot} {W H w h l u : Int} (g : Gd (os.map Ot.lef) W H w h l u) : Gd (os.map Ot.low) H W h w u l :=
  ⟨g.s0, g.p0, g.s1, g.p1, fun o ho => by
    obtain ⟨x, hx, rfl⟩ := List.mem_map.mp ho
    have := g.clear x.lef (List.mem_map.mpr ⟨x, hx, rfl⟩)
    unfold Clear Ot.lef at this; unfold Clear Ot.low; dsimp only at this ⊢
    rcases this with h | h | h | h
    · exact .inr (.inr (.inl h))
    · exact .inr (.inr (.inr h))
    · exact .inl h
    · exact .inr (.inl h)⟩
theorem firstIn_of {G : Int → Int → Prop} {L : List (Int × Int)} : ∀ {r : Option (Int × Int)}, First G r → (∀ p s, r = some (p, s) → (p, s) ∈ L) → FirstIn G L r
  | none, h, _ => fun p s g => h p s g.1
  | some (p, s), h, m => ⟨⟨h.good, m p s rfl⟩, fun p' s' g => h.least p' s' g.1⟩
theorem first_spots {O : List Bx} {P S a b : Int} (ha : 0 < a) (hb : 0 < b) {d : Option (Int × Int)} (h : FirstIn (Gd O P S a b) (spots S P) d) : First (Gd O P S a b) d :=
  have hm : ∀ p s, Gd O P S a b p s → (p, s) ∈ spots S P := fun p s g => mem_spots g.p0 (by have := g.p1; omega) g.s0 (by have := g.s1; omega)
  match d, h with
  | none, h => fun p s g => h p s ⟨g, hm p s g⟩
  | some (p, s), h => ⟨h.good.1, fun p' s' g => h.least p' s' ⟨g, hm p' s' g⟩⟩
/-- pairs by up, then by left; an up may come twice -/
structure Blk (us E : List Int) (prs : List (Int × Int)) : Prop where
  len : prs.length ≤ 64 * us.length
  of : ∀ x ∈ prs, x.1 ∈ us
  all : ∀ u ∈ us, ∀ l ∈ E, (u, l) ∈ prs
  chk : ∀ i y, prs[i]? = some y → y ∈ prs.take i ∨ ∀ x ∈ prs.take i, lexLe x y
theorem blk_nil {E : List Int} : Blk [] E [] := ⟨Nat.le_refl _, fun _ h => (nomatch h), fun _ h => (nomatch h), fun _ _ h => (nomatch h)⟩
theorem Blk.add {us E ms : List Int} {prs : List (Int × Int)} {u : Int} (B : Blk us E prs) (hu : ∀ v ∈ us, v ≤ u) (hm : ∀ {x}, x ∈ ms ↔ x ∈ E) (hs : ms.Pairwise (· ≤ ·)) (hl : ms.length ≤ 64) : Blk (us ++ [u]) E (prs ++ ms.map fun l => (u, l)) where
  len := by have := B.len; rw [List.length_append, List.length_append, List.length_map, List.length_singleton]; omega
  of x hx := (List.mem_append.mp hx).elim (fun h => List.mem_append_left _ (B.of x h)) fun h => by obtain ⟨l, _, rfl⟩ := List.mem_map.mp h; exact List.mem_append_right _ List.mem_cons_self
  all v hv l h := (List.mem_append.mp hv).elim (fun h' => List.mem_append_left _ (B.all v h' l h)) fun h' => by cases List.mem_singleton.mp h'; exact List.mem_append_right _ (List.mem_map.mpr ⟨l, hm.mpr h, rfl⟩)
  chk i y h := by
    rcases Nat.lt_or_ge i prs.length with hi | hi
    · rw [List.getElem?_append_left hi] at h
      rw [List.take_append_of_le_length (Nat.le_of_lt hi)]
      exact B.chk i y h
    · rw [List.getElem?_append_right hi] at h
      obtain ⟨l, hj, rfl⟩ := List.mem_map_get h
      rw [List.take_append, List.take_of_length_le hi]
      by_cases hd : u ∈ us
      · exact .inl (List.mem_append_left _ (B.all u hd l (hm.mp (List.mem_of_getElem? hj))))
      · refine .inr fun x hx => (List.mem_append.mp hx).elim (fun h1 => .inl ?_) fun h1 => ?_
        · have h2 := B.of x h1
          exact Int.lt_iff_le_and_ne.mpr ⟨hu _ h2, fun z => hd ((show x.1 = u from z) ▸ h2)⟩
        · rw [← List.map_take] at h1
          obtain ⟨l', h3, rfl⟩ := List.mem_map.mp h1
          exact .inr ⟨rfl, pw_at hs hj l' h3⟩
theorem ltRow_le {x y : Int × Int} (h : ltRow [y.1, y.2] [x.1, x.2] = false) : x.1 ≤ y.1 := by
  unfold ltRow at h
  by_cases e : y.1 = x.1
  · exact Int.le_of_eq e.symm
  · rw [if_neg e] at h; exact Int.not_lt.mp (of_decide_eq_false h)
/-- rows of two, sorted -/
theorem rows_back {ts : List (List Int)} {rows : List (Int × Int)} (hp : ts.Perm (rows.map fun r => [r.1, r.2])) (hs : ts.Pairwise fun a b => ltRow b a = false) : ∃ rs : List (Int × Int), ts = (rs.map fun r => [r.1, r.2]) ∧ rs.Perm rows ∧ rs.Pairwise fun x y => x.1 ≤ y.1 := by
  have e : ts = (ts.map fun l => (l.getD 0 0, l.getD 1 0)).map fun r : Int × Int => [r.1, r.2] := by
    rw [List.map_map]
    refine (List.map_id ts).symm.trans (List.map_congr_left fun l hl => ?_)
    obtain ⟨r, _, rfl⟩ := List.mem_map.mp (hp.mem_iff.mp hl); rfl
  refine ⟨_, e, ?_, ?_⟩
  · have := hp.map fun l => (l.getD 0 0, l.getD 1 0)
    rw [List.map_map] at this
    exact this.trans (List.Perm.of_eq (List.map_id rows))
  · rw [e, List.pairwise_map] at hs
    exact hs.imp ltRow_le
end Mine

/-! P06 -/
namespace Mine
open PySem

/-! a box upright or turned: the first place of both -/
abbrev Pl3 := Int × Int × Bool
noncomputable def bestPS : Option (Int × Int) → Option (Int × Int) → Option Pl3
  | none, none => none
  | some x, none => some (x.1, x.2, false)
  | none, some y => some (y.1, y.2, true)
  | some x, some y => if y.1 < x.1 ∨ (y.1 = x.1 ∧ y.2 < x.2) then some (y.1, y.2, true) else some (x.1, x.2, false)
structure Two (O : List Bx) (P S a b : Int) (turns : Bool) (d : Option Pl3) : Prop where
  ex : ∃ d1 d2, First (Gd O P S a b) d1 ∧ (turns = true → First (Gd O P S b a) d2) ∧ (turns = false → d2 = none) ∧ d = bestPS d1 d2
structure TwoE (O : List Bx) (P S a b : Int) (turns : Bool) (d : Option Pl3) : Prop where
  ex : ∃ d1 d2, First (Gd O P S a b) d1 ∧ OnEnds O d1 ∧ (turns = true → First (Gd O P S b a) d2 ∧ OnEnds O d2) ∧ (turns = false → d2 = none) ∧ d = bestPS d1 d2
noncomputable def by3 (m : Int) : Option Pl3 → Option Pl3
  | none => none
  | some (p, s, t) => some (p * m, s * m, t)
theorem lt_mul {x y m : Int} (hm : 0 < m) : x * m < y * m ↔ x < y := by
  rw [← Int.not_le, ← Int.not_le, le_mul hm]
theorem eq_mul {x y m : Int} (hm : 0 < m) : x * m = y * m ↔ x = y := ⟨fun h => Int.eq_of_mul_eq_mul_right (Int.ne_of_gt hm) h, fun h => h ▸ rfl⟩
theorem best_by {m : Int} (hm : 0 < m) : ∀ d1 d2, bestPS (byO m m d1) (byO m m d2) = by3 m (bestPS d1 d2)
  | none, none => rfl
  | some _, none => rfl
  | none, some _ => rfl
  | some x, some y => by
    unfold bestPS byO
    dsimp only
    by_cases h : y.1 < x.1 ∨ (y.1 = x.1 ∧ y.2 < x.2)
    · rw [if_pos h, if_pos (h.imp (lt_mul hm).mpr fun h => ⟨h.1 ▸ rfl, (lt_mul hm).mpr h.2⟩)]; rfl
    · rw [if_neg h, if_neg fun h' => h (h'.imp (lt_mul hm).mp fun h => ⟨(eq_mul hm).mp h.1, (lt_mul hm).mp h.2⟩)]; rfl
theorem two_by {O : List Bx} {P S a b m : Int} {turns : Bool} {r d : Option Pl3} (hm : 0 < m) (h : TwoE (O.map (·.by m m)) (P * m) (S * m) (a * m) (b * m) turns r) (h' : Two O P S a b turns d) : r = by3 m d := by
  obtain ⟨r1, r2, f1, o1, f2, f3, rfl⟩ := h.ex
  obtain ⟨d1, d2, g1, g2, g3, rfl⟩ := h'.ex
  rw [← best_by hm, first_by hm hm f1 o1 g1]
  cases turns with
  | true => rw [first_by hm hm (f2 rfl).1 (f2 rfl).2 (g2 rfl)]
  | false => rw [f3 rfl, g3 rfl]; rfl

theorem after_at {α : Type} {R : α → α → Prop} {l : List α} {i : Nat} {y x : α} (h : l.Pairwise R) (hy : l[i]? = some y) (hx : x ∈ l) : x ∈ l.take i ∨ x = y ∨ R y x := by
  rw [← List.take_append_drop i l, drop_at hy] at h hx
  rcases List.mem_append.mp hx with m | m
  · exact .inl m
  · rcases List.mem_cons.mp m with m | m
    · exact .inr (.inl m)
    · exact .inr (.inr ((List.pairwise_cons.mp (List.pairwise_append.mp h).2.1).1 x m))
section
variable {O : List Bx} {P S a b : Int} {turns : Bool}
theorem all_spots {a b : Int} (ha : 0 < a) (hb : 0 < b) {p s : Int} (g : Gd O P S a b p s) : (p, s) ∈ spots S P := mem_spots g.p0 (by have := g.p1; omega) g.s0 (by have := g.s1; omega)
/-- no good place among the first i spots -/
noncomputable def NoneYet (O : List Bx) (P S a b : Int) (turns : Bool) (i : Nat) : Prop := ∀ x ∈ (spots S P).take i, ¬ Gd O P S a b x.1 x.2 ∧ (turns = true → ¬ Gd O P S b a x.1 x.2)
theorem none_next {i : Nat} {y : Int × Int} (h : NoneYet O P S a b turns i) (hy : (spots S P)[i]? = some y) (h1 : ¬ Gd O P S a b y.1 y.2) (h2 : turns = true → ¬ Gd O P S b a y.1 y.2) : NoneYet O P S a b turns (i + 1) := fun x hx => by
  rw [take_at hy] at hx
  exact (List.mem_append.mp hx).elim (h x) fun m => List.mem_singleton.mp m ▸ ⟨h1, h2⟩
theorem hit_up (hS : 0 < S) (ha : 0 < a) (hb : 0 < b) {i : Nat} {y : Int × Int} (h : NoneYet O P S a b turns i) (hy : (spots S P)[i]? = some y) (g : Gd O P S a b y.1 y.2) : Two O P S a b turns (some (y.1, y.2, false)) := by
  have le : ∀ {p s}, Gd O P S a b p s ∨ (turns = true ∧ Gd O P S b a p s) → lexLe y (p, s) := fun {p s} gg => by
    have hm : (p, s) ∈ spots S P := gg.elim (all_spots ha hb) fun z => all_spots hb ha z.2
    rcases after_at (spots_sorted hS) hy hm with m | m | m
    · exact (gg.elim (h _ m).1 fun z => (h _ m).2 z.1 z.2).elim
    · exact m ▸ .inr ⟨rfl, Int.le_refl _⟩
    · exact m
  obtain ⟨d2, f2⟩ := first_ex (O := O) (P := P) (S := S) hb ha
  have f1 : First (Gd O P S a b) (some y) := ⟨g, fun p s gg => le (.inl gg)⟩
  cases turns with
  | false => exact ⟨some y, none, f1, fun e => (nomatch e), fun _ => rfl, rfl⟩
  | true =>
    refine ⟨some y, d2, f1, fun _ => f2, fun e => (nomatch e), ?_⟩
    match d2, f2 with
    | none, _ => rfl
    | some z, f2 =>
      have := le (.inr ⟨rfl, f2.good⟩)
      show _ = ite _ _ _
      rw [if_neg]
      unfold lexLe at this; dsimp only at this; omega
theorem hit_turned (hS : 0 < S) (ha : 0 < a) (hb : 0 < b) {i : Nat} {y : Int × Int} (h : NoneYet O P S a b true i) (hy : (spots S P)[i]? = some y) (n : ¬ Gd O P S a b y.1 y.2) (g : Gd O P S b a y.1 y.2) : Two O P S a b true (some (y.1, y.2, true)) := by
  have le : ∀ {p s}, Gd O P S a b p s ∨ Gd O P S b a p s → lexLe y (p, s) := fun {p s} gg => by
    have hm : (p, s) ∈ spots S P := gg.elim (all_spots ha hb) (all_spots hb ha)
    rcases after_at (spots_sorted hS) hy hm with m | m | m
    · exact (gg.elim (h _ m).1 ((h _ m).2 rfl)).elim
    · exact m ▸ .inr ⟨rfl, Int.le_refl _⟩
    · exact m
  obtain ⟨d1, f1⟩ := first_ex (O := O) (P := P) (S := S) ha hb
  refine ⟨d1, some y, f1, fun _ => ⟨g, fun p s gg => le (.inr gg)⟩, fun e => (nomatch e), ?_⟩
  match d1, f1 with
  | none, _ => rfl
  | some z, f1 =>
    have h1 := le (.inl f1.good)
    have h2 : z ≠ y := fun e => n (e ▸ f1.good)
    show _ = ite _ _ _
    rw [if_pos]
    have h3 : ¬ (z.1 = y.1 ∧ z.2 = y.2) := fun e => h2 (Prod.ext e.1 e.2)
    unfold lexLe at h1; dsimp only at h1; omega
theorem hit_none (ha : 0 < a) (hb : 0 < b) (h : NoneYet O P S a b turns (spots S P).length) : Two O P S a b turns none := by
  rw [NoneYet, List.take_length] at h
  exact ⟨none, none, fun p s g => (h _ (all_spots ha hb g)).1 g, fun e p s g => (h _ (all_spots hb ha g)).2 e g, fun _ => rfl, rfl⟩
end

/-! shelves -/
structure Sh where
  W : Int
  H : Int
  b : Bool
noncomputable def Sh.v (s : Sh) : V := .tup [.int s.W, .int s.H, hab s.b]
noncomputable def Sh.dat (s : Sh) : PyData := .tuple [.int s.W, .int s.H, habD s.b]
noncomputable def Sh.by (m : Int) (s : Sh) : Sh := ⟨s.W * m, s.H * m, s.b⟩
noncomputable def Ot.by (m : Int) (o : Ot) : Ot := ⟨o.l * m, o.u * m, o.w * m, o.h * m⟩
noncomputable def swap3 : Option Pl3 → Option Pl3
  | none => none
  | some (p, s, t) => some (s, p, t)
/-- a box's place on a shelf, by up and left -/
noncomputable def OnL (w h : Int) (turns : Bool) (sh : Sh) (os : List Ot) (r : Option Pl3) : Prop := match sh.b with
  | true => Two (os.map Ot.low) sh.H sh.W h w turns r
  | false => Two (os.map Ot.lef) sh.W sh.H w h turns (swap3 r)
noncomputable def OnP (w h : Int) (turns : Bool) (sh : Sh) (os : List Ot) (r : Option Pl3) : Prop := match sh.b with
  | true => TwoE (os.map Ot.low) sh.H sh.W h w turns r
  | false => TwoE (os.map Ot.lef) sh.W sh.H w h turns (swap3 r)
theorem swap3_by {m : Int} : ∀ {r d : Option Pl3}, swap3 r = by3 m (swap3 d) → r = by3 m d
  | none, none, _ => rfl
  | some (a, b, t), some (c, e, u), h => by
    have h := Option.some.inj h
    rw [Prod.mk.injEq, Prod.mk.injEq] at h
    show some (a, b, t) = some (c * m, e * m, u)
    rw [h.1, h.2.1, h.2.2]
theorem on_by {w h m : Int} {turns : Bool} {sh : Sh} {os : List Ot} {r d : Option Pl3} (hm : 0 < m) (x : OnP (w * m) (h * m) turns (sh.by m) (os.map (Ot.by m)) r) (y : OnL w h turns sh os d) : r = by3 m d := by
  obtain ⟨W, H, b⟩ := sh
  cases b with
  | true =>
    have e : (os.map (Ot.by m)).map Ot.low = (os.map Ot.low).map (·.by m m) := by rw [List.map_map, List.map_map]; rfl
    have x : TwoE ((os.map (Ot.by m)).map Ot.low) _ _ _ _ _ _ := x
    rw [e] at x
    exact two_by hm x y
  | false =>
    have e : (os.map (Ot.by m)).map Ot.lef = (os.map Ot.lef).map (·.by m m) := by rw [List.map_map, List.map_map]; rfl
    have x : TwoE ((os.map (Ot.by m)).map Ot.lef) _ _ _ _ _ _ := x
    rw [e] at x
    exact swap3_by (two_by hm x y)

/-- of two first places, by the shelf's habit -/
noncomputable def ltUL : Bool → Int × Int → Int × Int → Prop
  | true, y, x => y.1 < x.1 ∨ (y.1 = x.1 ∧ y.2 < x.2)
  | false, y, x => y.2 < x.2 ∨ (y.2 = x.2 ∧ y.1 < x.1)
inductive Best (b : Bool) : Option (Int × Int) → Option (Int × Int) → Option Pl3 → Prop
  | no : Best b none none none
  | up {x : Int × Int} : Best b (some x) none (some (x.1, x.2, false))
  | turned {y : Int × Int} : Best b none (some y) (some (y.1, y.2, true))
  | less {x y : Int × Int} : ltUL b y x → Best b (some x) (some y) (some (y.1, y.2, true))
  | more {x y : Int × Int} : ¬ ltUL b y x → Best b (some x) (some y) (some (x.1, x.2, false))
theorem Best.low {r1 r2 : Option (Int × Int)} {r : Option Pl3} (h : Best true r1 r2 r) : r = bestPS r1 r2 := by
  cases h with
  | less h => exact (if_pos h).symm
  | more h => exact (if_neg h).symm
  | _ => rfl
theorem Best.left {r1 r2 : Option (Int × Int)} {r : Option Pl3} (h : Best false r1 r2 r) : swap3 r = bestPS (swapO r1) (swapO r2) := by
  cases h with
  | less h => exact (if_pos h).symm
  | more h => exact (if_neg h).symm
  | _ => rfl
theorem onP_of {w h : Int} {turns : Bool} {sh : Sh} {os : List Ot} {r1 r2 : Option (Int × Int)} {r : Option Pl3} (f1 : FirstSpot os sh.W sh.H w h sh.b r1) (f2 : turns = true → FirstSpot os sh.W sh.H h w sh.b r2) (f3 : turns = false → r2 = none) (hb : Best sh.b r1 r2 r) : OnP w h turns sh os r := by
  obtain ⟨W, H, b⟩ := sh
  cases b with
  | true => exact ⟨r1, r2, f1.1, f1.2, fun e => ⟨(f2 e).1, (f2 e).2⟩, f3, hb.low⟩
  | false => exact ⟨swapO r1, swapO r2, f1.1, f1.2, fun e => ⟨(f2 e).1, (f2 e).2⟩, fun e => congrArg swapO (f3 e), hb.left⟩
/-- what is compared: number, up and left by the habit, turned -/
noncomputable def rowOf (b : Bool) (n : Int) (x : Int × Int) (t : Bool) : List Int := if b then [n, x.1, x.2, b2i t] else [n, x.2, x.1, b2i t]
theorem ltRow_4 {n a b c d : Int} : ltRow [n, a, b, 1] [n, c, d, 0] = true ↔ a < c ∨ (a = c ∧ b < d) := by
  unfold ltRow
  rw [if_pos rfl]
  unfold ltRow
  by_cases h : a = c
  · rw [if_pos h]
    unfold ltRow
    by_cases h' : b = d
    · rw [if_pos h']
      refine ⟨fun e => absurd e (by decide), fun e => ?_⟩
      omega
    · rw [if_neg h', decide_eq_true_iff]; omega
  · rw [if_neg h, decide_eq_true_iff]; omega
theorem lt_rowOf {n : Int} {x y : Int × Int} : ∀ {b : Bool}, ltRow (rowOf b n y true) (rowOf b n x false) = true ↔ ltUL b y x
  | true => ltRow_4
  | false => ltRow_4
abbrev Pl4 := Int × Int × Int × Bool
/-- the first shelf that has a place -/
inductive FP (On : Sh → List Ot → Option Pl3 → Prop) : Nat → List (Sh × List Ot) → Option Pl4 → Prop
  | nil {n : Nat} : FP On n [] none
  | hit {n : Nat} {sh : Sh} {os : List Ot} {l : List (Sh × List Ot)} {p : Pl3} : On sh os (some p) → FP On n ((sh, os) :: l) (some ((n : Int), p.1, p.2.1, p.2.2))
  | miss {n : Nat} {sh : Sh} {os : List Ot} {l : List (Sh × List Ot)} {r : Option Pl4} : On sh os none → FP On (n + 1) l r → FP On n ((sh, os) :: l) r
noncomputable def by4 (m : Int) : Option Pl4 → Option Pl4
  | none => none
  | some (n, p, s, t) => some (n, p * m, s * m, t)
theorem fp_by {w h m : Int} {turns : Bool} (hm : 0 < m) : ∀ {n : Nat} {l : List (Sh × List Ot)} {r d : Option Pl4}, FP (OnP (w * m) (h * m) turns) n (l.map fun x => (x.1.by m, x.2.map (Ot.by m))) r → FP (OnL w h turns) n l d → r = by4 m d := by
  intro n l r d hr hd
  induction hd generalizing r with
  | nil => cases hr; rfl
  | hit o =>
    cases hr with
    | hit x => have := on_by hm x o; cases this; rfl
    | miss x _ => have := on_by hm x o; cases this
  | miss o _ ih =>
    cases hr with
    | hit x => have := on_by hm x o; cases this
    | miss x hr => exact ih hr
noncomputable def pl4V : Option Pl4 → V
  | none => .none
  | some (n, u, l, t) => .tup [.int n, .int u, .int l, .bool t]
noncomputable def pl3V (n : Nat) : Option Pl3 → V
  | none => .none
  | some (u, l, t) => .tup [.int n, .int u, .int l, .bool t]
/-- rows of outlines -/
noncomputable def RowsAt (σ : Store) (ks : List Nat) (oss : List (List Ot)) : Prop := ks.length = oss.length ∧ ∀ (i : Nat) k os, ks[i]? = some k → oss[i]? = some os → σ[k]? = some (.list (os.map Ot.v))
theorem RowsAt.mono {σ σ' : Store} {ks : List Nat} {oss : List (List Ot)} (h : RowsAt σ ks oss) (m : ∀ k (os : List Ot), k ∈ ks → σ[k]? = some (.list (os.map Ot.v)) → σ'[k]? = some (.list (os.map Ot.v))) : RowsAt σ' ks oss := ⟨h.1, fun i k os h1 h2 => m k os (List.mem_of_getElem? h1) (h.2 i k os h1 h2)⟩
theorem toD_rows {σ : Store} {n : Nat} {ks : List Nat} {oss : List (List Ot)} (e : σ[n]? = some (.list (ks.map .ref))) (A : RowsAt σ ks oss) : toD σ 6 (.ref n) = some (.list (oss.map fun os => .list (os.map Ot.dat))) := by
  have e1 : ks.map V.ref = (ks.zip oss).map fun x => V.ref x.1 := by
    exact (congrArg (List.map V.ref) (List.map_fst_zip (Nat.le_of_eq A.1)).symm).trans List.map_map
  have e2 : (ks.zip oss).map (fun x => PyData.list (x.2.map Ot.dat)) = oss.map fun os => PyData.list (os.map Ot.dat) := by
    exact (List.map_map (f := Prod.snd) (g := fun os : List Ot => PyData.list (os.map Ot.dat))).symm.trans (congrArg (List.map fun os : List Ot => PyData.list (os.map Ot.dat)) (List.map_snd_zip (Nat.le_of_eq A.1.symm)))
  rw [e1] at e
  rw [← e2]
  refine toD_map e fun x hx => ?_
  obtain ⟨i, hi, rfl⟩ := List.mem_iff_getElem.mp hx
  have hz := List.getElem?_zip_eq_some.mp (List.getElem?_eq_getElem hi)
  exact toD_map (A.2 i _ _ hz.1 hz.2) fun _ _ => rfl
theorem can_rows {oss : List (List Ot)} : (PyData.list (oss.map fun os => .list (os.map Ot.dat))).canLay0 = true := can_map fun _ _ => can_map fun _ _ => rfl
theorem RowsAt.add {σ : Store} {ks : List Nat} {oss : List (List Ot)} {k : Nat} {os : List Ot} (A : RowsAt σ ks oss) (e : σ[k]? = some (.list (os.map Ot.v))) : RowsAt σ (ks ++ [k]) (oss ++ [os]) := ⟨by rw [List.length_append, List.length_append, A.1]; rfl, fun i k' os' h1 h2 => by
  rcases Nat.lt_or_ge i ks.length with hi | hi
  · rw [List.getElem?_append_left hi] at h1
    rw [List.getElem?_append_left (A.1 ▸ hi)] at h2
    exact A.2 i k' os' h1 h2
  · rw [List.getElem?_append_right hi] at h1
    rw [List.getElem?_append_right (A.1 ▸ hi)] at h2
    cases List.mem_singleton.mp (List.mem_of_getElem? h1)
    cases List.mem_singleton.mp (List.mem_of_getElem? h2)
    exact e⟩
/-- all stays -/
noncomputable def Kp (σ σ' : Store) : Prop := ∀ (x : Nat) (o : O), σ[x]? = some o → σ'[x]? = some o
theorem rows_nil {σ : Store} : RowsAt σ [] [] := ⟨rfl, fun _ _ _ h => (nomatch h)⟩
/-- [.. for k in range(b)], with an invariant -/
theorem c_rinv {turn : V → Store → (Option V → Store → Prop) → Prop} {Q : List V → Store → Prop} {σ : Store} {b : Int} (I : Nat → List V → Store → Prop) (hb : -1000000 ≤ b ∧ b ≤ 1000000) (h0 : I 0 [] σ)
    (step : ∀ (i : Nat) acc σ (K : Option V → Store → Prop), (i : Int) < b → I i acc σ → (∀ v σ', I (i + 1) (acc ++ [v]) σ' → K (some v) σ') → turn (.int i) σ K)
    (fin : ∀ acc σ', I b.toNat acc σ' → Q acc σ') : ∃ items same, SrcK σ .range [.int b] items same ∧ items.length ≤ maxLen ∧ compW turn same items [] σ Q :=
  ⟨_, _, .range (le_mx hb.1) hb.2, by rw [rangeL_len]; have := hb.2; unfold maxLen; omega, compW_inv I _ 0 [] σ (fun i v acc σ K hv hI h1 => by
    obtain ⟨rfl, hi⟩ := rangeL_at _ _ _ _ hv
    rw [Nat.zero_add] at hI h1
    rw [Int.zero_add]
    exact step i acc σ K (by omega) hI fun v σ' h => h1 (some v) σ' trivial h) (fun acc σ h => fin acc σ (by rw [rangeL_len, Nat.zero_add] at h; exact h)) h0⟩
/-- [.. for x in list], with an invariant -/
theorem c_linv {turn : V → Store → (Option V → Store → Prop) → Prop} {Q : List V → Store → Prop} {σ : Store} {n : Nat} {vs : List V} (I : Nat → List V → Store → Prop) (e : σ[n]? = some (.list vs)) (hz : vs.length ≤ 1000000) (h0 : I 0 [] σ)
    (step : ∀ (i : Nat) v acc σ (K : Option V → Store → Prop), vs[i]? = some v → I i acc σ → (∀ v σ', σ'[n]? = some (.list vs) → I (i + 1) (acc ++ [v]) σ' → K (some v) σ') → turn v σ K)
    (fin : ∀ acc σ', I vs.length acc σ' → Q acc σ') : ∃ items same, SrcK σ .plain [.ref n] items same ∧ items.length ≤ maxLen ∧ compW turn same items [] σ Q :=
  ⟨_, _, .list e, hz, compW_inv I _ 0 [] σ (fun i v acc σ K hv hI h1 => by
    rw [Nat.zero_add] at hI h1
    exact step i v acc σ K hv hI fun v σ' h h' => h1 (some v) σ' h h') (fun acc σ h => fin acc σ (by rw [Nat.zero_add] at h; exact h)) h0⟩
end Mine

/-! L06 -/
namespace Mine
open PySem

noncomputable def f06_0 : Fn := ⟨2, 8, [
    sSet (.tup [2, 3, 4, 5]) (xLoc 1),
    sSet (.var 6) (xInt 0),
    sIf (tVal (xLoc 5)) [sSet (.var 6) (xInt 1)] [],
    sIf (tCmp (xSub (xSub (xLoc 0) (xLoc 2)) (xInt 2)) [.Eq] [(xStr (Str.ofString "low"))]) [sRet (xTup [(xLoc 2), (xLoc 3), (xLoc 4), (xLoc 6)])] [],
    sRet (xTup [(xLoc 2), (xLoc 4), (xLoc 3), (xLoc 6)])]⟩
noncomputable def f06_1 : Fn := ⟨3, 4, [
    sRet (xOf (tCmp (xCall 0 [(xLoc 0), (xLoc 1)]) [.Lt] [(xCall 0 [(xLoc 0), (xLoc 2)])]))]⟩
noncomputable def f06_2 : Fn := ⟨3, 7, [
    sSet (.var 3) (xInt 0),
    sFor (.tup [4, 5]) .plain [(xSort false (xLoc 0))] [sIf (tAnd [(tCmp (xLoc 4) [.Lt] [(xBin .add (xLoc 3) (xLoc 1))]), (tCmp (xLoc 5) [.Gt] [(xLoc 3)])]) [sSet (.var 3) (xLoc 5)] []],
    sIf (tCmp (xBin .add (xLoc 3) (xLoc 1)) [.Gt] [(xLoc 2)]) [sRet xNone] [],
    sRet (xLoc 3)]⟩
noncomputable def f06_3 : Fn := ⟨3, 4, [
    sRet (xSort true (xBin .add (xList [(xInt 0)]) (xComp (xLoc 3) 3 .plain [(xLoc 0)] [(tCmp (xInt 0) [.Lt, .LtE] [(xLoc 3), (xBin .sub (xLoc 2) (xLoc 1))])])))]⟩
noncomputable def f06_4 : Fn := ⟨5, 9, [
    sFor (.var 5) .plain [(xCall 3 [(xComp (xBin .add (xSub (xLoc 8) (xInt 1)) (xSub (xLoc 8) (xInt 3))) 8 .plain [(xLoc 0)] []), (xLoc 4), (xLoc 2)])] [sSet (.var 6) (xComp (xLoc 8) 8 .plain [(xLoc 0)] [(tAnd [(tCmp (xSub (xLoc 8) (xInt 1)) [.Lt] [(xBin .add (xLoc 5) (xLoc 4))]), (tCmp (xLoc 5) [.Lt] [(xBin .add (xSub (xLoc 8) (xInt 1)) (xSub (xLoc 8) (xInt 3)))])])]), sSet (.var 7) (xCall 2 [(xComp (xTup [(xSub (xLoc 8) (xInt 0)), (xBin .add (xSub (xLoc 8) (xInt 0)) (xSub (xLoc 8) (xInt 2)))]) 8 .plain [(xLoc 6)] []), (xLoc 3), (xLoc 1)]), sIf (tAnd [(tCmp (xLoc 7) [.IsNot] [xNone]), (tCmp (xBin .add (xLoc 5) (xLoc 4)) [.LtE] [(xLoc 2)])]) [sRet (xTup [(xLoc 5), (xLoc 7)])] []],
    sRet xNone]⟩
noncomputable def f06_5 : Fn := ⟨5, 9, [
    sFor (.var 5) .plain [(xCall 3 [(xComp (xBin .add (xSub (xLoc 8) (xInt 0)) (xSub (xLoc 8) (xInt 2))) 8 .plain [(xLoc 0)] []), (xLoc 3), (xLoc 1)])] [sSet (.var 6) (xComp (xLoc 8) 8 .plain [(xLoc 0)] [(tAnd [(tCmp (xSub (xLoc 8) (xInt 0)) [.Lt] [(xBin .add (xLoc 5) (xLoc 3))]), (tCmp (xLoc 5) [.Lt] [(xBin .add (xSub (xLoc 8) (xInt 0)) (xSub (xLoc 8) (xInt 2)))])])]), sSet (.var 7) (xCall 2 [(xComp (xTup [(xSub (xLoc 8) (xInt 1)), (xBin .add (xSub (xLoc 8) (xInt 1)) (xSub (xLoc 8) (xInt 3)))]) 8 .plain [(xLoc 6)] []), (xLoc 4), (xLoc 2)]), sIf (tAnd [(tCmp (xLoc 7) [.IsNot] [xNone]), (tCmp (xBin .add (xLoc 5) (xLoc 3)) [.LtE] [(xLoc 1)])]) [sRet (xTup [(xLoc 7), (xLoc 5)])] []],
    sRet xNone]⟩
noncomputable def f06_6 : Fn := ⟨4, 8, [
    sSet (.tup [4, 5, 6]) (xLoc 1),
    sIf (tCmp (xLoc 6) [.Eq] [(xStr (Str.ofString "low"))]) [sRet (xCall 4 [(xLoc 0), (xLoc 4), (xLoc 5), (xLoc 2), (xLoc 3)])] [],
    sRet (xCall 5 [(xLoc 0), (xLoc 4), (xLoc 5), (xLoc 2), (xLoc 3)])]⟩
noncomputable def f06_7 : Fn := ⟨6, 10, [
    sSet (.var 6) xNone,
    sSet (.var 7) (xCall 6 [(xLoc 2), (xSub (xLoc 0) (xLoc 1)), (xLoc 3), (xLoc 4)]),
    sIf (tCmp (xLoc 7) [.IsNot] [xNone]) [sSet (.var 6) (xTup [(xLoc 1), (xSub (xLoc 7) (xInt 0)), (xSub (xLoc 7) (xInt 1)), (xBool false)])] [],
    sIf (tNot (tVal (xLoc 5))) [sRet (xLoc 6)] [],
    sSet (.var 7) (xCall 6 [(xLoc 2), (xSub (xLoc 0) (xLoc 1)), (xLoc 4), (xLoc 3)]),
    sIf (tCmp (xLoc 7) [.IsNot] [xNone]) [sSet (.var 8) (xTup [(xLoc 1), (xSub (xLoc 7) (xInt 0)), (xSub (xLoc 7) (xInt 1)), (xBool true)]), sIf (tOr [(tCmp (xLoc 6) [.Is] [xNone]), (tVal (xCall 1 [(xLoc 0), (xLoc 8), (xLoc 6)]))]) [sSet (.var 6) (xLoc 8)] []] [],
    sRet (xLoc 6)]⟩
noncomputable def f06_8 : Fn := ⟨5, 8, [
    sFor (.var 5) .range [(xPrim .len [(xLoc 0)])] [sSet (.var 6) (xCall 7 [(xLoc 0), (xLoc 5), (xSub (xLoc 1) (xLoc 5)), (xLoc 2), (xLoc 3), (xLoc 4)]), sIf (tCmp (xLoc 6) [.IsNot] [xNone]) [sRet (xLoc 6)] []],
    sRet xNone]⟩
noncomputable def f06_9 : Fn := ⟨2, 3, [
    sIf (tCmp (xLoc 1) [.Lt] [(xPrim .len [(xLoc 0)])]) [sRet (xSub (xLoc 0) (xLoc 1))] [],
    sRet (xInt 0)]⟩
noncomputable def f06_10 : Fn := ⟨1, 2, [
    sRet (xBoo true [(xPrim (.isinst .int) [(xLoc 0)]), (xNot (xPrim (.isinst .bool) [(xLoc 0)]))])]⟩
noncomputable def f06_11 : Fn := ⟨3, 4, [
    sRet (xBoo false [(xOf (tCmp (xBin .add (xSub (xLoc 0) (xLoc 2)) (xSub (xLoc 0) (xBin .add (xLoc 2) (xInt 2)))) [.LtE] [(xSub (xLoc 1) (xLoc 2))])), (xOf (tCmp (xBin .add (xSub (xLoc 1) (xLoc 2)) (xSub (xLoc 1) (xBin .add (xLoc 2) (xInt 2)))) [.LtE] [(xSub (xLoc 0) (xLoc 2))]))])]⟩
noncomputable def f06_12 : Fn := ⟨4, 6, [
    sIf (tOr [(tCmp (xSub (xLoc 1) (xInt 0)) [.Lt] [(xInt 0)]), (tCmp (xSub (xLoc 1) (xInt 1)) [.Lt] [(xInt 0)]), (tCmp (xBin .add (xSub (xLoc 1) (xInt 0)) (xSub (xLoc 1) (xInt 2))) [.Gt] [(xLoc 2)]), (tCmp (xBin .add (xSub (xLoc 1) (xInt 1)) (xSub (xLoc 1) (xInt 3))) [.Gt] [(xLoc 3)])]) [sRet (xBool false)] [],
    sFor (.var 4) .plain [(xLoc 0)] [sIf (tAnd [(tNot (tVal (xCall 11 [(xLoc 1), (xLoc 4), (xInt 0)]))), (tNot (tVal (xCall 11 [(xLoc 1), (xLoc 4), (xInt 1)])))]) [sRet (xBool false)] []],
    sRet (xBool true)]⟩
noncomputable def f06_13 : Fn := ⟨1, 2, [
    sIf (tCmp (xSub (xLoc 0) (xInt 2)) [.Eq] [(xStr (Str.ofString "low"))]) [sRet (xComp (xTup [(xBin .floordiv (xLoc 1) (xSub (xLoc 0) (xInt 0))), (xBin .mod (xLoc 1) (xSub (xLoc 0) (xInt 0)))]) 1 .range [(xBin .mul (xSub (xLoc 0) (xInt 0)) (xSub (xLoc 0) (xInt 1)))] [])] [],
    sRet (xComp (xTup [(xBin .mod (xLoc 1) (xSub (xLoc 0) (xInt 1))), (xBin .floordiv (xLoc 1) (xSub (xLoc 0) (xInt 1)))]) 1 .range [(xBin .mul (xSub (xLoc 0) (xInt 0)) (xSub (xLoc 0) (xInt 1)))] [])]⟩
noncomputable def f06_14 : Fn := ⟨1, 5, [
    sSet (.var 2) (xComp (xTup [(xInt 1), (xInt 1), (xSub (xList [(xStr (Str.ofString "low")), (xStr (Str.ofString "left"))]) (xBin .mod (xLoc 4) (xInt 2)))]) 4 .range [(xBin .mod (xCall 9 [(xLoc 0), (xInt 1)]) (xInt 7))] []),
    sFor (.var 1) .range [(xBin .add (xInt 1) (xBin .mod (xCall 9 [(xLoc 0), (xInt 2)]) (xInt 3)))] [sSet (.var 3) (xBin .mod (xBin .add (xBin .mul (xCall 9 [(xLoc 0), (xBin .add (xInt 3) (xLoc 1))]) (xInt 48271)) (xInt 11)) (xInt 2147483647)), sExpr (xApp (xLoc 2) (xTup [(xBin .add (xInt 1) (xBin .mod (xLoc 3) (xInt 6))), (xBin .add (xInt 1) (xBin .mod (xBin .floordiv (xLoc 3) (xInt 6)) (xInt 6))), (xSub (xList [(xStr (Str.ofString "low")), (xStr (Str.ofString "left"))]) (xBin .mod (xBin .floordiv (xLoc 3) (xInt 36)) (xInt 2)))]))],
    sRet (xLoc 2)]⟩
noncomputable def f06_15 : Fn := ⟨3, 10, [
    sSet (.var 3) (xList []),
    sFor (.var 4) .range [(xPrim .len [(xLoc 1)])] [sSet (.var 5) (xList []), sIf (tCmp (xLoc 4) [.GtE] [(xLoc 2)]) [sSet (.var 6) (xBin .mod (xCall 9 [(xLoc 0), (xBin .add (xInt 7) (xLoc 4))]) (xInt 2147483647)), sSet (.var 7) (xBin .mod (xCall 9 [(xLoc 0), (xBin .add (xInt 16) (xLoc 4))]) (xInt 5)), sIf (tCmp (xBin .mod (xBin .floordiv (xCall 9 [(xLoc 0), (xBin .add (xInt 16) (xLoc 4))]) (xInt 5)) (xInt 6)) [.Eq] [(xInt 1)]) [sSet (.var 7) (xBin .add (xInt 5) (xBin .mod (xBin .floordiv (xCall 9 [(xLoc 0), (xBin .add (xInt 16) (xLoc 4))]) (xInt 30)) (xInt 12)))] [], sFor (.var 8) .range [(xLoc 7)] [sSet (.var 6) (xBin .mod (xBin .add (xBin .mul (xLoc 6) (xInt 48271)) (xCall 9 [(xLoc 0), (xBin .add (xInt 25) (xLoc 8))])) (xInt 2147483647)), sExpr (xApp (xLoc 5) (xTup [(xBin .sub (xBin .mod (xLoc 6) (xInt 8)) (xInt 2)), (xBin .sub (xBin .mod (xBin .floordiv (xLoc 6) (xInt 8)) (xInt 8)) (xInt 2)), (xBin .add (xInt 1) (xBin .mod (xBin .floordiv (xLoc 6) (xInt 64)) (xInt 4))), (xBin .add (xInt 1) (xBin .mod (xBin .floordiv (xLoc 6) (xInt 256)) (xInt 4)))]))]] [], sExpr (xApp (xLoc 3) (xLoc 5))],
    sRet (xLoc 3)]⟩
noncomputable def f06_16 : Fn := ⟨5, 12, [
    sFor (.var 5) .range [(xPrim .len [(xLoc 0)])] [sSet (.var 6) (xSub (xLoc 0) (xLoc 5)), sSet (.var 7) (xSub (xLoc 1) (xLoc 5)), sFor (.var 8) .plain [(xCall 13 [(xLoc 6)])] [sSet (.var 9) (xTup [(xSub (xLoc 8) (xInt 1)), (xSub (xLoc 8) (xInt 0)), (xLoc 2), (xLoc 3)]), sIf (tVal (xCall 12 [(xLoc 7), (xLoc 9), (xSub (xLoc 6) (xInt 0)), (xSub (xLoc 6) (xInt 1))])) [sRet (xTup [(xLoc 5), (xSub (xLoc 8) (xInt 0)), (xSub (xLoc 8) (xInt 1)), (xBool false)])] [], sSet (.var 10) (xTup [(xSub (xLoc 8) (xInt 1)), (xSub (xLoc 8) (xInt 0)), (xLoc 3), (xLoc 2)]), sIf (tAnd [(tVal (xLoc 4)), (tVal (xCall 12 [(xLoc 7), (xLoc 10), (xSub (xLoc 6) (xInt 0)), (xSub (xLoc 6) (xInt 1))]))]) [sRet (xTup [(xLoc 5), (xSub (xLoc 8) (xInt 0)), (xSub (xLoc 8) (xInt 1)), (xBool true)])] []]],
    sRet xNone]⟩
noncomputable def f06_17 : Fn := ⟨3, 5, [
    sIf (tCmp (xLoc 1) [.Is] [xNone]) [sRet (xOf (tCmp (xLoc 0) [.Is] [xNone]))] [],
    sIf (tOr [(tNot (tVal (xPrim (.isinst .tuple) [(xLoc 0)]))), (tCmp (xPrim .len [(xLoc 0)]) [.NotEq] [(xInt 4)])]) [sRet (xBool false)] [],
    sIf (tNot (tVal (xPrim (.isinst .bool) [(xSub (xLoc 0) (xInt 3))]))) [sRet (xBool false)] [],
    sFor (.var 3) .range [(xInt 3)] [sIf (tNot (tVal (xCall 10 [(xSub (xLoc 0) (xLoc 3))]))) [sRet (xBool false)] []],
    sRet (xOf (tCmp (xLoc 0) [.Eq] [(xTup [(xSub (xLoc 1) (xInt 0)), (xBin .mul (xSub (xLoc 1) (xInt 1)) (xLoc 2)), (xBin .mul (xSub (xLoc 1) (xInt 2)) (xLoc 2)), (xSub (xLoc 1) (xInt 3))])]))]⟩
noncomputable def f06_18 : Fn := ⟨1, 16, [
    sSet (.var 1) (xBin .add (xInt 1) (xBin .mod (xCall 9 [(xLoc 0), (xInt 0)]) (xInt 160000))),
    sSet (.var 2) (xCall 14 [(xLoc 0)]),
    sSet (.var 3) (xCall 15 [(xLoc 0), (xLoc 2), (xBin .mod (xCall 9 [(xLoc 0), (xInt 1)]) (xInt 7))]),
    sSet (.var 4) (xBin .mod (xBin .add (xBin .mul (xCall 9 [(xLoc 0), (xInt 6)]) (xInt 48271)) (xInt 11)) (xInt 2147483647)),
    sSet (.var 5) (xBin .add (xInt 1) (xBin .mod (xLoc 4) (xInt 5))),
    sSet (.var 6) (xBin .add (xInt 1) (xBin .mod (xBin .floordiv (xLoc 4) (xInt 5)) (xInt 5))),
    sSet (.var 7) (xOf (tCmp (xBin .mod (xBin .floordiv (xLoc 4) (xInt 25)) (xInt 3)) [.Gt] [(xInt 0)])),
    sSet (.var 8) (xCall 16 [(xLoc 2), (xLoc 3), (xLoc 5), (xLoc 6), (xLoc 7)]),
    sSet (.var 9) (xComp (xTup [(xBin .mul (xSub (xLoc 15) (xInt 0)) (xLoc 1)), (xBin .mul (xSub (xLoc 15) (xInt 1)) (xLoc 1)), (xSub (xLoc 15) (xInt 2))]) 15 .plain [(xLoc 2)] []),
    sSet (.var 10) (xList []),
    sFor (.var 11) .plain [(xLoc 3)] [sExpr (xApp (xLoc 10) (xComp (xBin .add (xTup [(xBin .mul (xSub (xLoc 15) (xInt 0)) (xLoc 1)), (xBin .mul (xSub (xLoc 15) (xInt 1)) (xLoc 1))]) (xTup [(xBin .mul (xSub (xLoc 15) (xInt 2)) (xLoc 1)), (xBin .mul (xSub (xLoc 15) (xInt 3)) (xLoc 1))])) 15 .plain [(xLoc 11)] []))],
    sSet (.var 12) (xComp (xPrim .list [(xLoc 15)]) 15 .plain [(xLoc 10)] []),
    sSet (.var 13) (xPrim .list [(xLoc 9)]),
    sSet (.var 14) (xCall 8 [(xLoc 13), (xLoc 12), (xBin .mul (xLoc 5) (xLoc 1)), (xBin .mul (xLoc 6) (xLoc 1)), (xLoc 7)]),
    sRet (xBoo true [(xOf (tCmp (xLoc 12) [.Eq] [(xLoc 10)])), (xOf (tCmp (xLoc 13) [.Eq] [(xLoc 9)])), (xCall 17 [(xLoc 14), (xLoc 8), (xLoc 1)])])]⟩
noncomputable def P06 : List Fn := [f06_0, f06_1, f06_2, f06_3, f06_4, f06_5, f06_6, f06_7, f06_8, f06_9, f06_10, f06_11, f06_12, f06_13, f06_14, f06_15, f06_16, f06_17, f06_18]

local macro_rules | `(tactic| wtm_at "mine rfl") => `(tactic| with_unfolding_all rfl)
local macro_rules | `(tactic| wtm_at "mine ref") => `(tactic| first | assumption | with_unfolding_all rfl | exact get_last | (refine get_app ?_; wtm_at "mine ref"))
local macro_rules | `(tactic| wtm_at "mine s") => `(tactic| with_reducible first
  | refine s_cons ?_ | refine e_loc (by wtm_at "mine rfl") (by wtm_at "mine rfl") ?_ | refine e_int ?_ | refine l_cons ?_ | refine l_nil ?_ | refine e_bin ?_
  | refine k_next ?_ | refine BinK.add ?_ | refine BinK.addT (List.cons_ne_nil _ _) (List.cons_ne_nil _ _) (Nat.le_of_ble_eq_true rfl) ?_ | refine BinK.sub ?_ | (refine r_mulK ?_ ?_; · wtm_at "mine rfl") | (refine r_mul ?_ ?_; · omega) | (refine r_modK ?_ ?_; · wtm_at "mine rfl") | (refine r_mod ?_ ?_; · omega) | (refine r_divK ?_ ?_; · wtm_at "mine rfl") | (refine r_div ?_ ?_; · omega)
  | refine e_call ?_ | refine s_set ?_ | refine e_sub ?_ | refine r_subTK (by wtm_at "mine rfl") (by wtm_at "mine rfl") ?_ | refine e_tup ?_ | refine s_if ?_
  | refine t_cmp ?_ | refine c_one ?_ | refine cm_eq ?_ | refine CmpK.lt ?_ | refine CmpK.le ?_ | refine CmpK.gt ?_ | refine CmpK.ge ?_ | refine cm_ne ?_ | refine cm_eqB ?_ | refine cm_neB ?_
  | refine t_val ?_ | refine t_not ?_ | refine ts_cons ?_ | refine ts_nil ?_ | refine to_cons ?_ | refine to_nil ?_
  | refine TruK.bool ?_ | refine TruK.none ?_ | refine TruK.int ?_ | refine TruK.list (by wtm_at "mine ref") ?_
  | refine ite_t ?_ | refine ite_f ?_ | refine ite_nt ?_ | refine ite_nf ?_ | refine ite_tf ?_ | refine ite_ff ?_
  | refine BindK.var ?_ | refine BindK.tup (by wtm_at "mine rfl") ?_ | refine BindK.list (by wtm_at "mine ref") (by wtm_at "mine rfl") ?_
  | refine s_ret ?_ | refine s_nil ?_ | refine s_expr ?_ | refine s_for ?_ | refine s_retN ?_ | refine s_pass ?_ | refine s_item ?_ | refine k_ret ?_ | refine k_ret' ?_ | refine k_next' ?_ | refine k_exc ?_ | refine lk_next ?_ | refine lk_ret ?_ | refine lk_exc ?_ | refine u_c ?_ | refine u_f ?_
  | refine b_cons ?_ | refine b_one ?_ | refine e_of ?_ | refine e_not ?_ | refine e_none ?_ | refine e_bool ?_ | refine e_str ?_ | refine e_list ?_ | refine e_prim ?_ | refine e_app ?_ | refine a_list (by wtm_at "mine ref") ?_ | refine e_neg ?_ | refine r_neg ?_ | refine e_comp ?_ | refine e_slice ?_ | refine o_none ?_ | refine o_some ?_ | refine e_sort ?_
  | refine c_cons ?_ | refine cm_isN ?_ | refine cm_isI ?_ | refine cm_isT ?_ | refine cm_isB ?_ | refine cm_isnN ?_ | refine cm_isnI ?_ | refine cm_isnT ?_
  | refine r_pow6 ?_ | refine r_min ?_ | refine r_max ?_ | refine PrimK.lenL (by wtm_at "mine ref") ?_ | refine PrimK.lenT (Nat.le_of_ble_eq_true rfl) ?_ | refine r_subLK (by wtm_at "mine ref") (by wtm_at "mine rfl") (by wtm_at "mine rfl") ?_
  | refine r_isB ?_ | refine r_isBI ?_ | refine r_isI ?_ | refine r_isIB ?_ | refine r_isT ?_ | refine r_isL (by wtm_at "mine ref") ?_ | refine r_isS ?_ | refine PrimK.list (by wtm_at "mine ref") ?_ | refine PrimK.tuple (by wtm_at "mine ref") ?_ | refine PrimK.intB ?_
  | refine ite_p (by wtm_at "mine rfl") ?_ | refine ite_n (by with_unfolding_all exact Bool.false_ne_true) ?_)
local macro_rules | `(tactic| wtm_at "mine") => `(tactic| repeat wtm_at "mine s")

section
variable {d : Nat} {σ : Store} {Q : VPost} {X : XPost}
theorem gap06 {n : Nat} {rows : List (Int × Int)} {size room : Int} (e : σ[n]? = some (.list (rows.map rowV))) (hz : rows.length < 64) (q : ∀ g σ', σ <+: σ' → IsGap size room rows g → Q (optV g) σ') : callW P06 (d + 1) 2 [.ref n, .int size, .int room] σ Q X := by
  refine call_in (fn := f06_2) rfl rfl ?_
  dsimp only [f06_2]
  wtm_at "mine"
  refine SortK.rows (rs := rows.map fun r => [r.1, r.2]) (by rw [e, List.map_map]; rfl) (by rw [List.length_map]; exact hz) (fun r hr => ?_) fun ts hp hs => ?_
  · obtain ⟨x, _, rfl⟩ := List.mem_map.mp hr; exact List.cons_ne_nil _ _
  obtain ⟨rs, rfl, hp, hs⟩ := rows_back hp hs
  rw [List.map_map]
  wtm_at "mine"
  refine f_list (vs := rs.map rowV) (fun i ρ' σ' => σ' = σ ++ [.list (rs.map rowV)] ∧ ∃ a b, ρ' = [.ref n, .int size, .int room, .int ((rs.take i).foldl (gapStep size) 0), a, b, .undef]) get_last ⟨rfl, _, _, rfl⟩ (fun i v ρ' σ' R hv hI hR => ?_) fun ρ' σ' hI => ?_
  · obtain ⟨rfl, a, b, rfl⟩ := hI
    obtain ⟨r, hr, rfl⟩ := List.mem_map_get hv
    have hn : (rs.take (i + 1)).foldl (gapStep size) 0 = if r.1 < (rs.take i).foldl (gapStep size) 0 + size ∧ r.2 > (rs.take i).foldl (gapStep size) 0 then r.2 else (rs.take i).foldl (gapStep size) 0 := by
      rw [List.take_add_one, hr, List.foldl_append]; rfl
    dsimp only [rowV]
    wtm_at "mine"
    refine ite_d (fun h1 => ?_) fun h1 => ?_
    · wtm_at "mine"
      refine ite_d (fun h2 => ?_) fun h2 => ?_
      · wtm_at "mine"
        exact hR _ _ get_last ⟨rfl, _, _, by rw [hn, if_pos ⟨h1, h2⟩]; rfl⟩
      · wtm_at "mine"
        exact hR _ _ get_last ⟨rfl, _, _, by rw [hn, if_neg fun h => h2 h.2]; rfl⟩
    · wtm_at "mine"
      exact hR _ _ get_last ⟨rfl, _, _, by rw [hn, if_neg fun h => h1 h.1]; rfl⟩
  · obtain ⟨rfl, a, b, rfl⟩ := hI
    rw [List.length_map, List.take_length]
    have hg := isGap (size := size) (room := room) hp hs rfl
    wtm_at "mine"
    refine ite_d (fun h => ?_) fun h => ?_
    · rw [if_pos h] at hg
      wtm_at "mine"
      exact q _ _ pre_app hg
    · rw [if_neg h] at hg
      wtm_at "mine"
      exact q _ _ pre_app hg
theorem begins06 {n : Nat} {es : List Int} {size room : Int} (e : σ[n]? = some (.list (es.map .int))) (hz : es.length < 63)
    (q : ∀ (ms : List Int) k σ', σ <+: σ' → ms.Pairwise (· < ·) → (∀ x, x ∈ ms ↔ x ∈ 0 :: es.filter fun e => decide (0 < e) && decide (e ≤ room - size)) → σ'[k]? = some (.list (ms.map .int)) → Q (.ref k) σ') : callW P06 (d + 1) 3 [.ref n, .int size, .int room] σ Q X := by
  refine call_in (fn := f06_3) rfl rfl ?_
  dsimp only [f06_3]
  wtm_at "mine"
  refine c_filter (g := .int) (fun e => decide (0 < e) && decide (e ≤ room - size)) (get_app e) (Nat.le_trans (Nat.le_of_lt hz) (by decide)) (fun x hx K hK hK' => ?_) ?_
  · wtm_at "mine"
    refine ite_d (fun h1 => ?_) fun h1 => ?_
    · wtm_at "mine"
      refine ite_d (fun h2 => ?_) fun h2 => ?_
      · wtm_at "mine"
        exact hK (by rw [decide_eq_true h1, decide_eq_true h2]; rfl)
      · wtm_at "mine"
        exact hK' (by rw [decide_eq_false h2, Bool.and_false])
    · wtm_at "mine"
      exact hK' (by rw [decide_eq_false h1]; rfl)
  · refine BinK.addL (get_app get_last) get_last ?_ ?_
    · rw [List.length_map]
      exact Nat.le_trans (Nat.add_le_add_left (List.length_filter_le _ _) _) (Nat.le_trans (Nat.add_le_add_left (Nat.le_of_lt hz) _) (by decide))
    · refine SortK.set (ns := 0 :: es.filter fun e => decide (0 < e) && decide (e ≤ room - size)) get_last ?_ fun ms h1 h2 => ?_
      · exact Nat.lt_of_le_of_lt (Nat.succ_le_succ (List.length_filter_le _ _)) (Nat.succ_lt_succ hz)
      · wtm_at "mine"
        exact q ms _ _ (pre_app.trans (pre_app.trans (pre_app.trans pre_app))) h1 h2 get_last
theorem lowest06 {n : Nat} {os : List Ot} {W H w h : Int} (e : σ[n]? = some (.list (os.map Ot.v))) (hz : os.length < 63)
    (q : ∀ r σ', σ <+: σ' → First (Gd (os.map Ot.low) H W h w) r → OnEnds (os.map Ot.low) r → Q (pairV r) σ') : callW P06 (d + 2) 4 [.ref n, .int W, .int H, .int w, .int h] σ Q X := by
  refine call_in (fn := f06_4) rfl rfl ?_
  dsimp only [f06_4]
  wtm_at "mine"
  refine c_map (g := Ot.v) (fun o => o.u + o.h) .int e (Nat.le_trans (Nat.le_of_lt hz) (by decide)) (fun x hx K hK => ?_) ?_
  · dsimp only [Ot.v]
    wtm_at "mine"
    exact hK
  wtm_at "mine"
  refine begins06 get_last (by rw [List.length_map]; exact hz) fun ms k σ₁ p₁ h1 h2 e1 => ?_
  have p₁ := pre_app.trans p₁
  wtm_at "mine"
  refine f_list (fun i ρ' σ' => σ₁ <+: σ' ∧ (∃ a b c, ρ' = [.ref n, .int W, .int H, .int w, .int h, a, b, c, .undef]) ∧ ∀ r, Search (os.map Ot.low) H W h w (ms.drop i) r → Search (os.map Ot.low) H W h w ms r) e1 ⟨List.prefix_refl _, ⟨_, _, _, rfl⟩, fun r h => h⟩ (fun i v ρ' σ' R hv hI hR => ?_) fun ρ' σ' hI => ?_
  · obtain ⟨p₂, ⟨a, b, c, rfl⟩, hS⟩ := hI
    obtain ⟨p, hp, rfl⟩ := List.mem_map_get hv
    have hd : ms.drop i = p :: ms.drop (i + 1) := drop_at hp
    rw [hd] at hS
    wtm_at "mine"
    refine c_filter (g := Ot.v) (fun o => decide (o.u < p + h) && decide (p < o.u + o.h)) (pre_at (p₁.trans p₂) e) (Nat.le_trans (Nat.le_of_lt hz) (by decide)) (fun x hx K hK hK' => ?_) ?_
    · dsimp only [Ot.v]
      wtm_at "mine"
      refine ite_d (fun h1 => ?_) fun h1 => ?_
      · wtm_at "mine"
        refine ite_d (fun h2 => ?_) fun h2 => ?_
        · wtm_at "mine"
          exact hK (by rw [decide_eq_true h1, decide_eq_true h2]; rfl)
        · wtm_at "mine"
          exact hK' (by rw [decide_eq_false h2, Bool.and_false])
      · wtm_at "mine"
        exact hK' (by rw [decide_eq_false h1]; rfl)
    wtm_at "mine"
    refine c_map (g := Ot.v) (fun o => (o.l, o.l + o.w)) rowV get_last (Nat.le_trans (List.length_filter_le _ _) (Nat.le_trans (Nat.le_of_lt hz) (by decide))) (fun x hx K hK => ?_) ?_
    · dsimp only [Ot.v]
      wtm_at "mine"
      exact hK
    have hband : (os.filter fun o => decide (o.u < p + h) && decide (p < o.u + o.h)).map (fun o => (o.l, o.l + o.w)) = stretches (band h p (os.map Ot.low)) := by
      unfold stretches band
      rw [List.filter_map, List.map_map]; rfl
    rw [hband]
    wtm_at "mine"
    refine gap06 get_last (by rw [← hband, List.length_map]; exact Nat.lt_of_le_of_lt (List.length_filter_le _ _) (Nat.lt_succ_of_lt hz)) fun g σ₃ p₃ hg => ?_
    have p₃ := pre_app.trans (pre_app.trans p₃)
    cases g with
    | none =>
      dsimp only [optV]
      wtm_at "mine"
      exact hR _ _ (pre_at (p₂.trans p₃) e1) ⟨p₂.trans p₃, ⟨_, _, _, rfl⟩, fun r h => hS r (.miss hg (.inl rfl) h)⟩
    | some s =>
      dsimp only [optV]
      wtm_at "mine"
      refine ite_d (fun h3 => ?_) fun h3 => ?_
      · wtm_at "mine"
        obtain ⟨f1, f2⟩ := search_first (hS _ (.hit hg h3)) h1 fun x => by rw [h2, begEdges, List.map_map]; rfl
        exact q _ _ ((p₁.trans p₂).trans p₃) f1 f2
      · wtm_at "mine"
        exact hR _ _ (pre_at (p₂.trans p₃) e1) ⟨p₂.trans p₃, ⟨_, _, _, rfl⟩, fun r h => hS r (.miss hg (.inr h3) h)⟩
  · obtain ⟨p₂, ⟨a, b, c, rfl⟩, hS⟩ := hI
    rw [List.length_map, List.drop_length] at hS
    wtm_at "mine"
    obtain ⟨f1, f2⟩ := search_first (hS _ .nil) h1 fun x => by rw [h2, begEdges, List.map_map]; rfl
    exact q _ _ (p₁.trans p₂) f1 f2
theorem leftmost06 {n : Nat} {os : List Ot} {W H w h : Int} (e : σ[n]? = some (.list (os.map Ot.v))) (hz : os.length < 63)
    (q : ∀ r σ', σ <+: σ' → First (Gd (os.map Ot.lef) W H w h) r → OnEnds (os.map Ot.lef) r → Q (pairW r) σ') : callW P06 (d + 2) 5 [.ref n, .int W, .int H, .int w, .int h] σ Q X := by
  refine call_in (fn := f06_5) rfl rfl ?_
  dsimp only [f06_5]
  wtm_at "mine"
  refine c_map (g := Ot.v) (fun o => o.l + o.w) .int e (Nat.le_trans (Nat.le_of_lt hz) (by decide)) (fun x hx K hK => ?_) ?_
  · dsimp only [Ot.v]
    wtm_at "mine"
    exact hK
  wtm_at "mine"
  refine begins06 get_last (by rw [List.length_map]; exact hz) fun ms k σ₁ p₁ h1 h2 e1 => ?_
  have p₁ := pre_app.trans p₁
  wtm_at "mine"
  refine f_list (fun i ρ' σ' => σ₁ <+: σ' ∧ (∃ a b c, ρ' = [.ref n, .int W, .int H, .int w, .int h, a, b, c, .undef]) ∧ ∀ r, Search (os.map Ot.lef) W H w h (ms.drop i) r → Search (os.map Ot.lef) W H w h ms r) e1 ⟨List.prefix_refl _, ⟨_, _, _, rfl⟩, fun r h => h⟩ (fun i v ρ' σ' R hv hI hR => ?_) fun ρ' σ' hI => ?_
  · obtain ⟨p₂, ⟨a, b, c, rfl⟩, hS⟩ := hI
    obtain ⟨p, hp, rfl⟩ := List.mem_map_get hv
    have hd : ms.drop i = p :: ms.drop (i + 1) := drop_at hp
    rw [hd] at hS
    wtm_at "mine"
    refine c_filter (g := Ot.v) (fun o => decide (o.l < p + w) && decide (p < o.l + o.w)) (pre_at (p₁.trans p₂) e) (Nat.le_trans (Nat.le_of_lt hz) (by decide)) (fun x hx K hK hK' => ?_) ?_
    · dsimp only [Ot.v]
      wtm_at "mine"
      refine ite_d (fun h1 => ?_) fun h1 => ?_
      · wtm_at "mine"
        refine ite_d (fun h2 => ?_) fun h2 => ?_
        · wtm_at "mine"
          exact hK (by rw [decide_eq_true h1, decide_eq_true h2]; rfl)
        · wtm_at "mine"
          exact hK' (by rw [decide_eq_false h2, Bool.and_false])
      · wtm_at "mine"
        exact hK' (by rw [decide_eq_false h1]; rfl)
    wtm_at "mine"
    refine c_map (g := Ot.v) (fun o => (o.u, o.u + o.h)) rowV get_last (Nat.le_trans (List.length_filter_le _ _) (Nat.le_trans (Nat.le_of_lt hz) (by decide))) (fun x hx K hK => ?_) ?_
    · dsimp only [Ot.v]
      wtm_at "mine"
      exact hK
    have hband : (os.filter fun o => decide (o.l < p + w) && decide (p < o.l + o.w)).map (fun o => (o.u, o.u + o.h)) = stretches (band w p (os.map Ot.lef)) := by
      unfold stretches band
      rw [List.filter_map, List.map_map]; rfl
    rw [hband]
    wtm_at "mine"
    refine gap06 get_last (by rw [← hband, List.length_map]; exact Nat.lt_of_le_of_lt (List.length_filter_le _ _) (Nat.lt_succ_of_lt hz)) fun g σ₃ p₃ hg => ?_
    have p₃ := pre_app.trans (pre_app.trans p₃)
    cases g with
    | none =>
      dsimp only [optV]
      wtm_at "mine"
      exact hR _ _ (pre_at (p₂.trans p₃) e1) ⟨p₂.trans p₃, ⟨_, _, _, rfl⟩, fun r h => hS r (.miss hg (.inl rfl) h)⟩
    | some s =>
      dsimp only [optV]
      wtm_at "mine"
      refine ite_d (fun h3 => ?_) fun h3 => ?_
      · wtm_at "mine"
        obtain ⟨f1, f2⟩ := search_first (hS _ (.hit hg h3)) h1 fun x => by rw [h2, begEdges, List.map_map]; rfl
        exact q _ _ ((p₁.trans p₂).trans p₃) f1 f2
      · wtm_at "mine"
        exact hR _ _ (pre_at (p₂.trans p₃) e1) ⟨p₂.trans p₃, ⟨_, _, _, rfl⟩, fun r h => hS r (.miss hg (.inr h3) h)⟩
  · obtain ⟨p₂, ⟨a, b, c, rfl⟩, hS⟩ := hI
    rw [List.length_map, List.drop_length] at hS
    wtm_at "mine"
    obtain ⟨f1, f2⟩ := search_first (hS _ .nil) h1 fun x => by rw [h2, begEdges, List.map_map]; rfl
    exact q _ _ (p₁.trans p₂) f1 f2
theorem spot06 {n : Nat} {os : List Ot} {W H w h : Int} (b : Bool) (e : σ[n]? = some (.list (os.map Ot.v))) (hz : os.length < 63) (q : ∀ r σ', σ <+: σ' → FirstSpot os W H w h b r → Q (pairV r) σ') : callW P06 (d + 3) 6 [.ref n, .tup [.int W, .int H, hab b], .int w, .int h] σ Q X := by
  refine call_in (fn := f06_6) rfl rfl ?_
  dsimp only [f06_6]
  wtm_at "mine"
  refine cm_low ?_
  cases b with
  | true =>
    wtm_at "mine"
    exact lowest06 e hz fun r σ' p h1 h2 => q r σ' p ⟨h1, h2⟩
  | false =>
    wtm_at "mine"
    refine leftmost06 e hz fun r σ' p h1 h2 => ?_
    rw [pairW_eq]
    exact q (swapO r) σ' p ⟨by rw [swapO_swapO]; exact h1, by rw [swapO_swapO]; exact h2⟩
end

section
variable {d : Nat} {σ : Store} {Q : VPost} {X : XPost}
theorem cell06 {xs : List Int} {k : Int} (h : σ[0]? = some (.list (xs.map .int))) (hk : 0 ≤ k) (q : Q (.int (cellAt xs k)) σ) : callW P06 (d + 1) 9 [.ref 0, .int k] σ Q X := by
  refine call_in (fn := f06_9) rfl rfl ?_
  dsimp only [f06_9]
  unfold cellAt at q
  wtm_at "mine"
  rw [List.length_map]
  refine ite_d (fun hl => ?_) fun hl => ?_
  · rw [List.getD_eq_getElem?_getD, List.getElem?_eq_getElem (show k.toNat < xs.length by omega)] at q
    wtm_at "mine"
    refine r_subL h hk (v := .int xs[k.toNat]) ?_ ?_
    · rw [List.getElem?_map, List.getElem?_eq_getElem (show k.toNat < xs.length by omega)]; rfl
    · wtm_at "mine"
      exact q
  · wtm_at "mine"
    rw [List.getD_eq_getElem?_getD, List.getElem?_eq_none (by omega)] at q
    exact q
theorem whole06 {k : Int} (q : Q (.bool true) σ) : callW P06 (d + 1) 10 [.int k] σ Q X := by
  refine call_in (fn := f06_10) rfl rfl ?_
  dsimp only [f06_10]
  wtm_at "mine"
  exact q
theorem apart06_0 {o x : Ot} (q : o.l + o.w ≤ x.l ∨ x.l + x.w ≤ o.l → Q (.bool true) σ) (q' : ¬ (o.l + o.w ≤ x.l ∨ x.l + x.w ≤ o.l) → Q (.bool false) σ) : callW P06 (d + 1) 11 [o.v, x.v, .int 0] σ Q X := by
  refine call_in (fn := f06_11) rfl rfl ?_
  dsimp only [f06_11, Ot.v]
  wtm_at "mine"
  refine ite_df (fun h => ?_) fun h => ?_
  · wtm_at "mine"
    by_cases h' : x.l + x.w ≤ o.l
    · rw [decide_eq_true h']; exact q (.inr h')
    · rw [decide_eq_false h']; exact q' fun z => z.elim h h'
  · rw [decide_eq_true h]; wtm_at "mine"; exact q (.inl h)
theorem apart06_1 {o x : Ot} (q : o.u + o.h ≤ x.u ∨ x.u + x.h ≤ o.u → Q (.bool true) σ) (q' : ¬ (o.u + o.h ≤ x.u ∨ x.u + x.h ≤ o.u) → Q (.bool false) σ) : callW P06 (d + 1) 11 [o.v, x.v, .int 1] σ Q X := by
  refine call_in (fn := f06_11) rfl rfl ?_
  dsimp only [f06_11, Ot.v]
  wtm_at "mine"
  refine ite_df (fun h => ?_) fun h => ?_
  · wtm_at "mine"
    by_cases h' : x.u + x.h ≤ o.u
    · rw [decide_eq_true h']; exact q (.inr h')
    · rw [decide_eq_false h']; exact q' fun z => z.elim h h'
  · rw [decide_eq_true h]; wtm_at "mine"; exact q (.inl h)
theorem good06 {n : Nat} {os : List Ot} {o : Ot} {W H : Int} (e : σ[n]? = some (.list (os.map Ot.v))) (q : Gd (os.map Ot.low) H W o.h o.w o.u o.l → Q (.bool true) σ) (q' : ¬ Gd (os.map Ot.low) H W o.h o.w o.u o.l → Q (.bool false) σ) : callW P06 (d + 2) 12 [.ref n, o.v, .int W, .int H] σ Q X := by
  refine call_in (fn := f06_12) rfl rfl ?_
  dsimp only [f06_12, Ot.v]
  wtm_at "mine"
  refine ite_d (fun h1 => ?_) fun h1 => ?_
  · wtm_at "mine"; exact q' fun g => absurd g.s0 (Int.not_le.mpr h1)
  wtm_at "mine"
  refine ite_d (fun h2 => ?_) fun h2 => ?_
  · wtm_at "mine"; exact q' fun g => absurd g.p0 (Int.not_le.mpr h2)
  wtm_at "mine"
  refine ite_d (fun h3 => ?_) fun h3 => ?_
  · wtm_at "mine"; exact q' fun g => absurd g.s1 (Int.not_le.mpr h3)
  wtm_at "mine"
  refine ite_d (fun h4 => ?_) fun h4 => ?_
  · wtm_at "mine"; exact q' fun g => absurd g.p1 (Int.not_le.mpr h4)
  wtm_at "mine"
  refine f_list (fun i ρ' σ' => σ' = σ ∧ (∃ a, ρ' = [.ref n, o.v, .int W, .int H, a, .undef]) ∧ ∀ x ∈ os.take i, Clear o.h o.w o.u o.l x.low) e ⟨rfl, ⟨_, rfl⟩, fun x hx => by rw [List.take_zero] at hx; cases hx⟩ (fun i v ρ' σ' R hv hI hR => ?_) fun ρ' σ' hI => ?_
  · obtain ⟨rfl, ⟨a, rfl⟩, hc⟩ := hI
    obtain ⟨x, hx, rfl⟩ := List.mem_map_get hv
    have hn : Clear o.h o.w o.u o.l x.low → ∀ y ∈ os.take (i + 1), Clear o.h o.w o.u o.l y.low := fun h y hy => by
      rw [take_at hx] at hy
      exact (List.mem_append.mp hy).elim (hc y) fun m => List.mem_singleton.mp m ▸ h
    wtm_at "mine"
    refine apart06_0 (fun h5 => ?_) fun h5 => ?_
    · wtm_at "mine"
      exact hR _ _ e ⟨rfl, ⟨_, rfl⟩, hn (h5.elim (fun h => .inr (.inr (.inl h))) fun h => .inr (.inr (.inr h)))⟩
    wtm_at "mine"
    refine apart06_1 (fun h6 => ?_) fun h6 => ?_
    · wtm_at "mine"
      exact hR _ _ e ⟨rfl, ⟨_, rfl⟩, hn (h6.elim .inl fun h => .inr (.inl h))⟩
    wtm_at "mine"
    refine q' fun g => ?_
    rcases g.clear x.low (List.mem_map.mpr ⟨x, List.mem_of_getElem? hx, rfl⟩) with h | h | h | h
    · exact h6 (.inl h)
    · exact h6 (.inr h)
    · exact h5 (.inl h)
    · exact h5 (.inr h)
  · obtain ⟨rfl, ⟨a, rfl⟩, hc⟩ := hI
    rw [List.length_map, List.take_length] at hc
    wtm_at "mine"
    exact q ⟨Int.not_lt.mp h2, Int.not_lt.mp h1, Int.not_lt.mp h4, Int.not_lt.mp h3, fun y hy => by obtain ⟨x, hx, rfl⟩ := List.mem_map.mp hy; exact hc x hx⟩
/-- the spots of a shelf, by up and left -/
noncomputable def spotsUL (W H : Int) : Bool → List (Int × Int)
  | true => spots W H
  | false => (spots H W).map fun x => (x.2, x.1)
theorem spots06 {W H : Int} {b : Bool} (hW : 0 < W ∧ W ≤ 1000) (hH : 0 < H ∧ H ≤ 1000) (hWH : -1000000 ≤ W * H ∧ W * H ≤ 1000000) (q : Q (.ref σ.length) (σ ++ [.list ((spotsUL W H b).map rowV)])) : callW P06 (d + 1) 13 [.tup [.int W, .int H, hab b]] σ Q X := by
  refine call_in (fn := f06_13) rfl rfl ?_
  dsimp only [f06_13]
  wtm_at "mine"
  refine cm_low ?_
  cases b with
  | true =>
    wtm_at "mine"
    refine c_rmap (fun i => ((i : Int) / W, (i : Int) % W)) rowV hWH (fun i hi K hK => ?_) ?_
    · wtm_at "mine"; exact hK
    · wtm_at "mine"; exact q
  | false =>
    wtm_at "mine"
    refine c_rmap (fun i => ((i : Int) % H, (i : Int) / H)) rowV hWH (fun i hi K hK => ?_) ?_
    · wtm_at "mine"; exact hK
    · wtm_at "mine"
      have e : spotsUL W H false = (List.range (W * H).toNat).map fun i : Nat => ((i : Int) % H, (i : Int) / H) := by
        unfold spotsUL spots; rw [List.map_map, Int.mul_comm H W]; rfl
      rw [e] at q
      exact q
end

end Mine

/-! L06b -/
namespace Mine
open PySem


local macro_rules | `(tactic| wtm_at "mine rfl") => `(tactic| with_unfolding_all rfl)
local macro_rules | `(tactic| wtm_at "mine ref") => `(tactic| first | assumption | with_unfolding_all rfl | exact get_last | (refine get_app ?_; wtm_at "mine ref"))
local macro_rules | `(tactic| wtm_at "mine s") => `(tactic| with_reducible first
  | refine s_cons ?_ | refine e_loc (by wtm_at "mine rfl") (by wtm_at "mine rfl") ?_ | refine e_int ?_ | refine l_cons ?_ | refine l_nil ?_ | refine e_bin ?_
  | refine k_next ?_ | refine BinK.add ?_ | refine BinK.addT (List.cons_ne_nil _ _) (List.cons_ne_nil _ _) (Nat.le_of_ble_eq_true rfl) ?_ | refine BinK.sub ?_ | (refine r_mulK ?_ ?_; · wtm_at "mine rfl") | (refine r_mul ?_ ?_; · omega) | (refine r_modK ?_ ?_; · wtm_at "mine rfl") | (refine r_mod ?_ ?_; · omega) | (refine r_divK ?_ ?_; · wtm_at "mine rfl") | (refine r_div ?_ ?_; · omega)
  | refine e_call ?_ | refine s_set ?_ | refine e_sub ?_ | refine r_subTK (by wtm_at "mine rfl") (by wtm_at "mine rfl") ?_ | refine e_tup ?_ | refine s_if ?_
  | refine t_cmp ?_ | refine c_one ?_ | refine cm_eq ?_ | refine CmpK.lt ?_ | refine CmpK.le ?_ | refine CmpK.gt ?_ | refine CmpK.ge ?_ | refine cm_ne ?_ | refine cm_eqB ?_ | refine cm_neB ?_
  | refine t_val ?_ | refine t_not ?_ | refine ts_cons ?_ | refine ts_nil ?_ | refine to_cons ?_ | refine to_nil ?_
  | refine TruK.bool ?_ | refine TruK.none ?_ | refine TruK.int ?_ | refine TruK.list (by wtm_at "mine ref") ?_
  | refine ite_t ?_ | refine ite_f ?_ | refine ite_nt ?_ | refine ite_nf ?_ | refine ite_tf ?_ | refine ite_ff ?_
  | refine BindK.var ?_ | refine BindK.tup (by wtm_at "mine rfl") ?_ | refine BindK.list (by wtm_at "mine ref") (by wtm_at "mine rfl") ?_
  | refine s_ret ?_ | refine s_nil ?_ | refine s_expr ?_ | refine s_for ?_ | refine s_retN ?_ | refine s_pass ?_ | refine s_item ?_ | refine k_ret ?_ | refine k_ret' ?_ | refine k_next' ?_ | refine k_exc ?_ | refine lk_next ?_ | refine lk_ret ?_ | refine lk_exc ?_ | refine u_c ?_ | refine u_f ?_
  | refine b_cons ?_ | refine b_one ?_ | refine e_of ?_ | refine e_not ?_ | refine e_none ?_ | refine e_bool ?_ | refine e_str ?_ | refine e_list ?_ | refine e_prim ?_ | refine e_app ?_ | refine a_list (by wtm_at "mine ref") ?_ | refine e_neg ?_ | refine r_neg ?_ | refine e_comp ?_ | refine e_slice ?_ | refine o_none ?_ | refine o_some ?_ | refine e_sort ?_
  | refine c_cons ?_ | refine cm_isN ?_ | refine cm_isI ?_ | refine cm_isT ?_ | refine cm_isB ?_ | refine cm_isnN ?_ | refine cm_isnI ?_ | refine cm_isnT ?_
  | refine r_pow6 ?_ | refine r_min ?_ | refine r_max ?_ | refine PrimK.lenL (by wtm_at "mine ref") ?_ | refine PrimK.lenT (Nat.le_of_ble_eq_true rfl) ?_ | refine r_subLK (by wtm_at "mine ref") (by wtm_at "mine rfl") (by wtm_at "mine rfl") ?_
  | refine r_isB ?_ | refine r_isBI ?_ | refine r_isI ?_ | refine r_isIB ?_ | refine r_isT ?_ | refine r_isL (by wtm_at "mine ref") ?_ | refine r_isS ?_ | refine PrimK.list (by wtm_at "mine ref") ?_ | refine PrimK.tuple (by wtm_at "mine ref") ?_ | refine PrimK.intB ?_
  | refine ite_p (by wtm_at "mine rfl") ?_ | refine ite_n (by with_unfolding_all exact Bool.false_ne_true) ?_)
local macro_rules | `(tactic| wtm_at "mine") => `(tactic| repeat wtm_at "mine s")

section
variable {d : Nat} {σ : Store} {Q : VPost} {X : XPost}
theorem rank06 {n i : Nat} {shs : List Sh} {sh : Sh} {x : Int × Int} {t : Bool} (e : σ[n]? = some (.list (shs.map Sh.v))) (hi : shs[i]? = some sh) (q : Q (.tup ((rowOf sh.b i x t).map .int)) σ) : callW P06 (d + 1) 0 [.ref n, .tup [.int i, .int x.1, .int x.2, .bool t]] σ Q X := by
  refine call_in (fn := f06_0) rfl rfl ?_
  dsimp only [f06_0]
  have hv : (shs.map Sh.v)[(i : Int).toNat]? = some sh.v := by rw [Int.toNat_natCast, List.getElem?_map, hi]; rfl
  obtain ⟨W, H, b⟩ := sh
  cases t with
  | true =>
    wtm_at "mine"
    refine r_subL e (Int.natCast_nonneg i) hv ?_
    dsimp only [Sh.v]
    wtm_at "mine"
    refine cm_low ?_
    cases b with
    | true => wtm_at "mine"; exact q
    | false => wtm_at "mine"; exact q
  | false =>
    wtm_at "mine"
    refine r_subL e (Int.natCast_nonneg i) hv ?_
    dsimp only [Sh.v]
    wtm_at "mine"
    refine cm_low ?_
    cases b with
    | true => wtm_at "mine"; exact q
    | false => wtm_at "mine"; exact q
theorem ahead06 {n i : Nat} {shs : List Sh} {sh : Sh} {x y : Int × Int} (e : σ[n]? = some (.list (shs.map Sh.v))) (hi : shs[i]? = some sh) (q : ltUL sh.b y x → Q (.bool true) σ) (q' : ¬ ltUL sh.b y x → Q (.bool false) σ) :
    callW P06 (d + 2) 1 [.ref n, .tup [.int i, .int y.1, .int y.2, .bool true], .tup [.int i, .int x.1, .int x.2, .bool false]] σ Q X := by
  refine call_in (fn := f06_1) rfl rfl ?_
  dsimp only [f06_1]
  wtm_at "mine"
  refine rank06 e hi ?_
  wtm_at "mine"
  refine rank06 e hi ?_
  refine CmpK.ltT ?_
  wtm_at "mine"
  by_cases h : ltUL sh.b y x
  · rw [lt_rowOf.mpr h]; exact q h
  · rw [Bool.eq_false_iff.mpr fun z => h (lt_rowOf.mp z)]; exact q' h
theorem placeOn06 {n i k : Nat} {shs : List Sh} {sh : Sh} {os : List Ot} {w h : Int} {turns : Bool} (e : σ[n]? = some (.list (shs.map Sh.v))) (hi : shs[i]? = some sh) (ek : σ[k]? = some (.list (os.map Ot.v))) (hz : os.length < 63)
    (q : ∀ r σ', σ <+: σ' → OnP w h turns sh os r → Q (pl3V i r) σ') : callW P06 (d + 4) 7 [.ref n, .int i, .ref k, .int w, .int h, .bool turns] σ Q X := by
  refine call_in (fn := f06_7) rfl rfl ?_
  dsimp only [f06_7]
  have hv : (shs.map Sh.v)[(i : Int).toNat]? = some sh.v := by rw [Int.toNat_natCast, List.getElem?_map, hi]; rfl
  wtm_at "mine"
  refine r_subL e (Int.natCast_nonneg i) hv ?_
  wtm_at "mine"
  refine spot06 sh.b ek hz fun r1 σ₁ p₁ f1 => ?_
  have e1 := pre_at p₁ e
  have ek1 := pre_at p₁ ek
  cases turns with
  | false =>
    cases r1 with
    | none =>
      dsimp only [pairV]
      wtm_at "mine"
      exact q none _ p₁ (onP_of f1 (fun e => (nomatch e)) (fun _ => rfl) .no)
    | some x =>
      dsimp only [pairV]
      wtm_at "mine"
      exact q (some (x.1, x.2, false)) _ p₁ (onP_of f1 (fun e => (nomatch e)) (fun _ => rfl) .up)
  | true =>
    cases r1 with
    | none =>
      dsimp only [pairV]
      wtm_at "mine"
      refine r_subL e1 (Int.natCast_nonneg i) hv ?_
      wtm_at "mine"
      refine spot06 sh.b ek1 hz fun r2 σ₂ p₂ f2 => ?_
      cases r2 with
      | none =>
        dsimp only [pairV]
        wtm_at "mine"
        exact q none _ (p₁.trans p₂) (onP_of f1 (fun _ => f2) (fun e => (nomatch e)) .no)
      | some y =>
        dsimp only [pairV]
        wtm_at "mine"
        exact q (some (y.1, y.2, true)) _ (p₁.trans p₂) (onP_of f1 (fun _ => f2) (fun e => (nomatch e)) .turned)
    | some x =>
      dsimp only [pairV]
      wtm_at "mine"
      refine r_subL e1 (Int.natCast_nonneg i) hv ?_
      wtm_at "mine"
      refine spot06 sh.b ek1 hz fun r2 σ₂ p₂ f2 => ?_
      cases r2 with
      | none =>
        dsimp only [pairV]
        wtm_at "mine"
        exact q (some (x.1, x.2, false)) _ (p₁.trans p₂) (onP_of f1 (fun _ => f2) (fun e => (nomatch e)) .up)
      | some y =>
        dsimp only [pairV]
        wtm_at "mine"
        refine ahead06 (x := x) (y := y) (pre_at p₂ e1) hi (fun hl => ?_) fun hl => ?_
        · wtm_at "mine"
          exact q (some (y.1, y.2, true)) _ (p₁.trans p₂) (onP_of f1 (fun _ => f2) (fun e => (nomatch e)) (.less hl))
        · wtm_at "mine"
          exact q (some (x.1, x.2, false)) _ (p₁.trans p₂) (onP_of f1 (fun _ => f2) (fun e => (nomatch e)) (.more hl))
end

end Mine

/-! L06c -/
namespace Mine
open PySem


local macro_rules | `(tactic| wtm_at "mine rfl") => `(tactic| with_unfolding_all rfl)
local macro_rules | `(tactic| wtm_at "mine ref") => `(tactic| first | assumption | with_unfolding_all rfl | exact get_last | (refine get_app ?_; wtm_at "mine ref"))
local macro_rules | `(tactic| wtm_at "mine s") => `(tactic| with_reducible first
  | refine s_cons ?_ | refine e_loc (by wtm_at "mine rfl") (by wtm_at "mine rfl") ?_ | refine e_int ?_ | refine l_cons ?_ | refine l_nil ?_ | refine e_bin ?_
  | refine k_next ?_ | refine BinK.add ?_ | refine BinK.addT (List.cons_ne_nil _ _) (List.cons_ne_nil _ _) (Nat.le_of_ble_eq_true rfl) ?_ | refine BinK.sub ?_ | (refine r_mulK ?_ ?_; · wtm_at "mine rfl") | (refine r_mul ?_ ?_; · omega) | (refine r_modK ?_ ?_; · wtm_at "mine rfl") | (refine r_mod ?_ ?_; · omega) | (refine r_divK ?_ ?_; · wtm_at "mine rfl") | (refine r_div ?_ ?_; · omega)
  | refine e_call ?_ | refine s_set ?_ | refine e_sub ?_ | refine r_subTK (by wtm_at "mine rfl") (by wtm_at "mine rfl") ?_ | refine e_tup ?_ | refine s_if ?_
  | refine t_cmp ?_ | refine c_one ?_ | refine cm_eq ?_ | refine CmpK.lt ?_ | refine CmpK.le ?_ | refine CmpK.gt ?_ | refine CmpK.ge ?_ | refine cm_ne ?_ | refine cm_eqB ?_ | refine cm_neB ?_
  | refine t_val ?_ | refine t_not ?_ | refine ts_cons ?_ | refine ts_nil ?_ | refine to_cons ?_ | refine to_nil ?_
  | refine TruK.bool ?_ | refine TruK.none ?_ | refine TruK.int ?_ | refine TruK.list (by wtm_at "mine ref") ?_
  | refine ite_t ?_ | refine ite_f ?_ | refine ite_nt ?_ | refine ite_nf ?_ | refine ite_tf ?_ | refine ite_ff ?_
  | refine BindK.var ?_ | refine BindK.tup (by wtm_at "mine rfl") ?_ | refine BindK.list (by wtm_at "mine ref") (by wtm_at "mine rfl") ?_
  | refine s_ret ?_ | refine s_nil ?_ | refine s_expr ?_ | refine s_for ?_ | refine s_retN ?_ | refine s_pass ?_ | refine s_item ?_ | refine k_ret ?_ | refine k_ret' ?_ | refine k_next' ?_ | refine k_exc ?_ | refine lk_next ?_ | refine lk_ret ?_ | refine lk_exc ?_ | refine u_c ?_ | refine u_f ?_
  | refine b_cons ?_ | refine b_one ?_ | refine e_of ?_ | refine e_not ?_ | refine e_none ?_ | refine e_bool ?_ | refine e_str ?_ | refine e_list ?_ | refine e_prim ?_ | refine e_app ?_ | refine a_list (by wtm_at "mine ref") ?_ | refine e_neg ?_ | refine r_neg ?_ | refine e_comp ?_ | refine e_slice ?_ | refine o_none ?_ | refine o_some ?_ | refine e_sort ?_
  | refine c_cons ?_ | refine cm_isN ?_ | refine cm_isI ?_ | refine cm_isT ?_ | refine cm_isB ?_ | refine cm_isnN ?_ | refine cm_isnI ?_ | refine cm_isnT ?_
  | refine r_pow6 ?_ | refine r_min ?_ | refine r_max ?_ | refine PrimK.lenL (by wtm_at "mine ref") ?_ | refine PrimK.lenT (Nat.le_of_ble_eq_true rfl) ?_ | refine r_subLK (by wtm_at "mine ref") (by wtm_at "mine rfl") (by wtm_at "mine rfl") ?_
  | refine r_isB ?_ | refine r_isBI ?_ | refine r_isI ?_ | refine r_isIB ?_ | refine r_isT ?_ | refine r_isL (by wtm_at "mine ref") ?_ | refine r_isS ?_ | refine PrimK.list (by wtm_at "mine ref") ?_ | refine PrimK.tuple (by wtm_at "mine ref") ?_ | refine PrimK.intB ?_
  | refine ite_p (by wtm_at "mine rfl") ?_ | refine ite_n (by with_unfolding_all exact Bool.false_ne_true) ?_)
local macro_rules | `(tactic| wtm_at "mine") => `(tactic| repeat wtm_at "mine s")

section
variable {d : Nat} {σ : Store} {Q : VPost} {X : XPost}
theorem firstPlace06 {n m : Nat} {shs : List Sh} {ks : List Nat} {oss : List (List Ot)} {w h : Int} {turns : Bool} (e : σ[n]? = some (.list (shs.map Sh.v))) (em : σ[m]? = some (.list (ks.map .ref))) (A : RowsAt σ ks oss) (hl : shs.length = oss.length) (hs : shs.length ≤ 1000) (hz : ∀ os ∈ oss, os.length < 63)
    (q : ∀ r σ', σ <+: σ' → FP (OnP w h turns) 0 (shs.zip oss) r → Q (pl4V r) σ') : callW P06 (d + 5) 8 [.ref n, .ref m, .int w, .int h, .bool turns] σ Q X := by
  refine call_in (fn := f06_8) rfl rfl ?_
  dsimp only [f06_8]
  wtm_at "mine"
  rw [List.length_map]
  refine f_range (fun i ρ' σ' => σ <+: σ' ∧ (∃ a c, ρ' = [.ref n, .ref m, .int w, .int h, .bool turns, a, c, .undef]) ∧ ∀ r, FP (OnP w h turns) i ((shs.zip oss).drop i) r → FP (OnP w h turns) 0 (shs.zip oss) r) (by omega) ⟨List.prefix_refl _, ⟨_, _, rfl⟩, fun r h => h⟩ (fun i ρ' σ' R hi hI hR => ?_) fun ρ' σ' hI => ?_
  · obtain ⟨p₁, ⟨a, c, rfl⟩, hF⟩ := hI
    have i1 : i < shs.length := by omega
    have i2 : i < oss.length := by omega
    have i3 : i < ks.length := A.1 ▸ i2
    have hk := List.getElem?_eq_getElem i3
    have ho := List.getElem?_eq_getElem i2
    have hd : (shs.zip oss).drop i = (shs[i], oss[i]) :: (shs.zip oss).drop (i + 1) := drop_at (List.getElem?_zip_eq_some.mpr ⟨List.getElem?_eq_getElem i1, ho⟩)
    rw [hd] at hF
    wtm_at "mine"
    refine r_subL (v := .ref ks[i]) (pre_at p₁ em) (Int.natCast_nonneg i) (by rw [Int.toNat_natCast, List.getElem?_map, hk]; rfl) ?_
    wtm_at "mine"
    refine placeOn06 (pre_at p₁ e) (List.getElem?_eq_getElem i1) (pre_at p₁ (A.2 i _ _ hk ho)) (hz _ (List.mem_of_getElem? ho)) fun r σ₂ p₂ on => ?_
    cases r with
    | none =>
      dsimp only [pl3V]
      wtm_at "mine"
      exact hR _ _ ⟨p₁.trans p₂, ⟨_, _, rfl⟩, fun r h => hF r (.miss on h)⟩
    | some x =>
      dsimp only [pl3V]
      wtm_at "mine"
      exact q (some (_, _, _, _)) _ (p₁.trans p₂) (hF _ (.hit on))
  · obtain ⟨p₁, ⟨a, c, rfl⟩, hF⟩ := hI
    rw [Int.toNat_natCast, List.drop_of_length_le (by rw [List.length_zip]; exact Nat.min_le_left _ _)] at hF
    wtm_at "mine"
    exact q none _ p₁ (hF _ .nil)
/-- sizes for which spots may be listed -/
noncomputable def Sh.Ok (s : Sh) : Prop := (0 < s.W ∧ s.W ≤ 1000) ∧ (0 < s.H ∧ s.H ≤ 1000)
theorem due06 {n m : Nat} {shs : List Sh} {ks : List Nat} {oss : List (List Ot)} {w h : Int} {turns : Bool} (e : σ[n]? = some (.list (shs.map Sh.v))) (em : σ[m]? = some (.list (ks.map .ref))) (A : RowsAt σ ks oss) (hl : shs.length = oss.length) (hs : shs.length ≤ 1000) (ok : ∀ s ∈ shs, s.Ok) (hw : 0 < w) (hh : 0 < h)
    (q : ∀ r σ', σ <+: σ' → FP (OnL w h turns) 0 (shs.zip oss) r → Q (pl4V r) σ') : callW P06 (d + 3) 16 [.ref n, .ref m, .int w, .int h, .bool turns] σ Q X := by
  refine call_in (fn := f06_16) rfl rfl ?_
  dsimp only [f06_16]
  wtm_at "mine"
  rw [List.length_map]
  refine f_range (fun i ρ' σ' => σ <+: σ' ∧ (∃ a1 a2 a3 a4 a5 a6, ρ' = [.ref n, .ref m, .int w, .int h, .bool turns, a1, a2, a3, a4, a5, a6, .undef]) ∧ ∀ r, FP (OnL w h turns) i ((shs.zip oss).drop i) r → FP (OnL w h turns) 0 (shs.zip oss) r) (by omega) ⟨List.prefix_refl _, ⟨_, _, _, _, _, _, rfl⟩, fun r h => h⟩ (fun i ρ' σ' R hi hI hR => ?_) fun ρ' σ' hI => ?_
  · obtain ⟨p₁, ⟨a1, a2, a3, a4, a5, a6, rfl⟩, hF⟩ := hI
    have i1 : i < shs.length := by omega
    have i2 : i < oss.length := by omega
    have i3 : i < ks.length := A.1 ▸ i2
    have hk := List.getElem?_eq_getElem i3
    have ho := List.getElem?_eq_getElem i2
    have hsh := List.getElem?_eq_getElem i1
    have hd : (shs.zip oss).drop i = (shs[i], oss[i]) :: (shs.zip oss).drop (i + 1) := drop_at (List.getElem?_zip_eq_some.mpr ⟨hsh, ho⟩)
    rw [hd] at hF
    have hv : (shs.map Sh.v)[(i : Int).toNat]? = some shs[i].v := by rw [Int.toNat_natCast, List.getElem?_map, hsh]; rfl
    have ok := ok _ (List.mem_of_getElem? hsh)
    have er := pre_at p₁ (A.2 i _ _ hk ho)
    generalize shs[i] = sh at *
    generalize oss[i] = os at *
    generalize ks[i] = k at *
    obtain ⟨W, H, b⟩ := sh
    obtain ⟨hW, hH⟩ := ok
    dsimp only at hW hH
    wtm_at "mine"
    refine r_subL (pre_at p₁ e) (Int.natCast_nonneg i) hv ?_
    dsimp only [Sh.v]
    wtm_at "mine"
    refine r_subL (v := .ref k) (pre_at p₁ em) (Int.natCast_nonneg i) (by rw [Int.toNat_natCast, List.getElem?_map, hk]; rfl) ?_
    wtm_at "mine"
    refine spots06 (b := b) hW hH ⟨Int.le_trans (by decide) (Int.mul_nonneg (Int.le_of_lt hW.1) (Int.le_of_lt hH.1)), Int.le_trans (Int.mul_le_mul hW.2 hH.2 (Int.le_of_lt hH.1) (by decide)) (by decide)⟩ ?_
    have er := get_app (τ := [.list ((spotsUL W H b).map rowV)]) er
    wtm_at "mine"
    cases b with
    | true =>
      refine f_list (vs := (spots W H).map rowV) (fun j ρ' σ'' => σ'' = σ' ++ [.list ((spots W H).map rowV)] ∧ (∃ a4 a5 a6, ρ' = [.ref n, .ref m, .int w, .int h, .bool turns, .int i, .tup [.int W, .int H, hab true], .ref k, a4, a5, a6, .undef]) ∧ NoneYet (os.map Ot.low) H W h w turns j) get_last ⟨rfl, ⟨_, _, _, rfl⟩, fun x hx => by rw [List.take_zero] at hx; cases hx⟩ (fun j v ρ' σ'' R' hv hI hR' => ?_) fun ρ' σ'' hI => ?_
      · obtain ⟨rfl, ⟨a4, a5, a6, rfl⟩, hN⟩ := hI
        obtain ⟨y, hy, rfl⟩ := List.mem_map_get hv
        dsimp only [rowV]
        wtm_at "mine"
        refine good06 (o := ⟨y.2, y.1, w, h⟩) er (fun g => ?_) fun g => ?_
        · wtm_at "mine"
          exact q (some (_, _, _, _)) _ (p₁.trans pre_app) (hF _ (.hit (sh := ⟨W, H, true⟩) (p := (y.1, y.2, false)) (hit_up hW.1 hh hw hN hy g)))
        · cases turns with
          | false =>
            wtm_at "mine"
            exact hR' _ _ get_last ⟨rfl, ⟨_, _, _, rfl⟩, none_next hN hy g fun e => (nomatch e)⟩
          | true =>
            wtm_at "mine"
            refine good06 (o := ⟨y.2, y.1, h, w⟩) er (fun g' => ?_) fun g' => ?_
            · wtm_at "mine"
              exact q (some (_, _, _, _)) _ (p₁.trans pre_app) (hF _ (.hit (sh := ⟨W, H, true⟩) (p := (y.1, y.2, true)) (hit_turned hW.1 hh hw hN hy g g')))
            · wtm_at "mine"
              exact hR' _ _ get_last ⟨rfl, ⟨_, _, _, rfl⟩, none_next hN hy g fun _ => g'⟩
      · obtain ⟨rfl, ⟨a4, a5, a6, rfl⟩, hN⟩ := hI
        rw [List.length_map] at hN
        wtm_at "mine"
        exact hR _ _ ⟨p₁.trans pre_app, ⟨_, _, _, _, _, _, rfl⟩, fun r h => hF r (.miss (sh := ⟨W, H, true⟩) (hit_none hh hw hN) h)⟩
    | false =>
      refine f_list (vs := ((spots H W).map fun x => (x.2, x.1)).map rowV) (fun j ρ' σ'' => σ'' = σ' ++ [.list (((spots H W).map fun x => (x.2, x.1)).map rowV)] ∧ (∃ a4 a5 a6, ρ' = [.ref n, .ref m, .int w, .int h, .bool turns, .int i, .tup [.int W, .int H, hab false], .ref k, a4, a5, a6, .undef]) ∧ NoneYet (os.map Ot.lef) W H w h turns j) get_last ⟨rfl, ⟨_, _, _, rfl⟩, fun x hx => by rw [List.take_zero] at hx; cases hx⟩ (fun j v ρ' σ'' R' hv hI hR' => ?_) fun ρ' σ'' hI => ?_
      · obtain ⟨rfl, ⟨a4, a5, a6, rfl⟩, hN⟩ := hI
        obtain ⟨y', hy', rfl⟩ := List.mem_map_get hv
        obtain ⟨y, hy, rfl⟩ := List.mem_map_get hy'
        dsimp only [rowV]
        wtm_at "mine"
        refine good06 (o := ⟨y.1, y.2, w, h⟩) er (fun g => ?_) fun g => ?_
        · wtm_at "mine"
          exact q (some (_, _, _, _)) _ (p₁.trans pre_app) (hF _ (.hit (sh := ⟨W, H, false⟩) (p := (y.2, y.1, false)) (hit_up hH.1 hw hh hN hy (gd_swap g))))
        · cases turns with
          | false =>
            wtm_at "mine"
            exact hR' _ _ get_last ⟨rfl, ⟨_, _, _, rfl⟩, none_next hN hy (fun g' => g (gd_swap' g')) fun e => (nomatch e)⟩
          | true =>
            wtm_at "mine"
            refine good06 (o := ⟨y.1, y.2, h, w⟩) er (fun g' => ?_) fun g' => ?_
            · wtm_at "mine"
              exact q (some (_, _, _, _)) _ (p₁.trans pre_app) (hF _ (.hit (sh := ⟨W, H, false⟩) (p := (y.2, y.1, true)) (hit_turned hH.1 hw hh hN hy (fun z => g (gd_swap' z)) (gd_swap g'))))
            · wtm_at "mine"
              exact hR' _ _ get_last ⟨rfl, ⟨_, _, _, rfl⟩, none_next hN hy (fun z => g (gd_swap' z)) fun _ z => g' (gd_swap' z)⟩
      · obtain ⟨rfl, ⟨a4, a5, a6, rfl⟩, hN⟩ := hI
        rw [List.length_map, List.length_map] at hN
        wtm_at "mine"
        exact hR _ _ ⟨p₁.trans pre_app, ⟨_, _, _, _, _, _, rfl⟩, fun r h => hF r (.miss (sh := ⟨W, H, false⟩) (hit_none hw hh hN) h)⟩
  · obtain ⟨p₁, ⟨a1, a2, a3, a4, a5, a6, rfl⟩, hF⟩ := hI
    rw [Int.toNat_natCast, List.drop_of_length_le (by rw [List.length_zip]; exact Nat.min_le_left _ _)] at hF
    wtm_at "mine"
    exact q none _ p₁ (hF _ .nil)
theorem alike06 {m : Int} {r : Option Pl4} (hm : 0 < m ∧ m ≤ 1000000) (q : Q (.bool true) σ) : callW P06 (d + 2) 17 [pl4V (by4 m r), pl4V r, .int m] σ Q X := by
  refine call_in (fn := f06_17) rfl rfl ?_
  dsimp only [f06_17]
  cases r with
  | none =>
    dsimp only [by4, pl4V]
    wtm_at "mine"
    exact q
  | some x =>
    obtain ⟨n, u, l, t⟩ := x
    dsimp only [by4, pl4V]
    wtm_at "mine"
    refine f_range (fun i ρ' σ' => σ' = σ ∧ ∃ a, ρ' = [.tup [.int n, .int (u * m), .int (l * m), .bool t], .tup [.int n, .int u, .int l, .bool t], .int m, a, .undef]) (by decide) ⟨rfl, _, rfl⟩ (fun i ρ' σ' R hi hI hR => ?_) fun ρ' σ' hI => ?_
    · obtain ⟨rfl, a, rfl⟩ := hI
      rcases (by omega : i = 0 ∨ i = 1 ∨ i = 2) with rfl | rfl | rfl
      · wtm_at "mine"
        refine whole06 ?_
        wtm_at "mine"
        exact hR _ _ ⟨rfl, _, rfl⟩
      · wtm_at "mine"
        refine whole06 ?_
        wtm_at "mine"
        exact hR _ _ ⟨rfl, _, rfl⟩
      · wtm_at "mine"
        refine whole06 ?_
        wtm_at "mine"
        exact hR _ _ ⟨rfl, _, rfl⟩
    · obtain ⟨rfl, a, rfl⟩ := hI
      wtm_at "mine"
      refine cm_eqD (x := .tuple [.int n, .int (u * m), .int (l * m), .bool t]) rfl rfl rfl ?_
      wtm_at "mine"
      exact q
end

end Mine

/-! L06d -/
namespace Mine
open PySem


local macro_rules | `(tactic| wtm_at "mine rfl") => `(tactic| with_unfolding_all rfl)
local macro_rules | `(tactic| wtm_at "mine ref") => `(tactic| first | assumption | with_unfolding_all rfl | exact get_last | (refine get_app ?_; wtm_at "mine ref"))
local macro_rules | `(tactic| wtm_at "mine s") => `(tactic| with_reducible first
  | refine s_cons ?_ | refine e_loc (by wtm_at "mine rfl") (by wtm_at "mine rfl") ?_ | refine e_int ?_ | refine l_cons ?_ | refine l_nil ?_ | refine e_bin ?_
  | refine k_next ?_ | refine BinK.add ?_ | refine BinK.addT (List.cons_ne_nil _ _) (List.cons_ne_nil _ _) (Nat.le_of_ble_eq_true rfl) ?_ | refine BinK.sub ?_ | (refine r_mulK ?_ ?_; · wtm_at "mine rfl") | (refine r_mul ?_ ?_; · omega) | (refine r_modK ?_ ?_; · wtm_at "mine rfl") | (refine r_mod ?_ ?_; · omega) | (refine r_divK ?_ ?_; · wtm_at "mine rfl") | (refine r_div ?_ ?_; · omega)
  | refine e_call ?_ | refine s_set ?_ | refine e_sub ?_ | refine r_subTK (by wtm_at "mine rfl") (by wtm_at "mine rfl") ?_ | refine e_tup ?_ | refine s_if ?_
  | refine t_cmp ?_ | refine c_one ?_ | refine cm_eq ?_ | refine CmpK.lt ?_ | refine CmpK.le ?_ | refine CmpK.gt ?_ | refine CmpK.ge ?_ | refine cm_ne ?_ | refine cm_eqB ?_ | refine cm_neB ?_
  | refine t_val ?_ | refine t_not ?_ | refine ts_cons ?_ | refine ts_nil ?_ | refine to_cons ?_ | refine to_nil ?_
  | refine TruK.bool ?_ | refine TruK.none ?_ | refine TruK.int ?_ | refine TruK.list (by wtm_at "mine ref") ?_
  | refine ite_t ?_ | refine ite_f ?_ | refine ite_nt ?_ | refine ite_nf ?_ | refine ite_tf ?_ | refine ite_ff ?_
  | refine BindK.var ?_ | refine BindK.tup (by wtm_at "mine rfl") ?_ | refine BindK.list (by wtm_at "mine ref") (by wtm_at "mine rfl") ?_
  | refine s_ret ?_ | refine s_nil ?_ | refine s_expr ?_ | refine s_for ?_ | refine s_retN ?_ | refine s_pass ?_ | refine s_item ?_ | refine k_ret ?_ | refine k_ret' ?_ | refine k_next' ?_ | refine k_exc ?_ | refine lk_next ?_ | refine lk_ret ?_ | refine lk_exc ?_ | refine u_c ?_ | refine u_f ?_
  | refine b_cons ?_ | refine b_one ?_ | refine e_of ?_ | refine e_not ?_ | refine e_none ?_ | refine e_bool ?_ | refine e_str ?_ | refine e_list ?_ | refine e_prim ?_ | refine e_app ?_ | refine a_list (by wtm_at "mine ref") ?_ | refine e_neg ?_ | refine r_neg ?_ | refine e_comp ?_ | refine e_slice ?_ | refine o_none ?_ | refine o_some ?_ | refine e_sort ?_
  | refine c_cons ?_ | refine cm_isN ?_ | refine cm_isI ?_ | refine cm_isT ?_ | refine cm_isB ?_ | refine cm_isnN ?_ | refine cm_isnI ?_ | refine cm_isnT ?_
  | refine r_pow6 ?_ | refine r_min ?_ | refine r_max ?_ | refine PrimK.lenL (by wtm_at "mine ref") ?_ | refine PrimK.lenT (Nat.le_of_ble_eq_true rfl) ?_ | refine r_subLK (by wtm_at "mine ref") (by wtm_at "mine rfl") (by wtm_at "mine rfl") ?_
  | refine r_isB ?_ | refine r_isBI ?_ | refine r_isI ?_ | refine r_isIB ?_ | refine r_isT ?_ | refine r_isL (by wtm_at "mine ref") ?_ | refine r_isS ?_ | refine PrimK.list (by wtm_at "mine ref") ?_ | refine PrimK.tuple (by wtm_at "mine ref") ?_ | refine PrimK.intB ?_
  | refine ite_p (by wtm_at "mine rfl") ?_ | refine ite_n (by with_unfolding_all exact Bool.false_ne_true) ?_)
local macro_rules | `(tactic| wtm_at "mine") => `(tactic| repeat wtm_at "mine s")

section
variable {d : Nat} {σ : Store} {Q : VPost} {X : XPost}
theorem ok_11 {b : Bool} : Sh.Ok ⟨1, 1, b⟩ := ⟨⟨show (0 : Int) < 1 by decide, show (1 : Int) ≤ 1000 by decide⟩, show (0 : Int) < 1 by decide, show (1 : Int) ≤ 1000 by decide⟩
theorem shelves06 {xs : List Int} (e : σ[0]? = some (.list (xs.map .int))) (q : ∀ (shs : List Sh) (k : Nat) (σ' : Store), σ'[0]? = some (.list (xs.map .int)) → σ'[k]? = some (.list (shs.map Sh.v)) → shs.length ≤ 9 → (∀ s ∈ shs, s.Ok) → Q (.ref k) σ') : callW P06 (d + 2) 14 [.ref 0] σ Q X := by
  refine call_in (fn := f06_14) rfl rfl ?_
  dsimp only [f06_14]
  wtm_at "mine"
  refine cell06 e (by decide) ?_
  wtm_at "mine"
  refine c_rinv (fun i acc σ' => σ <+: σ' ∧ ∃ shs : List Sh, acc = shs.map Sh.v ∧ shs.length = i ∧ ∀ s ∈ shs, s.Ok) (by omega) ⟨List.prefix_refl _, [], rfl, rfl, fun _ h => (nomatch h)⟩ (fun i acc σ' K hi hI hK => ?_) fun acc σ₁ hI => ?_
  · obtain ⟨p, shs, rfl, hl, ok⟩ := hI
    wtm_at "mine"
    refine r_pick get_last (by omega) fun b => ?_
    wtm_at "mine"
    exact hK _ _ ⟨p.trans pre_app, shs ++ [⟨1, 1, b⟩], by rw [List.map_append]; rfl, by rw [List.length_append, hl]; rfl, fun s hs => (List.mem_append.mp hs).elim (ok s) fun z => List.mem_singleton.mp z ▸ ok_11⟩
  obtain ⟨p₁, shs₀, rfl, hl₀, ok₀⟩ := hI
  have e1 := pre_at p₁ e
  have hk0 : σ₁.length ≠ 0 := Nat.ne_of_gt (List.getElem?_eq_some_iff.mp e1).1
  wtm_at "mine"
  refine cell06 (get_app e1) (by decide) ?_
  wtm_at "mine"
  refine f_range (fun i ρ' σ' => σ'[0]? = some (.list (xs.map .int)) ∧ ∃ (shs : List Sh) (a c : V), ρ' = [.ref 0, a, .ref σ₁.length, c, .undef] ∧ shs.length ≤ 6 + i ∧ (∀ s ∈ shs, s.Ok) ∧ σ'[σ₁.length]? = some (.list (shs.map Sh.v))) (by omega) ⟨get_app e1, shs₀, _, _, rfl, by omega, ok₀, get_last⟩ (fun i ρ' σ' R hi hI hR => ?_) fun ρ' σ' hI => ?_
  · obtain ⟨e0, shs, a, c, rfl, hl, ok, ek⟩ := hI
    wtm_at "mine"
    refine cell06 e0 (by omega) ?_
    wtm_at "mine"
    generalize (cellAt xs (3 + (i : Int)) * 48271 + 11) % 2147483647 = dr
    refine r_pick get_last (by omega) fun b => ?_
    wtm_at "mine"
    refine r_append (get_app ek) hk0 (by rw [List.length_map]; omega) ?_
    wtm_at "mine"
    exact hR _ _ ⟨get_set_ne hk0 (get_app e0), shs ++ [⟨1 + dr % 6, 1 + dr / 6 % 6, b⟩], _, _, rfl, by rw [List.length_append]; exact Nat.succ_le_succ hl, fun s hs => (List.mem_append.mp hs).elim (ok s) fun z => List.mem_singleton.mp z ▸ ⟨⟨by dsimp only; omega, by dsimp only; omega⟩, by dsimp only; omega, by dsimp only; omega⟩, by rw [List.map_append]; exact get_set_eq (get_app ek)⟩
  · obtain ⟨e0, shs, a, c, rfl, hl, ok, ek⟩ := hI
    wtm_at "mine"
    exact q shs _ _ e0 ek (by omega) ok
theorem rows06 {xs : List Int} {n : Nat} {shs : List Sh} {bare : Int} (e : σ[0]? = some (.list (xs.map .int))) (es : σ[n]? = some (.list (shs.map Sh.v))) (hs : shs.length ≤ 9)
    (q : ∀ (kr : Nat) (ks : List Nat) (oss : List (List Ot)) (σ' : Store), Kp σ σ' → σ'[kr]? = some (.list (ks.map .ref)) → RowsAt σ' ks oss → shs.length = oss.length → (∀ os ∈ oss, os.length ≤ 16) → Q (.ref kr) σ') : callW P06 (d + 2) 15 [.ref 0, .ref n, .int bare] σ Q X := by
  refine call_in (fn := f06_15) rfl rfl ?_
  dsimp only [f06_15]
  wtm_at "mine"
  rw [List.length_map]
  have hlt : ∀ {x : Nat} {o : O}, σ[x]? = some o → x < σ.length := fun h => (List.getElem?_eq_some_iff.mp h).1
  have hk0 : σ.length ≠ 0 := Nat.ne_of_gt (hlt e)
  refine f_range (fun i ρ' σ' => Kp σ σ' ∧ ∃ (ks : List Nat) (oss : List (List Ot)) (a1 a2 a3 a4 a5 : V), ρ' = [.ref 0, .ref n, .int bare, .ref σ.length, a1, a2, a3, a4, a5, .undef] ∧ ks.length = i ∧ RowsAt σ' ks oss ∧ (∀ k ∈ ks, k ≠ σ.length) ∧ (∀ os ∈ oss, os.length ≤ 16) ∧ σ'[σ.length]? = some (.list (ks.map .ref))) (by omega)
    ⟨fun x o h => get_app h, [], [], _, _, _, _, _, rfl, rfl, rows_nil, fun _ h => (nomatch h), fun _ h => (nomatch h), get_last⟩ (fun i ρ' σ' R hi hI hR => ?_) fun ρ' σ' hI => ?_
  · obtain ⟨kp, ks, oss, a1, a2, a3, a4, a5, rfl, hl, A, hne, hz, er⟩ := hI
    have hr := (List.getElem?_eq_some_iff.mp er).1
    refine u_f (BindK.var ?_)
    refine s_cut 2 (fun ρ'' σ'' => Kp σ' σ'' ∧ ∃ (os : List Ot) (a3 a4 a5 : V), ρ'' = [.ref 0, .ref n, .int bare, .ref σ.length, .int i, .ref σ'.length, a3, a4, a5, .undef] ∧ os.length ≤ 16 ∧ σ''[σ'.length]? = some (.list (os.map Ot.v))) (fun R' hR' => ?_) fun ρ'' σ'' hI => ?_
    · dsimp only [List.take]
      wtm_at "mine"
      refine ite_d (fun hb => ?_) fun hb => ?_
      · refine s_cut 3 (fun ρ₂ σ₂ => σ₂ = σ' ++ [.list []] ∧ ∃ mm dr, ρ₂ = [.ref 0, .ref n, .int bare, .ref σ.length, .int i, .ref σ'.length, .int dr, .int mm, a5, .undef] ∧ 0 ≤ mm ∧ mm ≤ 16) (fun R₂ hR₂ => ?_) fun ρ₂ σ₂ hI => ?_
        · dsimp only [List.take]
          wtm_at "mine"
          refine cell06 (get_app (kp _ _ e)) (by omega) ?_
          wtm_at "mine"
          refine cell06 (get_app (kp _ _ e)) (by omega) ?_
          wtm_at "mine"
          refine cell06 (get_app (kp _ _ e)) (by omega) ?_
          wtm_at "mine"
          refine ite_d (fun hb => ?_) fun hb => ?_
          · wtm_at "mine"
            refine cell06 (get_app (kp _ _ e)) (by omega) ?_
            wtm_at "mine"
            exact hR₂ _ _ ⟨rfl, _, _, rfl, by omega, by omega⟩
          · wtm_at "mine"
            exact hR₂ _ _ ⟨rfl, _, _, rfl, by omega, by omega⟩
        · obtain ⟨rfl, mm, dr, rfl, h0, h16⟩ := hI
          dsimp only [List.drop]
          wtm_at "mine"
          refine f_range (fun j ρ'' σ'' => Kp σ' σ'' ∧ ∃ (os : List Ot) (dr : Int) (a5 : V), ρ'' = [.ref 0, .ref n, .int bare, .ref σ.length, .int i, .ref σ'.length, .int dr, .int mm, a5, .undef] ∧ os.length = j ∧ σ''[σ'.length]? = some (.list (os.map Ot.v))) (by omega) ⟨fun x o h => get_app h, [], _, _, rfl, rfl, get_last⟩ (fun j ρ'' σ'' R₃ hj hI hR₃ => ?_) fun ρ'' σ'' hI => ?_
          · obtain ⟨kp', os, dr, a5, rfl, hlo, eo⟩ := hI
            wtm_at "mine"
            refine cell06 (kp' _ _ (kp _ _ e)) (by omega) ?_
            wtm_at "mine"
            generalize (dr * 48271 + cellAt xs (25 + (j : Int))) % 2147483647 = dr'
            refine r_append eo (by omega) (by rw [List.length_map]; omega) ?_
            wtm_at "mine"
            exact hR₃ _ _ ⟨fun x o h => get_set_ne (by have := (List.getElem?_eq_some_iff.mp h).1; omega) (kp' x o h), os ++ [⟨dr' % 8 - 2, dr' / 8 % 8 - 2, 1 + dr' / 64 % 4, 1 + dr' / 256 % 4⟩], _, _, rfl, by rw [List.length_append, hlo]; rfl, by rw [List.map_append]; exact get_set_eq eo⟩
          · obtain ⟨kp', os, dr, a5, rfl, hlo, eo⟩ := hI
            wtm_at "mine"
            exact hR' _ _ ⟨kp', os, _, _, _, rfl, by omega, eo⟩
      · wtm_at "mine"
        exact hR' _ _ ⟨fun x o h => get_app h, [], _, _, _, rfl, by decide, get_last⟩
    · obtain ⟨kp', os, a3, a4, a5, rfl, hlo, eo⟩ := hI
      dsimp only [List.drop]
      have er' := kp' _ _ er
      wtm_at "mine"
      refine r_append er' hk0 (by rw [List.length_map]; omega) ?_
      wtm_at "mine"
      have hne' : σ.length ≠ σ'.length := by omega
      refine hR _ _ ⟨fun x o h => get_set_ne (by have := hlt h; omega) (kp' x o (kp x o h)), ks ++ [σ'.length], oss ++ [os], _, _, _, _, _, rfl, by rw [List.length_append, hl]; rfl, ?_, fun k hk => (List.mem_append.mp hk).elim (hne k) fun z => List.mem_singleton.mp z ▸ hne'.symm, fun x hx => (List.mem_append.mp hx).elim (hz x) fun z => List.mem_singleton.mp z ▸ hlo, by rw [List.map_append]; exact get_set_eq er'⟩
      exact RowsAt.add (A.mono fun k os hk h => get_set_ne (hne k hk).symm (kp' _ _ h)) (get_set_ne hne' eo)
  · obtain ⟨kp, ks, oss, a1, a2, a3, a4, a5, rfl, hl, A, hne, hz, er⟩ := hI
    wtm_at "mine"
    exact q _ ks oss _ kp er A (by rw [← A.1, hl, Int.toNat_natCast]) hz
end

end Mine

/-! L06e -/
namespace Mine
open PySem


local macro_rules | `(tactic| wtm_at "mine rfl") => `(tactic| with_unfolding_all rfl)
local macro_rules | `(tactic| wtm_at "mine ref") => `(tactic| first | assumption | with_unfolding_all rfl | exact get_last | (refine get_app ?_; wtm_at "mine ref"))
local macro_rules | `(tactic| wtm_at "mine s") => `(tactic| with_reducible first
  | refine s_cons ?_ | refine e_loc (by wtm_at "mine rfl") (by wtm_at "mine rfl") ?_ | refine e_int ?_ | refine l_cons ?_ | refine l_nil ?_ | refine e_bin ?_
  | refine k_next ?_ | refine BinK.add ?_ | refine BinK.addT (List.cons_ne_nil _ _) (List.cons_ne_nil _ _) (Nat.le_of_ble_eq_true rfl) ?_ | refine BinK.sub ?_ | (refine r_mulK ?_ ?_; · wtm_at "mine rfl") | (refine r_mul ?_ ?_; · omega) | (refine r_modK ?_ ?_; · wtm_at "mine rfl") | (refine r_mod ?_ ?_; · omega) | (refine r_divK ?_ ?_; · wtm_at "mine rfl") | (refine r_div ?_ ?_; · omega)
  | refine e_call ?_ | refine s_set ?_ | refine e_sub ?_ | refine r_subTK (by wtm_at "mine rfl") (by wtm_at "mine rfl") ?_ | refine e_tup ?_ | refine s_if ?_
  | refine t_cmp ?_ | refine c_one ?_ | refine cm_eq ?_ | refine CmpK.lt ?_ | refine CmpK.le ?_ | refine CmpK.gt ?_ | refine CmpK.ge ?_ | refine cm_ne ?_ | refine cm_eqB ?_ | refine cm_neB ?_
  | refine t_val ?_ | refine t_not ?_ | refine ts_cons ?_ | refine ts_nil ?_ | refine to_cons ?_ | refine to_nil ?_
  | refine TruK.bool ?_ | refine TruK.none ?_ | refine TruK.int ?_ | refine TruK.list (by wtm_at "mine ref") ?_
  | refine ite_t ?_ | refine ite_f ?_ | refine ite_nt ?_ | refine ite_nf ?_ | refine ite_tf ?_ | refine ite_ff ?_
  | refine BindK.var ?_ | refine BindK.tup (by wtm_at "mine rfl") ?_ | refine BindK.list (by wtm_at "mine ref") (by wtm_at "mine rfl") ?_
  | refine s_ret ?_ | refine s_nil ?_ | refine s_expr ?_ | refine s_for ?_ | refine s_retN ?_ | refine s_pass ?_ | refine s_item ?_ | refine k_ret ?_ | refine k_ret' ?_ | refine k_next' ?_ | refine k_exc ?_ | refine lk_next ?_ | refine lk_ret ?_ | refine lk_exc ?_ | refine u_c ?_ | refine u_f ?_
  | refine b_cons ?_ | refine b_one ?_ | refine e_of ?_ | refine e_not ?_ | refine e_none ?_ | refine e_bool ?_ | refine e_str ?_ | refine e_list ?_ | refine e_prim ?_ | refine e_app ?_ | refine a_list (by wtm_at "mine ref") ?_ | refine e_neg ?_ | refine r_neg ?_ | refine e_comp ?_ | refine e_slice ?_ | refine o_none ?_ | refine o_some ?_ | refine e_sort ?_
  | refine c_cons ?_ | refine cm_isN ?_ | refine cm_isI ?_ | refine cm_isT ?_ | refine cm_isB ?_ | refine cm_isnN ?_ | refine cm_isnI ?_ | refine cm_isnT ?_
  | refine r_pow6 ?_ | refine r_min ?_ | refine r_max ?_ | refine PrimK.lenL (by wtm_at "mine ref") ?_ | refine PrimK.lenT (Nat.le_of_ble_eq_true rfl) ?_ | refine r_subLK (by wtm_at "mine ref") (by wtm_at "mine rfl") (by wtm_at "mine rfl") ?_
  | refine r_isB ?_ | refine r_isBI ?_ | refine r_isI ?_ | refine r_isIB ?_ | refine r_isT ?_ | refine r_isL (by wtm_at "mine ref") ?_ | refine r_isS ?_ | refine PrimK.list (by wtm_at "mine ref") ?_ | refine PrimK.tuple (by wtm_at "mine ref") ?_ | refine PrimK.intB ?_
  | refine ite_p (by wtm_at "mine rfl") ?_ | refine ite_n (by with_unfolding_all exact Bool.false_ne_true) ?_)
local macro_rules | `(tactic| wtm_at "mine") => `(tactic| repeat wtm_at "mine s")

theorem can_sh {s : Sh} : s.dat.canLay0 = true := by
  unfold Sh.dat
  rw [PyData.canLay0, PyData.canLayAll0, PyData.canLayAll0, PyData.canLayAll0, can_hab]
  rfl
set_option maxRecDepth 10000 in
set_option maxHeartbeats 4000000 in
theorem law06 (xs : List Int) : callW P06 60 18 [.ref 0] [.list (xs.map .int)] (fun v _ => v = .bool true) (fun _ _ => False) := by
  have e : ([.list (xs.map .int)] : Store)[0]? = some (.list (xs.map .int)) := rfl
  generalize ([.list (xs.map .int)] : Store) = σ at *
  refine call_in (fn := f06_18) rfl rfl ?_
  dsimp only [f06_18]
  wtm_at "mine"
  refine cell06 e (by decide) ?_
  have hm : 0 < 1 + cellAt xs 0 % 160000 ∧ 1 + cellAt xs 0 % 160000 ≤ 1000000 := by omega
  wtm_at "mine"
  generalize 1 + cellAt xs 0 % 160000 = m at *
  refine shelves06 e fun shs k σ₁ e1 ek hs ok => ?_
  wtm_at "mine"
  refine cell06 e1 (by decide) ?_
  wtm_at "mine"
  refine rows06 e1 ek hs fun kr ks oss σ₂ kp er A hlen hz => ?_
  wtm_at "mine"
  refine cell06 (kp _ _ e1) (by decide) ?_
  have hw : 0 < 1 + (cellAt xs 6 * 48271 + 11) % 2147483647 % 5 ∧ 1 + (cellAt xs 6 * 48271 + 11) % 2147483647 % 5 ≤ 5 := by omega
  have hh : 0 < 1 + (cellAt xs 6 * 48271 + 11) % 2147483647 / 5 % 5 ∧ 1 + (cellAt xs 6 * 48271 + 11) % 2147483647 / 5 % 5 ≤ 5 := by omega
  wtm_at "mine"
  generalize 1 + (cellAt xs 6 * 48271 + 11) % 2147483647 % 5 = w at *
  generalize 1 + (cellAt xs 6 * 48271 + 11) % 2147483647 / 5 % 5 = h at *
  generalize decide ((cellAt xs 6 * 48271 + 11) % 2147483647 / 25 % 3 > 0) = turns at *
  generalize (cellAt xs 6 * 48271 + 11) % 2147483647 = cl at *
  refine due06 (kp _ _ ek) er A hlen (by omega) ok hw.1 hh.1 fun r σ₃ p₃ hD => ?_
  have ek := pre_at p₃ (kp _ _ ek)
  have er := pre_at p₃ er
  have A := A.mono fun k os _ h => pre_at p₃ h
  wtm_at "mine"
  refine c_map (g := Sh.v) (Sh.by m) Sh.v ek (by omega) (fun x hx K hK => ?_) ?_
  · dsimp only [Sh.v]
    wtm_at "mine"
    exact hK
  wtm_at "mine"
  have eg := get_last (σ := σ₃) (o := .list ((shs.map (Sh.by m)).map Sh.v))
  have ek := get_app (τ := [.list ((shs.map (Sh.by m)).map Sh.v)]) ek
  have er := get_app (τ := [.list ((shs.map (Sh.by m)).map Sh.v)]) er
  have A := A.mono (σ' := σ₃ ++ [.list ((shs.map (Sh.by m)).map Sh.v)]) fun k os _ h => get_app h
  generalize σ₃.length = kg at *
  generalize σ₃ ++ [.list ((shs.map (Sh.by m)).map Sh.v)] = σ₄ at *
  have hk0 : σ₄.length ≠ 0 := fun z => by have := (List.getElem?_eq_some_iff.mp er).1; omega
  refine f_list (vs := ks.map .ref) (fun i ρ' σ' => Kp σ₄ σ' ∧ ∃ (ks' : List Nat) (a : V), ρ' = [.ref 0, .int m, .ref k, .ref kr, .int cl, .int w, .int h, .bool turns, pl4V r, .ref kg, .ref σ₄.length, a, .undef, .undef, .undef, .undef] ∧ RowsAt σ' ks' ((oss.take i).map fun os => os.map (Ot.by m)) ∧ (∀ k ∈ ks', k ≠ σ₄.length) ∧ σ'[σ₄.length]? = some (.list (ks'.map .ref)))
    (get_app er) ⟨fun x o h => get_app h, [], _, rfl, rows_nil, fun _ h => (nomatch h), get_last⟩ (fun i v ρ' σ' R hv hI hR => ?_) fun ρ' σ₅ hI => ?_
  · obtain ⟨kp', ks', a, rfl, A', hne, et⟩ := hI
    obtain ⟨k', hk', rfl⟩ := List.mem_map_get hv
    have i2 : i < oss.length := A.1 ▸ (List.getElem?_eq_some_iff.mp hk').1
    have ho := List.getElem?_eq_getElem i2
    have hr := (List.getElem?_eq_some_iff.mp et).1
    have hl' : ks'.length ≤ 9 := by rw [A'.1, List.length_map]; have := List.length_take_le' i oss; omega
    wtm_at "mine"
    refine c_map (g := Ot.v) (Ot.by m) Ot.v (kp' _ _ (A.2 i _ _ hk' ho)) (Nat.le_trans (hz _ (List.mem_of_getElem? ho)) (by decide)) (fun x hx K hK => ?_) ?_
    · dsimp only [Ot.v]
      wtm_at "mine"
      exact hK
    refine r_append (get_app et) hk0 (by rw [List.length_map]; omega) ?_
    wtm_at "mine"
    have hne' : σ₄.length ≠ σ'.length := by omega
    refine hR _ _ (get_set_ne (fun z => by have := (List.getElem?_eq_some_iff.mp er).1; omega) (get_app (kp' _ _ er))) ⟨fun x o h => get_set_ne (fun z => by have := (List.getElem?_eq_some_iff.mp h).1; omega) (get_app (kp' x o h)), ks' ++ [σ'.length], _, rfl, ?_, fun k hk => (List.mem_append.mp hk).elim (hne k) fun z => List.mem_singleton.mp z ▸ hne'.symm, by rw [List.map_append]; exact get_set_eq (get_app et)⟩
    rw [take_at ho, List.map_append]
    exact RowsAt.add (A'.mono fun k os hk h => get_set_ne (hne k hk).symm (get_app h)) (get_set_ne hne' get_last)
  obtain ⟨kp', ks', a, rfl, A', hne, et⟩ := hI
  rw [List.length_map, List.take_of_length_le (Nat.le_of_eq A.1.symm)] at A'
  have eg := kp' _ _ eg
  generalize σ₄.length = kt at *
  wtm_at "mine"
  refine c_linv (vs := ks'.map .ref) (fun i acc σ' => σ₅ <+: σ' ∧ ∃ ks'' : List Nat, acc = ks''.map .ref ∧ RowsAt σ' ks'' ((oss.map fun os => os.map (Ot.by m)).take i)) et (by rw [List.length_map, A'.1, List.length_map]; omega) ⟨List.prefix_refl _, [], rfl, rows_nil⟩ (fun i v acc σ' K hv hI hK => ?_) fun acc σ₆ hI => ?_
  · obtain ⟨p, ks'', rfl, A''⟩ := hI
    obtain ⟨k', hk', rfl⟩ := List.mem_map_get hv
    have i2 : i < (oss.map fun os => os.map (Ot.by m)).length := A'.1 ▸ (List.getElem?_eq_some_iff.mp hk').1
    have ho := List.getElem?_eq_getElem i2
    wtm_at "mine"
    refine PrimK.list (pre_at p (A'.2 i _ _ hk' ho)) ?_
    refine hK _ _ (pre_at (p.trans pre_app) et) ⟨p.trans pre_app, ks'' ++ [σ'.length], by rw [List.map_append]; rfl, ?_⟩
    rw [take_at ho]
    exact RowsAt.add (A''.mono fun k os _ h => get_app h) get_last
  obtain ⟨p₆, ks'', rfl, A''⟩ := hI
  rw [List.length_map, List.take_of_length_le (Nat.le_of_eq A'.1.symm)] at A''
  have hlen' : (shs.map (Sh.by m)).length = (oss.map fun os => os.map (Ot.by m)).length := by rw [List.length_map, List.length_map, hlen]
  have hz' : ∀ os ∈ oss.map fun os => os.map (Ot.by m), os.length < 63 := fun os ho => by
    obtain ⟨x, hx, rfl⟩ := List.mem_map.mp ho
    rw [List.length_map]; have := hz x hx; omega
  have eg := pre_at p₆ eg
  have et := pre_at p₆ et
  have A' := A'.mono fun k os _ h => pre_at p₆ h
  have eg := get_app (τ := [.list (ks''.map .ref)]) eg
  wtm_at "mine"
  refine firstPlace06 get_last (get_app get_last) (A''.mono fun k os _ h => get_app (get_app h)) hlen' (by rw [List.length_map]; omega) hz' fun r' σ₇ p₇ hP => ?_
  rw [List.zip_map] at hP
  have hr := fp_by hm.1 hP hD
  subst hr
  have q1 := pre_at p₇ (get_app get_last)
  have q2 := pre_at p₇ get_last
  have B'' := A''.mono (σ' := σ₇) fun k os _ h => pre_at p₇ (get_app (get_app h))
  have B' := A'.mono (σ' := σ₇) fun k os _ h => pre_at p₇ (get_app (get_app h))
  have dr : def? (pl4V (by4 m r)) = true := by cases r <;> rfl
  have dr' : def? (pl4V r) = true := by cases r <;> rfl
  wtm_at "mine"
  refine cm_eqD (toD_rows q1 B'') (toD_rows (pre_at p₇ (get_app (get_app et))) B') can_rows ?_
  wtm_at "mine"
  refine cm_eqD (toD_map q2 fun _ _ => rfl) (toD_map (pre_at p₇ (get_app eg)) fun _ _ => rfl) (can_map (dat := Sh.dat) fun s _ => can_sh) ?_
  wtm_at "mine"
  refine e_loc (v := pl4V (by4 m r)) rfl dr ?_
  wtm_at "mine"
  refine e_loc (v := pl4V r) rfl dr' ?_
  wtm_at "mine"
  exact alike06 hm rfl

end Mine

/-! J06 -/
namespace Mine
open PySem PySem.Calls PySem.W PyProof.Rows
noncomputable def q06 : Program := view PySem.Challenge.pw_uf030015_06 [1,2,3,4,5,6,7,8,9,10,12,13,14,15,16,17,18,19,20,21]
set_option maxRecDepth 100000 in
theorem reads06 : Reads (glAll q06) (recsOf q06) 1 P06 := by
  intro K fa mg mb B S
  kernel_rfl
set_option maxRecDepth 100000 in
theorem run06 : ∀ w os, runQ PySem.Challenge.pw_uf030015_06 q06 1600 w os = some (openGood q06 []) := by
  intro w os
  kernel_rfl
set_option maxRecDepth 100000 in
theorem left06 : LeftO PySem.Challenge.pw_uf030015_06 q06 [] (fun _ => true) (fun _ => ()) (fun _ => ()) 1600 := left_once rfl rfl (fun _ => rfl) run06
end Mine
open PySem PySem.W PyProof.Rows
set_option maxRecDepth 100000 in
set_option maxHeartbeats 8000000 in
theorem PySem.Challenge.cw_uf030015_06_holds : PySem.Challenge.rw_uf030015_06.Holds := by
  w_on
  refine holds_law (by decide +kernel) fun said => ?_
  refine PySem.W.holds_open (XP := fun _ _ => True) (YP := fun _ _ => True) Mine.left06 (fun _ _ _ => trivial) (fun _ _ _ _ _ => trivial) (fun _ _ => trivial) (fun _ _ _ _ _ => trivial) (by rfl) (by rfl) (by rfl) (fun s _ => recFacts_nil rfl) (by rfl) (by assumption) (by decide +kernel) ⟨rfl, rfl, rfl, rfl, rfl, by decide +kernel⟩ ?hw ?hc
  case hw => w_witness2
  intro w s₀ s₁ mg mb G Y fa o pm cd doc dV kV ho hd hcd hD hmg hg args vals as hpre hlay hrd hwl hlo
  have T := Ground.T G
  wrow_args hpre hlay hrd hwl hlo
  refine enter_call ?_
  obtain ⟨vs, e, hv⟩ := Mine.well_ints ‹Well _ _ _ _›
  refine Mine.law_go (P := Mine.P06) (extra := 1) (i := 18) (d := 60) T (by kernel_rfl) Mine.reads06 (by kernel_rfl) (by decide) hmg hg e hv (by omega) (fun _ => rfl) ?_ (Mine.law06 _)
  wrow_post

