import PyProof.Rows.All
import Wide.All
import OpenK.AllK
import Wide.FinOn
import PyProof.P3Statements
import PyProof.CompFree
import PyProof.CompUse
import PyProof.Walks
import PyProof.WalksMore
import PyProof.Calls
import PyProof.Cells
import PyProof.Rules2
import PyProof.Rules3
import PyProof.Rows.RuleB_floordiv
import PyProof.Rows.RuleB_mod
import PyProof.Rows.RuleB_sub
import PyProof.PureInt
import PyProof.AutoIntOps
import PyProof.Rows.Chain
import PyProof.MakeMany
import PyProof.TupleIter
import PyProof.TupleOps
import PyProof.ListOps
import PyProof.Rows.TupMore
import PyProof.ListTruth
import PyProof.Truth
import PyProof.Rows.RuleU_int
import PyProof.Rows.IntRules
import PyProof.Rows.StrTemp
import PyProof.ListIndexNeg
import PyProof.Rows.StrRules
import PyProof.P3Eq
import PyProof.P3In
import PyProof.NeData
import PyProof.TupleKey
import PyProof.SliceList
import PyProof.DefCall
import KE.KUnpack
import PyProof.RulesAssignMore
import PyProof.Raises
import PyProof.SeqWrite
import PyProof.ForAny
import PyProof.EnumFor
import PyProof.EnumMake
import PyProof.RangeFor
import PyProof.PvWalk
import PyProof.Boot
import PyProof.EnumStmt
import PyProof.TupleOfSeq
import PyProof.Rows.ListCopyD
import PyProof.WalkInts
import PyProof.Conv_int_bool
import PyProof.CallStr
import PyProof.IsiSeqPairs
import PyProof.IsiPairs
import PyProof.ForAppend
import KE.KItem
import PyProof.Dict
import PySem.Challenge.RW_uf030015_05
set_option Elab.async false

/-! MBase -/
namespace Mine
open PySem

/-! values and stores of the abstract machine -/
inductive V where
  | undef | none | bool (b : Bool) | int (i : Int) | str (s : Str) | tup (vs : List V) | ref (n : Nat)
  deriving Inhabited

inductive O where
  | list (vs : List V)
  deriving Inhabited

abbrev Store := List O

inductive Res (α : Type) where
  | ok (a : α) (σ : Store)
  | stuck

noncomputable def Res.bind {α β : Type} : Res α → (α → Store → Res β) → Res β
  | .ok a σ, f => f a σ
  | .stuck, _ => .stuck

@[simp] theorem Res.bind_ok {α β : Type} (a : α) (σ : Store) (f : α → Store → Res β) : (Res.ok a σ).bind f = f a σ := rfl
@[simp] theorem Res.bind_stuck {α β : Type} (f : α → Store → Res β) : (Res.stuck).bind f = .stuck := rfl

noncomputable def Res.ofOpt {α : Type} (σ : Store) : Option α → Res α
  | some a => .ok a σ
  | Option.none => .stuck
@[simp] theorem Res.ofOpt_some {α : Type} (σ : Store) (a : α) : Res.ofOpt σ (some a) = .ok a σ := rfl
@[simp] theorem Res.ofOpt_none {α : Type} (σ : Store) : (Res.ofOpt σ (Option.none : Option α)) = .stuck := rfl

inductive BOp where | add | sub | mul | floordiv | mod | pow
  deriving DecidableEq
inductive COp where | eq | ne | lt | le | gt | ge | is | isnot | inn | notin
  deriving DecidableEq
inductive Ty where | int | bool | str | tuple | list
  deriving DecidableEq
inductive SrcK where | plain | range | enum
  deriving DecidableEq
inductive Pr where | len | list | tuple | str | int | min | max | isinst (t : Ty) | append
  deriving DecidableEq

inductive Pat where
  | var (i : Nat)
  | tup (ps : List Nat)

inductive E where
  | none | bool (b : Bool) | int (i : Int) | str (s : Str)
  | loc (i : Nat)
  | bin (op : BOp) (a b : E)
  | neg (a : E)
  | not (a : E)
  | and (es : List E) | or (es : List E)
  | cmp (l : E) (ops : List COp) (rs : List E)
  | tup (es : List E) | list (es : List E)
  | sub (a i : E)
  | slice (a : E) (lo hi : Option E)
  | call (f : Nat) (args : List E)
  | prim (p : Pr) (args : List E)
  | append (o x : E)
  | comp (elt : E) (t : Pat) (k : SrcK) (src : List E) (conds : List E)
  | sorted (u : Bool) (a : E)
  | sortKey (src : E) (x : Nat) (body : E)

inductive S where
  | expr (e : E)
  | ret (e : Option E)
  | assign (p : Pat) (e : E)
  | setItem (o i e : E)
  | for_ (p : Pat) (k : SrcK) (src : List E) (body : List S)
  | if_ (c : E) (b o : List S)
  | pass

/-! operations on values -/
noncomputable def maxLen : Nat := 1000000

noncomputable def truth (σ : Store) : V → Option Bool
  | .none => some false
  | .bool b => some b
  | .int i => some (i != 0)
  | .str s => if s.length ≤ maxLen then some (s.length != 0) else Option.none
  | .tup vs => if vs.length ≤ maxLen then some (!vs.isEmpty) else Option.none
  | .ref n => match σ[n]? with
    | some (.list vs) => some (!vs.isEmpty)
    | _ => Option.none
  | .undef => Option.none

noncomputable def b2i (b : Bool) : Int := if b then 1 else 0

noncomputable def mapO {α β : Type} (f : α → Option β) : List α → Option (List β)
  | [] => some []
  | a :: as => match f a, mapO f as with
    | some b, some bs => some (b :: bs)
    | _, _ => Option.none

/-- a value as plain data, read at most so deep -/
noncomputable def toD (σ : Store) : Nat → V → Option PyData
  | 0, _ => Option.none
  | n + 1, v => match v with
    | .none => some .none
    | .bool b => some (.bool b)
    | .int i => some (.int i)
    | .str x => some (.str x)
    | .tup vs => (mapO (toD σ n) vs).map PyData.tuple
    | .ref k => match σ[k]? with
      | some (.list vs) => (mapO (toD σ n) vs).map PyData.list
      | _ => Option.none
    | .undef => Option.none

noncomputable def eqV (σ : Store) (a b : V) : Option Bool :=
  match toD σ 6 a, toD σ 6 b with
  | some x, some y => if x.canLay0 && y.canLay0 then some (PyData.eqv x y) else Option.none
  | _, _ => Option.none

noncomputable def inV (σ : Store) (a b : V) : Option Bool :=
  match toD σ 6 a, toD σ 6 b with
  | some x, some (.list ys) => if x.canLay0 && PyData.canLayAll0 ys then some (ys.any fun y => PyData.eqv y x) else Option.none
  | some x, some (.tuple ys) => if x.canLay0 && PyData.canLayAll0 ys then some (ys.any fun y => PyData.eqv y x) else Option.none
  | _, _ => Option.none

/-- tuples of ints, item by item -/
noncomputable def ltInts : List V → List V → Option Bool
  | [], [] => some false
  | [], _ :: _ => some true
  | _ :: _, [] => some false
  | .int a :: as, .int b :: bs => if a = b then ltInts as bs else some (decide (a < b))
  | _, _ => Option.none

noncomputable def ltV : V → V → Option Bool
  | .int a, .int b => some (decide (a < b))
  | .tup as, .tup bs => ltInts as bs
  | _, _ => Option.none

noncomputable def cmpV (σ : Store) (op : COp) (a b : V) : Option Bool :=
  match op with
  | .eq => eqV σ a b
  | .ne => (eqV σ a b).map (!·)
  | .lt => ltV a b
  | .gt => match a, b with | .int x, .int y => some (decide (x > y)) | _, _ => Option.none
  | .le => match a, b with | .int x, .int y => some (decide (x ≤ y)) | _, _ => Option.none
  | .ge => match a, b with | .int x, .int y => some (decide (x ≥ y)) | _, _ => Option.none
  | .is => match b with
    | .none => (match a with | .none => some true | .undef => Option.none | _ => some false)
    | _ => Option.none
  | .isnot => match b with
    | .none => (match a with | .none => some false | .undef => Option.none | _ => some true)
    | _ => Option.none
  | .inn => inV σ a b
  | .notin => (inV σ a b).map (!·)

noncomputable def small (i : Int) : Bool := decide (-(2 ^ 63) ≤ i) && decide (i < 2 ^ 63)

noncomputable def alloc (o : O) (σ : Store) : Res V := .ok (.ref σ.length) (σ ++ [o])

noncomputable def addV (a b : V) (σ : Store) : Res V :=
  match a, b with
  | .int x, .int y => .ok (.int (x + y)) σ
  | .str x, .str y => if x.length + y.length ≤ maxLen then .ok (.str (x ++ y)) σ else .stuck
  | .tup x, .tup y => if !x.isEmpty && !y.isEmpty && decide (x.length + y.length ≤ maxLen) then .ok (.tup (x ++ y)) σ else .stuck
  | .ref x, .ref y => match σ[x]?, σ[y]? with
    | some (.list xs), some (.list ys) => if xs.length + ys.length ≤ maxLen then alloc (.list (xs ++ ys)) σ else .stuck
    | _, _ => .stuck
  | _, _ => .stuck
noncomputable def intV (f : Int → Int → Res V) (a b : V) : Res V :=
  match a, b with
  | .int x, .int y => f x y
  | _, _ => .stuck
noncomputable def binV (op : BOp) (a b : V) (σ : Store) : Res V :=
  match op with
  | .add => addV a b σ
  | .sub => intV (fun x y => .ok (.int (x - y)) σ) a b
  | .mul => intV (fun x y => if small x || small y then .ok (.int (x * y)) σ else .stuck) a b
  | .floordiv => intV (fun x y => if y != 0 && small y then .ok (.int (x.fdiv y)) σ else .stuck) a b
  | .mod => intV (fun x y => if y != 0 then .ok (.int (x.fmod y)) σ else .stuck) a b
  | .pow => intV (fun x y => if decide (x = 10) && decide (0 ≤ y) && decide (y ≤ 9) then .ok (.int (10 ^ y.toNat)) σ else .stuck) a b

noncomputable def idx (i : Int) (n : Nat) : Option Nat :=
  if 0 ≤ i ∧ i < n then some i.toNat else if i < 0 ∧ 0 ≤ i + n then some (i + n).toNat else Option.none

noncomputable def subV (a i : V) (σ : Store) : Res V :=
  match a, i with
  | .tup vs, .int k => if small k then Res.ofOpt σ ((idx k vs.length).bind (vs[·]?)) else .stuck
  | .ref n, .int k => match σ[n]? with
    | some (.list vs) => Res.ofOpt σ ((idx k vs.length).bind (vs[·]?))
    | _ => .stuck
  | _, _ => .stuck

noncomputable def clampI (i : Int) (n : Nat) : Nat := if i < 0 then (i + n).toNat else min i.toNat n
noncomputable def bound (d : Nat) (n : Nat) : Option V → Option Nat
  | Option.none => some d
  | some (.int i) => if small i then some (clampI i n) else Option.none
  | some .none => some d
  | _ => Option.none
noncomputable def cut {α : Type} (l : List α) (a b : Nat) : List α := (l.take b).drop a

noncomputable def sliceV (a : V) (lo hi : Option V) (σ : Store) : Res V :=
  match a with
  | .ref n => match σ[n]? with
    | some (.list vs) => match bound 0 vs.length lo, bound vs.length vs.length hi with
      | some x, some y => alloc (.list (cut vs x y)) σ
      | _, _ => .stuck
    | _ => .stuck
  | _ => .stuck

noncomputable def intsOf : List V → Option (List Int)
  | [] => some []
  | .int i :: r => (intsOf r).map (i :: ·)
  | _ => Option.none
noncomputable def rowsOf : List V → Option (List (List Int))
  | [] => some []
  | .tup vs :: r => match intsOf vs, rowsOf r with
    | some a, some b => some (a :: b)
    | _, _ => Option.none
  | _ => Option.none
noncomputable def ltRow : List Int → List Int → Bool
  | [], [] => false
  | [], _ :: _ => true
  | _ :: _, [] => false
  | a :: as, b :: bs => if a = b then ltRow as bs else decide (a < b)

/-- what stands behind sorted (u: sorted(set(..))): any list that may be it -/
noncomputable def sortW (u : Bool) (v : V) (σ : Store) (Q : V → Store → Prop) : Prop :=
  match v with
  | .ref n => match σ[n]? with
    | some (.list vs) => vs.length < 64 ∧ (if u then
        ∃ ns, intsOf vs = some ns ∧ ∀ ms : List Int, ms.Pairwise (· < ·) → (∀ x, x ∈ ms ↔ x ∈ ns) → Q (.ref σ.length) (σ ++ [.list (ms.map .int)])
      else (∃ ns, intsOf vs = some ns ∧ ∀ ms : List Int, ms.Perm ns → ms.Pairwise (· ≤ ·) → Q (.ref σ.length) (σ ++ [.list (ms.map .int)])) ∨
        (∃ rs, rowsOf vs = some rs ∧ (∀ r ∈ rs, r ≠ []) ∧ ∀ ts : List (List Int), ts.Perm rs → ts.Pairwise (fun a b => ltRow b a = false) → Q (.ref σ.length) (σ ++ [.list (ts.map fun r => .tup (r.map .int))])))
    | _ => False
  | _ => False

noncomputable def typeIs (σ : Store) (t : Ty) : V → Option Bool
  | .none => Option.none
  | .bool _ => some (t == .bool || t == .int)
  | .int _ => some (t == .int)
  | .str _ => some (t == .str)
  | .tup _ => some (t == .tuple)
  | .ref n => match σ[n]? with
    | some (.list _) => some (t == .list)
    | _ => Option.none
  | .undef => Option.none

noncomputable def oneV (f : V → Res V) : List V → Res V
  | [v] => f v
  | _ => .stuck
noncomputable def twoV (f : V → V → Res V) : List V → Res V
  | [v, w] => f v w
  | _ => .stuck
noncomputable def lenV (σ : Store) : V → Res V
  | .ref n => match σ[n]? with
    | some (.list vs) => .ok (.int vs.length) σ
    | _ => .stuck
  | .tup vs => if vs.length ≤ maxLen then .ok (.int vs.length) σ else .stuck
  | _ => .stuck
noncomputable def listV (σ : Store) (f : List V → Res V) : V → Res V
  | .ref n => match σ[n]? with
    | some (.list vs) => f vs
    | _ => .stuck
  | _ => .stuck
noncomputable def strV (σ : Store) : V → Res V
  | .int i => if small i then .ok (.str (Str.ofString (toString i))) σ else .stuck
  | _ => .stuck
noncomputable def toIntV (σ : Store) : V → Res V
  | .bool b => .ok (.int (b2i b)) σ
  | _ => .stuck
noncomputable def isV (t : Ty) (σ : Store) (v : V) : Res V :=
  match typeIs σ t v with
  | some b => .ok (.bool b) σ
  | Option.none => .stuck
noncomputable def appV (σ : Store) (o v : V) : Res V :=
  match o with
  | .ref n => match σ[n]? with
    | some (.list vs) => if vs.length < maxLen ∧ n ≠ 0 then .ok .none (σ.set n (.list (vs ++ [v]))) else .stuck
    | _ => .stuck
  | _ => .stuck
noncomputable def primV (p : Pr) (args : List V) (σ : Store) : Res V :=
  match p with
  | .len => oneV (lenV σ) args
  | .list => oneV (listV σ fun vs => alloc (.list vs) σ) args
  | .tuple => oneV (listV σ fun vs => .ok (.tup vs) σ) args
  | .str => oneV (strV σ) args
  | .int => oneV (toIntV σ) args
  | .min => twoV (intV fun a b => .ok (.int (if b < a then b else a)) σ) args
  | .max => twoV (intV fun a b => .ok (.int (if b > a then b else a)) σ) args
  | .isinst t => oneV (isV t σ) args
  | .append => twoV (appV σ) args

noncomputable def isList (σ : Store) (V : V) : Prop := ∃ n vs, V = .ref n ∧ σ[n]? = some (.list vs)

/-! sources of loops -/
noncomputable def rangeL (a : Int) : Nat → List V
  | 0 => []
  | n + 1 => .int a :: rangeL (a + 1) n
noncomputable def enumL (k : Int) : List V → List V
  | [] => []
  | v :: r => .tup [.int k, v] :: enumL (k + 1) r

noncomputable def listItems (σ : Store) : V → Option (List V)
  | .ref n => match σ[n]? with
    | some (.list vs) => some vs
    | _ => Option.none
  | .tup vs => some vs
  | _ => Option.none
noncomputable def rangeItems : List V → Option (List V)
  | [.int b] => if -(2 ^ 62) ≤ b ∧ b ≤ maxLen then some (rangeL 0 b.toNat) else Option.none
  | [.int a, .int b] => if 0 ≤ a ∧ a ≤ maxLen ∧ -(2 ^ 62) ≤ b ∧ b ≤ maxLen then some (rangeL a (b - a).toNat) else Option.none
  | _ => Option.none
noncomputable def enumItems (σ : Store) : V → Option (List V)
  | .ref n => match σ[n]? with
    | some (.list vs) => some (enumL 0 vs)
    | _ => Option.none
  | _ => Option.none
/-- the items of a loop's source -/
noncomputable def srcItems (k : SrcK) (args : List V) (σ : Store) : Option (List V) :=
  match k with
  | .plain => match args with
    | [v] => Mine.listItems σ v
    | _ => Option.none
  | .range => rangeItems args
  | .enum => match args with
    | [v] => enumItems σ v
    | _ => Option.none

/-- the list that a loop walks must stand as it stood -/
noncomputable def sameAt (σ σ' : Store) : List V → Prop
  | [.ref n] => σ'[n]? = σ[n]?
  | _ => True
noncomputable def srcSame (k : SrcK) (args : List V) (σ σ' : Store) : Prop :=
  match k with
  | .range => True
  | _ => sameAt σ σ' args

noncomputable def asItems (σ : Store) : V → Option (List V)
  | .tup vs => some vs
  | .ref n => match σ[n]? with
    | some (.list vs) => some vs
    | _ => Option.none
  | _ => Option.none
noncomputable def bindTo (σ : Store) (p : Pat) (v : V) (ρ : List V) : Option (List V) :=
  match p with
  | .var i => some (ρ.set i v)
  | .tup ps => match asItems σ v with
    | some vs => if ps.length = vs.length then some ((ps.zip vs).foldl (fun r x => r.set x.1 x.2) ρ) else Option.none
    | Option.none => Option.none

/-! weakest preconditions: Q behind a value, X behind an exception (its class's number) -/
noncomputable def Res.to (r : Res α) (Q : α → Store → Prop) : Prop :=
  match r with
  | .ok v σ => Q v σ
  | .stuck => False

abbrev XPost := Nat → Store → Prop
abbrev Oracle := Nat → List V → Store → (V → Store → Prop) → XPost → Prop

/-- a comprehension's turns -/
noncomputable def compW (turn : V → Store → (Option V → Store → Prop) → Prop) (same : Store → Prop) : List V → List V → Store → (List V → Store → Prop) → Prop
  | [], acc, σ, Q => Q acc σ
  | v :: vs, acc, σ, Q => turn v σ fun r σ' => same σ' ∧ compW turn same vs (acc ++ r.toList) σ' Q

/-- a sort's keys -/
noncomputable def keysW (key : V → Store → (V → Store → Prop) → Prop) : List V → List V → Store → (List V → Store → Prop) → Prop
  | [], acc, σ, Q => Q acc σ
  | v :: vs, acc, σ, Q => key v σ fun k σ' => keysW key vs (acc ++ [k]) σ' Q
/-- ahead of it in a sort that keeps the order of what is alike -/
noncomputable def ahead (ks : List (List Int)) (i j : Nat) : Prop := ltRow (ks.getD i []) (ks.getD j []) = true ∨ (ltRow (ks.getD j []) (ks.getD i []) = false ∧ i < j)

mutual
noncomputable def wpE (C : Oracle) : E → List V → Store → (V → Store → Prop) → XPost → Prop
  | .none, _, σ, Q, _ => Q .none σ
  | .bool b, _, σ, Q, _ => Q (.bool b) σ
  | .int i, _, σ, Q, _ => Q (.int i) σ
  | .str s, _, σ, Q, _ => Q (.str s) σ
  | .loc i, ρ, σ, Q, _ => match ρ[i]? with
    | some .undef => False
    | some v => Q v σ
    | Option.none => False
  | .bin op a b, ρ, σ, Q, X => wpE C a ρ σ (fun x σ₁ => wpE C b ρ σ₁ (fun y σ₂ => (binV op x y σ₂).to Q) X) X
  | .neg a, ρ, σ, Q, X => wpE C a ρ σ (fun x σ₁ => match x with
    | .int i => Q (.int (-i)) σ₁
    | _ => False) X
  | .not a, ρ, σ, Q, X => wpE C a ρ σ (fun x σ₁ => match truth σ₁ x with
    | some b => Q (.bool (!b)) σ₁
    | Option.none => False) X
  | .and es, ρ, σ, Q, X => wpB C true es ρ σ Q X
  | .or es, ρ, σ, Q, X => wpB C false es ρ σ Q X
  | .cmp l ops rs, ρ, σ, Q, X => wpE C l ρ σ (fun x σ₁ => wpC C ops rs x ρ σ₁ (fun b σ₂ => Q (.bool b) σ₂) X) X
  | .tup es, ρ, σ, Q, X => wpL C es ρ σ (fun vs σ₁ => Q (.tup vs) σ₁) X
  | .list es, ρ, σ, Q, X => wpL C es ρ σ (fun vs σ₁ => Q (.ref σ₁.length) (σ₁ ++ [.list vs])) X
  | .sub a i, ρ, σ, Q, X => wpE C a ρ σ (fun x σ₁ => wpE C i ρ σ₁ (fun y σ₂ => (subV x y σ₂).to Q) X) X
  | .slice a lo hi, ρ, σ, Q, X => wpE C a ρ σ (fun x σ₁ => wpO C lo ρ σ₁ (fun y σ₂ => wpO C hi ρ σ₂ (fun z σ₃ => (sliceV x y z σ₃).to Q) X) X) X
  | .call f args, ρ, σ, Q, X => wpL C args ρ σ (fun vs σ₁ => C f vs σ₁ Q X) X
  | .prim p args, ρ, σ, Q, X => wpL C args ρ σ (fun vs σ₁ => (primV p vs σ₁).to Q) X
  | .append o x, ρ, σ, Q, X => wpE C o ρ σ (fun V σ₁ => isList σ₁ V ∧ wpE C x ρ σ₁ (fun W σ₂ => (primV .append [V, W] σ₂).to Q) X) X
  | .comp elt t k src conds, ρ, σ, Q, X => wpL C src ρ σ (fun vs σ₁ => ∃ items, srcItems k vs σ₁ = some items ∧ items.length ≤ maxLen ∧
      compW (fun v σ₂ R => match bindTo σ₂ t v ρ with
        | some ρ' => wpTs C conds ρ' σ₂ (fun b σ₃ => if b then wpE C elt ρ' σ₃ (fun x σ₄ => R (some x) σ₄) X else R Option.none σ₃) X
        | Option.none => False) (srcSame k vs σ₁) items [] σ₁ fun ys σ₂ => Q (.ref σ₂.length) (σ₂ ++ [.list ys])) X
  | .sorted u a, ρ, σ, Q, X => wpE C a ρ σ (fun v σ₁ => sortW u v σ₁ Q) X
  | .sortKey src x body, ρ, σ, Q, X => wpE C src ρ σ (fun v σ₁ => ∃ n vs, v = .ref n ∧ σ₁[n]? = some (.list vs) ∧ vs.length < 64 ∧ keysW (fun y σ₂ R => wpE C body (ρ.set x y) σ₂ R X) vs [] σ₁
      fun ks σ₂ => ∃ rs, rowsOf ks = some rs ∧ (∀ r ∈ rs, r ≠ []) ∧ ∀ p : List Nat, p.Perm (List.range vs.length) → p.Pairwise (ahead rs) → Q (.ref σ₂.length) (σ₂ ++ [.list (p.map fun i => vs.getD i .none)])) X
noncomputable def wpO (C : Oracle) : Option E → List V → Store → (Option V → Store → Prop) → XPost → Prop
  | Option.none, _, σ, Q, _ => Q Option.none σ
  | some e, ρ, σ, Q, X => wpE C e ρ σ (fun v σ₁ => Q (some v) σ₁) X
noncomputable def wpL (C : Oracle) : List E → List V → Store → (List V → Store → Prop) → XPost → Prop
  | [], _, σ, Q, _ => Q [] σ
  | e :: es, ρ, σ, Q, X => wpE C e ρ σ (fun v σ₁ => wpL C es ρ σ₁ (fun vs σ₂ => Q (v :: vs) σ₂) X) X
/-- and (d = true), or (d = false): the value -/
noncomputable def wpB (C : Oracle) (d : Bool) : List E → List V → Store → (V → Store → Prop) → XPost → Prop
  | [], _, _, _, _ => False
  | e :: es, ρ, σ, Q, X => wpE C e ρ σ (fun v σ₁ => if es.isEmpty then Q v σ₁ else match truth σ₁ v with
    | some b => if b == d then wpB C d es ρ σ₁ Q X else Q v σ₁
    | Option.none => False) X
/-- a chain of comparisons: its value -/
noncomputable def wpC (C : Oracle) : List COp → List E → V → List V → Store → (Bool → Store → Prop) → XPost → Prop
  | op :: ops, r :: rs, x, ρ, σ, Q, X => wpE C r ρ σ (fun y σ₁ => match cmpV σ₁ op x y with
    | some b => if ops.isEmpty || !b then Q b σ₁ else wpC C ops rs y ρ σ₁ Q X
    | Option.none => False) X
  | _, _, _, _, _, _, _ => False
/-- a test -/
noncomputable def wpT (C : Oracle) : E → ((V → Store → Prop) → XPost → Prop) → List V → Store → (Bool → Store → Prop) → XPost → Prop
  | .not a, _, ρ, σ, Q, X => wpT C a (wpE C a ρ σ) ρ σ (fun b σ₁ => Q (!b) σ₁) X
  | .and es, _, ρ, σ, Q, X => wpTs C es ρ σ Q X
  | .or es, _, ρ, σ, Q, X => wpTo C es ρ σ Q X
  | .cmp l ops rs, _, ρ, σ, Q, X => wpE C l ρ σ (fun x σ₁ => wpC C ops rs x ρ σ₁ Q X) X
  | _, whole, _, _, Q, X => whole (fun v σ₁ => match truth σ₁ v with
    | some b => Q b σ₁
    | Option.none => False) X
noncomputable def wpTs (C : Oracle) : List E → List V → Store → (Bool → Store → Prop) → XPost → Prop
  | [], _, σ, Q, _ => Q true σ
  | e :: es, ρ, σ, Q, X => wpT C e (wpE C e ρ σ) ρ σ (fun b σ₁ => if b then wpTs C es ρ σ₁ Q X else Q false σ₁) X
noncomputable def wpTo (C : Oracle) : List E → List V → Store → (Bool → Store → Prop) → XPost → Prop
  | [], _, σ, Q, _ => Q false σ
  | e :: es, ρ, σ, Q, X => wpT C e (wpE C e ρ σ) ρ σ (fun b σ₁ => if b then Q true σ₁ else wpTo C es ρ σ₁ Q X) X
end

inductive Fl where
  | next | brk | cont
  | ret (v : V)
  | exc (c : Nat)

abbrev Post := Fl → List V → Store → Prop

noncomputable def forW (turn : V → List V → Store → Post → Prop) (same : Store → Prop) : List V → List V → Store → Post → Prop
  | [], ρ, σ, Q => Q .next ρ σ
  | v :: vs, ρ, σ, Q => turn v ρ σ fun fl ρ' σ' => match fl with
    | .next => same σ' ∧ forW turn same vs ρ' σ' Q
    | .cont => same σ' ∧ forW turn same vs ρ' σ' Q
    | .brk => Q .next ρ' σ'
    | .ret x => Q (.ret x) ρ' σ'
    | .exc c => Q (.exc c) ρ' σ'

noncomputable def setItemV (o i v : V) (σ : Store) : Option Store :=
  match o, i with
  | .ref n, .int k => match σ[n]? with
    | some (.list vs) => if n ≠ 0 ∧ 0 ≤ k ∧ k < vs.length then some (σ.set n (.list (vs.set k.toNat v))) else Option.none
    | _ => Option.none
  | _, _ => Option.none

mutual
noncomputable def wpS (C : Oracle) : S → List V → Store → Post → Prop
  | .expr e, ρ, σ, Q => wpE C e ρ σ (fun _ σ₁ => Q .next ρ σ₁) (fun c σ₁ => Q (.exc c) ρ σ₁)
  | .ret e, ρ, σ, Q => wpO C e ρ σ (fun v σ₁ => Q (.ret (v.getD .none)) ρ σ₁) (fun c σ₁ => Q (.exc c) ρ σ₁)
  | .assign p e, ρ, σ, Q => wpE C e ρ σ (fun v σ₁ => match bindTo σ₁ p v ρ with
    | some ρ' => Q .next ρ' σ₁
    | Option.none => False) (fun c σ₁ => Q (.exc c) ρ σ₁)
  | .setItem o i e, ρ, σ, Q => wpE C e ρ σ (fun v σ₁ => wpE C o ρ σ₁ (fun x σ₂ => wpE C i ρ σ₂ (fun y σ₃ => match setItemV x y v σ₃ with
    | some σ₄ => Q .next ρ σ₄
    | Option.none => False) (fun c σ₃ => Q (.exc c) ρ σ₃)) (fun c σ₂ => Q (.exc c) ρ σ₂)) (fun c σ₁ => Q (.exc c) ρ σ₁)
  | .for_ p k src body, ρ, σ, Q => wpL C src ρ σ (fun vs σ₁ => ∃ items, srcItems k vs σ₁ = some items ∧
      forW (fun v ρ₁ σ₂ R => match bindTo σ₂ p v ρ₁ with
        | some ρ₂ => wpSs C body ρ₂ σ₂ R
        | Option.none => False) (srcSame k vs σ₁) items ρ σ₁ Q) (fun c σ₁ => Q (.exc c) ρ σ₁)
  | .if_ c b o, ρ, σ, Q => wpT C c (wpE C c ρ σ) ρ σ (fun t σ₁ => if t then wpSs C b ρ σ₁ Q else wpSs C o ρ σ₁ Q) (fun c σ₁ => Q (.exc c) ρ σ₁)
  | .pass, ρ, σ, Q => Q .next ρ σ
noncomputable def wpSs (C : Oracle) : List S → List V → Store → Post → Prop
  | [], ρ, σ, Q => Q .next ρ σ
  | s :: ss, ρ, σ, Q => wpS C s ρ σ fun fl ρ₁ σ₁ => match fl with
    | .next => wpSs C ss ρ₁ σ₁ Q
    | fl => Q fl ρ₁ σ₁
end

/-- a function: how many parameters, how many slots, its body -/
structure Fn where
  params : Nat
  slots : Nat
  body : List S

/-- calls, at most so deep -/
noncomputable def callW (P : List Fn) : Nat → Oracle
  | 0 => fun _ _ _ _ _ => False
  | d + 1 => fun f args σ Q X => match P[f]? with
    | some fn => args.length = fn.params ∧ wpSs (callW P d) fn.body (args ++ List.replicate (fn.slots - fn.params) V.undef) σ fun fl _ σ' => match fl with
      | .ret v => Q v σ'
      | .next => Q .none σ'
      | .exc c => X c σ'
      | _ => False
    | Option.none => False

/-! the reading of Python's trees -/
inductive Gl where
  | fn (i : Nat)
  | str (s : Str)
  | int (i : Int)

abbrev GlT := List (Str × Gl)
abbrev Vs := List (Str × Nat)

noncomputable def cBin : Operator → Option BOp
  | .Add => some .add | .Sub => some .sub | .Mult => some .mul | .FloorDiv => some .floordiv | .Mod => some .mod | .Pow => some .pow | _ => Option.none
noncomputable def cCmp : CmpOp → COp
  | .Eq => .eq | .NotEq => .ne | .Lt => .lt | .LtE => .le | .Gt => .gt | .GtE => .ge | .Is => .is | .IsNot => .isnot | .In => .inn | .NotIn => .notin

noncomputable def isGlob (sc : Scope) (x : Str) : Bool := sc.names.lookup x == some NameKind.globalImplicit
noncomputable def isVar (sc : Scope) (x : Str) : Bool := match sc.names.lookup x with
  | some .local | some .cell | some .free => true
  | _ => false

noncomputable def ownOf (sc : Scope) : List Str := (sc.names.filter fun x => (x.2 == .local || x.2 == .cell) && x.1 != (".0" : Str)).map (·.1)
noncomputable def slotsFrom : Nat → List Str → Vs
  | _, [] => []
  | n, x :: r => (x, n) :: slotsFrom (n + 1) r
noncomputable def compVs (sc : Scope) (vs : Vs) (nx : Nat) : Vs := slotsFrom nx (ownOf sc) ++ (sc.names.filter (·.2 == .free)).filterMap fun x => (vs.lookup x.1).map (x.1, ·)

end Mine

/-! MSim -/
namespace Mine
open PySem

mutual
/-- the value v of the heap stands for V -/
noncomputable def Rel (h : Heap) (φ : List Addr) : V → Value → Prop
  | .undef, _ => False
  | .none, v => v = .none
  | .bool b, v => v = .bool b
  | .int i, v => ∃ t, v = .int i t
  | .str s, v => ∃ t, v = .str s t
  | .tup vs, v => ∃ a items n, v = .ref a ∧ h.get? a = some { cls := .type "tuple", data := .seq items n } ∧ RelL h φ vs items.toList
  | .ref n, v => ∃ a, v = .ref a ∧ φ[n]? = some a
noncomputable def RelL (h : Heap) (φ : List Addr) : List V → List Value → Prop
  | [], [] => True
  | V :: Vs, v :: vs => Rel h φ V v ∧ RelL h φ Vs vs
  | [], _ :: _ => False
  | _ :: _, [] => False
end

noncomputable def RelO (h : Heap) (φ : List Addr) : O → Addr → Prop
  | .list vs, a => ∃ items, h.PlainList a items ∧ RelL h φ vs items.toList ∧ vs.length ≤ 2 ^ 20

structure Sim (h₀ h : Heap) (φ : List Addr) (σ : Store) : Prop where
  keep : ∀ b o, h₀.get? b = some o → h.get? b = some o
  len : φ.length = σ.length
  nodup : φ.Nodup
  new : ∀ (n : Nat) a, φ[n + 1]? = some a → h₀.get? a = none
  obj : ∀ (n : Nat) o, σ[n]? = some o → ∃ a, φ[n]? = some a ∧ RelO h φ o a

/-- all but the store's objects, and what is the frame's own, stays -/
noncomputable def Keep (φ : List Addr) (own : Addr → Prop) (h h' : Heap) : Prop := ∀ b o, b ∉ φ → ¬ own b → h.get? b = some o → h'.get? b = some o

noncomputable def noOwn : Addr → Prop := fun _ => False

theorem Keep.refl (φ : List Addr) (own : Addr → Prop) (h : Heap) : Keep φ own h h := fun _ _ _ _ e => e
theorem Keep.mono {φ φ' : List Addr} {own own' : Addr → Prop} {h h' : Heap} (k : Keep φ own h h') (hφ : ∀ a ∈ φ, a ∈ φ') (ho : ∀ a, own a → own' a) : Keep φ' own' h h' :=
  fun b o h1 h2 e => k b o (fun m => h1 (hφ b m)) (fun m => h2 (ho b m)) e

/-- an address whose object is no tuple -/
noncomputable def NoTup (h : Heap) (a : Addr) : Prop := ∀ o items n, h.get? a = some o → o.cls = .type "tuple" → o.data = .seq items n → False

theorem RelL.length {h : Heap} {φ : List Addr} : ∀ {Vs : List V} {vs : List Value}, RelL h φ Vs vs → Vs.length = vs.length
  | [], [], _ => rfl
  | _ :: _, _ :: _, x => by rw [RelL] at x; simp [RelL.length x.2]
  | [], _ :: _, x => by rw [RelL] at x; exact x.elim
  | _ :: _, [], x => by rw [RelL] at x; exact x.elim

theorem RelL.get {h : Heap} {φ : List Addr} : ∀ {Vs : List V} {vs : List Value} {i : Nat} {V : V}, RelL h φ Vs vs → Vs[i]? = some V → ∃ v, vs[i]? = some v ∧ Rel h φ V v
  | _ :: _, _ :: _, 0, _, x, e => by rw [RelL] at x; simp at e; subst e; exact ⟨_, rfl, x.1⟩
  | _ :: _, _ :: _, i + 1, _, x, e => by rw [RelL] at x; simp at e; simpa using RelL.get x.2 e
  | [], _, _, _, _, e => by simp at e
  | _ :: _, [], _, _, x, _ => by rw [RelL] at x; exact x.elim
theorem RelL.get' {h : Heap} {φ : List Addr} : ∀ {Vs : List V} {vs : List Value} {i : Nat} {v : Value}, RelL h φ Vs vs → vs[i]? = some v → ∃ V, Vs[i]? = some V ∧ Rel h φ V v
  | _ :: _, _ :: _, 0, _, x, e => by rw [RelL] at x; simp at e; subst e; exact ⟨_, rfl, x.1⟩
  | _ :: _, _ :: _, i + 1, _, x, e => by rw [RelL] at x; simp at e; simpa using RelL.get' x.2 e
  | [], [], _, _, _, e => by simp at e
  | [], _ :: _, _, _, x, _ => by rw [RelL] at x; exact x.elim
  | _ :: _, [], _, _, x, _ => by rw [RelL] at x; exact x.elim
theorem RelL.append {h : Heap} {φ : List Addr} : ∀ {Vs Ws : List V} {vs ws : List Value}, RelL h φ Vs vs → RelL h φ Ws ws → RelL h φ (Vs ++ Ws) (vs ++ ws)
  | [], _, [], _, _, y => y
  | _ :: _, _, _ :: _, _, x, y => by rw [RelL] at x; simp only [List.cons_append]; rw [RelL]; exact ⟨x.1, RelL.append x.2 y⟩
  | [], _, _ :: _, _, x, _ => by rw [RelL] at x; exact x.elim
  | _ :: _, _, [], _, x, _ => by rw [RelL] at x; exact x.elim

mutual
theorem Rel.keep {h h' : Heap} {φ φ' : List Addr} {own : Addr → Prop} (k : Keep φ own h h') (hp : φ <+: φ') (ht : ∀ a, a ∈ φ ∨ own a → NoTup h a) :
    ∀ (V : V) (v : Value), Rel h φ V v → Rel h' φ' V v
  | .undef, _, x => by rw [Rel] at x; exact x.elim
  | .none, _, x => by rw [Rel] at x ⊢; exact x
  | .bool _, _, x => by rw [Rel] at x ⊢; exact x
  | .int _, _, x => by rw [Rel] at x ⊢; exact x
  | .str _, _, x => by rw [Rel] at x ⊢; exact x
  | .tup Vs, _, x => by
    rw [Rel] at x ⊢
    obtain ⟨a, items, n, e, g, r⟩ := x
    exact ⟨a, items, n, e, k a _ (fun m => ht a (.inl m) _ items n g rfl rfl) (fun m => ht a (.inr m) _ items n g rfl rfl) g, RelL.keep k hp ht Vs _ r⟩
  | .ref n, _, x => by
    rw [Rel] at x ⊢
    obtain ⟨a, e, g⟩ := x
    refine ⟨a, e, ?_⟩
    obtain ⟨t, rfl⟩ := hp
    rw [List.getElem?_append_left]
    · exact g
    · exact (List.getElem?_eq_some_iff.mp g).1
theorem RelL.keep {h h' : Heap} {φ φ' : List Addr} {own : Addr → Prop} (k : Keep φ own h h') (hp : φ <+: φ') (ht : ∀ a, a ∈ φ ∨ own a → NoTup h a) :
    ∀ (Vs : List V) (vs : List Value), RelL h φ Vs vs → RelL h' φ' Vs vs
  | [], [], _ => by rw [RelL]; trivial
  | V :: Vs, v :: vs, x => by rw [RelL] at x ⊢; exact ⟨Rel.keep k hp ht V v x.1, RelL.keep k hp ht Vs vs x.2⟩
  | [], _ :: _, x => by rw [RelL] at x; exact x.elim
  | _ :: _, [], x => by rw [RelL] at x; exact x.elim
end

theorem Sim.mem {h₀ h : Heap} {φ : List Addr} {σ : Store} (x : Sim h₀ h φ σ) {a : Addr} (m : a ∈ φ) : ∃ (n : Nat) (o : O), φ[n]? = some a ∧ σ[n]? = some o ∧ RelO h φ o a := by
  obtain ⟨n, hn, rfl⟩ := List.mem_iff_getElem.mp m
  have hs : n < σ.length := x.len ▸ hn
  obtain ⟨a, e, r⟩ := x.obj n σ[n] (by simp [hs])
  refine ⟨n, σ[n], by simp [hn], by simp [hs], ?_⟩
  have : φ[n] = a := by simpa [hn] using e
  rw [this]; exact r

theorem RelO.noTup {h : Heap} {φ : List Addr} {o : O} {a : Addr} (x : RelO h φ o a) : NoTup h a := by
  cases o with
  | list vs =>
    obtain ⟨items, ⟨n, e⟩, _⟩ := x
    intro o' items' n' e' c' _
    rw [e] at e'; cases e'; simp at c'

theorem Sim.noTup {h₀ h : Heap} {φ : List Addr} {σ : Store} (x : Sim h₀ h φ σ) {a : Addr} (m : a ∈ φ) : NoTup h a := by
  obtain ⟨_, _, _, _, r⟩ := x.mem m
  exact r.noTup

theorem Sim.lt {h₀ h : Heap} {φ : List Addr} {σ : Store} (x : Sim h₀ h φ σ) {a : Addr} (m : a ∈ φ) : a < h.objs.size := by
  obtain ⟨_, o, _, _, r⟩ := x.mem m
  cases o with
  | list vs => obtain ⟨items, ⟨n, e⟩, _⟩ := r; exact Heap.lt_size e

/-- what is built anew leaves all as it was -/
theorem keep_push (φ : List Addr) (own : Addr → Prop) (h : Heap) (o : Obj) : Keep φ own h (h.push o) := fun _ _ _ _ e => Heap.get?_push_of_some o e

theorem RelO.keepAll {h h' : Heap} {φ φ' : List Addr} {o : O} {a : Addr} (x : RelO h φ o a) (k : ∀ b ob, h.get? b = some ob → h'.get? b = some ob) (hp : φ <+: φ') (ht : ∀ a, a ∈ φ → NoTup h a) : RelO h' φ' o a := by
  cases o with
  | list vs =>
    obtain ⟨items, p, r, z⟩ := x
    exact ⟨items, p.at fun o e => k a o e, RelL.keep (own := noOwn) (fun b o _ _ e => k b o e) hp (fun a m => m.elim (ht a) fun f => f.elim) _ _ r, z⟩

/-- a heap that keeps all that there was: the store stands -/
theorem Sim.keeps {h₀ h h' : Heap} {φ : List Addr} {σ : Store} (x : Sim h₀ h φ σ) (k : ∀ b o, h.get? b = some o → h'.get? b = some o) : Sim h₀ h' φ σ where
  keep := fun b o e => k b o (x.keep b o e)
  len := x.len
  nodup := x.nodup
  new := x.new
  obj := fun n o e => let ⟨a, g, r⟩ := x.obj n o e; ⟨a, g, r.keepAll k (List.prefix_refl _) fun a m => x.noTup m⟩

/-- a heap that keeps the store's objects and what the tuples are made of -/
theorem Sim.keepOwn {h₀ h h' : Heap} {φ : List Addr} {σ : Store} {own : Addr → Prop} (x : Sim h₀ h φ σ) (k : ∀ b o, ¬ own b → h.get? b = some o → h'.get? b = some o)
    (ho : ∀ a, own a → NoTup h a ∧ a ∉ φ ∧ h₀.get? a = none) : Sim h₀ h' φ σ where
  keep := fun b o e => k b o (fun m => by rw [(ho b m).2.2] at e; cases e) (x.keep b o e)
  len := x.len
  nodup := x.nodup
  new := x.new
  obj := fun n o e => by
    obtain ⟨a, g, r⟩ := x.obj n o e
    refine ⟨a, g, ?_⟩
    cases o with
    | list vs =>
      obtain ⟨items, p, r, z⟩ := r
      refine ⟨items, p.at fun o e => k a o (fun m => (ho a m).2.1 (List.mem_of_getElem? g)) e, ?_, z⟩
      exact RelL.keep (own := own) (fun b o _ h2 e => k b o h2 e) (List.prefix_refl _) (fun a m => m.elim (fun m => x.noTup m) fun m => (ho a m).1) _ _ r

/-- a new list of the store -/
theorem Sim.alloc {h₀ h h' : Heap} {φ : List Addr} {σ : Store} (x : Sim h₀ h φ σ) {a : Addr} {vs : List V} {items : Array Value} (k : ∀ b o, h.get? b = some o → h'.get? b = some o)
    (hp : h'.PlainList a items) (hn : h.get? a = none) (hr : RelL h' φ vs items.toList) (hz : vs.length ≤ 2 ^ 20) : Sim h₀ h' (φ ++ [a]) (σ ++ [.list vs]) where
  keep := fun b o e => k b o (x.keep b o e)
  len := by simp [x.len]
  nodup := by
    rw [List.nodup_append]
    refine ⟨x.nodup, by simp, fun b hb c hc => ?_⟩
    simp at hc; subst hc
    intro e; subst e
    obtain ⟨_, o, _, _, r⟩ := x.mem hb
    cases o with
    | list ws => obtain ⟨_, ⟨_, e⟩, _⟩ := r; rw [hn] at e; cases e
  new := fun m b hb => by
    by_cases hlt : m + 1 < φ.length
    · rw [List.getElem?_append_left hlt] at hb
      exact x.new m b hb
    · rw [List.getElem?_append_right (by omega)] at hb
      have : b = a := by
        have := List.mem_of_getElem? hb
        simpa using this
      subst this
      cases q : h₀.get? b with
      | none => rfl
      | some o => have := x.keep b o q; rw [hn] at this; cases this
  obj := fun n o e => by
    by_cases hlt : n < σ.length
    · rw [List.getElem?_append_left hlt] at e
      obtain ⟨b, g, r⟩ := x.obj n o e
      refine ⟨b, ?_, r.keepAll k (List.prefix_append _ _) fun a m => x.noTup m⟩
      rw [List.getElem?_append_left (by rw [x.len]; exact hlt)]; exact g
    · have hn' : n = σ.length := by
        have := (List.getElem?_eq_some_iff.mp e).1
        simp at this; omega
      subst hn'
      simp at e; subst e
      refine ⟨a, by rw [← x.len]; simp, items, hp, ?_, hz⟩
      refine RelL.keep (own := noOwn) (Keep.refl _ _ _) (List.prefix_append _ _) (fun b m => m.elim (fun m => ?_) fun f => f.elim) _ _ hr
      obtain ⟨_, o, _, _, r⟩ := (x.keeps k).mem m
      exact r.noTup

end Mine

/-! MFrame -/
namespace Mine
open PySem PySem.Calls

/-- where the frame's names stand -/
structure FrS (h₀ h : Heap) (φ : List Addr) (env : Env) (vs : Vs) (ρ : List V) : Prop where
  fn : env.scope.kind = .function
  glob : env.globals = mainGlobals
  blt : env.builtins = builtinsNs
  locNew : h₀.get? env.locals = none
  locOut : env.locals ∉ φ
  inj : ∀ x y i, vs.lookup x = some i → vs.lookup y = some i → x = y
  ns : ∃ m, h.Ns env.locals m ∧ ∀ x i V, vs.lookup x = some i → env.kindOf x = some .local → ρ[i]? = some V → V ≠ .undef → ∃ v, m x = some v ∧ Rel h φ V v
  cell : ∀ x i, vs.lookup x = some i → env.kindOf x = some .cell ∨ env.kindOf x = some .free →
    ∃ c ov, env.cells.lookup x = some c ∧ c ∉ φ ∧ h₀.get? c = none ∧ h.IsCell c ov ∧ ∀ V, ρ[i]? = some V → V ≠ .undef → ∃ v, ov = some v ∧ Rel h φ V v
  cellInj : ∀ x y i j c, vs.lookup x = some i → vs.lookup y = some j → env.cells.lookup x = some c → env.cells.lookup y = some c → x = y

/-- the addresses of a frame -/
noncomputable def frameOwn (env : Env) (vs : Vs) : Addr → Prop := fun a => a = env.locals ∨ ∃ x i, vs.lookup x = some i ∧ env.kindOf x = some .cell ∧ env.cells.lookup x = some a

theorem noTup_ns {h : Heap} {a : Addr} {m : Str → Option Value} (x : h.Ns a m) : NoTup h a := by
  obtain ⟨o, es, ep, e, d, _⟩ := x
  intro o' items n e' _ d'
  rw [e] at e'; cases e'; rw [d] at d'; cases d'
theorem noTup_cell {h : Heap} {a : Addr} {v : Option Value} (x : h.IsCell a v) : NoTup h a := by
  obtain ⟨o, e, d⟩ := x
  intro o' items n e' _ d'
  rw [e] at e'; cases e'; rw [d] at d'; cases d'

theorem FrS.keep {h₀ h h' : Heap} {φ φ' : List Addr} {σ : Store} {env : Env} {vs : Vs} {ρ : List V} (F : FrS h₀ h φ env vs ρ) (x : Sim h₀ h φ σ) (k : Keep φ noOwn h h') (hp : φ <+: φ')
    (hnew : ∀ a ∈ φ', a ∈ φ ∨ h.get? a = none) : FrS h₀ h' φ' env vs ρ where
  fn := F.fn
  glob := F.glob
  blt := F.blt
  locNew := F.locNew
  locOut := fun m => by
    rcases hnew _ m with m | e
    · exact F.locOut m
    · obtain ⟨mm, n, _⟩ := F.ns
      obtain ⟨o, _, _, e', _⟩ := n
      rw [e] at e'; cases e'
  inj := F.inj
  ns := by
    obtain ⟨m, n, r⟩ := F.ns
    refine ⟨m, ?_, fun x' i V h1 h2 h3 h4 => ?_⟩
    · obtain ⟨o, es, ep, e, r⟩ := n
      exact ⟨o, es, ep, k _ o F.locOut (fun f => f) e, r⟩
    · obtain ⟨v, e, rl⟩ := r x' i V h1 h2 h3 h4
      exact ⟨v, e, Rel.keep k hp (fun a m => m.elim (fun m => x.noTup m) fun f => f.elim) _ _ rl⟩
  cell := fun x' i h1 h2 => by
    obtain ⟨c, ov, e, o, n, ic, r⟩ := F.cell x' i h1 h2
    refine ⟨c, ov, e, fun m => ?_, n, ?_, fun V h3 h4 => ?_⟩
    · rcases hnew _ m with m | e'
      · exact o m
      · obtain ⟨oo, e'', _⟩ := ic
        rw [e'] at e''; cases e''
    · obtain ⟨oo, e', d⟩ := ic
      exact ⟨oo, k _ oo o (fun f => f) e', d⟩
    · obtain ⟨v, e', rl⟩ := r V h3 h4
      exact ⟨v, e', Rel.keep k hp (fun a m => m.elim (fun m => x.noTup m) fun f => f.elim) _ _ rl⟩
  cellInj := F.cellInj

/-- one step of the machine, as the store sees it -/
structure Step (h₀ : Heap) (own : Addr → Prop) (s s' : Shared) (φ φ' : List Addr) (σ' : Store) : Prop where
  only : ∃ h' tk, s' = { s with heap := h', toks := tk }
  pre : φ <+: φ'
  sim : Sim h₀ s'.heap φ' σ'
  keep : Keep φ own s.heap s'.heap
  fresh : ∀ a ∈ φ', a ∈ φ ∨ s.heap.get? a = none
  pres : ∀ b o, s.heap.get? b = some o → ∃ o', s'.heap.get? b = some o'

theorem Step.refl {h₀ : Heap} {own : Addr → Prop} {s : Shared} {φ : List Addr} {σ : Store} (x : Sim h₀ s.heap φ σ) : Step h₀ own s s φ φ σ :=
  ⟨⟨s.heap, s.toks, rfl⟩, List.prefix_refl _, x, Keep.refl _ _ _, fun _ m => .inl m, fun _ o e => ⟨o, e⟩⟩

theorem Step.toks {h₀ : Heap} {own : Addr → Prop} {s : Shared} {φ : List Addr} {σ : Store} (x : Sim h₀ s.heap φ σ) (tk : Nat) : Step h₀ own s { s with toks := tk } φ φ σ :=
  ⟨⟨s.heap, tk, rfl⟩, List.prefix_refl _, x, Keep.refl _ _ _, fun _ m => .inl m, fun _ o e => ⟨o, e⟩⟩

theorem Step.trans {h₀ : Heap} {own : Addr → Prop} {s s₁ s₂ : Shared} {φ φ₁ φ₂ : List Addr} {σ₁ σ₂ : Store} (x : Step h₀ own s s₁ φ φ₁ σ₁) (y : Step h₀ own s₁ s₂ φ₁ φ₂ σ₂) : Step h₀ own s s₂ φ φ₂ σ₂ where
  only := by
    obtain ⟨h1, t1, rfl⟩ := x.only
    obtain ⟨h2, t2, rfl⟩ := y.only
    exact ⟨h2, t2, rfl⟩
  pre := x.pre.trans y.pre
  sim := y.sim
  keep := fun b o h1 h2 e => y.keep b o (fun m => by
    rcases x.fresh b m with m | e'
    · exact h1 m
    · rw [e] at e'; cases e') h2 (x.keep b o h1 h2 e)
  fresh := fun a m => by
    rcases y.fresh a m with m | e
    · exact x.fresh a m
    · right
      cases q : s.heap.get? a with
      | none => rfl
      | some o => obtain ⟨o', e'⟩ := x.pres a o q; rw [e] at e'; cases e'
  pres := fun b o e => by obtain ⟨o', e'⟩ := x.pres b o e; exact y.pres b o' e'

theorem Step.wider {h₀ : Heap} {own own' : Addr → Prop} {s s' : Shared} {φ φ' : List Addr} {σ' : Store} (x : Step h₀ own s s' φ φ' σ') (h : ∀ a, own a → own' a) : Step h₀ own' s s' φ φ' σ' :=
  ⟨x.only, x.pre, x.sim, x.keep.mono (fun _ m => m) h, x.fresh, x.pres⟩

/-- a heap that keeps all -/
theorem Step.keeps {h₀ : Heap} {own : Addr → Prop} {s : Shared} {φ : List Addr} {σ : Store} (x : Sim h₀ s.heap φ σ) {h' : Heap} (tk : Nat) (k : ∀ b o, s.heap.get? b = some o → h'.get? b = some o) :
    Step h₀ own s { s with heap := h', toks := tk } φ φ σ :=
  ⟨⟨h', tk, rfl⟩, List.prefix_refl _, x.keeps k, fun b o _ _ e => k b o e, fun _ m => .inl m, fun b o e => ⟨o, k b o e⟩⟩

theorem FrS.step {h₀ : Heap} {s s' : Shared} {φ φ' : List Addr} {σ σ' : Store} {env : Env} {vs : Vs} {ρ : List V} (F : FrS h₀ s.heap φ env vs ρ) (x : Sim h₀ s.heap φ σ) (y : Step h₀ noOwn s s' φ φ' σ') :
    FrS h₀ s'.heap φ' env vs ρ := F.keep x y.keep y.pre y.fresh

theorem Rel.step {h₀ : Heap} {s s' : Shared} {φ φ' : List Addr} {σ σ' : Store} {V : V} {v : Value} (r : Rel s.heap φ V v) (x : Sim h₀ s.heap φ σ) (y : Step h₀ noOwn s s' φ φ' σ') : Rel s'.heap φ' V v :=
  Rel.keep y.keep y.pre (fun a m => m.elim (fun m => x.noTup m) fun f => f.elim) _ _ r
theorem RelL.step {h₀ : Heap} {s s' : Shared} {φ φ' : List Addr} {σ σ' : Store} {Vs : List V} {vs : List Value} (r : RelL s.heap φ Vs vs) (x : Sim h₀ s.heap φ σ) (y : Step h₀ noOwn s s' φ φ' σ') : RelL s'.heap φ' Vs vs :=
  RelL.keep y.keep y.pre (fun a m => m.elim (fun m => x.noTup m) fun f => f.elim) _ _ r

theorem FrS.noTup {h₀ h : Heap} {φ : List Addr} {env : Env} {vs : Vs} {ρ : List V} (F : FrS h₀ h φ env vs ρ) {a : Addr} (m : frameOwn env vs a) : NoTup h a := by
  rcases m with rfl | ⟨x, i, hx, hk, e⟩
  · obtain ⟨m, n, _⟩ := F.ns; exact noTup_ns n
  · obtain ⟨c, ov, e1, _, _, ic, _⟩ := F.cell x i hx (.inl hk)
    rw [e] at e1; cases e1; exact noTup_cell ic
theorem Rel.stepOwn {h₀ : Heap} {s s' : Shared} {φ φ' : List Addr} {σ σ' : Store} {env : Env} {vs : Vs} {ρ : List V} {V : V} {v : Value} (r : Rel s.heap φ V v) (x : Sim h₀ s.heap φ σ) (F : FrS h₀ s.heap φ env vs ρ) (y : Step h₀ (frameOwn env vs) s s' φ φ' σ') : Rel s'.heap φ' V v :=
  Rel.keep y.keep y.pre (fun _ m => m.elim (fun m => x.noTup m) fun m => F.noTup m) _ _ r
theorem RelL.stepOwn {h₀ : Heap} {s s' : Shared} {φ φ' : List Addr} {σ σ' : Store} {env : Env} {vs : Vs} {ρ : List V} {Vs : List V} {us : List Value} (r : RelL s.heap φ Vs us) (x : Sim h₀ s.heap φ σ) (F : FrS h₀ s.heap φ env vs ρ) (y : Step h₀ (frameOwn env vs) s s' φ φ' σ') : RelL s'.heap φ' Vs us :=
  RelL.keep y.keep y.pre (fun _ m => m.elim (fun m => x.noTup m) fun m => F.noTup m) _ _ r

/-- behind a value -/
noncomputable def PV (h₀ : Heap) (s : Shared) (φ : List Addr) (Q : V → Store → Prop) (v : Value) (s' : Shared) : Prop :=
  ∃ φ' σ' V, Step h₀ noOwn s s' φ φ' σ' ∧ Rel s'.heap φ' V v ∧ Q V σ'
noncomputable def PVs (h₀ : Heap) (s : Shared) (φ : List Addr) (n : Nat) (Q : List V → Store → Prop) (vs : List Value) (s' : Shared) : Prop :=
  ∃ φ' σ' Vs, Step h₀ noOwn s s' φ φ' σ' ∧ RelL s'.heap φ' Vs vs ∧ Vs.length = n ∧ Q Vs σ'
noncomputable def PB (h₀ : Heap) (s : Shared) (φ : List Addr) (Q : Bool → Store → Prop) (b : Bool) (s' : Shared) : Prop :=
  ∃ φ' σ', Step h₀ noOwn s s' φ φ' σ' ∧ Q b σ'
/-- behind an exception: in this make there is none -/
noncomputable def PX (_h₀ : Heap) (_s : Shared) (_φ : List Addr) (_X : XPost) (_e : Value) (_s' : Shared) : Prop := False

/-- room for d more calls -/
structure ROk (A : Around) (d : Nat) : Prop where
  hd : A.handled = none
  depth : A.depth + d < 900
  units : A.units + 3 * d < 9000

section
variable (prog : Program) (w : World) (h₀ : Heap) (C : Oracle) (d : Nat)

/-- in this frame the tree e does what a says -/
noncomputable def EOk (env : Env) (vs : Vs) (e : Expr) (a : E) : Prop :=
  ∀ (A : Around) (s : Shared) (φ : List Addr) (σ : Store) (ρ : List V) (Q : V → Store → Prop) (X : XPost), ROk A d → Sim h₀ s.heap φ σ → FrS h₀ s.heap φ env vs ρ → wpE C a ρ σ Q X →
    wpAny (model prog w) A (eval e env) (PV h₀ s φ Q) (PX h₀ s φ X) s
end

theorem PX.trans {h₀ : Heap} {s s₁ : Shared} {φ φ₁ : List Addr} {σ₁ : Store} {X : XPost} (_ : Step h₀ noOwn s s₁ φ φ₁ σ₁) {e : Value} {s' : Shared} (y : PX h₀ s₁ φ₁ X e s') : PX h₀ s φ X e s' := y

section
variable {prog : Program} {w : World} {h₀ : Heap} {C : Oracle} {d : Nat} {env : Env} {vs : Vs}

theorem ok_none {k pos} : EOk prog w h₀ C d env vs (.Constant .none k pos) .none := fun A s φ σ ρ Q X _ S _ q => by
  rw [wpE] at q
  exact wpAny_Constant_none ⟨φ, σ, .none, Step.refl S, by rw [Rel], q⟩
theorem ok_bool {b k pos} : EOk prog w h₀ C d env vs (.Constant (.bool b) k pos) (.bool b) := fun A s φ σ ρ Q X _ S _ q => by
  rw [wpE] at q
  exact wpAny_Constant_bool ⟨φ, σ, .bool b, Step.refl S, by rw [Rel], q⟩
theorem ok_int {i k pos} : EOk prog w h₀ C d env vs (.Constant (.int i) k pos) (.int i) := fun A s φ σ ρ Q X _ S _ q => by
  rw [wpE] at q
  exact wpAny_Constant_int ⟨φ, σ, .int i, Step.toks S _, by rw [Rel]; exact ⟨_, rfl⟩, q⟩
theorem ok_str {x k pos} : EOk prog w h₀ C d env vs (.Constant (.str x) k pos) (.str x) := fun A s φ σ ρ Q X _ S _ q => by
  rw [wpE] at q
  exact wpAny_Constant_str ⟨φ, σ, .str x, Step.toks S _, by rw [Rel]; exact ⟨_, rfl⟩, q⟩

theorem ok_loc {x : Str} {i : Nat} {pos} (hx : vs.lookup x = some i) (hk : isVar env.scope x = true) (hd : (x == ("__debug__" : Str)) = false) (hc : (x == ("__classdict__" : Str)) = false) :
    EOk prog w h₀ C d env vs (.Name x pos) (.loc i) := fun A s φ σ ρ Q X _ S F q => by
  rw [wpE] at q
  have hkind : env.kindOf x = some .local ∨ env.kindOf x = some .cell ∨ env.kindOf x = some .free := by
    unfold isVar at hk
    have : env.kindOf x = env.scope.names.lookup x := rfl
    rw [this]
    split at hk <;> simp_all
  split at q
  · exact q.elim
  · rename_i V hne e
    refine wpAny_Name ?_ hd
    have hV : V ≠ .undef := fun h => hne (h ▸ rfl)
    rcases hkind with hl | hl
    · obtain ⟨m, n, r⟩ := F.ns
      obtain ⟨v, hv, rl⟩ := r x i V hx hl e hV
      exact wpAny_loadName_local F.fn hl n hv ⟨φ, σ, V, Step.refl S, rl, q⟩
    · obtain ⟨c, ov, e1, _, _, ic, r⟩ := F.cell x i hx hl
      obtain ⟨v, rfl, rl⟩ := r V e hV
      rcases hl with hl | hl
      · exact wpAny_loadName_cell F.fn hl e1 ic ⟨φ, σ, V, Step.refl S, rl, q⟩
      · exact wpAny_loadName_free F.fn hl e1 ic ⟨φ, σ, V, Step.refl S, rl, q⟩ hc
  · exact q.elim
end

end Mine

/-! MOps -/
namespace Mine
open PySem PySem.Calls

theorem PV.trans {h₀ : Heap} {s s₁ : Shared} {φ φ₁ : List Addr} {σ₁ : Store} {Q : V → Store → Prop} {v : Value} {s' : Shared} (x : Step h₀ noOwn s s₁ φ φ₁ σ₁) (y : PV h₀ s₁ φ₁ Q v s') : PV h₀ s φ Q v s' :=
  let ⟨φ', σ', V, st, r, q⟩ := y; ⟨φ', σ', V, x.trans st, r, q⟩
theorem PVs.trans {h₀ : Heap} {s s₁ : Shared} {φ φ₁ : List Addr} {σ₁ : Store} {n : Nat} {Q : List V → Store → Prop} {v : List Value} {s' : Shared} (x : Step h₀ noOwn s s₁ φ φ₁ σ₁) (y : PVs h₀ s₁ φ₁ n Q v s') : PVs h₀ s φ n Q v s' :=
  let ⟨φ', σ', V, st, r, q⟩ := y; ⟨φ', σ', V, x.trans st, r, q⟩
theorem PB.trans {h₀ : Heap} {s s₁ : Shared} {φ φ₁ : List Addr} {σ₁ : Store} {Q : Bool → Store → Prop} {v : Bool} {s' : Shared} (x : Step h₀ noOwn s s₁ φ φ₁ σ₁) (y : PB h₀ s₁ φ₁ Q v s') : PB h₀ s φ Q v s' :=
  let ⟨φ', σ', st, q⟩ := y; ⟨φ', σ', x.trans st, q⟩

/-- a value without a place in the heap, in a state of more tokens -/
theorem PV.plain {h₀ : Heap} {s : Shared} {φ : List Addr} {σ : Store} {Q : V → Store → Prop} {V : V} {v : Value} {tk : Nat} (S : Sim h₀ s.heap φ σ) (r : Rel s.heap φ V v) (q : Q V σ) : PV h₀ s φ Q v { s with toks := tk } :=
  ⟨φ, σ, V, Step.toks S tk, r, q⟩
theorem PV.same {h₀ : Heap} {s : Shared} {φ : List Addr} {σ : Store} {Q : V → Store → Prop} {V : V} {v : Value} (S : Sim h₀ s.heap φ σ) (r : Rel s.heap φ V v) (q : Q V σ) : PV h₀ s φ Q v s :=
  ⟨φ, σ, V, Step.refl S, r, q⟩
theorem rel_int {h : Heap} {φ : List Addr} {i : Int} {t : Tok} : Rel h φ (.int i) (.int i t) := by rw [Rel]; exact ⟨t, rfl⟩
theorem rel_str {h : Heap} {φ : List Addr} {x : Str} {t : Tok} : Rel h φ (.str x) (.str x t) := by rw [Rel]; exact ⟨t, rfl⟩
theorem rel_bool {h : Heap} {φ : List Addr} {b : Bool} : Rel h φ (.bool b) (.bool b) := by rw [Rel]
theorem rel_none {h : Heap} {φ : List Addr} : Rel h φ .none .none := by rw [Rel]

/-- a new list -/
theorem PV.list {h₀ : Heap} {s : Shared} {φ : List Addr} {σ : Store} {Q : V → Store → Prop} {Vs : List V} {items : List Value} {n tk : Nat} (S : Sim h₀ s.heap φ σ) (r : RelL s.heap φ Vs items) (hz : Vs.length ≤ 2 ^ 20)
    (q : Q (.ref σ.length) (σ ++ [.list Vs])) : PV h₀ s φ Q (.ref s.heap.objs.size) { s with heap := s.heap.push { cls := .type "list", data := .seq items.toArray n }, toks := tk } := by
  have k : ∀ b o, s.heap.get? b = some o → (s.heap.push { cls := .type "list", data := .seq items.toArray n }).get? b = some o := fun b o e => Heap.get?_push_of_some _ e
  have hn : s.heap.get? s.heap.objs.size = none := by
    cases e : s.heap.get? s.heap.objs.size with
    | none => rfl
    | some o => exact absurd (Heap.lt_size e) (Nat.lt_irrefl _)
  have S' := S.alloc (vs := Vs) (items := items.toArray) k ⟨n, Heap.get?_push_size _ rfl⟩ hn (by
    simpa using RelL.keep (own := noOwn) (fun b o _ _ e => k b o e) (List.prefix_refl _) (fun a m => m.elim (fun m => S.noTup m) fun f => f.elim) _ _ r) hz
  refine ⟨φ ++ [s.heap.objs.size], _, .ref σ.length, ⟨⟨_, _, rfl⟩, List.prefix_append _ _, S', fun b o _ _ e => k b o e, fun a m => ?_, fun b o e => ⟨o, k b o e⟩⟩, ?_, q⟩
  · rcases List.mem_append.mp m with m | m
    · exact .inl m
    · simp at m; subst m; exact .inr hn
  · rw [Rel]; exact ⟨_, rfl, by rw [← S.len]; simp⟩

/-- a new tuple -/
theorem PV.tuple {h₀ : Heap} {s : Shared} {φ : List Addr} {σ : Store} {Q : V → Store → Prop} {Vs : List V} {items : List Value} {n tk : Nat} (S : Sim h₀ s.heap φ σ) (r : RelL s.heap φ Vs items)
    (q : Q (.tup Vs) σ) : PV h₀ s φ Q (.ref s.heap.objs.size) { s with heap := s.heap.push { cls := .type "tuple", data := .seq items.toArray n }, toks := tk } := by
  have k : ∀ b o, s.heap.get? b = some o → (s.heap.push { cls := .type "tuple", data := .seq items.toArray n }).get? b = some o := fun b o e => Heap.get?_push_of_some _ e
  refine ⟨φ, σ, .tup Vs, Step.keeps S tk k, ?_, q⟩
  rw [Rel]
  refine ⟨_, items.toArray, n, rfl, Heap.get?_push_size _ rfl, ?_⟩
  simpa using RelL.keep (own := noOwn) (fun b o _ _ e => k b o e) (List.prefix_refl _) (fun a m => m.elim (fun m => S.noTup m) fun f => f.elim) _ _ r

theorem small_bits {i : Int} (h : small i = true) : Builtin.Int.intBits i ≤ 64 := by
  unfold small at h
  simp only [Bool.and_eq_true, decide_eq_true_eq] at h
  unfold Builtin.Int.intBits
  split
  · omega
  · rename_i h0
    have h0' : i ≠ 0 := by simpa using h0
    have : i.natAbs.log2 < 64 := (Nat.log2_lt (by omega)).mpr (by omega)
    omega

section
variable {prog : Program} {w : World} {h₀ : Heap} {A : Around} {s : Shared} {φ : List Addr} {σ : Store} {Q : V → Store → Prop} {E : Value → Shared → Prop}

theorem bin_int {o : BOp} {op : Operator} {x y : Int} {t u : Tok} (ho : cBin op = some o) (S : Sim h₀ s.heap φ σ) (q : (binV o (.int x) (.int y) σ).to Q) : wpAny (model prog w) A (binaryOp op (.int x t) (.int y u)) (PV h₀ s φ Q) E s := by
  cases op <;> simp only [cBin, Option.some.injEq, reduceCtorEq] at ho <;> subst ho
  · exact PySem.P.add_int (PV.plain S rel_int q)
  · exact PyProof.Rows.sub_int' (PV.plain S rel_int q)
  · simp only [binV, addV, intV] at q
    split at q
    · rename_i hs
      refine PySem.P.mul_int (PV.plain S rel_int q) ?_
      rcases Bool.or_eq_true_iff.mp hs with hs | hs
      · exact IntMulOk.of_left (small_bits hs)
      · exact IntMulOk.of_right (small_bits hs)
    · exact q.elim
  · simp only [binV, addV, intV] at q
    split at q
    · rename_i hs
      exact PyProof.Rows.mod_int' (by simpa using hs) (PV.plain S rel_int q)
    · exact q.elim
  · simp only [binV, addV, intV] at q
    split at q
    · rename_i hs
      simp only [Bool.and_eq_true, decide_eq_true_eq] at hs
      obtain ⟨⟨rfl, h0⟩, h9⟩ := hs
      by_cases hy : y = 0
      · subst hy
        exact PySem.AutoIntOps.pow_0 (by omega) rfl (PV.plain S rel_int q)
      · refine PySem.AutoIntOps.pow_4 (by omega) (by simpa using hy) (by decide) (by decide) ?_ (PV.plain S rel_int q)
        have : y = 1 ∨ y = 2 ∨ y = 3 ∨ y = 4 ∨ y = 5 ∨ y = 6 ∨ y = 7 ∨ y = 8 ∨ y = 9 := by omega
        rcases this with rfl | rfl | rfl | rfl | rfl | rfl | rfl | rfl | rfl <;> decide +kernel
    · exact q.elim
  · simp only [binV, addV, intV] at q
    split at q
    · rename_i hs
      simp only [Bool.and_eq_true] at hs
      refine PyProof.Rows.floordiv_int (by simpa using hs.1) (PV.plain S rel_int q) (Or.inl (PyProof.noPylong_of_log2 ?_))
      have hs2 := hs.2
      unfold small at hs2
      simp only [Bool.and_eq_true, decide_eq_true_eq] at hs2
      by_cases hy : y.natAbs = 0
      · rw [hy]; decide
      · exact (Nat.log2_lt hy).mpr (Nat.lt_of_lt_of_le (by omega : y.natAbs < 2 ^ 64) (Nat.pow_le_pow_right (by omega) (by omega)))
    · exact q.elim
end

end Mine

/-! MExpr -/
namespace Mine
open PySem PySem.Calls

theorem isEmpty_eq {α β : Type} {items : Array α} {vs : List β} (h : items.size = vs.length) : (!items.isEmpty) = !vs.isEmpty := by
  cases vs with
  | nil => simp at h; simp [h]
  | cons y ys =>
    simp only [List.length_cons] at h
    have : items.isEmpty = false := by simp only [Array.isEmpty]; exact decide_eq_false (by omega)
    rw [this]; rfl
theorem size_le {n : Nat} (h : n ≤ maxLen) : n ≤ sizeLine := Nat.le_trans h (by decide)
theorem size_le' {n : Nat} (h : n ≤ 2 ^ 20) : n ≤ sizeLine := Nat.le_trans h (by decide)
theorem maxLen_le {n : Nat} (h : n ≤ maxLen) : n ≤ 2 ^ 20 := Nat.le_trans h (by decide)

section
variable {prog : Program} {w : World} {h₀ : Heap} {A : Around} {s : Shared} {φ : List Addr} {σ : Store} {Q : V → Store → Prop} {E : Value → Shared → Prop}

/-- the list of the store at n -/
theorem Sim.list {n : Nat} {vs : List V} {v : Value} (S : Sim h₀ s.heap φ σ) (e : σ[n]? = some (.list vs)) (r : Rel s.heap φ (.ref n) v) :
    ∃ a items k, v = .ref a ∧ φ[n]? = some a ∧ IsL s.heap a items k ∧ RelL s.heap φ vs items.toList ∧ vs.length ≤ 2 ^ 20 := by
  rw [Rel] at r
  obtain ⟨a, rfl, ea⟩ := r
  obtain ⟨a', ea', items, ⟨k, hk⟩, rl, z⟩ := S.obj n _ e
  rw [ea] at ea'; cases ea'
  exact ⟨a, items, k, rfl, ea, hk, rl, z⟩

theorem truthy_ok {V : V} {v : Value} {b : Bool} (S : Sim h₀ s.heap φ σ) (r : Rel s.heap φ V v) (ht : truth σ V = some b) {R : Bool → Shared → Prop} (h : ∀ tk, R b { s with toks := tk }) :
    wpAny (model prog w) A (truthy v) R E s := by
  cases V with
  | undef => rw [Rel] at r; exact r.elim
  | none =>
    rw [Rel] at r; subst r
    simp only [truth, Option.some.injEq] at ht; subst ht
    exact fun Γ p hΓ => h s.toks
  | bool c =>
    rw [Rel] at r; subst r
    simp only [truth, Option.some.injEq] at ht; subst ht
    exact wpAny_truthy_bool (h s.toks)
  | int i =>
    rw [Rel] at r; obtain ⟨t, rfl⟩ := r
    simp only [truth, Option.some.injEq] at ht; subst ht
    exact PyProof.Rows.truthy_int (h s.toks)
  | str x =>
    simp only [truth] at ht
    split at ht
    · rename_i hz
      simp only [Option.some.injEq] at ht; subst ht
      rw [Rel] at r; obtain ⟨t, rfl⟩ := r
      have e : ((x.length : Int) != 0) = (x.length != 0) := by
        cases hx : x.length with
        | zero => rfl
        | succ n => simp; omega
      exact PySem.P.truthy_str (by unfold maxLen at hz; omega) (e ▸ h _)
    · cases ht
  | tup Vs =>
    rw [Rel] at r; obtain ⟨a, items, n, rfl, g, rl⟩ := r
    simp only [truth] at ht
    split at ht
    · rename_i hz
      simp only [Option.some.injEq] at ht; subst ht
      have h1 : items.size = Vs.length := by simpa using rl.length.symm
      exact PyProof.Rows.truthy_tuple ⟨_, g, rfl, n, rfl⟩ (by unfold maxLen at hz; omega) (isEmpty_eq h1 ▸ h _)
    · cases ht
  | ref n =>
    simp only [truth] at ht
    split at ht
    · rename_i vs e
      obtain ⟨a, items, k, rfl, _, hL, rl, z⟩ := S.list e r
      simp only [Option.some.injEq] at ht; subst ht
      have h1 : items.size = vs.length := by simpa using rl.length.symm
      exact wpAny_truthy_list hL.isList (by omega) (isEmpty_eq h1 ▸ h _)
    · cases ht
end

section
variable {prog : Program} {w : World} {h₀ : Heap} {C : Oracle} {d : Nat} {env : Env} {vs : Vs}

theorem bin_ok {A : Around} {s : Shared} {φ : List Addr} {σ : Store} {Q : V → Store → Prop} {E : Value → Shared → Prop} {o : BOp} {op : Operator} {V W : Mine.V} {a b : Value} (ho : cBin op = some o) (S : Sim h₀ s.heap φ σ)
    (ra : Rel s.heap φ V a) (rb : Rel s.heap φ W b) (q : (binV o V W σ).to Q) : wpAny (model prog w) A (binaryOp op a b) (PV h₀ s φ Q) E s := by
  cases V <;> try (cases o <;> cases W <;> exact q.elim)
  case int x =>
    cases W <;> try (cases o <;> exact q.elim)
    case int y =>
      rw [Rel] at ra rb
      obtain ⟨t, rfl⟩ := ra
      obtain ⟨u, rfl⟩ := rb
      exact bin_int ho S q
  case str x =>
    cases W <;> try (cases o <;> exact q.elim)
    case str y =>
      rw [Rel] at ra rb
      obtain ⟨t, rfl⟩ := ra
      obtain ⟨u, rfl⟩ := rb
      cases op <;> simp only [cBin, Option.some.injEq, reduceCtorEq] at ho <;> subst ho <;> try exact q.elim
      simp only [binV, addV, intV] at q
      split at q
      · rename_i hz
        exact PyProof.Rows.add_str (fun t' tk => PV.plain S rel_str q) (size_le hz)
      · exact q.elim
  case tup xs =>
    cases W <;> try (cases o <;> exact q.elim)
    case tup ys =>
      rw [Rel] at ra rb
      obtain ⟨t, it, n, rfl, g, rl⟩ := ra
      obtain ⟨u, iu, k, rfl, gu, rlu⟩ := rb
      cases op <;> simp only [cBin, Option.some.injEq, reduceCtorEq] at ho <;> subst ho <;> try exact q.elim
      simp only [binV, addV, intV] at q
      split at q
      · rename_i hz
        simp only [Bool.and_eq_true, decide_eq_true_eq, Bool.not_eq_true', List.isEmpty_eq_false_iff] at hz
        have h1 : it.size = xs.length := by simpa using rl.length.symm
        have h2 : iu.size = ys.length := by simpa using rlu.length.symm
        refine PySem.P.add_tuple g gu (fun h => ?_) (fun h => ?_) ?_ ?_
        · have : it.size = 0 := by simpa using h
          exact hz.1.1 (List.length_eq_zero_iff.mp (by omega))
        · have : iu.size = 0 := by simpa using h
          exact hz.1.2 (List.length_eq_zero_iff.mp (by omega))
        · rw [show it ++ iu = (it.toList ++ iu.toList).toArray by simp]
          exact PV.tuple (n := 0) (tk := s.toks) S (rl.append rlu) q
        · refine size_le ?_
          have := hz.2
          omega
      · exact q.elim
  case ref x =>
    cases W <;> try (cases o <;> exact q.elim)
    case ref y =>
      cases op <;> simp only [cBin, Option.some.injEq, reduceCtorEq] at ho <;> subst ho <;> try exact q.elim
      simp only [binV, addV, intV] at q
      split at q
      · rename_i xs ys ex ey
        split at q
        · rename_i hz
          obtain ⟨a, ia, k, rfl, _, hA, rla, _⟩ := S.list ex ra
          obtain ⟨b, ib, k', rfl, _, hB, rlb, _⟩ := S.list ey rb
          have h1 : ia.size = xs.length := by simpa using rla.length.symm
          have h2 : ib.size = ys.length := by simpa using rlb.length.symm
          refine PySem.P.add_list hA hB ?_ (size_le (by omega))
          rw [show ia ++ ib = (ia.toList ++ ib.toList).toArray by simp]
          exact PV.list (n := 0) (tk := s.toks) S (rla.append rlb) (maxLen_le (by simpa using hz)) q
        · exact q.elim
      · exact q.elim

theorem ok_bin {l r : Expr} {op : Operator} {o : BOp} {a b : E} {pos} (ho : cBin op = some o) (hl : EOk prog w h₀ C d env vs l a) (hr : EOk prog w h₀ C d env vs r b) :
    EOk prog w h₀ C d env vs (.BinOp l op r pos) (.bin o a b) := fun A s φ σ ρ Q X R S F q => by
  rw [wpE] at q
  refine wpAny_BinOp (wpAny_mono (hl A s φ σ ρ _ X R S F q) (fun x s₁ y => ?_) fun _ _ e => e)
  obtain ⟨φ₁, σ₁, V, st, rl, q₁⟩ := y
  refine wpAny_mono (hr A s₁ φ₁ σ₁ ρ _ X R st.sim (F.step S st) q₁) (fun x' s₂ y => ?_) fun _ _ e => PX.trans st e
  obtain ⟨φ₂, σ₂, W, st₂, rl₂, q₂⟩ := y
  exact wpAny_mono (bin_ok ho st₂.sim (rl.step st.sim st₂) rl₂ q₂) (fun _ _ z => PV.trans (st.trans st₂) z) fun _ _ e => e

theorem ok_neg {x : Expr} {a : E} {pos} (h : EOk prog w h₀ C d env vs x a) : EOk prog w h₀ C d env vs (.UnaryOp .USub x pos) (.neg a) := fun A s φ σ ρ Q X R S F q => by
  rw [wpE] at q
  refine wpAny_UnaryOp (wpAny_mono (h A s φ σ ρ _ X R S F q) (fun x s₁ y => ?_) fun _ _ e => e)
  obtain ⟨φ₁, σ₁, V, st, rl, q₁⟩ := y
  cases V <;> try exact q₁.elim
  rw [Rel] at rl
  obtain ⟨t, rfl⟩ := rl
  exact PySem.P.neg_int (PV.trans st (PV.plain st.sim rel_int q₁))

theorem ok_not {x : Expr} {a : E} {pos} (h : EOk prog w h₀ C d env vs x a) : EOk prog w h₀ C d env vs (.UnaryOp .Not x pos) (.not a) := fun A s φ σ ρ Q X R S F q => by
  rw [wpE] at q
  refine wpAny_UnaryOp (wpAny_mono (h A s φ σ ρ _ X R S F q) (fun x s₁ y => ?_) fun _ _ e => e)
  obtain ⟨φ₁, σ₁, V, st, rl, q₁⟩ := y
  split at q₁
  · rename_i b ht
    exact not_value (truthy_ok st.sim rl ht fun tk => PV.trans st (PV.plain st.sim rel_bool q₁))
  · exact q₁.elim
end

end Mine

/-! MExpr2 -/
namespace Mine
open PySem PySem.Calls

/-! displays, arguments -/
section
variable (prog : Program) (w : World) (h₀ : Heap) (C : Oracle) (d : Nat)
noncomputable def LOk (env : Env) (vs : Vs) (es : List Expr) (as : List E) : Prop :=
  ∀ (A : Around) (s : Shared) (φ : List Addr) (σ : Store) (ρ : List V) (Q : List V → Store → Prop) (X : XPost) (pos : Pos), ROk A d → Sim h₀ s.heap φ σ → FrS h₀ s.heap φ env vs ρ → wpL C as ρ σ Q X →
    wpAny (model prog w) A (spliced (backTo pos (starEach es env))) (PVs h₀ s φ as.length Q) (PX h₀ s φ X) s
/-- boolean operators -/
noncomputable def BOk (env : Env) (vs : Vs) (es : List Expr) (as : List E) : Prop :=
  ∀ (A : Around) (s : Shared) (φ : List Addr) (σ : Store) (ρ : List V) (Q : V → Store → Prop) (X : XPost) (pos : Pos) (op : BoolOp), ROk A d → Sim h₀ s.heap φ σ → FrS h₀ s.heap φ env vs ρ → wpB C (op == .And) as ρ σ Q X →
    wpAny (model prog w) A (boolOp pos op (evalEach es env)) (PV h₀ s φ Q) (PX h₀ s φ X) s
/-- a chain of comparisons -/
noncomputable def COk (env : Env) (vs : Vs) (ops : List CmpOp) (es : List Expr) (as : List E) : Prop :=
  ∀ (A : Around) (s : Shared) (φ : List Addr) (σ : Store) (ρ : List V) (Q : Bool → Store → Prop) (X : XPost) (pos : Pos) (V : V) (v : Value), ROk A d → Sim h₀ s.heap φ σ → FrS h₀ s.heap φ env vs ρ → Rel s.heap φ V v →
    wpC C (ops.map cCmp) as V ρ σ Q X →
    wpAny (model prog w) A (compareChain pos v ops (evalEach es env)) (PV h₀ s φ fun x σ' => ∃ b, x = .bool b ∧ Q b σ') (PX h₀ s φ X) s ∧
    wpAny (model prog w) A (testChain pos v ops (evalEach es env)) (PB h₀ s φ Q) (PX h₀ s φ X) s
/-- a test -/
noncomputable def TOk (env : Env) (vs : Vs) (e : Expr) (a : E) : Prop :=
  ∀ (A : Around) (s : Shared) (φ : List Addr) (σ : Store) (ρ : List V) (Q : Bool → Store → Prop) (X : XPost), ROk A d → Sim h₀ s.heap φ σ → FrS h₀ s.heap φ env vs ρ → wpT C a (wpE C a ρ σ) ρ σ Q X →
    wpAny (model prog w) A (isTrue e env (eval e env)) (PB h₀ s φ Q) (PX h₀ s φ X) s
/-- tests, all of them or one of them -/
noncomputable def AOk (env : Env) (vs : Vs) (es : List Expr) (as : List E) : Prop :=
  ∀ (A : Around) (s : Shared) (φ : List Addr) (σ : Store) (ρ : List V) (Q : Bool → Store → Prop) (X : XPost), ROk A d → Sim h₀ s.heap φ σ → FrS h₀ s.heap φ env vs ρ →
    (wpTs C as ρ σ Q X → wpAny (model prog w) A (allTrue .And es env) (PB h₀ s φ Q) (PX h₀ s φ X) s) ∧
    (wpTo C as ρ σ Q X → wpAny (model prog w) A (allTrue .Or es env) (PB h₀ s φ Q) (PX h₀ s φ X) s)
end

noncomputable def NoStar (e : Expr) : Prop := ∀ rest env, starEach (e :: rest) env = (false, eval e env) :: starEach rest env

section
variable {prog : Program} {w : World} {h₀ : Heap} {C : Oracle} {d : Nat} {env : Env} {vs : Vs}

theorem lok_nil : LOk prog w h₀ C d env vs [] [] := fun A s φ σ ρ Q X pos _ S _ q => by
  rw [wpL] at q
  exact wpAny_items_nil ⟨φ, σ, [], Step.refl S, by rw [RelL]; trivial, rfl, q⟩
theorem lok_cons {e : Expr} {a : E} {es : List Expr} {as : List E} (hn : NoStar e) (he : EOk prog w h₀ C d env vs e a) (hes : LOk prog w h₀ C d env vs es as) : LOk prog w h₀ C d env vs (e :: es) (a :: as) :=
  fun A s φ σ ρ Q X pos R S F q => by
  rw [wpL] at q
  refine wpAny_items_cons (wpAny_mono (he A s φ σ ρ _ X R S F q) (fun x s₁ y => ?_) fun _ _ e => e) (hn es env)
  obtain ⟨φ₁, σ₁, V, st, rl, q₁⟩ := y
  refine wpAny_mono (hes A s₁ φ₁ σ₁ ρ _ X pos R st.sim (F.step S st) q₁) (fun x' s₂ y => ?_) fun _ _ e => PX.trans st e
  obtain ⟨φ₂, σ₂, W, st₂, rl₂, hl, q₂⟩ := y
  exact ⟨φ₂, σ₂, V :: W, st.trans st₂, by rw [RelL]; exact ⟨rl.step st.sim st₂, rl₂⟩, by simp [hl], q₂⟩

theorem ok_tup {es : List Expr} {as : List E} {k pos} (h : LOk prog w h₀ C d env vs es as) (hz : as.length ≤ 1000) : EOk prog w h₀ C d env vs (.Tuple es k pos) (.tup as) := fun A s φ σ ρ Q X R S F q => by
  rw [wpE] at q
  refine wpAny_Tuple (wpAny_mono (h A s φ σ ρ _ X pos R S F q) (fun x s₁ y => ?_) fun _ _ e => e)
  obtain ⟨φ₁, σ₁, Vs, st, rl, hl, q₁⟩ := y
  exact ⟨size_le (by rw [← rl.length, hl]; unfold maxLen; omega), PV.trans st (PV.tuple (n := 0) (tk := s₁.toks) st.sim rl q₁)⟩
theorem ok_list {es : List Expr} {as : List E} {pos} (h : LOk prog w h₀ C d env vs es as) (hz : as.length ≤ 1000) : EOk prog w h₀ C d env vs (.List es pos) (.list as) := fun A s φ σ ρ Q X R S F q => by
  rw [wpE] at q
  refine wpAny_List (wpAny_mono (h A s φ σ ρ _ X pos R S F q) (fun x s₁ y => ?_) fun _ _ e => e)
  obtain ⟨φ₁, σ₁, Vs, st, rl, hl, q₁⟩ := y
  exact ⟨size_le (by rw [← rl.length, hl]; unfold maxLen; omega), PV.trans st (PV.list (n := 0) (tk := s₁.toks) st.sim rl (by omega) q₁)⟩

/-! boolean operators -/
theorem bok_one {e : Expr} {a : E} (h : EOk prog w h₀ C d env vs e a) : BOk prog w h₀ C d env vs [e] [a] := fun A s φ σ ρ Q X pos op R S F q => by
  rw [wpB] at q
  simp only [List.isEmpty_nil, if_true] at q
  exact h A s φ σ ρ _ X R S F q
theorem bok_cons {e e' : Expr} {a a' : E} {es : List Expr} {as : List E} (h : EOk prog w h₀ C d env vs e a) (hs : BOk prog w h₀ C d env vs (e' :: es) (a' :: as)) : BOk prog w h₀ C d env vs (e :: e' :: es) (a :: a' :: as) :=
  fun A s φ σ ρ Q X pos op R S F q => by
  rw [wpB] at q
  simp only [List.isEmpty_cons, Bool.false_eq_true, if_false] at q
  show wpAny (model prog w) A (do
    let v ← eval e env
    standAt pos
    let t ← holding [v] (truthy v)
    match op, t with
    | .And, false | .Or, true => pure v
    | _, _ => boolOp pos op (evalEach (e' :: es) env)) _ _ s
  refine wpAny_bind (wpAny_mono (h A s φ σ ρ _ X R S F q) (fun x s₁ y => ?_) fun _ _ e => e)
  obtain ⟨φ₁, σ₁, V, st, rl, q₁⟩ := y
  refine wpAny_bind (wpAny_standAt (wpAny_bind (wpAny_holding ?_)))
  split at q₁
  · rename_i b ht
    refine truthy_ok st.sim rl ht fun tk => ?_
    have st' : Step h₀ noOwn s { s₁ with toks := tk } φ φ₁ σ₁ := st.trans (Step.toks st.sim tk)
    cases op <;> cases b <;> simp at q₁ <;> first
      | exact wpAny_pure ⟨φ₁, σ₁, V, st', rl, q₁⟩
      | exact wpAny_mono (hs A { s₁ with toks := tk } φ₁ σ₁ ρ Q X pos _ R st'.sim (F.step S st') q₁) (fun _ _ z => PV.trans st' z) (fun _ _ z => PX.trans st' z)
  · exact q₁.elim
theorem ok_and {es : List Expr} {as : List E} {pos} (h : BOk prog w h₀ C d env vs es as) : EOk prog w h₀ C d env vs (.BoolOp .And es pos) (.and as) := fun A s φ σ ρ Q X R S F q => by
  rw [wpE] at q
  exact h A s φ σ ρ Q X pos .And R S F q
theorem ok_or {es : List Expr} {as : List E} {pos} (h : BOk prog w h₀ C d env vs es as) : EOk prog w h₀ C d env vs (.BoolOp .Or es pos) (.or as) := fun A s φ σ ρ Q X R S F q => by
  rw [wpE] at q
  exact h A s φ σ ρ Q X pos .Or R S F q
end
end Mine

/-! MCmp -/
namespace Mine
open PySem PySem.Calls

theorem mapO_reads {h : Heap} {φ : List Addr} {f : V → Option PyData} (hf : ∀ V v dt, f V = some dt → Rel h φ V v → ∃ as, Reads h v dt as) :
    ∀ (Vs : List V) (vs : List Value) (ds : List PyData), mapO f Vs = some ds → RelL h φ Vs vs → ∃ as, ReadsAll h vs ds as
  | [], [], ds, e, _ => by simp only [mapO, Option.some.injEq] at e; subst e; exact ⟨_, .nil⟩
  | V :: Vs, v :: vs, ds, e, r => by
    rw [RelL] at r
    simp only [mapO] at e
    split at e
    · rename_i b bs e1 e2
      simp only [Option.some.injEq] at e; subst e
      obtain ⟨as, h1⟩ := hf V v b e1 r.1
      obtain ⟨bs', h2⟩ := mapO_reads hf Vs vs bs e2 r.2
      exact ⟨_, .cons h1 h2⟩
    · cases e
  | [], _ :: _, _, _, r => by rw [RelL] at r; exact r.elim
  | _ :: _, [], _, _, r => by rw [RelL] at r; exact r.elim
theorem mapO_depth {f : V → Option PyData} {n : Nat} (hf : ∀ V dt, f V = some dt → dt.depth ≤ n) : ∀ (Vs : List V) (ds : List PyData), mapO f Vs = some ds → PyData.depthAll ds ≤ n
  | [], ds, e => by simp only [mapO, Option.some.injEq] at e; subst e; simp [PyData.depthAll]
  | V :: Vs, ds, e => by
    simp only [mapO] at e
    split at e
    · rename_i b bs e1 e2
      simp only [Option.some.injEq] at e; subst e
      have h1 := hf V b e1
      have h2 := mapO_depth hf Vs bs e2
      rw [PyData.depthAll]; omega
    · cases e

theorem toD_depth {σ : Store} : ∀ (n : Nat) (V : V) (dt : PyData), toD σ n V = some dt → dt.depth ≤ n
  | 0, _, _, e => by simp [toD] at e
  | n + 1, V, dt, e => by
    cases V <;> simp only [toD, Option.some.injEq, reduceCtorEq] at e
    case none => subst e; simp [PyData.depth]
    case bool => subst e; simp [PyData.depth]
    case int => subst e; simp [PyData.depth]
    case str => subst e; simp [PyData.depth]
    case tup vs =>
      obtain ⟨ds, e1, rfl⟩ := Option.map_eq_some_iff.mp e
      have := mapO_depth (fun V dt => toD_depth n V dt) vs ds e1
      rw [PyData.depth]; omega
    case ref k =>
      split at e
      · rename_i vs _
        obtain ⟨ds, e1, rfl⟩ := Option.map_eq_some_iff.mp e
        have := mapO_depth (fun V dt => toD_depth n V dt) vs ds e1
        rw [PyData.depth]; omega
      · cases e

theorem toD_reads {h₀ h : Heap} {φ : List Addr} {σ : Store} (S : Sim h₀ h φ σ) : ∀ (n : Nat) (V : V) (v : Value) (dt : PyData), toD σ n V = some dt → Rel h φ V v → ∃ as, Reads h v dt as
  | 0, _, _, _, e, _ => by simp [toD] at e
  | n + 1, V, v, dt, e, r => by
    cases V <;> simp only [toD, Option.some.injEq, reduceCtorEq] at e
    case none => rw [Rel] at r; subst r e; exact ⟨_, .none⟩
    case bool => rw [Rel] at r; subst r e; exact ⟨_, .bool _⟩
    case int => rw [Rel] at r; obtain ⟨t, rfl⟩ := r; subst e; exact ⟨_, .int _ _⟩
    case str => rw [Rel] at r; obtain ⟨t, rfl⟩ := r; subst e; exact ⟨_, .str _ _⟩
    case tup vs =>
      obtain ⟨ds, e1, rfl⟩ := Option.map_eq_some_iff.mp e
      rw [Rel] at r
      obtain ⟨a, items, k, rfl, g, rl⟩ := r
      obtain ⟨as, ra⟩ := mapO_reads (fun V v dt e r => toD_reads S n V v dt e r) vs _ ds e1 rl
      exact ⟨_, .tuple g rfl rfl ra⟩
    case ref k =>
      split at e
      · rename_i vs ek
        obtain ⟨ds, e1, rfl⟩ := Option.map_eq_some_iff.mp e
        rw [Rel] at r
        obtain ⟨a, rfl, ea⟩ := r
        obtain ⟨a', ea', items, ⟨z, g⟩, rl, _⟩ := S.obj k _ ek
        rw [ea] at ea'; cases ea'
        obtain ⟨as, ra⟩ := mapO_reads (fun V v dt e r => toD_reads S n V v dt e r) vs _ ds e1 rl
        exact ⟨_, .list g rfl rfl ra⟩
      · cases e

section
variable {prog : Program} {w : World} {h₀ : Heap} {A : Around} {s : Shared} {φ : List Addr} {σ : Store} {E : Value → Shared → Prop} {V W : Mine.V} {v u : Value} {b : Bool} {R : Value → Shared → Prop}

theorem eq_ok (S : Sim h₀ s.heap φ σ) (hu : A.units + 100 < 9900) (r1 : Rel s.heap φ V v) (r2 : Rel s.heap φ W u) (e : eqV σ V W = some b) (h : R (.bool b) s) : wpAny (model prog w) A (compareOp .Eq v u) R E s := by
  unfold eqV at e
  split at e
  · rename_i x y ex ey
    split at e
    · rename_i hl
      simp only [Bool.and_eq_true] at hl
      simp only [Option.some.injEq] at e; subst e
      obtain ⟨as, ra⟩ := toD_reads S 6 V v x ex r1
      obtain ⟨bs, rb⟩ := toD_reads S 6 W u y ey r2
      have h1 := toD_depth 6 V x ex
      exact SeqAt.compareEq_reads ra rb hl.1 hl.2 (by unfold cLine; omega) h
    · cases e
  · cases e
theorem ne_ok (S : Sim h₀ s.heap φ σ) (hu : A.units + 100 < 9900) (r1 : Rel s.heap φ V v) (r2 : Rel s.heap φ W u) (e : eqV σ V W = some b) (h : R (.bool (!b)) s) : wpAny (model prog w) A (compareOp .NotEq v u) R E s := by
  unfold eqV at e
  split at e
  · rename_i x y ex ey
    split at e
    · rename_i hl
      simp only [Bool.and_eq_true] at hl
      simp only [Option.some.injEq] at e; subst e
      obtain ⟨as, ra⟩ := toD_reads S 6 V v x ex r1
      obtain ⟨bs, rb⟩ := toD_reads S 6 W u y ey r2
      have h1 := toD_depth 6 V x ex
      exact SeqAt.compareNe_reads ra rb hl.1 hl.2 (by unfold cLine; omega) h
    · cases e
  · cases e
theorem in_ok (S : Sim h₀ s.heap φ σ) (hu : A.units + 100 < 9900) (r1 : Rel s.heap φ V v) (r2 : Rel s.heap φ W u) (e : inV σ V W = some b) (h : R (.bool b) s) : wpAny (model prog w) A (compareOp .In v u) R E s := by
  unfold inV at e
  split at e
  · rename_i x ys ex ey
    split at e
    · rename_i hl
      simp only [Bool.and_eq_true] at hl
      simp only [Option.some.injEq] at e; subst e
      obtain ⟨as, ra⟩ := toD_reads S 6 V v x ex r1
      obtain ⟨bs, rb⟩ := toD_reads S 6 W u _ ey r2
      have h1 := toD_depth 6 V x ex
      exact SeqAt.in_list_reads rb ra hl.2 hl.1 (by unfold cLine; omega) h
    · cases e
  · rename_i x ys ex ey
    split at e
    · rename_i hl
      simp only [Bool.and_eq_true] at hl
      simp only [Option.some.injEq] at e; subst e
      obtain ⟨as, ra⟩ := toD_reads S 6 V v x ex r1
      obtain ⟨bs, rb⟩ := toD_reads S 6 W u _ ey r2
      have h1 := toD_depth 6 V x ex
      exact SeqAt.in_tuple_reads rb ra hl.2 hl.1 (by unfold cLine; omega) h
    · cases e
  · cases e
theorem notIn_ok (S : Sim h₀ s.heap φ σ) (hu : A.units + 100 < 9900) (r1 : Rel s.heap φ V v) (r2 : Rel s.heap φ W u) (e : inV σ V W = some b) (h : R (.bool (!b)) s) : wpAny (model prog w) A (compareOp .NotIn v u) R E s := by
  unfold inV at e
  split at e
  · rename_i x ys ex ey
    split at e
    · rename_i hl
      simp only [Bool.and_eq_true] at hl
      simp only [Option.some.injEq] at e; subst e
      obtain ⟨as, ra⟩ := toD_reads S 6 V v x ex r1
      obtain ⟨bs, rb⟩ := toD_reads S 6 W u _ ey r2
      have h1 := toD_depth 6 V x ex
      exact SeqAt.notIn_list_reads rb ra hl.2 hl.1 (by unfold cLine; omega) h
    · cases e
  · rename_i x ys ex ey
    split at e
    · rename_i hl
      simp only [Bool.and_eq_true] at hl
      simp only [Option.some.injEq] at e; subst e
      obtain ⟨as, ra⟩ := toD_reads S 6 V v x ex r1
      obtain ⟨bs, rb⟩ := toD_reads S 6 W u _ ey r2
      have h1 := toD_depth 6 V x ex
      exact SeqAt.notIn_tuple_reads rb ra hl.2 hl.1 (by unfold cLine; omega) h
    · cases e
  · cases e

theorem tupLt_tree {a c : Addr} {xs ys : List Mine.V} {ix iy : Array Value} {n k : Nat} (gx : IsT s.heap a ix n) (gy : IsT s.heap c iy k) (rx : RelL s.heap φ xs ix.toList) (ry : RelL s.heap φ ys iy.toList) (e : ltInts xs ys = some b)
    {P : Fin → Shared → Prop} (h : P (.done (.ret (.bool b))) s) : wpAny (model prog w) A (Builtin.«tuple.__lt__» ⟨[.ref a, .ref c], []⟩) P E s := by
  show wpAny _ _ (isInstance (.ref c) (.type "tuple") >>= _) _ _ s
  refine wpAny_bind (wpAny_isInstance (T := "tuple") ⟨_, gy, rfl⟩ AutoSeq1.sub_tuple_tuple ?_)
  simp only [Bool.not_true, Bool.false_eq_true, if_false]
  refine wpAny_bind (wpAny_tupleItemsOf gx rfl ?_)
  refine wpAny_bind (wpAny_tupleItemsOf gy rfl ?_)
  refine wpAny_bind ?_
  refine wpAny_forIn_list _
    (fun rest r s' => r.1 = none ∧ s' = s ∧ ∃ x' y' xs' ys', rest = List.zip xs' ys' ∧ RelL s.heap φ x' xs' ∧ RelL s.heap φ y' ys' ∧ ltInts x' y' = some b ∧ xs'.length + iy.size = ys'.length + ix.size)
    _ ?_ ?_ _ _ ⟨rfl, rfl, xs, ys, ix.toList, iy.toList, rfl, rx, ry, e, by simp [Nat.add_comm]⟩
  · rintro ⟨u, v⟩ rest r s' ⟨hr, rfl, x', y', xs', ys', hz, hx', hy', hb, hlen⟩
    match x', xs', y', ys', hx', hy' with
    | [], [], _, _, _, _ => simp at hz
    | V :: x'', v₁ :: xs'', [], [], _, _ => simp at hz
    | V :: x'', v₁ :: xs'', W :: y'', v₂ :: ys'', hx', hy' =>
      rw [RelL] at hx' hy'
      simp only [List.zip_cons_cons, List.cons.injEq, Prod.mk.injEq] at hz
      obtain ⟨⟨rfl, rfl⟩, rfl⟩ := hz
      cases V <;> cases W <;> simp only [ltInts, reduceCtorEq] at hb
      rename_i p q
      have hp := hx'.1
      have hq := hy'.1
      rw [Rel] at hp hq
      obtain ⟨t, rfl⟩ := hp
      obtain ⟨t', rfl⟩ := hq
      refine wpAny_bind (wpAny_eqBool_int ?_)
      by_cases hpq : p = q
      · subst hpq
        simp only [beq_self_eq_true, Bool.not_true, Bool.false_eq_true, if_false]
        simp only [if_true] at hb
        exact wpAny_pure ⟨rfl, rfl, x'', y'', xs'', ys'', rfl, hx'.2, hy'.2, hb, by simpa [Nat.succ_add] using hlen⟩
      · have : (p == q) = false := by simpa using hpq
        rw [this]
        simp only [Bool.not_false, if_true]
        simp only [if_neg hpq, Option.some.injEq] at hb
        refine wpAny_bind (wpAny_rule (wpAny_bind (PyProof.Rows.lt_int (wpAny_bind (wpAny_pure (wpAny_pure ?_))))))
        rw [hb]; exact wpAny_pure h
    | [], _ :: _, _, _, hx', _ => rw [RelL] at hx'; exact hx'.elim
    | _ :: _, [], _, _, hx', _ => rw [RelL] at hx'; exact hx'.elim
    | _, _, [], _ :: _, _, hy' => rw [RelL] at hy'; exact hy'.elim
    | _, _, _ :: _, [], _, hy' => rw [RelL] at hy'; exact hy'.elim
  · rintro ⟨r1, r2⟩ s' ⟨hr, rfl, x', y', xs', ys', hz, hx', hy', hb, hlen⟩
    simp only at hr
    subst hr
    refine wpAny_pure ?_
    have : decide (ix.size < iy.size) = b := by
      have l1 := hx'.length
      have l2 := hy'.length
      match x', y', hb with
      | [], [], hb => simp only [ltInts, Option.some.injEq] at hb; subst hb; simp at l1 l2; simp; omega
      | [], _ :: _, hb => simp only [ltInts, Option.some.injEq] at hb; subst hb; simp at l1 l2; simp; omega
      | _ :: _, [], hb => simp only [ltInts, Option.some.injEq] at hb; subst hb; simp at l1 l2; simp; omega
      | _ :: _, _ :: _, _ =>
        match xs', ys', hx', hy' with
        | _ :: _, _ :: _, _, _ => simp at hz
        | [], _, hx', _ => rw [RelL] at hx'; exact hx'.elim
        | _ :: _, [], _, hy' => rw [RelL] at hy'; exact hy'.elim
    rw [← this] at h
    exact h

theorem tupLt_ok {xs ys : List Mine.V} (hu : A.units + 100 < 9900) (r1 : Rel s.heap φ (.tup xs) v) (r2 : Rel s.heap φ (.tup ys) u) (e : ltInts xs ys = some b) (h : R (.bool b) s) : wpAny (model prog w) A (compareOp .Lt v u) R E s := by
  rw [Rel] at r1 r2
  obtain ⟨a, ix, n, rfl, gx, rx⟩ := r1
  obtain ⟨c, iy, k, rfl, gy, ry⟩ := r2
  refine wpAny_richCompare_same_room (op := .Lt) (T := "tuple") ⟨_, gx, rfl⟩ ⟨_, gy, rfl⟩ F.slot_tuple_lt (wpAny_call_entry F.slot_tuple_lt ⟨_, gx, rfl⟩ F.entry_tuple_lt (tupLt_tree gx gy rx ry e ?_) (F.args_tuple_lt_2 _ _)) (by unfold cLine; omega)
  exact ⟨_, rfl, by simp, h⟩

theorem rel_isNone (r : Rel s.heap φ V v) : (v == .none) = (match V with | .none => true | _ => false) := by
  cases V <;> rw [Rel] at r
  · exact r.elim
  · subst r; rfl
  · subst r; rfl
  · obtain ⟨t, rfl⟩ := r; rfl
  · obtain ⟨t, rfl⟩ := r; rfl
  · obtain ⟨a, _, _, rfl, _⟩ := r; rfl
  · obtain ⟨a, rfl, _⟩ := r; rfl

/-- a comparison -/
theorem cmp_ok {op : CmpOp} (S : Sim h₀ s.heap φ σ) (hu : A.units + 100 < 9900) (r1 : Rel s.heap φ V v) (r2 : Rel s.heap φ W u) (e : cmpV σ (cCmp op) V W = some b) (h : ∀ tk, R (.bool b) { s with toks := tk }) :
    wpAny (model prog w) A (compareOp op v u) R E s := by
  cases op <;> simp only [cCmp, cmpV] at e
  · exact eq_ok S hu r1 r2 e (h s.toks)
  · obtain ⟨c, e', rfl⟩ := Option.map_eq_some_iff.mp e
    exact ne_ok S hu r1 r2 e' (h s.toks)
  · cases V <;> cases W <;> simp only [ltV, Option.some.injEq, reduceCtorEq] at e
    case int.int x y =>
      rw [Rel] at r1 r2
      obtain ⟨t, rfl⟩ := r1
      obtain ⟨t', rfl⟩ := r2
      subst e
      exact PyProof.Rows.lt_int (h s.toks)
    case tup.tup xs ys => exact tupLt_ok hu r1 r2 e (h s.toks)
  · cases V <;> cases W <;> simp only [Option.some.injEq, reduceCtorEq] at e
    rw [Rel] at r1 r2
    obtain ⟨t, rfl⟩ := r1
    obtain ⟨t', rfl⟩ := r2
    subst e
    exact PySem.P.le_int (h s.toks)
  · cases V <;> cases W <;> simp only [Option.some.injEq, reduceCtorEq] at e
    rw [Rel] at r1 r2
    obtain ⟨t, rfl⟩ := r1
    obtain ⟨t', rfl⟩ := r2
    subst e
    exact PyProof.Rows.gt_int (h s.toks)
  · cases V <;> cases W <;> simp only [Option.some.injEq, reduceCtorEq] at e
    rw [Rel] at r1 r2
    obtain ⟨t, rfl⟩ := r1
    obtain ⟨t', rfl⟩ := r2
    subst e
    exact PySem.P.ge_int (h s.toks)
  · cases W <;> simp only [reduceCtorEq] at e
    rw [Rel] at r2; subst r2
    refine is_none ?_
    rw [rel_isNone r1]
    cases V <;> simp only [Option.some.injEq, reduceCtorEq] at e <;> subst e <;> exact h s.toks
  · cases W <;> simp only [reduceCtorEq] at e
    rw [Rel] at r2; subst r2
    refine isNot_none ?_
    rw [rel_isNone r1]
    cases V <;> simp only [Option.some.injEq, reduceCtorEq] at e <;> subst e <;> exact h s.toks
  · exact in_ok S hu r1 r2 e (h s.toks)
  · obtain ⟨c, e', rfl⟩ := Option.map_eq_some_iff.mp e
    exact notIn_ok S hu r1 r2 e' (h s.toks)
end

end Mine

/-! MTest -/
namespace Mine
open PySem PySem.Calls

theorem ROk.u100 {A : Around} {d : Nat} (R : ROk A d) : A.units + 100 < 9900 := by have := R.units; omega

theorem PV.bool {h₀ : Heap} {s : Shared} {φ : List Addr} {Q : Bool → Store → Prop} {v : Value} {s' : Shared} (y : PV h₀ s φ (fun x σ' => ∃ b, x = .bool b ∧ Q b σ') v s') : ∃ b, v = .bool b ∧ PB h₀ s φ Q b s' := by
  obtain ⟨φ', σ', V, st, r, b, rfl, q⟩ := y
  rw [Rel] at r
  exact ⟨b, r, φ', σ', st, q⟩

section
variable {prog : Program} {w : World} {h₀ : Heap} {C : Oracle} {d : Nat} {env : Env} {vs : Vs}

theorem cok_one {op : CmpOp} {e : Expr} {a : E} (h : EOk prog w h₀ C d env vs e a) : COk prog w h₀ C d env vs [op] [e] [a] := fun A s φ σ ρ Q X pos V v R S F r q => by
  simp only [List.map_cons, List.map_nil] at q
  rw [wpC] at q
  constructor
  · show wpAny (model prog w) A (do
      let rv ← holding [v] (eval e env)
      standAt pos
      operate [v, rv] (compareOp op v rv)) _ _ s
    refine wpAny_bind (wpAny_holding (wpAny_mono (h A s φ σ ρ _ X R S F q) (fun x s₁ y => ?_) fun _ _ e => e))
    obtain ⟨φ₁, σ₁, W, st, rl, q₁⟩ := y
    refine wpAny_bind (wpAny_standAt (PyProof.Rows.wpAny_operate' ?_))
    split at q₁
    · rename_i b hb
      simp only [List.isEmpty_nil, Bool.true_or, if_true] at q₁
      exact cmp_ok st.sim R.u100 (r.step S st) rl hb fun tk => PV.trans st (PV.plain st.sim rel_bool ⟨b, rfl, q₁⟩)
    · exact q₁.elim
  · show wpAny (model prog w) A (do
      let rv ← holding [v] (eval e env)
      standAt pos
      let c ← operate [v, rv] (compareOp op v rv)
      holding [c] (truthy c)) _ _ s
    refine wpAny_bind (wpAny_holding (wpAny_mono (h A s φ σ ρ _ X R S F q) (fun x s₁ y => ?_) fun _ _ e => e))
    obtain ⟨φ₁, σ₁, W, st, rl, q₁⟩ := y
    refine wpAny_bind (wpAny_standAt (wpAny_bind (PyProof.Rows.wpAny_operate' ?_)))
    split at q₁
    · rename_i b hb
      simp only [List.isEmpty_nil, Bool.true_or, if_true] at q₁
      exact cmp_ok st.sim R.u100 (r.step S st) rl hb fun tk => wpAny_holding (wpAny_truthy_bool ⟨φ₁, σ₁, st.trans (Step.toks st.sim tk), q₁⟩)
    · exact q₁.elim

theorem cok_cons {op op' : CmpOp} {ops : List CmpOp} {e e' : Expr} {es : List Expr} {a a' : E} {as : List E} (h : EOk prog w h₀ C d env vs e a) (hs : COk prog w h₀ C d env vs (op' :: ops) (e' :: es) (a' :: as)) :
    COk prog w h₀ C d env vs (op :: op' :: ops) (e :: e' :: es) (a :: a' :: as) := fun A s φ σ ρ Q X pos V v R S F r q => by
  simp only [List.map_cons] at q
  rw [wpC] at q
  constructor
  · show wpAny (model prog w) A (do
      let rv ← holding [v] (eval e env)
      standAt pos
      let c ← holding [v, rv] (compareOp op v rv)
      release [v, rv] [c]
      if ← holding [c, rv] (truthy c) then compareChain pos rv (op' :: ops) (evalEach (e' :: es) env) else pure c) _ _ s
    refine wpAny_bind (wpAny_holding (wpAny_mono (h A s φ σ ρ _ X R S F q) (fun x s₁ y => ?_) fun _ _ e => e))
    obtain ⟨φ₁, σ₁, W, st, rl, q₁⟩ := y
    refine wpAny_bind (wpAny_standAt (wpAny_bind (wpAny_holding ?_)))
    split at q₁
    · rename_i b hb
      simp only [List.isEmpty_cons, Bool.false_or] at q₁
      refine cmp_ok st.sim R.u100 (r.step S st) rl hb fun tk => ?_
      have st' : Step h₀ noOwn s { s₁ with toks := tk } φ φ₁ σ₁ := st.trans (Step.toks st.sim tk)
      refine wpAny_bind (PyProof.Rows.wpAny_release' (wpAny_bind (wpAny_holding (wpAny_truthy_bool ?_))))
      cases b with
      | false =>
        simp at q₁
        exact wpAny_pure ⟨φ₁, σ₁, .bool false, st', rel_bool, false, rfl, q₁⟩
      | true =>
        simp at q₁
        simp only [if_true]
        exact wpAny_mono (hs A { s₁ with toks := tk } φ₁ σ₁ ρ Q X pos W x R st'.sim (F.step S st') rl (by simpa using q₁)).1 (fun _ _ z => PV.trans st' z) (fun _ _ z => PX.trans st' z)
    · exact q₁.elim
  · show wpAny (model prog w) A (do
      let rv ← holding [v] (eval e env)
      standAt pos
      let c ← holding [v, rv] (compareOp op v rv)
      release [v, rv] [c]
      if ← holding [c, rv] (truthy c) then testChain pos rv (op' :: ops) (evalEach (e' :: es) env) else pure false) _ _ s
    refine wpAny_bind (wpAny_holding (wpAny_mono (h A s φ σ ρ _ X R S F q) (fun x s₁ y => ?_) fun _ _ e => e))
    obtain ⟨φ₁, σ₁, W, st, rl, q₁⟩ := y
    refine wpAny_bind (wpAny_standAt (wpAny_bind (wpAny_holding ?_)))
    split at q₁
    · rename_i b hb
      simp only [List.isEmpty_cons, Bool.false_or] at q₁
      refine cmp_ok st.sim R.u100 (r.step S st) rl hb fun tk => ?_
      have st' : Step h₀ noOwn s { s₁ with toks := tk } φ φ₁ σ₁ := st.trans (Step.toks st.sim tk)
      refine wpAny_bind (PyProof.Rows.wpAny_release' (wpAny_bind (wpAny_holding (wpAny_truthy_bool ?_))))
      cases b with
      | false =>
        simp at q₁
        exact wpAny_pure ⟨φ₁, σ₁, st', q₁⟩
      | true =>
        simp at q₁
        simp only [if_true]
        exact wpAny_mono (hs A { s₁ with toks := tk } φ₁ σ₁ ρ Q X pos W x R st'.sim (F.step S st') rl (by simpa using q₁)).2 (fun _ _ z => PB.trans st' z) (fun _ _ z => PX.trans st' z)
    · exact q₁.elim

theorem ok_cmp {l : Expr} {a : E} {ops : List CmpOp} {es : List Expr} {as : List E} {pos} (hm : lastMarks ops es = false) (h : EOk prog w h₀ C d env vs l a) (hs : COk prog w h₀ C d env vs ops es as) :
    EOk prog w h₀ C d env vs (.Compare l ops es pos) (.cmp a (ops.map cCmp) as) := fun A s φ σ ρ Q X R S F q => by
  rw [wpE] at q
  rw [arm_eval_Compare, PyProof.Rows.markedEach_of_false _ _ _ hm]
  refine wpAny_bind (wpAny_mono (h A s φ σ ρ _ X R S F q) (fun x s₁ y => ?_) fun _ _ e => e)
  obtain ⟨φ₁, σ₁, V, st, rl, q₁⟩ := y
  refine wpAny_mono (hs A s₁ φ₁ σ₁ ρ _ X pos V x R st.sim (F.step S st) rl q₁).1 (fun v s₂ z => PV.trans st ?_) (fun _ _ z => PX.trans st z)
  obtain ⟨φ', σ', V', st', r', b, rfl, q'⟩ := z
  exact ⟨φ', σ', _, st', r', q'⟩
theorem tok_cmp {l : Expr} {a : E} {ops : List CmpOp} {es : List Expr} {as : List E} {pos} (hm : lastMarks ops es = false) (h : EOk prog w h₀ C d env vs l a) (hs : COk prog w h₀ C d env vs ops es as) :
    TOk prog w h₀ C d env vs (.Compare l ops es pos) (.cmp a (ops.map cCmp) as) := fun A s φ σ ρ Q X R S F q => by
  rw [wpT] at q
  rw [arm_isTrue_Compare, PyProof.Rows.markedEach_of_false _ _ _ hm]
  refine wpAny_bind (wpAny_mono (h A s φ σ ρ _ X R S F q) (fun x s₁ y => ?_) fun _ _ e => e)
  obtain ⟨φ₁, σ₁, V, st, rl, q₁⟩ := y
  exact wpAny_mono (hs A s₁ φ₁ σ₁ ρ _ X pos V x R st.sim (F.step S st) rl q₁).2 (fun v s₂ z => PB.trans st z) (fun _ _ z => PX.trans st z)

theorem tok_not {x : Expr} {a : E} {pos} (h : TOk prog w h₀ C d env vs x a) : TOk prog w h₀ C d env vs (.UnaryOp .Not x pos) (.not a) := fun A s φ σ ρ Q X R S F q => by
  rw [wpT] at q
  rw [arm_isTrue_UnaryOp]
  refine wpAny_bind (wpAny_mono (h A s φ σ ρ _ X R S F q) (fun x s₁ y => wpAny_pure ?_) fun _ _ e => e)
  obtain ⟨φ₁, σ₁, st, q₁⟩ := y
  exact ⟨φ₁, σ₁, st, q₁⟩
theorem tok_and {es : List Expr} {as : List E} {pos} (h : AOk prog w h₀ C d env vs es as) : TOk prog w h₀ C d env vs (.BoolOp .And es pos) (.and as) := fun A s φ σ ρ Q X R S F q => by
  rw [wpT] at q
  exact (h A s φ σ ρ Q X R S F).1 q
theorem tok_or {es : List Expr} {as : List E} {pos} (h : AOk prog w h₀ C d env vs es as) : TOk prog w h₀ C d env vs (.BoolOp .Or es pos) (.or as) := fun A s φ σ ρ Q X R S F q => by
  rw [wpT] at q
  exact (h A s φ σ ρ Q X R S F).2 q
/-- a test of another kind: by its value -/
theorem tok_val {e : Expr} {a : E} (he : ∀ env whole, isTrue e env whole = (do let v ← whole; standAt e.pos; holding [v] (truthy v)))
    (ha : ∀ (whole : (V → Store → Prop) → XPost → Prop) ρ σ Q X, wpT C a whole ρ σ Q X → whole (fun v σ₁ => match truth σ₁ v with | some b => Q b σ₁ | Option.none => False) X)
    (h : EOk prog w h₀ C d env vs e a) : TOk prog w h₀ C d env vs e a := fun A s φ σ ρ Q X R S F q => by
  have q := ha _ ρ σ Q X q
  rw [he]
  refine wpAny_bind (wpAny_mono (h A s φ σ ρ _ X R S F q) (fun x s₁ y => ?_) fun _ _ e => e)
  obtain ⟨φ₁, σ₁, V, st, rl, q₁⟩ := y
  refine wpAny_bind (wpAny_standAt (wpAny_holding ?_))
  split at q₁
  · rename_i b hb
    exact truthy_ok st.sim rl hb fun tk => ⟨φ₁, σ₁, st.trans (Step.toks st.sim tk), q₁⟩
  · exact q₁.elim

theorem aok_nil : AOk prog w h₀ C d env vs [] [] := fun A s φ σ ρ Q X R S F => by
  constructor
  · intro q
    rw [wpTs] at q
    exact wpAny_pure ⟨φ, σ, Step.refl S, q⟩
  · intro q
    rw [wpTo] at q
    exact wpAny_pure ⟨φ, σ, Step.refl S, q⟩
theorem aok_cons {e : Expr} {a : E} {es : List Expr} {as : List E} (h : TOk prog w h₀ C d env vs e a) (hs : AOk prog w h₀ C d env vs es as) : AOk prog w h₀ C d env vs (e :: es) (a :: as) := fun A s φ σ ρ Q X R S F => by
  constructor
  · intro q
    rw [wpTs] at q
    rw [arm_allTrue_cons]
    refine wpAny_bind (wpAny_mono (h A s φ σ ρ _ X R S F q) (fun b s₁ y => ?_) fun _ _ e => e)
    obtain ⟨φ₁, σ₁, st, q₁⟩ := y
    cases b with
    | false => exact wpAny_pure ⟨φ₁, σ₁, st, by simpa using q₁⟩
    | true => exact wpAny_mono ((hs A s₁ φ₁ σ₁ ρ Q X R st.sim (F.step S st)).1 (by simpa using q₁)) (fun v s₂ z => PB.trans st z) (fun _ _ z => PX.trans st z)
  · intro q
    rw [wpTo] at q
    rw [arm_allTrue_cons]
    refine wpAny_bind (wpAny_mono (h A s φ σ ρ _ X R S F q) (fun b s₁ y => ?_) fun _ _ e => e)
    obtain ⟨φ₁, σ₁, st, q₁⟩ := y
    cases b with
    | true => exact wpAny_pure ⟨φ₁, σ₁, st, by simpa using q₁⟩
    | false => exact wpAny_mono ((hs A s₁ φ₁ σ₁ ρ Q X R st.sim (F.step S st)).2 (by simpa using q₁)) (fun v s₂ z => PB.trans st z) (fun _ _ z => PX.trans st z)
end

end Mine

/-! MSub -/
namespace Mine
open PySem PySem.Calls

noncomputable def NoSlice (e : Expr) : Prop := ∀ o i, subscripted e false o i = operate [o, i] (getItem o i)

theorem seqIndex_nonneg {k : Int} {n : Nat} (h : 0 ≤ k) (h' : k < n) : seqIndex? k n = some k.toNat := by
  unfold seqIndex?
  have h1 : ¬ k < 0 := by omega
  simp only [if_neg h1]
  rw [if_pos (by simp only [Bool.and_eq_true, decide_eq_true_eq]; omega)]
theorem seqIndex_neg {k : Int} {n : Nat} (h : k < 0) (h' : 0 ≤ k + n) : seqIndex? k n = some (k + n).toNat := by
  unfold seqIndex?
  simp only [if_pos h]
  rw [if_pos (by simp only [Bool.and_eq_true, decide_eq_true_eq]; omega)]
theorem idx_lt {k : Int} {n j : Nat} (h : idx k n = some j) : j < n ∧ seqIndex? k n = some j ∧ (0 ≤ k → j = k.toNat) ∧ (k < 0 → j = (k + n).toNat ∧ 0 ≤ k + n) := by
  unfold idx at h
  split at h
  · rename_i c
    simp only [Option.some.injEq] at h; subst h
    exact ⟨by omega, seqIndex_nonneg c.1 c.2, fun _ => rfl, fun h => by omega⟩
  · split at h
    · rename_i c
      simp only [Option.some.injEq] at h; subst h
      exact ⟨by omega, seqIndex_neg c.1 c.2, fun h => by omega, fun _ => ⟨rfl, c.2⟩⟩
    · cases h

theorem ofOpt_to {α : Type} {σ : Store} {o : Option α} {Q : α → Store → Prop} (q : (Res.ofOpt σ o).to Q) : ∃ a, o = some a ∧ Q a σ := by
  cases o with
  | none => exact q.elim
  | some a => exact ⟨a, rfl, q⟩

section
variable {prog : Program} {w : World} {h₀ : Heap} {C : Oracle} {d : Nat} {env : Env} {vs : Vs}

theorem sub_ok {A : Around} {s : Shared} {φ : List Addr} {σ : Store} {Q : V → Store → Prop} {E : Value → Shared → Prop} {value slice : Expr} {V W : Mine.V} {a i : Value} (S : Sim h₀ s.heap φ σ)
    (ra : Rel s.heap φ V a) (ri : Rel s.heap φ W i) (hs : NoSlice slice) (q : (subV V W σ).to Q) : wpAny (model prog w) A (PyProof.Rows.subscriptTail value slice a i) (PV h₀ s φ Q) E s := by
  cases V <;> try (cases W <;> exact q.elim)
  case tup Vs =>
    cases W <;> try exact q.elim
    case int k =>
    simp only [subV] at q
    split at q
    · rename_i hk
      simp only [small, Bool.and_eq_true, decide_eq_true_eq] at hk
      obtain ⟨x, e, q⟩ := ofOpt_to q
      obtain ⟨j, e1, e2⟩ := Option.bind_eq_some_iff.mp e
      simp only [Rel] at ra ri
      obtain ⟨t, items, n, rfl, g, rl⟩ := ra
      obtain ⟨u, rfl⟩ := ri
      obtain ⟨y, ey, ry⟩ := rl.get e2
      have hl : items.toList.length = Vs.length := rl.length.symm
      refine PyProof.Rows.item_tupleT (l := items.toList) ⟨_, g, rfl, n, by simp⟩ hk.1 hk.2 ?_ ey (PV.same S ry q) (hs _ _)
      rw [hl]; exact (idx_lt e1).2.1
    · exact q.elim
  case ref m =>
    cases W <;> try (simp only [subV] at q; exact q.elim)
    case int k =>
    simp only [subV] at q
    split at q
    · rename_i Vs em
      obtain ⟨x, e, q⟩ := ofOpt_to q
      obtain ⟨j, e1, e2⟩ := Option.bind_eq_some_iff.mp e
      obtain ⟨l, items, n, rfl, _, g, rl, z⟩ := S.list em ra
      rw [Rel] at ri
      obtain ⟨u, rfl⟩ := ri
      obtain ⟨y, ey, ry⟩ := rl.get e2
      have hl : items.size = Vs.length := by simpa using rl.length.symm
      have ij := idx_lt e1
      refine PyProof.Rows.tail_any (T := "list") ⟨_, g, rfl⟩ slot_list_getitem.lookup ?_ (hs _ _)
      by_cases h0 : 0 ≤ k
      · have := ij.2.2.1 h0
        subst this
        exact wpAny_getItem_list g.isList h0 (by omega) (by simpa using ey) (PV.same S ry q)
      · have := ij.2.2.2 (by omega)
        refine wpAny_getItem_list_neg g.isList (by omega) (by omega) (by omega) ?_ (PV.same S ry q)
        rw [hl, ← this.1]; simpa using ey
    · exact q.elim

theorem ok_sub {l r : Expr} {a b : E} {pos} (hs : NoSlice r) (hl : EOk prog w h₀ C d env vs l a) (hr : EOk prog w h₀ C d env vs r b) :
    EOk prog w h₀ C d env vs (.Subscript l r pos) (.sub a b) := fun A s φ σ ρ Q X R S F q => by
  rw [wpE] at q
  refine PyProof.Rows.Subscript_ (wpAny_mono (hl A s φ σ ρ _ X R S F q) (fun x s₁ y => ?_) fun _ _ e => e)
  obtain ⟨φ₁, σ₁, V, st, rl, q₁⟩ := y
  refine wpAny_mono (hr A s₁ φ₁ σ₁ ρ _ X R st.sim (F.step S st) q₁) (fun x' s₂ y => ?_) fun _ _ e => PX.trans st e
  obtain ⟨φ₂, σ₂, W, st₂, rl₂, q₂⟩ := y
  exact wpAny_mono (sub_ok st₂.sim (rl.step st.sim st₂) rl₂ hs q₂) (fun _ _ z => PV.trans (st.trans st₂) z) fun _ _ e => e
end
end Mine

/-! MBind -/
namespace Mine
open PySem PySem.Calls

theorem lookup_zip_gen : ∀ (xs : List Str) (vs : List Value) (T : List (Str × Value)), xs.Nodup → xs.length = vs.length → (∀ n ∈ xs, T.lookup n = (xs.zip vs).lookup n) →
    xs.filterMap (fun n => (T.lookup n).map (n, ·)) = xs.zip vs
  | [], vs, _, _, _, _ => by simp
  | x :: xs, [], _, _, h, _ => by simp at h
  | x :: xs, v :: vs, T, hnd, hl, hT => by
    have hx : x ∉ xs := (List.nodup_cons.mp hnd).1
    have h1 := hT x List.mem_cons_self
    simp only [List.zip_cons_cons, List.lookup_cons, beq_self_eq_true] at h1
    simp only [List.filterMap_cons, h1, Option.map_some, List.zip_cons_cons]
    refine congrArg _ (lookup_zip_gen xs vs T (List.nodup_cons.mp hnd).2 (by simpa using hl) fun n hn => ?_)
    have h2 := hT n (List.mem_cons_of_mem _ hn)
    have h3 : (n == x) = false := by
      cases h : n == x with
      | false => rfl
      | true => exact absurd (beq_iff_eq.mp h ▸ hn) hx
    simpa only [List.zip_cons_cons, List.lookup_cons, h3] using h2
theorem lookup_zip {names : List Str} {vals : List Value} (hnd : names.Nodup) (hl : names.length = vals.length) :
    names.filterMap (fun n => ((names.zip vals).lookup n).map (n, ·)) = names.zip vals := lookup_zip_gen names vals _ hnd hl fun _ _ => rfl

theorem lookup_zip_isSome {names : List Str} {vals : List Value} (hl : names.length = vals.length) : ∀ n ∈ names, ((names.zip vals).lookup n).isSome = true := by
  induction names generalizing vals with
  | nil => intro n h; cases h
  | cons x xs ih =>
    cases vals with
    | nil => simp at hl
    | cons v vs =>
      simp only [List.length_cons, Nat.add_right_cancel_iff] at hl
      intro n hn
      simp only [List.zip_cons_cons, List.lookup_cons]
      cases h : n == x with
      | true => rfl
      | false =>
        refine ih hl n ?_
        rcases List.mem_cons.mp hn with e | hm
        · subst e; simp at h
        · exact hm

theorem bindArgs_plain {fd : FuncData} {args : List Arg} {vals : List Value} (hp : fd.params = ⟨[], args, none, [], [], none, []⟩) (hd : fd.defaults = .none)
    (hlen : args.length = vals.length) (hnd : (args.map (·.arg)).Nodup) : bindArgs fd ⟨vals, []⟩ = pure ((args.map (·.arg)).zip vals) := by
  have hl : (args.map (·.arg)).length = vals.length := by simpa using hlen
  unfold bindArgs
  rw [hp, hd]
  have hs : seqItems? Value.none = pure none := rfl
  rw [hs]
  simp only [List.map_nil, List.nil_append, List.forIn_nil, pure_bind, Option.getD_none, List.drop_nil, List.length_nil, Nat.sub_zero, List.append_nil]
  have hmiss : ((List.map (fun x => x.arg) args).take (List.map (fun x => x.arg) args).length).filter (fun n => (((List.map (fun x => x.arg) args).zip vals).lookup n).isNone) = [] := by
    rw [List.filter_eq_nil_iff]
    intro n hn
    have := lookup_zip_isSome hl n (List.mem_of_mem_take hn)
    simp [Option.isSome_iff_ne_none] at this ⊢
    exact this
  have hmore : ¬ (vals.length > (List.map (fun x => x.arg) args).length) := by omega
  rw [if_neg (by simp only [Bool.and_eq_true, decide_eq_true_eq]; omega)]
  rw [hmiss]
  simp only [List.isEmpty_nil, Bool.not_true, Bool.false_eq_true, if_false, List.zip_nil_right, List.forIn_nil, pure_bind]
  rw [lookup_zip hnd hl]
end Mine

/-! MStore -/
namespace Mine
open PySem PySem.Calls

theorem ns_ne_cell {h : Heap} {a c : Addr} {m : Str → Option Value} {ov : Option Value} (n : h.Ns a m) (x : h.IsCell c ov) : c ≠ a := by
  rintro rfl
  obtain ⟨o, es, ep, e, d, _⟩ := n
  obtain ⟨o', e', d'⟩ := x
  rw [e] at e'; cases e'; rw [d] at d'; cases d'

theorem set_get_ne {α : Type} {l : List α} {i j : Nat} {x : α} (h : i ≠ j) : (l.set i x)[j]? = l[j]? := by simp [h]
theorem set_get_eq {α : Type} {l : List α} {i : Nat} {x : α} (h : i < l.length) : (l.set i x)[i]? = some x := by simp [h]
theorem set_get_self {α : Type} {l : List α} {i : Nat} {x y : α} (h : (l.set i x)[i]? = some y) : x = y := by
  by_cases hi : i < l.length
  · rw [set_get_eq hi] at h; cases h; rfl
  · rw [List.getElem?_eq_none (by simpa using hi)] at h; cases h

section
variable {prog : Program} {w : World} {h₀ : Heap} {A : Around} {s : Shared} {φ : List Addr} {σ : Store} {E : Value → Shared → Prop} {env : Env} {vs : Vs} {ρ : List V}

theorem store_local {x : Str} {i : Nat} {V : Mine.V} {v : Value} {Q : Unit → Shared → Prop} (S : Sim h₀ s.heap φ σ) (F : FrS h₀ s.heap φ env vs ρ) (hx : vs.lookup x = some i) (hk : env.kindOf x = some .local) (r : Rel s.heap φ V v)
    (h : ∀ s', Step h₀ (fun a => a = env.locals) s s' φ φ σ → FrS h₀ s'.heap φ env vs (ρ.set i V) → Q () s') : wpAny (model prog w) A (storeName env x v) Q E s := by
  obtain ⟨m, n, rn⟩ := F.ns
  refine wpAny_storeName_local hk n (fun h' hn hs => ?_) (by rw [F.fn]; rfl)
  have ho : ∀ a, (a = env.locals) → NoTup s.heap a ∧ a ∉ φ ∧ h₀.get? a = none := by
    rintro a rfl; exact ⟨noTup_ns n, F.locOut, F.locNew⟩
  have kk : ∀ b o, ¬ (b = env.locals) → s.heap.get? b = some o → h'.get? b = some o := fun b o hb e => (hs.2 b hb).trans e
  have S' : Sim h₀ h' φ σ := S.keepOwn (own := fun a => a = env.locals) kk ho
  have K' : Keep φ (fun a => a = env.locals) s.heap h' := fun b o _ hb e => kk b o hb e
  have R' : ∀ (W : Mine.V) (u : Value), Rel s.heap φ W u → Rel h' φ W u := fun W u ru => Rel.keep K' (List.prefix_refl _) (fun a ma => ma.elim (fun m => S.noTup m) fun e => (ho a e).1) W u ru
  refine h _ ⟨⟨_, _, rfl⟩, List.prefix_refl _, S', K', fun _ m => .inl m, fun b o e => ?_⟩ ⟨F.fn, F.glob, F.blt, F.locNew, F.locOut, F.inj, ⟨_, hn, ?_⟩, ?_, F.cellInj⟩
  · by_cases hb : b = env.locals
    · subst hb
      obtain ⟨o', _, _, e', _⟩ := hn
      exact ⟨o', e'⟩
    · exact ⟨o, kk b o hb e⟩
  · intro y j W hy hky hW hne
    by_cases hyx : y = x
    · subst hyx
      rw [hx] at hy; cases hy
      cases set_get_self hW
      exact ⟨v, by simp, R' _ _ r⟩
    · have hij : i ≠ j := fun e => hyx (F.inj y x i (e ▸ hy) hx)
      rw [set_get_ne hij] at hW
      obtain ⟨u, eu, ru⟩ := rn y j W hy hky hW hne
      exact ⟨u, by simp [hyx, eu], R' _ _ ru⟩
  · intro y j hy hky
    obtain ⟨c, ov, e1, e2, e3, ic, rc⟩ := F.cell y j hy hky
    have hc := ns_ne_cell n ic
    refine ⟨c, ov, e1, e2, e3, ?_, fun W hW hne => ?_⟩
    · obtain ⟨o, e, dd⟩ := ic; exact ⟨o, kk c o hc e, dd⟩
    · have hyx : y ≠ x := by
        rintro rfl
        rw [hk] at hky; rcases hky with q | q <;> cases q
      have hij : i ≠ j := fun e => hyx (F.inj y x i (e ▸ hy) hx)
      rw [set_get_ne hij] at hW
      obtain ⟨u, eu, ru⟩ := rc W hW hne
      exact ⟨u, eu, R' _ _ ru⟩

theorem store_cell {x : Str} {i : Nat} {V : Mine.V} {v : Value} {Q : Unit → Shared → Prop} (S : Sim h₀ s.heap φ σ) (F : FrS h₀ s.heap φ env vs ρ) (hx : vs.lookup x = some i) (hk : env.kindOf x = some .cell) (r : Rel s.heap φ V v)
    (h : ∀ s', Step h₀ (frameOwn env vs) s s' φ φ σ → FrS h₀ s'.heap φ env vs (ρ.set i V) → Q () s') : wpAny (model prog w) A (storeName env x v) Q E s := by
  obtain ⟨m, n, rn⟩ := F.ns
  obtain ⟨c, ov, e1, e2, e3, ic, rc⟩ := F.cell x i hx (.inl hk)
  refine wpAny_storeName_cell F.fn hk e1 ic fun h' ic' hs => ?_
  have ho : ∀ a, (a = c) → NoTup s.heap a ∧ a ∉ φ ∧ h₀.get? a = none := by
    rintro a rfl; exact ⟨noTup_cell ic, e2, e3⟩
  have kk : ∀ b o, ¬ (b = c) → s.heap.get? b = some o → h'.get? b = some o := fun b o hb e => (hs.2 b hb).trans e
  have S' : Sim h₀ h' φ σ := S.keepOwn (own := fun a => a = c) kk ho
  have K' : Keep φ (fun a => a = c) s.heap h' := fun b o _ hb e => kk b o hb e
  have R' : ∀ (W : Mine.V) (u : Value), Rel s.heap φ W u → Rel h' φ W u := fun W u ru => Rel.keep K' (List.prefix_refl _) (fun a ma => ma.elim (fun m => S.noTup m) fun e => (ho a e).1) W u ru
  have hLc : c ≠ env.locals := ns_ne_cell n ic
  refine h _ ⟨⟨_, _, rfl⟩, List.prefix_refl _, S', K'.mono (fun _ m => m) (fun a e => .inr ⟨x, i, hx, hk, e ▸ e1⟩), fun _ m => .inl m, fun b o e => ?_⟩ ⟨F.fn, F.glob, F.blt, F.locNew, F.locOut, F.inj, ⟨m, ?_, ?_⟩, ?_, F.cellInj⟩
  · by_cases hb : b = c
    · subst hb
      obtain ⟨o', e', _⟩ := ic'
      exact ⟨o', e'⟩
    · exact ⟨o, kk b o hb e⟩
  · obtain ⟨o, es, ep, e, rr⟩ := n
    exact ⟨o, es, ep, kk _ o (Ne.symm hLc) e, rr⟩
  · intro y j W hy hky hW hne
    have hyx : y ≠ x := by
      rintro rfl
      rw [hk] at hky; cases hky
    have hij : i ≠ j := fun e => hyx (F.inj y x i (e ▸ hy) hx)
    rw [set_get_ne hij] at hW
    obtain ⟨u, eu, ru⟩ := rn y j W hy hky hW hne
    exact ⟨u, eu, R' _ _ ru⟩
  · intro y j hy hky
    by_cases hyx : y = x
    · subst hyx
      rw [hx] at hy; cases hy
      refine ⟨c, some v, e1, e2, e3, ic', fun W hW hne => ?_⟩
      cases set_get_self hW
      exact ⟨v, rfl, R' _ _ r⟩
    · obtain ⟨c', ov', f1, f2, f3, ic2, rc2⟩ := F.cell y j hy hky
      have hcc : c' ≠ c := fun e => hyx (F.cellInj y x j i c hy hx (e ▸ f1) e1)
      refine ⟨c', ov', f1, f2, f3, ?_, fun W hW hne => ?_⟩
      · obtain ⟨o, e, dd⟩ := ic2; exact ⟨o, kk c' o hcc e, dd⟩
      · have hij : i ≠ j := fun e => hyx (F.inj y x i (e ▸ hy) hx)
        rw [set_get_ne hij] at hW
        obtain ⟨u, eu, ru⟩ := rc2 W hW hne
        exact ⟨u, eu, R' _ _ ru⟩

theorem store_ok {x : Str} {i : Nat} {V : Mine.V} {v : Value} {Q : Unit → Shared → Prop} (S : Sim h₀ s.heap φ σ) (F : FrS h₀ s.heap φ env vs ρ) (hx : vs.lookup x = some i) (hk : env.kindOf x = some .local ∨ env.kindOf x = some .cell) (r : Rel s.heap φ V v)
    (h : ∀ s', Step h₀ (frameOwn env vs) s s' φ φ σ → FrS h₀ s'.heap φ env vs (ρ.set i V) → Q () s') : wpAny (model prog w) A (storeName env x v) Q E s :=
  hk.elim (fun hk => store_local S F hx hk r fun s' st F' => h s' (st.wider fun _ e => .inl e) F') fun hk => store_cell S F hx hk r h
end

end Mine

/-! MAssign -/
namespace Mine
open PySem PySem.Calls

inductive CNames (env : Env) (vs : Vs) : List Expr → List Nat → Prop
  | nil : CNames env vs [] []
  | cons {x : Str} {i : Nat} {p : Pos} {es : List Expr} {is : List Nat} : vs.lookup x = some i → env.kindOf x = some .local ∨ env.kindOf x = some .cell → CNames env vs es is → CNames env vs (.Name x p :: es) (i :: is)
inductive CPat (env : Env) (vs : Vs) : Expr → Pat → Prop
  | name {x : Str} {i : Nat} {p : Pos} : vs.lookup x = some i → env.kindOf x = some .local ∨ env.kindOf x = some .cell → CPat env vs (.Name x p) (.var i)
  | tup {es : List Expr} {is : List Nat} {k : Nat} {p : Pos} : CNames env vs es is → CPat env vs (.Tuple es k p) (.tup is)

theorem CNames.each {env : Env} {vs : Vs} {es : List Expr} {is : List Nat} (h : CNames env vs es is) : (assignEach es env).length = is.length ∧ (assignEach es env).findIdx? (·.1) = none := by
  induction h with
  | nil => exact ⟨rfl, rfl⟩
  | cons _ _ _ ih =>
    refine ⟨?_, ?_⟩
    · show (_ :: assignEach _ env).length = _
      simp [ih.1]
    · show ((false, _) :: assignEach _ env).findIdx? _ = none
      rw [List.findIdx?_cons]
      simp [ih.2]

section
variable {prog : Program} {w : World} {h₀ : Heap} {A : Around} {φ : List Addr} {σ : Store} {E : Value → Shared → Prop} {env : Env} {vs : Vs}

theorem names_ok {es : List Expr} {is : List Nat} (h : CNames env vs es is) : ∀ {s : Shared} {ρ : List V} {Vs : List V} {us : List Value} {Q : Unit → Shared → Prop}, Sim h₀ s.heap φ σ → FrS h₀ s.heap φ env vs ρ → RelL s.heap φ Vs us → is.length = Vs.length →
    (∀ s', Step h₀ (frameOwn env vs) s s' φ φ σ → FrS h₀ s'.heap φ env vs ((is.zip Vs).foldl (fun r x => r.set x.1 x.2) ρ) → Q () s') →
    wpAny (model prog w) A (assignInOrder ((assignEach es env).map (·.2)) us) Q E s := by
  induction h with
  | nil =>
    intro s ρ Vs us Q S F r hl hQ
    have : Vs = [] := List.length_eq_zero_iff.mp (by simpa using hl.symm)
    subst this
    exact wpAny_pure (hQ s (Step.refl S) F)
  | @cons x i p es is hx hk _ ih =>
    intro s ρ Vs us Q S F r hl hQ
    match Vs, us, r with
    | [], _, _ => simp at hl
    | V :: Vs, u :: us, r =>
      rw [RelL] at r
      show wpAny (model prog w) A (do holding us (assign (.Name x p) env u); assignInOrder ((assignEach es env).map (·.2)) us) Q E s
      refine wpAny_bind (wpAny_holding (wpAny_assign_Name (store_ok S F hx hk r.1 fun s₁ st F₁ => ?_)))
      refine ih st.sim F₁ (r.2.stepOwn S F st) (by simpa using hl) fun s₂ st₂ F₂ => ?_
      exact hQ s₂ (st.trans st₂) F₂
    | _ :: _, [], r => rw [RelL] at r; exact r.elim

theorem assign_ok {t : Expr} {p : Pat} (h : CPat env vs t p) {s : Shared} {ρ ρ' : List V} {V : V} {v : Value} {Q : Unit → Shared → Prop} (hh : A.handled = none) (S : Sim h₀ s.heap φ σ) (F : FrS h₀ s.heap φ env vs ρ) (r : Rel s.heap φ V v)
    (e : bindTo σ p V ρ = some ρ') (hQ : ∀ s', Step h₀ (frameOwn env vs) s s' φ φ σ → FrS h₀ s'.heap φ env vs ρ' → Q () s') : wpAny (model prog w) A (assign t env v) Q E s := by
  cases h with
  | name hx hk =>
    simp only [bindTo, Option.some.injEq] at e; subst e
    exact wpAny_assign_Name (store_ok S F hx hk r hQ)
  | @tup es is k p hn =>
    simp only [bindTo] at e
    split at e
    · rename_i Vs eV
      split at e
      · rename_i hl
        simp only [Option.some.injEq] at e; subst e
        cases V <;> simp only [asItems, Option.some.injEq, reduceCtorEq] at eV
        case tup Ws =>
          subst eV
          rw [Rel] at r
          obtain ⟨a, items, n, rfl, g, rl⟩ := r
          have hsz : items.size = Ws.length := by simpa using rl.length.symm
          refine wpAny_assign_Tuple hh ⟨_, g, rfl, n, rfl⟩ (by rw [hn.each.1, hl, hsz]) hn.each.2 fun h' kx => ?_
          have kk : ∀ b o, s.heap.get? b = some o → h'.get? b = some o := fun b o e => kx b o (Nat.ne_of_lt (Heap.lt_size e)) e
          have st : Step h₀ noOwn s { s with heap := h' } φ φ σ := Step.keeps S s.toks kk
          refine names_ok hn st.sim (F.step S st) (rl.step S st) hl fun s₂ st₂ F₂ => ?_
          exact hQ s₂ ((st.wider fun _ f => f.elim).trans st₂) F₂
        case ref k =>
          split at eV
          · rename_i Ws ek
            simp only [Option.some.injEq] at eV; subst eV
            obtain ⟨a, items, z, rfl, ea, g, rl, _⟩ := S.list ek r
            have hsz : items.size = Ws.length := by simpa using rl.length.symm
            rw [PyProof.Rows.assign_Tuple]
            refine wpAny_bind (wpAny_standAt ?_)
            unfold unpack
            rw [show (assignEach es env).length = items.size by rw [hn.each.1, hl, hsz], hn.each.2]
            refine wpAny_bind (wpAny_holding (PySem.W.kun_itemsOf hh g.isList fun h' kx => ?_))
            have kk : ∀ b o, s.heap.get? b = some o → h'.get? b = some o := fun b o e => kx b o (Nat.ne_of_lt (Heap.lt_size e)) e
            have st : Step h₀ noOwn s { s with heap := h' } φ φ σ := Step.keeps S s.toks kk
            refine names_ok hn st.sim (F.step S st) (rl.step S st) hl fun s₂ st₂ F₂ => ?_
            exact hQ s₂ ((st.wider fun _ f => f.elim).trans st₂) F₂
          · cases eV
      · cases e
    · cases e
end

end Mine

/-! MStmt -/
namespace Mine
open PySem PySem.Calls

noncomputable def RelF (h : Heap) (φ : List Addr) : Fl → Flow → Prop
  | .next, f => f = .next
  | .brk, f => f = .brk
  | .cont, f => f = .cont
  | .ret V, f => ∃ v, f = .ret v ∧ Rel h φ V v
  | .exc _, _ => False

noncomputable def PF (h₀ : Heap) (env : Env) (vs : Vs) (s : Shared) (φ : List Addr) (Q : Post) (f : Flow) (s' : Shared) : Prop :=
  ∃ φ' σ' ρ' fl, Step h₀ (frameOwn env vs) s s' φ φ' σ' ∧ FrS h₀ s'.heap φ' env vs ρ' ∧ RelF s'.heap φ' fl f ∧ Q fl ρ' σ'
noncomputable def NX : Value → Shared → Prop := fun _ _ => False

theorem PF.trans {h₀ : Heap} {env : Env} {vs : Vs} {s s₁ : Shared} {φ φ₁ : List Addr} {σ₁ : Store} {Q : Post} {f : Flow} {s' : Shared} (x : Step h₀ (frameOwn env vs) s s₁ φ φ₁ σ₁) (y : PF h₀ env vs s₁ φ₁ Q f s') : PF h₀ env vs s φ Q f s' :=
  let ⟨φ', σ', ρ', fl, st, r⟩ := y; ⟨φ', σ', ρ', fl, x.trans st, r⟩
theorem Step.own {h₀ : Heap} {env : Env} {vs : Vs} {s s₁ : Shared} {φ φ₁ : List Addr} {σ₁ : Store} (x : Step h₀ noOwn s s₁ φ φ₁ σ₁) : Step h₀ (frameOwn env vs) s s₁ φ φ₁ σ₁ := x.wider fun _ f => f.elim

section
variable (prog : Program) (w : World) (h₀ : Heap) (C : Oracle) (d : Nat)
noncomputable def SOk (env : Env) (vs : Vs) (st : Stmt) (a : S) : Prop :=
  ∀ (A : Around) (s : Shared) (φ : List Addr) (σ : Store) (ρ : List V) (Q : Post), ROk A d → Sim h₀ s.heap φ σ → FrS h₀ s.heap φ env vs ρ → wpS C a ρ σ Q →
    wpAny (model prog w) A (exec st env) (PF h₀ env vs s φ Q) NX s
noncomputable def SsOk (env : Env) (vs : Vs) (st : List Stmt) (a : List S) : Prop :=
  ∀ (A : Around) (s : Shared) (φ : List Addr) (σ : Store) (ρ : List V) (Q : Post), ROk A d → Sim h₀ s.heap φ σ → FrS h₀ s.heap φ env vs ρ → wpSs C a ρ σ Q →
    wpAny (model prog w) A (execs st env) (PF h₀ env vs s φ Q) NX s
end

/-- no comprehension, whose store is another one -/
noncomputable def NoComp (e : Expr) : Prop := ∀ t l env, swapsWith e t l env = pure false

section
variable {prog : Program} {w : World} {h₀ : Heap} {C : Oracle} {d : Nat} {env : Env} {vs : Vs}

theorem interactive_fn (h : env.scope.kind = .function) : interactive env = false := by unfold interactive; rw [h]; rfl

theorem sok_expr {e : Expr} {a : E} {pos} (hc : NoComp e) (h : EOk prog w h₀ C d env vs e a) : SOk prog w h₀ C d env vs (.Expr e pos) (.expr a) := fun A s φ σ ρ Q R S F q => by
  rw [wpS] at q
  refine wpAny_Expr_any (wpAny_mono (h A s φ σ ρ _ _ R S F q) (fun x s₁ y => ?_) fun _ _ e => e.elim) (interactive_fn F.fn) (hc _ _ _)
  obtain ⟨φ₁, σ₁, V, st, rl, q₁⟩ := y
  exact ⟨φ₁, σ₁, ρ, .next, st.own, F.step S st, rfl, q₁⟩

theorem sok_ret {e : Expr} {a : E} {pos} (h : EOk prog w h₀ C d env vs e a) : SOk prog w h₀ C d env vs (.Return (some e) pos) (.ret (some a)) := fun A s φ σ ρ Q R S F q => by
  rw [wpS, wpO] at q
  refine wpAny_Return_some (wpAny_mono (h A s φ σ ρ _ _ R S F q) (fun x s₁ y => ?_) fun _ _ e => e.elim)
  obtain ⟨φ₁, σ₁, V, st, rl, q₁⟩ := y
  exact ⟨φ₁, σ₁, ρ, .ret V, st.own, F.step S st, ⟨x, rfl, rl⟩, q₁⟩
theorem sok_retNone {pos} : SOk prog w h₀ C d env vs (.Return none pos) (.ret none) := fun A s φ σ ρ Q R S F q => by
  rw [wpS, wpO] at q
  exact wpAny_Return_none ⟨φ, σ, ρ, .ret .none, Step.refl S, F, ⟨.none, rfl, rel_none⟩, q⟩
theorem sok_pass {pos} : SOk prog w h₀ C d env vs (.Pass pos) .pass := fun A s φ σ ρ Q R S F q => by
  rw [wpS] at q
  exact wpAny_bind (wpAny_standAt (wpAny_pure ⟨φ, σ, ρ, .next, Step.refl S, F, rfl, q⟩))

theorem sok_assign {t value : Expr} {p : Pat} {a : E} {pos} (hc : swapsWith value (some t) pos.line env = pure false) (hw : swappedStores [t] value env = pure none) (hst : (assignEach [t] env).map (·.2) = [assign t env]) (ht : CPat env vs t p) (h : EOk prog w h₀ C d env vs value a) :
    SOk prog w h₀ C d env vs (.Assign [t] value pos) (.assign p a) := fun A s φ σ ρ Q R S F q => by
  rw [wpS] at q
  refine wpAny_Assign_stores (wpAny_mono (h A s φ σ ρ _ _ R S F q) (fun x s₁ y => ?_) fun _ _ e => e.elim) hc hw
  obtain ⟨φ₁, σ₁, V, st, rl, q₁⟩ := y
  rw [hst]
  show wpAny (model prog w) A (assign t env x) _ _ s₁
  split at q₁
  · rename_i ρ' e
    exact assign_ok ht R.hd st.sim (F.step S st) rl e fun s₂ st₂ F₂ => ⟨φ₁, σ₁, ρ', .next, st.own.trans st₂, F₂, rfl, q₁⟩
  · exact q₁.elim

theorem ssok_nil : SsOk prog w h₀ C d env vs [] [] := fun A s φ σ ρ Q R S F q => by
  rw [wpSs] at q
  exact wpAny_execs_nil ⟨φ, σ, ρ, .next, Step.refl S, F, rfl, q⟩
theorem ssok_cons {st : Stmt} {a : S} {sts : List Stmt} {as : List S} (h : SOk prog w h₀ C d env vs st a) (hs : SsOk prog w h₀ C d env vs sts as) : SsOk prog w h₀ C d env vs (st :: sts) (a :: as) :=
  fun A s φ σ ρ Q R S F q => by
  rw [wpSs] at q
  refine wpAny_execs_cons (wpAny_mono (h A s φ σ ρ _ R S F q) (fun f s₁ y => ?_) fun _ _ e => e)
  obtain ⟨φ₁, σ₁, ρ₁, fl, st₁, F₁, rf, q₁⟩ := y
  cases fl with
  | next =>
    simp only [RelF] at rf; subst rf
    exact wpAny_mono (hs A s₁ φ₁ σ₁ ρ₁ Q R st₁.sim F₁ q₁) (fun _ _ z => PF.trans st₁ z) fun _ _ e => e
  | brk => simp only [RelF] at rf; subst rf; exact ⟨φ₁, σ₁, ρ₁, .brk, st₁, F₁, rfl, q₁⟩
  | cont => simp only [RelF] at rf; subst rf; exact ⟨φ₁, σ₁, ρ₁, .cont, st₁, F₁, rfl, q₁⟩
  | ret V =>
    obtain ⟨v, rfl, rl⟩ := rf
    exact ⟨φ₁, σ₁, ρ₁, .ret V, st₁, F₁, ⟨v, rfl, rl⟩, q₁⟩
  | exc c => exact rf.elim

theorem sok_if {test : Expr} {a : E} {b o : List Stmt} {b' o' : List S} {pos} (ht : TOk prog w h₀ C d env vs test a) (hb : SsOk prog w h₀ C d env vs b b') (ho : SsOk prog w h₀ C d env vs o o') : SOk prog w h₀ C d env vs (.If test b o pos) (.if_ a b' o') :=
  fun A s φ σ ρ Q R S F q => by
  rw [wpS] at q
  refine wpAny_If (wpAny_mono (ht A s φ σ ρ _ _ R S F q) (fun t s₁ y => ?_) fun _ _ e => e.elim)
  obtain ⟨φ₁, σ₁, st, q₁⟩ := y
  cases t with
  | true => exact wpAny_mono (hb A s₁ φ₁ σ₁ ρ Q R st.sim (F.step S st) (by simpa using q₁)) (fun _ _ z => PF.trans st.own z) fun _ _ e => e
  | false => exact wpAny_mono (ho A s₁ φ₁ σ₁ ρ Q R st.sim (F.step S st) (by simpa using q₁)) (fun _ _ z => PF.trans st.own z) fun _ _ e => e
end

end Mine

/-! MLoop -/
namespace Mine
open PySem PySem.Calls

/-- what an iterator is: its own objects fp, its state at the i-th item -/
structure Itr (prog : Program) (w : World) (A : Around) (h₀ : Heap) (t : Expr) (I : Addr) (fp : List Addr) (items : List V) (same : Store → Prop) (St : Nat → Heap → List Addr → Store → Prop) : Prop where
  new : ∀ b ∈ fp, h₀.get? b = none
  mine : ∀ i h φ σ, St i h φ σ → ∀ b ∈ fp, ∃ o us, h.get? b = some o ∧ o.data = .fields us
  frame : ∀ i h h' φ φ' σ σ', St i h φ σ → Sim h₀ h' φ' σ' → φ <+: φ' → same σ' → (∀ b ∈ fp, ∀ o, h.get? b = some o → h'.get? b = some o) → (∀ V v, Rel h φ V v → Rel h' φ' V v) → St i h' φ' σ'
  item : ∀ i V (s : Shared) φ σ, items[i]? = some V → St i s.heap φ σ → Sim h₀ s.heap φ σ → wpAny (model prog w) A (pyNext (.ref I)) (fun r s₁ => ∃ v, r = some v ∧
    wpAny (model prog w) A (letOwnedTupleGo t (.ref I) v) (fun _ s₂ => (∃ h' tk, s₂ = { s with heap := h', toks := tk }) ∧ Rel s₂.heap φ V v ∧ St (i + 1) s₂.heap φ σ ∧
      (∀ b o, b ∉ fp → s.heap.get? b = some o → s₂.heap.get? b = some o) ∧ (∀ b ∈ fp, ∃ o us, s₂.heap.get? b = some o ∧ o.data = .fields us)) NX s₁) NX s
  done : ∀ (s : Shared) φ σ, St items.length s.heap φ σ → Sim h₀ s.heap φ σ → wpAny (model prog w) A (pyNext (.ref I)) (fun r s₁ => r = none ∧ (∃ h' tk, s₁ = { s with heap := h', toks := tk }) ∧
    (∀ b o, b ∉ fp → s.heap.get? b = some o → s₁.heap.get? b = some o)) NX s

/-- an iterator is its own iterator -/
noncomputable def SelfIt (prog : Program) (w : World) (A : Around) (I : Addr) (St : Nat → Heap → List Addr → Store → Prop) : Prop :=
  ∀ i (s : Shared) φ σ, St i s.heap φ σ → wpAny (model prog w) A (pyIter (.ref I)) (fun v s₁ => v = .ref I ∧ s₁ = s) NX s

theorem fields_noTup {h : Heap} {b : Addr} (x : ∃ o us, h.get? b = some o ∧ o.data = .fields us) : NoTup h b := by
  obtain ⟨o, us, e, d⟩ := x
  intro o' items n e' _ d'
  rw [e] at e'; cases e'; rw [d] at d'; cases d'

theorem fields_out {h₀ h : Heap} {φ : List Addr} {σ : Store} (S : Sim h₀ h φ σ) {b : Addr} (x : ∃ o us, h.get? b = some o ∧ o.data = .fields us) : b ∉ φ := fun m => by
  obtain ⟨o, us, e, d⟩ := x
  obtain ⟨_, ob, _, _, r⟩ := S.mem m
  cases ob with
  | list vs => obtain ⟨_, ⟨_, e'⟩, _⟩ := r; rw [e] at e'; cases e'; cases d

theorem fields_notOwn {h₀ h : Heap} {φ : List Addr} {env : Env} {vs : Vs} {ρ : List V} (F : FrS h₀ h φ env vs ρ) {b : Addr} (x : ∃ o us, h.get? b = some o ∧ o.data = .fields us) : ¬ frameOwn env vs b := by
  obtain ⟨o, us, e, d⟩ := x
  rintro (rfl | ⟨y, i, hy, hk, ec⟩)
  · obtain ⟨m, ⟨o', _, _, e', d', _⟩, _⟩ := F.ns
    rw [e] at e'; cases e'; rw [d] at d'; cases d'
  · obtain ⟨c, ov, e1, _, _, ⟨o', e', d'⟩, _⟩ := F.cell y i hy (.inl hk)
    rw [ec] at e1; cases e1
    rw [e] at e'; cases e'; rw [d] at d'; cases d'

/-- a change of the iterator's own objects alone -/
theorem Step.iter {h₀ : Heap} {s s₂ : Shared} {φ : List Addr} {σ : Store} {fp : List Addr} (S : Sim h₀ s.heap φ σ) (new : ∀ b ∈ fp, h₀.get? b = none) (mine : ∀ b ∈ fp, ∃ o us, s.heap.get? b = some o ∧ o.data = .fields us)
    (only : ∃ h' tk, s₂ = { s with heap := h', toks := tk }) (k : ∀ b o, b ∉ fp → s.heap.get? b = some o → s₂.heap.get? b = some o) (mine' : ∀ b ∈ fp, ∃ o us, s₂.heap.get? b = some o ∧ o.data = .fields us) :
    Step h₀ (fun a => a ∈ fp) s s₂ φ φ σ where
  only := only
  pre := List.prefix_refl _
  sim := S.keepOwn (own := fun a => a ∈ fp) (fun b o hb e => k b o hb e) fun a ha => ⟨fields_noTup (mine a ha), fields_out S (mine a ha), new a ha⟩
  keep := fun b o _ hb e => k b o hb e
  fresh := fun _ m => .inl m
  pres := fun b o e => by
    by_cases hb : b ∈ fp
    · obtain ⟨o', _, e', _⟩ := mine' b hb; exact ⟨o', e'⟩
    · exact ⟨o, k b o hb e⟩

theorem FrS.keepFp {h₀ h h' : Heap} {φ : List Addr} {σ : Store} {env : Env} {vs : Vs} {ρ : List V} {fp : List Addr} (F : FrS h₀ h φ env vs ρ) (S : Sim h₀ h φ σ) (mine : ∀ b ∈ fp, ∃ o us, h.get? b = some o ∧ o.data = .fields us)
    (k : ∀ b o, b ∉ fp → h.get? b = some o → h'.get? b = some o) : FrS h₀ h' φ env vs ρ where
  fn := F.fn
  glob := F.glob
  blt := F.blt
  locNew := F.locNew
  locOut := F.locOut
  inj := F.inj
  ns := by
    obtain ⟨m, n, r⟩ := F.ns
    refine ⟨m, ?_, fun x' i V h1 h2 h3 h4 => ?_⟩
    · obtain ⟨o, es, ep, e, d, rr⟩ := n
      exact ⟨o, es, ep, k _ o (fun hm => fields_notOwn F (mine _ hm) (.inl rfl)) e, d, rr⟩
    · obtain ⟨v, e, rl⟩ := r x' i V h1 h2 h3 h4
      exact ⟨v, e, Rel.keep (own := fun a => a ∈ fp) (fun b o _ hb e => k b o hb e) (List.prefix_refl _) (fun a m => m.elim (fun m => S.noTup m) fun m => fields_noTup (mine a m)) _ _ rl⟩
  cell := fun x' i h1 h2 => by
    obtain ⟨c, ov, e, o, n, ic, r⟩ := F.cell x' i h1 h2
    refine ⟨c, ov, e, o, n, ?_, fun V h3 h4 => ?_⟩
    · obtain ⟨oo, e', d⟩ := ic
      refine ⟨oo, k _ oo (fun hm => ?_) e', d⟩
      obtain ⟨o2, us, e2, d2⟩ := mine _ hm
      rw [e2] at e'; cases e'; rw [d] at d2; cases d2
    · obtain ⟨v, e', rl⟩ := r V h3 h4
      exact ⟨v, e', Rel.keep (own := fun a => a ∈ fp) (fun b o _ hb e => k b o hb e) (List.prefix_refl _) (fun a m => m.elim (fun m => S.noTup m) fun m => fields_noTup (mine a m)) _ _ rl⟩
  cellInj := F.cellInj

noncomputable def ownP (env : Env) (vs : Vs) (fp : List Addr) : Addr → Prop := fun a => frameOwn env vs a ∨ a ∈ fp

theorem Step.dropFp {h₀ : Heap} {env : Env} {vs : Vs} {fp : List Addr} {s s' : Shared} {φ φ' : List Addr} {σ' : Store} (x : Step h₀ (ownP env vs fp) s s' φ φ' σ') (h : ∀ b ∈ fp, s.heap.get? b = none) : Step h₀ (frameOwn env vs) s s' φ φ' σ' :=
  ⟨x.only, x.pre, x.sim, fun b o h1 h2 e => x.keep b o h1 (fun m => m.elim h2 fun m => by rw [h b m] at e; cases e) e, x.fresh, x.pres⟩
/-- the iterator's last change -/
theorem Step.endFp {h₀ : Heap} {own : Addr → Prop} {fp : List Addr} {sp s s₁ : Shared} {φp φ : List Addr} {σ : Store} (x : Step h₀ own sp s φp φ σ) (h : ∀ b ∈ fp, sp.heap.get? b = none) (new : ∀ b ∈ fp, h₀.get? b = none)
    (mine : ∀ b ∈ fp, ∃ o us, s.heap.get? b = some o ∧ o.data = .fields us) (only : ∃ h' tk, s₁ = { s with heap := h', toks := tk }) (k : ∀ b o, b ∉ fp → s.heap.get? b = some o → s₁.heap.get? b = some o) : Step h₀ own sp s₁ φp φ σ where
  only := by
    obtain ⟨h1, t1, rfl⟩ := x.only
    obtain ⟨h2, t2, rfl⟩ := only
    exact ⟨h2, t2, rfl⟩
  pre := x.pre
  sim := x.sim.keepOwn (own := fun a => a ∈ fp) (fun b o hb e => k b o hb e) fun a ha => ⟨fields_noTup (mine a ha), fields_out x.sim (mine a ha), new a ha⟩
  keep := fun b o h1 h2 e => k b o (fun m => by rw [h b m] at e; cases e) (x.keep b o h1 h2 e)
  fresh := x.fresh
  pres := fun b o e => by
    obtain ⟨o', e'⟩ := x.pres b o e
    exact ⟨o', k b o' (fun m => by rw [h b m] at e; cases e) e'⟩

section
variable {prog : Program} {w : World} {h₀ : Heap} {C : Oracle} {d : Nat} {env : Env} {vs : Vs}

theorem for_loop {A : Around} {s : Shared} {φ : List Addr} {σ : Store} {ρ : List V} {Q : Post} {t : Expr} {p : Pat} {I : Addr} {fp : List Addr} {items : List V} {same : Store → Prop} {St : Nat → Heap → List Addr → Store → Prop}
    {body : List Stmt} {body' : List S} {sp : Shared} {φp : List Addr} (R : ROk A d) (x : Step h₀ noOwn sp s φp φ σ) (hfp : ∀ b ∈ fp, sp.heap.get? b = none) (W : Itr prog w A h₀ t I fp items same St) (ht : CPat env vs t p) (hb : SsOk prog w h₀ C d env vs body body') (F : FrS h₀ s.heap φ env vs ρ) (st : St 0 s.heap φ σ)
    (q : forW (fun v ρ₁ σ₂ R => match bindTo σ₂ p v ρ₁ with | some ρ₂ => wpSs C body' ρ₂ σ₂ R | Option.none => False) same items ρ σ Q) :
    codeAny (model prog w) A (.forLoop t (.ref I) body [] env) (fun r s' => match r with | .ok f => PF h₀ env vs sp φp Q f s' | .error _ => False) s := by
  refine codeAny_forLoop_any (fun k s' => ∃ i φ' σ' ρ', k = items.length + 1 - i ∧ i ≤ items.length ∧ Step h₀ (ownP env vs fp) sp s' φp φ' σ' ∧ FrS h₀ s'.heap φ' env vs ρ' ∧ St i s'.heap φ' σ' ∧
      forW (fun v ρ₁ σ₂ R => match bindTo σ₂ p v ρ₁ with | some ρ₂ => wpSs C body' ρ₂ σ₂ R | Option.none => False) same (items.drop i) ρ' σ' Q) ?_ (items.length + 1)
    ⟨0, φ, σ, ρ, rfl, Nat.zero_le _, x.wider fun _ f => f.elim, F, st, by simpa using q⟩
  rintro k s' ⟨i, φ', σ', ρ', rfl, hi, stp, F', st', q'⟩
  by_cases hlt : i < items.length
  · have hd : items.drop i = items[i] :: items.drop (i + 1) := List.drop_eq_getElem_cons hlt
    rw [hd, forW] at q'
    refine wpAny_mono (W.item i items[i] s' φ' σ' (by simp [hlt]) st' stp.sim) (fun r s₁ y => ?_) fun _ _ e => e.elim
    obtain ⟨v, rfl, y⟩ := y
    refine wpAny_mono y (fun _ s₂ z => ?_) fun _ _ e => e.elim
    obtain ⟨only, rl, st₂, kk, mine⟩ := z
    have stp₂ : Step h₀ (fun a => a ∈ fp) s' s₂ φ' φ' σ' := Step.iter stp.sim W.new (W.mine i _ _ _ st') only kk mine
    have F₂ : FrS h₀ s₂.heap φ' env vs ρ' := F'.keepFp stp.sim (W.mine i _ _ _ st') kk
    split at q'
    · rename_i ρ₂ eb
      refine assign_ok ht R.hd stp₂.sim F₂ rl eb fun s₃ st₃ F₃ => ?_
      have rel₃ : ∀ V v, Rel s₂.heap φ' V v → Rel s₃.heap φ' V v := fun V v r => r.stepOwn stp₂.sim F₂ st₃
      have fp₃ : ∀ b ∈ fp, ∀ o, s₂.heap.get? b = some o → s₃.heap.get? b = some o := fun b hb o e => st₃.keep b o (fields_out stp₂.sim (mine b hb)) (fields_notOwn F₂ (mine b hb)) e
      have mine₃ : ∀ b ∈ fp, ∃ o us, s₃.heap.get? b = some o ∧ o.data = .fields us := fun b hb => let ⟨o, us, e, dd⟩ := mine b hb; ⟨o, us, fp₃ b hb o e, dd⟩
      refine wpAny_mono (hb A s₃ φ' σ' ρ₂ _ R st₃.sim F₃ q') (fun f s₄ y => ?_) fun _ _ e => e.elim
      obtain ⟨φ₄, σ₄, ρ₄, fl, st₄, F₄, rf, q₄⟩ := y
      have all : Step h₀ (ownP env vs fp) sp s₄ φp φ₄ σ₄ := stp.trans ((stp₂.wider fun _ m => .inr m).trans ((st₃.trans st₄).wider fun _ m => .inl m))
      have fp₄ : ∀ b ∈ fp, ∀ o, s₃.heap.get? b = some o → s₄.heap.get? b = some o := fun b hb o e => st₄.keep b o (fields_out st₃.sim (mine₃ b hb)) (fields_notOwn F₃ (mine₃ b hb)) e
      have go : same σ₄ → forW (fun v ρ₁ σ₂ R => match bindTo σ₂ p v ρ₁ with | some ρ₂ => wpSs C body' ρ₂ σ₂ R | Option.none => False) same (items.drop (i + 1)) ρ₄ σ₄ Q →
          ∃ m, m < items.length + 1 - i ∧ ∃ i φ' σ' ρ', m = items.length + 1 - i ∧ i ≤ items.length ∧ Step h₀ (ownP env vs fp) sp s₄ φp φ' σ' ∧ FrS h₀ s₄.heap φ' env vs ρ' ∧ St i s₄.heap φ' σ' ∧
            forW (fun v ρ₁ σ₂ R => match bindTo σ₂ p v ρ₁ with | some ρ₂ => wpSs C body' ρ₂ σ₂ R | Option.none => False) same (items.drop i) ρ' σ' Q := fun hsame hq =>
        ⟨items.length + 1 - (i + 1), by omega, i + 1, φ₄, σ₄, ρ₄, rfl, hlt, all, F₄,
          W.frame (i + 1) s₂.heap s₄.heap φ' φ₄ σ' σ₄ st₂ st₄.sim st₄.pre hsame (fun b hb o e => fp₄ b hb o (fp₃ b hb o e)) (fun V v r => (rel₃ V v r).stepOwn st₃.sim F₃ st₄), hq⟩
      cases fl with
      | next => simp only [RelF] at rf; subst rf; exact go q₄.1 q₄.2
      | cont => simp only [RelF] at rf; subst rf; exact go q₄.1 q₄.2
      | brk => simp only [RelF] at rf; subst rf; exact ⟨φ₄, σ₄, ρ₄, .next, all.dropFp hfp, F₄, rfl, q₄⟩
      | ret V => obtain ⟨u, rfl, ru⟩ := rf; exact ⟨φ₄, σ₄, ρ₄, .ret V, all.dropFp hfp, F₄, ⟨u, rfl, ru⟩, q₄⟩
      | exc c => exact rf.elim
    · exact q'.elim
  · have hin : i = items.length := by omega
    subst hin
    rw [List.drop_length, forW] at q'
    refine wpAny_mono (W.done s' φ' σ' st' stp.sim) (fun r s₁ y => ?_) fun _ _ e => e.elim
    obtain ⟨rfl, only, kk⟩ := y
    exact wpAny_execs_nil ⟨φ', σ', ρ', .next, (stp.dropFp hfp).endFp hfp W.new (W.mine _ _ _ _ st') only kk, F'.keepFp stp.sim (W.mine _ _ _ _ st') kk, rfl, q'⟩
end

end Mine

/-! MIter -/
namespace Mine
open PySem PySem.Calls

noncomputable def plainIter (n : String) : Bool := !["enumerate", "zip", "dict_itemiterator", "dict_reverseitemiterator", "odict_iterator", "itertools.zip_longest", "itertools.pairwise"].contains n

theorem letOwned_other {M : Model} {A : Around} {E : Value → Shared → Prop} {s : Shared} {t : Expr} {I : Addr} {v : Value} {o : Obj} {n : String} {Q : Unit → Shared → Prop} (ho : s.heap.get? I = some o) (hc : o.cls = .type n)
    (hn : plainIter n = true) (hQ : Q () s) : wpAny M A (letOwnedTupleGo t (.ref I) v) Q E s := by
  have hn' : ["enumerate", "zip", "dict_itemiterator", "dict_reverseitemiterator", "odict_iterator", "itertools.zip_longest", "itertools.pairwise"].contains n = false := by
    simpa [plainIter] using hn
  have key : ∀ a : Addr, wpAny M A (do
      let o ← load I
      match o.cls, o.data with
      | .type n, .fields vs =>
        if ["enumerate", "zip", "dict_itemiterator", "dict_reverseitemiterator", "odict_iterator", "itertools.zip_longest", "itertools.pairwise"].contains n && vs[0]? == some (rawInt a) then
          rule "for.unpacks-the-owned-tuple"
          updateField I 0 .none
      | _, _ => pure ()) Q E s := by
    intro a
    refine wpAny_bind (wpAny_load ho ?_)
    rw [hc]
    split
    · rename_i n' vs' e _
      cases e
      rw [hn']
      simp only [Bool.false_and, Bool.false_eq_true, if_false]
      exact wpAny_pure hQ
    · exact wpAny_pure hQ
  cases t <;> first
    | exact wpAny_pure hQ
    | (cases v <;> first | exact wpAny_pure hQ | exact key _)

theorem rangeL_length : ∀ (n : Nat) (a : Int), (rangeL a n).length = n
  | 0, _ => rfl
  | n + 1, a => by simp [rangeL, rangeL_length n]
theorem rangeL_get : ∀ (n : Nat) (a : Int) (i : Nat) (V : V), (rangeL a n)[i]? = some V → i < n ∧ V = .int (a + i)
  | 0, _, _, _, e => by simp [rangeL] at e
  | n + 1, a, 0, V, e => by simp [rangeL] at e; subst e; simp
  | n + 1, a, i + 1, V, e => by
    simp [rangeL] at e
    obtain ⟨h1, h2⟩ := rangeL_get n (a + 1) i V e
    refine ⟨by omega, ?_⟩
    rw [h2]; congr 1; push_cast; omega
theorem enumL_length : ∀ (l : List V) (k : Int), (enumL k l).length = l.length
  | [], _ => rfl
  | _ :: r, k => by simp [enumL, enumL_length r]
theorem enumL_get : ∀ (l : List V) (k : Int) (i : Nat) (V : V), (enumL k l)[i]? = some V → ∃ W, l[i]? = some W ∧ V = .tup [.int (k + i), W]
  | [], _, _, _, e => by simp [enumL] at e
  | x :: r, k, 0, V, e => by simp [enumL] at e; subst e; exact ⟨x, rfl, by simp⟩
  | x :: r, k, i + 1, V, e => by
    simp [enumL] at e
    obtain ⟨W, h1, h2⟩ := enumL_get r (k + 1) i V e
    refine ⟨W, by simpa using h1, ?_⟩
    rw [h2]; congr 3; push_cast; omega

section
variable {prog : Program} {w : World} {A : Around} {h₀ : Heap} {t : Expr}

theorem Rel.keepFp {h h' : Heap} {φ : List Addr} {σ : Store} {fp : List Addr} (S : Sim h₀ h φ σ) (mine : ∀ b ∈ fp, ∃ o us, h.get? b = some o ∧ o.data = .fields us) (k : ∀ b o, b ∉ fp → h.get? b = some o → h'.get? b = some o)
    {V : V} {v : Value} (r : Rel h φ V v) : Rel h' φ V v :=
  Rel.keep (own := fun a => a ∈ fp) (fun b o _ hb e => k b o hb e) (List.prefix_refl _) (fun a m => m.elim (fun m => S.noTup m) fun m => fields_noTup (mine a m)) _ _ r

theorem prefix_get {α : Type} {l l' : List α} (h : l <+: l') {n : Nat} {a : α} (e : l[n]? = some a) : l'[n]? = some a := by
  obtain ⟨t, rfl⟩ := h
  rw [List.getElem?_append_left (List.getElem?_eq_some_iff.mp e).1]; exact e

theorem itr_list {I : Addr} {n : Nat} {Vs : List V} {σ₀ : Store} (hh : A.handled = none) (hI : h₀.get? I = none) (hσ : σ₀[n]? = some (.list Vs)) :
    Itr prog w A h₀ t I [I] Vs (fun σ' => σ'[n]? = σ₀[n]?) (fun i h φ σ => σ[n]? = some (.list Vs) ∧ ∃ a, φ[n]? = some a ∧ h.IsListIter I a i) where
  new := fun b hb => by simp at hb; subst hb; exact hI
  mine := fun i h φ σ ⟨_, a, _, o, e, _, d⟩ b hb => by simp at hb; subst hb; exact ⟨o, _, e, d⟩
  frame := fun i h h' φ φ' σ σ' ⟨_, a, ea, o, e, c, d⟩ _ hp hs k _ => ⟨hs.trans hσ, a, prefix_get hp ea, o, k I (by simp) o e, c, d⟩
  item := fun i V s φ σ hV ⟨es, a, ea, hit⟩ S => by
    obtain ⟨a', ea', items, ⟨z, g⟩, rl, _⟩ := S.obj n _ es
    rw [ea] at ea'; cases ea'
    obtain ⟨v, ev, rv⟩ := rl.get hV
    refine wpAny_pyNext_list_item hit ⟨_, g, rfl, z, rfl⟩ (by simpa using ev) fun h' hit' hs' => ⟨v, rfl, ?_⟩
    have kk : ∀ b o, b ∉ [I] → s.heap.get? b = some o → h'.get? b = some o := fun b o hb e => hs'.extBut b o (fun h => hb (by simp [h])) e
    obtain ⟨o', e', c', d'⟩ := id hit'
    refine letOwned_other e' c' (by decide) ⟨⟨h', s.toks, rfl⟩, ?_, ⟨es, a, ea, hit'⟩, kk, fun b hb => by simp at hb; subst hb; exact ⟨o', _, e', d'⟩⟩
    obtain ⟨o, e, c, d⟩ := hit
    exact Rel.keepFp S (fun b hb => by simp at hb; subst hb; exact ⟨o, _, e, d⟩) kk rv
  done := fun s φ σ ⟨es, a, ea, hit⟩ S => by
    obtain ⟨a', ea', items, ⟨z, g⟩, rl, _⟩ := S.obj n _ es
    rw [ea] at ea'; cases ea'
    have hsz : items.size = Vs.length := by simpa using rl.length.symm
    exact wpAny_pyNext_list_end hh hit ⟨_, g, rfl, z, rfl⟩ (by simp [hsz]) fun h' he' => ⟨rfl, ⟨h', s.toks, rfl⟩, fun b o hb e => he' b o (fun h => hb (by simp [h])) e⟩
theorem self_list {I : Addr} {n : Nat} {Vs : List V} : SelfIt prog w A I (fun i h φ σ => σ[n]? = some (.list Vs) ∧ ∃ a, φ[n]? = some a ∧ h.IsListIter I a i) :=
  fun i s φ σ ⟨_, a, _, hit⟩ => wpAny_pyIter_listiter hit ⟨rfl, rfl⟩

theorem itr_tuple {I T : Addr} {Vs : List V} (hh : A.handled = none) (hI : h₀.get? I = none) :
    Itr prog w A h₀ t I [I] Vs (fun _ => True) (fun i h φ _ => h.IsTupleIter I T i ∧ Rel h φ (.tup Vs) (.ref T)) where
  new := fun b hb => by simp at hb; subst hb; exact hI
  mine := fun i h φ σ ⟨⟨o, e, _, d⟩, _⟩ b hb => by simp at hb; subst hb; exact ⟨o, _, e, d⟩
  frame := fun i h h' φ φ' σ σ' ⟨⟨o, e, c, d⟩, r⟩ _ hp hs k kr => ⟨⟨o, k I (by simp) o e, c, d⟩, kr _ _ r⟩
  item := fun i V s φ σ hV ⟨hit, r⟩ S => by
    have r' := r
    rw [Rel] at r'
    obtain ⟨T', items, z, eT, g, rl⟩ := r'
    cases eT
    obtain ⟨v, ev, rv⟩ := rl.get hV
    refine wpAny_pyNext_tuple_item hit ⟨_, g, rfl, z, rfl⟩ (by simpa using ev) fun h' hit' hs' => ⟨v, rfl, ?_⟩
    have kk : ∀ b o, b ∉ [I] → s.heap.get? b = some o → h'.get? b = some o := fun b o hb e => hs'.extBut b o (fun h => hb (by simp [h])) e
    obtain ⟨o', e', c', d'⟩ := id hit'
    obtain ⟨o, e, c, d⟩ := hit
    have mine : ∀ b ∈ [I], ∃ o us, s.heap.get? b = some o ∧ o.data = .fields us := fun b hb => by simp at hb; subst hb; exact ⟨o, _, e, d⟩
    exact letOwned_other e' c' (by decide) ⟨⟨h', s.toks, rfl⟩, Rel.keepFp S mine kk rv, ⟨hit', Rel.keepFp S mine kk r⟩, kk, fun b hb => by simp at hb; subst hb; exact ⟨o', _, e', d'⟩⟩
  done := fun s φ σ ⟨hit, r⟩ S => by
    rw [Rel] at r
    obtain ⟨T', items, z, eT, g, rl⟩ := r
    cases eT
    have hsz : items.size = Vs.length := by simpa using rl.length.symm
    exact wpAny_pyNext_tuple_end hh hit ⟨_, g, rfl, z, rfl⟩ (by simp [hsz]) fun h' he' => ⟨rfl, ⟨h', s.toks, rfl⟩, fun b o hb e => he' b o (fun h => hb (by simp [h])) e⟩
theorem self_tuple {I T : Addr} {Vs : List V} : SelfIt prog w A I (fun i h φ _ => h.IsTupleIter I T i ∧ Rel h φ (.tup Vs) (.ref T)) :=
  fun i s φ σ ⟨hit, _⟩ => wpAny_pyIter_tupleiter hit ⟨rfl, rfl⟩

theorem itr_range {I : Addr} {a : Int} {n : Nat} (hh : A.handled = none) (hI : h₀.get? I = none) :
    Itr prog w A h₀ t I [I] (rangeL a n) (fun _ => True) (fun i h _ _ => IsRangeIter h I (a + i) ((n : Int) - i) 1) where
  new := fun b hb => by simp at hb; subst hb; exact hI
  mine := fun i h φ σ e b hb => by simp at hb; subst hb; exact ⟨_, _, e, rfl⟩
  frame := fun i h h' φ φ' σ σ' e _ hp hs k kr => k I (by simp) _ e
  item := fun i V s φ σ hV e S => by
    obtain ⟨hi, rfl⟩ := rangeL_get n a i V hV
    refine wpAny_pyNext_range_item e (by omega) fun h' hit' hs' => ⟨_, rfl, ?_⟩
    have kk : ∀ b o, b ∉ [I] → s.heap.get? b = some o → h'.get? b = some o := fun b o hb e => hs'.extBut b o (fun h => hb (by simp [h])) e
    refine letOwned_other hit' rfl (by decide) ⟨⟨h', _, rfl⟩, rel_int, ?_, kk, fun b hb => by simp at hb; subst hb; exact ⟨_, _, hit', rfl⟩⟩
    have e1 : a + ((i + 1 : Nat) : Int) = a + (i : Int) + 1 := by push_cast; omega
    have e2 : (n : Int) - ((i + 1 : Nat) : Int) = (n : Int) - (i : Int) - 1 := by push_cast; omega
    rw [e1, e2]; exact hit'
  done := fun s φ σ e S => by
    rw [rangeL_length] at e
    exact wpAny_pyNext_range_end hh e (by omega) fun h' he' => ⟨rfl, ⟨h', s.toks, rfl⟩, fun b o hb e => he' b o (fun h => hb (by simp [h])) e⟩
theorem self_range {I : Addr} {a : Int} {n : Nat} : SelfIt prog w A I (fun i h _ _ => IsRangeIter h I (a + i) ((n : Int) - i) 1) :=
  fun i s φ σ e => wpAny_pyIter_rangeiter e ⟨rfl, rfl⟩

theorem itr_enum {I J : Addr} {n : Nat} {Vs : List V} {σ₀ : Store} {es : List Expr} {k : Nat} {p : Pos} (hh : A.handled = none) (hI : h₀.get? I = none) (hJ : h₀.get? J = none) (hIJ : I ≠ J) (hσ : σ₀[n]? = some (.list Vs)) :
    Itr prog w A h₀ (.Tuple es k p) I [I, J] (enumL 0 Vs) (fun σ' => σ'[n]? = σ₀[n]?) (fun i h φ σ => σ[n]? = some (.list Vs) ∧ ∃ a old, φ[n]? = some a ∧ IsEnum h I J i old ∧ h.IsListIter J a i) where
  new := fun b hb => by simp at hb; rcases hb with rfl | rfl <;> assumption
  mine := fun i h φ σ ⟨_, a, old, _, e, o, eo, _, d⟩ b hb => by
    simp at hb; rcases hb with rfl | rfl
    · exact ⟨_, _, e, rfl⟩
    · exact ⟨o, _, eo, d⟩
  frame := fun i h h' φ φ' σ σ' ⟨_, a, old, ea, e, o, eo, c, d⟩ _ hp hs k _ => ⟨hs.trans hσ, a, old, prefix_get hp ea, k I (by simp) _ e, o, k J (by simp) o eo, c, d⟩
  item := fun i V s φ σ hV ⟨es, a, old, ea, he, hit⟩ S => by
    obtain ⟨W, hW, rfl⟩ := enumL_get Vs 0 i V hV
    obtain ⟨a', ea', items, ⟨z, g⟩, rl, _⟩ := S.obj n _ es
    rw [ea] at ea'; cases ea'
    obtain ⟨v, ev, rv⟩ := rl.get hW
    refine wpAny_pyNext_enum_item he hit ⟨_, g, rfl, z, rfl⟩ (by simpa using ev) hIJ fun h₁ heo hit₁ ht₁ hz₁ hk₁ => ⟨_, rfl, ?_⟩
    refine wpAny_letOwnedTupleGo_enum heo fun h₂ he₂ hs₂ => ?_
    have kk : ∀ b o, b ∉ [I, J] → s.heap.get? b = some o → h₂.get? b = some o := fun b o hb e => by
      simp at hb
      exact (hs₂.2 b hb.1).trans (hk₁ b o hb.1 hb.2 e)
    have hit₂ : h₂.IsListIter J a (i + 1) := by obtain ⟨o, e, c, d⟩ := hit₁; exact ⟨o, (hs₂.2 J (Ne.symm hIJ)).trans e, c, d⟩
    obtain ⟨oj, ej, cj, dj⟩ := hit
    have mine : ∀ b ∈ [I, J], ∃ o us, s.heap.get? b = some o ∧ o.data = .fields us := fun b hb => by
      simp at hb; rcases hb with rfl | rfl
      · exact ⟨_, _, he, rfl⟩
      · exact ⟨oj, _, ej, dj⟩
    have hsz : I ≠ s.heap.objs.size := Nat.ne_of_lt (Heap.lt_size he)
    have rv₂ := Rel.keepFp S mine kk rv
    refine ⟨⟨h₂, _, rfl⟩, ?_, ⟨es, a, v, ea, ?_, hit₂⟩, kk, fun b hb => ?_⟩
    · rw [Rel]
      refine ⟨_, _, 0, rfl, (hs₂.2 _ (Ne.symm hsz)).trans ht₁, ?_⟩
      simp only [RelL]
      exact ⟨by simpa using (rel_int (h := h₂) (φ := φ) (i := (i : Int)) (t := s.toks)), rv₂, trivial⟩
    · have : ((i + 1 : Nat) : Int) = (i : Int) + 1 := by push_cast; rfl
      rw [this]; exact he₂
    · simp at hb; rcases hb with rfl | rfl
      · exact ⟨_, _, he₂, rfl⟩
      · obtain ⟨o, e, c, d⟩ := hit₂; exact ⟨o, _, e, d⟩
  done := fun s φ σ ⟨es, a, old, ea, he, hit⟩ S => by
    rw [enumL_length] at he hit
    obtain ⟨a', ea', items, ⟨z, g⟩, rl, _⟩ := S.obj n _ es
    rw [ea] at ea'; cases ea'
    have hsz : items.size = Vs.length := by simpa using rl.length.symm
    exact wpAny_pyNext_enum_end hh he hit ⟨_, g, rfl, z, rfl⟩ (by simp [hsz]) fun h' he' => ⟨rfl, ⟨h', s.toks, rfl⟩, fun b o hb e => he' b o (fun h => hb (by simp [h])) e⟩
end

end Mine

/-! MSrc -/
namespace Mine
open PySem PySem.Calls

noncomputable def bltNames : List Str := ["len", "list", "tuple", "sorted", "str", "int", "min", "max", "isinstance", "range", "enumerate", "set", "bool"]

/-- what stands below: the text's own functions and tables, the built-in names -/
structure Gnd (h₀ : Heap) (G : GlT) (fa : Nat → Addr) (mg mb : Str → Option Value) : Prop where
  ns : h₀.Ns mainGlobals mg
  nsb : h₀.Ns builtinsNs mb
  nolimit : h₀.NoLimit
  fn : ∀ x i, G.lookup x = some (.fn i) → mg x = some (.ref (fa i))
  isfn : ∀ x i, G.lookup x = some (.fn i) → ∃ o fd, h₀.get? (fa i) = some o ∧ o.data = .func fd
  str : ∀ x z, G.lookup x = some (.str z) → ∃ t, mg x = some (.str z t)
  int : ∀ x z, G.lookup x = some (.int z) → ∃ t, mg x = some (.int z t)
  blt : ∀ x ∈ bltNames, G.lookup x = none → mg x = none
  bv : ∀ x : Str, x ≠ "__name__" → mb x = bootBuiltins x

section
variable {prog : Program} {w : World} {h₀ : Heap} {C : Oracle} {d : Nat} {env : Env} {vs : Vs} {G : GlT} {fa : Nat → Addr} {mg mb : Str → Option Value}

theorem isGlob_kind {x : Str} (h : isGlob env.scope x = true) : env.kindOf x = some .globalImplicit := by
  unfold isGlob at h
  exact beq_iff_eq.mp h

theorem name_fn (g : Gnd h₀ G fa mg mb) {A : Around} {s : Shared} {φ : List Addr} {σ : Store} {ρ : List V} {x : Str} {i : Nat} {pos : Pos} {Q : Value → Shared → Prop} {E : Value → Shared → Prop} (S : Sim h₀ s.heap φ σ) (F : FrS h₀ s.heap φ env vs ρ)
    (hx : G.lookup x = some (.fn i)) (hk : isGlob env.scope x = true) (hd : (x == ("__debug__" : Str)) = false) (h : Q (.ref (fa i)) s) : wpAny (model prog w) A (eval (.Name x pos) env) Q E s :=
  Name_function_global F.fn (isGlob_kind hk) (loadGlobal_global (F.glob ▸ g.ns.keeps S.keep) (g.fn x i hx) h) hd
theorem name_blt (g : Gnd h₀ G fa mg mb) {A : Around} {s : Shared} {φ : List Addr} {σ : Store} {ρ : List V} {x : Str} {v : Value} {pos : Pos} {Q : Value → Shared → Prop} {E : Value → Shared → Prop} (S : Sim h₀ s.heap φ σ) (F : FrS h₀ s.heap φ env vs ρ)
    (hx : G.lookup x = none) (hb : x ∈ bltNames) (hv : bootBuiltins x = some v) (hk : isGlob env.scope x = true) (h : Q v s) : wpAny (model prog w) A (eval (.Name x pos) env) Q E s := by
  have hn : x ≠ "__name__" := by rintro rfl; revert hb; decide +kernel
  have hd : (x == ("__debug__" : Str)) = false := by
    cases e : x == ("__debug__" : Str) with
    | false => rfl
    | true => rw [beq_iff_eq.mp e] at hb; revert hb; decide +kernel
  exact Name_function_global F.fn (isGlob_kind hk) (loadGlobal_builtin (F.glob ▸ g.ns.keeps S.keep) (g.blt x hb hx) (F.blt ▸ g.nsb.keeps S.keep) ((g.bv x hn).trans hv) h) hd

theorem ok_gstr (g : Gnd h₀ G fa mg mb) {x z : Str} {pos : Pos} (hx : G.lookup x = some (.str z)) (hk : isGlob env.scope x = true) (hd : (x == ("__debug__" : Str)) = false) : EOk prog w h₀ C d env vs (.Name x pos) (.str z) :=
  fun A s φ σ ρ Q X R S F q => by
  rw [wpE] at q
  obtain ⟨t, e⟩ := g.str x z hx
  exact Name_function_global F.fn (isGlob_kind hk) (loadGlobal_global (F.glob ▸ g.ns.keeps S.keep) e (PV.same S rel_str q)) hd

theorem ok_gint (g : Gnd h₀ G fa mg mb) {x : Str} {z : Int} {pos : Pos} (hx : G.lookup x = some (.int z)) (hk : isGlob env.scope x = true) (hd : (x == ("__debug__" : Str)) = false) : EOk prog w h₀ C d env vs (.Name x pos) (.int z) :=
  fun A s φ σ ρ Q X R S F q => by
  rw [wpE] at q
  obtain ⟨t, e⟩ := g.int x z hx
  exact Name_function_global F.fn (isGlob_kind hk) (loadGlobal_global (F.glob ▸ g.ns.keeps S.keep) e (PV.same S rel_int q)) hd

noncomputable def NoStars (es : List Expr) : Prop := ∀ env pos, (backTo pos (starEach es env)).any (·.1) = false
theorem noStars_nil : NoStars [] := fun _ _ => rfl
theorem noStars_cons {e : Expr} {es : List Expr} (h : NoStar e) (hs : NoStars es) : NoStars (e :: es) := fun env pos => by
  rw [h es env]
  show (false || (backTo pos (starEach es env)).any (·.1)) = false
  rw [hs env pos]; rfl

/-- a call of a built-in function or type: the arguments first -/
theorem call_val {A : Around} {s : Shared} {φ : List Addr} {σ : Store} {ρ : List V} {Q : List V → Store → Prop} {X : XPost} {f : Value} (hf : (∃ T, f = .type T) ∨ ∃ T, f = .builtin T) {e : Expr} {es : List Expr} {as : List E} {pos : Pos} {P : Value → Shared → Prop} (R : ROk A d) (hn : NoStar e) (hns : NoStars (e :: es))
    (hl : LOk prog w h₀ C d env vs (e :: es) as) (S : Sim h₀ s.heap φ σ) (F : FrS h₀ s.heap φ env vs ρ) (q : wpL C as ρ σ Q X)
    (h : ∀ s₁ vals φ₁ σ₁ Vs, Step h₀ noOwn s s₁ φ φ₁ σ₁ → RelL s₁.heap φ₁ Vs vals → Vs.length = as.length → Q Vs σ₁ → wpAny (model prog w) A (call f vals) P (PX h₀ s φ X) s₁) :
    wpAny (model prog w) A (callWith pos f [] (backTo pos (starEach (e :: es) env)) []) P (PX h₀ s φ X) s := by
  have hp := hns env pos
  have key : wpAny (model prog w) A (evalArgs f true (backTo pos (starEach (e :: es) env)) []) (fun a s₁ => wpAny (model prog w) A (call f ([] ++ a.pos) a.kw) P (PX h₀ s φ X) s₁) (PX h₀ s φ X) s := by
    have hl' := hl A s φ σ ρ Q X pos R S F q
    rw [hn es env] at hl' ⊢
    refine evalArgs_plain (wpAny_mono hl' (fun vals s₁ y => ?_) fun _ _ e => e)
    obtain ⟨φ₁, σ₁, Vs, st, rl, hlen, q₁⟩ := y
    exact h s₁ vals φ₁ σ₁ Vs st rl hlen q₁
  rcases hf with ⟨T, rfl⟩ | ⟨T, rfl⟩
  · exact PySem.callWith_type hp key
  · exact callWith_builtin hp key
end

/-! the sources of loops -/
section
variable (prog : Program) (w : World) (h₀ : Heap) (C : Oracle) (d : Nat)
noncomputable def SrcOk (env : Env) (vs : Vs) (iter : Expr) (k : SrcK) (as : List E) (t : Expr) : Prop :=
  ∀ (A : Around) (s : Shared) (φ : List Addr) (σ : Store) (ρ : List V) (Q : List V → List V → Store → Prop) (X : XPost), ROk A d → Sim h₀ s.heap φ σ → FrS h₀ s.heap φ env vs ρ →
    wpL C as ρ σ (fun Vs σ₁ => ∃ items, srcItems k Vs σ₁ = some items ∧ Q Vs items σ₁) X →
    wpAny (model prog w) A (eval iter env) (fun x s₁ => wpAny (model prog w) A (pyIter x) (fun it s₂ => ∃ φ₁ σ₁ Vs items I fp St, it = .ref I ∧ Step h₀ noOwn s s₂ φ φ₁ σ₁ ∧ Q Vs items σ₁ ∧
      Itr prog w A h₀ t I fp items (srcSame k Vs σ₁) St ∧ St 0 s₂.heap φ₁ σ₁ ∧ (∀ b ∈ fp, s.heap.get? b = none) ∧ (k ≠ .enum → SelfIt prog w A I St)) (PX h₀ s φ X) s₁) (PX h₀ s φ X) s
end

theorem fresh_none {h₀ h : Heap} {φ : List Addr} {σ : Store} (S : Sim h₀ h φ σ) {a : Addr} (ha : h.objs.size ≤ a) : h₀.get? a = none ∧ h.get? a = none := by
  have h1 : h.get? a = none := by
    cases e : h.get? a with
    | none => rfl
    | some o => exact absurd (Heap.lt_size e) (Nat.not_lt.mpr ha)
  refine ⟨?_, h1⟩
  cases e : h₀.get? a with
  | none => rfl
  | some o => rw [S.keep a o e] at h1; cases h1

theorem none_back {h₀ : Heap} {own : Addr → Prop} {s s₁ : Shared} {φ φ₁ : List Addr} {σ₁ : Store} (x : Step h₀ own s s₁ φ φ₁ σ₁) {a : Addr} (h : s₁.heap.get? a = none) : s.heap.get? a = none := by
  cases e : s.heap.get? a with
  | none => rfl
  | some o => obtain ⟨o', e'⟩ := x.pres a o e; rw [h] at e'; cases e'

section
variable {prog : Program} {w : World} {h₀ : Heap} {C : Oracle} {d : Nat} {env : Env} {vs : Vs} {G : GlT} {fa : Nat → Addr} {mg mb : Str → Option Value}

theorem src_plain {iter : Expr} {a : E} {t : Expr} (h : EOk prog w h₀ C d env vs iter a) : SrcOk prog w h₀ C d env vs iter .plain [a] t := fun A s φ σ ρ Q X R S F q => by
  rw [wpL] at q
  refine wpAny_mono (h A s φ σ ρ _ X R S F q) (fun x s₁ y => ?_) fun _ _ e => e
  obtain ⟨φ₁, σ₁, V, st, rl, q₁⟩ := y
  rw [wpL] at q₁
  obtain ⟨items, ei, q₁⟩ := q₁
  have fr := fresh_none st.sim (Nat.le_refl s₁.heap.objs.size)
  have kk : ∀ o b ob, s₁.heap.get? b = some ob → (s₁.heap.push o).get? b = some ob := fun o b ob e => Heap.get?_push_of_some _ e
  cases V <;> simp only [srcItems, Mine.listItems, rangeItems, enumItems, Option.some.injEq, reduceCtorEq] at ei
  case tup Vs =>
    subst ei
    have rl' := rl
    rw [Rel] at rl'
    obtain ⟨T, its, z, rfl, g, rr⟩ := rl'
    refine wpAny_pyIter_tuple ⟨_, g, rfl, z, rfl⟩ ?_
    have st₂ : Step h₀ noOwn s₁ { s₁ with heap := s₁.heap.push { cls := .type "tuple_iterator", data := .fields #[.ref T, .int 0 0] } } φ₁ φ₁ σ₁ := Step.keeps st.sim s₁.toks (kk _)
    exact ⟨φ₁, σ₁, [.tup Vs], Vs, _, _, _, rfl, st.trans st₂, q₁, itr_tuple (T := T) R.hd fr.1, ⟨⟨_, Heap.get?_push_size _ rfl, rfl, rfl⟩, rl.step st.sim st₂⟩, fun b hb => by simp at hb; subst hb; exact none_back st fr.2, fun _ => self_tuple⟩
  case ref n =>
    split at ei
    · rename_i Vs en
      simp only [Option.some.injEq] at ei; subst ei
      obtain ⟨l, its, z, rfl, el, g, rr, hz⟩ := st.sim.list en rl
      refine wpAny_pyIter_list g.isList ?_
      have st₂ : Step h₀ noOwn s₁ { s₁ with heap := s₁.heap.push { cls := .type "list_iterator", data := .fields #[.ref l, .int 0 0] } } φ₁ φ₁ σ₁ := Step.keeps st.sim s₁.toks (kk _)
      exact ⟨φ₁, σ₁, [.ref n], Vs, _, _, _, rfl, st.trans st₂, q₁, itr_list R.hd fr.1 en, ⟨en, l, el, ⟨_, Heap.get?_push_size _ rfl, rfl, rfl⟩⟩, fun b hb => by simp at hb; subst hb; exact none_back st fr.2, fun _ => self_list⟩
    · cases ei

theorem boot_range : bootBuiltins "range" = some (.type "range") := by decide +kernel
theorem boot_enumerate : bootBuiltins "enumerate" = some (.type "enumerate") := by decide +kernel

theorem call_eq {f : Str} {pf pos : Pos} {es : List Expr} : eval (.Call (.Name f pf) es [] pos) env = (do callWith pos (← eval (.Name f pf) env) [] (backTo pos (starEach es env)) []) := rfl

theorem src_range (g : Gnd h₀ G fa mg mb) {e : Expr} {es : List Expr} {as : List E} {t : Expr} {pf pos : Pos} (hx : G.lookup ("range" : Str) = none) (hk : isGlob env.scope ("range" : Str) = true) (hn : NoStar e) (hns : NoStars (e :: es)) (hl : LOk prog w h₀ C d env vs (e :: es) as) :
    SrcOk prog w h₀ C d env vs (.Call (.Name ("range" : Str) pf) (e :: es) [] pos) .range as t := fun A s φ σ ρ Q X R S F q => by
  rw [call_eq]
  refine wpAny_bind (name_blt g S F hx (by decide) boot_range hk ?_)
  refine call_val (.inl ⟨_, rfl⟩) R hn hns hl S F q fun s₁ vals φ₁ σ₁ Vs st rl hlen y => ?_
  obtain ⟨items, ei, q₁⟩ := y
  have fr0 := fresh_none st.sim (Nat.le_refl s₁.heap.objs.size)
  match Vs, vals, rl, ei with
  | [.int b], [v], rl, ei =>
    simp only [RelL, Rel] at rl
    obtain ⟨⟨u, rfl⟩, _⟩ := rl
    simp only [srcItems, Mine.listItems, rangeItems, enumItems] at ei
    split at ei
    · rename_i hb
      simp only [Option.some.injEq] at ei; subst ei
      refine call_range_1 ?_
      refine wpAny_pyIter_range (IsRange.new _ _ _ _ _ _ _) (small_one (by decide) (by decide) hb.1 (by unfold maxLen at hb; omega)) ?_
      have hsz : Builtin.Range.rangeSize 0 b 1 = ((b.toNat : Nat) : Int) := by rw [rangeSize_one]; split <;> omega
      rw [hsz]
      refine ⟨φ₁, σ₁, [.int b], rangeL 0 b.toNat, _, _, _, rfl, st.trans (Step.keeps st.sim _ fun c o e => Heap.get?_push_of_some _ (Heap.get?_push_of_some _ e)), q₁,
        itr_range (a := 0) (n := b.toNat) R.hd ?_, ?_, fun c hc => ?_, fun _ => self_range⟩
      · rw [Heap.size_push]; exact (fresh_none st.sim (Nat.le_succ _)).1
      · exact (Heap.get?_push_size _ rfl).trans (by simp)
      · simp only [List.mem_singleton] at hc; subst hc
        rw [Heap.size_push]; exact none_back st (fresh_none st.sim (Nat.le_succ _)).2
    · cases ei
  | [.int a, .int b], [v, v'], rl, ei =>
    simp only [RelL, Rel] at rl
    obtain ⟨⟨u, rfl⟩, ⟨u', rfl⟩, _⟩ := rl
    simp only [srcItems, Mine.listItems, rangeItems, enumItems] at ei
    split at ei
    · rename_i hb
      simp only [Option.some.injEq] at ei; subst ei
      refine call_range_2 ?_
      refine wpAny_pyIter_range (IsRange.new _ _ _ _ _ _ _) (small_one (by omega) (by unfold maxLen at hb; omega) hb.2.2.1 (by unfold maxLen at hb; omega)) ?_
      have hsz : Builtin.Range.rangeSize a b 1 = (((b - a).toNat : Nat) : Int) := by rw [rangeSize_one]; split <;> omega
      rw [hsz]
      refine ⟨φ₁, σ₁, [.int a, .int b], rangeL a (b - a).toNat, _, _, _, rfl, st.trans (Step.keeps st.sim _ fun c o e => Heap.get?_push_of_some _ (Heap.get?_push_of_some _ e)), q₁,
        itr_range (a := a) (n := (b - a).toNat) R.hd ?_, ?_, fun c hc => ?_, fun _ => self_range⟩
      · rw [Heap.size_push]; exact (fresh_none st.sim (Nat.le_succ _)).1
      · exact (Heap.get?_push_size _ rfl).trans (by simp)
      · simp only [List.mem_singleton] at hc; subst hc
        rw [Heap.size_push]; exact none_back st (fresh_none st.sim (Nat.le_succ _)).2
    · cases ei
  | [.int _], [], rl, _ => simp [RelL] at rl
  | [.int _], _ :: _ :: _, rl, _ => simp [RelL] at rl
  | [.int _, .int _], [], rl, _ => simp [RelL] at rl
  | [.int _, .int _], [_], rl, _ => simp [RelL] at rl
  | [.int _, .int _], _ :: _ :: _ :: _, rl, _ => simp [RelL] at rl

theorem sok_for {t iter : Expr} {p : Pat} {k : SrcK} {as : List E} {body : List Stmt} {body' : List S} {pos} (hs : ∀ x, foldedSetIterable iter env x = pure x) (ht : CPat env vs t p) (hi : SrcOk prog w h₀ C d env vs iter k as t) (hb : SsOk prog w h₀ C d env vs body body') :
    SOk prog w h₀ C d env vs (.For t iter body [] pos) (.for_ p k as body') := fun A s φ σ ρ Q R S F q => by
  rw [wpS] at q
  refine wpAny_For (wpAny_mono (hi A s φ σ ρ _ _ R S F q) (fun x s₁ y => ?_) fun _ _ e => e.elim) hs
  refine wpAny_mono y (fun it s₂ z => ?_) fun _ _ e => e.elim
  obtain ⟨φ₁, σ₁, Vs, items, I, fp, St, rfl, st, q₁, W, st0, hfp, _⟩ := z
  refine codeAny_mono (for_loop R st hfp W ht hb (F.step S st) st0 q₁) fun r s' hr => ?_
  cases r with
  | ok f => exact hr
  | error e => exact hr.elim
end

end Mine

/-! MCall -/
namespace Mine
open PySem PySem.Calls

section
variable {prog : Program} {w : World} {h₀ : Heap} {C : Oracle} {d : Nat} {env : Env} {vs : Vs} {G : GlT} {fa : Nat → Addr} {mg mb : Str → Option Value}

theorem src_enum (g : Gnd h₀ G fa mg mb) {e : Expr} {a : E} {ts : List Expr} {kt : Nat} {pt pf pos : Pos} (hx : G.lookup ("enumerate" : Str) = none) (hk : isGlob env.scope ("enumerate" : Str) = true) (hn : NoStar e) (hl : LOk prog w h₀ C d env vs [e] [a]) :
    SrcOk prog w h₀ C d env vs (.Call (.Name ("enumerate" : Str) pf) [e] [] pos) .enum [a] (.Tuple ts kt pt) := fun A s φ σ ρ Q X R S F q => by
  rw [call_eq]
  refine wpAny_bind (name_blt g S F hx (by decide) boot_enumerate hk ?_)
  refine call_val (.inl ⟨_, rfl⟩) R hn (noStars_cons hn noStars_nil) hl S F q fun s₁ vals φ₁ σ₁ Vs st rl hlen y => ?_
  obtain ⟨items, ei, q₁⟩ := y
  have hV : ∃ n, Vs = [.ref n] := by
    simp only [srcItems] at ei
    split at ei
    · rename_i v
      cases v <;> first | exact ⟨_, rfl⟩ | (simp only [enumItems, reduceCtorEq] at ei)
    · cases ei
  obtain ⟨n, rfl⟩ := hV
  match vals, rl, ei with
  | [v], rl, ei =>
    simp only [RelL] at rl
    simp only [srcItems, Mine.listItems, rangeItems, enumItems] at ei
    split at ei
    · rename_i Ws en
      simp only [Option.some.injEq] at ei; subst ei
      obtain ⟨l, its, z, rfl, el, gl, rr, hz⟩ := st.sim.list en rl.1
      refine call_enumerate_list gl.isList fun h' he hit hsz kk => ?_
      refine wpAny_pyIter_enum he ?_
      refine ⟨φ₁, σ₁, [.ref n], enumL 0 Ws, _, _, _, rfl, st.trans (Step.keeps st.sim s₁.toks kk), q₁,
        itr_enum (n := n) (Vs := Ws) R.hd (fresh_none st.sim (Nat.le_succ _)).1 (fresh_none st.sim (Nat.le_refl _)).1 (Nat.succ_ne_self _) en, ⟨en, l, .none, el, he, hit⟩, fun c hc => ?_, fun h => absurd rfl h⟩
      simp only [List.mem_cons, List.not_mem_nil, or_false] at hc
      rcases hc with rfl | rfl
      · exact none_back st (fresh_none st.sim (Nat.le_succ _)).2
      · exact none_back st (fresh_none st.sim (Nat.le_refl _)).2
    · cases ei
  | [], rl, _ => simp [RelL] at rl
  | _ :: _ :: _, rl, _ => simp [RelL] at rl

/-! calls of the text's own functions -/
variable (prog w h₀ fa C d) in
noncomputable def CSound : Prop := ∀ (x : Str) (i : Nat), G.lookup x = some (.fn i) → ∀ (A : Around) (s : Shared) (φ : List Addr) (σ : Store) (Vs : List V) (vals : List Value) (Q : V → Store → Prop) (X : XPost), ROk A d → Sim h₀ s.heap φ σ → RelL s.heap φ Vs vals →
  C i Vs σ Q X → codeAny (model prog w) A (.call (.ref (fa i)) ⟨vals, []⟩) (fun r s' => match r with | .ok (.ret v) => PV h₀ s φ Q v s' | .ok _ => False | .error e => PX h₀ s φ X e s') s

theorem ok_call (g : Gnd h₀ G fa mg mb) (hC : CSound prog w h₀ C d (G := G) fa) {x : Str} {i : Nat} {e : Expr} {es : List Expr} {as : List E} {pf pos : Pos} (hx : G.lookup x = some (.fn i)) (hk : isGlob env.scope x = true)
    (hd : (x == ("__debug__" : Str)) = false) (hn : NoStar e) (hl : LOk prog w h₀ C d env vs (e :: es) as) : EOk prog w h₀ C d env vs (.Call (.Name x pf) (e :: es) [] pos) (.call i as) := fun A s φ σ ρ Q X R S F q => by
  rw [wpE] at q
  rw [call_eq]
  refine wpAny_bind (name_fn g S F hx hk hd ?_)
  obtain ⟨o, fd, ho, hdat⟩ := g.isfn x i hx
  refine callWith_function (o := o) (fd := fd) ?_
  have hl' := hl A s φ σ ρ _ X pos R S F q
  rw [hn es env] at hl' ⊢
  refine evalArgs_plain (wpAny_mono hl' (fun vals s₁ y => ?_) fun _ _ e => e)
  obtain ⟨φ₁, σ₁, Vs, st, rl, hlen, q₁⟩ := y
  refine ⟨⟨st.sim.keep _ _ ho, hdat⟩, wpAny_call (codeAny_mono (hC x i hx A s₁ φ₁ σ₁ Vs vals Q X R st.sim rl q₁) fun r s' hr => ?_)⟩
  cases r with
  | error e => exact PX.trans st hr
  | ok f => cases f with
    | ret v => exact PV.trans st hr
    | _ => exact hr
end

end Mine

/-! MPrim -/
namespace Mine
open PySem PySem.Calls

theorem nodup_inj {α : Type} {l : List α} (h : l.Nodup) {i j : Nat} (hi : i < l.length) (hj : j < l.length) (e : l[i] = l[j]) : i = j := by
  rw [List.nodup_iff_pairwise_ne, List.pairwise_iff_getElem] at h
  rcases Nat.lt_trichotomy i j with c | c | c
  · exact absurd e (h i j hi hj c)
  · exact c
  · exact absurd e.symm (h j i hj hi c)

noncomputable def tyName : Ty → String
  | .int => "int" | .bool => "bool" | .str => "str" | .tuple => "tuple" | .list => "list"

theorem boot_len : bootBuiltins "len" = some (.builtin "len") := by decide +kernel
theorem boot_list : bootBuiltins "list" = some (.type "list") := by decide +kernel
theorem boot_tuple : bootBuiltins "tuple" = some (.type "tuple") := by decide +kernel
theorem boot_sorted : bootBuiltins "sorted" = some (.builtin "sorted") := by decide +kernel
theorem boot_str : bootBuiltins "str" = some (.type "str") := by decide +kernel
theorem boot_int : bootBuiltins "int" = some (.type "int") := by decide +kernel
theorem boot_bool : bootBuiltins "bool" = some (.type "bool") := by decide +kernel
theorem boot_min : bootBuiltins "min" = some (.builtin "min") := by decide +kernel
theorem boot_max : bootBuiltins "max" = some (.builtin "max") := by decide +kernel
theorem boot_isinstance : bootBuiltins "isinstance" = some (.builtin "isinstance") := by decide +kernel
theorem boot_set : bootBuiltins "set" = some (.type "set") := by decide +kernel

section
variable {prog : Program} {w : World} {h₀ : Heap} {A : Around} {s : Shared} {φ : List Addr} {σ : Store} {E : Value → Shared → Prop} {Q : V → Store → Prop}

theorem len_ok {V : Mine.V} {v : Value} (S : Sim h₀ s.heap φ σ) (r : Rel s.heap φ V v) (q : (primV .len [V] σ).to Q) : wpAny (model prog w) A (call (.builtin "len") [v]) (PV h₀ s φ Q) E s := by
  cases V <;> simp only [primV, oneV, twoV, lenV, listV, strV, toIntV, isV, appV, intV] at q <;> try exact q.elim
  case tup Vs =>
    split at q
    · rename_i hz
      rw [Rel] at r
      obtain ⟨a, items, n, rfl, g, rl⟩ := r
      have hsz : items.size = Vs.length := by simpa using rl.length.symm
      refine PySem.P.len_tuple g (by unfold maxLen at hz; omega) ?_
      rw [hsz]; exact PV.plain S rel_int q
    · exact q.elim
  case ref n =>
    split at q
    · rename_i Vs en
      obtain ⟨a, items, k, rfl, _, g, rl, z⟩ := S.list en r
      have hsz : items.size = Vs.length := by simpa using rl.length.symm
      refine call_len_list g.isList (by omega) ?_
      rw [hsz]; exact PV.plain S rel_int q
    · exact q.elim

theorem PV.listAt {Vs : List V} {items : Array Value} {a : Addr} {h' : Heap} {tk c : Nat} (S : Sim h₀ s.heap φ σ) (r : RelL s.heap φ Vs items.toList) (hz : Vs.length ≤ 2 ^ 20) (ha : s.heap.get? a = none)
    (k : ∀ b o, s.heap.get? b = some o → h'.get? b = some o) (hD : h'.get? a = some { cls := .type "list", data := .seq items c }) (q : Q (.ref σ.length) (σ ++ [.list Vs])) : PV h₀ s φ Q (.ref a) { s with heap := h', toks := tk } := by
  have S' := S.alloc (vs := Vs) (items := items) k ⟨c, hD⟩ ha (RelL.keep (own := noOwn) (fun b o _ _ e => k b o e) (List.prefix_refl _) (fun a m => m.elim (fun m => S.noTup m) fun f => f.elim) _ _ r) hz
  refine ⟨φ ++ [a], _, .ref σ.length, ⟨⟨_, _, rfl⟩, List.prefix_append _ _, S', fun b o _ _ e => k b o e, fun x m => ?_, fun b o e => ⟨o, k b o e⟩⟩, ?_, q⟩
  · rcases List.mem_append.mp m with m | m
    · exact .inl m
    · simp at m; subst m; exact .inr ha
  · rw [Rel]; exact ⟨_, rfl, by rw [← S.len]; simp⟩

theorem list_ok {V : Mine.V} {v : Value} (S : Sim h₀ s.heap φ σ) (r : Rel s.heap φ V v) (q : (primV .list [V] σ).to Q) : wpAny (model prog w) A (call (.type "list") [v]) (PV h₀ s φ Q) E s := by
  cases V <;> simp only [primV, oneV, twoV, lenV, listV, strV, toIntV, isV, appV, intV] at q <;> try exact q.elim
  case ref n =>
    split at q
    · rename_i Vs en
      obtain ⟨a, items, k, rfl, _, g, rl, z⟩ := S.list en r
      have hsz : items.size = Vs.length := by simpa using rl.length.symm
      refine PySem.call_list_seq (hsz := size_le' (by omega)) a (.inl rfl) g rfl rfl fun h' c' hk hD => ?_
      exact PV.listAt S rl z (fresh_none S (Nat.le_refl _)).2 hk hD q
    · exact q.elim

theorem tuple_ok {V : Mine.V} {v : Value} (S : Sim h₀ s.heap φ σ) (r : Rel s.heap φ V v) (q : (primV .tuple [V] σ).to Q) : wpAny (model prog w) A (call (.type "tuple") [v]) (PV h₀ s φ Q) E s := by
  cases V <;> simp only [primV, oneV, twoV, lenV, listV, strV, toIntV, isV, appV, intV] at q <;> try exact q.elim
  case ref n =>
    split at q
    · rename_i Vs en
      obtain ⟨a, items, k, rfl, _, g, rl, z⟩ := S.list en r
      have hsz : items.size = Vs.length := by simpa using rl.length.symm
      refine call_tuple_list g.isList (fun h' hk => ?_) (size_le' (by omega))
      have st : Step h₀ noOwn s { s with heap := h' } φ φ σ := Step.keeps S s.toks hk
      have := PV.tuple (n := 0) (tk := s.toks) (Q := Q) st.sim (rl.step S st) q
      refine PV.trans st ?_
      simpa using this
    · exact q.elim

theorem min_ok {V W : Mine.V} {v u : Value} (hh : A.handled = none) (S : Sim h₀ s.heap φ σ) (r : Rel s.heap φ V v) (r' : Rel s.heap φ W u) (q : (primV .min [V, W] σ).to Q) : wpAny (model prog w) A (call (.builtin "min") [v, u]) (PV h₀ s φ Q) E s := by
  cases V <;> cases W <;> simp only [primV, oneV, twoV, lenV, listV, strV, toIntV, isV, appV, intV] at q <;> try exact q.elim
  rename_i a b
  simp only [Rel] at r r'
  obtain ⟨t, rfl⟩ := r
  obtain ⟨t', rfl⟩ := r'
  refine min_two_ints hh fun h' tk k => ?_
  have st : Step h₀ noOwn s { s with heap := h', toks := tk } φ φ σ := Step.keeps S tk k
  refine PV.trans st (PV.same st.sim ?_ q)
  split <;> exact rel_int
theorem max_ok {V W : Mine.V} {v u : Value} (hh : A.handled = none) (S : Sim h₀ s.heap φ σ) (r : Rel s.heap φ V v) (r' : Rel s.heap φ W u) (q : (primV .max [V, W] σ).to Q) : wpAny (model prog w) A (call (.builtin "max") [v, u]) (PV h₀ s φ Q) E s := by
  cases V <;> cases W <;> simp only [primV, oneV, twoV, lenV, listV, strV, toIntV, isV, appV, intV] at q <;> try exact q.elim
  rename_i a b
  simp only [Rel] at r r'
  obtain ⟨t, rfl⟩ := r
  obtain ⟨t', rfl⟩ := r'
  refine max_two_ints hh fun h' tk k => ?_
  have st : Step h₀ noOwn s { s with heap := h', toks := tk } φ φ σ := Step.keeps S tk k
  refine PV.trans st (PV.same st.sim ?_ q)
  split <;> exact rel_int
theorem int_ok {V : Mine.V} {v : Value} (S : Sim h₀ s.heap φ σ) (r : Rel s.heap φ V v) (q : (primV .int [V] σ).to Q) : wpAny (model prog w) A (call (.type "int") [v]) (PV h₀ s φ Q) E s := by
  cases V <;> simp only [primV, oneV, twoV, lenV, listV, strV, toIntV, isV, appV, intV] at q <;> try exact q.elim
  rename_i b
  rw [Rel] at r; subst r
  exact call_int_bool (PV.plain S rel_int q)
theorem str_ok {V : Mine.V} {v : Value} (S : Sim h₀ s.heap φ σ) (r : Rel s.heap φ V v) (q : (primV .str [V] σ).to Q) : wpAny (model prog w) A (call (.type "str") [v]) (PV h₀ s φ Q) E s := by
  cases V <;> simp only [primV, oneV, twoV, lenV, listV, strV, toIntV, isV, appV, intV] at q <;> try exact q.elim
  split at q
  · rename_i b hb
    rw [Rel] at r; obtain ⟨t, rfl⟩ := r
    refine PySem.P.str_of_int ?_ (PV.plain S rel_str q)
    unfold small at hb
    simp only [Bool.and_eq_true, decide_eq_true_eq] at hb
    by_cases h0 : b.natAbs = 0
    · rw [h0]; decide
    · exact (Nat.log2_lt h0).mpr (Nat.lt_of_lt_of_le (by omega : b.natAbs < 2 ^ 64) (Nat.pow_le_pow_right (by omega) (by omega)))
  · exact q.elim

theorem isinst_ok {ty : Ty} {V : Mine.V} {v : Value} (S : Sim h₀ s.heap φ σ) (r : Rel s.heap φ V v) (q : (primV (.isinst ty) [V] σ).to Q) : wpAny (model prog w) A (call (.builtin "isinstance") [v, .type (tyName ty)]) (PV h₀ s φ Q) E s := by
  simp only [primV, oneV, twoV, lenV, listV, strV, toIntV, isV, appV, intV] at q
  split at q
  · rename_i b hb
    have fin : ∀ tk, PV h₀ s φ Q (.bool b) { s with toks := tk } := fun tk => PV.plain S rel_bool q
    cases V <;> simp only [typeIs, Option.some.injEq, reduceCtorEq] at hb
    case bool c =>
      rw [Rel] at r; subst r hb
      cases ty
      · exact IsiPair.bool_int (fin s.toks)
      · exact IsiPair.bool_bool (fin s.toks)
      · exact IsiPair.bool_str (fin _)
      · exact IsiPair.bool_tuple (fin _)
      · exact IsiPair.bool_list (fin _)
    case int i =>
      rw [Rel] at r; obtain ⟨t, rfl⟩ := r; subst hb
      cases ty
      · exact IsiPair.int_int (fin s.toks)
      · exact IsiPair.int_bool (fin _)
      · exact IsiPair.int_str (fin _)
      · exact IsiPair.int_tuple (fin _)
      · exact IsiPair.int_list (fin _)
    case str i =>
      rw [Rel] at r; obtain ⟨t, rfl⟩ := r; subst hb
      cases ty
      · exact IsiPair.str_int (fin _)
      · exact IsiPair.str_bool (fin _)
      · exact IsiPair.str_str (fin s.toks)
      · exact IsiPair.str_tuple (fin _)
      · exact IsiPair.str_list (fin _)
    case tup Vs =>
      rw [Rel] at r; obtain ⟨a, items, n, rfl, g, rl⟩ := r; subst hb
      have hT : s.heap.IsTuple a items := ⟨_, g, rfl, n, rfl⟩
      cases ty
      · exact IsiPair.isTuple_int hT (fun _ _ e => e) (fin _)
      · exact IsiPair.isTuple_bool hT (fun _ _ e => e) (fin _)
      · exact IsiPair.isTuple_str hT (fun _ _ e => e) (fin _)
      · exact IsiPair.isTuple_tuple hT (fun _ _ e => e) (fin s.toks)
      · exact IsiPair.isTuple_list hT (fun _ _ e => e) (fin _)
    case ref n =>
      split at hb
      · rename_i Vs en
        simp only [Option.some.injEq] at hb; subst hb
        obtain ⟨a, items, k, rfl, _, g, rl, z⟩ := S.list en r
        have hT := g.isList
        cases ty
        · exact IsiPair.isList_int hT (fun _ _ e => e) (fin _)
        · exact IsiPair.isList_bool hT (fun _ _ e => e) (fin _)
        · exact IsiPair.isList_str hT (fun _ _ e => e) (fin _)
        · exact IsiPair.isList_tuple hT (fun _ _ e => e) (fin _)
        · exact IsiPair.isList_list hT (fun _ _ e => e) (fin s.toks)
      · cases hb
  · exact q.elim

/-- a list of the store changed -/
theorem Step.setList {n : Nat} {a : Addr} {Vs : List V} {items : Array Value} {h' : Heap} {tk : Nat} {own : Addr → Prop} (S : Sim h₀ s.heap φ σ) (ea : φ[n]? = some a) (hn : n < σ.length) (hn0 : n ≠ 0) (hs : Heap.SameBut a s.heap h') (hp : h'.PlainList a items)
    (rl : RelL s.heap φ Vs items.toList) (hz : Vs.length ≤ 2 ^ 20) : Step h₀ own s { s with heap := h', toks := tk } φ φ (σ.set n (.list Vs)) := by
  have ma : a ∈ φ := List.mem_of_getElem? ea
  have kk : ∀ b o, b ≠ a → s.heap.get? b = some o → h'.get? b = some o := fun b o hb e => (hs.2 b hb).trans e
  have K : Keep φ noOwn s.heap h' := fun b o hb _ e => kk b o (fun h => hb (h ▸ ma)) e
  have R' : ∀ Ws us, RelL s.heap φ Ws us → RelL h' φ Ws us := fun Ws us r => RelL.keep K (List.prefix_refl _) (fun a m => m.elim (fun m => S.noTup m) fun f => f.elim) _ _ r
  refine ⟨⟨_, _, rfl⟩, List.prefix_refl _, ⟨fun b o e => ?_, by simp [S.len], S.nodup, S.new, fun m o e => ?_⟩, K.mono (fun _ m => m) (fun _ f => f.elim), fun _ m => .inl m, fun b o e => ?_⟩
  · refine kk b o (fun h => ?_) (S.keep b o e)
    rw [h, S.new (n - 1) a (by rw [show n - 1 + 1 = n by omega]; exact ea)] at e; cases e
  · by_cases hm : n = m
    · subst hm
      rw [set_get_eq hn] at e
      cases e
      exact ⟨a, ea, items, hp, R' _ _ rl, hz⟩
    · rw [set_get_ne hm] at e
      obtain ⟨b, eb, r⟩ := S.obj m o e
      have hab : b ≠ a := fun h => by
        subst h
        have h1 := List.getElem?_eq_some_iff.mp ea
        have h2 := List.getElem?_eq_some_iff.mp eb
        exact hm (nodup_inj S.nodup h1.1 h2.1 (h1.2.trans h2.2.symm))
      refine ⟨b, eb, ?_⟩
      cases o with
      | list Ws =>
        obtain ⟨it, ⟨z, hb⟩, rr, zz⟩ := r
        exact ⟨it, ⟨z, kk b _ hab hb⟩, R' _ _ rr, zz⟩
  · by_cases hb : b = a
    · subst hb; obtain ⟨z, e'⟩ := hp; exact ⟨_, e'⟩
    · exact ⟨o, kk b o hb e⟩

theorem append_ok {V W : Mine.V} {v u : Value} (S : Sim h₀ s.heap φ σ) (r : Rel s.heap φ V v) (r' : Rel s.heap φ W u) (q : (primV .append [V, W] σ).to Q) : wpAny (model prog w) A (call (.builtin "list.append") [v, u]) (PV h₀ s φ Q) E s := by
  cases V <;> simp only [primV, oneV, twoV, lenV, listV, strV, toIntV, isV, appV, intV] at q <;> try exact q.elim
  rename_i n
  split at q
  · rename_i Vs en
    split at q
    · rename_i hz
      obtain ⟨a, items, k, rfl, ea, g, rl, z⟩ := S.list en r
      have hsz : items.size = Vs.length := by simpa using rl.length.symm
      refine wpAny_list_append_plain ⟨k, g⟩ (fun h' hp hs => ?_) (size_le (by omega))
      refine ⟨φ, _, .none, Step.setList (items := items.push u) (tk := s.toks) S ea (List.getElem?_eq_some_iff.mp en).1 hz.2 hs hp ?_ (by simp; have := hz.1; unfold maxLen at this; omega), rel_none, q⟩
      rw [Array.toList_push]
      exact rl.append (by simp only [RelL]; exact ⟨r', trivial⟩)
    · exact q.elim
  · exact q.elim
end

end Mine

/-! MPrim2 -/
namespace Mine
open PySem PySem.Calls

noncomputable def PrimOk (prog : Program) (w : World) (h₀ : Heap) (p : Pr) (f : Value) : Prop :=
  ∀ (A : Around) (s : Shared) (φ : List Addr) (σ : Store) (Vs : List V) (vals : List Value) (Q : V → Store → Prop) (E : Value → Shared → Prop), A.handled = none → A.units + 100 < 9900 → Sim h₀ s.heap φ σ → RelL s.heap φ Vs vals → (primV p Vs σ).to Q →
    wpAny (model prog w) A (call f vals) (PV h₀ s φ Q) E s

section
variable {prog : Program} {w : World} {h₀ : Heap} {C : Oracle} {d : Nat} {env : Env} {vs : Vs} {G : GlT} {fa : Nat → Addr} {mg mb : Str → Option Value}

theorem prim_one {p : Pr} {f : Value} (h : ∀ (A : Around) (s : Shared) (φ : List Addr) (σ : Store) (V : V) (v : Value) (Q : Mine.V → Store → Prop) (E : Value → Shared → Prop), A.handled = none → A.units + 100 < 9900 → Sim h₀ s.heap φ σ → Rel s.heap φ V v → (primV p [V] σ).to Q →
    wpAny (model prog w) A (call f [v]) (PV h₀ s φ Q) E s) (hs : ∀ Vs σ Q, (primV p Vs σ).to Q → ∃ V, Vs = [V]) : PrimOk prog w h₀ p f := fun A s φ σ Vs vals Q E hh hu S r q => by
  obtain ⟨V, rfl⟩ := hs Vs σ Q q
  match vals, r with
  | [v], r => simp only [RelL] at r; exact h A s φ σ V v Q E hh hu S r.1 q
  | [], r => simp [RelL] at r
  | _ :: _ :: _, r => simp [RelL] at r
theorem prim_two {p : Pr} {f : Value} (h : ∀ (A : Around) (s : Shared) (φ : List Addr) (σ : Store) (V W : Mine.V) (v u : Value) (Q : Mine.V → Store → Prop) (E : Value → Shared → Prop), A.handled = none → Sim h₀ s.heap φ σ → Rel s.heap φ V v → Rel s.heap φ W u → (primV p [V, W] σ).to Q →
    wpAny (model prog w) A (call f [v, u]) (PV h₀ s φ Q) E s) (hs : ∀ Vs σ Q, (primV p Vs σ).to Q → ∃ V W, Vs = [V, W]) : PrimOk prog w h₀ p f := fun A s φ σ Vs vals Q E hh hu S r q => by
  obtain ⟨V, W, rfl⟩ := hs Vs σ Q q
  match vals, r with
  | [v, u], r => simp only [RelL] at r; exact h A s φ σ V W v u Q E hh S r.1 r.2.1 q
  | [], r => simp [RelL] at r
  | [_], r => simp [RelL] at r
  | _ :: _ :: _ :: _, r => simp [RelL] at r

theorem prim_len : PrimOk prog w h₀ .len (.builtin "len") := prim_one (fun _ _ _ _ _ _ _ _ _ _ S r q => len_ok S r q) fun Vs σ Q q => by
  match Vs, q with
  | [V], _ => exact ⟨V, rfl⟩
  | [], q => exact q.elim
  | x :: _ :: _, q => cases x <;> exact q.elim
theorem prim_list : PrimOk prog w h₀ .list (.type "list") := prim_one (fun _ _ _ _ _ _ _ _ _ _ S r q => list_ok S r q) fun Vs σ Q q => by
  match Vs, q with
  | [V], _ => exact ⟨V, rfl⟩
  | [], q => exact q.elim
  | x :: _ :: _, q => cases x <;> exact q.elim
theorem prim_tuple : PrimOk prog w h₀ .tuple (.type "tuple") := prim_one (fun _ _ _ _ _ _ _ _ _ _ S r q => tuple_ok S r q) fun Vs σ Q q => by
  match Vs, q with
  | [V], _ => exact ⟨V, rfl⟩
  | [], q => exact q.elim
  | x :: _ :: _, q => cases x <;> exact q.elim
theorem prim_str : PrimOk prog w h₀ .str (.type "str") := prim_one (fun _ _ _ _ _ _ _ _ _ _ S r q => str_ok S r q) fun Vs σ Q q => by
  match Vs, q with
  | [V], _ => exact ⟨V, rfl⟩
  | [], q => exact q.elim
  | x :: _ :: _, q => cases x <;> exact q.elim
theorem prim_int : PrimOk prog w h₀ .int (.type "int") := prim_one (fun _ _ _ _ _ _ _ _ _ _ S r q => int_ok S r q) fun Vs σ Q q => by
  match Vs, q with
  | [V], _ => exact ⟨V, rfl⟩
  | [], q => exact q.elim
  | x :: _ :: _, q => cases x <;> exact q.elim
theorem prim_min : PrimOk prog w h₀ .min (.builtin "min") := prim_two (fun _ _ _ _ _ _ _ _ _ _ hh S r r' q => min_ok hh S r r' q) fun Vs σ Q q => by
  match Vs, q with
  | [V, W], _ => exact ⟨V, W, rfl⟩
  | [], q => exact q.elim
  | [x], q => cases x <;> exact q.elim
  | x :: y :: _ :: _, q => cases x <;> cases y <;> exact q.elim
theorem prim_max : PrimOk prog w h₀ .max (.builtin "max") := prim_two (fun _ _ _ _ _ _ _ _ _ _ hh S r r' q => max_ok hh S r r' q) fun Vs σ Q q => by
  match Vs, q with
  | [V, W], _ => exact ⟨V, W, rfl⟩
  | [], q => exact q.elim
  | [x], q => cases x <;> exact q.elim
  | x :: y :: _ :: _, q => cases x <;> cases y <;> exact q.elim

theorem ok_blt (g : Gnd h₀ G fa mg mb) {x : Str} {f : Value} {p : Pr} {e : Expr} {es : List Expr} {as : List E} {pf pos : Pos} (hp : PrimOk prog w h₀ p f) (hx : G.lookup x = none) (hb : x ∈ bltNames) (hv : bootBuiltins x = some f)
    (hf : (∃ T, f = .type T) ∨ ∃ T, f = .builtin T) (hk : isGlob env.scope x = true) (hn : NoStar e) (hns : NoStars (e :: es)) (hl : LOk prog w h₀ C d env vs (e :: es) as) :
    EOk prog w h₀ C d env vs (.Call (.Name x pf) (e :: es) [] pos) (.prim p as) := fun A s φ σ ρ Q X R S F q => by
  rw [wpE] at q
  rw [call_eq]
  refine wpAny_bind (name_blt g S F hx hb hv hk ?_)
  refine call_val hf R hn hns hl S F q fun s₁ vals φ₁ σ₁ Vs st rl hlen y => ?_
  exact wpAny_mono (hp A s₁ φ₁ σ₁ Vs vals Q _ R.hd R.u100 st.sim rl y) (fun _ _ z => PV.trans st z) fun _ _ e => e

theorem ok_isinst (g : Gnd h₀ G fa mg mb) {x : Str} {ty : Ty} {e : Expr} {a : E} {pf pt pos : Pos} (hi : G.lookup ("isinstance" : Str) = none) (hki : isGlob env.scope ("isinstance" : Str) = true) (hx : G.lookup x = none) (hb : x ∈ bltNames) (hv : bootBuiltins x = some (.type (tyName ty)))
    (hk : isGlob env.scope x = true) (hn : NoStar e) (h : EOk prog w h₀ C d env vs e a) : EOk prog w h₀ C d env vs (.Call (.Name ("isinstance" : Str) pf) [e, .Name x pt] [] pos) (.prim (.isinst ty) [a]) := fun A s φ σ ρ Q X R S F q => by
  rw [wpE] at q
  rw [call_eq]
  refine wpAny_bind (name_blt g S F hi (by decide) boot_isinstance hki ?_)
  rw [wpL] at q
  refine callWith_builtin (by rw [hn]; rfl) ?_
  have key : wpAny (model prog w) A (spliced (backTo pos (starEach [e, .Name x pt] env))) (fun vals s₁ => wpAny (model prog w) A (call (.builtin "isinstance") ([] ++ vals) []) (PV h₀ s φ Q) (PX h₀ s φ X) s₁) (PX h₀ s φ X) s := by
    refine wpAny_items_cons (wpAny_mono (h A s φ σ ρ _ X R S F q) (fun v s₁ y => ?_) fun _ _ e => e) (hn _ _)
    obtain ⟨φ₁, σ₁, V, st, rl, q₁⟩ := y
    rw [wpL] at q₁
    refine wpAny_items_cons (name_blt g st.sim (F.step S st) hx hb hv hk (wpAny_items_nil ?_))
    exact wpAny_mono (isinst_ok st.sim rl q₁) (fun _ _ z => PV.trans st z) fun _ _ e => e
  rw [hn] at key ⊢
  exact evalArgs_plain key

/-- xs.append(v) -/
theorem ok_append {o e : Expr} {a b : E} {apos pos : Pos} (hbase : ∀ env, attributeBase o ("append" : Str) env (eval o env) = eval o env) (hline : (apos.endLine == pos.line) = true) (hn : NoStar e)
    (ho : EOk prog w h₀ C d env vs o a) (he : EOk prog w h₀ C d env vs e b) : EOk prog w h₀ C d env vs (.Call (.Attribute o ("append" : Str) apos) [e] [] pos) (.append a b) := fun A s φ σ ρ Q X R S F q => by
  rw [wpE] at q
  refine wpAny_Call_append (hbase env) (by rw [hn]; rfl) hline (by rw [hn]; rfl) (wpAny_mono (ho A s φ σ ρ _ X R S F q) (fun v s₁ y => ?_) fun _ _ e => e)
  obtain ⟨φ₁, σ₁, V, st, rl, ⟨n, us, rfl, en⟩, q₁⟩ := y
  obtain ⟨l, items, k, rfl, el, gl, rr, hz⟩ := st.sim.list en rl
  refine ⟨l, items, rfl, ⟨_, k, gl, rfl, rfl, rfl⟩, wpAny_mono (he A s₁ φ₁ σ₁ ρ _ X R st.sim (F.step S st) q₁) (fun u s₂ y => ?_) fun _ _ e => PX.trans st e⟩
  obtain ⟨φ₂, σ₂, W, st₂, rl₂, q₂⟩ := y
  exact wpAny_mono (append_ok st₂.sim (rl.step st.sim st₂) rl₂ q₂) (fun _ _ z => PV.trans (st.trans st₂) z) fun _ _ e => e
end
end Mine

/-! MSet -/
namespace Mine
open PySem PySem.Calls

section
variable {prog : Program} {w : World} {h₀ : Heap} {C : Oracle} {d : Nat} {env : Env} {vs : Vs}

theorem set_ok {A : Around} {s : Shared} {φ : List Addr} {σ σ' : Store} {o i v : V} {ov iv u : Value} {E : Value → Shared → Prop} {K : Unit → Shared → Prop} (S : Sim h₀ s.heap φ σ) (ro : Rel s.heap φ o ov) (ri : Rel s.heap φ i iv) (rv : Rel s.heap φ v u)
    (e : setItemV o i v σ = some σ') (h : ∀ s', Step h₀ noOwn s s' φ φ σ' → K () s') : wpAny (model prog w) A (setItem ov iv u) K E s := by
  unfold setItemV at e
  split at e
  · rename_i n k
    split at e
    · rename_i Ws en
      split at e
      · rename_i hc
        cases e
        obtain ⟨a, items, z, rfl, ea, g, rl, hz⟩ := S.list en ro
        have hsz : items.size = Ws.length := by simpa using rl.length.symm
        rw [Rel] at ri
        obtain ⟨t, rfl⟩ := ri
        have gg : s.heap.get? a = some (PySem.W.listOf items z) := g
        refine PySem.W.ki_setAt gg hc.2.1 (by omega) (by omega) (h _ ?_)
        have hu := PySem.IsL.update g (·.setIfInBounds k.toNat u)
        refine Step.setList (items := items.setIfInBounds k.toNat u) (tk := s.toks) S ea (List.getElem?_eq_some_iff.mp en).1 hc.1 (Heap.SameBut.update ..) ⟨_, hu⟩ ?_ (by simpa using hz)
        rw [show (items.setIfInBounds k.toNat u).toList = items.toList.set k.toNat u by simp]
        exact relL_set rl rv k.toNat
      · cases e
    · cases e
  · cases e
where
  relL_set {h : Heap} {φ : List Addr} {v : V} {u : Value} : ∀ {Vs : List V} {us : List Value}, RelL h φ Vs us → Rel h φ v u → ∀ j, RelL h φ (Vs.set j v) (us.set j u)
    | [], [], r, _, _ => r
    | V :: Vs, x :: us, r, q, 0 => by rw [RelL] at r; rw [List.set_cons_zero, List.set_cons_zero, RelL]; exact ⟨q, r.2⟩
    | V :: Vs, x :: us, r, q, j + 1 => by rw [RelL] at r; rw [List.set_cons_succ, List.set_cons_succ, RelL]; exact ⟨r.1, relL_set r.2 q j⟩
    | [], _ :: _, r, _, _ => by rw [RelL] at r; exact r.elim
    | _ :: _, [], r, _, _ => by rw [RelL] at r; exact r.elim

theorem sok_setItem {o i value : Expr} {a b e : E} {pos' pos : Pos} (hs : swapsWith value (some (.Subscript o i pos')) pos.line env = pure false) (ho : EOk prog w h₀ C d env vs o a) (hi : EOk prog w h₀ C d env vs i b) (hv : EOk prog w h₀ C d env vs value e) :
    SOk prog w h₀ C d env vs (.Assign [.Subscript o i pos'] value pos) (.setItem a b e) := fun A s φ σ ρ Q R S F q => by
  rw [wpS] at q
  refine wpAny_Assign_Subscript (wpAny_mono (hv A s φ σ ρ _ _ R S F q) (fun u s₁ y₁ => ?_) fun _ _ e => e.elim) hs
  obtain ⟨φ₁, σ₁, V, st₁, rv, q₁⟩ := y₁
  refine wpAny_mono (ho A s₁ φ₁ σ₁ ρ _ _ R st₁.sim (F.step S st₁) q₁) (fun ov s₂ y₂ => ?_) fun _ _ e => e.elim
  obtain ⟨φ₂, σ₂, O', st₂, ro, q₂⟩ := y₂
  have st₁₂ := st₁.trans st₂
  refine wpAny_mono (hi A s₂ φ₂ σ₂ ρ _ _ R st₂.sim (F.step S st₁₂) q₂) (fun iv s₃ y₃ => ?_) fun _ _ e => e.elim
  obtain ⟨φ₃, σ₃, I, st₃, ri, q₃⟩ := y₃
  have st₁₃ := st₁₂.trans st₃
  split at q₃
  · rename_i σ₄ e₄
    refine set_ok st₃.sim (ro.step st₂.sim st₃) ri ((rv.step st₁.sim st₂).step st₂.sim st₃) e₄ fun s₄ st₄ => ?_
    have st := st₁₃.trans st₄
    exact ⟨φ₃, σ₄, ρ, .next, st.own, F.step S st, rfl, q₃⟩
  · exact q₃.elim
end
end Mine

/-! MSlice -/
namespace Mine
open PySem PySem.Calls

theorem bounds_ok {lo hi : Option V} {n x y : Nat} {h : Heap} {φ : List Addr} {vl vu : Value} (hx : bound 0 n lo = some x) (hy : bound n n hi = some y) (rl : Rel h φ (lo.getD .none) vl) (ru : Rel h φ (hi.getD .none) vu) :
    ∃ a b, IsPart vl a ∧ IsPart vu b ∧ sliceBounds a b none n = ((x : Int), (y : Int), 1) := by
  have key : ∀ (d : Nat) (o : Option V) (z : Nat) (v : Value), d ≤ n → bound d n o = some z → Rel h φ (o.getD .none) v → ∃ a, IsPart v a ∧ (match a with | none => (d : Int) | some i => max 0 (min (if i < 0 then i + n else i) n)) = (z : Int) := by
    intro d o z v hd hz r
    unfold bound at hz
    split at hz
    · cases hz
      simp only [Option.getD_none, Rel] at r; subst r
      exact ⟨none, .none, rfl⟩
    · split at hz
      · cases hz
        simp only [Option.getD_some, Rel] at r
        obtain ⟨t, rfl⟩ := r
        refine ⟨_, .int _ t, ?_⟩
        unfold clampI
        dsimp only
        split <;> (try rw [if_pos (by assumption)]) <;> (try rw [if_neg (by assumption)]) <;> omega
      · cases hz
    · cases hz
      simp only [Option.getD_some, Rel] at r; subst r
      exact ⟨none, .none, rfl⟩
    · cases hz
  obtain ⟨a, pa, ea⟩ := key 0 lo x vl (Nat.zero_le _) hx rl
  obtain ⟨b, pb, eb⟩ := key n hi y vu (Nat.le_refl _) hy ru
  refine ⟨a, b, pa, pb, ?_⟩
  simp only [sliceBounds, Option.getD_none, show (1 : Int) > 0 by decide, if_true]
  rw [← ea, ← eb]
  cases a <;> cases b <;> rfl

theorem relL_drop {h : Heap} {φ : List Addr} : ∀ {Vs : List V} {us : List Value} (n : Nat), RelL h φ Vs us → RelL h φ (Vs.drop n) (us.drop n)
  | _, _, 0, r => r
  | [], [], _ + 1, r => r
  | _ :: _, _ :: _, n + 1, r => by rw [RelL] at r; exact relL_drop n r.2
  | [], _ :: _, _ + 1, r => by rw [RelL] at r; exact r.elim
  | _ :: _, [], _ + 1, r => by rw [RelL] at r; exact r.elim
theorem relL_take {h : Heap} {φ : List Addr} : ∀ {Vs : List V} {us : List Value} (n : Nat), RelL h φ Vs us → RelL h φ (Vs.take n) (us.take n)
  | _, _, 0, r => by simp only [List.take_zero, RelL]
  | [], [], _ + 1, r => r
  | _ :: _, _ :: _, n + 1, r => by rw [RelL] at r; rw [List.take_succ_cons, List.take_succ_cons, RelL]; exact ⟨r.1, relL_take n r.2⟩
  | [], _ :: _, _ + 1, r => by rw [RelL] at r; exact r.elim
  | _ :: _, [], _ + 1, r => by rw [RelL] at r; exact r.elim

section
variable {prog : Program} {w : World} {h₀ : Heap} {C : Oracle} {d : Nat} {env : Env} {vs : Vs}

variable (prog w h₀ C d env vs) in
noncomputable def OOk (e : Option Expr) (a : Option E) : Prop :=
  ∀ (A : Around) (s : Shared) (φ : List Addr) (σ : Store) (ρ : List V) (Q : Option V → Store → Prop) (X : XPost), ROk A d → Sim h₀ s.heap φ σ → FrS h₀ s.heap φ env vs ρ → wpO C a ρ σ Q X →
    wpAny (model prog w) A (evalPart e env) (fun v s' => ∃ φ' σ' o, Step h₀ noOwn s s' φ φ' σ' ∧ Rel s'.heap φ' (Option.getD o .none) v ∧ Q o σ') (PX h₀ s φ X) s
theorem ook_none : OOk prog w h₀ C d env vs none none := fun A s φ σ ρ Q X _ S _ q => by
  rw [wpO] at q
  exact wpAny_pure ⟨φ, σ, none, Step.refl S, rel_none, q⟩
theorem ook_some {e : Expr} {a : E} (h : EOk prog w h₀ C d env vs e a) : OOk prog w h₀ C d env vs (some e) (some a) := fun A s φ σ ρ Q X R S F q => by
  rw [wpO] at q
  rw [evalPart_some]
  refine wpAny_mono (h A s φ σ ρ _ X R S F q) (fun v s₁ y => ?_) fun _ _ e => e
  obtain ⟨φ₁, σ₁, V, st, rl, q₁⟩ := y
  exact ⟨φ₁, σ₁, some V, st, rl, q₁⟩

theorem ok_slice {value : Expr} {lo hi : Option Expr} {a : E} {x y : Option E} {p pos : Pos} (ht : ∀ o r, letTemporaryGo value o r = pure ()) (hv : EOk prog w h₀ C d env vs value a) (hl : OOk prog w h₀ C d env vs lo x) (hh : OOk prog w h₀ C d env vs hi y) :
    EOk prog w h₀ C d env vs (.Subscript value (.Slice lo hi none p) pos) (.slice a x y) := fun A s φ σ ρ Q X R S F q => by
  rw [wpE] at q
  refine wpAny_Subscript_list_slice (wpAny_mono (hv A s φ σ ρ _ X R S F q) (fun u s₁ y₁ => ?_) fun _ _ e => e) ht
  obtain ⟨φ₁, σ₁, V, st₁, rv, q₁⟩ := y₁
  refine wpAny_mono (hl A s₁ φ₁ σ₁ ρ _ X R st₁.sim (F.step S st₁) q₁) (fun vl s₂ y₂ => ?_) fun _ _ e => PX.trans st₁ e
  obtain ⟨φ₂, σ₂, lv, st₂, rl, q₂⟩ := y₂
  have st₁₂ := st₁.trans st₂
  refine wpAny_mono (hh A s₂ φ₂ σ₂ ρ _ X R st₂.sim (F.step S st₁₂) q₂) (fun vu s₃ y₃ => ?_) fun _ _ e => PX.trans st₁₂ e
  obtain ⟨φ₃, σ₃, uv, st₃, ru, q₃⟩ := y₃
  have rv₃ := (rv.step st₁.sim st₂).step st₂.sim st₃
  cases V <;> simp only [sliceV] at q₃ <;> try exact q₃.elim
  rename_i n
  split at q₃
  · rename_i Vs en
    split at q₃
    · rename_i bx bY hx hy
      obtain ⟨l, items, k, rfl, _, g, rL, z⟩ := st₃.sim.list en rv₃
      have hsz : items.size = Vs.length := by simpa using rL.length.symm
      rw [← hsz] at hx hy
      obtain ⟨pa, pb, p1, p2, hb⟩ := bounds_ok hx hy (rl.step st₂.sim st₃) ru
      refine ⟨l, items, pa, pb, rfl, g.isList, size_le' (by omega), p1, p2, ?_⟩
      have hpick : slicePick items pa pb none = ((items.toList.drop bx).take (bY - bx)).toArray := by
        unfold slicePick
        rw [hb]
        simp only [sliceRange_one, pick_run]
      have kk : ∀ b o, s₃.heap.get? b = some o → ((s₃.heap.push { cls := .type "slice", data := .fields #[vl, vu, .none] }).push { cls := .type "list", data := .seq (slicePick items pa pb none) }).get? b = some o := fun b o e => Heap.get?_push_of_some _ (Heap.get?_push_of_some _ e)
      have hcut : cut Vs bx bY = (Vs.drop bx).take (bY - bx) := by unfold cut; rw [List.drop_take]
      have hD : ((s₃.heap.push { cls := .type "slice", data := .fields #[vl, vu, .none] }).push { cls := .type "list", data := .seq (slicePick items pa pb none) }).get? (s₃.heap.objs.size + 1) = some { cls := .type "list", data := .seq (slicePick items pa pb none) } := by
        rw [← Heap.size_push s₃.heap]
        exact Heap.get?_push_size _ rfl
      refine PV.trans (st₁₂.trans st₃) (PV.listAt (Vs := cut Vs bx bY) (items := slicePick items pa pb none) (tk := s₃.toks) st₃.sim ?_ ?_ (fresh_none st₃.sim (Nat.le_succ _)).2 kk hD q₃)
      · rw [hpick, hcut]
        simpa using relL_take _ (relL_drop bx rL)
      · rw [hcut]; simp; omega
    · exact q₃.elim
  · exact q₃.elim
end
end Mine

/-! MComp -/
namespace Mine
open PySem PySem.Calls

/-- the cells that a comprehension takes along -/
noncomputable def clGo (env : Env) : List (Str × NameKind) → List (Str × Addr) → List (Str × Addr)
  | [], acc => acc
  | (n, k) :: r, acc => if k == .free then clGo env r ((n, (env.cells.lookup n).getD 0) :: acc) else clGo env r acc

theorem closure_ok {env : Env} {sc : Scope} (h : ∀ y ∈ sc.names, y.2 = .free → ∃ c, env.cells.lookup y.1 = some c) : closureFor sc env = pure (clGo env sc.names []) := by
  unfold closureFor
  have key : ∀ (names : List (Str × NameKind)) (acc : List (Str × Addr)), (∀ y ∈ names, y.2 = .free → ∃ c, env.cells.lookup y.1 = some c) →
      (forIn names acc fun x cs => (if x.2 == NameKind.free then do let c ← cellOf env x.1; pure (ForInStep.yield ((x.1, c) :: cs)) else pure (ForInStep.yield cs) : Sem (ForInStep (List (Str × Addr))))) = pure (clGo env names acc) := by
    intro names
    induction names with
    | nil => intro acc _; rfl
    | cons y r ih =>
      intro acc hh
      obtain ⟨n, k⟩ := y
      rw [List.forIn_cons]
      simp only [clGo]
      cases hk : k == NameKind.free with
      | false =>
        simp only [Bool.false_eq_true, if_false, pure_bind]
        exact ih acc fun y hy => hh y (List.mem_cons_of_mem _ hy)
      | true =>
        obtain ⟨c, hc⟩ := hh (n, k) List.mem_cons_self (by simpa using hk)
        simp only [if_true]
        have : cellOf env n = pure c := by unfold cellOf; rw [hc]
        rw [this]
        simp only [pure_bind]
        rw [hc]
        exact ih _ fun y hy => hh y (List.mem_cons_of_mem _ hy)
  have := key sc.names [] h
  simpa using this

theorem clGo_acc (env : Env) : ∀ (names : List (Str × NameKind)) (acc : List (Str × Addr)) (y : Str), (∀ p ∈ acc, p.2 = (env.cells.lookup p.1).getD 0) → (acc.lookup y).isSome = true ∨ (y, NameKind.free) ∈ names →
    (clGo env names acc).lookup y = some ((env.cells.lookup y).getD 0)
  | [], acc, y, ha, h => by
    rcases h with h | h
    · obtain ⟨c, hc⟩ := Option.isSome_iff_exists.mp h
      rw [clGo, hc]
      have := ha (y, c) (mem_of_lookup hc)
      simp only at this
      rw [this]
    · cases h
  | (n, k) :: r, acc, y, ha, h => by
    rw [clGo]
    cases hk : k == NameKind.free with
    | false =>
      simp only [Bool.false_eq_true, if_false]
      refine clGo_acc env r acc y ha (h.imp id fun m => ?_)
      rcases List.mem_cons.mp m with e | m
      · cases e; simp at hk
      · exact m
    | true =>
      simp only [if_true]
      refine clGo_acc env r _ y (fun p hp => ?_) ?_
      · rcases List.mem_cons.mp hp with rfl | hp
        · rfl
        · exact ha p hp
      · rcases h with h | h
        · left
          rw [List.lookup_cons]
          split
          · rfl
          · exact h
        · rcases List.mem_cons.mp h with e | m
          · cases e; left; rw [List.lookup_cons]; simp
          · exact .inr m

theorem clGo_none (env : Env) : ∀ (names : List (Str × NameKind)) (acc : List (Str × Addr)) (y : Str), acc.lookup y = none → (y, NameKind.free) ∉ names → (clGo env names acc).lookup y = none
  | [], acc, y, h, _ => h
  | (n, k) :: r, acc, y, h, hn => by
    rw [clGo]
    cases hk : k == NameKind.free with
    | false =>
      simp only [Bool.false_eq_true, if_false]
      exact clGo_none env r acc y h fun m => hn (List.mem_cons_of_mem _ m)
    | true =>
      simp only [if_true]
      refine clGo_none env r _ y ?_ fun m => hn (List.mem_cons_of_mem _ m)
      rw [List.lookup_cons]
      cases e : y == n with
      | true => exact absurd (by rw [beq_iff_eq.mp e, ← beq_iff_eq.mp hk]; exact List.mem_cons_self) hn
      | false => exact h

/-- a comprehension's block, in this frame -/
structure CompSc (env : Env) (vs : Vs) (sc : Scope) (vs' : Vs) (x : Str) (i : Nat) : Prop where
  kind : sc.kind = .function
  cell : ∀ y ∈ sc.names, y.2 ≠ .cell
  names : ∀ y ∈ sc.names, y.2 = .local → sc.names.lookup y.1 = some .local
  var : sc.names.lookup x = some .local
  once : (x, NameKind.free) ∉ sc.names
  slot : vs'.lookup x = some i
  free : ∀ y ∈ sc.names, y.2 = .free → ∃ j, vs.lookup y.1 = some j ∧ (env.kindOf y.1 = some .cell ∨ env.kindOf y.1 = some .free)
  vars : ∀ y j, vs'.lookup y = some j → (y = x ∧ j = i) ∨ (y ≠ x ∧ sc.names.lookup y = some .free ∧ vs.lookup y = some j ∧ j ≠ i)

theorem lookup_relabel_free {env : Env} : ∀ {names : List (Str × NameKind)} {y : Str}, names.lookup y = some .free →
    (names.map fun (n, k) => if (k == NameKind.free && env.scope.kind == .function && env.kindOf n == some .cell) then (n, NameKind.cell) else (n, k)).lookup y = some .cell ∨
    (names.map fun (n, k) => if (k == NameKind.free && env.scope.kind == .function && env.kindOf n == some .cell) then (n, NameKind.cell) else (n, k)).lookup y = some .free
  | [], _, h => by simp at h
  | (n, k) :: r, y, h => by
    rw [List.lookup_cons] at h
    rw [List.map_cons]
    dsimp only
    cases hy : y == n with
    | true =>
      rw [hy] at h
      simp only [Option.some.injEq] at h
      subst h
      split
      · left; rw [List.lookup_cons, hy]
      · right; rw [List.lookup_cons, hy]
    | false =>
      rw [hy] at h
      have := lookup_relabel_free (env := env) h
      split
      · rw [List.lookup_cons, hy]; exact this
      · rw [List.lookup_cons, hy]; exact this

theorem comp_frame {h₀ h h' : Heap} {φ : List Addr} {σ : Store} {env : Env} {vs vs' : Vs} {ρ : List V} {sc : Scope} {x : Str} {i : Nat} {L : Addr} (c : CompSc env vs sc vs' x i) (S : Sim h₀ h φ σ) (F : FrS h₀ h φ env vs ρ)
    (k : ∀ b o, h.get? b = some o → h'.get? b = some o) {m : Str → Option Value} (n : h'.Ns L m) (hL : h.get? L = none) : FrS h₀ h' φ (compEnvC sc (clGo env sc.names []) L env) vs' (ρ.set i .undef) where
  fn := c.kind
  glob := F.glob
  blt := F.blt
  locNew := by
    show h₀.get? L = none
    cases e : h₀.get? L with
    | none => rfl
    | some o => rw [S.keep L o e] at hL; cases hL
  locOut := fun hm => by
    have := S.lt hm
    obtain ⟨_, o, _, _, r⟩ := S.mem hm
    cases o with
    | list Ws => obtain ⟨_, ⟨_, e⟩, _⟩ := r; have e' : h.get? L = some _ := e; rw [hL] at e'; cases e'
  inj := fun y z j hy hz => by
    rcases c.vars y j hy with ⟨rfl, rfl⟩ | ⟨h1, _, h2, h3⟩
    · rcases c.vars z _ hz with ⟨rfl, _⟩ | ⟨_, _, _, h3⟩
      · rfl
      · exact absurd rfl h3
    · rcases c.vars z j hz with ⟨rfl, rfl⟩ | ⟨_, _, h4, _⟩
      · exact absurd rfl h3
      · exact F.inj y z j h2 h4
  ns := by
    refine ⟨m, n, fun y j V hy hk hV hne => ?_⟩
    rcases c.vars y j hy with ⟨rfl, rfl⟩ | ⟨_, hf, _, _⟩
    · exact absurd (set_get_self hV).symm hne
    · rcases lookup_relabel_free (env := env) hf with e | e <;> (rw [show (compEnvC sc (clGo env sc.names []) L env).kindOf y = _ from e] at hk; cases hk)
  cell := fun y j hy hk => by
    rcases c.vars y j hy with ⟨rfl, rfl⟩ | ⟨_, hf, hv, hj⟩
    · have := lookup_relabel_local (env := env) c.var
      rw [show (compEnvC sc (clGo env sc.names []) L env).kindOf _ = _ from this] at hk
      rcases hk with q | q <;> cases q
    · obtain ⟨j', hv', hkk⟩ := c.free (y, .free) (mem_of_lookup hf) rfl
      rw [hv] at hv'; cases hv'
      obtain ⟨cc, ov, e1, e2, e3, ⟨o, eo, dd⟩, rr⟩ := F.cell y j hv hkk
      have hl : (clGo env sc.names []).lookup y = some cc := by
        rw [clGo_acc env sc.names [] y (fun _ h => by cases h) (.inr (mem_of_lookup hf)), e1]; rfl
      refine ⟨cc, ov, hl, e2, e3, ⟨o, k _ _ eo, dd⟩, fun V hV hne => ?_⟩
      rw [set_get_ne (Ne.symm hj)] at hV
      obtain ⟨v, ev, rv⟩ := rr V hV hne
      exact ⟨v, ev, Rel.keep (own := noOwn) (fun b o _ _ e => k b o e) (List.prefix_refl _) (fun a m => m.elim (fun m => S.noTup m) fun f => f.elim) _ _ rv⟩
  cellInj := fun y z j j' cc hy hz h1 h2 => by
    rcases c.vars y j hy with ⟨rfl, rfl⟩ | ⟨_, hf, hv, _⟩
    · rcases c.vars z j' hz with ⟨rfl, _⟩ | ⟨hne, hf', hv', _⟩
      · rfl
      · exfalso
        have h1' : (clGo env sc.names []).lookup _ = some cc := h1
        rw [clGo_none env sc.names [] _ rfl c.once] at h1'; cases h1'
    · rcases c.vars z j' hz with ⟨rfl, rfl⟩ | ⟨_, hf', hv', _⟩
      · exfalso
        have h2' : (clGo env sc.names []).lookup _ = some cc := h2
        rw [clGo_none env sc.names [] _ rfl c.once] at h2'; cases h2'
      · obtain ⟨_, _, hk1⟩ := c.free (y, .free) (mem_of_lookup hf) rfl
        obtain ⟨_, _, hk2⟩ := c.free (z, .free) (mem_of_lookup hf') rfl
        obtain ⟨c1, _, e1, _⟩ := F.cell y j hv hk1
        obtain ⟨c2, _, e2, _⟩ := F.cell z j' hv' hk2
        have l1 : (clGo env sc.names []).lookup y = some c1 := by
          rw [clGo_acc env sc.names [] y (fun _ h => by cases h) (.inr (mem_of_lookup hf)), e1]; rfl
        have l2 : (clGo env sc.names []).lookup z = some c2 := by
          rw [clGo_acc env sc.names [] z (fun _ h => by cases h) (.inr (mem_of_lookup hf')), e2]; rfl
        have h1' : c1 = cc := Option.some.inj (l1.symm.trans h1)
        have h2' : c2 = cc := Option.some.inj (l2.symm.trans h2)
        subst h1' h2'
        exact F.cellInj y z j j' _ hv hv' e1 e2

theorem via_pure {α : Type} {M : Model} {A : Around} {P : Shared → Prop} {E E' : Value → Shared → Prop} {s : Shared} {t : Sem α} {Q : α → Shared → Prop} (h : wpAny M A (pure () : Sem Unit) (fun _ s' => P s') E' s)
    (k : P s → wpAny M A t Q E s) : wpAny M A t Q E s := fun Γ p hΓ => k (h Γ p hΓ) Γ p hΓ

theorem Step.drop {h₀ : Heap} {own : Addr → Prop} {s s' : Shared} {φ φ' : List Addr} {σ' : Store} (x : Step h₀ own s s' φ φ' σ') (h : ∀ b, own b → s.heap.get? b = none) : Step h₀ noOwn s s' φ φ' σ' :=
  ⟨x.only, x.pre, x.sim, fun b o h1 _ e => x.keep b o h1 (fun m => by rw [h b m] at e; cases e) e, x.fresh, x.pres⟩

/-- an object that is no tuple, no frame, no cell, and not the store's: its change -/
theorem FrS.keepOne {h₀ h h' : Heap} {φ : List Addr} {σ : Store} {env : Env} {vs : Vs} {ρ : List V} {D : Addr} {arr : Array Value} (F : FrS h₀ h φ env vs ρ) (S : Sim h₀ h φ σ) (hD : h.PlainList D arr)
    (k : ∀ b o, b ≠ D → h.get? b = some o → h'.get? b = some o) : FrS h₀ h' φ env vs ρ where
  fn := F.fn
  glob := F.glob
  blt := F.blt
  locNew := F.locNew
  locOut := F.locOut
  inj := F.inj
  ns := by
    obtain ⟨m, n, r⟩ := F.ns
    refine ⟨m, ?_, fun x' i V h1 h2 h3 h4 => ?_⟩
    · obtain ⟨o, es, ep, e, d, rr⟩ := n
      refine ⟨o, es, ep, k _ o (fun hm => ?_) e, d, rr⟩
      obtain ⟨z, e'⟩ := hD
      rw [← hm, e] at e'; cases e'; cases d
    · obtain ⟨v, e, rl⟩ := r x' i V h1 h2 h3 h4
      exact ⟨v, e, Rel.keep (own := fun a => a = D) (fun b o _ hb e => k b o hb e) (List.prefix_refl _) (fun a m => m.elim (fun m => S.noTup m) fun m => by subst m; exact plain_noTup hD) _ _ rl⟩
  cell := fun x' i h1 h2 => by
    obtain ⟨c, ov, e, o, n, ic, r⟩ := F.cell x' i h1 h2
    refine ⟨c, ov, e, o, n, ?_, fun V h3 h4 => ?_⟩
    · obtain ⟨oo, e', d⟩ := ic
      refine ⟨oo, k _ oo (fun hm => ?_) e', d⟩
      obtain ⟨z, e2⟩ := hD
      rw [← hm, e'] at e2; cases e2; cases d
    · obtain ⟨v, e', rl⟩ := r V h3 h4
      exact ⟨v, e', Rel.keep (own := fun a => a = D) (fun b o _ hb e => k b o hb e) (List.prefix_refl _) (fun a m => m.elim (fun m => S.noTup m) fun m => by subst m; exact plain_noTup hD) _ _ rl⟩
  cellInj := F.cellInj
where
  plain_noTup {h : Heap} {D : Addr} {arr : Array Value} (x : h.PlainList D arr) : NoTup h D := by
    obtain ⟨z, e⟩ := x
    intro o' items n e' c' _
    rw [e] at e'; cases e'; simp at c'

theorem plain_noTup {h : Heap} {D : Addr} {arr : Array Value} (x : h.PlainList D arr) : NoTup h D := by
  obtain ⟨z, e⟩ := x
  intro o' items n e' c' _
  rw [e] at e'; cases e'; simp at c'

theorem FrS.undef {h₀ h : Heap} {φ : List Addr} {env : Env} {vs : Vs} {ρ : List V} {i : Nat} {v : V} (F : FrS h₀ h φ env vs (ρ.set i v)) : FrS h₀ h φ env vs (ρ.set i .undef) where
  fn := F.fn
  glob := F.glob
  blt := F.blt
  locNew := F.locNew
  locOut := F.locOut
  inj := F.inj
  ns := by
    obtain ⟨m, n, r⟩ := F.ns
    refine ⟨m, n, fun x j V h1 h2 h3 h4 => ?_⟩
    by_cases hij : i = j
    · subst hij; exact absurd (set_get_self h3).symm h4
    · exact r x j V h1 h2 (by rw [set_get_ne hij] at h3 ⊢; exact h3) h4
  cell := fun x j h1 h2 => by
    obtain ⟨c, ov, e, o, n, ic, r⟩ := F.cell x j h1 h2
    refine ⟨c, ov, e, o, n, ic, fun V h3 h4 => ?_⟩
    by_cases hij : i = j
    · subst hij; exact absurd (set_get_self h3).symm h4
    · exact r V (by rw [set_get_ne hij] at h3 ⊢; exact h3) h4
  cellInj := F.cellInj

/-- a list that stands becomes the store's -/
theorem Sim.join {h₀ h : Heap} {φ : List Addr} {σ : Store} (x : Sim h₀ h φ σ) {a : Addr} {vs : List V} {items : Array Value} (hp : h.PlainList a items) (hn : a ∉ φ) (h0 : h₀.get? a = none) (hr : RelL h φ vs items.toList) (hz : vs.length ≤ 2 ^ 20) :
    Sim h₀ h (φ ++ [a]) (σ ++ [.list vs]) where
  keep := x.keep
  len := by simp [x.len]
  nodup := by
    rw [List.nodup_append]
    refine ⟨x.nodup, by simp, fun b hb c hc => ?_⟩
    simp at hc; subst hc
    intro e; subst e
    exact hn hb
  new := fun m b hb => by
    by_cases hlt : m + 1 < φ.length
    · rw [List.getElem?_append_left hlt] at hb
      exact x.new m b hb
    · rw [List.getElem?_append_right (by omega)] at hb
      have : b = a := by
        have := List.mem_of_getElem? hb
        simpa using this
      subst this
      exact h0
  obj := fun n o e => by
    by_cases hlt : n < σ.length
    · rw [List.getElem?_append_left hlt] at e
      obtain ⟨b, g, r⟩ := x.obj n o e
      refine ⟨b, ?_, r.keepAll (fun _ _ e => e) (List.prefix_append _ _) fun a m => x.noTup m⟩
      rw [List.getElem?_append_left (by rw [x.len]; exact hlt)]; exact g
    · have hn' : n = σ.length := by
        have := (List.getElem?_eq_some_iff.mp e).1
        simp at this; omega
      subst hn'
      simp at e; subst e
      refine ⟨a, by rw [← x.len]; simp, items, hp, ?_, hz⟩
      exact RelL.keep (own := noOwn) (Keep.refl _ _ _) (List.prefix_append _ _) (fun b m => m.elim (fun m => x.noTup m) fun f => f.elim) _ _ hr

section
variable {prog : Program} {w : World} {h₀ : Heap} {C : Oracle} {d : Nat}

variable (prog w h₀ C d) in
/-- a comprehension's conditions -/
noncomputable def TsOk (env : Env) (vs : Vs) (es : List Expr) (as : List E) : Prop :=
  ∀ (A : Around) (s : Shared) (φ : List Addr) (σ : Store) (ρ : List V) (Q : Bool → Store → Prop) (X : XPost), ROk A d → Sim h₀ s.heap φ σ → FrS h₀ s.heap φ env vs ρ → wpTs C as ρ σ Q X →
    wpAny (model prog w) A (forIn es true fun c r => if r = true then do let ok ← isTrue c env (eval c env); pure (ForInStep.yield ok) else pure (ForInStep.yield r)) (PB h₀ s φ Q) (PX h₀ s φ X) s

theorem forIn_no {A : Around} {env : Env} {Q : Bool → Shared → Prop} {E : Value → Shared → Prop} {s : Shared} : ∀ (es : List Expr), Q false s →
    wpAny (model prog w) A (forIn es false fun c r => if r = true then do let ok ← isTrue c env (eval c env); pure (ForInStep.yield ok) else pure (ForInStep.yield r)) Q E s
  | [], h => wpAny_pure h
  | _ :: es, h => by
    rw [List.forIn_cons, if_neg (by decide)]
    exact wpAny_bind (wpAny_pure (forIn_no es h))
variable {env : Env} {vs : Vs}
theorem tsok_nil : TsOk prog w h₀ C d env vs [] [] := fun A s φ σ ρ Q X _ S _ q => by
  rw [wpTs] at q
  exact wpAny_tests_nil ⟨φ, σ, Step.refl S, q⟩
theorem tsok_cons {e : Expr} {a : E} {es : List Expr} {as : List E} (h : TOk prog w h₀ C d env vs e a) (hs : TsOk prog w h₀ C d env vs es as) : TsOk prog w h₀ C d env vs (e :: es) (a :: as) := fun A s φ σ ρ Q X R S F q => by
  rw [wpTs] at q
  rw [List.forIn_cons, if_pos rfl]
  refine wpAny_bind (wpAny_bind (wpAny_mono (h A s φ σ ρ _ X R S F q) (fun b s₁ y => wpAny_pure ?_) fun _ _ e => e))
  obtain ⟨φ₁, σ₁, st, q₁⟩ := y
  cases b with
  | false => exact forIn_no es ⟨φ₁, σ₁, st, by simpa using q₁⟩
  | true =>
    refine wpAny_mono (hs A s₁ φ₁ σ₁ ρ Q X R st.sim (F.step S st) (by simpa using q₁)) (fun b s₂ z => ?_) fun _ _ e => PX.trans st e
    obtain ⟨φ₂, σ₂, st₂, q₂⟩ := z
    exact ⟨φ₂, σ₂, st.trans st₂, q₂⟩
end
end Mine

/-! MComp2 -/
namespace Mine
open PySem PySem.Calls

section
variable {prog : Program} {w : World} {h₀ : Heap} {C : Oracle} {d : Nat} {env : Env} {vs vs' : Vs} {A : Around}

/-- a comprehension's turn -/
noncomputable def compT (C : Oracle) (a : E) (i : Nat) (conds : List E) (ρ : List V) (X : XPost) : V → Store → (Option V → Store → Prop) → Prop :=
  fun v σ₂ R => wpTs C conds (ρ.set i v) σ₂ (fun b σ₃ => if b then wpE C a (ρ.set i v) σ₃ (fun x σ₄ => R (some x) σ₄) X else R Option.none σ₃) X

theorem ns_ne_plain {h : Heap} {L D : Addr} {m : Str → Option Value} {arr : Array Value} (n : h.Ns L m) (p : h.PlainList D arr) : D ≠ L := by
  rintro rfl
  obtain ⟨o, es, ep, e, dd, _⟩ := n
  obtain ⟨z, e'⟩ := p
  rw [e] at e'; cases e'; cases dd
theorem fields_ne_plain {h : Heap} {b D : Addr} {arr : Array Value} (x : ∃ o us, h.get? b = some o ∧ o.data = .fields us) (p : h.PlainList D arr) : D ≠ b := by
  rintro rfl
  obtain ⟨o, us, e, dd⟩ := x
  obtain ⟨z, e'⟩ := p
  rw [e] at e'; cases e'; cases dd
theorem fields_ne_ns {h : Heap} {b L : Addr} {m : Str → Option Value} (x : ∃ o us, h.get? b = some o ∧ o.data = .fields us) (n : h.Ns L m) : b ≠ L := by
  rintro rfl
  obtain ⟨o, us, e, dd⟩ := x
  obtain ⟨o', es, ep, e', dd', _⟩ := n
  rw [e] at e'; cases e'; rw [dd] at dd'; cases dd'

theorem step_out {own : Addr → Prop} {s s' : Shared} {φ φ' : List Addr} {σ' : Store} (st : Step h₀ own s s' φ φ' σ') {D : Addr} (h : D ∉ φ) (e : ∃ o, s.heap.get? D = some o) : D ∉ φ' := fun m => by
  rcases st.fresh D m with m | n
  · exact h m
  · obtain ⟨o, e⟩ := e; rw [n] at e; cases e

/-- the store's change at one list that is not the store's -/
theorem Step.one {s : Shared} {φ : List Addr} {σ : Store} {D : Addr} {arr arr' : Array Value} {h' : Heap} (S : Sim h₀ s.heap φ σ) (hp : s.heap.PlainList D arr) (hp' : h'.PlainList D arr') (hs : Heap.SameBut D s.heap h') (hD : D ∉ φ) (h0 : h₀.get? D = none) :
    Step h₀ (fun a => a = D) s { s with heap := h' } φ φ σ where
  only := ⟨h', s.toks, rfl⟩
  pre := List.prefix_refl _
  sim := S.keepOwn (own := fun a => a = D) (fun b o hb e => (hs.2 b hb).trans e) (by rintro a rfl; exact ⟨plain_noTup hp, hD, h0⟩)
  keep := fun b o _ hb e => (hs.2 b hb).trans e
  fresh := fun _ m => .inl m
  pres := fun b o e => by
    by_cases hb : b = D
    · subst hb; obtain ⟨z, e'⟩ := hp'; exact ⟨_, e'⟩
    · exact ⟨o, (hs.2 b hb).trans e⟩

theorem comp_core {s s₂ : Shared} {φ φ₂ : List Addr} {σ σ₂ : Store} {ρ : List V} {scope : Scope} {x : Str} {i : Nat} {px pos : Pos} {elt iter : Expr} {ifs : List Expr} {a : E} {conds : List E} {I : Addr} {fp : List Addr} {items : List V} {same : Store → Prop}
    {St : Nat → Heap → List Addr → Store → Prop} {Qc : List V → Store → Prop} {X : XPost} {RR : Value → Addr → Result → Shared → Prop} {E : Value → Shared → Prop}
    (R : ROk A d) (S : Sim h₀ s.heap φ σ) (F : FrS h₀ s.heap φ env vs ρ) (st : Step h₀ noOwn s s₂ φ φ₂ σ₂) (c : CompSc env vs scope vs' x i) (hfp : ∀ b ∈ fp, s.heap.get? b = none) (W : Itr prog w A h₀ (.Name x px) I fp items same St) (self : SelfIt prog w A I St)
    (st0 : St 0 s₂.heap φ₂ σ₂) (hsame : same σ₂) (helt : ∀ L, EOk prog w h₀ C d (compEnvC scope (clGo env scope.names []) L env) vs' elt a) (hts : ∀ L, TsOk prog w h₀ C d (compEnvC scope (clGo env scope.names []) L env) vs' ifs conds) (hz : items.length ≤ maxLen)
    (q : compW (compT C a i conds ρ X) same items [] σ₂ Qc)
    (hfin : ∀ s' φ' σ' acc D L m arr, Step h₀ noOwn s s' φ φ' σ' → s.heap.get? D = none → D ∉ φ' → h₀.get? D = none → s.heap.get? L = none → L ∉ φ' → h₀.get? L = none → D ≠ L → s'.heap.Ns L m → s'.heap.PlainList D arr → RelL s'.heap φ' acc arr.toList → acc.length ≤ maxLen → Qc acc σ' → RR (.ref D) L (.ok .next) s') :
    wpAny (model prog w) A (newList []) (fun acc s₃ => wpAny (model prog w) A (newFunctionEnv scope env.globals (clGo env scope.names []) [] env.qual none .none (some env)) (fun cenv s₄ =>
      codeAny (model prog w) A (.compStart (.ListComp elt [⟨.Name x px, iter, ifs, 0⟩] scope pos) 0 (.ref I) acc { cenv with scope := relabel scope env }) (RR acc cenv.locals) s₄) E s₃) E s₂ := by
  refine wpAny_newObj_type (wpAny_newFunctionEnv c.cell (by intro y hy; simp at hy) (fun h₁ hns₁ hsb₁ => ?_) c.kind)
  dsimp only at hns₁ hsb₁ ⊢
  generalize hH2 : s₂.heap.push { cls := .type "list", dict := none, data := .seq ([] : List Value).toArray } = H2 at hns₁ hsb₁ ⊢
  have hC : H2.objs.size = s₂.heap.objs.size + 1 := by rw [← hH2, Heap.size_push]
  have hDC : s₂.heap.objs.size ≠ H2.objs.size := by rw [hC]; exact Nat.ne_of_lt (Nat.lt_succ_self _)
  have hCle : s₂.heap.objs.size ≤ H2.objs.size := by rw [hC]; exact Nat.le_succ _
  have below : ∀ b, b < s₂.heap.objs.size → b ≠ H2.objs.size ∧ b ≠ s₂.heap.objs.size := fun b hb => ⟨by rw [hC]; exact Nat.ne_of_lt (Nat.lt_succ_of_lt hb), Nat.ne_of_lt hb⟩
  have old : ∀ b o, s₂.heap.get? b = some o → h₁.get? b = some o := fun b o e => hsb₁.extBut b o (below b (Heap.lt_size e)).1 (Heap.get?_push_of_some _ (hH2 ▸ Heap.get?_push_of_some _ e))
  have hacc : h₁.PlainList s₂.heap.objs.size #[] := ⟨_, hsb₁.extBut _ _ hDC (Heap.get?_push_of_some _ (hH2 ▸ Heap.get?_push_size _ rfl))⟩
  have nD := fresh_none st.sim (Nat.le_refl s₂.heap.objs.size)
  have nL := fresh_none st.sim hCle
  have oD : s₂.heap.objs.size ∉ φ₂ := fun m => absurd (st.sim.lt m) (Nat.lt_irrefl _)
  generalize hDe : s₂.heap.objs.size = D at *
  generalize hLe : H2.objs.size = L at *
  have sD : s.heap.get? D = none := none_back st nD.2
  have sL : s.heap.get? L = none := none_back st nL.2
  have st₃ : Step h₀ noOwn s₂ { s₂ with heap := h₁, toks := s₂.toks + ([] : List (Str × Value)).length } φ₂ φ₂ σ₂ := Step.keeps st.sim _ old
  have F₃ : FrS h₀ h₁ φ₂ (compEnvC scope (clGo env scope.names []) L env) vs' (ρ.set i .undef) := comp_frame c st.sim (F.step S st) old hns₁ nL.2
  have hst₁ : St 0 h₁ φ₂ σ₂ := W.frame 0 s₂.heap h₁ φ₂ φ₂ σ₂ σ₂ st0 st₃.sim (List.prefix_refl _) hsame (fun b _ o e => old b o e) fun V v r => r.step st.sim st₃
  have loop : codeAny (model prog w) A (.compLoop (.ListComp elt [⟨.Name x px, iter, ifs, 0⟩] scope pos) 0 (.ref I) (.ref D) (compEnvC scope (clGo env scope.names []) L env)) (RR (.ref D) L) { s₂ with heap := h₁, toks := s₂.toks + ([] : List (Str × Value)).length } := by
    refine codeAny_compLoop_tests (fun k s' => ∃ j φ' σ' acc arr, k = items.length + 1 - j ∧ j ≤ items.length ∧ Step h₀ noOwn s s' φ φ' σ' ∧ FrS h₀ s'.heap φ' (compEnvC scope (clGo env scope.names []) L env) vs' (ρ.set i .undef) ∧ St j s'.heap φ' σ' ∧ D ∉ φ' ∧ s'.heap.PlainList D arr ∧
        RelL s'.heap φ' acc arr.toList ∧ acc.length ≤ j ∧ compW (compT C a i conds ρ X) same (items.drop j) acc σ' Qc) ?_ (items.length + 1)
      ⟨0, φ₂, σ₂, [], #[], rfl, Nat.zero_le _, st.trans st₃, F₃, hst₁, oD, hacc, by simp only [RelL], Nat.le_refl _, by simpa using q⟩
    rintro k s' ⟨j, φ', σ', acc, arr, rfl, hj, stp, F', st', hD', hp', rl', hal, q'⟩
    by_cases hlt : j < items.length
    · have hd : items.drop j = items[j] :: items.drop (j + 1) := List.drop_eq_getElem_cons hlt
      rw [hd, compW] at q'
      refine wpAny_mono (W.item j items[j] s' φ' σ' (by simp [hlt]) st' stp.sim) (fun r s₁ y => ?_) fun _ _ e => e.elim
      obtain ⟨v, rfl, y⟩ := y
      refine via_pure y fun z => ?_
      obtain ⟨only, rl, st₂, kk, mine⟩ := z
      have mine' := W.mine j _ _ _ st'
      have stp₂ : Step h₀ (fun b => b ∈ fp) s' s₁ φ' φ' σ' := Step.iter stp.sim W.new mine' only kk mine
      have F₂ := F'.keepFp stp.sim mine' kk
      have hDf : D ∉ fp := fun m => fields_ne_plain (mine' D m) hp' rfl
      have hp₂ : s₁.heap.PlainList D arr := hp'.at fun o e => kk D o hDf e
      have rl₂ : RelL s₁.heap φ' acc arr.toList := RelL.keep (own := fun b => b ∈ fp) (fun b o _ hb e => kk b o hb e) (List.prefix_refl _) (fun b m => m.elim (fun m => stp.sim.noTup m) fun m => fields_noTup (mine' b m)) _ _ rl'
      refine wpAny_assign_Name (store_local stp₂.sim F₂ c.slot (lookup_relabel_local c.var) rl fun s₃ st₃ F₃ => ?_)
      rw [List.set_set] at F₃
      obtain ⟨m₂, ns₂, _⟩ := F₂.ns
      have hDL : D ≠ L := ns_ne_plain ns₂ hp₂
      have hp₃ : s₃.heap.PlainList D arr := hp₂.at fun o e => st₃.keep D o hD' hDL e
      have rel₃ : ∀ V v, Rel s₁.heap φ' V v → Rel s₃.heap φ' V v := fun V v r => Rel.keep st₃.keep st₃.pre (fun b m => m.elim (fun m => stp₂.sim.noTup m) fun m => by subst m; exact noTup_ns ns₂) _ _ r
      have rl₃ : RelL s₃.heap φ' acc arr.toList := RelL.keep st₃.keep st₃.pre (fun b m => m.elim (fun m => stp₂.sim.noTup m) fun m => by subst m; exact noTup_ns ns₂) _ _ rl₂
      have fp₃ : ∀ b ∈ fp, ∀ o, s₁.heap.get? b = some o → s₃.heap.get? b = some o := fun b hb o e => st₃.keep b o (fields_out stp₂.sim (mine b hb)) (fields_ne_ns (mine b hb) ns₂) e
      have mine₃ : ∀ b ∈ fp, ∃ o us, s₃.heap.get? b = some o ∧ o.data = .fields us := fun b hb => let ⟨o, us, e, dd⟩ := mine b hb; ⟨o, us, fp₃ b hb o e, dd⟩
      change wpTs C conds (ρ.set i items[j]) σ' (fun b σ₃ => if b = true then wpE C a (ρ.set i items[j]) σ₃ (fun x σ₄ => same σ₄ ∧ compW (compT C a i conds ρ X) same (items.drop (j + 1)) (acc ++ [x]) σ₄ Qc) X else same σ₃ ∧ compW (compT C a i conds ρ X) same (items.drop (j + 1)) (acc ++ []) σ₃ Qc) X at q'
      refine wpAny_mono (hts L A s₃ φ' σ' (ρ.set i items[j]) _ X R st₃.sim F₃ q') (fun ok s₄ y => ?_) fun _ _ e => e.elim
      obtain ⟨φ₄, σ₄, st₄, q₄⟩ := y
      have hD₄ : D ∉ φ₄ := step_out st₄ hD' (let ⟨z, e⟩ := hp₃; ⟨_, e⟩)
      have hp₄ : s₄.heap.PlainList D arr := hp₃.at fun o e => st₄.keep D o hD' (fun f => f) e
      have rl₄ := rl₃.step st₃.sim st₄
      have fp₄ : ∀ b ∈ fp, ∀ o, s₃.heap.get? b = some o → s₄.heap.get? b = some o := fun b hb o e => st₄.keep b o (fields_out st₃.sim (mine₃ b hb)) (fun f => f) e
      have mine₄ : ∀ b ∈ fp, ∃ o us, s₄.heap.get? b = some o ∧ o.data = .fields us := fun b hb => let ⟨o, us, e, dd⟩ := mine₃ b hb; ⟨o, us, fp₄ b hb o e, dd⟩
      have F₄ := F₃.step st₃.sim st₄
      have own₄ : Step h₀ noOwn s s₄ φ φ₄ σ₄ := by
        refine Step.drop (own := fun b => b ∈ fp ∨ b = L) ((stp.wider fun _ f => f.elim).trans ((stp₂.wider fun _ m => .inl m).trans ((st₃.wider fun _ m => .inr m).trans (st₄.wider fun _ f => f.elim)))) fun b hb => ?_
        rcases hb with hb | rfl
        · exact hfp b hb
        · exact sL
      cases ok with
      | false =>
        simp only [Bool.false_eq_true, if_false] at q₄ ⊢
        refine ⟨items.length + 1 - (j + 1), by omega, j + 1, φ₄, σ₄, acc, arr, rfl, hlt, own₄, F₄.undef, ?_, hD₄, hp₄, rl₄, by omega, by simpa using q₄.2⟩
        exact W.frame (j + 1) s₁.heap s₄.heap φ' φ₄ σ' σ₄ st₂ st₄.sim st₄.pre q₄.1 (fun b hb o e => fp₄ b hb o (fp₃ b hb o e)) fun V v r => (rel₃ V v r).step st₃.sim st₄
      | true =>
        simp only [if_true] at q₄ ⊢
        refine wpAny_mono (helt L A s₄ φ₄ σ₄ (ρ.set i items[j]) _ X R st₄.sim F₄ q₄) (fun y s₅ z => ?_) fun _ _ e => e.elim
        obtain ⟨φ₅, σ₅, V, st₅, rV, q₅⟩ := z
        have hD₅ : D ∉ φ₅ := step_out st₅ hD₄ (let ⟨z, e⟩ := hp₄; ⟨_, e⟩)
        have hp₅ : s₅.heap.PlainList D arr := hp₄.at fun o e => st₅.keep D o hD₄ (fun f => f) e
        have rl₅ := rl₄.step st₄.sim st₅
        have fp₅ : ∀ b ∈ fp, ∀ o, s₄.heap.get? b = some o → s₅.heap.get? b = some o := fun b hb o e => st₅.keep b o (fields_out st₄.sim (mine₄ b hb)) (fun f => f) e
        have mine₅ : ∀ b ∈ fp, ∃ o us, s₅.heap.get? b = some o ∧ o.data = .fields us := fun b hb => let ⟨o, us, e, dd⟩ := mine₄ b hb; ⟨o, us, fp₅ b hb o e, dd⟩
        have F₅ := F₄.step st₄.sim st₅
        have hsz : arr.size = acc.length := by simpa using rl'.length.symm
        refine wpAny_list_append_plain hp₅ (fun h₆ hp₆ hs₆ => ?_) (size_le (by omega))
        have st₆ : Step h₀ (fun b => b = D) s₅ { s₅ with heap := h₆ } φ₅ φ₅ σ₅ := Step.one st₅.sim hp₅ hp₆ hs₆ hD₅ nD.1
        have rel₆ : ∀ V v, Rel s₅.heap φ₅ V v → Rel h₆ φ₅ V v := fun V v r => Rel.keep st₆.keep st₆.pre (fun b m => m.elim (fun m => st₅.sim.noTup m) fun m => by subst m; exact plain_noTup hp₅) _ _ r
        have rl₆ : RelL h₆ φ₅ acc arr.toList := RelL.keep st₆.keep st₆.pre (fun b m => m.elim (fun m => st₅.sim.noTup m) fun m => by subst m; exact plain_noTup hp₅) _ _ rl₅
        have F₆ : FrS h₀ h₆ φ₅ (compEnvC scope (clGo env scope.names []) L env) vs' (ρ.set i items[j]) := F₅.keepOne st₅.sim hp₅ fun b o hb e => (hs₆.2 b hb).trans e
        have fp₆ : ∀ b ∈ fp, ∀ o, s₅.heap.get? b = some o → h₆.get? b = some o := fun b hb o e => (hs₆.2 b (fun h => fields_ne_plain (mine₅ b hb) hp₅ h.symm)).trans e
        have own₆ : Step h₀ noOwn s { s₅ with heap := h₆ } φ φ₅ σ₅ := Step.drop (own := fun b => b = D) (((own₄.trans st₅).wider fun _ f => f.elim).trans st₆) fun b hb => by subst hb; exact sD
        refine ⟨items.length + 1 - (j + 1), by omega, j + 1, φ₅, σ₅, acc ++ [V], arr.push y, rfl, hlt, own₆, F₆.undef, ?_, hD₅, hp₆, ?_, by simp; omega, by simpa using q₅.2⟩
        · exact W.frame (j + 1) s₁.heap h₆ φ' φ₅ σ' σ₅ st₂ st₆.sim (st₄.pre.trans st₅.pre) q₅.1 (fun b hb o e => fp₆ b hb o (fp₅ b hb o (fp₄ b hb o (fp₃ b hb o e)))) fun V v r => rel₆ V v (((rel₃ V v r).step st₃.sim st₄).step st₄.sim st₅)
        · rw [Array.toList_push]
          exact rl₆.append (by simp only [RelL]; exact ⟨rel₆ _ _ rV, trivial⟩)
    · have hin : j = items.length := by omega
      subst hin
      rw [List.drop_length, compW] at q'
      refine wpAny_mono (W.done s' φ' σ' st' stp.sim) (fun r s₁ y => ?_) fun _ _ e => e.elim
      obtain ⟨rfl, only, kk⟩ := y
      have mine' := W.mine _ _ _ _ st'
      have F₂ := F'.keepFp stp.sim mine' kk
      obtain ⟨m₂, ns₂, _⟩ := F₂.ns
      have hDf : D ∉ fp := fun m => fields_ne_plain (mine' D m) hp' rfl
      have hp₂ : s₁.heap.PlainList D arr := hp'.at fun o e => kk D o hDf e
      exact hfin s₁ φ' σ' acc D L m₂ arr (stp.endFp hfp W.new mine' only kk) sD hD' nD.1 sL F₂.locOut nL.1 (ns_ne_plain ns₂ hp₂) ns₂ hp₂
        (RelL.keep (own := fun b => b ∈ fp) (fun b o _ hb e => kk b o hb e) (List.prefix_refl _) (fun b m => m.elim (fun m => stp.sim.noTup m) fun m => fields_noTup (mine' b m)) _ _ rl') (by omega) q'
  refine codeAny_compStart_list loop (wpAny_mono (self 0 _ φ₂ σ₂ hst₁) (fun v s₁ y => ?_) fun _ _ e => e.elim)
  obtain ⟨rfl, rfl⟩ := y
  exact loop
end
end Mine

/-! MComp3 -/
namespace Mine
open PySem PySem.Calls

theorem srcSame_refl {k : SrcK} {Vs : List V} {σ : Store} : srcSame k Vs σ σ := by
  unfold srcSame; split <;> (try unfold sameAt) <;> (try split) <;> first | rfl | trivial

section
variable {prog : Program} {w : World} {h₀ : Heap} {C : Oracle} {d : Nat} {env : Env} {vs vs' : Vs}

/-- a comprehension's frame lets its names go -/
theorem Step.letGo {own : Addr → Prop} {s s' : Shared} {φ φ' : List Addr} {σ' : Store} {L : Addr} {m : Str → Option Value} {h' : Heap} (st : Step h₀ own s s' φ φ' σ') (n : s'.heap.Ns L m) (hL : L ∉ φ') (h0 : h₀.get? L = none) (sL : s.heap.get? L = none)
    (hs : Heap.SameBut L s'.heap h') : Step h₀ own s { s' with heap := h' } φ φ' σ' where
  only := by obtain ⟨h1, t1, rfl⟩ := st.only; exact ⟨h', t1, rfl⟩
  pre := st.pre
  sim := st.sim.keepOwn (own := fun a => a = L) (fun b o hb e => (hs.2 b hb).trans e) (by rintro a rfl; exact ⟨noTup_ns n, hL, h0⟩)
  keep := fun b o h1 h2 e => (hs.2 b (fun h => by subst h; rw [sL] at e; cases e)).trans (st.keep b o h1 h2 e)
  fresh := st.fresh
  pres := fun b o e => by
    obtain ⟨o', e'⟩ := st.pres b o e
    exact ⟨o', (hs.2 b (fun h => by subst h; rw [sL] at e; cases e)).trans e'⟩
theorem Rel.letGo {h h' : Heap} {φ : List Addr} {σ : Store} {L : Addr} {m : Str → Option Value} {V : V} {v : Value} (r : Rel h φ V v) (S : Sim h₀ h φ σ) (n : h.Ns L m) (hs : Heap.SameBut L h h') : Rel h' φ V v :=
  Rel.keep (own := fun a => a = L) (fun b o _ hb e => (hs.2 b hb).trans e) (List.prefix_refl _) (fun a m => m.elim (fun m => S.noTup m) fun e => by subst e; exact noTup_ns n) _ _ r
theorem FrS.letGo {h h' : Heap} {φ : List Addr} {σ : Store} {ρ : List V} {L : Addr} {m : Str → Option Value} (F : FrS h₀ h φ env vs ρ) (S : Sim h₀ h φ σ) (n : h.Ns L m) (hne : env.locals ≠ L) (hs : Heap.SameBut L h h') : FrS h₀ h' φ env vs ρ where
  fn := F.fn
  glob := F.glob
  blt := F.blt
  locNew := F.locNew
  locOut := F.locOut
  inj := F.inj
  ns := by
    obtain ⟨mm, nn, r⟩ := F.ns
    refine ⟨mm, nn.sameBut hs hne, fun x' i V h1 h2 h3 h4 => ?_⟩
    obtain ⟨v, e, rl⟩ := r x' i V h1 h2 h3 h4
    exact ⟨v, e, rl.letGo S n hs⟩
  cell := fun x' i h1 h2 => by
    obtain ⟨c, ov, e, o, nw, ic, r⟩ := F.cell x' i h1 h2
    refine ⟨c, ov, e, o, nw, ic.sameBut hs (ns_ne_cell n ic), fun V h3 h4 => ?_⟩
    obtain ⟨v, e', rl⟩ := r V h3 h4
    exact ⟨v, e', rl.letGo S n hs⟩
  cellInj := F.cellInj

/-- what the comprehension made becomes the store's -/
theorem comp_join {s s' : Shared} {φ φ' : List Addr} {σ' : Store} {acc : List V} {D : Addr} {arr : Array Value} (st : Step h₀ noOwn s s' φ φ' σ') (sD : s.heap.get? D = none) (hD : D ∉ φ') (h0 : h₀.get? D = none) (hp : s'.heap.PlainList D arr)
    (rl : RelL s'.heap φ' acc arr.toList) (hz : acc.length ≤ maxLen) : Step h₀ noOwn s s' φ (φ' ++ [D]) (σ' ++ [.list acc]) ∧ Rel s'.heap (φ' ++ [D]) (.ref σ'.length) (.ref D) := by
  refine ⟨⟨st.only, st.pre.trans (List.prefix_append _ _), st.sim.join hp hD h0 rl (maxLen_le hz), st.keep, fun a m => ?_, st.pres⟩, ?_⟩
  · rcases List.mem_append.mp m with m | m
    · exact st.fresh a m
    · simp at m; subst m; exact .inr sD
  · rw [Rel]
    exact ⟨D, rfl, by rw [← st.sim.len]; simp⟩

theorem comp_closure {h : Heap} {φ : List Addr} {ρ : List V} {scope : Scope} {x : Str} {i : Nat} (c : CompSc env vs scope vs' x i) (F : FrS h₀ h φ env vs ρ) : closureFor scope env = pure (clGo env scope.names []) :=
  closure_ok fun y hy hf => by
    obtain ⟨j, hj, hk⟩ := c.free y hy hf
    obtain ⟨cc, _, e, _⟩ := F.cell y.1 j hj hk
    exact ⟨cc, e⟩

theorem ok_comp {scope : Scope} {x : Str} {i : Nat} {px pos : Pos} {elt iter : Expr} {ifs : List Expr} {a : E} {conds src : List E} {k : SrcK} (c : CompSc env vs scope vs' x i) (hs : ∀ x, foldedSetIterable iter env x = pure x)
    (hsrc : SrcOk prog w h₀ C d env vs iter k src (.Name x px)) (hk : k ≠ .enum) (helt : ∀ L, EOk prog w h₀ C d (compEnvC scope (clGo env scope.names []) L env) vs' elt a)
    (hts : ∀ L, TsOk prog w h₀ C d (compEnvC scope (clGo env scope.names []) L env) vs' ifs conds) :
    EOk prog w h₀ C d env vs (.ListComp elt [⟨.Name x px, iter, ifs, 0⟩] scope pos) (.comp a (.var i) k src conds) := fun A s φ σ ρ Q X R S F q => by
  rw [wpE] at q
  rw [eval_ListComp]
  refine wpAny_comprehension_free (use := none) rfl hs (comp_closure c F) c.kind c.names (wpAny_mono (hsrc A s φ σ ρ (fun Vs items σ₁ => items.length ≤ maxLen ∧ compW (compT C a i conds ρ X) (srcSame k Vs σ₁) items [] σ₁ fun ys σ₂ => Q (.ref σ₂.length) (σ₂ ++ [O.list ys])) X R S F q) (fun xv s₁ h₁ => wpAny_mono h₁ (fun it s₂ h₂ => ?_) fun _ _ e => e) fun _ _ e => e)
  obtain ⟨φ₁, σ₁, Vs, items, I, fp, St, rfl, st, ⟨hz, q₁⟩, W, st0, hfp, self⟩ := h₂
  refine comp_core (RR := fun acc L => compPost (model prog w) A (PX h₀ s φ X) none (PV h₀ s φ Q) acc L) R S F st c hfp W (self hk) st0 srcSame_refl helt hts hz q₁ ?_
  intro s' φ' σ' acc D L m arr st' sD hD nD sL hL nL hDL hn hp rl hal hq
  obtain ⟨st₂, r₂⟩ := comp_join st' sD hD nD hp rl hal
  have hL₂ : L ∉ φ' ++ [D] := fun mm => by
    rcases List.mem_append.mp mm with mm | mm
    · exact hL mm
    · simp at mm; exact hDL mm.symm
  exact ⟨m, hn, fun h' hs' => ⟨φ' ++ [D], σ' ++ [.list acc], .ref σ'.length, st₂.letGo hn hL₂ nL sL hs', r₂.letGo st₂.sim hn hs', hq⟩⟩

/-- y = [..]: stored while the comprehension's frame stands -/
theorem sok_comp {scope : Scope} {x y : Str} {i iy : Nat} {px py pos spos : Pos} {elt iter : Expr} {ifs : List Expr} {a : E} {conds src : List E} {k : SrcK} (c : CompSc env vs scope vs' x i) (hs : ∀ x, foldedSetIterable iter env x = pure x)
    (hsrc : SrcOk prog w h₀ C d env vs iter k src (.Name x px)) (hk : k ≠ .enum) (helt : ∀ L, EOk prog w h₀ C d (compEnvC scope (clGo env scope.names []) L env) vs' elt a)
    (hts : ∀ L, TsOk prog w h₀ C d (compEnvC scope (clGo env scope.names []) L env) vs' ifs conds) (hy : vs.lookup y = some iy) (hky : env.kindOf y = some .local)
    (hsw : swapsWith (.ListComp elt [⟨.Name x px, iter, ifs, 0⟩] scope pos) (some (.Name y py)) spos.line env = pure true) :
    SOk prog w h₀ C d env vs (.Assign [.Name y py] (.ListComp elt [⟨.Name x px, iter, ifs, 0⟩] scope pos) spos) (.assign (.var iy) (.comp a (.var i) k src conds)) := fun A s φ σ ρ Q R S F q => by
  rw [wpS, wpE] at q
  rw [exec_Assign_Name_used _ _ _ _ hsw]
  refine wpAny_bind (wpAny_standAt (wpAny_bind ?_))
  show wpAny _ A (do let _ ← comprehension (.ListComp elt [⟨.Name x px, iter, ifs, 0⟩] scope pos) scope env _ (newList []) false (eval iter env) (some (assign (.Name y py) env))) _ _ s
  refine wpAny_bind (wpAny_mono (wpAny_comprehension_free (use := some (assign (.Name y py) env)) (Q := fun _ s' => PF h₀ env vs s φ Q .next s') rfl hs (comp_closure c F) c.kind c.names
    (wpAny_mono (hsrc A s φ σ ρ (fun Vs items σ₁ => items.length ≤ maxLen ∧ compW (compT C a i conds ρ (fun c σ₁ => Q (.exc c) ρ σ₁)) (srcSame k Vs σ₁) items [] σ₁ fun ys σ₂ => Q .next (ρ.set iy (.ref σ₂.length)) (σ₂ ++ [O.list ys])) (fun c σ₁ => Q (.exc c) ρ σ₁) R S F q) (fun xv s₁ h₁ => wpAny_mono h₁ (fun it s₂ h₂ => ?_) fun _ _ e => e.elim) fun _ _ e => e.elim)) (fun _ s' hq => wpAny_pure (wpAny_pure hq)) fun _ _ e => e)
  obtain ⟨φ₁, σ₁, Vs, items, I, fp, St, rfl, st, ⟨hz, q₁⟩, W, st0, hfp, self⟩ := h₂
  refine comp_core (RR := fun acc L => compPost (model prog w) A NX (some (assign (.Name y py) env)) (fun _ s' => PF h₀ env vs s φ Q .next s') acc L) R S F st c hfp W (self hk) st0 srcSame_refl helt hts hz q₁ ?_
  intro s' φ' σ' acc D L m arr st' sD hD nD sL hL nL hDL hn hp rl hal hq
  obtain ⟨st₂, r₂⟩ := comp_join st' sD hD nD hp rl hal
  have hL₂ : L ∉ φ' ++ [D] := fun mm => by
    rcases List.mem_append.mp mm with mm | mm
    · exact hL mm
    · simp at mm; exact hDL mm.symm
  have F₂ := F.step S st₂
  have hLe : env.locals ≠ L := fun e => by
    obtain ⟨_, ⟨o, _, _, e', _⟩, _⟩ := F.ns
    rw [e, sL] at e'; cases e'
  show wpAny _ A (assign (.Name y py) env (.ref D)) _ _ _
  refine wpAny_assign_Name (store_local st₂.sim F₂ hy hky r₂ fun s₃ st₃ F₃ => ?_)
  have hn₃ : s₃.heap.Ns L m := by
    obtain ⟨o, es, ep, e, rr⟩ := hn
    exact ⟨o, es, ep, st₃.keep L o hL₂ (fun h => hLe h.symm) e, rr⟩
  refine ⟨m, hn₃, fun h' hs' => ?_⟩
  have st₄ : Step h₀ (frameOwn env vs) s s₃ φ (φ' ++ [D]) (σ' ++ [.list acc]) := (st₂.own).trans (st₃.wider fun _ e => .inl e)
  exact ⟨φ' ++ [D], σ' ++ [.list acc], _, .next, st₄.letGo hn₃ hL₂ nL sL hs', F₃.letGo st₃.sim hn₃ hLe hs', rfl, hq⟩
end
end Mine

/-! MComp4 -/
namespace Mine
open PySem PySem.Calls

noncomputable def isCF (sc : Scope) (x : Str) : Bool := match sc.names.lookup x with
  | some .cell | some .free => true
  | _ => false
theorem isCF_kind {sc : Scope} {x : Str} (h : isCF sc x = true) : sc.names.lookup x = some .cell ∨ sc.names.lookup x = some .free := by
  unfold isCF at h
  split at h
  · exact .inl ‹_›
  · exact .inr ‹_›
  · cases h

/-- the names of a comprehension's block: its own one, then those from around -/
noncomputable def compVars (sc : Scope) (vs : Vs) (x : Str) (nx : Nat) : Vs := (x, nx) :: sc.names.filterMap fun y => if y.2 == .free then (vs.lookup y.1).map (y.1, ·) else none

noncomputable def compOk (sc : Scope) (vs : Vs) (csc : Scope) (x : Str) (nx : Nat) : Bool :=
  csc.kind == .function && csc.names.all (fun y => y.2 != .cell && (y.2 != .local || csc.names.lookup y.1 == some .local) && (y.2 != .free || (csc.names.lookup y.1 == some .free && isCF sc y.1 && (vs.lookup y.1).isSome))) &&
    csc.names.lookup x == some .local && vs.all (fun p => p.2 != nx)

theorem lookup_mem_filterMap {names : List (Str × NameKind)} {vs : Vs} {y : Str} {j : Nat} (h : (names.filterMap fun y => if y.2 == .free then (vs.lookup y.1).map (y.1, ·) else none).lookup y = some j) : (y, NameKind.free) ∈ names ∧ vs.lookup y = some j := by
  have := mem_of_lookup h
  obtain ⟨p, hp, e⟩ := List.mem_filterMap.mp this
  split at e
  · rename_i hf
    obtain ⟨j', hj, e⟩ := Option.map_eq_some_iff.mp e
    cases e
    refine ⟨?_, hj⟩
    obtain ⟨n, k⟩ := p
    simp only [beq_iff_eq] at hf
    subst hf; exact hp
  · cases e

theorem comp_sc {env : Env} {sc csc : Scope} {vs : Vs} {x : Str} {nx : Nat} (hcf : ∀ y, isCF sc y = true → isCF env.scope y = true) (h : compOk sc vs csc x nx = true) : CompSc env vs csc (compVars csc vs x nx) x nx := by
  unfold compOk at h
  simp only [Bool.and_eq_true, beq_iff_eq, List.all_eq_true, bne_iff_ne, ne_eq, Bool.or_eq_true, Option.isSome_iff_exists] at h
  obtain ⟨⟨⟨h1, h2⟩, h3⟩, h4⟩ := h
  have hfree : ∀ y, (y, NameKind.free) ∈ csc.names → csc.names.lookup y = some .free ∧ isCF sc y = true ∧ ∃ j, vs.lookup y = some j := fun y hy => by
    have := (h2 _ hy).2
    simp only [not_true_eq_false, false_or] at this
    exact ⟨this.1.1, this.1.2, this.2⟩
  have once : (x, NameKind.free) ∉ csc.names := fun m => by
    have := (hfree x m).1
    rw [h3] at this; cases this
  refine ⟨h1, fun y hy => (h2 y hy).1.1, fun y hy hl => ?_, h3, once, ?_, fun y hy hf => ?_, fun y j hj => ?_⟩
  · have := (h2 y hy).1.2
    rcases this with n | e
    · exact absurd hl n
    · exact e
  · simp [compVars]
  · obtain ⟨n, k⟩ := y
    simp only at hf; subst hf
    obtain ⟨_, c, j, hj⟩ := hfree n hy
    exact ⟨j, hj, isCF_kind (hcf n c)⟩
  · rw [compVars, List.lookup_cons] at hj
    cases e : y == x with
    | true =>
      rw [e] at hj
      simp only [Option.some.injEq] at hj
      exact .inl ⟨beq_iff_eq.mp e, hj.symm⟩
    | false =>
      rw [e] at hj
      obtain ⟨m, hv⟩ := lookup_mem_filterMap hj
      refine .inr ⟨fun h => by simp [h] at e, (hfree y m).1, hv, fun hn => ?_⟩
      have := h4 (y, j) (mem_of_lookup hv)
      exact this hn

theorem lookup_relabel {env : Env} {x : Str} : ∀ (names : List (Str × NameKind)),
    (names.map fun (n, k) => if (k == NameKind.free && env.scope.kind == .function && env.kindOf n == some .cell) then (n, NameKind.cell) else (n, k)).lookup x =
    (names.lookup x).map fun k => if (k == NameKind.free && env.scope.kind == .function && env.kindOf x == some .cell) then NameKind.cell else k
  | [] => rfl
  | (n, k) :: r => by
    have ih := lookup_relabel (env := env) (x := x) r
    show List.lookup x ((if (k == NameKind.free && env.scope.kind == .function && env.kindOf n == some .cell) = true then (n, NameKind.cell) else (n, k)) :: _) = Option.map _ (List.lookup x ((n, k) :: r))
    by_cases hc : (k == NameKind.free && env.scope.kind == .function && env.kindOf n == some .cell) = true
    · rw [if_pos hc, List.lookup_cons, List.lookup_cons]
      cases e : x == n with
      | true => rw [beq_iff_eq.mp e]; exact congrArg some (if_pos hc).symm
      | false => exact ih
    · rw [if_neg hc, List.lookup_cons, List.lookup_cons]
      cases e : x == n with
      | true => rw [beq_iff_eq.mp e]; exact congrArg some (if_neg hc).symm
      | false => exact ih

theorem relabel_lookup {env : Env} {sc : Scope} {x : Str} : (relabel sc env).names.lookup x = (sc.names.lookup x).map fun k => if (k == NameKind.free && env.scope.kind == .function && env.kindOf x == some .cell) then NameKind.cell else k := lookup_relabel sc.names

theorem relabel_var {env : Env} {sc : Scope} (x : Str) : isVar (relabel sc env) x = isVar sc x := by
  unfold isVar
  rw [relabel_lookup]
  cases sc.names.lookup x with
  | none => rfl
  | some k =>
    rw [Option.map_some]
    by_cases hq : (k == NameKind.free && env.scope.kind == .function && env.kindOf x == some .cell) = true
    · rw [if_pos hq]
      simp only [Bool.and_eq_true, beq_iff_eq] at hq
      rw [hq.1.1]
    · rw [if_neg hq]
theorem relabel_glob {env : Env} {sc : Scope} (x : Str) : isGlob (relabel sc env) x = isGlob sc x := by
  unfold isGlob
  rw [relabel_lookup]
  cases sc.names.lookup x with
  | none => rfl
  | some k =>
    rw [Option.map_some]
    by_cases hq : (k == NameKind.free && env.scope.kind == .function && env.kindOf x == some .cell) = true
    · rw [if_pos hq]
      simp only [Bool.and_eq_true, beq_iff_eq] at hq
      rw [hq.1.1]; rfl
    · rw [if_neg hq]
theorem relabel_cf {env : Env} {sc : Scope} (x : Str) (h : isCF sc x = true) : isCF (relabel sc env) x = true := by
  unfold isCF at h ⊢
  rw [relabel_lookup]
  cases e : sc.names.lookup x with
  | none => rw [e] at h; cases h
  | some k =>
    rw [e] at h
    rw [Option.map_some]
    by_cases hq : (k == NameKind.free && env.scope.kind == .function && env.kindOf x == some .cell) = true
    · rw [if_pos hq]
    · rw [if_neg hq]; exact h
end Mine

/-! MFun -/
namespace Mine
open PySem PySem.Calls

theorem slots_get : ∀ (xs : List Str) (n : Nat) {x : Str} {i : Nat}, (slotsFrom n xs).lookup x = some i → n ≤ i ∧ xs[i - n]? = some x
  | [], _, _, _, h => by simp [slotsFrom] at h
  | y :: r, n, x, i, h => by
    rw [slotsFrom, List.lookup_cons] at h
    cases e : x == y with
    | true =>
      rw [e] at h
      simp only [Option.some.injEq] at h
      subst h
      rw [beq_iff_eq.mp e]; simp
    | false =>
      rw [e] at h
      obtain ⟨h1, h2⟩ := slots_get r (n + 1) h
      refine ⟨by omega, ?_⟩
      rw [show i - n = (i - (n + 1)) + 1 by omega]
      simpa using h2
theorem slots_inj {xs : List Str} {n : Nat} {x y : Str} {i : Nat} (h : (slotsFrom n xs).lookup x = some i) (h' : (slotsFrom n xs).lookup y = some i) : x = y :=
  Option.some.inj ((slots_get xs n h).2.symm.trans (slots_get xs n h').2)

theorem bindL_out {k : Str → Option NameKind} : ∀ (ps : List Str) (vs : List Value) (m : Str → Option Value) {x : Str}, x ∉ ps → bindL k (ps.zip vs) m x = m x
  | [], _, _, _, _ => rfl
  | _ :: _, [], _, _, _ => rfl
  | p :: ps, v :: vs, m, x, h => by
    rw [List.zip_cons_cons, bindL, bindL_out ps vs _ (fun hh => h (List.mem_cons_of_mem _ hh))]
    have hne : x ≠ p := fun e => h (e ▸ List.mem_cons_self)
    split
    · exact if_neg hne
    · rfl
theorem bindC_out {k : Str → Option NameKind} : ∀ (ps : List Str) (vs : List Value) (m : Str → Option Value) {x : Str}, x ∉ ps → bindC k (ps.zip vs) m x = m x
  | [], _, _, _, _ => rfl
  | _ :: _, [], _, _, _ => rfl
  | p :: ps, v :: vs, m, x, h => by
    rw [List.zip_cons_cons, bindC, bindC_out ps vs _ (fun hh => h (List.mem_cons_of_mem _ hh))]
    have hne : x ≠ p := fun e => h (e ▸ List.mem_cons_self)
    split
    · rfl
    · exact if_neg hne
theorem bindL_get {k : Str → Option NameKind} : ∀ (ps : List Str) (vs : List Value) (m : Str → Option Value) {i : Nat} {x : Str} {v : Value}, ps.Nodup → ps[i]? = some x → vs[i]? = some v → k x = some .local → bindL k (ps.zip vs) m x = some v
  | [], _, _, _, _, _, _, h, _, _ => by simp at h
  | _ :: _, [], _, _, _, _, _, _, h, _ => by simp at h
  | p :: ps, u :: vs, m, 0, x, v, hnd, h, h', hk => by
    simp only [List.getElem?_cons_zero, Option.some.injEq] at h h'
    subst h h'
    rw [List.zip_cons_cons, bindL, bindL_out ps vs _ (List.nodup_cons.mp hnd).1, if_pos hk, if_pos rfl]
  | p :: ps, u :: vs, m, i + 1, x, v, hnd, h, h', hk => by
    rw [List.zip_cons_cons, bindL]
    exact bindL_get ps vs _ (List.nodup_cons.mp hnd).2 (by simpa using h) (by simpa using h') hk
theorem bindC_get {k : Str → Option NameKind} : ∀ (ps : List Str) (vs : List Value) (m : Str → Option Value) {i : Nat} {x : Str} {v : Value}, ps.Nodup → ps[i]? = some x → vs[i]? = some v → k x ≠ some .local → bindC k (ps.zip vs) m x = some v
  | [], _, _, _, _, _, _, h, _, _ => by simp at h
  | _ :: _, [], _, _, _, _, _, _, h, _ => by simp at h
  | p :: ps, u :: vs, m, 0, x, v, hnd, h, h', hk => by
    simp only [List.getElem?_cons_zero, Option.some.injEq] at h h'
    subst h h'
    rw [List.zip_cons_cons, bindC, bindC_out ps vs _ (List.nodup_cons.mp hnd).1, if_neg hk, if_pos rfl]
  | p :: ps, u :: vs, m, i + 1, x, v, hnd, h, h', hk => by
    rw [List.zip_cons_cons, bindC]
    exact bindC_get ps vs _ (List.nodup_cons.mp hnd).2 (by simpa using h) (by simpa using h') hk

theorem cells_some : ∀ (names : List (Str × NameKind)) (n : Nat) (acc : List (Str × Addr)) {x : Str}, (acc.lookup x).isSome = true ∨ (x, NameKind.cell) ∈ names → ((cellsFrom n names acc).lookup x).isSome = true
  | [], _, _, _, h => h.elim id fun h => by cases h
  | (y, k) :: r, n, acc, x, h => by
    rw [cellsFrom]
    cases hk : k == NameKind.cell with
    | false =>
      simp only [Bool.false_eq_true, if_false]
      refine cells_some r n acc (h.imp id fun m => ?_)
      rcases List.mem_cons.mp m with e | m
      · cases e; simp at hk
      · exact m
    | true =>
      simp only [if_true]
      refine cells_some r (n + 1) _ ?_
      rcases h with h | h
      · left; rw [List.lookup_cons]; split
        · rfl
        · exact h
      · rcases List.mem_cons.mp h with e | m
        · cases e; left; rw [List.lookup_cons]; simp
        · exact .inr m

noncomputable def plainArgs : Arguments → Option (List Arg)
  | ⟨[], args, none, [], [], none, []⟩ => some args
  | _ => none
theorem plainArgs_eq {a : Arguments} {args : List Arg} (h : plainArgs a = some args) : a = ⟨[], args, none, [], [], none, []⟩ := by
  unfold plainArgs at h
  split at h
  · cases h; rfl
  · cases h

/-- a def's own names: its parameters first -/
noncomputable def ownNames (ps : List Str) (sc : Scope) : List Str := ps ++ (ownOf sc).filter fun x => !ps.contains x
noncomputable def isOwn (sc : Scope) (x : Str) : Bool := match sc.names.lookup x with
  | some .local | some .cell => true
  | _ => false
theorem isOwn_kind {sc : Scope} {x : Str} (h : isOwn sc x = true) : sc.names.lookup x = some .local ∨ sc.names.lookup x = some .cell := by
  unfold isOwn at h
  split at h
  · exact .inl ‹_›
  · exact .inr ‹_›
  · cases h

/-- a def that can be walked -/
structure DefOk (params : Arguments) (scope : Scope) (args : List Arg) (vs : Vs) : Prop where
  plain : plainArgs params = some args
  nodup : (args.map (·.arg)).Nodup
  vs : vs = slotsFrom 0 (ownNames (args.map (·.arg)) scope)
  own : ∀ x ∈ ownNames (args.map (·.arg)) scope, isOwn scope x = true
  kind : scope.kind = .function
  co : scope.isCoroutine = false
  gen : scope.isGenerator = false

section
variable {prog : Program} {w : World} {h₀ : Heap}

theorem args_get {ps : List Str} {xs : List Str} {Vs : List V} {vals : List Value} {i k : Nat} {x : Str} {W : V} {h : Heap} {φ : List Addr} (hl : ps.length = Vs.length) (rl : RelL h φ Vs vals) (hx : (ps ++ xs)[i]? = some x) (hW : (Vs ++ List.replicate k V.undef)[i]? = some W) (hne : W ≠ .undef) :
    ps[i]? = some x ∧ ∃ v, vals[i]? = some v ∧ Rel h φ W v := by
  have hi : i < Vs.length := by
    refine Nat.lt_of_not_le fun h => hne ?_
    rw [List.getElem?_append_right h] at hW
    rw [List.getElem?_replicate] at hW
    split at hW
    · cases hW; rfl
    · cases hW
  rw [List.getElem?_append_left hi] at hW
  rw [List.getElem?_append_left (hl ▸ hi)] at hx
  exact ⟨hx, rl.get hW⟩

theorem call_frame {s s₁ : Shared} {φ : List Addr} {σ : Store} {fd : FuncData} {a : Addr} {params : Arguments} {args : List Arg} {vs : Vs} {Vs : List V} {vals : List Value} {k : Nat} (D : DefOk fd.params fd.scope args vs)
    (hg : fd.globals = mainGlobals) (hb : fd.builtins = builtinsNs) (S : Sim h₀ s.heap φ σ) (rl : RelL s.heap φ Vs vals) (hl : args.length = Vs.length)
    (x : InCallC s (callEnvC fd s.heap.objs.size a).locals (bindL (callEnvC fd s.heap.objs.size a).kindOf ((args.map (·.arg)).zip vals) fun _ => none) (callEnvC fd s.heap.objs.size a).cells
        (bindC (callEnvC fd s.heap.objs.size a).kindOf ((args.map (·.arg)).zip vals) fun _ => none) s₁) :
    FrS h₀ s₁.heap φ (callEnvC fd s.heap.objs.size a) vs (Vs ++ List.replicate k V.undef) where
  fn := D.kind
  glob := hg
  blt := hb
  locNew := (fresh_none S (Nat.le_refl _)).1
  locOut := fun m => absurd (S.lt m) (Nat.lt_irrefl _)
  inj := fun y z i hy hz => by rw [D.vs] at hy hz; exact slots_inj hy hz
  ns := by
    refine ⟨_, x.toInCall.ns, fun y i V hy hk hV hne => ?_⟩
    rw [D.vs] at hy
    obtain ⟨h1, v, hv, r⟩ := args_get (by simpa using hl) rl (slots_get _ 0 hy).2 hV hne
    exact ⟨v, bindL_get _ _ _ D.nodup h1 hv hk, Rel.keep (own := noOwn) (fun b o _ _ e => x.toInCall.keep b o e) (List.prefix_refl _) (fun a m => m.elim (fun m => S.noTup m) fun f => f.elim) _ _ r⟩
  cell := fun y i hy hk => by
    have hy' := hy
    rw [D.vs] at hy'
    have hget := (slots_get _ 0 hy').2
    have ho := isOwn_kind (D.own y (List.mem_of_getElem? hget))
    have hc : fd.scope.names.lookup y = some .cell := by
      rcases ho with e | e
      · rw [show (callEnvC fd s.heap.objs.size a).kindOf y = _ from e] at hk
        rcases hk with q | q <;> cases q
      · exact e
    obtain ⟨c, ec⟩ := Option.isSome_iff_exists.mp (cells_some fd.scope.names (s.heap.objs.size + 1) [] (.inr (mem_of_lookup hc)))
    have ec' : (callEnvC fd s.heap.objs.size a).cells.lookup y = some c := ec
    have hlt := x.above y c (mem_of_lookup ec')
    have hlt' : s.heap.objs.size ≤ c := Nat.le_of_lt hlt
    refine ⟨c, _, ec', fun m => absurd (S.lt m) (Nat.not_lt.mpr hlt'), (fresh_none S hlt').1, x.cell y c ec', fun V hV hne => ?_⟩
    obtain ⟨h1, v, hv, r⟩ := args_get (by simpa using hl) rl hget hV hne
    exact ⟨v, bindC_get _ _ _ D.nodup h1 hv (by rw [show (callEnvC fd s.heap.objs.size a).kindOf y = _ from hc]; decide), Rel.keep (own := noOwn) (fun b o _ _ e => x.toInCall.keep b o e) (List.prefix_refl _) (fun a m => m.elim (fun m => S.noTup m) fun f => f.elim) _ _ r⟩
  cellInj := fun y z i j c _ _ h1 h2 => name_of_addr x.apart (mem_of_lookup h1) (mem_of_lookup h2)

/-- a call, from its body -/
theorem call_ok {C : Oracle} {d : Nat} {A : Around} {s : Shared} {φ : List Addr} {σ : Store} {fd : FuncData} {a : Addr} {o : Obj} {args : List Arg} {vs : Vs} {Vs : List V} {vals : List Value} {k : Nat} {body : List Stmt} {body' : List S} {Q : V → Store → Prop} {X : XPost}
    (D : DefOk fd.params fd.scope args vs) (hg : fd.globals = mainGlobals) (hb : fd.builtins = builtinsNs) (hbody : fd.body = .stmts body) (hclo : fd.closure = []) (hdf : fd.defaults = .none) (R : ROk A (d + 1)) (ho : s.heap.get? a = some o) (hd : o.data = .func fd)
    (hlim : s.heap.NoLimit) (hcd : s.heap.CodeRec fd.code fd.qualname) (S : Sim h₀ s.heap φ σ) (rl : RelL s.heap φ Vs vals) (hl : args.length = Vs.length)
    (hB : ∀ env, env.scope = fd.scope → SsOk prog w h₀ C d env vs body body')
    (q : wpSs C body' (Vs ++ List.replicate k V.undef) σ fun fl _ σ' => match fl with | .ret v => Q v σ' | .next => Q .none σ' | .exc c => X c σ' | _ => False) :
    codeAny (model prog w) A (.call (.ref a) ⟨vals, []⟩) (fun r s' => match r with | .ok (.ret v) => PV h₀ s φ Q v s' | .ok _ => False | .error e => PX h₀ s φ X e s') s := by
  have hroom : A.depth < recursionLimit := Nat.lt_of_lt_of_le (Nat.lt_of_le_of_lt (Nat.le_add_right _ _) R.depth) (by decide)
  have hlv : args.length = vals.length := hl.trans rl.length
  refine codeAny_call_cells (binds := (args.map (·.arg)).zip vals) hroom ho hd hlim hcd hbody (bindArgs_plain (plainArgs_eq D.plain) hdf hlv D.nodup) hclo (fun y hy => ?_) (fun s₁ x => ?_) D.co D.gen D.kind
  · have hm : y.1 ∈ args.map (·.arg) := (List.of_mem_zip hy).1
    rcases isOwn_kind (D.own y.1 (List.mem_append_left _ hm)) with e | e
    · exact .inl e
    · exact .inr ⟨e, cells_some _ _ _ (.inr (mem_of_lookup e))⟩
  · have F := call_frame (params := fd.params) (k := k) (a := a) D hg hb S rl hl x
    obtain ⟨h₁, tk, rfl, kk⟩ := x.done
    refine wpAny_mono (hB (callEnvC fd s.heap.objs.size a) rfl (A.deeper (callEnvC fd s.heap.objs.size a)) _ φ σ _ _ ⟨R.hd, ?_, ?_⟩ (S.keeps kk) F q) (fun f s' y => ?_) fun _ _ e => e.elim
    · have := R.depth; show A.depth + 1 + d < 900; omega
    · have := R.units; show A.units + 3 + 3 * d < 9000; omega
    · obtain ⟨φ', σ', ρ', fl, st, F', rf, q'⟩ := y
      have st' : Step h₀ noOwn s s' φ φ' σ' := by
        refine ⟨?_, st.pre, st.sim, fun b ob hb' _ e => st.keep b ob hb' (fun m => ?_) (kk b ob e), fun b m => ?_, fun b ob e => st.pres b ob (kk b ob e)⟩
        · obtain ⟨h2, t2, rfl⟩ := st.only; exact ⟨h2, t2, rfl⟩
        · have hlt := Heap.lt_size e
          rcases m with rfl | ⟨y, i, _, _, ec⟩
          · exact Nat.lt_irrefl _ hlt
          · exact absurd hlt (Nat.not_lt.mpr (Nat.le_of_lt (x.above y b (mem_of_lookup ec))))
        · rcases st.fresh b m with m | e
          · exact .inl m
          · right
            cases q : s.heap.get? b with
            | none => rfl
            | some ob => have := kk b ob q; rw [show h₁.get? b = none from e] at this; cases this
      cases fl with
      | next => simp only [RelF] at rf; subst rf; exact ⟨φ', σ', .none, st', rel_none, q'⟩
      | ret V => obtain ⟨v, rfl, r⟩ := rf; exact ⟨φ', σ', V, st', r, q'⟩
      | brk => exact q'.elim
      | cont => exact q'.elim
      | exc c => exact rf.elim
end

end Mine

/-! MRead -/
namespace Mine
open PySem PySem.Calls

noncomputable def nameOk (x : Str) : Bool := !(x == ("__debug__" : Str)) && !(x == ("__classdict__" : Str))
noncomputable def rName (G : GlT) (sc : Scope) (vs : Vs) (x : Str) : Option E :=
  if nameOk x then
    if isVar sc x then (vs.lookup x).map E.loc
    else if isGlob sc x then (match G.lookup x with | some (.str s) => some (.str s) | some (.int i) => some (.int i) | _ => none)
    else none
  else none
noncomputable def rConst : Const → Option E
  | .none => some .none
  | .bool b => some (.bool b)
  | .int i => some (.int i)
  | .str s => some (.str s)
  | _ => none

/-- the built-in functions -/
noncomputable def bltOf (x : Str) : Option (Pr × Value) :=
  if x == ("len" : Str) then some (.len, .builtin "len")
  else if x == ("list" : Str) then some (.list, .type "list")
  else if x == ("tuple" : Str) then some (.tuple, .type "tuple")
  else if x == ("str" : Str) then some (.str, .type "str")
  else if x == ("int" : Str) then some (.int, .type "int")
  else if x == ("min" : Str) then some (.min, .builtin "min")
  else if x == ("max" : Str) then some (.max, .builtin "max")
  else none
/-- the types that isinstance is asked for -/
noncomputable def tyOf (x : Str) : Option Ty :=
  if x == ("int" : Str) then some .int else if x == ("bool" : Str) then some .bool else if x == ("str" : Str) then some .str
  else if x == ("tuple" : Str) then some .tuple else if x == ("list" : Str) then some .list else none

noncomputable def freeName (G : GlT) (sc : Scope) (x : Str) : Bool := isGlob sc x && (G.lookup x).isNone

noncomputable def rNames (sc : Scope) (vs : Vs) : List Expr → Option (List Nat)
  | [] => some []
  | .Name x _ :: r => if isOwn sc x then (match vs.lookup x, rNames sc vs r with
    | some i, some is => some (i :: is)
    | _, _ => none) else none
  | _ :: _ => none
noncomputable def rPat (sc : Scope) (vs : Vs) : Expr → Option Pat
  | .Name x _ => if isOwn sc x then (vs.lookup x).map Pat.var else none
  | .Tuple es _ _ => (rNames sc vs es).map Pat.tup
  | _ => none

noncomputable def isSet : Expr → Bool
  | .Set .. => true
  | _ => false
theorem notSet_of {e : Expr} (h : isSet e = false) (env : Env) (x : Value) : foldedSetIterable e env x = pure x := by
  cases e <;> first | rfl | cases h
noncomputable def isTup : Expr → Bool
  | .Tuple .. => true
  | _ => false

/-- the source of a loop -/
noncomputable def rSrc (G : GlT) (sc : Scope) (f : Expr → Option E) (t : Expr) (e : Expr) : Option (SrcK × List E) :=
  match e with
  | .Call (.Name x pf) (a :: as) [] pos =>
    if x == ("range" : Str) then (if freeName G sc x then (mapO f (a :: as)).map (SrcK.range, ·) else none)
    else if x == ("enumerate" : Str) then (if freeName G sc x && isTup t && as.isEmpty then (mapO f [a]).map (SrcK.enum, ·) else none)
    else (f (.Call (.Name x pf) (a :: as) [] pos)).map fun b => (SrcK.plain, [b])
  | e => if isSet e then none else (f e).map fun b => (SrcK.plain, [b])

noncomputable def rOpt (f : Expr → Option E) : Option Expr → Option (Option E)
  | none => some none
  | some e => (f e).map some
noncomputable def rComp (G : GlT) (nx : Nat) (f : Scope → Vs → Expr → Option E) (sc : Scope) (vs : Vs) (elt : Expr) (x : Str) (px : Pos) (iter : Expr) (ifs : List Expr) (csc : Scope) : Option E :=
  if compOk sc vs csc x nx then (match rSrc G sc (f sc vs) (.Name x px) iter, f csc (compVars csc vs x nx) elt, mapO (f csc (compVars csc vs x nx)) ifs with
    | some (k, as), some a, some cs => if k == .enum then none else some (.comp a (.var nx) k as cs)
    | _, _, _ => none) else none

/-- a call by a name -/
noncomputable def rCall (G : GlT) (sc : Scope) (f : Expr → Option E) (x : Str) (args : List Expr) : Option E :=
  match args with
  | [] => none
  | a :: as =>
    if x == ("isinstance" : Str) then (match as with
      | [.Name t _] => if freeName G sc x && freeName G sc t then (match tyOf t, f a with
        | some ty, some b => some (.prim (.isinst ty) [b])
        | _, _ => none) else none
      | _ => none)
    else if isGlob sc x && nameOk x then (match mapO f (a :: as) with
      | some xs => (match G.lookup x with
        | some (.fn i) => some (.call i xs)
        | some _ => none
        | none => (bltOf x).map fun p => .prim p.1 xs)
      | none => none)
    else none
noncomputable def rSub (G : GlT) (sc : Scope) (vs : Vs) (f : Expr → Option E) (a i : Expr) : Option E :=
  match i with
  | .Slice lo hi st _ => (match st, a with
    | none, .Name o _ => (match rName G sc vs o, rOpt f lo, rOpt f hi with
      | some x, some y, some z => some (.slice x y z)
      | _, _, _ => none)
    | _, _ => none)
  | i => match f a, f i with
    | some x, some y => some (.sub x y)
    | _, _ => none
noncomputable def rStep (G : GlT) (nx : Nat) (ff : Scope → Vs → Expr → Option E) (sc : Scope) (vs : Vs) (e : Expr) : Option E :=
  let f := ff sc vs
  match e with
    | .ListComp elt gs csc _ => (match gs with
      | [⟨.Name x px, iter, ifs, 0⟩] => rComp G nx ff sc vs elt x px iter ifs csc
      | _ => none)
    | .Constant c _ _ => rConst c
    | .Name x _ => rName G sc vs x
    | .BinOp l op r _ => (match cBin op, f l, f r with
      | some o, some a, some b => some (.bin o a b)
      | _, _, _ => none)
    | .UnaryOp op x _ => (match op with
      | .USub => (f x).map E.neg
      | .Not => (f x).map E.not
      | _ => none)
    | .BoolOp op es _ => if es.isEmpty then none else (match op with
      | .And => (mapO f es).map E.and
      | .Or => (mapO f es).map E.or)
    | .Compare l ops es _ => if lastMarks ops es || es.isEmpty || decide (ops.length ≠ es.length) then none else (match f l, mapO f es with
      | some x, some ys => some (.cmp x (ops.map cCmp) ys)
      | _, _ => none)
    | .Tuple es _ _ => if es.length ≤ 1000 then (mapO f es).map E.tup else none
    | .List es _ => if es.length ≤ 1000 then (mapO f es).map E.list else none
    | .Subscript a i _ => rSub G sc vs f a i
    | .Call g args kws pos => (match kws with
      | [] => (match g with
        | .Name x _ => rCall G sc f x args
        | .Attribute o m apos => (match o, args with
          | .Name o _, [a] => if m == ("append" : Str) && (apos.endLine == pos.line) then (match rName G sc vs o, f a with
            | some x, some y => some (.append x y)
            | _, _ => none) else none
          | _, _ => none)
        | _ => none)
      | _ => none)
    | _ => none
noncomputable def rE (G : GlT) (nx : Nat) : Nat → Scope → Vs → Expr → Option E
  | 0, _, _, _ => none
  | n + 1, sc, vs, e => rStep G nx (rE G nx n) sc vs e

section
variable {prog : Program} {w : World} {h₀ : Heap} {C : Oracle} {d : Nat} {env : Env} {vs : Vs} {G : GlT} {fa : Nat → Addr} {mg mb : Str → Option Value} {sc : Scope}

structure Agree (env : Env) (sc : Scope) : Prop where
  var : ∀ x, isVar env.scope x = isVar sc x
  glob : ∀ x, isGlob env.scope x = isGlob sc x
  cf : ∀ x, isCF sc x = true → isCF env.scope x = true

theorem Agree.of_eq {env : Env} {sc : Scope} (h : env.scope = sc) : Agree env sc := ⟨fun _ => by rw [h], fun _ => by rw [h], fun _ q => by rw [h]; exact q⟩
theorem Agree.comp {env : Env} {sc : Scope} {cl : List (Str × Addr)} {L : Addr} : Agree (compEnvC sc cl L env) sc := ⟨fun x => relabel_var x, fun x => relabel_glob x, fun x h => relabel_cf x h⟩

variable (prog w h₀ C d env vs) in
structure EGood (e : Expr) (a : E) : Prop where
  star : NoStar e
  slice : NoSlice e
  ok : EOk prog w h₀ C d env vs e a
  test : TOk prog w h₀ C d env vs e a

theorem nameOk_1 {x : Str} (h : nameOk x = true) : (x == ("__debug__" : Str)) = false := by unfold nameOk at h; simp only [Bool.and_eq_true, Bool.not_eq_true'] at h; exact h.1
theorem nameOk_2 {x : Str} (h : nameOk x = true) : (x == ("__classdict__" : Str)) = false := by unfold nameOk at h; simp only [Bool.and_eq_true, Bool.not_eq_true'] at h; exact h.2

/-- the value is what the test asks -/
noncomputable def plainE : E → Bool
  | .not _ | .and _ | .or _ | .cmp _ _ _ => false
  | _ => true
theorem wpT_plain {C : Oracle} {a : E} {whole : (V → Store → Prop) → XPost → Prop} {ρ : List V} {σ : Store} {Q : Bool → Store → Prop} {X : XPost} (h : plainE a = true) (q : wpT C a whole ρ σ Q X) :
    whole (fun v σ₁ => match truth σ₁ v with | some b => Q b σ₁ | Option.none => False) X := by
  cases a <;> first | (simp only [wpT] at q; exact q) | cases h
theorem gv {e : Expr} {a : E} (h1 : NoStar e) (h2 : NoSlice e) (he : ∀ env whole, isTrue e env whole = (do let v ← whole; standAt e.pos; holding [v] (truthy v)))
    (ha : plainE a = true) (h : EOk prog w h₀ C d env vs e a) : EGood prog w h₀ C d env vs e a :=
  ⟨h1, h2, h, tok_val he (fun _ _ _ _ _ q => wpT_plain ha q) h⟩

theorem rName_ok (g : Gnd h₀ G fa mg mb) (hA : Agree env sc) {x : Str} {p : Pos} {a : E} (h : rName G sc vs x = some a) : EGood prog w h₀ C d env vs (.Name x p) a := by
  unfold rName at h
  split at h
  · rename_i hn
    split at h
    · rename_i hv
      obtain ⟨i, hi, rfl⟩ := Option.map_eq_some_iff.mp h
      exact gv (fun _ _ => rfl) (fun _ _ => rfl) (fun _ _ => rfl) rfl (ok_loc hi ((hA.var x).trans hv) (nameOk_1 hn) (nameOk_2 hn))
    · split at h
      · rename_i hg
        split at h
        · rename_i s e
          cases h
          exact gv (fun _ _ => rfl) (fun _ _ => rfl) (fun _ _ => rfl) rfl (ok_gstr g e ((hA.glob x).trans hg) (nameOk_1 hn))
        · rename_i s e
          cases h
          exact gv (fun _ _ => rfl) (fun _ _ => rfl) (fun _ _ => rfl) rfl (ok_gint g e ((hA.glob x).trans hg) (nameOk_1 hn))
        · cases h
      · cases h
  · cases h

theorem mapO_cons {α β : Type} {f : α → Option β} {a : α} {as : List α} {bs : List β} (h : mapO f (a :: as) = some bs) : ∃ b bs', f a = some b ∧ mapO f as = some bs' ∧ bs = b :: bs' := by
  rw [mapO] at h
  split at h
  · rename_i b bs' e1 e2
    cases h; exact ⟨b, bs', e1, e2, rfl⟩
  · cases h

theorem lst_L {f : Expr → Option E} (hf : ∀ e a, f e = some a → EGood prog w h₀ C d env vs e a) : ∀ (es : List Expr) {as : List E}, mapO f es = some as → LOk prog w h₀ C d env vs es as ∧ AOk prog w h₀ C d env vs es as ∧ NoStars es ∧ as.length = es.length
  | [], as, h => by rw [mapO] at h; cases h; exact ⟨lok_nil, aok_nil, noStars_nil, rfl⟩
  | e :: es, as, h => by
    obtain ⟨a, as', h1, h2, rfl⟩ := mapO_cons h
    have he := hf e a h1
    obtain ⟨i1, i2, i3, i4⟩ := lst_L hf es h2
    exact ⟨lok_cons he.star he.ok i1, aok_cons he.test i2, noStars_cons he.star i3, by simp [i4]⟩
theorem lst_B {f : Expr → Option E} (hf : ∀ e a, f e = some a → EGood prog w h₀ C d env vs e a) : ∀ (e : Expr) (es : List Expr) {as : List E}, mapO f (e :: es) = some as → BOk prog w h₀ C d env vs (e :: es) as
  | e, [], as, h => by
    obtain ⟨a, as', h1, h2, rfl⟩ := mapO_cons h
    rw [mapO] at h2; cases h2
    exact bok_one (hf e a h1).ok
  | e, e' :: es, as, h => by
    obtain ⟨a, as', h1, h2, rfl⟩ := mapO_cons h
    obtain ⟨a', as'', h3, h4, rfl⟩ := mapO_cons h2
    exact bok_cons (hf e a h1).ok (lst_B hf e' es h2)
theorem lst_C {f : Expr → Option E} (hf : ∀ e a, f e = some a → EGood prog w h₀ C d env vs e a) : ∀ (e : Expr) (es : List Expr) (ops : List CmpOp) {as : List E}, ops.length = (e :: es).length → mapO f (e :: es) = some as → COk prog w h₀ C d env vs ops (e :: es) as
  | e, [], ops, as, hl, h => by
    obtain ⟨a, as', h1, h2, rfl⟩ := mapO_cons h
    rw [mapO] at h2; cases h2
    match ops, hl with
    | [op], _ => exact cok_one (hf e a h1).ok
  | e, e' :: es, ops, as, hl, h => by
    obtain ⟨a, as', h1, h2, rfl⟩ := mapO_cons h
    obtain ⟨a', as'', h3, h4, rfl⟩ := mapO_cons h2
    match ops, hl with
    | op :: op' :: ops, hl => exact cok_cons (hf e a h1).ok (lst_C hf e' es (op' :: ops) (by simpa using hl) h2)

theorem freeName_1 (hA : Agree env sc) {x : Str} (h : freeName G sc x = true) : G.lookup x = none ∧ isGlob env.scope x = true := by
  unfold freeName at h
  simp only [Bool.and_eq_true, Option.isNone_iff_eq_none] at h
  exact ⟨h.2, (hA.glob x).trans h.1⟩

theorem bltOf_ok {x : Str} {p : Pr × Value} (h : bltOf x = some p) : PrimOk prog w h₀ p.1 p.2 ∧ x ∈ bltNames ∧ bootBuiltins x = some p.2 ∧ ((∃ T, p.2 = .type T) ∨ ∃ T, p.2 = .builtin T) := by
  unfold bltOf at h
  repeat' split at h
  all_goals first
    | cases h
    | skip
  all_goals (rename_i hx; obtain rfl := beq_iff_eq.mp hx)
  · exact ⟨prim_len, by decide, boot_len, .inr ⟨_, rfl⟩⟩
  · exact ⟨prim_list, by decide, boot_list, .inl ⟨_, rfl⟩⟩
  · exact ⟨prim_tuple, by decide, boot_tuple, .inl ⟨_, rfl⟩⟩
  · exact ⟨prim_str, by decide, boot_str, .inl ⟨_, rfl⟩⟩
  · exact ⟨prim_int, by decide, boot_int, .inl ⟨_, rfl⟩⟩
  · exact ⟨prim_min, by decide, boot_min, .inr ⟨_, rfl⟩⟩
  · exact ⟨prim_max, by decide, boot_max, .inr ⟨_, rfl⟩⟩
theorem tyOf_ok {x : Str} {t : Ty} (h : tyOf x = some t) : x ∈ bltNames ∧ bootBuiltins x = some (.type (tyName t)) := by
  unfold tyOf at h
  repeat' split at h
  all_goals first
    | cases h
    | skip
  all_goals (rename_i hx; obtain rfl := beq_iff_eq.mp hx)
  · exact ⟨by decide, boot_int⟩
  · exact ⟨by decide, boot_bool⟩
  · exact ⟨by decide, boot_str⟩
  · exact ⟨by decide, boot_tuple⟩
  · exact ⟨by decide, boot_list⟩

theorem lst_T {f : Expr → Option E} (hf : ∀ e a, f e = some a → EGood prog w h₀ C d env vs e a) : ∀ (es : List Expr) {as : List E}, mapO f es = some as → TsOk prog w h₀ C d env vs es as
  | [], as, h => by rw [mapO] at h; cases h; exact tsok_nil
  | e :: es, as, h => by
    obtain ⟨a, as', h1, h2, rfl⟩ := mapO_cons h
    exact tsok_cons (hf e a h1).test (lst_T hf es h2)

theorem rSrc_ok (g : Gnd h₀ G fa mg mb) (hA : Agree env sc) {f : Expr → Option E} (ih : ∀ e a, f e = some a → EGood prog w h₀ C d env vs e a) {t e : Expr} {k : SrcK} {as : List E} (h : rSrc G sc f t e = some (k, as)) : SrcOk prog w h₀ C d env vs e k as t ∧ ∀ x, foldedSetIterable e env x = pure x := by
  unfold rSrc at h
  split at h
  · rename_i x pf a as' pos
    refine ⟨?_, fun _ => rfl⟩
    split at h
    · rename_i hx
      obtain rfl := beq_iff_eq.mp hx
      split at h
      · rename_i hf
        obtain ⟨xs, hxs, e⟩ := Option.map_eq_some_iff.mp h
        cases e
        obtain ⟨f1, f2⟩ := freeName_1 hA hf
        obtain ⟨h1, _, h3, _⟩ := lst_L ih _ hxs
        obtain ⟨b, _, hb, _, _⟩ := mapO_cons hxs
        exact src_range g f1 f2 (ih _ _ hb).star h3 h1
      · cases h
    · split at h
      · rename_i hx
        obtain rfl := beq_iff_eq.mp hx
        split at h
        · rename_i hf
          simp only [Bool.and_eq_true, List.isEmpty_iff] at hf
          obtain ⟨⟨hf, ht⟩, rfl⟩ := hf
          obtain ⟨xs, hxs, e⟩ := Option.map_eq_some_iff.mp h
          cases e
          obtain ⟨f1, f2⟩ := freeName_1 hA hf
          obtain ⟨h1, _, h3, _⟩ := lst_L ih _ hxs
          obtain ⟨b, bs, hb, hbs, rfl⟩ := mapO_cons hxs
          rw [mapO] at hbs; cases hbs
          cases t <;> first | exact src_enum g f1 f2 (ih _ _ hb).star h1 | (exfalso; cases ht)
        · cases h
      · obtain ⟨b, hb, e⟩ := Option.map_eq_some_iff.mp h
        cases e
        exact src_plain (ih _ _ hb).ok
  · split at h
    · cases h
    · rename_i hs
      obtain ⟨b, hb, e⟩ := Option.map_eq_some_iff.mp h
      cases e
      exact ⟨src_plain (ih _ _ hb).ok, notSet_of (by simpa using hs) env⟩

/-- what a comprehension's reading gives -/
structure CompRd (prog : Program) (w : World) (h₀ : Heap) (C : Oracle) (d : Nat) (env : Env) (vs : Vs) (elt : Expr) (x : Str) (px : Pos) (iter : Expr) (ifs : List Expr) (csc : Scope) (nx : Nat) (a : E) (k : SrcK) (as cs : List E) : Prop where
  sc : CompSc env vs csc (compVars csc vs x nx) x nx
  fold : ∀ x, foldedSetIterable iter env x = pure x
  src : SrcOk prog w h₀ C d env vs iter k as (.Name x px)
  kind : k ≠ .enum
  elt : ∀ L, EOk prog w h₀ C d (compEnvC csc (clGo env csc.names []) L env) (compVars csc vs x nx) elt a
  ifs : ∀ L, TsOk prog w h₀ C d (compEnvC csc (clGo env csc.names []) L env) (compVars csc vs x nx) ifs cs

theorem rComp_ok (g : Gnd h₀ G fa mg mb) {nx : Nat} {f : Scope → Vs → Expr → Option E} (ih : ∀ sc vs e a, f sc vs e = some a → ∀ env, Agree env sc → EGood prog w h₀ C d env vs e a) (hA : Agree env sc) {elt : Expr} {x : Str} {px : Pos} {iter : Expr} {ifs : List Expr} {csc : Scope} {b : E}
    (h : rComp G nx f sc vs elt x px iter ifs csc = some b) : ∃ a k as cs, b = .comp a (.var nx) k as cs ∧ CompRd prog w h₀ C d env vs elt x px iter ifs csc nx a k as cs := by
  unfold rComp at h
  split at h
  · rename_i hc
    split at h
    · rename_i k as a cs h1 h2 h3
      split at h
      · cases h
      · rename_i hk
        cases h
        obtain ⟨s1, s2⟩ := rSrc_ok g hA (fun e a q => ih sc vs e a q env hA) h1
        exact ⟨a, k, as, cs, rfl, comp_sc hA.cf hc, s2, s1, by simpa using hk, fun L => (ih _ _ _ _ h2 _ Agree.comp).ok, fun L => lst_T (fun e a q => ih _ _ e a q _ Agree.comp) _ h3⟩
    · cases h
  · cases h

theorem rCall_ok (g : Gnd h₀ G fa mg mb) (hC : CSound prog w h₀ C d (G := G) fa) (hA : Agree env sc) {f : Expr → Option E} (ih : ∀ e a, f e = some a → EGood prog w h₀ C d env vs e a) {x : Str} {args : List Expr} {pf pos : Pos} {a : E}
    (h : rCall G sc f x args = some a) : EGood prog w h₀ C d env vs (.Call (.Name x pf) args [] pos) a := by
  unfold rCall at h
  split at h
  · cases h
  · rename_i e es
    split at h
    · rename_i hx
      obtain rfl := beq_iff_eq.mp hx
      split at h
      · rename_i t pt
        split at h
        · rename_i hfr
          simp only [Bool.and_eq_true] at hfr
          split at h <;> cases h
          rename_i ty b hty hb
          obtain ⟨f1, f2⟩ := freeName_1 hA hfr.1
          obtain ⟨f3, f4⟩ := freeName_1 hA hfr.2
          obtain ⟨t1, t2⟩ := tyOf_ok hty
          exact gv (fun _ _ => rfl) (fun _ _ => rfl) (fun _ _ => rfl) rfl (ok_isinst g f1 f2 f3 t1 t2 f4 (ih _ _ hb).star (ih _ _ hb).ok)
        · cases h
      · cases h
    · split at h
      · rename_i hgl
        simp only [Bool.and_eq_true] at hgl
        split at h
        · rename_i xs hxs
          obtain ⟨h1, _, h3, h4⟩ := lst_L ih _ hxs
          obtain ⟨b, bs, hb, _, _⟩ := mapO_cons hxs
          split at h
          · rename_i i hi
            cases h
            exact gv (fun _ _ => rfl) (fun _ _ => rfl) (fun _ _ => rfl) rfl (ok_call g hC hi ((hA.glob x).trans hgl.1) (nameOk_1 hgl.2) (ih _ _ hb).star h1)
          · cases h
          · rename_i hnone
            obtain ⟨p, hp, rfl⟩ := Option.map_eq_some_iff.mp h
            obtain ⟨b1, b2, b3, b4⟩ := bltOf_ok (prog := prog) (w := w) (h₀ := h₀) hp
            exact gv (fun _ _ => rfl) (fun _ _ => rfl) (fun _ _ => rfl) rfl (ok_blt g b1 hnone b2 b3 b4 ((hA.glob x).trans hgl.1) (ih _ _ hb).star h3 h1)
        · cases h
      · cases h
theorem rSub_ok (g : Gnd h₀ G fa mg mb) (hA : Agree env sc) {f : Expr → Option E} (ih : ∀ e a, f e = some a → EGood prog w h₀ C d env vs e a) {l r : Expr} {pos : Pos} {a : E} (h : rSub G sc vs f l r = some a) : EGood prog w h₀ C d env vs (.Subscript l r pos) a := by
  unfold rSub at h
  split at h
  · split at h
    · split at h <;> cases h
      rename_i x y z hx hy hz
      have ho : ∀ (o : Option Expr) (z : Option E), rOpt f o = some z → OOk prog w h₀ C d env vs o z := fun o z hz => by
        unfold rOpt at hz
        split at hz
        · cases hz; exact ook_none
        · obtain ⟨b, hb, rfl⟩ := Option.map_eq_some_iff.mp hz
          exact ook_some (ih _ _ hb).ok
      exact gv (fun _ _ => rfl) (fun _ _ => rfl) (fun _ _ => rfl) rfl (ok_slice (fun _ _ => rfl) (rName_ok g hA hx).ok (ho _ _ hy) (ho _ _ hz))
    · cases h
  · split at h <;> cases h
    rename_i x y hx hy
    exact gv (fun _ _ => rfl) (fun _ _ => rfl) (fun _ _ => rfl) rfl (ok_sub (ih _ _ hy).slice (ih _ _ hx).ok (ih _ _ hy).ok)

theorem rE_ok (g : Gnd h₀ G fa mg mb) (hC : CSound prog w h₀ C d (G := G) fa) {nx : Nat} : ∀ (n : Nat) (sc : Scope) (vs : Vs) (e : Expr) (a : E), rE G nx n sc vs e = some a → ∀ (env : Env), Agree env sc → EGood prog w h₀ C d env vs e a
  | 0, _, _, _, _, h, _, _ => by rw [rE] at h; cases h
  | n + 1, sc, vs, e, a, h, env, hA => by
    have ihs : ∀ sc vs e a, rE G nx n sc vs e = some a → ∀ env, Agree env sc → EGood prog w h₀ C d env vs e a := fun sc vs e a h env hA => rE_ok g hC n sc vs e a h env hA
    have ih : ∀ e a, rE G nx n sc vs e = some a → EGood prog w h₀ C d env vs e a := fun e a h => rE_ok g hC n sc vs e a h env hA
    rw [rE] at h
    unfold rStep at h
    dsimp only at h
    split at h
    · split at h
      · obtain ⟨a', k, as, cs, rfl, c⟩ := rComp_ok g ihs hA h
        exact gv (fun _ _ => rfl) (fun _ _ => rfl) (fun _ _ => rfl) rfl (ok_comp c.sc c.fold c.src c.kind c.elt c.ifs)
      · cases h
    · -- constants
      rename_i c k p
      unfold rConst at h
      split at h <;> cases h
      · exact gv (fun _ _ => rfl) (fun _ _ => rfl) (fun _ _ => rfl) rfl ok_none
      · exact gv (fun _ _ => rfl) (fun _ _ => rfl) (fun _ _ => rfl) rfl ok_bool
      · exact gv (fun _ _ => rfl) (fun _ _ => rfl) (fun _ _ => rfl) rfl ok_int
      · exact gv (fun _ _ => rfl) (fun _ _ => rfl) (fun _ _ => rfl) rfl ok_str
    · exact rName_ok g hA h
    · split at h <;> cases h
      rename_i o x y ho hl hr
      exact gv (fun _ _ => rfl) (fun _ _ => rfl) (fun _ _ => rfl) rfl (ok_bin ho (ih _ _ hl).ok (ih _ _ hr).ok)
    · split at h
      · obtain ⟨x, hx, rfl⟩ := Option.map_eq_some_iff.mp h
        exact gv (fun _ _ => rfl) (fun _ _ => rfl) (fun _ _ => rfl) rfl (ok_neg (ih _ _ hx).ok)
      · obtain ⟨x, hx, rfl⟩ := Option.map_eq_some_iff.mp h
        exact ⟨fun _ _ => rfl, fun _ _ => rfl, ok_not (ih _ _ hx).ok, tok_not (ih _ _ hx).test⟩
      · cases h
    · rename_i op es p
      split at h
      · cases h
      · split at h
        · obtain ⟨x, hx, rfl⟩ := Option.map_eq_some_iff.mp h
          obtain ⟨_, h2, _⟩ := lst_L ih es hx
          match es, hx, h2 with
          | e :: es, hx, h2 => exact ⟨fun _ _ => rfl, fun _ _ => rfl, ok_and (lst_B ih e es hx), tok_and h2⟩
          | [], _, _ => simp at *
        · obtain ⟨x, hx, rfl⟩ := Option.map_eq_some_iff.mp h
          obtain ⟨_, h2, _⟩ := lst_L ih es hx
          match es, hx, h2 with
          | e :: es, hx, h2 => exact ⟨fun _ _ => rfl, fun _ _ => rfl, ok_or (lst_B ih e es hx), tok_or h2⟩
          | [], _, _ => simp at *
    · rename_i l ops es p
      split at h
      · cases h
      · rename_i hc
        simp only [Bool.or_eq_true, decide_eq_true_eq, not_or, Bool.not_eq_true, Decidable.not_not] at hc
        split at h <;> cases h
        rename_i x ys hx hys
        match es, hc, hys with
        | e :: es, hc, hys => exact ⟨fun _ _ => rfl, fun _ _ => rfl, ok_cmp hc.1.1 (ih _ _ hx).ok (lst_C ih e es ops hc.2 hys), tok_cmp hc.1.1 (ih _ _ hx).ok (lst_C ih e es ops hc.2 hys)⟩
        | [], hc, _ => simp at hc
    · split at h
      · rename_i hz
        obtain ⟨x, hx, rfl⟩ := Option.map_eq_some_iff.mp h
        obtain ⟨h1, _, _, h4⟩ := lst_L ih _ hx
        exact gv (fun _ _ => rfl) (fun _ _ => rfl) (fun _ _ => rfl) rfl (ok_tup h1 (h4 ▸ hz))
      · cases h
    · split at h
      · rename_i hz
        obtain ⟨x, hx, rfl⟩ := Option.map_eq_some_iff.mp h
        obtain ⟨h1, _, _, h4⟩ := lst_L ih _ hx
        exact gv (fun _ _ => rfl) (fun _ _ => rfl) (fun _ _ => rfl) rfl (ok_list h1 (h4 ▸ hz))
      · cases h
    · exact rSub_ok g hA ih h
    · split at h
      · split at h
        · exact rCall_ok g hC hA ih h
        · split at h
          · rename_i o po a apos
            split at h
            · rename_i hm
              simp only [Bool.and_eq_true] at hm
              obtain rfl := beq_iff_eq.mp hm.1
              split at h <;> cases h
              rename_i x y hx hy
              exact gv (fun _ _ => rfl) (fun _ _ => rfl) (fun _ _ => rfl) rfl (ok_append (fun _ => rfl) hm.2 (ih _ _ hy).star (rName_ok g hA hx).ok (ih _ _ hy).ok)
            · cases h
          · cases h
        · cases h
      · cases h
    · cases h
end
end Mine

/-! MReadS -/
namespace Mine
open PySem PySem.Calls

noncomputable def isLC : Expr → Bool
  | .ListComp .. | .SetComp .. | .DictComp .. => true
  | _ => false
theorem noComp_of {e : Expr} (h : isLC e = false) : NoComp e := by
  cases e <;> first | exact fun _ _ _ => rfl | cases h
theorem noSwap {t value : Expr} {env : Env} (h : isTup value = false) : swappedStores [t] value env = pure none := by
  unfold swappedStores
  cases t <;> first | rfl | (cases value <;> first | rfl | (exfalso; cases h))

noncomputable def rAssign (G : GlT) (nx : Nat) (sc : Scope) (vs : Vs) (n : Nat) (t value : Expr) : Option S :=
  match value with
  | .ListComp elt gs csc _ => (match gs, t with
    | [⟨.Name x px, iter, ifs, 0⟩], .Name y py => (match rPat sc vs (.Name y py), rComp G nx (rE G nx n) sc vs elt x px iter ifs csc with
      | some (.var i), some a => some (.assign (.var i) a)
      | _, _ => none)
    | _, _ => none)
  | value => if isLC value then none else (match t with
    | .Subscript o i _ => (match rE G nx n sc vs o, rE G nx n sc vs i, rE G nx n sc vs value with
      | some a, some b, some e => some (.setItem a b e)
      | _, _, _ => none)
    | t => if isTup value && isTup t then none else (match rPat sc vs t, rE G nx n sc vs value with
      | some p, some a => some (.assign p a)
      | _, _ => none))
noncomputable def rSStep (G : GlT) (nx : Nat) (sc : Scope) (vs : Vs) (n : Nat) (f : Stmt → Option S) (st : Stmt) : Option S :=
  match st with
  | .Expr e _ => if isLC e then none else (rE G nx n sc vs e).map S.expr
  | .Return o _ => (match o with
    | none => some (.ret none)
    | some e => (rE G nx n sc vs e).map fun a => .ret (some a))
  | .Assign ts value _ => (match ts with
    | [t] => rAssign G nx sc vs n t value
    | _ => none)
  | .If test b o _ => (match rE G nx n sc vs test, mapO f b, mapO f o with
    | some a, some b', some o' => some (.if_ a b' o')
    | _, _, _ => none)
  | .For t iter body els _ => (match els with
    | [] => (match rPat sc vs t, rSrc G sc (rE G nx n sc vs) t iter, mapO f body with
      | some p, some (k, as), some b => some (.for_ p k as b)
      | _, _, _ => none)
    | _ => none)
  | .Pass _ => some .pass
  | _ => none
noncomputable def rS (G : GlT) (nx : Nat) (sc : Scope) (vs : Vs) (m : Nat) : Nat → Stmt → Option S
  | 0, _ => none
  | n + 1, st => rSStep G nx sc vs m (rS G nx sc vs m n) st

section
variable {prog : Program} {w : World} {h₀ : Heap} {C : Oracle} {d : Nat} {env : Env} {vs : Vs} {G : GlT} {fa : Nat → Addr} {mg mb : Str → Option Value} {sc : Scope}

theorem rNames_ok (hs : env.scope = sc) : ∀ (es : List Expr) {is : List Nat}, rNames sc vs es = some is → CNames env vs es is
  | [], is, h => by rw [rNames] at h; cases h; exact .nil
  | e :: es, is, h => by
    unfold rNames at h
    split at h
    · rename_i he; cases he
    · rename_i x p r he
      cases he
      split at h
      · rename_i ho
        split at h
        · rename_i i js h1 h2
          cases h
          refine .cons h1 ?_ (rNames_ok hs _ h2)
          have := isOwn_kind ho
          rw [← hs] at this; exact this
        · cases h
      · cases h
    · cases h
theorem rPat_ok (hs : env.scope = sc) {t : Expr} {p : Pat} (h : rPat sc vs t = some p) : CPat env vs t p := by
  unfold rPat at h
  split at h
  · split at h
    · rename_i ho
      obtain ⟨i, hi, rfl⟩ := Option.map_eq_some_iff.mp h
      refine .name hi ?_
      have := isOwn_kind ho
      rw [← hs] at this; exact this
    · cases h
  · obtain ⟨is, hi, rfl⟩ := Option.map_eq_some_iff.mp h
    exact .tup (rNames_ok hs _ hi)
  · cases h

theorem lst_S {f : Stmt → Option S} (hf : ∀ e a, f e = some a → SOk prog w h₀ C d env vs e a) : ∀ (es : List Stmt) {as : List S}, mapO f es = some as → SsOk prog w h₀ C d env vs es as
  | [], as, h => by rw [mapO] at h; cases h; exact ssok_nil
  | e :: es, as, h => by
    obtain ⟨a, as', h1, h2, rfl⟩ := mapO_cons h
    exact ssok_cons (hf e a h1) (lst_S hf es h2)

theorem rAssign_ok (g : Gnd h₀ G fa mg mb) (hC : CSound prog w h₀ C d (G := G) fa) (hs : env.scope = sc) {m nx : Nat} {t value : Expr} {p : Pos} {a : S} (h : rAssign G nx sc vs m t value = some a) : SOk prog w h₀ C d env vs (.Assign [t] value p) a := by
  have hA := Agree.of_eq hs
  have ih : ∀ e a, rE G nx m sc vs e = some a → EGood prog w h₀ C d env vs e a := fun e a h => rE_ok g hC m sc vs e a h env hA
  unfold rAssign at h
  split at h
  · rename_i elt gs csc pc
    split at h
    · rename_i x px iter ifs y py
      split at h
      · rename_i i a' hq hr
        cases h
        have hp := rPat_ok (vs := vs) hs hq
        obtain ⟨b, k, as, cs, rfl, c⟩ := rComp_ok g (fun sc vs e a h env hA => rE_ok g hC m sc vs e a h env hA) hA hr
        cases hp with
        | name hy hk =>
          have hst : (assignEach [.Name y py] env).map (·.2) = [assign (.Name y py) env] := rfl
          have key : ∃ b, swapsWith (.ListComp elt [⟨.Name x px, iter, ifs, 0⟩] csc pc) (some (.Name y py)) p.line env = pure b ∧ (b = true → env.kindOf y = some .local) := by
            refine ⟨_, rfl, fun e => ?_⟩
            simp only [Bool.and_eq_true, beq_iff_eq] at e
            exact e.1.1.2
          obtain ⟨b, hb, hl⟩ := key
          cases b with
          | true => exact sok_comp c.sc c.fold c.src c.kind c.elt c.ifs hy (hl rfl) hb
          | false => exact sok_assign hb (noSwap rfl) hst (.name hy hk) (ok_comp c.sc c.fold c.src c.kind c.elt c.ifs)
      · cases h
    · cases h
  · split at h
    · cases h
    · rename_i hl
      have hl : isLC value = false := by simpa using hl
      split at h
      · split at h <;> cases h
        rename_i a' b' e' ha hb he
        exact sok_setItem (noComp_of hl _ _ _) (ih _ _ ha).ok (ih _ _ hb).ok (ih _ _ he).ok
      · split at h
        · cases h
        · rename_i ht
          simp only [Bool.and_eq_true, not_and, Bool.not_eq_true] at ht
          split at h <;> cases h
          rename_i q b hq hb
          have hp := rPat_ok (vs := vs) hs hq
          have hst : (assignEach [t] env).map (·.2) = [assign t env] := by cases hp <;> rfl
          refine sok_assign (noComp_of hl _ _ _) ?_ hst hp (ih _ _ hb).ok
          cases hv : isTup value with
          | false => exact noSwap hv
          | true =>
            have ht := ht hv
            unfold swappedStores
            cases hp with
            | name => rfl
            | tup => cases ht

theorem rS_ok (g : Gnd h₀ G fa mg mb) (hC : CSound prog w h₀ C d (G := G) fa) (hs : env.scope = sc) {m nx : Nat} : ∀ (n : Nat) (st : Stmt) (a : S), rS G nx sc vs m n st = some a → SOk prog w h₀ C d env vs st a
  | 0, _, _, h => by rw [rS] at h; cases h
  | n + 1, st, a, h => by
    have hA := Agree.of_eq hs
    have ih : ∀ e a, rE G nx m sc vs e = some a → EGood prog w h₀ C d env vs e a := fun e a h => rE_ok g hC m sc vs e a h env hA
    have ihs : ∀ e a, rS G nx sc vs m n e = some a → SOk prog w h₀ C d env vs e a := fun e a h => rS_ok g hC hs n e a h
    rw [rS] at h
    unfold rSStep at h
    split at h
    · split at h
      · cases h
      · rename_i hl
        obtain ⟨b, hb, rfl⟩ := Option.map_eq_some_iff.mp h
        exact sok_expr (noComp_of (by simpa using hl)) (ih _ _ hb).ok
    · split at h
      · cases h; exact sok_retNone
      · obtain ⟨b, hb, rfl⟩ := Option.map_eq_some_iff.mp h
        exact sok_ret (ih _ _ hb).ok
    · split at h
      · exact rAssign_ok g hC hs h
      · cases h
    · split at h <;> cases h
      rename_i a' b' o' ha hb ho
      exact sok_if (ih _ _ ha).test (lst_S ihs _ hb) (lst_S ihs _ ho)
    · split at h
      · split at h <;> cases h
        rename_i q k as b' hq hsr hb
        obtain ⟨s1, s2⟩ := rSrc_ok g hA ih hsr
        exact sok_for s2 (rPat_ok (vs := vs) hs hq) s1 (lst_S ihs _ hb)
      · cases h
    · cases h; exact sok_pass
    · cases h

/-- a def's reading: so many slots behind its own names -/
noncomputable def rFn (G : GlT) (params : Arguments) (body : List Stmt) (sc : Scope) (extra : Nat) : Option Fn :=
  match plainArgs params with
  | none => none
  | some args =>
    if decide ((args.map (·.arg)).Nodup) && ((ownNames (args.map (·.arg)) sc).all (isOwn sc)) && (sc.kind == .function) && !sc.isCoroutine && !sc.isGenerator then
      (mapO (rS G (ownNames (args.map (·.arg)) sc).length sc (slotsFrom 0 (ownNames (args.map (·.arg)) sc)) 40 20) body).map fun b => ⟨args.length, args.length + extra, b⟩
    else none

theorem rFn_ok (g : Gnd h₀ G fa mg mb) (hC : CSound prog w h₀ C d (G := G) fa) {params : Arguments} {body : List Stmt} {sc : Scope} {extra : Nat} {fn : Fn} (h : rFn G params body sc extra = some fn) :
    ∃ args vs, DefOk params sc args vs ∧ fn.params = args.length ∧ ∀ env, env.scope = sc → SsOk prog w h₀ C d env vs body fn.body := by
  unfold rFn at h
  split at h
  · cases h
  · rename_i args ha
    split at h
    · rename_i hc
      simp only [Bool.and_eq_true, decide_eq_true_eq, Bool.not_eq_true', List.all_eq_true, beq_iff_eq] at hc
      obtain ⟨⟨⟨⟨c1, c2⟩, c3⟩, c4⟩, c5⟩ := hc
      obtain ⟨b, hb, rfl⟩ := Option.map_eq_some_iff.mp h
      exact ⟨args, _, ⟨ha, c1, rfl, c2, c3, c4, c5⟩, rfl, fun env he => lst_S (rS_ok g hC he 20) _ hb⟩
    · cases h
end

/-- the text's own functions, read -/
structure Funs (h₀ : Heap) (G : GlT) (fa : Nat → Addr) (P : List Fn) : Prop where
  fn : ∀ x i fn, G.lookup x = some (.fn i) → P[i]? = some fn → ∃ o name params body sc pm code doc extra, h₀.get? (fa i) = some o ∧ o.data = .func (docDef name params body sc pm code doc) ∧ h₀.CodeRec code name ∧ rFn G params body sc extra = some fn

theorem csound {prog : Program} {w : World} {h₀ : Heap} {G : GlT} {fa : Nat → Addr} {mg mb : Str → Option Value} {P : List Fn} (g : Gnd h₀ G fa mg mb) (Fs : Funs h₀ G fa P) : ∀ d, CSound prog w h₀ (callW P d) d (G := G) fa
  | 0 => fun x i hx A s φ σ Vs vals Q X R S rl q => q.elim
  | d + 1 => fun x i hx A s φ σ Vs vals Q X R S rl q => by
    have hC := csound (prog := prog) (w := w) g Fs d
    simp only [callW] at q
    split at q
    · rename_i fn hfn
      obtain ⟨o, name, params, body, sc, pm, code, doc, extra, ho, hd, hcd, hr⟩ := Fs.fn x i fn hx hfn
      obtain ⟨args, vs, D, hp, hB⟩ := rFn_ok g hC hr
      refine call_ok (fd := docDef name params body sc pm code doc) (body := body) (body' := fn.body) (vs := vs) D rfl rfl rfl rfl rfl R (S.keep _ _ ho) hd (g.nolimit.keeps S.keep) (hcd.keeps S.keep) S rl (by rw [← hp]; exact q.1.symm) hB q.2
    · exact q.elim
end Mine

/-! MHead -/
namespace Mine
open PySem PySem.Calls PySem.W PyProof.Rows

noncomputable def glFrom : Nat → List DefRec → GlT
  | _, [] => []
  | n, d :: r => (d.name, .fn n) :: glFrom (n + 1) r

theorem glFrom_get : ∀ (ds : List DefRec) (n : Nat) {x : Str} {i : Nat}, (glFrom n ds).lookup x = some (.fn i) → n ≤ i ∧ ∃ d, ds[i - n]? = some d ∧ d.name = x
  | [], _, _, _, h => by simp [glFrom] at h
  | y :: r, n, x, i, h => by
    rw [glFrom, List.lookup_cons] at h
    cases e : x == y.name with
    | true =>
      rw [e] at h
      simp only [Option.some.injEq, Gl.fn.injEq] at h
      subst h
      exact ⟨Nat.le_refl _, y, by simp, (beq_iff_eq.mp e).symm⟩
    | false =>
      rw [e] at h
      obtain ⟨h1, d, h2, h3⟩ := glFrom_get r (n + 1) h
      refine ⟨by omega, d, ?_, h3⟩
      rw [show i - n = (i - (n + 1)) + 1 by omega]
      simpa using h2
/-- the text's constants -/
noncomputable def glLits (p : Program) : GlT := (litsOf p).filterMap fun x => match valOf p x.1 with
  | some (.str z) => some (x.1, .str z)
  | some (.int i) => some (x.1, .int i)
  | _ => none
noncomputable def glAll (p : Program) : GlT := glFrom 0 (recsOf p) ++ glLits p
theorem lookup_app {α : Type} {x : Str} : ∀ (a b : List (Str × α)) {v : α}, (a ++ b).lookup x = some v → a.lookup x = some v ∨ b.lookup x = some v
  | [], _, _, h => .inr h
  | (y, w) :: a, b, v, h => by
    rw [List.cons_append, List.lookup_cons] at h
    rw [List.lookup_cons]
    split at h
    · exact .inl h
    · exact lookup_app a b h
theorem glLits_get {p : Program} {x : Str} {g : Gl} (h : (glLits p).lookup x = some g) : (∃ z, g = .str z ∧ valOf p x = some (.str z)) ∨ ∃ i, g = .int i ∧ valOf p x = some (.int i) := by
  obtain ⟨y, _, e⟩ := List.mem_filterMap.mp (mem_of_lookup h)
  split at e
  · cases e; rename_i z hz; exact .inl ⟨z, rfl, hz⟩
  · cases e; rename_i z hz; exact .inr ⟨z, rfl, hz⟩
  · cases e
theorem glFrom_fn : ∀ (ds : List DefRec) (n : Nat) {x : Str} {g : Gl}, (glFrom n ds).lookup x = some g → ∃ i, g = .fn i
  | [], _, _, _, h => by simp [glFrom] at h
  | y :: r, n, x, i, h => by
    rw [glFrom, List.lookup_cons] at h
    split at h
    · cases h; exact ⟨n, rfl⟩
    · exact glFrom_fn r (n + 1) h

theorem glAll_fn {p : Program} {x : Str} {i : Nat} (h : (glAll p).lookup x = some (.fn i)) : ∃ d, (recsOf p)[i]? = some d ∧ d.name = x := by
  rcases lookup_app _ _ h with h | h
  · obtain ⟨_, d, hd, e⟩ := glFrom_get _ 0 h
    exact ⟨d, by simpa using hd, e⟩
  · rcases glLits_get h with ⟨z, e, _⟩ | ⟨z, e, _⟩ <;> cases e
theorem glAll_str {p : Program} {x z : Str} (h : (glAll p).lookup x = some (.str z)) : valOf p x = some (.str z) := by
  rcases lookup_app _ _ h with h | h
  · obtain ⟨i, e⟩ := glFrom_fn _ 0 h; cases e
  · rcases glLits_get h with ⟨z, e, hz⟩ | ⟨z, e, _⟩ <;> cases e
    exact hz
theorem glAll_int {p : Program} {x : Str} {z : Int} (h : (glAll p).lookup x = some (.int z)) : valOf p x = some (.int z) := by
  rcases lookup_app _ _ h with h | h
  · obtain ⟨i, e⟩ := glFrom_fn _ 0 h; cases e
  · rcases glLits_get h with ⟨z, e, _⟩ | ⟨z, e, hz⟩ <;> cases e
    exact hz

/-- where the functions lie -/
noncomputable def addrOf (mg : Str → Option Value) (ds : List DefRec) (i : Nat) : Addr := match ds[i]? with
  | some d => (match mg d.name with | some (.ref a) => a | _ => 0)
  | none => 0

noncomputable def readAll (G : GlT) (ds : List DefRec) (extra : Nat) : Option (List Fn) := mapO (fun d => rFn G d.params d.body d.scope (((ownNames ((plainArgs d.params).getD [] |>.map (·.arg)) d.scope).length - ((plainArgs d.params).getD []).length) + extra)) ds

theorem mapO_get {α β : Type} {f : α → Option β} : ∀ (as : List α) {bs : List β} {i : Nat} {b : β}, mapO f as = some bs → bs[i]? = some b → ∃ a, as[i]? = some a ∧ f a = some b
  | [], bs, i, b, h, hb => by rw [mapO] at h; cases h; simp at hb
  | a :: as, bs, i, b, h, hb => by
    obtain ⟨b', bs', h1, h2, rfl⟩ := mapO_cons h
    cases i with
    | zero => simp at hb; subst hb; exact ⟨a, rfl, h1⟩
    | succ i => simpa using mapO_get as h2 (by simpa using hb)

noncomputable def bltFree (p : Program) (loose : List Str) : Bool :=
  bltNames.all fun x => !(startupNames.contains x || loose.contains x || ((recsOf p).map (·.name)).contains x || ((litsOf p).map (·.1)).contains x || ((clssOf p loose).map (·.name)).contains x) || ((glAll p).lookup x).isSome

theorem gnd_of {p : Program} {loose : List Str} {mean : ExcName → Option Value} {mg mb : Str → Option Value} {h : Heap} (T : Top p loose mean mg mb h) (hb : bltFree p loose = true) : Gnd h (glAll p) (addrOf mg (recsOf p)) mg mb where
  ns := T.g
  nsb := T.b
  nolimit := T.nolimit
  fn := fun x i hx => by
    obtain ⟨d, hd, rfl⟩ := glAll_fn hx
    obtain ⟨a, o, pm, cd, doc, h1, _⟩ := T.fn d (List.mem_of_getElem? hd)
    rw [h1]
    unfold addrOf
    rw [hd]; simp only [h1]
  isfn := fun x i hx => by
    obtain ⟨d, hd, rfl⟩ := glAll_fn hx
    obtain ⟨a, o, pm, cd, doc, h1, h2, h3, _⟩ := T.fn d (List.mem_of_getElem? hd)
    refine ⟨o, _, ?_, h3⟩
    unfold addrOf
    rw [hd]; simp only [h1]; exact h2
  str := fun x z hx => by
    obtain ⟨v, hv, r⟩ := T.const x _ (glAll_str hx)
    cases r h; exact ⟨_, hv⟩
  int := fun x z hx => by
    obtain ⟨v, hv, r⟩ := T.const x _ (glAll_int hx)
    cases r h; exact ⟨_, hv⟩
  blt := fun x hx hn => by
    unfold bltFree at hb
    have := List.all_eq_true.mp hb x hx
    rw [hn] at this
    simp only [Option.isSome_none, Bool.or_false, Bool.not_eq_true', Bool.or_eq_false_iff] at this
    obtain ⟨⟨⟨⟨a1, a2⟩, a3⟩, a4⟩, a5⟩ := this
    refine T.free x ?_ ?_ ?_ ?_ ?_ <;> (intro m; simp_all)
  bv := T.builtins

theorem funs_of {p : Program} {loose : List Str} {mean : ExcName → Option Value} {mg mb : Str → Option Value} {h : Heap} {P : List Fn} {extra : Nat} (T : Top p loose mean mg mb h) (hP : readAll (glAll p) (recsOf p) extra = some P) : Funs h (glAll p) (addrOf mg (recsOf p)) P where
  fn := fun x i fn hx hfn => by
    obtain ⟨d, hd, rfl⟩ := glAll_fn hx
    obtain ⟨a, o, pm, cd, doc, h1, h2, h3, h4⟩ := T.fn d (List.mem_of_getElem? hd)
    obtain ⟨d', hd', hr⟩ := mapO_get _ hP hfn
    rw [hd] at hd'; cases hd'
    refine ⟨o, d.name, d.params, d.body, d.scope, pm, cd, doc, _, ?_, h3, h4, hr⟩
    unfold addrOf
    rw [hd]; simp only [h1]; exact h2

theorem relL_ints {h : Heap} {φ : List Addr} {vs : List Value} {xs : List Int} (x : IntsAre vs xs) : RelL h φ (xs.map V.int) vs := by
  induction x with
  | nil => simp only [List.map_nil, RelL]
  | cons n t _ ih => simp only [List.map_cons, RelL, Rel]; exact ⟨⟨t, rfl⟩, ih⟩

theorem law_go {p q : Program} {w : World} {loose : List Str} {mean : ExcName → Option Value} {mg mb : Str → Option Value} {s₁ : Shared} {P : List Fn} {extra : Nat} {c : ClaimW} {cl : Str → Option Addr} {args : List WData} {a l : Addr} {vs : List Value} {xs : List Int} {i d : Nat} {name : Str}
    (T : Top q loose mean mg mb s₁.heap) (hb : bltFree q loose = true) (hP : readAll (glAll q) (recsOf q) extra = some P) (hi : (glAll q).lookup name = some (.fn i)) (hd : d ≤ 500) (hmg : mg name = some (.ref a)) (hg : s₁.gens = #[])
    (hl : s₁.heap.get? l = some { cls := .type "list", data := .seq vs.toArray }) (hv : IntsAre vs xs) (hz : xs.length ≤ 63)
    (hr : ∀ cls, c.raises args cls = false) (hpost : c.post args (.bool true) args = true)
    (plain : callW P d i [.ref 0] [.list (xs.map .int)] (fun v _ => v = .bool true) (fun _ _ => False)) :
    codeAny (model p w) callerA (.call (.ref a) ⟨[.ref l], []⟩) (GoodWG c cl mean args s₁) s₁ := by
  have g := gnd_of T hb
  have Fs := funs_of T hP
  have ha : a = addrOf mg (recsOf q) i := by
    have := g.fn name i hi
    rw [hmg] at this; cases this; rfl
  subst ha
  have S : Sim s₁.heap s₁.heap [l] [.list (xs.map .int)] := by
    refine ⟨fun _ _ e => e, rfl, by simp, fun n b hn => by simp at hn, fun n o e => ?_⟩
    match n, e with
    | 0, e =>
      simp at e; subst e
      exact ⟨l, rfl, vs.toArray, ⟨0, hl⟩, by simpa using relL_ints hv, by simp; omega⟩
    | n + 1, e => simp at e
  have R : ROk callerA d := ⟨rfl, by show 1 + claimMargin + d < 900; unfold claimMargin; omega, by show 4 + 3 * d < 9000; omega⟩
  refine codeAny_mono (csound (prog := p) (w := w) g Fs d name i hi callerA s₁ [l] _ [.ref 0] [.ref l] _ _ R S (by simp only [RelL, Rel]; exact ⟨⟨l, rfl, rfl⟩, trivial⟩) plain) fun r s' y => ?_
  match r, y with
  | .ok (.ret v), y =>
    obtain ⟨φ', σ', V, st, rl, rfl⟩ := y
    rw [Rel] at rl
    subst rl
    refine GoodW.toG ⟨.inl ⟨.bool true, .bool true, [], rfl, hr, .bool true, hpost, fun _ => ⟨List.nodup_nil, fun _ h => by cases h⟩⟩, st.sim.keep, ?_, ?_⟩
    · obtain ⟨h', tk, rfl⟩ := st.only; rfl
    · obtain ⟨h', tk, rfl⟩ := st.only; exact hg
  | .ok .next, y => exact y.elim
  | .ok .brk, y => exact y.elim
  | .ok .cont, y => exact y.elim
  | .error e, y => exact y.elim
theorem well_all {P : Params} {h : Heap} : ∀ {vs : List Value} {xs : List Int}, WellAll P h vs (ofPys (xs.map PyData.int)) → IntsAre vs xs
  | _, [], x => by rw [List.map_nil, ofPys] at x; cases x; exact .nil
  | _, i :: xs, x => by
    rw [List.map_cons, ofPys, ofPy] at x
    cases x with
    | cons a b => cases a; exact .cons i _ (well_all b)
theorem well_ints {P : Params} {h : Heap} {l : Addr} {xs : List Int} (x : Well P h (.ref l) (ofPy (.list (xs.map PyData.int)))) : ∃ vs, h.get? l = some { cls := .type "list", data := .seq vs.toArray } ∧ IntsAre vs xs := by
  rw [ofPy] at x
  cases x with
  | list e a => exact ⟨_, e, well_all a⟩
end Mine

/-! MWp -/
namespace Mine
open PySem

/-! what the abstract machine does, step by step -/
noncomputable def seqK (C : Oracle) (ss : List S) (Q : Post) : Post := fun fl ρ σ => match fl with
  | .next => wpSs C ss ρ σ Q
  | fl => Q fl ρ σ
noncomputable def truthK (σ : Store) (v : V) (K : Bool → Prop) : Prop := match truth σ v with
  | some b => K b
  | Option.none => False
noncomputable def cmpK (σ : Store) (op : COp) (x y : V) (K : Bool → Prop) : Prop := match cmpV σ op x y with
  | some b => K b
  | Option.none => False
noncomputable def bindK (σ : Store) (p : Pat) (v : V) (ρ : List V) (K : List V → Prop) : Prop := match bindTo σ p v ρ with
  | some ρ' => K ρ'
  | Option.none => False
noncomputable def setK (o i v : V) (σ : Store) (K : Store → Prop) : Prop := match setItemV o i v σ with
  | some σ' => K σ'
  | Option.none => False
noncomputable def retK (Q : V → Store → Prop) (X : XPost) : Post := fun fl _ σ' => match fl with
  | .ret v => Q v σ'
  | .next => Q .none σ'
  | .exc c => X c σ'
  | _ => False

section
variable {C : Oracle} {ss : List S} {ρ : List V} {σ : Store} {Q : Post} {i n : Nat} {e e' a b : E} {es es' : List E} {X : XPost} {P : V → Store → Prop}

theorem call_in {Ps : List Fn} {f : Nat} {fn : Fn} {d : Nat} {args : List V} (h : Ps[f]? = some fn) (hl : args.length = fn.params)
    (q : wpSs (callW Ps d) fn.body (args ++ List.replicate (fn.slots - fn.params) V.undef) σ (retK P X)) : callW Ps (d + 1) f args σ P X := by
  simp only [callW, h]; exact ⟨hl, q⟩

theorem k_next (q : wpSs C ss ρ σ Q) : seqK C ss Q .next ρ σ := q
theorem k_ret {v : V} (q : Q (.ret v) ρ σ) : seqK C ss Q (.ret v) ρ σ := q
theorem k_exc {c : Nat} (q : Q (.exc c) ρ σ) : seqK C ss Q (.exc c) ρ σ := q
theorem k_brk (q : Q .brk ρ σ) : seqK C ss Q .brk ρ σ := q
theorem k_cont (q : Q .cont ρ σ) : seqK C ss Q .cont ρ σ := q
theorem k_ret' {v : V} (q : P v σ) : retK P X (.ret v) ρ σ := q
theorem k_next' (q : P .none σ) : retK P X .next ρ σ := q

theorem s_cons {s : S} (q : wpS C s ρ σ (seqK C ss Q)) : wpSs C (s :: ss) ρ σ Q := by
  rw [wpSs]; exact q
theorem s_nil (q : Q .next ρ σ) : wpSs C [] ρ σ Q := by rw [wpSs]; exact q
theorem s_expr (q : wpE C e ρ σ (fun _ σ₁ => Q .next ρ σ₁) (fun c σ₁ => Q (.exc c) ρ σ₁)) : wpS C (.expr e) ρ σ Q := by rw [wpS]; exact q
theorem s_ret (q : wpE C e ρ σ (fun v σ₁ => Q (.ret v) ρ σ₁) (fun c σ₁ => Q (.exc c) ρ σ₁)) : wpS C (.ret (some e)) ρ σ Q := by rw [wpS, wpO]; exact q
theorem s_retN (q : Q (.ret .none) ρ σ) : wpS C (.ret none) ρ σ Q := by rw [wpS, wpO]; exact q
theorem s_var (q : wpE C e ρ σ (fun v σ₁ => Q .next (ρ.set i v) σ₁) (fun c σ₁ => Q (.exc c) ρ σ₁)) : wpS C (.assign (.var i) e) ρ σ Q := by rw [wpS]; exact q
theorem s_tup {ps : List Nat} (q : wpE C e ρ σ (fun v σ₁ => bindK σ₁ (.tup ps) v ρ fun ρ' => Q .next ρ' σ₁) (fun c σ₁ => Q (.exc c) ρ σ₁)) : wpS C (.assign (.tup ps) e) ρ σ Q := by rw [wpS]; exact q
theorem s_if {o o' : List S} (q : wpT C e (wpE C e ρ σ) ρ σ (fun t σ₁ => if t = true then wpSs C o ρ σ₁ Q else wpSs C o' ρ σ₁ Q) (fun c σ₁ => Q (.exc c) ρ σ₁)) : wpS C (.if_ e o o') ρ σ Q := by rw [wpS]; exact q
theorem s_for {p : Pat} {k : SrcK} {body : List S} (q : wpL C es ρ σ (fun vs σ₁ => ∃ items, srcItems k vs σ₁ = some items ∧ forW (fun v ρ₁ σ₂ R => bindK σ₂ p v ρ₁ fun ρ₂ => wpSs C body ρ₂ σ₂ R) (srcSame k vs σ₁) items ρ σ₁ Q) (fun c σ₁ => Q (.exc c) ρ σ₁)) :
    wpS C (.for_ p k es body) ρ σ Q := by rw [wpS]; exact q
theorem s_pass (q : Q .next ρ σ) : wpS C .pass ρ σ Q := by rw [wpS]; exact q
theorem s_set (q : wpE C e ρ σ (fun v σ₁ => wpE C a ρ σ₁ (fun x σ₂ => wpE C b ρ σ₂ (fun y σ₃ => setK x y v σ₃ fun σ₄ => Q .next ρ σ₄) (fun c σ₃ => Q (.exc c) ρ σ₃)) (fun c σ₂ => Q (.exc c) ρ σ₂)) (fun c σ₁ => Q (.exc c) ρ σ₁)) : wpS C (.setItem a b e) ρ σ Q := by rw [wpS]; exact q

theorem e_none (q : P .none σ) : wpE C .none ρ σ P X := by rw [wpE]; exact q
theorem e_bool {t : Bool} (q : P (.bool t) σ) : wpE C (.bool t) ρ σ P X := by rw [wpE]; exact q
theorem e_int {k : Int} (q : P (.int k) σ) : wpE C (.int k) ρ σ P X := by rw [wpE]; exact q
theorem e_str {k : Str} (q : P (.str k) σ) : wpE C (.str k) ρ σ P X := by rw [wpE]; exact q
noncomputable def def? : V → Bool
  | .undef => false
  | _ => true
theorem e_loc {v : V} (h : ρ[i]? = some v) (hd : def? v = true) (q : P v σ) : wpE C (.loc i) ρ σ P X := by
  rw [wpE, h]
  cases v <;> first | exact q | cases hd
theorem e_bin {op : BOp} (q : wpE C a ρ σ (fun x σ₁ => wpE C b ρ σ₁ (fun y σ₂ => (binV op x y σ₂).to P) X) X) : wpE C (.bin op a b) ρ σ P X := by rw [wpE]; exact q
theorem e_neg (q : wpE C a ρ σ (fun x σ₁ => match x with
    | .int i => P (.int (-i)) σ₁
    | _ => False) X) : wpE C (.neg a) ρ σ P X := by rw [wpE]; exact q
theorem e_not (q : wpE C a ρ σ (fun x σ₁ => truthK σ₁ x fun b => P (.bool (!b)) σ₁) X) : wpE C (.not a) ρ σ P X := by rw [wpE]; exact q
theorem e_and (q : wpB C true es ρ σ P X) : wpE C (.and es) ρ σ P X := by rw [wpE]; exact q
theorem e_or (q : wpB C false es ρ σ P X) : wpE C (.or es) ρ σ P X := by rw [wpE]; exact q
theorem e_cmp {ops : List COp} (q : wpE C e ρ σ (fun x σ₁ => wpC C ops es x ρ σ₁ (fun b σ₂ => P (.bool b) σ₂) X) X) : wpE C (.cmp e ops es) ρ σ P X := by rw [wpE]; exact q
theorem e_tup (q : wpL C es ρ σ (fun vs σ₁ => P (.tup vs) σ₁) X) : wpE C (.tup es) ρ σ P X := by rw [wpE]; exact q
theorem e_list (q : wpL C es ρ σ (fun vs σ₁ => P (.ref σ₁.length) (σ₁ ++ [.list vs])) X) : wpE C (.list es) ρ σ P X := by rw [wpE]; exact q
theorem e_sub (q : wpE C a ρ σ (fun x σ₁ => wpE C b ρ σ₁ (fun y σ₂ => (subV x y σ₂).to P) X) X) : wpE C (.sub a b) ρ σ P X := by rw [wpE]; exact q
theorem e_call {f : Nat} (q : wpL C es ρ σ (fun vs σ₁ => C f vs σ₁ P X) X) : wpE C (.call f es) ρ σ P X := by rw [wpE]; exact q
theorem e_prim {p : Pr} (q : wpL C es ρ σ (fun vs σ₁ => (primV p vs σ₁).to P) X) : wpE C (.prim p es) ρ σ P X := by rw [wpE]; exact q
theorem e_append (q : wpE C a ρ σ (fun V σ₁ => isList σ₁ V ∧ wpE C b ρ σ₁ (fun W σ₂ => (primV .append [V, W] σ₂).to P) X) X) : wpE C (.append a b) ρ σ P X := by rw [wpE]; exact q

theorem e_slice {lo hi : Option E} (q : wpE C a ρ σ (fun x σ₁ => wpO C lo ρ σ₁ (fun y σ₂ => wpO C hi ρ σ₂ (fun z σ₃ => (sliceV x y z σ₃).to P) X) X) X) : wpE C (.slice a lo hi) ρ σ P X := by rw [wpE]; exact q
theorem o_none {P : Option V → Store → Prop} (q : P none σ) : wpO C none ρ σ P X := by rw [wpO]; exact q
theorem o_some {P : Option V → Store → Prop} (q : wpE C e ρ σ (fun v σ₁ => P (some v) σ₁) X) : wpO C (some e) ρ σ P X := by rw [wpO]; exact q
theorem e_sorted {u : Bool} (q : wpE C a ρ σ (fun v σ₁ => sortW u v σ₁ P) X) : wpE C (.sorted u a) ρ σ P X := by rw [wpE]; exact q
/-- a comprehension's turn -/
noncomputable def turnC (C : Oracle) (e : E) (i : Nat) (conds : List E) (ρ : List V) (X : XPost) (v : V) (σ : Store) (R : Option V → Store → Prop) : Prop :=
  wpTs C conds (ρ.set i v) σ (fun b σ₃ => if b = true then wpE C e (ρ.set i v) σ₃ (fun x σ₄ => R (some x) σ₄) X else R none σ₃) X
theorem e_comp {k : SrcK} {conds : List E} (q : wpL C es ρ σ (fun vs σ₁ => ∃ items, srcItems k vs σ₁ = some items ∧ items.length ≤ maxLen ∧ compW (turnC C e i conds ρ X) (srcSame k vs σ₁) items [] σ₁ fun ys σ₂ => P (.ref σ₂.length) (σ₂ ++ [.list ys])) X) :
    wpE C (.comp e (.var i) k es conds) ρ σ P X := by rw [wpE]; exact q
theorem e_sortKey (q : wpE C a ρ σ (fun v σ₁ => ∃ n vs, v = .ref n ∧ σ₁[n]? = some (.list vs) ∧ vs.length < 64 ∧ keysW (fun y σ₂ R => wpE C b (ρ.set i y) σ₂ R X) vs [] σ₁
      fun ks σ₂ => ∃ rs, rowsOf ks = some rs ∧ (∀ r ∈ rs, r ≠ []) ∧ ∀ p : List Nat, p.Perm (List.range vs.length) → p.Pairwise (ahead rs) → P (.ref σ₂.length) (σ₂ ++ [.list (p.map fun i => vs.getD i .none)])) X) : wpE C (.sortKey a i b) ρ σ P X := by rw [wpE]; exact q

theorem l_nil {P : List V → Store → Prop} (q : P [] σ) : wpL C [] ρ σ P X := by rw [wpL]; exact q
theorem l_cons {P : List V → Store → Prop} (q : wpE C e ρ σ (fun v σ₁ => wpL C es ρ σ₁ (fun vs σ₂ => P (v :: vs) σ₂) X) X) : wpL C (e :: es) ρ σ P X := by rw [wpL]; exact q

theorem b_one {d : Bool} (q : wpE C e ρ σ P X) : wpB C d [e] ρ σ P X := by
  rw [wpB]; simp only [List.isEmpty_nil, if_true]; exact q
theorem b_cons {d : Bool} (q : wpE C e ρ σ (fun v σ₁ => truthK σ₁ v fun b => if (b == d) = true then wpB C d (e' :: es) ρ σ₁ P X else P v σ₁) X) : wpB C d (e :: e' :: es) ρ σ P X := by
  rw [wpB]; simp only [List.isEmpty_cons, Bool.false_eq_true, if_false]; exact q
theorem c_one {op : COp} {x : V} {K : Bool → Store → Prop} (q : wpE C e ρ σ (fun y σ₁ => cmpK σ₁ op x y fun b => K b σ₁) X) : wpC C [op] [e] x ρ σ K X := by
  rw [wpC]; simp only [List.isEmpty_nil, Bool.true_or, if_true]; exact q
theorem c_cons {op op' : COp} {ops : List COp} {x : V} {K : Bool → Store → Prop} (q : wpE C e ρ σ (fun y σ₁ => cmpK σ₁ op x y fun b => if b = true then wpC C (op' :: ops) es y ρ σ₁ K X else K false σ₁) X) : wpC C (op :: op' :: ops) (e :: es) x ρ σ K X := by
  rw [wpC]; simp only [List.isEmpty_cons, Bool.false_or]
  have : (fun y σ₁ => match cmpV σ₁ op x y with | some b => if (!b) = true then K b σ₁ else wpC C (op' :: ops) es y ρ σ₁ K X | Option.none => False) = (fun y σ₁ => cmpK σ₁ op x y fun b => if b = true then wpC C (op' :: ops) es y ρ σ₁ K X else K false σ₁) := by
    funext y σ₁; unfold cmpK
    cases cmpV σ₁ op x y with
    | none => rfl
    | some b => cases b <;> rfl
  exact Eq.mp (congrArg (fun f => wpE C e ρ σ f X) this.symm) q

variable {K : Bool → Store → Prop} {w : (V → Store → Prop) → XPost → Prop}
theorem t_not (q : wpT C e (wpE C e ρ σ) ρ σ (fun b σ₁ => K (!b) σ₁) X) : wpT C (.not e) w ρ σ K X := by rw [wpT]; exact q
theorem t_and (q : wpTs C es ρ σ K X) : wpT C (.and es) w ρ σ K X := by rw [wpT]; exact q
theorem t_or (q : wpTo C es ρ σ K X) : wpT C (.or es) w ρ σ K X := by rw [wpT]; exact q
theorem t_cmp {ops : List COp} (q : wpE C e ρ σ (fun x σ₁ => wpC C ops es x ρ σ₁ K X) X) : wpT C (.cmp e ops es) w ρ σ K X := by rw [wpT]; exact q
theorem t_loc (q : w (fun v σ₁ => truthK σ₁ v fun b => K b σ₁) X) : wpT C (.loc i) w ρ σ K X := by simp only [wpT]; exact q
theorem t_call {f : Nat} (q : w (fun v σ₁ => truthK σ₁ v fun b => K b σ₁) X) : wpT C (.call f es) w ρ σ K X := by simp only [wpT]; exact q
theorem t_prim {p : Pr} (q : w (fun v σ₁ => truthK σ₁ v fun b => K b σ₁) X) : wpT C (.prim p es) w ρ σ K X := by simp only [wpT]; exact q
theorem t_sub (q : w (fun v σ₁ => truthK σ₁ v fun b => K b σ₁) X) : wpT C (.sub a b) w ρ σ K X := by simp only [wpT]; exact q
theorem t_bin {op : BOp} (q : w (fun v σ₁ => truthK σ₁ v fun b => K b σ₁) X) : wpT C (.bin op a b) w ρ σ K X := by simp only [wpT]; exact q
theorem ts_nil (q : K true σ) : wpTs C [] ρ σ K X := by rw [wpTs]; exact q
theorem ts_cons (q : wpT C e (wpE C e ρ σ) ρ σ (fun b σ₁ => if b = true then wpTs C es ρ σ₁ K X else K false σ₁) X) : wpTs C (e :: es) ρ σ K X := by rw [wpTs]; exact q
theorem to_nil (q : K false σ) : wpTo C [] ρ σ K X := by rw [wpTo]; exact q
theorem to_cons (q : wpT C e (wpE C e ρ σ) ρ σ (fun b σ₁ => if b = true then K true σ₁ else wpTo C es ρ σ₁ K X) X) : wpTo C (e :: es) ρ σ K X := by rw [wpTo]; exact q
end

section
variable {σ : Store} {K : Bool → Prop} {x y : Int} {n : Nat}
theorem tr_bool {b : Bool} (q : K b) : truthK σ (.bool b) K := q
theorem tr_none (q : K false) : truthK σ .none K := q
theorem tr_int (q : K (x != 0)) : truthK σ (.int x) K := q
theorem tr_list {vs : List V} (e : σ[n]? = some (.list vs)) (q : K (!vs.isEmpty)) : truthK σ (.ref n) K := by unfold truthK truth; simp only [e]; exact q
theorem cm_lt (q : K (decide (x < y))) : cmpK σ .lt (.int x) (.int y) K := q
theorem cm_le (q : K (decide (x ≤ y))) : cmpK σ .le (.int x) (.int y) K := q
theorem cm_gt (q : K (decide (x > y))) : cmpK σ .gt (.int x) (.int y) K := q
theorem cm_ge (q : K (decide (x ≥ y))) : cmpK σ .ge (.int x) (.int y) K := q
theorem cm_eq (q : K (decide (x = y))) : cmpK σ .eq (.int x) (.int y) K := q
theorem cm_ne (q : K (!decide (x = y))) : cmpK σ .ne (.int x) (.int y) K := q
theorem cm_eqB {a b : Bool} (q : K (a == b)) : cmpK σ .eq (.bool a) (.bool b) K := by cases a <;> cases b <;> exact q
theorem cm_neB {a b : Bool} (q : K (!(a == b))) : cmpK σ .ne (.bool a) (.bool b) K := by cases a <;> cases b <;> exact q
theorem cm_eqV {a b : V} {r : Bool} (h : eqV σ a b = some r) (q : K r) : cmpK σ .eq a b K := by unfold cmpK cmpV; rw [h]; exact q
theorem cm_neV {a b : V} {r : Bool} (h : eqV σ a b = some r) (q : K (!r)) : cmpK σ .ne a b K := by unfold cmpK cmpV; rw [h]; exact q
theorem cm_isN (q : K true) : cmpK σ .is .none .none K := q
theorem cm_isI (q : K false) : cmpK σ .is (.int x) .none K := q
theorem cm_isT {vs : List V} (q : K false) : cmpK σ .is (.tup vs) .none K := q
theorem cm_isB {b : Bool} (q : K false) : cmpK σ .is (.bool b) .none K := q
theorem cm_isnN (q : K false) : cmpK σ .isnot .none .none K := q
theorem cm_isnI (q : K true) : cmpK σ .isnot (.int x) .none K := q
theorem cm_isnT {vs : List V} (q : K true) : cmpK σ .isnot (.tup vs) .none K := q

variable {R : List V → Prop} {ρ : List V}
theorem bd_var {i : Nat} {v : V} (q : R (ρ.set i v)) : bindK σ (.var i) v ρ R := q
theorem bd_tup {ps : List Nat} {vs : List V} (h : ps.length = vs.length) (q : R ((ps.zip vs).foldl (fun r x => r.set x.1 x.2) ρ)) : bindK σ (.tup ps) (.tup vs) ρ R := by
  unfold bindK bindTo asItems; simp only [h, if_true]; exact q
theorem bd_lst {ps : List Nat} {vs : List V} (e : σ[n]? = some (.list vs)) (h : ps.length = vs.length) (q : R ((ps.zip vs).foldl (fun r x => r.set x.1 x.2) ρ)) : bindK σ (.tup ps) (.ref n) ρ R := by
  unfold bindK bindTo asItems; simp only [e, h, if_true]; exact q

variable {Q : V → Store → Prop}
theorem r_add (q : Q (.int (x + y)) σ) : (binV .add (.int x) (.int y) σ).to Q := q
theorem r_sub (q : Q (.int (x - y)) σ) : (binV .sub (.int x) (.int y) σ).to Q := q
theorem r_mul (h : (-1000000000000000 ≤ x ∧ x ≤ 1000000000000000) ∨ (-1000000000000000 ≤ y ∧ y ≤ 1000000000000000)) (q : Q (.int (x * y)) σ) : (binV .mul (.int x) (.int y) σ).to Q := by
  have : (small x || small y) = true := by
    unfold small
    simp only [Bool.or_eq_true, Bool.and_eq_true, decide_eq_true_eq]
    omega
  simp only [binV, addV, intV, this, if_true]; exact q
theorem r_mod (h : 0 < y) (q : Q (.int (x % y)) σ) : (binV .mod (.int x) (.int y) σ).to Q := by
  have : (y != 0) = true := by simp; omega
  simp only [binV, addV, intV, this, if_true, Int.fmod_eq_emod_of_nonneg x (Int.le_of_lt h)]; exact q
theorem r_div (h : 0 < y ∧ y ≤ 1000000000000000) (q : Q (.int (x / y)) σ) : (binV .floordiv (.int x) (.int y) σ).to Q := by
  have : (y != 0 && small y) = true := by
    unfold small
    simp only [Bool.and_eq_true, decide_eq_true_eq, bne_iff_ne]
    omega
  simp only [binV, addV, intV, this, if_true, Int.fdiv_eq_ediv_of_nonneg x (Int.le_of_lt h.1)]; exact q
theorem r_pow6 (q : Q (.int 1000000) σ) : (binV .pow (.int 10) (.int 6) σ).to Q := q
theorem r_addL {n m : Nat} {xs ys : List V} (e : σ[n]? = some (.list xs)) (e' : σ[m]? = some (.list ys)) (h : xs.length + ys.length ≤ 1000000) (q : Q (.ref σ.length) (σ ++ [.list (xs ++ ys)])) : (binV .add (.ref n) (.ref m) σ).to Q := by
  simp only [binV, addV, intV, e, e', show xs.length + ys.length ≤ maxLen from h, if_true]; exact q
theorem r_sliceL {vs : List V} {lo hi : Option V} {x y : Nat} (e : σ[n]? = some (.list vs)) (hx : bound 0 vs.length lo = some x) (hy : bound vs.length vs.length hi = some y) (q : Q (.ref σ.length) (σ ++ [.list (cut vs x y)])) : (sliceV (.ref n) lo hi σ).to Q := by
  simp only [sliceV, e, hx, hy]; exact q
theorem r_subT {vs : List V} {k : Int} {v : V} (h : 0 ≤ k ∧ k < 1000000) (h' : vs[k.toNat]? = some v) (q : Q v σ) : (subV (.tup vs) (.int k) σ).to Q := by
  have : small k = true := by unfold small; simp only [Bool.and_eq_true, decide_eq_true_eq]; omega
  have hl := (List.getElem?_eq_some_iff.mp h').1
  have hi : idx k vs.length = some k.toNat := by unfold idx; rw [if_pos (by omega)]
  simp only [subV, this, if_true, hi, Option.bind_some, h', Res.ofOpt_some]; exact q
theorem r_subL {vs : List V} {k : Int} {v : V} (e : σ[n]? = some (.list vs)) (h : 0 ≤ k) (h' : vs[k.toNat]? = some v) (q : Q v σ) : (subV (.ref n) (.int k) σ).to Q := by
  have hl := (List.getElem?_eq_some_iff.mp h').1
  have hi : idx k vs.length = some k.toNat := by unfold idx; rw [if_pos (by omega)]
  simp only [subV, e, hi, Option.bind_some, h', Res.ofOpt_some]; exact q
theorem r_len {vs : List V} (e : σ[n]? = some (.list vs)) (q : Q (.int vs.length) σ) : (primV .len [.ref n] σ).to Q := by simp only [primV, oneV, twoV, lenV, listV, strV, toIntV, isV, appV, intV, e]; exact q
theorem r_min (q : Q (.int (min x y)) σ) : (primV .min [.int x, .int y] σ).to Q := by
  simp only [primV, oneV, twoV, lenV, listV, strV, toIntV, isV, appV, intV, Res.to]
  have : (if y < x then y else x) = min x y := by split <;> omega
  rw [this]; exact q
theorem r_max (q : Q (.int (max x y)) σ) : (primV .max [.int x, .int y] σ).to Q := by
  simp only [primV, oneV, twoV, lenV, listV, strV, toIntV, isV, appV, intV, Res.to]
  have : (if y > x then y else x) = max x y := by split <;> omega
  rw [this]; exact q
noncomputable def isTy (t : Ty) : Ty → Bool := fun u => t == u
theorem r_isB {b : Bool} (q : Q (.bool true) σ) : (primV (.isinst .bool) [.bool b] σ).to Q := q
theorem r_isBI {b : Bool} (q : Q (.bool true) σ) : (primV (.isinst .int) [.bool b] σ).to Q := q
theorem r_isI (q : Q (.bool true) σ) : (primV (.isinst .int) [.int x] σ).to Q := q
theorem r_isIB (q : Q (.bool false) σ) : (primV (.isinst .bool) [.int x] σ).to Q := q
theorem r_isT {vs : List V} (q : Q (.bool true) σ) : (primV (.isinst .tuple) [.tup vs] σ).to Q := q
theorem r_isL {vs : List V} (e : σ[n]? = some (.list vs)) (q : Q (.bool true) σ) : (primV (.isinst .list) [.ref n] σ).to Q := by simp only [primV, oneV, twoV, lenV, listV, strV, toIntV, isV, appV, intV, typeIs, e]; exact q
theorem r_list {vs : List V} (e : σ[n]? = some (.list vs)) (q : Q (.ref σ.length) (σ ++ [.list vs])) : (primV .list [.ref n] σ).to Q := by simp only [primV, oneV, twoV, lenV, listV, strV, toIntV, isV, appV, intV, e]; exact q
theorem r_tuple {vs : List V} (e : σ[n]? = some (.list vs)) (q : Q (.tup vs) σ) : (primV .tuple [.ref n] σ).to Q := by simp only [primV, oneV, twoV, lenV, listV, strV, toIntV, isV, appV, intV, e]; exact q
theorem r_intB {b : Bool} (q : Q (.int (b2i b)) σ) : (primV .int [.bool b] σ).to Q := q
theorem r_append {vs : List V} {v : V} (e : σ[n]? = some (.list vs)) (hn : n ≠ 0) (hz : vs.length < 1000000) (q : Q .none (σ.set n (.list (vs ++ [v])))) : (primV .append [.ref n, v] σ).to Q := by
  simp only [primV, oneV, twoV, lenV, listV, strV, toIntV, isV, appV, intV, e, if_pos (show vs.length < maxLen ∧ n ≠ 0 from ⟨hz, hn⟩)]; exact q
theorem isList_i {vs : List V} (e : σ[n]? = some (.list vs)) : isList σ (.ref n) := ⟨n, vs, rfl, e⟩

theorem st_list {vs : List V} {k : Int} {v : V} {K : Store → Prop} (e : σ[n]? = some (.list vs)) (hn : n ≠ 0) (h : 0 ≤ k) (h' : k < vs.length) (q : K (σ.set n (.list (vs.set k.toNat v)))) : setK (.ref n) (.int k) v σ K := by
  unfold setK
  simp only [setItemV, e, if_pos (show n ≠ 0 ∧ 0 ≤ k ∧ k < vs.length from ⟨hn, h, h'⟩)]; exact q

variable {A B : Prop}
theorem ite_t (a : A) : ite (true = true) A B := by rw [if_pos rfl]; exact a
theorem ite_f (b : B) : ite (false = true) A B := by rw [if_neg (by decide)]; exact b
theorem ite_nt (b : B) : ite ((!true) = true) A B := by rw [if_neg (by decide)]; exact b
theorem ite_nf (a : A) : ite ((!false) = true) A B := by rw [if_pos (by decide)]; exact a
theorem ite_p {c : Prop} [Decidable c] (h : c) (a : A) : ite c A B := by rw [if_pos h]; exact a
theorem ite_n {c : Prop} [Decidable c] (h : ¬ c) (b : B) : ite c A B := by rw [if_neg h]; exact b
theorem ite_d {c : Prop} [Decidable c] (a : c → A) (b : ¬ c → B) : ite (decide c = true) A B := by
  by_cases h : c
  · rw [if_pos (by simpa using h)]; exact a h
  · rw [if_neg (by simpa using h)]; exact b h
theorem ite_nd {c : Prop} [Decidable c] (a : ¬ c → A) (b : c → B) : ite ((!decide c) = true) A B := by
  by_cases h : c
  · rw [if_neg (by simpa using h)]; exact b h
  · rw [if_pos (by simpa using h)]; exact a h
theorem ite_b {b : Bool} (a : b = true → A) (b' : b = false → B) : ite (b = true) A B := by
  cases b
  · exact b' rfl
  · exact a rfl
theorem ite_dt {c : Prop} [Decidable c] (a : c → A) (b : ¬ c → B) : ite ((decide c == true) = true) A B := by
  by_cases h : c
  · rw [if_pos (by simpa using h)]; exact a h
  · rw [if_neg (by simpa using h)]; exact b h
theorem ite_df {c : Prop} [Decidable c] (a : ¬ c → A) (b : c → B) : ite ((decide c == false) = true) A B := by
  by_cases h : c
  · rw [if_neg (by simpa using h)]; exact b h
  · rw [if_pos (by simpa using h)]; exact a h
theorem ite_tt (a : A) : ite ((true == true) = true) A B := a
theorem ite_ft (b : B) : ite ((false == true) = true) A B := b
theorem ite_tf (b : B) : ite ((true == false) = true) A B := b
theorem ite_ff (a : A) : ite ((false == false) = true) A B := a
end

/-- the first n statements up to I, the others from it -/
theorem s_cut {C : Oracle} (n : Nat) (I : List V → Store → Prop) {l : List S} {ρ : List V} {σ : Store} {Q : Post}
    (h : ∀ K : Post, (∀ ρ' σ', I ρ' σ' → K .next ρ' σ') → (∀ fl ρ' σ', fl ≠ .next → Q fl ρ' σ' → K fl ρ' σ') → wpSs C (l.take n) ρ σ K)
    (rest : ∀ ρ' σ', I ρ' σ' → wpSs C (l.drop n) ρ' σ' Q) : wpSs C l ρ σ Q := by
  have key : ∀ (n : Nat) (l : List S) (ρ : List V) (σ : Store), wpSs C (l.take n) ρ σ (fun fl ρ' σ' => match fl with | .next => wpSs C (l.drop n) ρ' σ' Q | fl => Q fl ρ' σ') = wpSs C l ρ σ Q := by
    intro n
    induction n with
    | zero => intro l ρ σ; simp only [List.take_zero, List.drop_zero, wpSs]
    | succ n ih =>
      intro l ρ σ
      cases l with
      | nil => simp only [List.take_nil, List.drop_nil, wpSs]
      | cons s ss =>
        simp only [List.take_succ_cons, List.drop_succ_cons]
        rw [wpSs, wpSs]
        refine congrArg _ (funext fun fl => funext fun ρ₁ => funext fun σ₁ => ?_)
        cases fl <;> first | rfl | exact ih ss ρ₁ σ₁
  rw [← key n l ρ σ]
  refine h _ (fun ρ' σ' i => rest ρ' σ' i) fun fl ρ' σ' hf q => ?_
  cases fl <;> first | exact absurd rfl hf | exact q

noncomputable def cellAt (xs : List Int) (k : Int) : Int := xs.getD k.toNat 0

end Mine

/-! MWpL -/
namespace Mine
open PySem

section
variable {turn : V → List V → Store → Post → Prop} {same : Store → Prop} {Q : Post}

noncomputable def loopK (turn : V → List V → Store → Post → Prop) (same : Store → Prop) (vs : List V) (Q : Post) : Post := fun fl ρ' σ' => match fl with
    | .next => same σ' ∧ forW turn same vs ρ' σ' Q
    | .cont => same σ' ∧ forW turn same vs ρ' σ' Q
    | .brk => Q .next ρ' σ'
    | .ret x => Q (.ret x) ρ' σ'
    | .exc c => Q (.exc c) ρ' σ'
theorem fw_nil {ρ : List V} {σ : Store} (q : Q .next ρ σ) : forW turn same [] ρ σ Q := by rw [forW]; exact q
theorem fw_cons {v : V} {vs : List V} {ρ : List V} {σ : Store} (q : turn v ρ σ (loopK turn same vs Q)) : forW turn same (v :: vs) ρ σ Q := by rw [forW]; exact q
theorem lk_next {vs : List V} {ρ : List V} {σ : Store} (s : same σ) (q : forW turn same vs ρ σ Q) : loopK turn same vs Q .next ρ σ := ⟨s, q⟩
theorem lk_ret {vs : List V} {v : V} {ρ : List V} {σ : Store} (q : Q (.ret v) ρ σ) : loopK turn same vs Q (.ret v) ρ σ := q

/-- a loop with an invariant -/
theorem forW_inv (I : Nat → List V → Store → Prop) : ∀ (items : List V) (k : Nat) (ρ : List V) (σ : Store),
    (∀ i v ρ σ (K : Post), items[i]? = some v → I (k + i) ρ σ → (∀ ρ' σ', same σ' → I (k + i + 1) ρ' σ' → K .next ρ' σ') → (∀ ρ' σ', same σ' → I (k + i + 1) ρ' σ' → K .cont ρ' σ') → (∀ ρ' σ', Q .next ρ' σ' → K .brk ρ' σ') →
      (∀ v ρ' σ', Q (.ret v) ρ' σ' → K (.ret v) ρ' σ') → (∀ c ρ' σ', Q (.exc c) ρ' σ' → K (.exc c) ρ' σ') → turn v ρ σ K) →
    (∀ ρ σ, I (k + items.length) ρ σ → Q .next ρ σ) → I k ρ σ → forW turn same items ρ σ Q
  | [], k, ρ, σ, _, fin, h0 => by rw [forW]; exact fin ρ σ h0
  | v :: vs, k, ρ, σ, step, fin, h0 => by
    rw [forW]
    refine step 0 v ρ σ _ rfl h0 (fun ρ' σ' s i => ?_) (fun ρ' σ' s i => ?_) (fun ρ' σ' q => q) (fun v ρ' σ' q => q) fun c ρ' σ' q => q
    · refine ⟨s, forW_inv I vs (k + 1) ρ' σ' (fun j v ρ σ K hv hI h1 h2 h3 h4 h5 => ?_) (fun ρ σ h => fin ρ σ ?_) i⟩
      · have e : k + 1 + j = k + (j + 1) := by omega
        rw [e] at hI h1 h2
        exact step (j + 1) v ρ σ K (by simpa using hv) hI h1 h2 h3 h4 h5
      · rw [List.length_cons]; rw [show k + (vs.length + 1) = k + 1 + vs.length by omega]; exact h
    · refine ⟨s, forW_inv I vs (k + 1) ρ' σ' (fun j v ρ σ K hv hI h1 h2 h3 h4 h5 => ?_) (fun ρ σ h => fin ρ σ ?_) i⟩
      · have e : k + 1 + j = k + (j + 1) := by omega
        rw [e] at hI h1 h2
        exact step (j + 1) v ρ σ K (by simpa using hv) hI h1 h2 h3 h4 h5
      · rw [List.length_cons]; rw [show k + (vs.length + 1) = k + 1 + vs.length by omega]; exact h

theorem rangeL_at : ∀ (n : Nat) (a : Int) (i : Nat) (v : V), (rangeL a n)[i]? = some v → v = .int (a + i) ∧ i < n
  | 0, _, _, _, h => by simp [rangeL] at h
  | n + 1, a, 0, v, h => by simp [rangeL] at h; exact ⟨by rw [← h]; simp, by omega⟩
  | n + 1, a, i + 1, v, h => by
    rw [rangeL] at h
    obtain ⟨h1, h2⟩ := rangeL_at n (a + 1) i v (by simpa using h)
    exact ⟨by rw [h1]; congr 1; omega, by omega⟩
theorem rangeL_len : ∀ (n : Nat) (a : Int), (rangeL a n).length = n
  | 0, _ => rfl
  | n + 1, a => by rw [rangeL, List.length_cons, rangeL_len n]
theorem enumL_at : ∀ (vs : List V) (a : Int) (i : Nat) (u : V), (enumL a vs)[i]? = some u → ∃ v, vs[i]? = some v ∧ u = .tup [.int (a + i), v]
  | [], _, _, _, h => by simp [enumL] at h
  | v :: vs, a, 0, u, h => by simp [enumL] at h; exact ⟨v, rfl, by rw [← h]; simp⟩
  | v :: vs, a, i + 1, u, h => by
    rw [enumL] at h
    obtain ⟨w, h1, h2⟩ := enumL_at vs (a + 1) i u (by simpa using h)
    exact ⟨w, by simpa using h1, by rw [h2]; congr 3; omega⟩
theorem enumL_len : ∀ (vs : List V) (a : Int), (enumL a vs).length = vs.length
  | [], _ => rfl
  | v :: vs, a => by rw [enumL, List.length_cons, enumL_len vs, List.length_cons]

variable {ρ : List V} {σ : Store}
theorem f_range {b : Int} (I : Nat → List V → Store → Prop) (hb : -1000000 ≤ b ∧ b ≤ 1000000) (h0 : I 0 ρ σ)
    (step : ∀ (i : Nat) ρ σ (K : Post), (i : Int) < b → I i ρ σ → (∀ ρ' σ', I (i + 1) ρ' σ' → K .next ρ' σ') → (∀ ρ' σ', I (i + 1) ρ' σ' → K .cont ρ' σ') → (∀ ρ' σ', Q .next ρ' σ' → K .brk ρ' σ') → (∀ v ρ' σ', Q (.ret v) ρ' σ' → K (.ret v) ρ' σ') → (∀ c ρ' σ', Q (.exc c) ρ' σ' → K (.exc c) ρ' σ') → turn (.int i) ρ σ K)
    (fin : ∀ ρ σ, I b.toNat ρ σ → Q .next ρ σ) : ∃ items, srcItems .range [.int b] σ = some items ∧ forW turn (srcSame .range [.int b] σ) items ρ σ Q := by
  refine ⟨rangeL 0 b.toNat, ?_, forW_inv I _ 0 ρ σ (fun i v ρ σ K hv hI h1 h2 h3 h4 h5 => ?_) (fun ρ σ h => fin ρ σ ?_) h0⟩
  · simp only [srcItems, Mine.listItems, rangeItems, enumItems]; rw [if_pos]; refine ⟨by omega, by unfold maxLen; omega⟩
  · obtain ⟨rfl, hi⟩ := rangeL_at _ _ _ _ hv
    rw [show (0 : Int) + i = i by omega]
    rw [show 0 + i = i by omega] at hI h1 h2
    exact step i ρ σ K (by omega) hI (fun ρ' σ' h => h1 ρ' σ' trivial h) (fun ρ' σ' h => h2 ρ' σ' trivial h) h3 h4 h5
  · rw [rangeL_len] at h; simpa using h
theorem f_range2 {a b : Int} (I : Nat → List V → Store → Prop) (ha : 0 ≤ a ∧ a ≤ 1000000) (hb : -1000000 ≤ b ∧ b ≤ 1000000) (h0 : I 0 ρ σ)
    (step : ∀ (i : Nat) ρ σ (K : Post), a + i < b → I i ρ σ → (∀ ρ' σ', I (i + 1) ρ' σ' → K .next ρ' σ') → (∀ ρ' σ', I (i + 1) ρ' σ' → K .cont ρ' σ') → (∀ ρ' σ', Q .next ρ' σ' → K .brk ρ' σ') → (∀ v ρ' σ', Q (.ret v) ρ' σ' → K (.ret v) ρ' σ') → (∀ c ρ' σ', Q (.exc c) ρ' σ' → K (.exc c) ρ' σ') → turn (.int (a + i)) ρ σ K)
    (fin : ∀ ρ σ, I (b - a).toNat ρ σ → Q .next ρ σ) : ∃ items, srcItems .range [.int a, .int b] σ = some items ∧ forW turn (srcSame .range [.int a, .int b] σ) items ρ σ Q := by
  refine ⟨rangeL a (b - a).toNat, ?_, forW_inv I _ 0 ρ σ (fun i v ρ σ K hv hI h1 h2 h3 h4 h5 => ?_) (fun ρ σ h => fin ρ σ ?_) h0⟩
  · simp only [srcItems, Mine.listItems, rangeItems, enumItems]; rw [if_pos]; refine ⟨by omega, by unfold maxLen; omega, by omega, by unfold maxLen; omega⟩
  · obtain ⟨rfl, hi⟩ := rangeL_at _ _ _ _ hv
    rw [show 0 + i = i by omega] at hI h1 h2
    exact step i ρ σ K (by omega) hI (fun ρ' σ' h => h1 ρ' σ' trivial h) (fun ρ' σ' h => h2 ρ' σ' trivial h) h3 h4 h5
  · rw [rangeL_len] at h; simpa using h
theorem f_list {n : Nat} {vs : List V} (I : Nat → List V → Store → Prop) (e : σ[n]? = some (.list vs)) (h0 : I 0 ρ σ)
    (step : ∀ (i : Nat) v ρ σ (K : Post), vs[i]? = some v → I i ρ σ → (∀ ρ' σ', σ'[n]? = some (.list vs) → I (i + 1) ρ' σ' → K .next ρ' σ') → (∀ ρ' σ', σ'[n]? = some (.list vs) → I (i + 1) ρ' σ' → K .cont ρ' σ') → (∀ ρ' σ', Q .next ρ' σ' → K .brk ρ' σ') → (∀ v ρ' σ', Q (.ret v) ρ' σ' → K (.ret v) ρ' σ') → (∀ c ρ' σ', Q (.exc c) ρ' σ' → K (.exc c) ρ' σ') → turn v ρ σ K)
    (fin : ∀ ρ σ, I vs.length ρ σ → Q .next ρ σ) : ∃ items, srcItems .plain [.ref n] σ = some items ∧ forW turn (srcSame .plain [.ref n] σ) items ρ σ Q := by
  refine ⟨vs, by simp only [srcItems, Mine.listItems, rangeItems, enumItems, e], forW_inv I _ 0 ρ σ (fun i v ρ σ' K hv hI h1 h2 h3 h4 h5 => ?_) (fun ρ σ h => fin ρ σ (by simpa using h)) h0⟩
  rw [show 0 + i = i by omega] at hI h1 h2
  exact step i v ρ σ' K hv hI (fun ρ' σ'' he h => h1 ρ' σ'' (he.trans e.symm) h) (fun ρ' σ'' he h => h2 ρ' σ'' (he.trans e.symm) h) h3 h4 h5
theorem f_tup {vs : List V} (I : Nat → List V → Store → Prop) (h0 : I 0 ρ σ)
    (step : ∀ (i : Nat) v ρ σ (K : Post), vs[i]? = some v → I i ρ σ → (∀ ρ' σ', I (i + 1) ρ' σ' → K .next ρ' σ') → (∀ ρ' σ', I (i + 1) ρ' σ' → K .cont ρ' σ') → (∀ ρ' σ', Q .next ρ' σ' → K .brk ρ' σ') → (∀ v ρ' σ', Q (.ret v) ρ' σ' → K (.ret v) ρ' σ') → (∀ c ρ' σ', Q (.exc c) ρ' σ' → K (.exc c) ρ' σ') → turn v ρ σ K)
    (fin : ∀ ρ σ, I vs.length ρ σ → Q .next ρ σ) : ∃ items, srcItems .plain [.tup vs] σ = some items ∧ forW turn (srcSame .plain [.tup vs] σ) items ρ σ Q := by
  refine ⟨vs, rfl, forW_inv I _ 0 ρ σ (fun i v ρ σ' K hv hI h1 h2 h3 h4 h5 => ?_) (fun ρ σ h => fin ρ σ (by simpa using h)) h0⟩
  rw [show 0 + i = i by omega] at hI h1 h2
  exact step i v ρ σ' K hv hI (fun ρ' σ'' h => h1 ρ' σ'' trivial h) (fun ρ' σ'' h => h2 ρ' σ'' trivial h) h3 h4 h5
theorem f_enum {n : Nat} {vs : List V} (I : Nat → List V → Store → Prop) (e : σ[n]? = some (.list vs)) (h0 : I 0 ρ σ)
    (step : ∀ (i : Nat) v ρ σ (K : Post), vs[i]? = some v → I i ρ σ → (∀ ρ' σ', σ'[n]? = some (.list vs) → I (i + 1) ρ' σ' → K .next ρ' σ') → (∀ ρ' σ', σ'[n]? = some (.list vs) → I (i + 1) ρ' σ' → K .cont ρ' σ') → (∀ ρ' σ', Q .next ρ' σ' → K .brk ρ' σ') → (∀ v ρ' σ', Q (.ret v) ρ' σ' → K (.ret v) ρ' σ') → (∀ c ρ' σ', Q (.exc c) ρ' σ' → K (.exc c) ρ' σ') → turn (.tup [.int i, v]) ρ σ K)
    (fin : ∀ ρ σ, I vs.length ρ σ → Q .next ρ σ) : ∃ items, srcItems .enum [.ref n] σ = some items ∧ forW turn (srcSame .enum [.ref n] σ) items ρ σ Q := by
  refine ⟨enumL 0 vs, by simp only [srcItems, Mine.listItems, rangeItems, enumItems, e], forW_inv I _ 0 ρ σ (fun i v ρ σ' K hv hI h1 h2 h3 h4 h5 => ?_) (fun ρ σ h => fin ρ σ (by rw [enumL_len] at h; simpa using h)) h0⟩
  obtain ⟨u, hu, rfl⟩ := enumL_at _ _ _ _ hv
  rw [show 0 + i = i by omega] at hI h1 h2
  rw [show (0 : Int) + i = i by omega]
  exact step i u ρ σ' K hu hI (fun ρ' σ'' he h => h1 ρ' σ'' (he.trans e.symm) h) (fun ρ' σ'' he h => h2 ρ' σ'' (he.trans e.symm) h) h3 h4 h5
end

section
variable {turn : V → Store → (Option V → Store → Prop) → Prop} {same : Store → Prop} {Q : List V → Store → Prop}
/-- a comprehension with an invariant -/
theorem compW_inv (I : Nat → List V → Store → Prop) : ∀ (items : List V) (k : Nat) (acc : List V) (σ : Store),
    (∀ i v acc σ (K : Option V → Store → Prop), items[i]? = some v → I (k + i) acc σ → (∀ r σ', same σ' → I (k + i + 1) (acc ++ r.toList) σ' → K r σ') → turn v σ K) →
    (∀ acc σ, I (k + items.length) acc σ → Q acc σ) → I k acc σ → compW turn same items acc σ Q
  | [], k, acc, σ, _, fin, h0 => by rw [compW]; exact fin acc σ h0
  | v :: vs, k, acc, σ, step, fin, h0 => by
    rw [compW]
    refine step 0 v acc σ _ rfl h0 fun r σ' s i => ⟨s, compW_inv I vs (k + 1) _ σ' (fun j v acc σ K hv hI h1 => ?_) (fun acc σ h => fin acc σ ?_) i⟩
    · have e : k + 1 + j = k + (j + 1) := by omega
      rw [e] at hI h1
      exact step (j + 1) v acc σ K (by simpa using hv) hI h1
    · rw [List.length_cons]; rw [show k + (vs.length + 1) = k + 1 + vs.length by omega]; exact h

/-- each item mapped, or left out; the store stands -/
theorem compW_map {σ : Store} (f : V → Option V) (hs : same σ) : ∀ (items : List V) (acc : List V), (∀ v ∈ items, ∀ K : Option V → Store → Prop, K (f v) σ → turn v σ K) → Q (acc ++ items.filterMap f) σ → compW turn same items acc σ Q
  | [], acc, _, q => by rw [compW]; simpa using q
  | v :: vs, acc, h, q => by
    rw [compW]
    refine h v List.mem_cons_self _ ⟨hs, compW_map f hs vs _ (fun u hu => h u (List.mem_cons_of_mem _ hu)) ?_⟩
    cases hv : f v with
    | none => rw [List.filterMap_cons_none hv] at q; simpa using q
    | some x => rw [List.filterMap_cons_some hv] at q; simpa using q
theorem srcSame_self {k : SrcK} {vs : List V} {σ : Store} : srcSame k vs σ σ := by
  unfold srcSame; split <;> (try unfold sameAt) <;> (try split) <;> first | rfl | trivial

variable {σ : Store}
/-- [.. for x in list], the items being g's images -/
theorem c_list {α : Type} {n : Nat} {l : List α} {g : α → V} (f : α → Option V) (e : σ[n]? = some (.list (l.map g))) (hz : l.length ≤ 1000000) (h : ∀ x ∈ l, ∀ K : Option V → Store → Prop, K (f x) σ → turn (g x) σ K)
    (q : Q (l.filterMap f) σ) : ∃ items, srcItems .plain [.ref n] σ = some items ∧ items.length ≤ maxLen ∧ compW turn (srcSame .plain [.ref n] σ) items [] σ Q := by
  refine ⟨l.map g, by simp only [srcItems, Mine.listItems, rangeItems, enumItems, e], by rw [List.length_map]; exact hz, ?_⟩
  have key : ∀ (l : List α) (acc : List V), (∀ x ∈ l, ∀ K : Option V → Store → Prop, K (f x) σ → turn (g x) σ K) → Q (acc ++ l.filterMap f) σ → compW turn (srcSame .plain [.ref n] σ) (l.map g) acc σ Q := by
    intro l
    induction l with
    | nil => intro acc _ q; rw [List.map_nil, compW]; simpa using q
    | cons v vs ih =>
      intro acc h q
      rw [List.map_cons, compW]
      refine h v List.mem_cons_self _ ⟨srcSame_self, ih _ (fun u hu => h u (List.mem_cons_of_mem _ hu)) ?_⟩
      cases hv : f v with
      | none => rw [List.filterMap_cons_none hv] at q; simpa using q
      | some x => rw [List.filterMap_cons_some hv] at q; simpa using q
  exact key l [] h (by simpa using q)
/-- [.. for k in range(b)] -/
theorem c_range {b : Int} (f : Nat → Option V) (hb : -1000000 ≤ b ∧ b ≤ 1000000) (h : ∀ k : Nat, (k : Int) < b → ∀ K : Option V → Store → Prop, K (f k) σ → turn (.int k) σ K)
    (q : Q ((List.range b.toNat).filterMap f) σ) : ∃ items, srcItems .range [.int b] σ = some items ∧ items.length ≤ maxLen ∧ compW turn (srcSame .range [.int b] σ) items [] σ Q := by
  refine ⟨rangeL 0 b.toNat, ?_, by rw [rangeL_len]; unfold maxLen; omega, ?_⟩
  · simp only [srcItems, Mine.listItems, rangeItems, enumItems]; rw [if_pos]; refine ⟨by omega, by unfold maxLen; omega⟩
  refine compW_inv (fun i acc σ' => σ' = σ ∧ acc = (List.range i).filterMap f) _ 0 [] σ (fun i v acc σ' K hv hI h1 => ?_) (fun acc σ' hI => ?_) ⟨rfl, rfl⟩
  · obtain ⟨rfl, rfl⟩ := hI
    obtain ⟨rfl, hi⟩ := rangeL_at _ _ _ _ hv
    rw [show (0 : Int) + i = i by omega]
    refine h i (by omega) K (h1 _ _ trivial ⟨rfl, ?_⟩)
    rw [show 0 + i + 1 = i + 1 by omega, show 0 + i = i by omega, List.range_succ, List.filterMap_append]
    cases hf : f i <;> simp [hf]
  · obtain ⟨rfl, rfl⟩ := hI
    rw [rangeL_len, show 0 + b.toNat = b.toNat by omega]; exact q
end

theorem toD_ref {σ : Store} {n m : Nat} {vs : List V} (e : σ[n]? = some (.list vs)) : toD σ (m + 1) (.ref n) = (mapO (toD σ m) vs).map PyData.list := by rw [toD]; simp only [e]
theorem get_app {σ τ : Store} {n : Nat} {o : O} (h : σ[n]? = some o) : (σ ++ τ)[n]? = some o := by
  rw [List.getElem?_append_left (List.getElem?_eq_some_iff.mp h).1]; exact h
theorem get_last {σ : Store} {o : O} : (σ ++ [o])[σ.length]? = some o := by simp
theorem get_set_ne {σ : Store} {n m : Nat} {o x : O} (hn : n ≠ m) (h : σ[m]? = some o) : (σ.set n x)[m]? = some o := by
  rw [List.getElem?_set_ne hn]; exact h
theorem get_set_eq {σ : Store} {n : Nat} {o x : O} (h : σ[n]? = some o) : (σ.set n x)[n]? = some x := by
  rw [List.getElem?_set_self (List.getElem?_eq_some_iff.mp h).1]
theorem set_id {σ : Store} {n : Nat} {o : O} (h : σ[n]? = some o) : σ.set n o = σ := by
  apply List.ext_getElem?
  intro i
  by_cases hi : n = i
  · subst hi; rw [get_set_eq h, h]
  · rw [List.getElem?_set_ne hi]
theorem toD_map {α : Type} {σ : Store} {n m : Nat} {l : List α} {g : α → V} {dat : α → PyData} (e : σ[n]? = some (.list (l.map g))) (h : ∀ x ∈ l, toD σ m (g x) = some (dat x)) : toD σ (m + 1) (.ref n) = some (.list (l.map dat)) := by
  have key : ∀ l : List α, (∀ x ∈ l, toD σ m (g x) = some (dat x)) → mapO (toD σ m) (l.map g) = some (l.map dat) := by
    intro l
    induction l with
    | nil => intro _; rfl
    | cons r rs ih => intro h; rw [List.map_cons, mapO, ih fun x hx => h x (List.mem_cons_of_mem _ hx), h r List.mem_cons_self]; rfl
  rw [toD_ref e, key l h]; rfl
theorem can_map {α : Type} {l : List α} {dat : α → PyData} (h : ∀ x ∈ l, (dat x).canLay0 = true) : (PyData.list (l.map dat)).canLay0 = true := by
  have key : ∀ l : List α, (∀ x ∈ l, (dat x).canLay0 = true) → PyData.canLayAll0 (l.map dat) = true := by
    intro l
    induction l with
    | nil => intro _; rfl
    | cons r rs ih => intro h; rw [List.map_cons, PyData.canLayAll0, ih fun x hx => h x (List.mem_cons_of_mem _ hx), h r List.mem_cons_self]; rfl
  simp only [PyData.canLay0, key l h]
theorem ltInts_map : ∀ a b : List Int, ltInts (a.map .int) (b.map .int) = some (ltRow a b)
  | [], [] => rfl
  | [], _ :: _ => rfl
  | _ :: _, [] => rfl
  | x :: a, y :: b => by
    rw [List.map_cons, List.map_cons, ltInts, ltRow]
    split
    · exact ltInts_map a b
    · rfl
theorem cm_ltT {σ : Store} {K : Bool → Prop} {a b : List Int} (q : K (ltRow a b)) : cmpK σ .lt (.tup (a.map .int)) (.tup (b.map .int)) K := by
  show (match ltInts (a.map .int) (b.map .int) with | some b => K b | Option.none => False)
  rw [ltInts_map]; exact q
theorem cm_eqS {σ : Store} {K : Bool → Prop} {x y : Str} (hx : PyData.strOk x = true) (hy : PyData.strOk y = true) (q : K (x == y)) : cmpK σ .eq (.str x) (.str y) K := by
  refine cm_eqV (r := (x == y)) ?_ q
  show (if (PyData.strOk x && PyData.strOk y) = true then some (x == y) else none) = some (x == y)
  rw [hx, hy]; rfl

/-- a shelf's habit: low, or left -/
noncomputable def hab (b : Bool) : V := .str (if b then Str.ofString "low" else Str.ofString "left")
noncomputable def habD (b : Bool) : PyData := .str (if b then Str.ofString "low" else Str.ofString "left")
theorem ok_low : PyData.strOk (Str.ofString "low") = true := by decide +kernel
theorem ok_left : PyData.strOk (Str.ofString "left") = true := by decide +kernel
theorem low_left : (Str.ofString "left" == Str.ofString "low") = false := by decide +kernel
theorem left_low : (Str.ofString "low" == Str.ofString "left") = false := by decide +kernel
theorem cm_low {σ : Store} {K : Bool → Prop} {b : Bool} (q : K b) : cmpK σ .eq (hab b) (.str (Str.ofString "low")) K := by
  cases b with
  | true => exact cm_eqS (x := Str.ofString "low") ok_low ok_low (by rw [beq_self_eq_true]; exact q)
  | false => exact cm_eqS (x := Str.ofString "left") ok_left ok_low (by rw [low_left]; exact q)
theorem cm_left {σ : Store} {K : Bool → Prop} {b : Bool} (q : K (!b)) : cmpK σ .eq (hab b) (.str (Str.ofString "left")) K := by
  cases b with
  | true => exact cm_eqS (x := Str.ofString "low") ok_low ok_left (by rw [left_low]; exact q)
  | false => exact cm_eqS (x := Str.ofString "left") ok_left ok_left (by rw [beq_self_eq_true]; exact q)
theorem toD_hab {σ : Store} {n : Nat} {b : Bool} : toD σ (n + 1) (hab b) = some (habD b) := rfl
theorem can_hab {b : Bool} : (habD b).canLay0 = true := by cases b <;> simp only [habD, PyData.canLay0] <;> first | exact ok_low | exact ok_left
theorem def_hab {b : Bool} : def? (hab b) = true := rfl
end Mine

/-! MWpE -/
namespace Mine
open PySem
/-! data that equals itself -/
theorem eqV_self {σ : Store} {a b : V} {x : PyData} (ha : toD σ 6 a = some x) (hb : toD σ 6 b = some x) (hc : x.canLay0 = true) : eqV σ a b = some true := by
  unfold eqV
  rw [ha, hb]
  simp only [hc, Bool.and_self, if_true]
  rw [PySem.SeqAt.eqv_refl x hc]
end Mine

/-! L05 -/
namespace Mine
open PySem

noncomputable def f05_0 : Fn := ⟨2, 8, [
    .assign (.tup [2, 3, 4, 5]) (.loc 1),
    .assign (.var 6) (.int 0),
    .if_ (.loc 5) [.assign (.var 6) (.int 1)] [],
    .if_ (.cmp (.sub (.sub (.loc 0) (.loc 2)) (.int 2)) [.eq] [(.str (Str.ofString "low"))]) [.ret (some (.tup [(.loc 2), (.loc 3), (.loc 4), (.loc 6)]))] [],
    .ret (some (.tup [(.loc 2), (.loc 4), (.loc 3), (.loc 6)]))]⟩
noncomputable def f05_1 : Fn := ⟨3, 4, [
    .ret (some (.cmp (.call 0 [(.loc 0), (.loc 1)]) [.lt] [(.call 0 [(.loc 0), (.loc 2)])]))]⟩
noncomputable def f05_2 : Fn := ⟨2, 3, [
    .if_ (.cmp (.loc 1) [.lt] [(.prim .len [(.loc 0)])]) [.ret (some (.sub (.loc 0) (.loc 1)))] [],
    .ret (some (.int 0))]⟩
noncomputable def f05_3 : Fn := ⟨4, 7, [
    .assign (.var 4) (.bin .mod (.call 2 [(.loc 0), (.bin .add (.loc 1) (.int 1))]) (.loc 3)),
    .assign (.var 5) (.bin .mod (.call 2 [(.loc 0), (.bin .add (.loc 1) (.int 2))]) (.loc 3)),
    .ret (some (.list [(.bin .mod (.call 2 [(.loc 0), (.loc 1)]) (.loc 2)), (.loc 4), (.loc 5), (.cmp (.bin .mod (.call 2 [(.loc 0), (.bin .add (.loc 1) (.int 3))]) (.int 2)) [.eq] [(.int 1)])]))]⟩
noncomputable def f05_4 : Fn := ⟨2, 3, [
    .if_ (.cmp (.loc 1) [.eq] [(.str (Str.ofString "low"))]) [.ret (some (.list [(.sub (.loc 0) (.int 0)), (.sub (.loc 0) (.int 1)), (.sub (.loc 0) (.int 2)), (.prim .int [(.sub (.loc 0) (.int 3))])]))] [],
    .ret (some (.list [(.sub (.loc 0) (.int 0)), (.sub (.loc 0) (.int 2)), (.sub (.loc 0) (.int 1)), (.prim .int [(.sub (.loc 0) (.int 3))])]))]⟩
noncomputable def f05_5 : Fn := ⟨3, 7, [
    .assign (.var 3) (.call 4 [(.loc 0), (.sub (.loc 2) (.sub (.loc 0) (.int 0)))]),
    .for_ (.tup [4, 5]) .enum [(.call 4 [(.loc 1), (.sub (.loc 2) (.sub (.loc 0) (.int 0)))])] [.if_ (.cmp (.sub (.loc 3) (.loc 4)) [.ne] [(.loc 5)]) [.ret (some (.cmp (.sub (.loc 3) (.loc 4)) [.lt] [(.loc 5)]))] []],
    .ret (some (.bool false))]⟩
noncomputable def f05_6 : Fn := ⟨1, 16, [
    .assign (.var 1) (.bin .add (.int 1) (.bin .mod (.call 2 [(.loc 0), (.int 0)]) (.int 9))),
    .assign (.var 2) (.bin .add (.int 1) (.bin .mod (.call 2 [(.loc 0), (.int 1)]) (.bin .pow (.int 10) (.int 6)))),
    .assign (.var 3) (.bin .add (.int 1) (.bin .mod (.call 2 [(.loc 0), (.int 2)]) (.bin .pow (.int 10) (.int 6)))),
    .assign (.var 4) (.list []),
    .assign (.var 5) (.bin .mod (.call 2 [(.loc 0), (.int 3)]) (.int 2147483647)),
    .for_ (.var 6) .range [(.int 9)] [.assign (.var 5) (.bin .mod (.bin .add (.bin .mul (.loc 5) (.int 48271)) (.int 11)) (.int 2147483647)), .expr (.append (.loc 4) (.sub (.list [(.str (Str.ofString "low")), (.str (Str.ofString "left"))]) (.bin .mod (.bin .floordiv (.loc 5) (.int 7)) (.int 2))))],
    .assign (.var 7) (.comp (.tup [(.loc 2), (.loc 3), (.sub (.loc 4) (.loc 15))]) (.var 15) .range [(.loc 1)] []),
    .assign (.var 8) (.sub (.list [(.int 4), (.int 4), (.bin .pow (.int 10) (.int 6))]) (.bin .mod (.call 2 [(.loc 0), (.int 4)]) (.int 3))),
    .assign (.var 9) (.call 3 [(.loc 0), (.int 5), (.loc 1), (.loc 8)]),
    .assign (.var 10) (.call 3 [(.loc 0), (.int 9), (.loc 1), (.loc 8)]),
    .if_ (.cmp (.bin .mod (.call 2 [(.loc 0), (.int 13)]) (.int 4)) [.eq] [(.int 1)]) [.assign (.var 11) (.bin .mod (.call 2 [(.loc 0), (.int 14)]) (.int 5)), .assign (.var 10) (.bin .add (.bin .add (.slice (.loc 9) none (some (.loc 11))) (.slice (.loc 10) (some (.loc 11)) (some (.bin .add (.loc 11) (.int 1))))) (.slice (.loc 9) (some (.bin .add (.loc 11) (.int 1))) none))] [],
    .assign (.var 12) (.prim .list [(.loc 7)]),
    .assign (.var 13) (.call 1 [(.loc 12), (.prim .tuple [(.loc 9)]), (.prim .tuple [(.loc 10)])]),
    .assign (.var 14) (.call 1 [(.loc 12), (.prim .tuple [(.loc 10)]), (.prim .tuple [(.loc 9)])]),
    .if_ (.or [(.not (.prim (.isinst .bool) [(.loc 13)])), (.not (.prim (.isinst .bool) [(.loc 14)])), (.cmp (.loc 12) [.ne] [(.loc 7)])]) [.ret (some (.bool false))] [],
    .ret (some (.and [(.cmp (.loc 13) [.eq] [(.call 5 [(.loc 9), (.loc 10), (.loc 4)])]), (.cmp (.loc 14) [.eq] [(.call 5 [(.loc 10), (.loc 9), (.loc 4)])])]))]⟩
noncomputable def P05 : List Fn := [f05_0, f05_1, f05_2, f05_3, f05_4, f05_5, f05_6]

local macro_rules | `(tactic| wtm_at "mine rfl") => `(tactic| with_unfolding_all rfl)
local macro_rules | `(tactic| wtm_at "mine ref") => `(tactic| first | assumption | with_unfolding_all rfl | exact get_last | (refine get_app ?_; wtm_at "mine ref"))
local macro_rules | `(tactic| wtm_at "mine s") => `(tactic| with_reducible first
  | refine s_cons ?_ | refine e_loc (by wtm_at "mine rfl") (by wtm_at "mine rfl") ?_ | refine e_int ?_ | refine l_cons ?_ | refine l_nil ?_ | refine e_bin ?_
  | refine k_next ?_ | refine r_add ?_ | refine r_sub ?_ | refine r_mul (by omega) ?_ | refine r_mod (by omega) ?_ | refine r_div (by omega) ?_
  | refine e_call ?_ | refine s_var ?_ | refine e_sub ?_ | refine r_subT (by omega) (by wtm_at "mine rfl") ?_ | refine e_tup ?_ | refine s_if ?_
  | refine t_cmp ?_ | refine c_one ?_ | refine cm_eq ?_ | refine cm_lt ?_ | refine cm_le ?_ | refine cm_gt ?_ | refine cm_ge ?_ | refine cm_ne ?_ | refine cm_eqB ?_ | refine cm_neB ?_
  | refine t_and ?_ | refine t_or ?_ | refine t_not ?_ | refine ts_cons ?_ | refine ts_nil ?_ | refine to_cons ?_ | refine to_nil ?_ | refine t_loc ?_ | refine t_call ?_ | refine t_prim ?_ | refine t_sub ?_
  | refine tr_bool ?_ | refine tr_none ?_ | refine tr_int ?_ | refine tr_list (by wtm_at "mine ref") ?_
  | refine ite_t ?_ | refine ite_f ?_ | refine ite_nt ?_ | refine ite_nf ?_ | refine ite_tt ?_ | refine ite_ft ?_ | refine ite_tf ?_ | refine ite_ff ?_
  | refine s_tup ?_ | refine bd_var ?_ | refine bd_tup (by wtm_at "mine rfl") ?_ | refine bd_lst (by wtm_at "mine ref") (by wtm_at "mine rfl") ?_
  | refine s_ret ?_ | refine s_nil ?_ | refine s_expr ?_ | refine s_for ?_ | refine s_retN ?_ | refine s_pass ?_ | refine s_set ?_ | refine st_list (by wtm_at "mine ref") (by simp) (by omega) (by simp) ?_ | refine k_ret ?_ | refine k_ret' ?_ | refine k_next' ?_ | refine k_exc ?_
  | refine e_and ?_ | refine e_or ?_ | refine e_not ?_ | refine e_cmp ?_ | refine b_cons ?_ | refine b_one ?_ | refine e_none ?_ | refine e_bool ?_ | refine e_str ?_ | refine e_list ?_ | refine e_prim ?_ | refine e_append ?_ | refine e_neg ?_ | refine e_comp ?_ | refine e_slice ?_ | refine o_none ?_ | refine o_some ?_ | refine e_sorted ?_
  | refine c_cons ?_ | refine cm_isN ?_ | refine cm_isI ?_ | refine cm_isT ?_ | refine cm_isB ?_ | refine cm_isnN ?_ | refine cm_isnI ?_ | refine cm_isnT ?_
  | refine r_pow6 ?_ | refine r_min ?_ | refine r_max ?_ | refine r_len (by wtm_at "mine ref") ?_ | refine r_subL (by wtm_at "mine ref") (by omega) (by wtm_at "mine rfl") ?_
  | refine r_isB ?_ | refine r_isBI ?_ | refine r_isI ?_ | refine r_isIB ?_ | refine r_isT ?_ | refine r_isL (by wtm_at "mine ref") ?_ | refine r_list (by wtm_at "mine ref") ?_ | refine r_tuple (by wtm_at "mine ref") ?_ | refine r_intB ?_ | refine r_addL (by wtm_at "mine ref") (by wtm_at "mine ref") (by simp [cut] <;> omega) ?_ | refine r_sliceL (by wtm_at "mine ref") (by wtm_at "mine rfl") (by wtm_at "mine rfl") ?_
  | refine ite_p (by with_unfolding_all decide) ?_ | refine ite_n (by with_unfolding_all decide) ?_)
local macro_rules | `(tactic| wtm_at "mine") => `(tactic| repeat wtm_at "mine s")

section
variable {d : Nat} {σ : Store} {Q : V → Store → Prop} {X : XPost}
theorem cell05 {xs : List Int} {k : Int} (h : σ[0]? = some (.list (xs.map .int))) (hk : 0 ≤ k) (q : Q (.int (cellAt xs k)) σ) : callW P05 (d + 1) 2 [.ref 0, .int k] σ Q X := by
  refine call_in (fn := f05_2) rfl rfl ?_
  dsimp only [f05_2]
  unfold cellAt at q
  wtm_at "mine"
  rw [List.length_map]
  refine ite_d (fun hl => ?_) fun hl => ?_
  · rw [List.getD_eq_getElem?_getD, List.getElem?_eq_getElem (show k.toNat < xs.length by omega)] at q
    wtm_at "mine"
    refine r_subL h hk (v := .int xs[k.toNat]) ?_ ?_
    · rw [List.getElem?_map, List.getElem?_eq_getElem (show k.toNat < xs.length by omega)]; rfl
    · wtm_at "mine"
      exact q
  · wtm_at "mine"
    rw [List.getD_eq_getElem?_getD, List.getElem?_eq_none (by omega)] at q
    exact q

/-- a place: number, up, left, turned -/
structure Pl where
  n : Int
  u : Int
  l : Int
  t : Bool
noncomputable def Pl.vs (p : Pl) : List V := [.int p.n, .int p.u, .int p.l, .bool p.t]
/-- its rank, by a habit -/
noncomputable def Pl.row (p : Pl) (low : Bool) : List Int := if low then [p.n, p.u, p.l, b2i p.t] else [p.n, p.l, p.u, b2i p.t]
noncomputable def Pl.In (p : Pl) (m : Int) : Prop := 0 ≤ p.n ∧ p.n < m
noncomputable def shV (w h : Int) (b : Bool) : V := .tup [.int w, .int h, hab b]
noncomputable def shD (w h : Int) (b : Bool) : PyData := .tuple [.int w, .int h, habD b]

theorem rank05 {n : Nat} {w h : Int} {bs : List Bool} {p : Pl} (e : σ[n]? = some (.list (bs.map (shV w h)))) (hp : p.In bs.length) (q : Q (.tup ((p.row (bs.getD p.n.toNat true)).map .int)) σ) : callW P05 (d + 1) 0 [.ref n, .tup p.vs] σ Q X := by
  obtain ⟨pn, pu, pl, pt⟩ := p
  obtain ⟨h0, h1⟩ := hp
  dsimp only at h0 h1
  refine call_in (fn := f05_0) rfl rfl ?_
  dsimp only [f05_0, Pl.vs]
  have hg : (bs.map (shV w h))[pn.toNat]? = some (shV w h (bs.getD pn.toNat true)) := by
    rw [List.getElem?_map, List.getD_eq_getElem?_getD, List.getElem?_eq_getElem (show pn.toNat < bs.length by omega)]; rfl
  dsimp only at q
  generalize bs.getD pn.toNat true = b at q hg
  refine s_cut 3 (fun ρ σ' => σ' = σ ∧ ρ = [.ref n, .tup [.int pn, .int pu, .int pl, .bool pt], .int pn, .int pu, .int pl, .bool pt, .int (b2i pt), .undef]) (fun K hK hX => ?_) fun ρ σ' i => ?_
  · dsimp only [List.take]
    cases pt with
    | true => wtm_at "mine"; exact hK _ _ ⟨rfl, rfl⟩
    | false => wtm_at "mine"; exact hK _ _ ⟨rfl, rfl⟩
  obtain ⟨rfl, rfl⟩ := i
  dsimp only [List.drop]
  wtm_at "mine"
  refine r_subL e h0 hg ?_
  dsimp only [shV]
  wtm_at "mine"
  refine cm_low ?_
  cases b with
  | true => wtm_at "mine"; exact q
  | false => wtm_at "mine"; exact q

theorem ahead05 {n : Nat} {w h : Int} {bs : List Bool} {p r : Pl} (e : σ[n]? = some (.list (bs.map (shV w h)))) (hp : p.In bs.length) (hr : r.In bs.length)
    (q : Q (.bool (ltRow (p.row (bs.getD p.n.toNat true)) (r.row (bs.getD r.n.toNat true)))) σ) : callW P05 (d + 2) 1 [.ref n, .tup p.vs, .tup r.vs] σ Q X := by
  refine call_in (fn := f05_1) rfl rfl ?_
  dsimp only [f05_1]
  wtm_at "mine"
  refine rank05 e hp ?_
  wtm_at "mine"
  refine rank05 e hr ?_
  refine cm_ltT ?_
  wtm_at "mine"
  exact q

theorem place05 {xs : List Int} {k m z : Int} (h : σ[0]? = some (.list (xs.map .int))) (hk : 0 ≤ k) (hm : 0 < m) (hz : 0 < z)
    (q : ∀ p : Pl, p.In m → Q (.ref σ.length) (σ ++ [.list p.vs])) : callW P05 (d + 2) 3 [.ref 0, .int k, .int m, .int z] σ Q X := by
  refine call_in (fn := f05_3) rfl rfl ?_
  dsimp only [f05_3]
  repeat (wtm_at "mine"; refine cell05 h (by omega) ?_)
  wtm_at "mine"
  exact q ⟨_, _, _, _⟩ ⟨Int.emod_nonneg _ (by omega), Int.emod_lt_of_pos _ hm⟩

theorem row05 {n : Nat} {p : Pl} {b : Bool} (e : σ[n]? = some (.list p.vs)) (q : Q (.ref σ.length) (σ ++ [.list ((p.row b).map .int)])) : callW P05 (d + 1) 4 [.ref n, hab b] σ Q X := by
  refine call_in (fn := f05_4) rfl rfl ?_
  dsimp only [f05_4]
  obtain ⟨pn, pu, pl, pt⟩ := p
  dsimp only [Pl.vs] at e
  refine s_cons (s_if (t_cmp (e_loc (v := hab b) rfl rfl (c_one (e_str (cm_low ?_))))))
  cases b with
  | true => wtm_at "mine"; exact q
  | false => wtm_at "mine"; exact q

theorem lawAhead05 {n m k : Nat} {p r : Pl} {bs : List Bool} (e : σ[n]? = some (.list p.vs)) (e' : σ[m]? = some (.list r.vs)) (eh : σ[k]? = some (.list (bs.map hab))) (hp : p.In bs.length)
    (q : ∀ x y, Q (.bool (ltRow (p.row (bs.getD p.n.toNat true)) (r.row (bs.getD p.n.toNat true)))) (σ ++ [x] ++ [y])) : callW P05 (d + 2) 5 [.ref n, .ref m, .ref k] σ Q X := by
  refine call_in (fn := f05_5) rfl rfl ?_
  dsimp only [f05_5]
  have hg : (bs.map hab)[p.n.toNat]? = some (hab (bs.getD p.n.toNat true)) := by
    obtain ⟨h0, h1⟩ := hp
    rw [List.getElem?_map, List.getD_eq_getElem?_getD, List.getElem?_eq_getElem (show p.n.toNat < bs.length by omega)]; rfl
  generalize bs.getD p.n.toNat true = b at q hg
  wtm_at "mine"
  refine r_subL eh hp.1 hg ?_
  wtm_at "mine"
  refine row05 e ?_
  wtm_at "mine"
  refine r_subL (get_app eh) hp.1 hg ?_
  wtm_at "mine"
  refine row05 (get_app e') ?_
  have hr : ∃ a₁ a₂ a₃ a₄ b₁ b₂ b₃ b₄, p.row b = [a₁, a₂, a₃, a₄] ∧ r.row b = [b₁, b₂, b₃, b₄] := by
    cases b <;> exact ⟨_, _, _, _, _, _, _, _, rfl, rfl⟩
  obtain ⟨a₁, a₂, a₃, a₄, b₁, b₂, b₃, b₄, ha, hb⟩ := hr
  rw [ha, hb] at q ⊢
  have gl : (σ ++ [O.list ([a₁, a₂, a₃, a₄].map V.int)] ++ [O.list ([b₁, b₂, b₃, b₄].map V.int)])[σ.length]? = some (O.list [.int a₁, .int a₂, .int a₃, .int a₄]) := get_app get_last
  refine ⟨enumL 0 [.int b₁, .int b₂, .int b₃, .int b₄], by simp only [srcItems, enumItems, get_last]; rfl, ?_⟩
  dsimp only [enumL]
  refine fw_cons ?_
  wtm_at "mine"
  wtm_at "mine"
  refine ite_nd (fun h1 => ?_) fun h1 => ?_
  · wtm_at "mine"
    wtm_at "mine"
    refine lk_ret ?_
    wtm_at "mine"
    have := q (O.list ([a₁, a₂, a₃, a₄].map V.int)) (O.list ([b₁, b₂, b₃, b₄].map V.int))
    rw [show ltRow [a₁, a₂, a₃, a₄] [b₁, b₂, b₃, b₄] = decide (a₁ < b₁) by simp [ltRow, h1]] at this
    exact this
  wtm_at "mine"
  refine lk_next rfl (fw_cons ?_)
  wtm_at "mine"
  wtm_at "mine"
  refine ite_nd (fun h2 => ?_) fun h2 => ?_
  · wtm_at "mine"
    wtm_at "mine"
    refine lk_ret ?_
    wtm_at "mine"
    have := q (O.list ([a₁, a₂, a₃, a₄].map V.int)) (O.list ([b₁, b₂, b₃, b₄].map V.int))
    rw [show ltRow [a₁, a₂, a₃, a₄] [b₁, b₂, b₃, b₄] = decide (a₂ < b₂) by simp [ltRow, h1, h2]] at this
    exact this
  wtm_at "mine"
  refine lk_next rfl (fw_cons ?_)
  wtm_at "mine"
  wtm_at "mine"
  refine ite_nd (fun h3 => ?_) fun h3 => ?_
  · wtm_at "mine"
    wtm_at "mine"
    refine lk_ret ?_
    wtm_at "mine"
    have := q (O.list ([a₁, a₂, a₃, a₄].map V.int)) (O.list ([b₁, b₂, b₃, b₄].map V.int))
    rw [show ltRow [a₁, a₂, a₃, a₄] [b₁, b₂, b₃, b₄] = decide (a₃ < b₃) by simp [ltRow, h1, h2, h3]] at this
    exact this
  wtm_at "mine"
  refine lk_next rfl (fw_cons ?_)
  wtm_at "mine"
  wtm_at "mine"
  refine ite_nd (fun h4 => ?_) fun h4 => ?_
  · wtm_at "mine"
    wtm_at "mine"
    refine lk_ret ?_
    wtm_at "mine"
    have := q (O.list ([a₁, a₂, a₃, a₄].map V.int)) (O.list ([b₁, b₂, b₃, b₄].map V.int))
    rw [show ltRow [a₁, a₂, a₃, a₄] [b₁, b₂, b₃, b₄] = decide (a₄ < b₄) by simp [ltRow, h1, h2, h3, h4]] at this
    exact this
  wtm_at "mine"
  refine lk_next rfl (fw_nil ?_)
  wtm_at "mine"
  have := q (O.list ([a₁, a₂, a₃, a₄].map V.int)) (O.list ([b₁, b₂, b₃, b₄].map V.int))
  rw [show ltRow [a₁, a₂, a₃, a₄] [b₁, b₂, b₃, b₄] = false by simp [ltRow, h1, h2, h3, h4]] at this
  exact this

theorem rows_alike {p r : Pl} {bs : List Bool} : ltRow (p.row (bs.getD p.n.toNat true)) (r.row (bs.getD p.n.toNat true)) = ltRow (p.row (bs.getD p.n.toNat true)) (r.row (bs.getD r.n.toNat true)) := by
  by_cases h : p.n = r.n
  · rw [h]
  · unfold Pl.row
    cases bs.getD p.n.toNat true <;> cases bs.getD r.n.toNat true <;> simp [ltRow, h]

theorem take_shelves {w h : Int} {hs : List Bool} : ∀ m : Nat, m ≤ hs.length → (List.range m).filterMap (fun k => some (shV w h (hs.getD k true))) = (hs.take m).map (shV w h)
  | 0, _ => rfl
  | m + 1, hm => by
    rw [List.range_succ, List.filterMap_append, take_shelves m (by omega), List.take_add_one, List.map_append, List.getElem?_eq_getElem (show m < hs.length by omega)]
    simp [List.getD_eq_getElem?_getD, List.getElem?_eq_getElem (show m < hs.length by omega)]
theorem getD_take {hs : List Bool} {n m : Nat} (h : n < m) : (hs.take m).getD n true = hs.getD n true := by
  rw [List.getD_eq_getElem?_getD, List.getD_eq_getElem?_getD, List.getElem?_take_of_lt h]

theorem eq_shelves {n m : Nat} {w h : Int} {bs : List Bool} (e : σ[n]? = some (.list (bs.map (shV w h)))) (e' : σ[m]? = some (.list (bs.map (shV w h)))) : eqV σ (.ref n) (.ref m) = some true := by
  have hd : ∀ b ∈ bs, toD σ 5 (shV w h b) = some (shD w h b) := fun b _ => rfl
  refine eqV_self (toD_map e hd) (toD_map e' hd) (can_map fun b _ => ?_)
  simp only [shD, PyData.canLay0, PyData.canLayAll0, Bool.and_true, Bool.true_and]
  exact can_hab

set_option maxHeartbeats 1000000 in
theorem mix05 {C : Oracle} {x0 x1 x2 x3 x4 x5 x6 x7 x8 x12 x13 x14 x15 : V} {a b : Nat} {p r : Pl} {k : Int} (hk : 0 ≤ k ∧ k ≤ 4) (ea : σ[a]? = some (.list p.vs)) (eb : σ[b]? = some (.list r.vs))
    (q : ∀ (r' : Pl) (s₁ s₂ s₃ s₄ : O), (r'.n = p.n ∨ r'.n = r.n) → Q (.ref (σ ++ [s₁] ++ [s₂] ++ [s₃] ++ [s₄]).length) (σ ++ [s₁] ++ [s₂] ++ [s₃] ++ [s₄] ++ [.list r'.vs])) :
    wpE C (.bin .add (.bin .add (.slice (.loc 9) none (some (.loc 11))) (.slice (.loc 10) (some (.loc 11)) (some (.bin .add (.loc 11) (.int 1))))) (.slice (.loc 9) (some (.bin .add (.loc 11) (.int 1))) none))
      [x0, x1, x2, x3, x4, x5, x6, x7, x8, .ref a, .ref b, .int k, x12, x13, x14, x15] σ Q X := by
  obtain ⟨pn, pu, pl, pt⟩ := p
  obtain ⟨rn, ru, rl, rt⟩ := r
  have : k = 0 ∨ k = 1 ∨ k = 2 ∨ k = 3 ∨ k = 4 := by omega
  dsimp only [Pl.vs] at ea eb
  rcases this with rfl | rfl | rfl | rfl | rfl
  · wtm_at "mine"
    exact q ⟨rn, pu, pl, pt⟩ _ _ _ _ (.inr rfl)
  · wtm_at "mine"
    exact q ⟨pn, ru, pl, pt⟩ _ _ _ _ (.inl rfl)
  · wtm_at "mine"
    exact q ⟨pn, pu, rl, pt⟩ _ _ _ _ (.inl rfl)
  · wtm_at "mine"
    exact q ⟨pn, pu, pl, rt⟩ _ _ _ _ (.inl rfl)
  · wtm_at "mine"
    exact q ⟨pn, pu, pl, pt⟩ _ _ _ _ (.inl rfl)

theorem tail05 {hs : List Bool} {many w h : Int} {n7 n9 n10 : Nat} {p r : Pl} {v5 v6 v8 v11 : V} (hm : 1 ≤ many ∧ many ≤ 9) (hl : hs.length = 9) (hp : p.In many) (hr : r.In many)
    (e1 : σ[1]? = some (.list (hs.map hab))) (e7 : σ[n7]? = some (.list ((hs.take many.toNat).map (shV w h)))) (e9 : σ[n9]? = some (.list p.vs)) (e10 : σ[n10]? = some (.list r.vs)) :
    wpSs (callW P05 59) (f05_6.body.drop 11) [.ref 0, .int many, .int w, .int h, .ref 1, v5, v6, .ref n7, v8, .ref n9, .ref n10, v11, .undef, .undef, .undef, .undef] σ (retK (fun v _ => v = .bool true) X) := by
  dsimp only [f05_6, List.drop]
  have hlen : (hs.take many.toNat).length = many.toNat := by rw [List.length_take]; omega
  have hp' : p.In (hs.take many.toNat).length := by rw [hlen]; exact ⟨hp.1, by have := hp.2; omega⟩
  have hr' : r.In (hs.take many.toNat).length := by rw [hlen]; exact ⟨hr.1, by have := hr.2; omega⟩
  have hp9 : p.In hs.length := ⟨hp.1, by have := hp.2; omega⟩
  have hr9 : r.In hs.length := ⟨hr.1, by have := hr.2; omega⟩
  wtm_at "mine"
  refine ahead05 (by wtm_at "mine ref") hp' hr' ?_
  wtm_at "mine"
  refine ahead05 (by wtm_at "mine ref") hr' hp' ?_
  wtm_at "mine"
  refine cm_neV (eq_shelves (by wtm_at "mine ref") (by wtm_at "mine ref")) ?_
  wtm_at "mine"
  refine lawAhead05 (by wtm_at "mine ref") (by wtm_at "mine ref") (by wtm_at "mine ref") hp9 fun x y => ?_
  rw [getD_take (show p.n.toNat < many.toNat by have := hp.2; have := hp.1; omega), getD_take (show r.n.toNat < many.toNat by have := hr.2; have := hr.1; omega), rows_alike]
  wtm_at "mine"
  rw [beq_self_eq_true]
  wtm_at "mine"
  refine lawAhead05 (by wtm_at "mine ref") (by wtm_at "mine ref") (by wtm_at "mine ref") hr9 fun x y => ?_
  rw [rows_alike]
  wtm_at "mine"
  rw [beq_self_eq_true]

theorem mid05 {xs : List Int} {hs : List Bool} {many w h : Int} {v5 v6 : V} (hm : 1 ≤ many ∧ many ≤ 9) (hl : hs.length = 9) (e0 : σ[0]? = some (.list (xs.map .int))) (e1 : σ[1]? = some (.list (hs.map hab))) :
    wpSs (callW P05 59) (f05_6.body.drop 6) [.ref 0, .int many, .int w, .int h, .ref 1, v5, v6, .undef, .undef, .undef, .undef, .undef, .undef, .undef, .undef, .undef] σ (retK (fun v _ => v = .bool true) X) := by
  refine s_cut 5 (fun ρ σ => ∃ (n7 n9 n10 : Nat) (p r : Pl) (v8 v11 : V), p.In many ∧ r.In many ∧ σ[1]? = some (.list (hs.map hab)) ∧ σ[n7]? = some (.list ((hs.take many.toNat).map (shV w h))) ∧ σ[n9]? = some (.list p.vs) ∧ σ[n10]? = some (.list r.vs) ∧
    ρ = [.ref 0, .int many, .int w, .int h, .ref 1, v5, v6, .ref n7, v8, .ref n9, .ref n10, v11, .undef, .undef, .undef, .undef]) (fun K hK hX => ?_) fun ρ σ i => ?_
  · dsimp only [f05_6, List.take, List.drop]
    wtm_at "mine"
    refine c_range (fun k => some (shV w h (hs.getD k true))) (by omega) (fun k hk K' hK' => ?_) ?_
    · dsimp only [turnC]
      wtm_at "mine"
      refine r_subL e1 (by omega) (v := hab (hs.getD k true)) ?_ ?_
      · rw [Int.toNat_natCast, List.getElem?_map, List.getD_eq_getElem?_getD, List.getElem?_eq_getElem (show k < hs.length by omega)]; rfl
      wtm_at "mine"
      exact hK'
    rw [take_shelves many.toNat (by omega)]
    wtm_at "mine"
    refine cell05 (by wtm_at "mine ref") (by omega) ?_
    wtm_at "mine"
    have hz : ∃ z : Int, 0 < z ∧ ([.int 4, .int 4, .int 1000000] : List V)[(cellAt xs 4 % 3).toNat]? = some (.int z) := by
      have : cellAt xs 4 % 3 = 0 ∨ cellAt xs 4 % 3 = 1 ∨ cellAt xs 4 % 3 = 2 := by omega
      rcases this with h | h | h <;> rw [h] <;> exact ⟨_, by decide, rfl⟩
    obtain ⟨z, hz, hz'⟩ := hz
    refine r_subL get_last (by omega) hz' ?_
    wtm_at "mine"
    refine place05 (by wtm_at "mine ref") (by omega) (by omega) hz fun p hp => ?_
    wtm_at "mine"
    refine place05 (by wtm_at "mine ref") (by omega) (by omega) hz fun r hr => ?_
    wtm_at "mine"
    refine cell05 (by wtm_at "mine ref") (by omega) ?_
    wtm_at "mine"
    refine ite_d (fun h1 => ?_) fun h1 => ?_
    · wtm_at "mine"
      refine cell05 (by wtm_at "mine ref") (by omega) ?_
      wtm_at "mine s"
      wtm_at "mine s"
      wtm_at "mine s"
      wtm_at "mine s"
      wtm_at "mine s"
      refine mix05 (p := p) (r := r) (by omega) (by wtm_at "mine ref") (by wtm_at "mine ref") fun r' s₁ s₂ s₃ s₄ hr' => ?_
      wtm_at "mine"
      have hi : r'.In many := by
        rcases hr' with h | h
        · exact ⟨h ▸ hp.1, h ▸ hp.2⟩
        · exact ⟨h ▸ hr.1, h ▸ hr.2⟩
      exact hK _ _ ⟨_, _, _, p, r', _, _, hp, hi, by wtm_at "mine ref", by wtm_at "mine ref", by wtm_at "mine ref", get_last, rfl⟩
    · wtm_at "mine"
      exact hK _ _ ⟨_, _, _, p, r, _, _, hp, hr, by wtm_at "mine ref", by wtm_at "mine ref", by wtm_at "mine ref", by wtm_at "mine ref", rfl⟩
  obtain ⟨n7, n9, n10, p, r, v8, v11, hp, hr, e1, e7, e9, e10, rfl⟩ := i
  exact tail05 hm hl hp hr e1 e7 e9 e10

theorem law05 (xs : List Int) : callW P05 60 6 [.ref 0] [.list (xs.map .int)] (fun v _ => v = .bool true) (fun _ _ => False) := by
  refine call_in (fn := f05_6) rfl rfl ?_
  refine s_cut 6 (fun ρ σ => ∃ (hs : List Bool) (many w h : Int) (v5 v6 : V), (1 ≤ many ∧ many ≤ 9) ∧ hs.length = 9 ∧ σ[0]? = some (.list (xs.map .int)) ∧ σ[1]? = some (.list (hs.map hab)) ∧
    ρ = [.ref 0, .int many, .int w, .int h, .ref 1, v5, v6, .undef, .undef, .undef, .undef, .undef, .undef, .undef, .undef, .undef]) (fun K hK hX => ?_) fun ρ σ i => ?_
  · dsimp only [f05_6, List.take]
    repeat (wtm_at "mine"; refine cell05 (by wtm_at "mine ref") (by omega) ?_)
    wtm_at "mine"
    refine f_range (fun k ρ σ => ∃ (hs : List Bool) (v5 : Int) (v6 : V), hs.length = k ∧ σ[0]? = some (.list (xs.map .int)) ∧ σ[1]? = some (.list (hs.map hab)) ∧
      ρ = [.ref 0, .int (1 + cellAt xs 0 % 9), .int (1 + cellAt xs 1 % 1000000), .int (1 + cellAt xs 2 % 1000000), .ref 1, .int v5, v6, .undef, .undef, .undef, .undef, .undef, .undef, .undef, .undef, .undef]) (by omega) ?_ (fun k ρ σ K hk hI h1 _ _ _ _ => ?_) fun ρ σ hI => ?_
    · exact ⟨[], _, _, rfl, rfl, rfl, rfl⟩
    · obtain ⟨hs, v5, v6, hl, e0, e1, rfl⟩ := hI
      wtm_at "mine"
      refine ⟨isList_i e1, ?_⟩
      wtm_at "mine"
      have hz : ([.str (Str.ofString "low"), .str (Str.ofString "left")] : List V)[((v5 * 48271 + 11) % 2147483647 / 7 % 2).toNat]? = some (hab (decide ((v5 * 48271 + 11) % 2147483647 / 7 % 2 = 0))) := by
        have : (v5 * 48271 + 11) % 2147483647 / 7 % 2 = 0 ∨ (v5 * 48271 + 11) % 2147483647 / 7 % 2 = 1 := by omega
        rcases this with h | h <;> rw [h] <;> rfl
      refine r_subL get_last (by omega) hz ?_
      refine r_append (get_app e1) (by decide) (by rw [List.length_map]; omega) ?_
      wtm_at "mine"
      refine h1 _ _ ⟨hs ++ [decide ((v5 * 48271 + 11) % 2147483647 / 7 % 2 = 0)], _, _, by simp [hl], get_set_ne (by decide) (get_app e0), ?_, rfl⟩
      rw [get_set_eq (get_app e1), List.map_append]; rfl
    · obtain ⟨hs, v5, v6, hl, e0, e1, rfl⟩ := hI
      wtm_at "mine"
      exact hK _ _ ⟨hs, _, _, _, _, _, by omega, hl, e0, e1, rfl⟩
  obtain ⟨hs, many, w, h, v5, v6, hm, hl, e0, e1, rfl⟩ := i
  exact mid05 hm hl e0 e1
end

end Mine

/-! J05 -/
open PySem PySem.W PyProof.Rows
set_option maxRecDepth 100000 in
set_option maxHeartbeats 8000000 in
theorem PySem.Challenge.cw_uf030015_05_holds : PySem.Challenge.rw_uf030015_05.Holds := by
  w_on
  o_law
  k_head
  case hw => w_witness2
  intro w s₀ s₁ mg mb G Y fa o pm cd doc dV kV ho hd hcd hD hmg hg args vals as hpre hlay hrd hwl hlo
  have T := Ground.T G
  wrow_args hpre hlay hrd hwl hlo
  refine enter_call ?_
  obtain ⟨vs, e, hv⟩ := Mine.well_ints ‹Well _ _ _ _›
  refine Mine.law_go (P := Mine.P05) (extra := 1) (i := 6) (d := 60) T (by kernel_rfl) (by kernel_rfl) (by kernel_rfl) (by decide) hmg hg e hv (by omega) (fun _ => rfl) ?_ (Mine.law05 _)
  wrow_post
