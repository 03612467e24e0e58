import PyProof.Rows.All
import Wide.All
import OpenK.AllK
import Wide.FinOn
import PyProof.P3Statements
import KE.IntText
import PyProof.CompFree
import PyProof.CompUse
import PyProof.Walks
import PyProof.WalksMore
import PyProof.Calls
import PyProof.Cells
import PyProof.Rules2
import PyProof.Rules3
import PyProof.Rows.RuleB_floordiv
import PyProof.Rows.RuleB_mod
import PyProof.Rows.RuleB_sub
import PyProof.PureInt
import PyProof.AutoIntOps
import PyProof.Rows.Chain
import PyProof.MakeMany
import PyProof.TupleIter
import PyProof.TupleOps
import PyProof.ListOps
import PyProof.Rows.TupMore
import PyProof.ListTruth
import PyProof.Truth
import PyProof.Rows.RuleU_int
import PyProof.Rows.IntRules
import PyProof.Rows.StrTemp
import PyProof.ListIndexNeg
import PyProof.Rows.StrRules
import PyProof.P3Eq
import PyProof.P3In
import PyProof.NeData
import PyProof.TupleKey
import PyProof.SliceList
import PyProof.DefCall
import PyProof.RulesAssignMore
import PyProof.Raises
import PyProof.SeqWrite
import PyProof.ForAny
import PyProof.RangeFor
import PyProof.PvWalk
import PyProof.Boot
import KE.KIntText
import PyProof.TupleOfSeq
import PyProof.Rows.ListCopyD
import PyProof.WalkInts
import PyProof.Conv_int_bool
import PyProof.CallStr
import PyProof.IsiSeqPairs
import PyProof.IsiPairs
import PyProof.ForAppend
import KE.KSortTup
import KE.KLam
import PyProof.Rows.CallKwBuiltin
import PySem.Challenge.RW_uf030015_07
set_option Elab.async false

/-! KBase -/
namespace Mine
open PySem

/-! values and stores of the abstract machine -/
inductive V where
  | undef | none | bool (b : Bool) | int (i : Int) | str (s : Str) | tup (vs : List V) | ref (n : Nat)
  deriving Inhabited

inductive O where
  | list (vs : List V)
  | tab (P : Addr)
  | gone
  deriving Inhabited

abbrev Store := List O

inductive Res (α : Type) where
  | ok (a : α) (σ : Store)
  | stuck

noncomputable def Res.bind {α β : Type} : Res α → (α → Store → Res β) → Res β
  | .ok a σ, f => f a σ
  | .stuck, _ => .stuck

@[simp] theorem Res.bind_ok {α β : Type} (a : α) (σ : Store) (f : α → Store → Res β) : (Res.ok a σ).bind f = f a σ := rfl
@[simp] theorem Res.bind_stuck {α β : Type} (f : α → Store → Res β) : (Res.stuck).bind f = .stuck := rfl

noncomputable def Res.ofOpt {α : Type} (σ : Store) : Option α → Res α
  | some a => .ok a σ
  | Option.none => .stuck
@[simp] theorem Res.ofOpt_some {α : Type} (σ : Store) (a : α) : Res.ofOpt σ (some a) = .ok a σ := rfl
@[simp] theorem Res.ofOpt_none {α : Type} (σ : Store) : (Res.ofOpt σ (Option.none : Option α)) = .stuck := rfl

inductive BOp where | add | sub | mul | floordiv | mod | pow
inductive COp where | eq | ne | lt | gt | notin | no
inductive Ty where | int | bool | str | tuple | list
  deriving DecidableEq
inductive SrcK where | range
inductive Pr where | len | list | str | int | isinst (t : Ty)

inductive Pat where
  | var (i : Nat)

inductive E where
  | none | bool (b : Bool) | int (i : Int) | str (s : Str)
  | loc (i : Nat)
  | bin (op : BOp) (a b : E)
  | neg (a : E)
  | not (a : E)
  | and (es : List E) | or (es : List E)
  | cmp (l : E) (ops : List COp) (rs : List E)
  | tup (es : List E) | list (es : List E)
  | sub (a i : E)
  | call (f : Nat) (args : List E)
  | prim (p : Pr) (args : List E)
  | append (o x : E)
  | comp (elt : E) (t : Pat) (k : SrcK) (src : List E) (conds : List E)
  | sortKey (P : Addr) (src : E) (body : E)

inductive S where
  | expr (e : E)
  | ret (e : Option E)
  | assign (p : Pat) (e : E)
  | for_ (p : Pat) (k : SrcK) (src : List E) (body : List S)
  | if_ (c : E) (b o : List S)

/-! operations on values -/
noncomputable def maxLen : Nat := 1000000

noncomputable def truth (σ : Store) : V → Option Bool
  | .bool b => some b
  | _ => Option.none

noncomputable def mapO {α β : Type} (f : α → Option β) : List α → Option (List β)
  | [] => some []
  | a :: as => match f a, mapO f as with
    | some b, some bs => some (b :: bs)
    | _, _ => Option.none

/-- a value as plain data, read at most so deep -/
noncomputable def toD (σ : Store) : Nat → V → Option PyData
  | 0, _ => Option.none
  | n + 1, v => match v with
    | .none => some .none
    | .bool b => some (.bool b)
    | .int i => some (.int i)
    | .str x => some (.str x)
    | .tup vs => (mapO (toD σ n) vs).map PyData.tuple
    | .ref k => match σ[k]? with
      | some (.list vs) => (mapO (toD σ n) vs).map PyData.list
      | _ => Option.none
    | .undef => Option.none

noncomputable def eqV (σ : Store) (a b : V) : Option Bool :=
  match toD σ 6 a, toD σ 6 b with
  | some x, some y => if x.canLay0 && y.canLay0 then some (PyData.eqv x y) else Option.none
  | _, _ => Option.none

noncomputable def inV (σ : Store) (a b : V) : Option Bool :=
  match toD σ 6 a, toD σ 6 b with
  | some x, some (.list ys) => if x.canLay0 && PyData.canLayAll0 ys then some (ys.any fun y => PyData.eqv y x) else Option.none
  | _, _ => Option.none

/-- two ints -/
noncomputable def two? {α : Type} (z : α) (f : Int → Int → α) : V → V → α
  | .int x, .int y => f x y
  | _, _ => z
theorem two_of {α : Type} {z : α} {f : Int → Int → α} {a b : V} {P : α → Prop} (h : P (two? z f a b)) (hz : ¬ P z) : ∃ x y, a = .int x ∧ b = .int y ∧ P (f x y) := by
  unfold two? at h
  split at h
  · exact ⟨_, _, rfl, rfl, h⟩
  · exact absurd h hz
noncomputable def cmpV (σ : Store) (op : COp) (a b : V) : Option Bool :=
  match op with
  | .eq => eqV σ a b
  | .ne => (eqV σ a b).map (!·)
  | .lt => two? Option.none (fun x y => some (decide (x < y))) a b
  | .gt => two? Option.none (fun x y => some (decide (x > y))) a b
  | .notin => (inV σ a b).map (!·)
  | .no => Option.none

noncomputable def small (i : Int) : Bool := decide (-(2 ^ 63) ≤ i) && decide (i < 2 ^ 63)

noncomputable def alloc (o : O) (σ : Store) : Res V := .ok (.ref σ.length) (σ ++ [o])

noncomputable def binI (op : BOp) (x y : Int) (σ : Store) : Res V :=
  match op with
  | .add => .ok (.int (x + y)) σ
  | .sub => .ok (.int (x - y)) σ
  | .mul => if small x || small y then .ok (.int (x * y)) σ else .stuck
  | .floordiv => if y != 0 && small y then .ok (.int (x.fdiv y)) σ else .stuck
  | .mod => if y != 0 then .ok (.int (x.fmod y)) σ else .stuck
  | .pow => if decide (x = 10) && decide (y = 6) then .ok (.int 1000000) σ else .stuck
noncomputable def binV (op : BOp) (a b : V) (σ : Store) : Res V := two? .stuck (fun x y => binI op x y σ) a b

noncomputable def idx (i : Int) (n : Nat) : Option Nat :=
  if 0 ≤ i ∧ i < n then some i.toNat else Option.none

noncomputable def subV (a i : V) (σ : Store) : Res V :=
  match a, i with
  | .tup vs, .int k => if small k then Res.ofOpt σ ((idx k vs.length).bind (vs[·]?)) else .stuck
  | .ref n, .int k => match σ[n]? with
    | some (.list vs) => Res.ofOpt σ ((idx k vs.length).bind (vs[·]?))
    | _ => .stuck
  | _, _ => .stuck

noncomputable def intsOf : List V → Option (List Int)
  | [] => some []
  | .int i :: r => (intsOf r).map (i :: ·)
  | _ => Option.none
noncomputable def rowsOf : List V → Option (List (List Int))
  | [] => some []
  | .tup vs :: r => match intsOf vs, rowsOf r with
    | some a, some b => some (a :: b)
    | _, _ => Option.none
  | _ => Option.none
noncomputable def ltRow : List Int → List Int → Bool
  | [], [] => false
  | [], _ :: _ => true
  | _ :: _, [] => false
  | a :: as, b :: bs => if a = b then ltRow as bs else decide (a < b)

noncomputable def typeIs (σ : Store) (t : Ty) (v : V) : Option Bool :=
  match t with
  | .int => (match v with | .int _ => some true | _ => Option.none)
  | .bool => (match v with | .bool _ => some true | .int _ => some false | _ => Option.none)
  | .str => (match v with | .str _ => some true | _ => Option.none)
  | .tuple => (match v with | .tup _ => some true | _ => Option.none)
  | .list => (match v with
    | .ref n => (match σ[n]? with
      | some (.list _) => some true
      | _ => Option.none)
    | _ => Option.none)

noncomputable def lenV (σ : Store) : V → Res V
  | .ref n => match σ[n]? with
    | some (.list vs) => .ok (.int vs.length) σ
    | _ => .stuck
  | .tup vs => if vs.length ≤ maxLen then .ok (.int vs.length) σ else .stuck
  | _ => .stuck
noncomputable def listV (σ : Store) (f : List V → Res V) : V → Res V
  | .ref n => match σ[n]? with
    | some (.list vs) => f vs
    | _ => .stuck
  | _ => .stuck
noncomputable def strV (σ : Store) : V → Res V
  | .int i => if small i then .ok (.str (Str.ofString (toString i))) σ else .stuck
  | _ => .stuck
noncomputable def toIntV (σ : Store) : V → Res V
  | .str x => if x.length ≤ 640 then Res.ofOpt σ ((intText? x).map .int) else .stuck
  | _ => .stuck
noncomputable def appV (σ : Store) (o v : V) : Res V :=
  match o with
  | .ref n => match σ[n]? with
    | some (.list vs) => if vs.length < maxLen ∧ n ≠ 0 then .ok .none (σ.set n (.list (vs ++ [v]))) else .stuck
    | _ => .stuck
  | _ => .stuck
noncomputable def prim1 (p : Pr) (v : V) (σ : Store) : Res V :=
  match p with
  | .len => lenV σ v
  | .list => listV σ (fun vs => alloc (.list vs) σ) v
  | .str => strV σ v
  | .int => toIntV σ v
  | .isinst t => Res.ofOpt σ ((typeIs σ t v).map .bool)
noncomputable def primV (p : Pr) (args : List V) (σ : Store) : Res V :=
  match args with
  | [v] => prim1 p v σ
  | _ => .stuck

noncomputable def isList (σ : Store) (V : V) : Prop := ∃ n vs, V = .ref n ∧ σ[n]? = some (.list vs)

/-! sources of loops -/
noncomputable def rangeL (a : Int) : Nat → List V
  | 0 => []
  | n + 1 => .int a :: rangeL (a + 1) n
theorem rangeL_at : ∀ (n : Nat) (a : Int) (i : Nat) (v : V), (rangeL a n)[i]? = some v → v = .int (a + i) ∧ i < n
  | 0, _, _, _, h => by simp [rangeL] at h
  | n + 1, a, 0, v, h => by simp [rangeL] at h; exact ⟨by rw [← h]; simp, by omega⟩
  | n + 1, a, i + 1, v, h => by
    rw [rangeL] at h
    obtain ⟨h1, h2⟩ := rangeL_at n (a + 1) i v (by simpa using h)
    exact ⟨by rw [h1]; congr 1; omega, by omega⟩
theorem rangeL_len : ∀ (n : Nat) (a : Int), (rangeL a n).length = n
  | 0, _ => rfl
  | n + 1, a => by rw [rangeL, List.length_cons, rangeL_len n]

noncomputable def rangeItems : List V → Option (List V)
  | [.int b] => if -(2 ^ 62) ≤ b ∧ b ≤ maxLen then some (rangeL 0 b.toNat) else Option.none
  | _ => Option.none
theorem range_inv {Vs items : List V} (h : rangeItems Vs = some items) : ∃ b, Vs = [.int b] ∧ -(2 ^ 62) ≤ b ∧ b ≤ maxLen ∧ items = rangeL 0 b.toNat := by
  unfold rangeItems at h
  split at h
  · split at h
    · rename_i hb; cases h; exact ⟨_, rfl, hb.1, hb.2, rfl⟩
    · cases h
  · cases h
/-- the items of a loop's source -/
noncomputable def srcItems (k : SrcK) (args : List V) (σ : Store) : Option (List V) := rangeItems args
noncomputable def srcSame (k : SrcK) (args : List V) (σ σ' : Store) : Prop := True

noncomputable def bindTo (σ : Store) (p : Pat) (v : V) (ρ : List V) : Option (List V) :=
  match p with
  | .var i => some (ρ.set i v)

/-! weakest preconditions: Q behind a value, X behind an exception (its class's number) -/
noncomputable def Res.to (r : Res α) (Q : α → Store → Prop) : Prop :=
  match r with
  | .ok v σ => Q v σ
  | .stuck => False

abbrev XPost := Nat → Store → Prop
abbrev Oracle := Nat → List V → Store → (V → Store → Prop) → XPost → Prop

/-- a comprehension's turns -/
noncomputable def compW (turn : V → Store → (Option V → Store → Prop) → Prop) (same : Store → Prop) : List V → List V → Store → (List V → Store → Prop) → Prop
  | [], acc, σ, Q => Q acc σ
  | v :: vs, acc, σ, Q => turn v σ fun r σ' => same σ' ∧ compW turn same vs (acc ++ r.toList) σ' Q

/-- a sort's keys -/
noncomputable def keysW (key : V → Store → (V → Store → Prop) → Prop) : List V → List V → Store → (List V → Store → Prop) → Prop
  | [], acc, σ, Q => Q acc σ
  | v :: vs, acc, σ, Q => key v σ fun k σ' => keysW key vs (acc ++ [k]) σ' Q
/-- ahead of it in a sort that keeps the order of what is alike -/
noncomputable def ahead (ks : List (List Int)) (i j : Nat) : Prop := ltRow (ks.getD i []) (ks.getD j []) = true ∨ (ltRow (ks.getD j []) (ks.getD i []) = false ∧ i < j)

mutual
noncomputable def wpE (C : Oracle) : E → List V → Store → (V → Store → Prop) → XPost → Prop
  | .none, _, σ, Q, _ => Q .none σ
  | .bool b, _, σ, Q, _ => Q (.bool b) σ
  | .int i, _, σ, Q, _ => Q (.int i) σ
  | .str s, _, σ, Q, _ => Q (.str s) σ
  | .loc i, ρ, σ, Q, _ => match ρ[i]? with
    | some .undef => False
    | some v => Q v σ
    | Option.none => False
  | .bin op a b, ρ, σ, Q, X => wpE C a ρ σ (fun x σ₁ => wpE C b ρ σ₁ (fun y σ₂ => (binV op x y σ₂).to Q) X) X
  | .neg a, ρ, σ, Q, X => wpE C a ρ σ (fun x σ₁ => match x with
    | .int i => Q (.int (-i)) σ₁
    | _ => False) X
  | .not a, ρ, σ, Q, X => wpE C a ρ σ (fun x σ₁ => match truth σ₁ x with
    | some b => Q (.bool (!b)) σ₁
    | Option.none => False) X
  | .and es, ρ, σ, Q, X => wpB C true es ρ σ Q X
  | .or es, ρ, σ, Q, X => wpB C false es ρ σ Q X
  | .cmp l ops rs, ρ, σ, Q, X => wpE C l ρ σ (fun x σ₁ => wpC C ops rs x ρ σ₁ (fun b σ₂ => Q (.bool b) σ₂) X) X
  | .tup es, ρ, σ, Q, X => wpL C es ρ σ (fun vs σ₁ => Q (.tup vs) σ₁) X
  | .list es, ρ, σ, Q, X => wpL C es ρ σ (fun vs σ₁ => Q (.ref σ₁.length) (σ₁ ++ [.list vs])) X
  | .sub a i, ρ, σ, Q, X => wpE C a ρ σ (fun x σ₁ => wpE C i ρ σ₁ (fun y σ₂ => (subV x y σ₂).to Q) X) X
  | .call f args, ρ, σ, Q, X => wpL C args ρ σ (fun vs σ₁ => C f vs σ₁ Q X) X
  | .prim p args, ρ, σ, Q, X => wpL C args ρ σ (fun vs σ₁ => (primV p vs σ₁).to Q) X
  | .append o x, ρ, σ, Q, X => wpE C o ρ σ (fun V σ₁ => isList σ₁ V ∧ wpE C x ρ σ₁ (fun W σ₂ => (appV σ₂ V W).to Q) X) X
  | .comp elt t k src conds, ρ, σ, Q, X => wpL C src ρ σ (fun vs σ₁ => ∃ items, srcItems k vs σ₁ = some items ∧ items.length ≤ maxLen ∧
      compW (fun v σ₂ R => match bindTo σ₂ t v ρ with
        | some ρ' => wpTs C conds ρ' σ₂ (fun b σ₃ => if b then wpE C elt ρ' σ₃ (fun x σ₄ => R (some x) σ₄) X else R Option.none σ₃) X
        | Option.none => False) (srcSame k vs σ₁) items [] σ₁ fun ys σ₂ => Q (.ref σ₂.length) (σ₂ ++ [.list ys])) X
  | .sortKey P src body, ρ, σ, Q, X => wpE C src ρ σ (fun v σ₁ => ∃ n vs, v = .ref n ∧ σ₁[1]? = some (.tab P) ∧ σ₁[n]? = some (.list vs) ∧ vs.length < 64 ∧ keysW (fun y σ₂ R => wpE C body [y] σ₂ R X) vs [] (σ₁.set 1 .gone)
      fun ks σ₂ => ∃ rs, rowsOf ks = some rs ∧ (∀ r ∈ rs, r ≠ []) ∧ ∀ p : List Nat, p.Perm (List.range vs.length) → p.Pairwise (ahead rs) → Q (.ref σ₂.length) (σ₂ ++ [.list (p.map fun i => vs.getD i .none)])) X
noncomputable def wpO (C : Oracle) : Option E → List V → Store → (Option V → Store → Prop) → XPost → Prop
  | Option.none, _, σ, Q, _ => Q Option.none σ
  | some e, ρ, σ, Q, X => wpE C e ρ σ (fun v σ₁ => Q (some v) σ₁) X
noncomputable def wpL (C : Oracle) : List E → List V → Store → (List V → Store → Prop) → XPost → Prop
  | [], _, σ, Q, _ => Q [] σ
  | e :: es, ρ, σ, Q, X => wpE C e ρ σ (fun v σ₁ => wpL C es ρ σ₁ (fun vs σ₂ => Q (v :: vs) σ₂) X) X
/-- and (d = true), or (d = false): the value -/
noncomputable def wpB (C : Oracle) (d : Bool) : List E → List V → Store → (V → Store → Prop) → XPost → Prop
  | [], _, _, _, _ => False
  | e :: es, ρ, σ, Q, X => wpE C e ρ σ (fun v σ₁ => if es.isEmpty then Q v σ₁ else match truth σ₁ v with
    | some b => if b == d then wpB C d es ρ σ₁ Q X else Q v σ₁
    | Option.none => False) X
/-- a chain of comparisons: its value -/
noncomputable def wpC (C : Oracle) : List COp → List E → V → List V → Store → (Bool → Store → Prop) → XPost → Prop
  | op :: ops, r :: rs, x, ρ, σ, Q, X => wpE C r ρ σ (fun y σ₁ => match cmpV σ₁ op x y with
    | some b => if ops.isEmpty || !b then Q b σ₁ else wpC C ops rs y ρ σ₁ Q X
    | Option.none => False) X
  | _, _, _, _, _, _, _ => False
/-- a test -/
noncomputable def wpT (C : Oracle) : E → ((V → Store → Prop) → XPost → Prop) → List V → Store → (Bool → Store → Prop) → XPost → Prop
  | .not a, _, ρ, σ, Q, X => wpT C a (wpE C a ρ σ) ρ σ (fun b σ₁ => Q (!b) σ₁) X
  | .and es, _, ρ, σ, Q, X => wpTs C es ρ σ Q X
  | .or es, _, ρ, σ, Q, X => wpTo C es ρ σ Q X
  | .cmp l ops rs, _, ρ, σ, Q, X => wpE C l ρ σ (fun x σ₁ => wpC C ops rs x ρ σ₁ Q X) X
  | _, whole, _, _, Q, X => whole (fun v σ₁ => match truth σ₁ v with
    | some b => Q b σ₁
    | Option.none => False) X
noncomputable def wpTs (C : Oracle) : List E → List V → Store → (Bool → Store → Prop) → XPost → Prop
  | [], _, σ, Q, _ => Q true σ
  | e :: es, ρ, σ, Q, X => wpT C e (wpE C e ρ σ) ρ σ (fun b σ₁ => if b then wpTs C es ρ σ₁ Q X else Q false σ₁) X
noncomputable def wpTo (C : Oracle) : List E → List V → Store → (Bool → Store → Prop) → XPost → Prop
  | [], _, σ, Q, _ => Q false σ
  | e :: es, ρ, σ, Q, X => wpT C e (wpE C e ρ σ) ρ σ (fun b σ₁ => if b then Q true σ₁ else wpTo C es ρ σ₁ Q X) X
end

inductive Fl where
  | next | brk | cont
  | ret (v : V)
  | exc (c : Nat)

abbrev Post := Fl → List V → Store → Prop

noncomputable def forW (turn : V → List V → Store → Post → Prop) (same : Store → Prop) : List V → List V → Store → Post → Prop
  | [], ρ, σ, Q => Q .next ρ σ
  | v :: vs, ρ, σ, Q => turn v ρ σ fun fl ρ' σ' => match fl with
    | .next => same σ' ∧ forW turn same vs ρ' σ' Q
    | .cont => same σ' ∧ forW turn same vs ρ' σ' Q
    | .brk => Q .next ρ' σ'
    | .ret x => Q (.ret x) ρ' σ'
    | .exc c => Q (.exc c) ρ' σ'

mutual
noncomputable def wpS (C : Oracle) : S → List V → Store → Post → Prop
  | .expr e, ρ, σ, Q => wpE C e ρ σ (fun _ σ₁ => Q .next ρ σ₁) (fun c σ₁ => Q (.exc c) ρ σ₁)
  | .ret e, ρ, σ, Q => wpO C e ρ σ (fun v σ₁ => Q (.ret (v.getD .none)) ρ σ₁) (fun c σ₁ => Q (.exc c) ρ σ₁)
  | .assign p e, ρ, σ, Q => wpE C e ρ σ (fun v σ₁ => match bindTo σ₁ p v ρ with
    | some ρ' => Q .next ρ' σ₁
    | Option.none => False) (fun c σ₁ => Q (.exc c) ρ σ₁)
  | .for_ p k src body, ρ, σ, Q => wpL C src ρ σ (fun vs σ₁ => ∃ items, srcItems k vs σ₁ = some items ∧
      forW (fun v ρ₁ σ₂ R => match bindTo σ₂ p v ρ₁ with
        | some ρ₂ => wpSs C body ρ₂ σ₂ R
        | Option.none => False) (srcSame k vs σ₁) items ρ σ₁ Q) (fun c σ₁ => Q (.exc c) ρ σ₁)
  | .if_ c b o, ρ, σ, Q => wpT C c (wpE C c ρ σ) ρ σ (fun t σ₁ => if t then wpSs C b ρ σ₁ Q else wpSs C o ρ σ₁ Q) (fun c σ₁ => Q (.exc c) ρ σ₁)
noncomputable def wpSs (C : Oracle) : List S → List V → Store → Post → Prop
  | [], ρ, σ, Q => Q .next ρ σ
  | s :: ss, ρ, σ, Q => wpS C s ρ σ fun fl ρ₁ σ₁ => match fl with
    | .next => wpSs C ss ρ₁ σ₁ Q
    | fl => Q fl ρ₁ σ₁
end

/-- a function: how many parameters, how many slots, its body -/
structure Fn where
  params : Nat
  slots : Nat
  body : List S

/-- how deep the calls within must be able to go -/
noncomputable def needOf : List S → Nat
  | [.ret (some (.sortKey _ _ _))] => 2
  | _ => 0

/-- calls, at most so deep -/
noncomputable def callW (P : List Fn) : Nat → Oracle
  | 0 => fun _ _ _ _ _ => False
  | d + 1 => fun f args σ Q X => match P[f]? with
    | some fn => args.length = fn.params ∧ needOf fn.body ≤ d ∧ wpSs (callW P d) fn.body (args ++ List.replicate (fn.slots - fn.params) V.undef) σ fun fl _ σ' => match fl with
      | .ret v => Q v σ'
      | .next => Q .none σ'
      | .exc c => X c σ'
      | _ => False
    | Option.none => False

/-! the reading of Python's trees -/
inductive Gl where
  | fn (i : Nat)

abbrev GlT := List (Str × Gl)
abbrev Vs := List (Str × Nat)

noncomputable def cBin : Operator → Option BOp
  | .Add => some .add | .Sub => some .sub | .Mult => some .mul | .FloorDiv => some .floordiv | .Mod => some .mod | .Pow => some .pow | _ => Option.none
noncomputable def cCmp : CmpOp → COp
  | .Eq => .eq | .NotEq => .ne | .Lt => .lt | .Gt => .gt | .NotIn => .notin | _ => .no

noncomputable def isGlob (sc : Scope) (x : Str) : Bool := sc.names.lookup x == some NameKind.globalImplicit
noncomputable def isVar (sc : Scope) (x : Str) : Bool := match sc.names.lookup x with
  | some .local | some .cell | some .free => true
  | _ => false

noncomputable def ownOf (sc : Scope) : List Str := (sc.names.filter fun x => (x.2 == .local || x.2 == .cell) && x.1 != (".0" : Str)).map (·.1)
noncomputable def slotsFrom : Nat → List Str → Vs
  | _, [] => []
  | n, x :: r => (x, n) :: slotsFrom (n + 1) r
noncomputable def compVs (sc : Scope) (vs : Vs) (nx : Nat) : Vs := slotsFrom nx (ownOf sc) ++ (sc.names.filter (·.2 == .free)).filterMap fun x => (vs.lookup x.1).map (x.1, ·)

/-- the def that sorts by a key of two fields, turned -/
noncomputable def keyFn (P : Addr) : Fn := ⟨1, 1, [.ret (some (.sortKey P (.loc 0) (.tup [.neg (.sub (.loc 0) (.int 2)), .neg (.sub (.loc 0) (.int 1))])))]⟩

end Mine

/-! KSim -/
namespace Mine
open PySem

mutual
/-- the value v of the heap stands for V -/
noncomputable def Rel (h : Heap) (φ : List Addr) : V → Value → Prop
  | .undef, _ => False
  | .none, v => v = .none
  | .bool b, v => v = .bool b
  | .int i, v => ∃ t, v = .int i t
  | .str s, v => ∃ t, v = .str s t
  | .tup vs, v => ∃ a items n, v = .ref a ∧ h.get? a = some { cls := .type "tuple", data := .seq items n } ∧ RelL h φ vs items.toList
  | .ref n, v => ∃ a, v = .ref a ∧ φ[n]? = some a
noncomputable def RelL (h : Heap) (φ : List Addr) : List V → List Value → Prop
  | [], [] => True
  | V :: Vs, v :: vs => Rel h φ V v ∧ RelL h φ Vs vs
  | [], _ :: _ => False
  | _ :: _, [] => False
end

noncomputable def RelO (h : Heap) (φ : List Addr) : O → Addr → Prop
  | .list vs, a => ∃ items, h.PlainList a items ∧ RelL h φ vs items.toList ∧ vs.length ≤ 2 ^ 20
  | .tab P, a => a = P ∧ h.get? a = some { cls := .none, data := .fields #[] }
  | .gone, a => ∃ us, h.get? a = some { cls := .none, data := .fields us }

/-- a store's object is there -/
theorem RelO.there {h : Heap} {φ : List Addr} {o : O} {a : Addr} (x : RelO h φ o a) : ∃ ob, h.get? a = some ob := by
  cases o with
  | list vs => obtain ⟨_, ⟨_, e⟩, _⟩ := x; exact ⟨_, e⟩
  | tab P => exact ⟨_, x.2⟩
  | gone => obtain ⟨_, e⟩ := x; exact ⟨_, e⟩

structure Sim (h₀ h : Heap) (φ : List Addr) (σ : Store) : Prop where
  keep : ∀ b o, h₀.get? b = some o → h.get? b = some o
  len : φ.length = σ.length
  nodup : φ.Nodup
  new : ∀ (n : Nat) a, φ[n + 1]? = some a → h₀.get? a = none
  obj : ∀ (n : Nat) o, σ[n]? = some o → ∃ a, φ[n]? = some a ∧ RelO h φ o a

/-- all but the store's objects, and what is the frame's own, stays -/
noncomputable def Keep (φ : List Addr) (own : Addr → Prop) (h h' : Heap) : Prop := ∀ b o, b ∉ φ → ¬ own b → h.get? b = some o → h'.get? b = some o

noncomputable def noOwn : Addr → Prop := fun _ => False

theorem Keep.refl (φ : List Addr) (own : Addr → Prop) (h : Heap) : Keep φ own h h := fun _ _ _ _ e => e
theorem Keep.mono {φ φ' : List Addr} {own own' : Addr → Prop} {h h' : Heap} (k : Keep φ own h h') (hφ : ∀ a ∈ φ, a ∈ φ') (ho : ∀ a, own a → own' a) : Keep φ' own' h h' :=
  fun b o h1 h2 e => k b o (fun m => h1 (hφ b m)) (fun m => h2 (ho b m)) e

/-- an address whose object is no tuple -/
noncomputable def NoTup (h : Heap) (a : Addr) : Prop := ∀ o items n, h.get? a = some o → o.cls = .type "tuple" → o.data = .seq items n → False

theorem RelL.length {h : Heap} {φ : List Addr} : ∀ {Vs : List V} {vs : List Value}, RelL h φ Vs vs → Vs.length = vs.length
  | [], [], _ => rfl
  | _ :: _, _ :: _, x => by rw [RelL] at x; simp [RelL.length x.2]
  | [], _ :: _, x => by rw [RelL] at x; exact x.elim
  | _ :: _, [], x => by rw [RelL] at x; exact x.elim

theorem RelL.get {h : Heap} {φ : List Addr} : ∀ {Vs : List V} {vs : List Value} {i : Nat} {V : V}, RelL h φ Vs vs → Vs[i]? = some V → ∃ v, vs[i]? = some v ∧ Rel h φ V v
  | _ :: _, _ :: _, 0, _, x, e => by rw [RelL] at x; simp at e; subst e; exact ⟨_, rfl, x.1⟩
  | _ :: _, _ :: _, i + 1, _, x, e => by rw [RelL] at x; simp at e; simpa using RelL.get x.2 e
  | [], _, _, _, _, e => by simp at e
  | _ :: _, [], _, _, x, _ => by rw [RelL] at x; exact x.elim
theorem RelL.get' {h : Heap} {φ : List Addr} : ∀ {Vs : List V} {vs : List Value} {i : Nat} {v : Value}, RelL h φ Vs vs → vs[i]? = some v → ∃ V, Vs[i]? = some V ∧ Rel h φ V v
  | _ :: _, _ :: _, 0, _, x, e => by rw [RelL] at x; simp at e; subst e; exact ⟨_, rfl, x.1⟩
  | _ :: _, _ :: _, i + 1, _, x, e => by rw [RelL] at x; simp at e; simpa using RelL.get' x.2 e
  | [], [], _, _, _, e => by simp at e
  | [], _ :: _, _, _, x, _ => by rw [RelL] at x; exact x.elim
  | _ :: _, [], _, _, x, _ => by rw [RelL] at x; exact x.elim
theorem RelL.append {h : Heap} {φ : List Addr} : ∀ {Vs Ws : List V} {vs ws : List Value}, RelL h φ Vs vs → RelL h φ Ws ws → RelL h φ (Vs ++ Ws) (vs ++ ws)
  | [], _, [], _, _, y => y
  | _ :: _, _, _ :: _, _, x, y => by rw [RelL] at x; simp only [List.cons_append]; rw [RelL]; exact ⟨x.1, RelL.append x.2 y⟩
  | [], _, _ :: _, _, x, _ => by rw [RelL] at x; exact x.elim
  | _ :: _, _, [], _, x, _ => by rw [RelL] at x; exact x.elim

mutual
theorem Rel.keep {h h' : Heap} {φ φ' : List Addr} {own : Addr → Prop} (k : Keep φ own h h') (hp : φ <+: φ') (ht : ∀ a, a ∈ φ ∨ own a → NoTup h a) :
    ∀ (V : V) (v : Value), Rel h φ V v → Rel h' φ' V v
  | .undef, _, x => by rw [Rel] at x; exact x.elim
  | .none, _, x => by rw [Rel] at x ⊢; exact x
  | .bool _, _, x => by rw [Rel] at x ⊢; exact x
  | .int _, _, x => by rw [Rel] at x ⊢; exact x
  | .str _, _, x => by rw [Rel] at x ⊢; exact x
  | .tup Vs, _, x => by
    rw [Rel] at x ⊢
    obtain ⟨a, items, n, e, g, r⟩ := x
    exact ⟨a, items, n, e, k a _ (fun m => ht a (.inl m) _ items n g rfl rfl) (fun m => ht a (.inr m) _ items n g rfl rfl) g, RelL.keep k hp ht Vs _ r⟩
  | .ref n, _, x => by
    rw [Rel] at x ⊢
    obtain ⟨a, e, g⟩ := x
    refine ⟨a, e, ?_⟩
    obtain ⟨t, rfl⟩ := hp
    rw [List.getElem?_append_left]
    · exact g
    · exact (List.getElem?_eq_some_iff.mp g).1
theorem RelL.keep {h h' : Heap} {φ φ' : List Addr} {own : Addr → Prop} (k : Keep φ own h h') (hp : φ <+: φ') (ht : ∀ a, a ∈ φ ∨ own a → NoTup h a) :
    ∀ (Vs : List V) (vs : List Value), RelL h φ Vs vs → RelL h' φ' Vs vs
  | [], [], _ => by rw [RelL]; trivial
  | V :: Vs, v :: vs, x => by rw [RelL] at x ⊢; exact ⟨Rel.keep k hp ht V v x.1, RelL.keep k hp ht Vs vs x.2⟩
  | [], _ :: _, x => by rw [RelL] at x; exact x.elim
  | _ :: _, [], x => by rw [RelL] at x; exact x.elim
end

theorem Sim.mem {h₀ h : Heap} {φ : List Addr} {σ : Store} (x : Sim h₀ h φ σ) {a : Addr} (m : a ∈ φ) : ∃ (n : Nat) (o : O), φ[n]? = some a ∧ σ[n]? = some o ∧ RelO h φ o a := by
  obtain ⟨n, hn, rfl⟩ := List.mem_iff_getElem.mp m
  have hs : n < σ.length := x.len ▸ hn
  obtain ⟨a, e, r⟩ := x.obj n σ[n] (by simp [hs])
  refine ⟨n, σ[n], by simp [hn], by simp [hs], ?_⟩
  have : φ[n] = a := by simpa [hn] using e
  rw [this]; exact r

theorem RelO.noTup {h : Heap} {φ : List Addr} {o : O} {a : Addr} (x : RelO h φ o a) : NoTup h a := by
  cases o with
  | list vs =>
    obtain ⟨items, ⟨n, e⟩, _⟩ := x
    intro o' items' n' e' c' _
    rw [e] at e'; cases e'; simp at c'
  | tab P => intro o' items' n' e' c' _; rw [x.2] at e'; cases e'; cases c'
  | gone => obtain ⟨_, e⟩ := x; intro o' items' n' e' c' _; rw [e] at e'; cases e'; cases c'

theorem Sim.noTup {h₀ h : Heap} {φ : List Addr} {σ : Store} (x : Sim h₀ h φ σ) {a : Addr} (m : a ∈ φ) : NoTup h a := by
  obtain ⟨_, _, _, _, r⟩ := x.mem m
  exact r.noTup

theorem Sim.lt {h₀ h : Heap} {φ : List Addr} {σ : Store} (x : Sim h₀ h φ σ) {a : Addr} (m : a ∈ φ) : a < h.objs.size := by
  obtain ⟨_, o, _, _, r⟩ := x.mem m
  obtain ⟨_, e⟩ := r.there
  exact Heap.lt_size e

/-- what is built anew leaves all as it was -/
theorem keep_push (φ : List Addr) (own : Addr → Prop) (h : Heap) (o : Obj) : Keep φ own h (h.push o) := fun _ _ _ _ e => Heap.get?_push_of_some o e

theorem RelO.keepAll {h h' : Heap} {φ φ' : List Addr} {o : O} {a : Addr} (x : RelO h φ o a) (k : ∀ b ob, h.get? b = some ob → h'.get? b = some ob) (hp : φ <+: φ') (ht : ∀ a, a ∈ φ → NoTup h a) : RelO h' φ' o a := by
  cases o with
  | list vs =>
    obtain ⟨items, p, r, z⟩ := x
    exact ⟨items, p.at fun o e => k a o e, RelL.keep (own := noOwn) (fun b o _ _ e => k b o e) hp (fun a m => m.elim (ht a) fun f => f.elim) _ _ r, z⟩
  | tab P => exact ⟨x.1, k _ _ x.2⟩
  | gone => obtain ⟨us, e⟩ := x; exact ⟨us, k _ _ e⟩

/-- a heap that keeps all that there was: the store stands -/
theorem Sim.keeps {h₀ h h' : Heap} {φ : List Addr} {σ : Store} (x : Sim h₀ h φ σ) (k : ∀ b o, h.get? b = some o → h'.get? b = some o) : Sim h₀ h' φ σ where
  keep := fun b o e => k b o (x.keep b o e)
  len := x.len
  nodup := x.nodup
  new := x.new
  obj := fun n o e => let ⟨a, g, r⟩ := x.obj n o e; ⟨a, g, r.keepAll k (List.prefix_refl _) fun a m => x.noTup m⟩

/-- a heap that keeps the store's objects and what the tuples are made of -/
theorem Sim.keepOwn {h₀ h h' : Heap} {φ : List Addr} {σ : Store} {own : Addr → Prop} (x : Sim h₀ h φ σ) (k : ∀ b o, ¬ own b → h.get? b = some o → h'.get? b = some o)
    (ho : ∀ a, own a → NoTup h a ∧ a ∉ φ ∧ h₀.get? a = none) : Sim h₀ h' φ σ where
  keep := fun b o e => k b o (fun m => by rw [(ho b m).2.2] at e; cases e) (x.keep b o e)
  len := x.len
  nodup := x.nodup
  new := x.new
  obj := fun n o e => by
    obtain ⟨a, g, r⟩ := x.obj n o e
    refine ⟨a, g, ?_⟩
    cases o with
    | list vs =>
      obtain ⟨items, p, r, z⟩ := r
      refine ⟨items, p.at fun o e => k a o (fun m => (ho a m).2.1 (List.mem_of_getElem? g)) e, ?_, z⟩
      exact RelL.keep (own := own) (fun b o _ h2 e => k b o h2 e) (List.prefix_refl _) (fun a m => m.elim (fun m => x.noTup m) fun m => (ho a m).1) _ _ r
    | tab P => exact ⟨r.1, k _ _ (fun m => (ho a m).2.1 (List.mem_of_getElem? g)) r.2⟩
    | gone => obtain ⟨us, e⟩ := r; exact ⟨us, k _ _ (fun m => (ho a m).2.1 (List.mem_of_getElem? g)) e⟩

/-- a new list of the store -/
theorem Sim.alloc {h₀ h h' : Heap} {φ : List Addr} {σ : Store} (x : Sim h₀ h φ σ) {a : Addr} {vs : List V} {items : Array Value} (k : ∀ b o, h.get? b = some o → h'.get? b = some o)
    (hp : h'.PlainList a items) (hn : h.get? a = none) (hr : RelL h' φ vs items.toList) (hz : vs.length ≤ 2 ^ 20) : Sim h₀ h' (φ ++ [a]) (σ ++ [.list vs]) where
  keep := fun b o e => k b o (x.keep b o e)
  len := by simp [x.len]
  nodup := by
    rw [List.nodup_append]
    refine ⟨x.nodup, by simp, fun b hb c hc => ?_⟩
    simp at hc; subst hc
    intro e; subst e
    obtain ⟨_, o, _, _, r⟩ := x.mem hb
    obtain ⟨_, e⟩ := r.there
    rw [hn] at e; cases e
  new := fun m b hb => by
    by_cases hlt : m + 1 < φ.length
    · rw [List.getElem?_append_left hlt] at hb
      exact x.new m b hb
    · rw [List.getElem?_append_right (by omega)] at hb
      have : b = a := by
        have := List.mem_of_getElem? hb
        simpa using this
      subst this
      cases q : h₀.get? b with
      | none => rfl
      | some o => have := x.keep b o q; rw [hn] at this; cases this
  obj := fun n o e => by
    by_cases hlt : n < σ.length
    · rw [List.getElem?_append_left hlt] at e
      obtain ⟨b, g, r⟩ := x.obj n o e
      refine ⟨b, ?_, r.keepAll k (List.prefix_append _ _) fun a m => x.noTup m⟩
      rw [List.getElem?_append_left (by rw [x.len]; exact hlt)]; exact g
    · have hn' : n = σ.length := by
        have := (List.getElem?_eq_some_iff.mp e).1
        simp at this; omega
      subst hn'
      simp at e; subst e
      refine ⟨a, by rw [← x.len]; simp, items, hp, ?_, hz⟩
      refine RelL.keep (own := noOwn) (Keep.refl _ _ _) (List.prefix_append _ _) (fun b m => m.elim (fun m => ?_) fun f => f.elim) _ _ hr
      obtain ⟨_, o, _, _, r⟩ := (x.keeps k).mem m
      exact r.noTup

end Mine

/-! KFrame -/
namespace Mine
open PySem PySem.Calls

/-- where the frame's names stand -/
structure FrS (h₀ h : Heap) (φ : List Addr) (env : Env) (vs : Vs) (ρ : List V) : Prop where
  fn : env.scope.kind = .function
  glob : env.globals = mainGlobals
  blt : env.builtins = builtinsNs
  locNew : h₀.get? env.locals = none
  locOut : env.locals ∉ φ
  inj : ∀ x y i, vs.lookup x = some i → vs.lookup y = some i → x = y
  ns : ∃ m, h.Ns env.locals m ∧ ∀ x i V, vs.lookup x = some i → env.kindOf x = some .local → ρ[i]? = some V → V ≠ .undef → ∃ v, m x = some v ∧ Rel h φ V v
  cell : ∀ x i, vs.lookup x = some i → env.kindOf x = some .cell ∨ env.kindOf x = some .free →
    ∃ c ov, env.cells.lookup x = some c ∧ c ∉ φ ∧ h₀.get? c = none ∧ h.IsCell c ov ∧ ∀ V, ρ[i]? = some V → V ≠ .undef → ∃ v, ov = some v ∧ Rel h φ V v
  cellInj : ∀ x y i j c, vs.lookup x = some i → vs.lookup y = some j → env.cells.lookup x = some c → env.cells.lookup y = some c → x = y

/-- the addresses of a frame -/
noncomputable def frameOwn (env : Env) (vs : Vs) : Addr → Prop := fun a => a = env.locals ∨ ∃ x i, vs.lookup x = some i ∧ env.kindOf x = some .cell ∧ env.cells.lookup x = some a

theorem noTup_ns {h : Heap} {a : Addr} {m : Str → Option Value} (x : h.Ns a m) : NoTup h a := by
  obtain ⟨o, es, ep, e, d, _⟩ := x
  intro o' items n e' _ d'
  rw [e] at e'; cases e'; rw [d] at d'; cases d'
theorem noTup_cell {h : Heap} {a : Addr} {v : Option Value} (x : h.IsCell a v) : NoTup h a := by
  obtain ⟨o, e, d⟩ := x
  intro o' items n e' _ d'
  rw [e] at e'; cases e'; rw [d] at d'; cases d'

theorem FrS.keep {h₀ h h' : Heap} {φ φ' : List Addr} {σ : Store} {env : Env} {vs : Vs} {ρ : List V} (F : FrS h₀ h φ env vs ρ) (x : Sim h₀ h φ σ) (k : Keep φ noOwn h h') (hp : φ <+: φ')
    (hnew : ∀ a ∈ φ', a ∈ φ ∨ h.get? a = none) : FrS h₀ h' φ' env vs ρ where
  fn := F.fn
  glob := F.glob
  blt := F.blt
  locNew := F.locNew
  locOut := fun m => by
    rcases hnew _ m with m | e
    · exact F.locOut m
    · obtain ⟨mm, n, _⟩ := F.ns
      obtain ⟨o, _, _, e', _⟩ := n
      rw [e] at e'; cases e'
  inj := F.inj
  ns := by
    obtain ⟨m, n, r⟩ := F.ns
    refine ⟨m, ?_, fun x' i V h1 h2 h3 h4 => ?_⟩
    · obtain ⟨o, es, ep, e, r⟩ := n
      exact ⟨o, es, ep, k _ o F.locOut (fun f => f) e, r⟩
    · obtain ⟨v, e, rl⟩ := r x' i V h1 h2 h3 h4
      exact ⟨v, e, Rel.keep k hp (fun a m => m.elim (fun m => x.noTup m) fun f => f.elim) _ _ rl⟩
  cell := fun x' i h1 h2 => by
    obtain ⟨c, ov, e, o, n, ic, r⟩ := F.cell x' i h1 h2
    refine ⟨c, ov, e, fun m => ?_, n, ?_, fun V h3 h4 => ?_⟩
    · rcases hnew _ m with m | e'
      · exact o m
      · obtain ⟨oo, e'', _⟩ := ic
        rw [e'] at e''; cases e''
    · obtain ⟨oo, e', d⟩ := ic
      exact ⟨oo, k _ oo o (fun f => f) e', d⟩
    · obtain ⟨v, e', rl⟩ := r V h3 h4
      exact ⟨v, e', Rel.keep k hp (fun a m => m.elim (fun m => x.noTup m) fun f => f.elim) _ _ rl⟩
  cellInj := F.cellInj

/-- one step of the machine, as the store sees it -/
structure Step (h₀ : Heap) (own : Addr → Prop) (s s' : Shared) (φ φ' : List Addr) (σ' : Store) : Prop where
  only : s'.os = s.os ∧ s'.gens = s.gens
  pre : φ <+: φ'
  sim : Sim h₀ s'.heap φ' σ'
  keep : Keep φ own s.heap s'.heap
  fresh : ∀ a ∈ φ', a ∈ φ ∨ s.heap.get? a = none
  pres : ∀ b o, s.heap.get? b = some o → ∃ o', s'.heap.get? b = some o'

theorem Step.refl {h₀ : Heap} {own : Addr → Prop} {s : Shared} {φ : List Addr} {σ : Store} (x : Sim h₀ s.heap φ σ) : Step h₀ own s s φ φ σ :=
  ⟨⟨rfl, rfl⟩, List.prefix_refl _, x, Keep.refl _ _ _, fun _ m => .inl m, fun _ o e => ⟨o, e⟩⟩

theorem Step.toks {h₀ : Heap} {own : Addr → Prop} {s : Shared} {φ : List Addr} {σ : Store} (x : Sim h₀ s.heap φ σ) (tk : Nat) : Step h₀ own s { s with toks := tk } φ φ σ :=
  ⟨⟨rfl, rfl⟩, List.prefix_refl _, x, Keep.refl _ _ _, fun _ m => .inl m, fun _ o e => ⟨o, e⟩⟩

theorem Step.trans {h₀ : Heap} {own : Addr → Prop} {s s₁ s₂ : Shared} {φ φ₁ φ₂ : List Addr} {σ₁ σ₂ : Store} (x : Step h₀ own s s₁ φ φ₁ σ₁) (y : Step h₀ own s₁ s₂ φ₁ φ₂ σ₂) : Step h₀ own s s₂ φ φ₂ σ₂ where
  only := ⟨y.only.1.trans x.only.1, y.only.2.trans x.only.2⟩
  pre := x.pre.trans y.pre
  sim := y.sim
  keep := fun b o h1 h2 e => y.keep b o (fun m => by
    rcases x.fresh b m with m | e'
    · exact h1 m
    · rw [e] at e'; cases e') h2 (x.keep b o h1 h2 e)
  fresh := fun a m => by
    rcases y.fresh a m with m | e
    · exact x.fresh a m
    · right
      cases q : s.heap.get? a with
      | none => rfl
      | some o => obtain ⟨o', e'⟩ := x.pres a o q; rw [e] at e'; cases e'
  pres := fun b o e => by obtain ⟨o', e'⟩ := x.pres b o e; exact y.pres b o' e'

theorem Step.wider {h₀ : Heap} {own own' : Addr → Prop} {s s' : Shared} {φ φ' : List Addr} {σ' : Store} (x : Step h₀ own s s' φ φ' σ') (h : ∀ a, own a → own' a) : Step h₀ own' s s' φ φ' σ' :=
  ⟨x.only, x.pre, x.sim, x.keep.mono (fun _ m => m) h, x.fresh, x.pres⟩

/-- a heap that keeps all -/
theorem Step.keeps {h₀ : Heap} {own : Addr → Prop} {s : Shared} {φ : List Addr} {σ : Store} (x : Sim h₀ s.heap φ σ) {h' : Heap} (tk : Nat) (k : ∀ b o, s.heap.get? b = some o → h'.get? b = some o) :
    Step h₀ own s { s with heap := h', toks := tk } φ φ σ :=
  ⟨⟨rfl, rfl⟩, List.prefix_refl _, x.keeps k, fun b o _ _ e => k b o e, fun _ m => .inl m, fun b o e => ⟨o, k b o e⟩⟩

theorem FrS.step {h₀ : Heap} {s s' : Shared} {φ φ' : List Addr} {σ σ' : Store} {env : Env} {vs : Vs} {ρ : List V} (F : FrS h₀ s.heap φ env vs ρ) (x : Sim h₀ s.heap φ σ) (y : Step h₀ noOwn s s' φ φ' σ') :
    FrS h₀ s'.heap φ' env vs ρ := F.keep x y.keep y.pre y.fresh

theorem Rel.step {h₀ : Heap} {s s' : Shared} {φ φ' : List Addr} {σ σ' : Store} {V : V} {v : Value} (r : Rel s.heap φ V v) (x : Sim h₀ s.heap φ σ) (y : Step h₀ noOwn s s' φ φ' σ') : Rel s'.heap φ' V v :=
  Rel.keep y.keep y.pre (fun a m => m.elim (fun m => x.noTup m) fun f => f.elim) _ _ r
theorem RelL.step {h₀ : Heap} {s s' : Shared} {φ φ' : List Addr} {σ σ' : Store} {Vs : List V} {vs : List Value} (r : RelL s.heap φ Vs vs) (x : Sim h₀ s.heap φ σ) (y : Step h₀ noOwn s s' φ φ' σ') : RelL s'.heap φ' Vs vs :=
  RelL.keep y.keep y.pre (fun a m => m.elim (fun m => x.noTup m) fun f => f.elim) _ _ r

theorem FrS.noTup {h₀ h : Heap} {φ : List Addr} {env : Env} {vs : Vs} {ρ : List V} (F : FrS h₀ h φ env vs ρ) {a : Addr} (m : frameOwn env vs a) : NoTup h a := by
  rcases m with rfl | ⟨x, i, hx, hk, e⟩
  · obtain ⟨m, n, _⟩ := F.ns; exact noTup_ns n
  · obtain ⟨c, ov, e1, _, _, ic, _⟩ := F.cell x i hx (.inl hk)
    rw [e] at e1; cases e1; exact noTup_cell ic
theorem Rel.stepOwn {h₀ : Heap} {s s' : Shared} {φ φ' : List Addr} {σ σ' : Store} {env : Env} {vs : Vs} {ρ : List V} {V : V} {v : Value} (r : Rel s.heap φ V v) (x : Sim h₀ s.heap φ σ) (F : FrS h₀ s.heap φ env vs ρ) (y : Step h₀ (frameOwn env vs) s s' φ φ' σ') : Rel s'.heap φ' V v :=
  Rel.keep y.keep y.pre (fun _ m => m.elim (fun m => x.noTup m) fun m => F.noTup m) _ _ r
theorem RelL.stepOwn {h₀ : Heap} {s s' : Shared} {φ φ' : List Addr} {σ σ' : Store} {env : Env} {vs : Vs} {ρ : List V} {Vs : List V} {us : List Value} (r : RelL s.heap φ Vs us) (x : Sim h₀ s.heap φ σ) (F : FrS h₀ s.heap φ env vs ρ) (y : Step h₀ (frameOwn env vs) s s' φ φ' σ') : RelL s'.heap φ' Vs us :=
  RelL.keep y.keep y.pre (fun _ m => m.elim (fun m => x.noTup m) fun m => F.noTup m) _ _ r

/-- behind a value -/
noncomputable def PV (h₀ : Heap) (s : Shared) (φ : List Addr) (Q : V → Store → Prop) (v : Value) (s' : Shared) : Prop :=
  ∃ φ' σ' V, Step h₀ noOwn s s' φ φ' σ' ∧ Rel s'.heap φ' V v ∧ Q V σ'
noncomputable def PVs (h₀ : Heap) (s : Shared) (φ : List Addr) (n : Nat) (Q : List V → Store → Prop) (vs : List Value) (s' : Shared) : Prop :=
  ∃ φ' σ' Vs, Step h₀ noOwn s s' φ φ' σ' ∧ RelL s'.heap φ' Vs vs ∧ Vs.length = n ∧ Q Vs σ'
noncomputable def PB (h₀ : Heap) (s : Shared) (φ : List Addr) (Q : Bool → Store → Prop) (b : Bool) (s' : Shared) : Prop :=
  ∃ φ' σ', Step h₀ noOwn s s' φ φ' σ' ∧ Q b σ'
/-- behind an exception: in this make there is none -/
noncomputable def PX (_h₀ : Heap) (_s : Shared) (_φ : List Addr) (_X : XPost) (_e : Value) (_s' : Shared) : Prop := False

/-- room for d more calls -/
structure ROk (A : Around) (d : Nat) : Prop where
  hd : A.handled = none
  depth : A.depth + d < 900
  units : A.units + 3 * d < 9000

section
variable (prog : Program) (w : World) (h₀ : Heap) (C : Oracle) (d : Nat)

/-- in this frame the tree e does what a says -/
noncomputable def EOk (env : Env) (vs : Vs) (e : Expr) (a : E) : Prop :=
  ∀ (A : Around) (s : Shared) (φ : List Addr) (σ : Store) (ρ : List V) (Q : V → Store → Prop) (X : XPost), ROk A d → Sim h₀ s.heap φ σ → FrS h₀ s.heap φ env vs ρ → wpE C a ρ σ Q X →
    wpAny (model prog w) A (eval e env) (PV h₀ s φ Q) (PX h₀ s φ X) s
end

theorem PX.trans {h₀ : Heap} {s s₁ : Shared} {φ φ₁ : List Addr} {σ₁ : Store} {X : XPost} (_ : Step h₀ noOwn s s₁ φ φ₁ σ₁) {e : Value} {s' : Shared} (y : PX h₀ s₁ φ₁ X e s') : PX h₀ s φ X e s' := y

section
variable {prog : Program} {w : World} {h₀ : Heap} {C : Oracle} {d : Nat} {env : Env} {vs : Vs}

theorem ok_none {k pos} : EOk prog w h₀ C d env vs (.Constant .none k pos) .none := fun A s φ σ ρ Q X _ S _ q => by
  rw [wpE] at q
  exact wpAny_Constant_none ⟨φ, σ, .none, Step.refl S, by rw [Rel], q⟩
theorem ok_bool {b k pos} : EOk prog w h₀ C d env vs (.Constant (.bool b) k pos) (.bool b) := fun A s φ σ ρ Q X _ S _ q => by
  rw [wpE] at q
  exact wpAny_Constant_bool ⟨φ, σ, .bool b, Step.refl S, by rw [Rel], q⟩
theorem ok_int {i k pos} : EOk prog w h₀ C d env vs (.Constant (.int i) k pos) (.int i) := fun A s φ σ ρ Q X _ S _ q => by
  rw [wpE] at q
  exact wpAny_Constant_int ⟨φ, σ, .int i, Step.toks S _, by rw [Rel]; exact ⟨_, rfl⟩, q⟩
theorem ok_str {x k pos} : EOk prog w h₀ C d env vs (.Constant (.str x) k pos) (.str x) := fun A s φ σ ρ Q X _ S _ q => by
  rw [wpE] at q
  exact wpAny_Constant_str ⟨φ, σ, .str x, Step.toks S _, by rw [Rel]; exact ⟨_, rfl⟩, q⟩

theorem ok_loc {x : Str} {i : Nat} {pos} (hx : vs.lookup x = some i) (hk : isVar env.scope x = true) (hd : (x == ("__debug__" : Str)) = false) (hc : (x == ("__classdict__" : Str)) = false) :
    EOk prog w h₀ C d env vs (.Name x pos) (.loc i) := fun A s φ σ ρ Q X _ S F q => by
  rw [wpE] at q
  have hkind : env.kindOf x = some .local ∨ env.kindOf x = some .cell ∨ env.kindOf x = some .free := by
    unfold isVar at hk
    have : env.kindOf x = env.scope.names.lookup x := rfl
    rw [this]
    split at hk <;> simp_all
  split at q
  · exact q.elim
  · rename_i V hne e
    refine wpAny_Name ?_ hd
    have hV : V ≠ .undef := fun h => hne (h ▸ rfl)
    rcases hkind with hl | hl
    · obtain ⟨m, n, r⟩ := F.ns
      obtain ⟨v, hv, rl⟩ := r x i V hx hl e hV
      exact wpAny_loadName_local F.fn hl n hv ⟨φ, σ, V, Step.refl S, rl, q⟩
    · obtain ⟨c, ov, e1, _, _, ic, r⟩ := F.cell x i hx hl
      obtain ⟨v, rfl, rl⟩ := r V e hV
      rcases hl with hl | hl
      · exact wpAny_loadName_cell F.fn hl e1 ic ⟨φ, σ, V, Step.refl S, rl, q⟩
      · exact wpAny_loadName_free F.fn hl e1 ic ⟨φ, σ, V, Step.refl S, rl, q⟩ hc
  · exact q.elim
end

end Mine

/-! KOps -/
namespace Mine
open PySem PySem.Calls

theorem PV.trans {h₀ : Heap} {s s₁ : Shared} {φ φ₁ : List Addr} {σ₁ : Store} {Q : V → Store → Prop} {v : Value} {s' : Shared} (x : Step h₀ noOwn s s₁ φ φ₁ σ₁) (y : PV h₀ s₁ φ₁ Q v s') : PV h₀ s φ Q v s' :=
  let ⟨φ', σ', V, st, r, q⟩ := y; ⟨φ', σ', V, x.trans st, r, q⟩
theorem PVs.trans {h₀ : Heap} {s s₁ : Shared} {φ φ₁ : List Addr} {σ₁ : Store} {n : Nat} {Q : List V → Store → Prop} {v : List Value} {s' : Shared} (x : Step h₀ noOwn s s₁ φ φ₁ σ₁) (y : PVs h₀ s₁ φ₁ n Q v s') : PVs h₀ s φ n Q v s' :=
  let ⟨φ', σ', V, st, r, q⟩ := y; ⟨φ', σ', V, x.trans st, r, q⟩
theorem PB.trans {h₀ : Heap} {s s₁ : Shared} {φ φ₁ : List Addr} {σ₁ : Store} {Q : Bool → Store → Prop} {v : Bool} {s' : Shared} (x : Step h₀ noOwn s s₁ φ φ₁ σ₁) (y : PB h₀ s₁ φ₁ Q v s') : PB h₀ s φ Q v s' :=
  let ⟨φ', σ', st, q⟩ := y; ⟨φ', σ', x.trans st, q⟩

/-- a value without a place in the heap, in a state of more tokens -/
theorem PV.plain {h₀ : Heap} {s : Shared} {φ : List Addr} {σ : Store} {Q : V → Store → Prop} {V : V} {v : Value} {tk : Nat} (S : Sim h₀ s.heap φ σ) (r : Rel s.heap φ V v) (q : Q V σ) : PV h₀ s φ Q v { s with toks := tk } :=
  ⟨φ, σ, V, Step.toks S tk, r, q⟩
theorem PV.same {h₀ : Heap} {s : Shared} {φ : List Addr} {σ : Store} {Q : V → Store → Prop} {V : V} {v : Value} (S : Sim h₀ s.heap φ σ) (r : Rel s.heap φ V v) (q : Q V σ) : PV h₀ s φ Q v s :=
  ⟨φ, σ, V, Step.refl S, r, q⟩
theorem rel_int {h : Heap} {φ : List Addr} {i : Int} {t : Tok} : Rel h φ (.int i) (.int i t) := by rw [Rel]; exact ⟨t, rfl⟩
theorem rel_str {h : Heap} {φ : List Addr} {x : Str} {t : Tok} : Rel h φ (.str x) (.str x t) := by rw [Rel]; exact ⟨t, rfl⟩
theorem rel_bool {h : Heap} {φ : List Addr} {b : Bool} : Rel h φ (.bool b) (.bool b) := by rw [Rel]
theorem rel_none {h : Heap} {φ : List Addr} : Rel h φ .none .none := by rw [Rel]

/-- a new list -/
theorem PV.list {h₀ : Heap} {s : Shared} {φ : List Addr} {σ : Store} {Q : V → Store → Prop} {Vs : List V} {items : List Value} {n tk : Nat} (S : Sim h₀ s.heap φ σ) (r : RelL s.heap φ Vs items) (hz : Vs.length ≤ 2 ^ 20)
    (q : Q (.ref σ.length) (σ ++ [.list Vs])) : PV h₀ s φ Q (.ref s.heap.objs.size) { s with heap := s.heap.push { cls := .type "list", data := .seq items.toArray n }, toks := tk } := by
  have k : ∀ b o, s.heap.get? b = some o → (s.heap.push { cls := .type "list", data := .seq items.toArray n }).get? b = some o := fun b o e => Heap.get?_push_of_some _ e
  have hn : s.heap.get? s.heap.objs.size = none := by
    cases e : s.heap.get? s.heap.objs.size with
    | none => rfl
    | some o => exact absurd (Heap.lt_size e) (Nat.lt_irrefl _)
  have S' := S.alloc (vs := Vs) (items := items.toArray) k ⟨n, Heap.get?_push_size _ rfl⟩ hn (by
    simpa using RelL.keep (own := noOwn) (fun b o _ _ e => k b o e) (List.prefix_refl _) (fun a m => m.elim (fun m => S.noTup m) fun f => f.elim) _ _ r) hz
  refine ⟨φ ++ [s.heap.objs.size], _, .ref σ.length, ⟨⟨rfl, rfl⟩, List.prefix_append _ _, S', fun b o _ _ e => k b o e, fun a m => ?_, fun b o e => ⟨o, k b o e⟩⟩, ?_, q⟩
  · rcases List.mem_append.mp m with m | m
    · exact .inl m
    · simp at m; subst m; exact .inr hn
  · rw [Rel]; exact ⟨_, rfl, by rw [← S.len]; simp⟩

/-- a new tuple -/
theorem PV.tuple {h₀ : Heap} {s : Shared} {φ : List Addr} {σ : Store} {Q : V → Store → Prop} {Vs : List V} {items : List Value} {n tk : Nat} (S : Sim h₀ s.heap φ σ) (r : RelL s.heap φ Vs items)
    (q : Q (.tup Vs) σ) : PV h₀ s φ Q (.ref s.heap.objs.size) { s with heap := s.heap.push { cls := .type "tuple", data := .seq items.toArray n }, toks := tk } := by
  have k : ∀ b o, s.heap.get? b = some o → (s.heap.push { cls := .type "tuple", data := .seq items.toArray n }).get? b = some o := fun b o e => Heap.get?_push_of_some _ e
  refine ⟨φ, σ, .tup Vs, Step.keeps S tk k, ?_, q⟩
  rw [Rel]
  refine ⟨_, items.toArray, n, rfl, Heap.get?_push_size _ rfl, ?_⟩
  simpa using RelL.keep (own := noOwn) (fun b o _ _ e => k b o e) (List.prefix_refl _) (fun a m => m.elim (fun m => S.noTup m) fun f => f.elim) _ _ r

theorem small_bits {i : Int} (h : small i = true) : Builtin.Int.intBits i ≤ 64 := by
  unfold small at h
  simp only [Bool.and_eq_true, decide_eq_true_eq] at h
  unfold Builtin.Int.intBits
  split
  · omega
  · rename_i h0
    have h0' : i ≠ 0 := by simpa using h0
    have : i.natAbs.log2 < 64 := (Nat.log2_lt (by omega)).mpr (by omega)
    omega

section
variable {prog : Program} {w : World} {h₀ : Heap} {A : Around} {s : Shared} {φ : List Addr} {σ : Store} {Q : V → Store → Prop} {E : Value → Shared → Prop}

theorem bin_int {o : BOp} {op : Operator} {x y : Int} {t u : Tok} (ho : cBin op = some o) (S : Sim h₀ s.heap φ σ) (q : (binI o x y σ).to Q) : wpAny (model prog w) A (binaryOp op (.int x t) (.int y u)) (PV h₀ s φ Q) E s := by
  cases op <;> simp only [cBin, Option.some.injEq, reduceCtorEq] at ho <;> subst ho <;> simp only [binI] at q
  · exact PySem.P.add_int (PV.plain S rel_int q)
  · exact PyProof.Rows.sub_int' (PV.plain S rel_int q)
  · split at q
    · rename_i hs
      refine PySem.P.mul_int (PV.plain S rel_int q) ?_
      rcases Bool.or_eq_true_iff.mp hs with hs | hs
      · exact IntMulOk.of_left (small_bits hs)
      · exact IntMulOk.of_right (small_bits hs)
    · exact q.elim
  · split at q
    · rename_i hs
      exact PyProof.Rows.mod_int' (by simpa using hs) (PV.plain S rel_int q)
    · exact q.elim
  · split at q
    · rename_i hs
      simp only [Bool.and_eq_true, decide_eq_true_eq] at hs
      obtain ⟨rfl, rfl⟩ := hs
      exact PySem.AutoIntOps.pow_4 (by decide) (by decide) (by decide) (by decide) (by decide +kernel) (PV.plain S rel_int q)
    · exact q.elim
  · split at q
    · rename_i hs
      simp only [Bool.and_eq_true] at hs
      refine PyProof.Rows.floordiv_int (by simpa using hs.1) (PV.plain S rel_int q) (Or.inl (PyProof.noPylong_of_log2 ?_))
      have hs2 := hs.2
      unfold small at hs2
      simp only [Bool.and_eq_true, decide_eq_true_eq] at hs2
      by_cases hy : y.natAbs = 0
      · rw [hy]; decide
      · exact (Nat.log2_lt hy).mpr (Nat.lt_of_lt_of_le (by omega : y.natAbs < 2 ^ 64) (Nat.pow_le_pow_right (by omega) (by omega)))
    · exact q.elim
end

end Mine

/-! KExpr -/
namespace Mine
open PySem PySem.Calls

theorem size_le {n : Nat} (h : n ≤ maxLen) : n ≤ sizeLine := Nat.le_trans h (by decide)
theorem size_le' {n : Nat} (h : n ≤ 2 ^ 20) : n ≤ sizeLine := Nat.le_trans h (by decide)
theorem maxLen_le {n : Nat} (h : n ≤ maxLen) : n ≤ 2 ^ 20 := Nat.le_trans h (by decide)

section
variable {prog : Program} {w : World} {h₀ : Heap} {A : Around} {s : Shared} {φ : List Addr} {σ : Store} {Q : V → Store → Prop} {E : Value → Shared → Prop}

/-- the list of the store at n -/
theorem Sim.list {n : Nat} {vs : List V} {v : Value} (S : Sim h₀ s.heap φ σ) (e : σ[n]? = some (.list vs)) (r : Rel s.heap φ (.ref n) v) :
    ∃ a items k, v = .ref a ∧ φ[n]? = some a ∧ IsL s.heap a items k ∧ RelL s.heap φ vs items.toList ∧ vs.length ≤ 2 ^ 20 := by
  rw [Rel] at r
  obtain ⟨a, rfl, ea⟩ := r
  obtain ⟨a', ea', items, ⟨k, hk⟩, rl, z⟩ := S.obj n _ e
  rw [ea] at ea'; cases ea'
  exact ⟨a, items, k, rfl, ea, hk, rl, z⟩

theorem truthy_ok {V : V} {v : Value} {b : Bool} (S : Sim h₀ s.heap φ σ) (r : Rel s.heap φ V v) (ht : truth σ V = some b) {R : Bool → Shared → Prop} (h : ∀ tk, R b { s with toks := tk }) :
    wpAny (model prog w) A (truthy v) R E s := by
  unfold truth at ht
  split at ht
  · rw [Rel] at r; subst r
    cases ht
    exact wpAny_truthy_bool (h s.toks)
  · cases ht
end

section
variable {prog : Program} {w : World} {h₀ : Heap} {C : Oracle} {d : Nat} {env : Env} {vs : Vs}

theorem bin_ok {A : Around} {s : Shared} {φ : List Addr} {σ : Store} {Q : V → Store → Prop} {E : Value → Shared → Prop} {o : BOp} {op : Operator} {V W : Mine.V} {a b : Value} (ho : cBin op = some o) (S : Sim h₀ s.heap φ σ)
    (ra : Rel s.heap φ V a) (rb : Rel s.heap φ W b) (q : (binV o V W σ).to Q) : wpAny (model prog w) A (binaryOp op a b) (PV h₀ s φ Q) E s := by
  obtain ⟨x, y, rfl, rfl, q⟩ := two_of (P := fun r => Res.to r Q) q fun h => h
  rw [Rel] at ra rb
  obtain ⟨t, rfl⟩ := ra
  obtain ⟨u, rfl⟩ := rb
  exact bin_int ho S q

theorem ok_bin {l r : Expr} {op : Operator} {o : BOp} {a b : E} {pos} (ho : cBin op = some o) (hl : EOk prog w h₀ C d env vs l a) (hr : EOk prog w h₀ C d env vs r b) :
    EOk prog w h₀ C d env vs (.BinOp l op r pos) (.bin o a b) := fun A s φ σ ρ Q X R S F q => by
  rw [wpE] at q
  refine wpAny_BinOp (wpAny_mono (hl A s φ σ ρ _ X R S F q) (fun x s₁ y => ?_) fun _ _ e => e)
  obtain ⟨φ₁, σ₁, V, st, rl, q₁⟩ := y
  refine wpAny_mono (hr A s₁ φ₁ σ₁ ρ _ X R st.sim (F.step S st) q₁) (fun x' s₂ y => ?_) fun _ _ e => PX.trans st e
  obtain ⟨φ₂, σ₂, W, st₂, rl₂, q₂⟩ := y
  exact wpAny_mono (bin_ok ho st₂.sim (rl.step st.sim st₂) rl₂ q₂) (fun _ _ z => PV.trans (st.trans st₂) z) fun _ _ e => e

theorem ok_neg {x : Expr} {a : E} {pos} (h : EOk prog w h₀ C d env vs x a) : EOk prog w h₀ C d env vs (.UnaryOp .USub x pos) (.neg a) := fun A s φ σ ρ Q X R S F q => by
  rw [wpE] at q
  refine wpAny_UnaryOp (wpAny_mono (h A s φ σ ρ _ X R S F q) (fun x s₁ y => ?_) fun _ _ e => e)
  obtain ⟨φ₁, σ₁, V, st, rl, q₁⟩ := y
  cases V <;> try exact q₁.elim
  rw [Rel] at rl
  obtain ⟨t, rfl⟩ := rl
  exact PySem.P.neg_int (PV.trans st (PV.plain st.sim rel_int q₁))

theorem ok_not {x : Expr} {a : E} {pos} (h : EOk prog w h₀ C d env vs x a) : EOk prog w h₀ C d env vs (.UnaryOp .Not x pos) (.not a) := fun A s φ σ ρ Q X R S F q => by
  rw [wpE] at q
  refine wpAny_UnaryOp (wpAny_mono (h A s φ σ ρ _ X R S F q) (fun x s₁ y => ?_) fun _ _ e => e)
  obtain ⟨φ₁, σ₁, V, st, rl, q₁⟩ := y
  split at q₁
  · rename_i b ht
    exact not_value (truthy_ok st.sim rl ht fun tk => PV.trans st (PV.plain st.sim rel_bool q₁))
  · exact q₁.elim
end

end Mine

/-! KExpr2 -/
namespace Mine
open PySem PySem.Calls

/-! displays, arguments -/
section
variable (prog : Program) (w : World) (h₀ : Heap) (C : Oracle) (d : Nat)
noncomputable def LOk (env : Env) (vs : Vs) (es : List Expr) (as : List E) : Prop :=
  ∀ (A : Around) (s : Shared) (φ : List Addr) (σ : Store) (ρ : List V) (Q : List V → Store → Prop) (X : XPost) (pos : Pos), ROk A d → Sim h₀ s.heap φ σ → FrS h₀ s.heap φ env vs ρ → wpL C as ρ σ Q X →
    wpAny (model prog w) A (spliced (backTo pos (starEach es env))) (PVs h₀ s φ as.length Q) (PX h₀ s φ X) s
/-- boolean operators -/
noncomputable def BOk (env : Env) (vs : Vs) (es : List Expr) (as : List E) : Prop :=
  ∀ (A : Around) (s : Shared) (φ : List Addr) (σ : Store) (ρ : List V) (Q : V → Store → Prop) (X : XPost) (pos : Pos) (op : BoolOp), ROk A d → Sim h₀ s.heap φ σ → FrS h₀ s.heap φ env vs ρ → wpB C (op == .And) as ρ σ Q X →
    wpAny (model prog w) A (boolOp pos op (evalEach es env)) (PV h₀ s φ Q) (PX h₀ s φ X) s
/-- a chain of comparisons -/
noncomputable def COk (env : Env) (vs : Vs) (ops : List CmpOp) (es : List Expr) (as : List E) : Prop :=
  ∀ (A : Around) (s : Shared) (φ : List Addr) (σ : Store) (ρ : List V) (Q : Bool → Store → Prop) (X : XPost) (pos : Pos) (V : V) (v : Value), ROk A d → Sim h₀ s.heap φ σ → FrS h₀ s.heap φ env vs ρ → Rel s.heap φ V v →
    wpC C (ops.map cCmp) as V ρ σ Q X →
    wpAny (model prog w) A (compareChain pos v ops (evalEach es env)) (PV h₀ s φ fun x σ' => ∃ b, x = .bool b ∧ Q b σ') (PX h₀ s φ X) s ∧
    wpAny (model prog w) A (testChain pos v ops (evalEach es env)) (PB h₀ s φ Q) (PX h₀ s φ X) s
/-- a test -/
noncomputable def TOk (env : Env) (vs : Vs) (e : Expr) (a : E) : Prop :=
  ∀ (A : Around) (s : Shared) (φ : List Addr) (σ : Store) (ρ : List V) (Q : Bool → Store → Prop) (X : XPost), ROk A d → Sim h₀ s.heap φ σ → FrS h₀ s.heap φ env vs ρ → wpT C a (wpE C a ρ σ) ρ σ Q X →
    wpAny (model prog w) A (isTrue e env (eval e env)) (PB h₀ s φ Q) (PX h₀ s φ X) s
/-- tests, all of them or one of them -/
noncomputable def AOk (env : Env) (vs : Vs) (es : List Expr) (as : List E) : Prop :=
  ∀ (A : Around) (s : Shared) (φ : List Addr) (σ : Store) (ρ : List V) (Q : Bool → Store → Prop) (X : XPost), ROk A d → Sim h₀ s.heap φ σ → FrS h₀ s.heap φ env vs ρ →
    (wpTs C as ρ σ Q X → wpAny (model prog w) A (allTrue .And es env) (PB h₀ s φ Q) (PX h₀ s φ X) s) ∧
    (wpTo C as ρ σ Q X → wpAny (model prog w) A (allTrue .Or es env) (PB h₀ s φ Q) (PX h₀ s φ X) s)
end

noncomputable def NoStar (e : Expr) : Prop := ∀ rest env, starEach (e :: rest) env = (false, eval e env) :: starEach rest env

section
variable {prog : Program} {w : World} {h₀ : Heap} {C : Oracle} {d : Nat} {env : Env} {vs : Vs}

theorem lok_nil : LOk prog w h₀ C d env vs [] [] := fun A s φ σ ρ Q X pos _ S _ q => by
  rw [wpL] at q
  exact wpAny_items_nil ⟨φ, σ, [], Step.refl S, by rw [RelL]; trivial, rfl, q⟩
theorem lok_cons {e : Expr} {a : E} {es : List Expr} {as : List E} (hn : NoStar e) (he : EOk prog w h₀ C d env vs e a) (hes : LOk prog w h₀ C d env vs es as) : LOk prog w h₀ C d env vs (e :: es) (a :: as) :=
  fun A s φ σ ρ Q X pos R S F q => by
  rw [wpL] at q
  refine wpAny_items_cons (wpAny_mono (he A s φ σ ρ _ X R S F q) (fun x s₁ y => ?_) fun _ _ e => e) (hn es env)
  obtain ⟨φ₁, σ₁, V, st, rl, q₁⟩ := y
  refine wpAny_mono (hes A s₁ φ₁ σ₁ ρ _ X pos R st.sim (F.step S st) q₁) (fun x' s₂ y => ?_) fun _ _ e => PX.trans st e
  obtain ⟨φ₂, σ₂, W, st₂, rl₂, hl, q₂⟩ := y
  exact ⟨φ₂, σ₂, V :: W, st.trans st₂, by rw [RelL]; exact ⟨rl.step st.sim st₂, rl₂⟩, by simp [hl], q₂⟩

theorem ok_tup {es : List Expr} {as : List E} {k pos} (h : LOk prog w h₀ C d env vs es as) (hz : as.length ≤ 1000) : EOk prog w h₀ C d env vs (.Tuple es k pos) (.tup as) := fun A s φ σ ρ Q X R S F q => by
  rw [wpE] at q
  refine wpAny_Tuple (wpAny_mono (h A s φ σ ρ _ X pos R S F q) (fun x s₁ y => ?_) fun _ _ e => e)
  obtain ⟨φ₁, σ₁, Vs, st, rl, hl, q₁⟩ := y
  exact ⟨size_le (by rw [← rl.length, hl]; unfold maxLen; omega), PV.trans st (PV.tuple (n := 0) (tk := s₁.toks) st.sim rl q₁)⟩
theorem ok_list {es : List Expr} {as : List E} {pos} (h : LOk prog w h₀ C d env vs es as) (hz : as.length ≤ 1000) : EOk prog w h₀ C d env vs (.List es pos) (.list as) := fun A s φ σ ρ Q X R S F q => by
  rw [wpE] at q
  refine wpAny_List (wpAny_mono (h A s φ σ ρ _ X pos R S F q) (fun x s₁ y => ?_) fun _ _ e => e)
  obtain ⟨φ₁, σ₁, Vs, st, rl, hl, q₁⟩ := y
  exact ⟨size_le (by rw [← rl.length, hl]; unfold maxLen; omega), PV.trans st (PV.list (n := 0) (tk := s₁.toks) st.sim rl (by omega) q₁)⟩

/-! boolean operators -/
theorem bok_one {e : Expr} {a : E} (h : EOk prog w h₀ C d env vs e a) : BOk prog w h₀ C d env vs [e] [a] := fun A s φ σ ρ Q X pos op R S F q => by
  rw [wpB] at q
  simp only [List.isEmpty_nil, if_true] at q
  exact h A s φ σ ρ _ X R S F q
theorem bok_cons {e e' : Expr} {a a' : E} {es : List Expr} {as : List E} (h : EOk prog w h₀ C d env vs e a) (hs : BOk prog w h₀ C d env vs (e' :: es) (a' :: as)) : BOk prog w h₀ C d env vs (e :: e' :: es) (a :: a' :: as) :=
  fun A s φ σ ρ Q X pos op R S F q => by
  rw [wpB] at q
  simp only [List.isEmpty_cons, Bool.false_eq_true, if_false] at q
  show wpAny (model prog w) A (do
    let v ← eval e env
    standAt pos
    let t ← holding [v] (truthy v)
    match op, t with
    | .And, false | .Or, true => pure v
    | _, _ => boolOp pos op (evalEach (e' :: es) env)) _ _ s
  refine wpAny_bind (wpAny_mono (h A s φ σ ρ _ X R S F q) (fun x s₁ y => ?_) fun _ _ e => e)
  obtain ⟨φ₁, σ₁, V, st, rl, q₁⟩ := y
  refine wpAny_bind (wpAny_standAt (wpAny_bind (wpAny_holding ?_)))
  split at q₁
  · rename_i b ht
    refine truthy_ok st.sim rl ht fun tk => ?_
    have st' : Step h₀ noOwn s { s₁ with toks := tk } φ φ₁ σ₁ := st.trans (Step.toks st.sim tk)
    cases op <;> cases b <;> simp at q₁ <;> first
      | exact wpAny_pure ⟨φ₁, σ₁, V, st', rl, q₁⟩
      | exact wpAny_mono (hs A { s₁ with toks := tk } φ₁ σ₁ ρ Q X pos _ R st'.sim (F.step S st') q₁) (fun _ _ z => PV.trans st' z) (fun _ _ z => PX.trans st' z)
  · exact q₁.elim
theorem ok_and {es : List Expr} {as : List E} {pos} (h : BOk prog w h₀ C d env vs es as) : EOk prog w h₀ C d env vs (.BoolOp .And es pos) (.and as) := fun A s φ σ ρ Q X R S F q => by
  rw [wpE] at q
  exact h A s φ σ ρ Q X pos .And R S F q
theorem ok_or {es : List Expr} {as : List E} {pos} (h : BOk prog w h₀ C d env vs es as) : EOk prog w h₀ C d env vs (.BoolOp .Or es pos) (.or as) := fun A s φ σ ρ Q X R S F q => by
  rw [wpE] at q
  exact h A s φ σ ρ Q X pos .Or R S F q
end
end Mine

/-! KCmp -/
namespace Mine
open PySem PySem.Calls

theorem mapO_reads {h : Heap} {φ : List Addr} {f : V → Option PyData} (hf : ∀ V v dt, f V = some dt → Rel h φ V v → ∃ as, Reads h v dt as) :
    ∀ (Vs : List V) (vs : List Value) (ds : List PyData), mapO f Vs = some ds → RelL h φ Vs vs → ∃ as, ReadsAll h vs ds as
  | [], [], ds, e, _ => by simp only [mapO, Option.some.injEq] at e; subst e; exact ⟨_, .nil⟩
  | V :: Vs, v :: vs, ds, e, r => by
    rw [RelL] at r
    simp only [mapO] at e
    split at e
    · rename_i b bs e1 e2
      simp only [Option.some.injEq] at e; subst e
      obtain ⟨as, h1⟩ := hf V v b e1 r.1
      obtain ⟨bs', h2⟩ := mapO_reads hf Vs vs bs e2 r.2
      exact ⟨_, .cons h1 h2⟩
    · cases e
  | [], _ :: _, _, _, r => by rw [RelL] at r; exact r.elim
  | _ :: _, [], _, _, r => by rw [RelL] at r; exact r.elim
theorem mapO_depth {f : V → Option PyData} {n : Nat} (hf : ∀ V dt, f V = some dt → dt.depth ≤ n) : ∀ (Vs : List V) (ds : List PyData), mapO f Vs = some ds → PyData.depthAll ds ≤ n
  | [], ds, e => by simp only [mapO, Option.some.injEq] at e; subst e; simp [PyData.depthAll]
  | V :: Vs, ds, e => by
    simp only [mapO] at e
    split at e
    · rename_i b bs e1 e2
      simp only [Option.some.injEq] at e; subst e
      have h1 := hf V b e1
      have h2 := mapO_depth hf Vs bs e2
      rw [PyData.depthAll]; omega
    · cases e

theorem toD_depth {σ : Store} : ∀ (n : Nat) (V : V) (dt : PyData), toD σ n V = some dt → dt.depth ≤ n
  | 0, _, _, e => by simp [toD] at e
  | n + 1, V, dt, e => by
    cases V <;> simp only [toD, Option.some.injEq, reduceCtorEq] at e
    case none => subst e; simp [PyData.depth]
    case bool => subst e; simp [PyData.depth]
    case int => subst e; simp [PyData.depth]
    case str => subst e; simp [PyData.depth]
    case tup vs =>
      obtain ⟨ds, e1, rfl⟩ := Option.map_eq_some_iff.mp e
      have := mapO_depth (fun V dt => toD_depth n V dt) vs ds e1
      rw [PyData.depth]; omega
    case ref k =>
      split at e
      · rename_i vs _
        obtain ⟨ds, e1, rfl⟩ := Option.map_eq_some_iff.mp e
        have := mapO_depth (fun V dt => toD_depth n V dt) vs ds e1
        rw [PyData.depth]; omega
      · cases e

theorem toD_reads {h₀ h : Heap} {φ : List Addr} {σ : Store} (S : Sim h₀ h φ σ) : ∀ (n : Nat) (V : V) (v : Value) (dt : PyData), toD σ n V = some dt → Rel h φ V v → ∃ as, Reads h v dt as
  | 0, _, _, _, e, _ => by simp [toD] at e
  | n + 1, V, v, dt, e, r => by
    cases V <;> simp only [toD, Option.some.injEq, reduceCtorEq] at e
    case none => rw [Rel] at r; subst r e; exact ⟨_, .none⟩
    case bool => rw [Rel] at r; subst r e; exact ⟨_, .bool _⟩
    case int => rw [Rel] at r; obtain ⟨t, rfl⟩ := r; subst e; exact ⟨_, .int _ _⟩
    case str => rw [Rel] at r; obtain ⟨t, rfl⟩ := r; subst e; exact ⟨_, .str _ _⟩
    case tup vs =>
      obtain ⟨ds, e1, rfl⟩ := Option.map_eq_some_iff.mp e
      rw [Rel] at r
      obtain ⟨a, items, k, rfl, g, rl⟩ := r
      obtain ⟨as, ra⟩ := mapO_reads (fun V v dt e r => toD_reads S n V v dt e r) vs _ ds e1 rl
      exact ⟨_, .tuple g rfl rfl ra⟩
    case ref k =>
      split at e
      · rename_i vs ek
        obtain ⟨ds, e1, rfl⟩ := Option.map_eq_some_iff.mp e
        rw [Rel] at r
        obtain ⟨a, rfl, ea⟩ := r
        obtain ⟨a', ea', items, ⟨z, g⟩, rl, _⟩ := S.obj k _ ek
        rw [ea] at ea'; cases ea'
        obtain ⟨as, ra⟩ := mapO_reads (fun V v dt e r => toD_reads S n V v dt e r) vs _ ds e1 rl
        exact ⟨_, .list g rfl rfl ra⟩
      · cases e

section
variable {prog : Program} {w : World} {h₀ : Heap} {A : Around} {s : Shared} {φ : List Addr} {σ : Store} {E : Value → Shared → Prop} {V W : Mine.V} {v u : Value} {b : Bool} {R : Value → Shared → Prop}

theorem eq_reads (S : Sim h₀ s.heap φ σ) (r1 : Rel s.heap φ V v) (r2 : Rel s.heap φ W u) (e : eqV σ V W = some b) : ∃ x y as bs, Reads s.heap v x as ∧ Reads s.heap u y bs ∧ x.canLay0 = true ∧ y.canLay0 = true ∧ x.depth ≤ 6 ∧ PyData.eqv x y = b := by
  unfold eqV at e
  split at e
  · rename_i x y ex ey
    split at e
    · rename_i hl
      simp only [Bool.and_eq_true] at hl
      obtain ⟨as, ra⟩ := toD_reads S 6 V v x ex r1
      obtain ⟨bs, rb⟩ := toD_reads S 6 W u y ey r2
      exact ⟨x, y, as, bs, ra, rb, hl.1, hl.2, toD_depth 6 V x ex, Option.some.inj e⟩
    · cases e
  · cases e
theorem notIn_ok (S : Sim h₀ s.heap φ σ) (hu : A.units + 100 < 9900) (r1 : Rel s.heap φ V v) (r2 : Rel s.heap φ W u) (e : inV σ V W = some b) (h : R (.bool (!b)) s) : wpAny (model prog w) A (compareOp .NotIn v u) R E s := by
  unfold inV at e
  split at e
  · rename_i x ys ex ey
    split at e
    · rename_i hl
      simp only [Bool.and_eq_true] at hl
      cases e
      obtain ⟨as, ra⟩ := toD_reads S 6 V v x ex r1
      obtain ⟨bs, rb⟩ := toD_reads S 6 W u _ ey r2
      have h1 := toD_depth 6 V x ex
      exact SeqAt.notIn_list_reads rb ra hl.2 hl.1 (by unfold cLine; omega) h
    · cases e
  · cases e

/-- a comparison -/
theorem cmp_ok {op : CmpOp} (S : Sim h₀ s.heap φ σ) (hu : A.units + 100 < 9900) (r1 : Rel s.heap φ V v) (r2 : Rel s.heap φ W u) (e : cmpV σ (cCmp op) V W = some b) (h : ∀ tk, R (.bool b) { s with toks := tk }) :
    wpAny (model prog w) A (compareOp op v u) R E s := by
  have hi : ∀ {f : Int → Int → Option Bool}, two? Option.none f V W = some b → ∃ x y t t', v = .int x t ∧ u = .int y t' ∧ f x y = some b := fun e => by
    obtain ⟨x, y, rfl, rfl, q⟩ := two_of (P := fun r => r = some b) e fun h => by cases h
    rw [Rel] at r1 r2
    obtain ⟨t, rfl⟩ := r1
    obtain ⟨t', rfl⟩ := r2
    exact ⟨x, y, t, t', rfl, rfl, q⟩
  cases op <;> simp only [cCmp, cmpV, reduceCtorEq] at e
  · obtain ⟨x, y, as, bs, ra, rb, c1, c2, h1, rfl⟩ := eq_reads S r1 r2 e
    exact SeqAt.compareEq_reads ra rb c1 c2 (by unfold cLine; omega) (h s.toks)
  · obtain ⟨c, e', rfl⟩ := Option.map_eq_some_iff.mp e
    obtain ⟨x, y, as, bs, ra, rb, c1, c2, h1, rfl⟩ := eq_reads S r1 r2 e'
    exact SeqAt.compareNe_reads ra rb c1 c2 (by unfold cLine; omega) (h s.toks)
  · obtain ⟨x, y, t, t', rfl, rfl, q⟩ := hi e
    cases q
    exact PyProof.Rows.lt_int (h s.toks)
  · obtain ⟨x, y, t, t', rfl, rfl, q⟩ := hi e
    cases q
    exact PyProof.Rows.gt_int (h s.toks)
  · obtain ⟨c, e', rfl⟩ := Option.map_eq_some_iff.mp e
    exact notIn_ok S hu r1 r2 e' (h s.toks)
end

end Mine

/-! KTest -/
namespace Mine
open PySem PySem.Calls

theorem ROk.u100 {A : Around} {d : Nat} (R : ROk A d) : A.units + 100 < 9900 := by have := R.units; omega

theorem PV.bool {h₀ : Heap} {s : Shared} {φ : List Addr} {Q : Bool → Store → Prop} {v : Value} {s' : Shared} (y : PV h₀ s φ (fun x σ' => ∃ b, x = .bool b ∧ Q b σ') v s') : ∃ b, v = .bool b ∧ PB h₀ s φ Q b s' := by
  obtain ⟨φ', σ', V, st, r, b, rfl, q⟩ := y
  rw [Rel] at r
  exact ⟨b, r, φ', σ', st, q⟩

section
variable {prog : Program} {w : World} {h₀ : Heap} {C : Oracle} {d : Nat} {env : Env} {vs : Vs}

theorem cok_one {op : CmpOp} {e : Expr} {a : E} (h : EOk prog w h₀ C d env vs e a) : COk prog w h₀ C d env vs [op] [e] [a] := fun A s φ σ ρ Q X pos V v R S F r q => by
  simp only [List.map_cons, List.map_nil] at q
  rw [wpC] at q
  constructor
  · show wpAny (model prog w) A (do
      let rv ← holding [v] (eval e env)
      standAt pos
      operate [v, rv] (compareOp op v rv)) _ _ s
    refine wpAny_bind (wpAny_holding (wpAny_mono (h A s φ σ ρ _ X R S F q) (fun x s₁ y => ?_) fun _ _ e => e))
    obtain ⟨φ₁, σ₁, W, st, rl, q₁⟩ := y
    refine wpAny_bind (wpAny_standAt (PyProof.Rows.wpAny_operate' ?_))
    split at q₁
    · rename_i b hb
      simp only [List.isEmpty_nil, Bool.true_or, if_true] at q₁
      exact cmp_ok st.sim R.u100 (r.step S st) rl hb fun tk => PV.trans st (PV.plain st.sim rel_bool ⟨b, rfl, q₁⟩)
    · exact q₁.elim
  · show wpAny (model prog w) A (do
      let rv ← holding [v] (eval e env)
      standAt pos
      let c ← operate [v, rv] (compareOp op v rv)
      holding [c] (truthy c)) _ _ s
    refine wpAny_bind (wpAny_holding (wpAny_mono (h A s φ σ ρ _ X R S F q) (fun x s₁ y => ?_) fun _ _ e => e))
    obtain ⟨φ₁, σ₁, W, st, rl, q₁⟩ := y
    refine wpAny_bind (wpAny_standAt (wpAny_bind (PyProof.Rows.wpAny_operate' ?_)))
    split at q₁
    · rename_i b hb
      simp only [List.isEmpty_nil, Bool.true_or, if_true] at q₁
      exact cmp_ok st.sim R.u100 (r.step S st) rl hb fun tk => wpAny_holding (wpAny_truthy_bool ⟨φ₁, σ₁, st.trans (Step.toks st.sim tk), q₁⟩)
    · exact q₁.elim

theorem ok_cmp {l : Expr} {a : E} {ops : List CmpOp} {es : List Expr} {as : List E} {pos} (hm : lastMarks ops es = false) (h : EOk prog w h₀ C d env vs l a) (hs : COk prog w h₀ C d env vs ops es as) :
    EOk prog w h₀ C d env vs (.Compare l ops es pos) (.cmp a (ops.map cCmp) as) := fun A s φ σ ρ Q X R S F q => by
  rw [wpE] at q
  rw [arm_eval_Compare, PyProof.Rows.markedEach_of_false _ _ _ hm]
  refine wpAny_bind (wpAny_mono (h A s φ σ ρ _ X R S F q) (fun x s₁ y => ?_) fun _ _ e => e)
  obtain ⟨φ₁, σ₁, V, st, rl, q₁⟩ := y
  refine wpAny_mono (hs A s₁ φ₁ σ₁ ρ _ X pos V x R st.sim (F.step S st) rl q₁).1 (fun v s₂ z => PV.trans st ?_) (fun _ _ z => PX.trans st z)
  obtain ⟨φ', σ', V', st', r', b, rfl, q'⟩ := z
  exact ⟨φ', σ', _, st', r', q'⟩
theorem tok_cmp {l : Expr} {a : E} {ops : List CmpOp} {es : List Expr} {as : List E} {pos} (hm : lastMarks ops es = false) (h : EOk prog w h₀ C d env vs l a) (hs : COk prog w h₀ C d env vs ops es as) :
    TOk prog w h₀ C d env vs (.Compare l ops es pos) (.cmp a (ops.map cCmp) as) := fun A s φ σ ρ Q X R S F q => by
  rw [wpT] at q
  rw [arm_isTrue_Compare, PyProof.Rows.markedEach_of_false _ _ _ hm]
  refine wpAny_bind (wpAny_mono (h A s φ σ ρ _ X R S F q) (fun x s₁ y => ?_) fun _ _ e => e)
  obtain ⟨φ₁, σ₁, V, st, rl, q₁⟩ := y
  exact wpAny_mono (hs A s₁ φ₁ σ₁ ρ _ X pos V x R st.sim (F.step S st) rl q₁).2 (fun v s₂ z => PB.trans st z) (fun _ _ z => PX.trans st z)

theorem tok_not {x : Expr} {a : E} {pos} (h : TOk prog w h₀ C d env vs x a) : TOk prog w h₀ C d env vs (.UnaryOp .Not x pos) (.not a) := fun A s φ σ ρ Q X R S F q => by
  rw [wpT] at q
  rw [arm_isTrue_UnaryOp]
  refine wpAny_bind (wpAny_mono (h A s φ σ ρ _ X R S F q) (fun x s₁ y => wpAny_pure ?_) fun _ _ e => e)
  obtain ⟨φ₁, σ₁, st, q₁⟩ := y
  exact ⟨φ₁, σ₁, st, q₁⟩
theorem tok_and {es : List Expr} {as : List E} {pos} (h : AOk prog w h₀ C d env vs es as) : TOk prog w h₀ C d env vs (.BoolOp .And es pos) (.and as) := fun A s φ σ ρ Q X R S F q => by
  rw [wpT] at q
  exact (h A s φ σ ρ Q X R S F).1 q
theorem tok_or {es : List Expr} {as : List E} {pos} (h : AOk prog w h₀ C d env vs es as) : TOk prog w h₀ C d env vs (.BoolOp .Or es pos) (.or as) := fun A s φ σ ρ Q X R S F q => by
  rw [wpT] at q
  exact (h A s φ σ ρ Q X R S F).2 q
/-- a test of another kind: by its value -/
theorem tok_val {e : Expr} {a : E} (he : ∀ env whole, isTrue e env whole = (do let v ← whole; standAt e.pos; holding [v] (truthy v)))
    (ha : ∀ (whole : (V → Store → Prop) → XPost → Prop) ρ σ Q X, wpT C a whole ρ σ Q X → whole (fun v σ₁ => match truth σ₁ v with | some b => Q b σ₁ | Option.none => False) X)
    (h : EOk prog w h₀ C d env vs e a) : TOk prog w h₀ C d env vs e a := fun A s φ σ ρ Q X R S F q => by
  have q := ha _ ρ σ Q X q
  rw [he]
  refine wpAny_bind (wpAny_mono (h A s φ σ ρ _ X R S F q) (fun x s₁ y => ?_) fun _ _ e => e)
  obtain ⟨φ₁, σ₁, V, st, rl, q₁⟩ := y
  refine wpAny_bind (wpAny_standAt (wpAny_holding ?_))
  split at q₁
  · rename_i b hb
    exact truthy_ok st.sim rl hb fun tk => ⟨φ₁, σ₁, st.trans (Step.toks st.sim tk), q₁⟩
  · exact q₁.elim

theorem aok_nil : AOk prog w h₀ C d env vs [] [] := fun A s φ σ ρ Q X R S F => by
  constructor
  · intro q
    rw [wpTs] at q
    exact wpAny_pure ⟨φ, σ, Step.refl S, q⟩
  · intro q
    rw [wpTo] at q
    exact wpAny_pure ⟨φ, σ, Step.refl S, q⟩
theorem aok_cons {e : Expr} {a : E} {es : List Expr} {as : List E} (h : TOk prog w h₀ C d env vs e a) (hs : AOk prog w h₀ C d env vs es as) : AOk prog w h₀ C d env vs (e :: es) (a :: as) := fun A s φ σ ρ Q X R S F => by
  constructor
  · intro q
    rw [wpTs] at q
    rw [arm_allTrue_cons]
    refine wpAny_bind (wpAny_mono (h A s φ σ ρ _ X R S F q) (fun b s₁ y => ?_) fun _ _ e => e)
    obtain ⟨φ₁, σ₁, st, q₁⟩ := y
    cases b with
    | false => exact wpAny_pure ⟨φ₁, σ₁, st, by simpa using q₁⟩
    | true => exact wpAny_mono ((hs A s₁ φ₁ σ₁ ρ Q X R st.sim (F.step S st)).1 (by simpa using q₁)) (fun v s₂ z => PB.trans st z) (fun _ _ z => PX.trans st z)
  · intro q
    rw [wpTo] at q
    rw [arm_allTrue_cons]
    refine wpAny_bind (wpAny_mono (h A s φ σ ρ _ X R S F q) (fun b s₁ y => ?_) fun _ _ e => e)
    obtain ⟨φ₁, σ₁, st, q₁⟩ := y
    cases b with
    | true => exact wpAny_pure ⟨φ₁, σ₁, st, by simpa using q₁⟩
    | false => exact wpAny_mono ((hs A s₁ φ₁ σ₁ ρ Q X R st.sim (F.step S st)).2 (by simpa using q₁)) (fun v s₂ z => PB.trans st z) (fun _ _ z => PX.trans st z)
end

end Mine

/-! KSub -/
namespace Mine
open PySem PySem.Calls

noncomputable def NoSlice (e : Expr) : Prop := ∀ o i, subscripted e false o i = operate [o, i] (getItem o i)

theorem seqIndex_nonneg {k : Int} {n : Nat} (h : 0 ≤ k) (h' : k < n) : seqIndex? k n = some k.toNat := by
  unfold seqIndex?
  have h1 : ¬ k < 0 := by omega
  simp only [if_neg h1]
  rw [if_pos (by simp only [Bool.and_eq_true, decide_eq_true_eq]; omega)]
theorem idx_lt {k : Int} {n j : Nat} (h : idx k n = some j) : j < n ∧ seqIndex? k n = some j ∧ 0 ≤ k ∧ j = k.toNat := by
  unfold idx at h
  split at h
  · rename_i c
    simp only [Option.some.injEq] at h; subst h
    exact ⟨by omega, seqIndex_nonneg c.1 c.2, c.1, rfl⟩
  · cases h

theorem ofOpt_to {α : Type} {σ : Store} {o : Option α} {Q : α → Store → Prop} (q : (Res.ofOpt σ o).to Q) : ∃ a, o = some a ∧ Q a σ := by
  cases o with
  | none => exact q.elim
  | some a => exact ⟨a, rfl, q⟩

section
variable {prog : Program} {w : World} {h₀ : Heap} {C : Oracle} {d : Nat} {env : Env} {vs : Vs}

theorem sub_ok {A : Around} {s : Shared} {φ : List Addr} {σ : Store} {Q : V → Store → Prop} {E : Value → Shared → Prop} {value slice : Expr} {V W : Mine.V} {a i : Value} (S : Sim h₀ s.heap φ σ)
    (ra : Rel s.heap φ V a) (ri : Rel s.heap φ W i) (hs : NoSlice slice) (q : (subV V W σ).to Q) : wpAny (model prog w) A (PyProof.Rows.subscriptTail value slice a i) (PV h₀ s φ Q) E s := by
  cases V <;> try (cases W <;> exact q.elim)
  case tup Vs =>
    cases W <;> try exact q.elim
    case int k =>
    simp only [subV] at q
    split at q
    · rename_i hk
      simp only [small, Bool.and_eq_true, decide_eq_true_eq] at hk
      obtain ⟨x, e, q⟩ := ofOpt_to q
      obtain ⟨j, e1, e2⟩ := Option.bind_eq_some_iff.mp e
      simp only [Rel] at ra ri
      obtain ⟨t, items, n, rfl, g, rl⟩ := ra
      obtain ⟨u, rfl⟩ := ri
      obtain ⟨y, ey, ry⟩ := rl.get e2
      have hl : items.toList.length = Vs.length := rl.length.symm
      refine PyProof.Rows.item_tupleT (l := items.toList) ⟨_, g, rfl, n, by simp⟩ hk.1 hk.2 ?_ ey (PV.same S ry q) (hs _ _)
      rw [hl]; exact (idx_lt e1).2.1
    · exact q.elim
  case ref m =>
    cases W <;> try (simp only [subV] at q; exact q.elim)
    case int k =>
    simp only [subV] at q
    split at q
    · rename_i Vs em
      obtain ⟨x, e, q⟩ := ofOpt_to q
      obtain ⟨j, e1, e2⟩ := Option.bind_eq_some_iff.mp e
      obtain ⟨l, items, n, rfl, _, g, rl, z⟩ := S.list em ra
      rw [Rel] at ri
      obtain ⟨u, rfl⟩ := ri
      obtain ⟨y, ey, ry⟩ := rl.get e2
      have hl : items.size = Vs.length := by simpa using rl.length.symm
      have ij := idx_lt e1
      refine PyProof.Rows.tail_any (T := "list") ⟨_, g, rfl⟩ slot_list_getitem.lookup ?_ (hs _ _)
      obtain ⟨i1, _, h0, rfl⟩ := ij
      exact wpAny_getItem_list g.isList h0 (by omega) (by simpa using ey) (PV.same S ry q)
    · exact q.elim

theorem ok_sub {l r : Expr} {a b : E} {pos} (hs : NoSlice r) (hl : EOk prog w h₀ C d env vs l a) (hr : EOk prog w h₀ C d env vs r b) :
    EOk prog w h₀ C d env vs (.Subscript l r pos) (.sub a b) := fun A s φ σ ρ Q X R S F q => by
  rw [wpE] at q
  refine PyProof.Rows.Subscript_ (wpAny_mono (hl A s φ σ ρ _ X R S F q) (fun x s₁ y => ?_) fun _ _ e => e)
  obtain ⟨φ₁, σ₁, V, st, rl, q₁⟩ := y
  refine wpAny_mono (hr A s₁ φ₁ σ₁ ρ _ X R st.sim (F.step S st) q₁) (fun x' s₂ y => ?_) fun _ _ e => PX.trans st e
  obtain ⟨φ₂, σ₂, W, st₂, rl₂, q₂⟩ := y
  exact wpAny_mono (sub_ok st₂.sim (rl.step st.sim st₂) rl₂ hs q₂) (fun _ _ z => PV.trans (st.trans st₂) z) fun _ _ e => e
end
end Mine

/-! KBind -/
namespace Mine
open PySem PySem.Calls

theorem lookup_zip_gen : ∀ (xs : List Str) (vs : List Value) (T : List (Str × Value)), xs.Nodup → xs.length = vs.length → (∀ n ∈ xs, T.lookup n = (xs.zip vs).lookup n) →
    xs.filterMap (fun n => (T.lookup n).map (n, ·)) = xs.zip vs
  | [], vs, _, _, _, _ => by simp
  | x :: xs, [], _, _, h, _ => by simp at h
  | x :: xs, v :: vs, T, hnd, hl, hT => by
    have hx : x ∉ xs := (List.nodup_cons.mp hnd).1
    have h1 := hT x List.mem_cons_self
    simp only [List.zip_cons_cons, List.lookup_cons, beq_self_eq_true] at h1
    simp only [List.filterMap_cons, h1, Option.map_some, List.zip_cons_cons]
    refine congrArg _ (lookup_zip_gen xs vs T (List.nodup_cons.mp hnd).2 (by simpa using hl) fun n hn => ?_)
    have h2 := hT n (List.mem_cons_of_mem _ hn)
    have h3 : (n == x) = false := by
      cases h : n == x with
      | false => rfl
      | true => exact absurd (beq_iff_eq.mp h ▸ hn) hx
    simpa only [List.zip_cons_cons, List.lookup_cons, h3] using h2
theorem lookup_zip {names : List Str} {vals : List Value} (hnd : names.Nodup) (hl : names.length = vals.length) :
    names.filterMap (fun n => ((names.zip vals).lookup n).map (n, ·)) = names.zip vals := lookup_zip_gen names vals _ hnd hl fun _ _ => rfl

theorem lookup_zip_isSome {names : List Str} {vals : List Value} (hl : names.length = vals.length) : ∀ n ∈ names, ((names.zip vals).lookup n).isSome = true := by
  induction names generalizing vals with
  | nil => intro n h; cases h
  | cons x xs ih =>
    cases vals with
    | nil => simp at hl
    | cons v vs =>
      simp only [List.length_cons, Nat.add_right_cancel_iff] at hl
      intro n hn
      simp only [List.zip_cons_cons, List.lookup_cons]
      cases h : n == x with
      | true => rfl
      | false =>
        refine ih hl n ?_
        rcases List.mem_cons.mp hn with e | hm
        · subst e; simp at h
        · exact hm

theorem bindArgs_plain {fd : FuncData} {args : List Arg} {vals : List Value} (hp : fd.params = ⟨[], args, none, [], [], none, []⟩) (hd : fd.defaults = .none)
    (hlen : args.length = vals.length) (hnd : (args.map (·.arg)).Nodup) : bindArgs fd ⟨vals, []⟩ = pure ((args.map (·.arg)).zip vals) := by
  have hl : (args.map (·.arg)).length = vals.length := by simpa using hlen
  unfold bindArgs
  rw [hp, hd]
  have hs : seqItems? Value.none = pure none := rfl
  rw [hs]
  simp only [List.map_nil, List.nil_append, List.forIn_nil, pure_bind, Option.getD_none, List.drop_nil, List.length_nil, Nat.sub_zero, List.append_nil]
  have hmiss : ((List.map (fun x => x.arg) args).take (List.map (fun x => x.arg) args).length).filter (fun n => (((List.map (fun x => x.arg) args).zip vals).lookup n).isNone) = [] := by
    rw [List.filter_eq_nil_iff]
    intro n hn
    have := lookup_zip_isSome hl n (List.mem_of_mem_take hn)
    simp [Option.isSome_iff_ne_none] at this ⊢
    exact this
  have hmore : ¬ (vals.length > (List.map (fun x => x.arg) args).length) := by omega
  rw [if_neg (by simp only [Bool.and_eq_true, decide_eq_true_eq]; omega)]
  rw [hmiss]
  simp only [List.isEmpty_nil, Bool.not_true, Bool.false_eq_true, if_false, List.zip_nil_right, List.forIn_nil, pure_bind]
  rw [lookup_zip hnd hl]
end Mine

/-! KStore -/
namespace Mine
open PySem PySem.Calls

theorem ns_ne_cell {h : Heap} {a c : Addr} {m : Str → Option Value} {ov : Option Value} (n : h.Ns a m) (x : h.IsCell c ov) : c ≠ a := by
  rintro rfl
  obtain ⟨o, es, ep, e, d, _⟩ := n
  obtain ⟨o', e', d'⟩ := x
  rw [e] at e'; cases e'; rw [d] at d'; cases d'

theorem set_get_ne {α : Type} {l : List α} {i j : Nat} {x : α} (h : i ≠ j) : (l.set i x)[j]? = l[j]? := by simp [h]
theorem set_get_eq {α : Type} {l : List α} {i : Nat} {x : α} (h : i < l.length) : (l.set i x)[i]? = some x := by simp [h]
theorem set_get_self {α : Type} {l : List α} {i : Nat} {x y : α} (h : (l.set i x)[i]? = some y) : x = y := by
  by_cases hi : i < l.length
  · rw [set_get_eq hi] at h; cases h; rfl
  · rw [List.getElem?_eq_none (by simpa using hi)] at h; cases h

section
variable {prog : Program} {w : World} {h₀ : Heap} {A : Around} {s : Shared} {φ : List Addr} {σ : Store} {E : Value → Shared → Prop} {env : Env} {vs : Vs} {ρ : List V}

theorem store_local {x : Str} {i : Nat} {V : Mine.V} {v : Value} {Q : Unit → Shared → Prop} (S : Sim h₀ s.heap φ σ) (F : FrS h₀ s.heap φ env vs ρ) (hx : vs.lookup x = some i) (hk : env.kindOf x = some .local) (r : Rel s.heap φ V v)
    (h : ∀ s', Step h₀ (fun a => a = env.locals) s s' φ φ σ → FrS h₀ s'.heap φ env vs (ρ.set i V) → Q () s') : wpAny (model prog w) A (storeName env x v) Q E s := by
  obtain ⟨m, n, rn⟩ := F.ns
  refine wpAny_storeName_local hk n (fun h' hn hs => ?_) (by rw [F.fn]; rfl)
  have ho : ∀ a, (a = env.locals) → NoTup s.heap a ∧ a ∉ φ ∧ h₀.get? a = none := by
    rintro a rfl; exact ⟨noTup_ns n, F.locOut, F.locNew⟩
  have kk : ∀ b o, ¬ (b = env.locals) → s.heap.get? b = some o → h'.get? b = some o := fun b o hb e => (hs.2 b hb).trans e
  have S' : Sim h₀ h' φ σ := S.keepOwn (own := fun a => a = env.locals) kk ho
  have K' : Keep φ (fun a => a = env.locals) s.heap h' := fun b o _ hb e => kk b o hb e
  have R' : ∀ (W : Mine.V) (u : Value), Rel s.heap φ W u → Rel h' φ W u := fun W u ru => Rel.keep K' (List.prefix_refl _) (fun a ma => ma.elim (fun m => S.noTup m) fun e => (ho a e).1) W u ru
  refine h _ ⟨⟨rfl, rfl⟩, List.prefix_refl _, S', K', fun _ m => .inl m, fun b o e => ?_⟩ ⟨F.fn, F.glob, F.blt, F.locNew, F.locOut, F.inj, ⟨_, hn, ?_⟩, ?_, F.cellInj⟩
  · by_cases hb : b = env.locals
    · subst hb
      obtain ⟨o', _, _, e', _⟩ := hn
      exact ⟨o', e'⟩
    · exact ⟨o, kk b o hb e⟩
  · intro y j W hy hky hW hne
    by_cases hyx : y = x
    · subst hyx
      rw [hx] at hy; cases hy
      cases set_get_self hW
      exact ⟨v, by simp, R' _ _ r⟩
    · have hij : i ≠ j := fun e => hyx (F.inj y x i (e ▸ hy) hx)
      rw [set_get_ne hij] at hW
      obtain ⟨u, eu, ru⟩ := rn y j W hy hky hW hne
      exact ⟨u, by simp [hyx, eu], R' _ _ ru⟩
  · intro y j hy hky
    obtain ⟨c, ov, e1, e2, e3, ic, rc⟩ := F.cell y j hy hky
    have hc := ns_ne_cell n ic
    refine ⟨c, ov, e1, e2, e3, ?_, fun W hW hne => ?_⟩
    · obtain ⟨o, e, dd⟩ := ic; exact ⟨o, kk c o hc e, dd⟩
    · have hyx : y ≠ x := by
        rintro rfl
        rw [hk] at hky; rcases hky with q | q <;> cases q
      have hij : i ≠ j := fun e => hyx (F.inj y x i (e ▸ hy) hx)
      rw [set_get_ne hij] at hW
      obtain ⟨u, eu, ru⟩ := rc W hW hne
      exact ⟨u, eu, R' _ _ ru⟩

theorem store_cell {x : Str} {i : Nat} {V : Mine.V} {v : Value} {Q : Unit → Shared → Prop} (S : Sim h₀ s.heap φ σ) (F : FrS h₀ s.heap φ env vs ρ) (hx : vs.lookup x = some i) (hk : env.kindOf x = some .cell) (r : Rel s.heap φ V v)
    (h : ∀ s', Step h₀ (frameOwn env vs) s s' φ φ σ → FrS h₀ s'.heap φ env vs (ρ.set i V) → Q () s') : wpAny (model prog w) A (storeName env x v) Q E s := by
  obtain ⟨m, n, rn⟩ := F.ns
  obtain ⟨c, ov, e1, e2, e3, ic, rc⟩ := F.cell x i hx (.inl hk)
  refine wpAny_storeName_cell F.fn hk e1 ic fun h' ic' hs => ?_
  have ho : ∀ a, (a = c) → NoTup s.heap a ∧ a ∉ φ ∧ h₀.get? a = none := by
    rintro a rfl; exact ⟨noTup_cell ic, e2, e3⟩
  have kk : ∀ b o, ¬ (b = c) → s.heap.get? b = some o → h'.get? b = some o := fun b o hb e => (hs.2 b hb).trans e
  have S' : Sim h₀ h' φ σ := S.keepOwn (own := fun a => a = c) kk ho
  have K' : Keep φ (fun a => a = c) s.heap h' := fun b o _ hb e => kk b o hb e
  have R' : ∀ (W : Mine.V) (u : Value), Rel s.heap φ W u → Rel h' φ W u := fun W u ru => Rel.keep K' (List.prefix_refl _) (fun a ma => ma.elim (fun m => S.noTup m) fun e => (ho a e).1) W u ru
  have hLc : c ≠ env.locals := ns_ne_cell n ic
  refine h _ ⟨⟨rfl, rfl⟩, List.prefix_refl _, S', K'.mono (fun _ m => m) (fun a e => .inr ⟨x, i, hx, hk, e ▸ e1⟩), fun _ m => .inl m, fun b o e => ?_⟩ ⟨F.fn, F.glob, F.blt, F.locNew, F.locOut, F.inj, ⟨m, ?_, ?_⟩, ?_, F.cellInj⟩
  · by_cases hb : b = c
    · subst hb
      obtain ⟨o', e', _⟩ := ic'
      exact ⟨o', e'⟩
    · exact ⟨o, kk b o hb e⟩
  · obtain ⟨o, es, ep, e, rr⟩ := n
    exact ⟨o, es, ep, kk _ o (Ne.symm hLc) e, rr⟩
  · intro y j W hy hky hW hne
    have hyx : y ≠ x := by
      rintro rfl
      rw [hk] at hky; cases hky
    have hij : i ≠ j := fun e => hyx (F.inj y x i (e ▸ hy) hx)
    rw [set_get_ne hij] at hW
    obtain ⟨u, eu, ru⟩ := rn y j W hy hky hW hne
    exact ⟨u, eu, R' _ _ ru⟩
  · intro y j hy hky
    by_cases hyx : y = x
    · subst hyx
      rw [hx] at hy; cases hy
      refine ⟨c, some v, e1, e2, e3, ic', fun W hW hne => ?_⟩
      cases set_get_self hW
      exact ⟨v, rfl, R' _ _ r⟩
    · obtain ⟨c', ov', f1, f2, f3, ic2, rc2⟩ := F.cell y j hy hky
      have hcc : c' ≠ c := fun e => hyx (F.cellInj y x j i c hy hx (e ▸ f1) e1)
      refine ⟨c', ov', f1, f2, f3, ?_, fun W hW hne => ?_⟩
      · obtain ⟨o, e, dd⟩ := ic2; exact ⟨o, kk c' o hcc e, dd⟩
      · have hij : i ≠ j := fun e => hyx (F.inj y x i (e ▸ hy) hx)
        rw [set_get_ne hij] at hW
        obtain ⟨u, eu, ru⟩ := rc2 W hW hne
        exact ⟨u, eu, R' _ _ ru⟩

theorem store_ok {x : Str} {i : Nat} {V : Mine.V} {v : Value} {Q : Unit → Shared → Prop} (S : Sim h₀ s.heap φ σ) (F : FrS h₀ s.heap φ env vs ρ) (hx : vs.lookup x = some i) (hk : env.kindOf x = some .local ∨ env.kindOf x = some .cell) (r : Rel s.heap φ V v)
    (h : ∀ s', Step h₀ (frameOwn env vs) s s' φ φ σ → FrS h₀ s'.heap φ env vs (ρ.set i V) → Q () s') : wpAny (model prog w) A (storeName env x v) Q E s :=
  hk.elim (fun hk => store_local S F hx hk r fun s' st F' => h s' (st.wider fun _ e => .inl e) F') fun hk => store_cell S F hx hk r h
end

end Mine

/-! KAssign -/
namespace Mine
open PySem PySem.Calls

inductive CPat (env : Env) (vs : Vs) : Expr → Pat → Prop
  | name {x : Str} {i : Nat} {p : Pos} : vs.lookup x = some i → env.kindOf x = some .local ∨ env.kindOf x = some .cell → CPat env vs (.Name x p) (.var i)

section
variable {prog : Program} {w : World} {h₀ : Heap} {A : Around} {φ : List Addr} {σ : Store} {E : Value → Shared → Prop} {env : Env} {vs : Vs}

theorem assign_ok {t : Expr} {p : Pat} (h : CPat env vs t p) {s : Shared} {ρ ρ' : List V} {V : V} {v : Value} {Q : Unit → Shared → Prop} (hh : A.handled = none) (S : Sim h₀ s.heap φ σ) (F : FrS h₀ s.heap φ env vs ρ) (r : Rel s.heap φ V v)
    (e : bindTo σ p V ρ = some ρ') (hQ : ∀ s', Step h₀ (frameOwn env vs) s s' φ φ σ → FrS h₀ s'.heap φ env vs ρ' → Q () s') : wpAny (model prog w) A (assign t env v) Q E s := by
  cases h with
  | name hx hk =>
    simp only [bindTo, Option.some.injEq] at e; subst e
    exact wpAny_assign_Name (store_ok S F hx hk r hQ)
end

end Mine

/-! KStmt -/
namespace Mine
open PySem PySem.Calls

noncomputable def RelF (h : Heap) (φ : List Addr) : Fl → Flow → Prop
  | .next, f => f = .next
  | .brk, f => f = .brk
  | .cont, f => f = .cont
  | .ret V, f => ∃ v, f = .ret v ∧ Rel h φ V v
  | .exc _, _ => False

noncomputable def PF (h₀ : Heap) (env : Env) (vs : Vs) (s : Shared) (φ : List Addr) (Q : Post) (f : Flow) (s' : Shared) : Prop :=
  ∃ φ' σ' ρ' fl, Step h₀ (frameOwn env vs) s s' φ φ' σ' ∧ FrS h₀ s'.heap φ' env vs ρ' ∧ RelF s'.heap φ' fl f ∧ Q fl ρ' σ'
noncomputable def NX : Value → Shared → Prop := fun _ _ => False

theorem PF.trans {h₀ : Heap} {env : Env} {vs : Vs} {s s₁ : Shared} {φ φ₁ : List Addr} {σ₁ : Store} {Q : Post} {f : Flow} {s' : Shared} (x : Step h₀ (frameOwn env vs) s s₁ φ φ₁ σ₁) (y : PF h₀ env vs s₁ φ₁ Q f s') : PF h₀ env vs s φ Q f s' :=
  let ⟨φ', σ', ρ', fl, st, r⟩ := y; ⟨φ', σ', ρ', fl, x.trans st, r⟩
theorem Step.own {h₀ : Heap} {env : Env} {vs : Vs} {s s₁ : Shared} {φ φ₁ : List Addr} {σ₁ : Store} (x : Step h₀ noOwn s s₁ φ φ₁ σ₁) : Step h₀ (frameOwn env vs) s s₁ φ φ₁ σ₁ := x.wider fun _ f => f.elim

section
variable (prog : Program) (w : World) (h₀ : Heap) (C : Oracle) (d : Nat)
noncomputable def SOk (env : Env) (vs : Vs) (st : Stmt) (a : S) : Prop :=
  ∀ (A : Around) (s : Shared) (φ : List Addr) (σ : Store) (ρ : List V) (Q : Post), ROk A d → Sim h₀ s.heap φ σ → FrS h₀ s.heap φ env vs ρ → wpS C a ρ σ Q →
    wpAny (model prog w) A (exec st env) (PF h₀ env vs s φ Q) NX s
noncomputable def SsOk (env : Env) (vs : Vs) (st : List Stmt) (a : List S) : Prop :=
  ∀ (A : Around) (s : Shared) (φ : List Addr) (σ : Store) (ρ : List V) (Q : Post), ROk A d → Sim h₀ s.heap φ σ → FrS h₀ s.heap φ env vs ρ → wpSs C a ρ σ Q →
    wpAny (model prog w) A (execs st env) (PF h₀ env vs s φ Q) NX s
end

/-- no comprehension, whose store is another one -/
noncomputable def NoComp (e : Expr) : Prop := ∀ t l env, swapsWith e t l env = pure false

section
variable {prog : Program} {w : World} {h₀ : Heap} {C : Oracle} {d : Nat} {env : Env} {vs : Vs}

theorem interactive_fn (h : env.scope.kind = .function) : interactive env = false := by unfold interactive; rw [h]; rfl

theorem sok_expr {e : Expr} {a : E} {pos} (hc : NoComp e) (h : EOk prog w h₀ C d env vs e a) : SOk prog w h₀ C d env vs (.Expr e pos) (.expr a) := fun A s φ σ ρ Q R S F q => by
  rw [wpS] at q
  refine wpAny_Expr_any (wpAny_mono (h A s φ σ ρ _ _ R S F q) (fun x s₁ y => ?_) fun _ _ e => e.elim) (interactive_fn F.fn) (hc _ _ _)
  obtain ⟨φ₁, σ₁, V, st, rl, q₁⟩ := y
  exact ⟨φ₁, σ₁, ρ, .next, st.own, F.step S st, rfl, q₁⟩

theorem sok_ret {e : Expr} {a : E} {pos} (h : EOk prog w h₀ C d env vs e a) : SOk prog w h₀ C d env vs (.Return (some e) pos) (.ret (some a)) := fun A s φ σ ρ Q R S F q => by
  rw [wpS, wpO] at q
  refine wpAny_Return_some (wpAny_mono (h A s φ σ ρ _ _ R S F q) (fun x s₁ y => ?_) fun _ _ e => e.elim)
  obtain ⟨φ₁, σ₁, V, st, rl, q₁⟩ := y
  exact ⟨φ₁, σ₁, ρ, .ret V, st.own, F.step S st, ⟨x, rfl, rl⟩, q₁⟩
theorem sok_retNone {pos} : SOk prog w h₀ C d env vs (.Return none pos) (.ret none) := fun A s φ σ ρ Q R S F q => by
  rw [wpS, wpO] at q
  exact wpAny_Return_none ⟨φ, σ, ρ, .ret .none, Step.refl S, F, ⟨.none, rfl, rel_none⟩, q⟩
theorem sok_assign {t value : Expr} {p : Pat} {a : E} {pos} (hc : swapsWith value (some t) pos.line env = pure false) (hw : swappedStores [t] value env = pure none) (hst : (assignEach [t] env).map (·.2) = [assign t env]) (ht : CPat env vs t p) (h : EOk prog w h₀ C d env vs value a) :
    SOk prog w h₀ C d env vs (.Assign [t] value pos) (.assign p a) := fun A s φ σ ρ Q R S F q => by
  rw [wpS] at q
  refine wpAny_Assign_stores (wpAny_mono (h A s φ σ ρ _ _ R S F q) (fun x s₁ y => ?_) fun _ _ e => e.elim) hc hw
  obtain ⟨φ₁, σ₁, V, st, rl, q₁⟩ := y
  rw [hst]
  show wpAny (model prog w) A (assign t env x) _ _ s₁
  split at q₁
  · rename_i ρ' e
    exact assign_ok ht R.hd st.sim (F.step S st) rl e fun s₂ st₂ F₂ => ⟨φ₁, σ₁, ρ', .next, st.own.trans st₂, F₂, rfl, q₁⟩
  · exact q₁.elim

theorem ssok_nil : SsOk prog w h₀ C d env vs [] [] := fun A s φ σ ρ Q R S F q => by
  rw [wpSs] at q
  exact wpAny_execs_nil ⟨φ, σ, ρ, .next, Step.refl S, F, rfl, q⟩
theorem ssok_cons {st : Stmt} {a : S} {sts : List Stmt} {as : List S} (h : SOk prog w h₀ C d env vs st a) (hs : SsOk prog w h₀ C d env vs sts as) : SsOk prog w h₀ C d env vs (st :: sts) (a :: as) :=
  fun A s φ σ ρ Q R S F q => by
  rw [wpSs] at q
  refine wpAny_execs_cons (wpAny_mono (h A s φ σ ρ _ R S F q) (fun f s₁ y => ?_) fun _ _ e => e)
  obtain ⟨φ₁, σ₁, ρ₁, fl, st₁, F₁, rf, q₁⟩ := y
  cases fl with
  | next =>
    simp only [RelF] at rf; subst rf
    exact wpAny_mono (hs A s₁ φ₁ σ₁ ρ₁ Q R st₁.sim F₁ q₁) (fun _ _ z => PF.trans st₁ z) fun _ _ e => e
  | brk => simp only [RelF] at rf; subst rf; exact ⟨φ₁, σ₁, ρ₁, .brk, st₁, F₁, rfl, q₁⟩
  | cont => simp only [RelF] at rf; subst rf; exact ⟨φ₁, σ₁, ρ₁, .cont, st₁, F₁, rfl, q₁⟩
  | ret V =>
    obtain ⟨v, rfl, rl⟩ := rf
    exact ⟨φ₁, σ₁, ρ₁, .ret V, st₁, F₁, ⟨v, rfl, rl⟩, q₁⟩
  | exc c => exact rf.elim

theorem sok_if {test : Expr} {a : E} {b o : List Stmt} {b' o' : List S} {pos} (ht : TOk prog w h₀ C d env vs test a) (hb : SsOk prog w h₀ C d env vs b b') (ho : SsOk prog w h₀ C d env vs o o') : SOk prog w h₀ C d env vs (.If test b o pos) (.if_ a b' o') :=
  fun A s φ σ ρ Q R S F q => by
  rw [wpS] at q
  refine wpAny_If (wpAny_mono (ht A s φ σ ρ _ _ R S F q) (fun t s₁ y => ?_) fun _ _ e => e.elim)
  obtain ⟨φ₁, σ₁, st, q₁⟩ := y
  cases t with
  | true => exact wpAny_mono (hb A s₁ φ₁ σ₁ ρ Q R st.sim (F.step S st) (by simpa using q₁)) (fun _ _ z => PF.trans st.own z) fun _ _ e => e
  | false => exact wpAny_mono (ho A s₁ φ₁ σ₁ ρ Q R st.sim (F.step S st) (by simpa using q₁)) (fun _ _ z => PF.trans st.own z) fun _ _ e => e
end

end Mine

/-! KLoop -/
namespace Mine
open PySem PySem.Calls

/-- what an iterator is: its own objects fp, its state at the i-th item -/
structure Itr (prog : Program) (w : World) (A : Around) (h₀ : Heap) (t : Expr) (I : Addr) (fp : List Addr) (items : List V) (same : Store → Prop) (St : Nat → Heap → List Addr → Store → Prop) : Prop where
  new : ∀ b ∈ fp, h₀.get? b = none
  mine : ∀ i h φ σ, St i h φ σ → ∀ b ∈ fp, ∃ o us, h.get? b = some o ∧ (o.data = .fields us ∧ o.cls ≠ .none)
  frame : ∀ i h h' φ φ' σ σ', St i h φ σ → Sim h₀ h' φ' σ' → φ <+: φ' → same σ' → (∀ b ∈ fp, ∀ o, h.get? b = some o → h'.get? b = some o) → (∀ V v, Rel h φ V v → Rel h' φ' V v) → St i h' φ' σ'
  item : ∀ i V (s : Shared) φ σ, items[i]? = some V → St i s.heap φ σ → Sim h₀ s.heap φ σ → wpAny (model prog w) A (pyNext (.ref I)) (fun r s₁ => ∃ v, r = some v ∧
    wpAny (model prog w) A (letOwnedTupleGo t (.ref I) v) (fun _ s₂ => (∃ h' tk, s₂ = { s with heap := h', toks := tk }) ∧ Rel s₂.heap φ V v ∧ St (i + 1) s₂.heap φ σ ∧
      (∀ b o, b ∉ fp → s.heap.get? b = some o → s₂.heap.get? b = some o) ∧ (∀ b ∈ fp, ∃ o us, s₂.heap.get? b = some o ∧ (o.data = .fields us ∧ o.cls ≠ .none))) NX s₁) NX s
  done : ∀ (s : Shared) φ σ, St items.length s.heap φ σ → Sim h₀ s.heap φ σ → wpAny (model prog w) A (pyNext (.ref I)) (fun r s₁ => r = none ∧ (∃ h' tk, s₁ = { s with heap := h', toks := tk }) ∧
    (∀ b o, b ∉ fp → s.heap.get? b = some o → s₁.heap.get? b = some o)) NX s

/-- an iterator is its own iterator -/
noncomputable def SelfIt (prog : Program) (w : World) (A : Around) (I : Addr) (St : Nat → Heap → List Addr → Store → Prop) : Prop :=
  ∀ i (s : Shared) φ σ, St i s.heap φ σ → wpAny (model prog w) A (pyIter (.ref I)) (fun v s₁ => v = .ref I ∧ s₁ = s) NX s

theorem fields_noTup {h : Heap} {b : Addr} (x : ∃ o us, h.get? b = some o ∧ (o.data = .fields us ∧ o.cls ≠ .none)) : NoTup h b := by
  obtain ⟨o, us, e, d⟩ := x
  intro o' items n e' _ d'
  rw [e] at e'; cases e'; rw [d.1] at d'; cases d'

theorem fields_out {h₀ h : Heap} {φ : List Addr} {σ : Store} (S : Sim h₀ h φ σ) {b : Addr} (x : ∃ o us, h.get? b = some o ∧ (o.data = .fields us ∧ o.cls ≠ .none)) : b ∉ φ := fun m => by
  obtain ⟨o, us, e, d⟩ := x
  obtain ⟨_, ob, _, _, r⟩ := S.mem m
  cases ob with
  | list vs => obtain ⟨_, ⟨_, e'⟩, _⟩ := r; rw [e] at e'; cases e'; cases d.1
  | tab P => have e' := r.2; rw [e] at e'; cases e'; exact d.2 rfl
  | gone => obtain ⟨_, e'⟩ := r; rw [e] at e'; cases e'; exact d.2 rfl

theorem fields_notOwn {h₀ h : Heap} {φ : List Addr} {env : Env} {vs : Vs} {ρ : List V} (F : FrS h₀ h φ env vs ρ) {b : Addr} (x : ∃ o us, h.get? b = some o ∧ (o.data = .fields us ∧ o.cls ≠ .none)) : ¬ frameOwn env vs b := by
  obtain ⟨o, us, e, d⟩ := x
  rintro (rfl | ⟨y, i, hy, hk, ec⟩)
  · obtain ⟨m, ⟨o', _, _, e', d', _⟩, _⟩ := F.ns
    rw [e] at e'; cases e'; rw [d.1] at d'; cases d'
  · obtain ⟨c, ov, e1, _, _, ⟨o', e', d'⟩, _⟩ := F.cell y i hy (.inl hk)
    rw [ec] at e1; cases e1
    rw [e] at e'; cases e'; rw [d.1] at d'; cases d'

/-- a change of the iterator's own objects alone -/
theorem Step.iter {h₀ : Heap} {s s₂ : Shared} {φ : List Addr} {σ : Store} {fp : List Addr} (S : Sim h₀ s.heap φ σ) (new : ∀ b ∈ fp, h₀.get? b = none) (mine : ∀ b ∈ fp, ∃ o us, s.heap.get? b = some o ∧ (o.data = .fields us ∧ o.cls ≠ .none))
    (only : ∃ h' tk, s₂ = { s with heap := h', toks := tk }) (k : ∀ b o, b ∉ fp → s.heap.get? b = some o → s₂.heap.get? b = some o) (mine' : ∀ b ∈ fp, ∃ o us, s₂.heap.get? b = some o ∧ (o.data = .fields us ∧ o.cls ≠ .none)) :
    Step h₀ (fun a => a ∈ fp) s s₂ φ φ σ where
  only := by obtain ⟨_, _, rfl⟩ := only; exact ⟨rfl, rfl⟩
  pre := List.prefix_refl _
  sim := S.keepOwn (own := fun a => a ∈ fp) (fun b o hb e => k b o hb e) fun a ha => ⟨fields_noTup (mine a ha), fields_out S (mine a ha), new a ha⟩
  keep := fun b o _ hb e => k b o hb e
  fresh := fun _ m => .inl m
  pres := fun b o e => by
    by_cases hb : b ∈ fp
    · obtain ⟨o', _, e', _⟩ := mine' b hb; exact ⟨o', e'⟩
    · exact ⟨o, k b o hb e⟩

theorem FrS.keepFp {h₀ h h' : Heap} {φ : List Addr} {σ : Store} {env : Env} {vs : Vs} {ρ : List V} {fp : List Addr} (F : FrS h₀ h φ env vs ρ) (S : Sim h₀ h φ σ) (mine : ∀ b ∈ fp, ∃ o us, h.get? b = some o ∧ (o.data = .fields us ∧ o.cls ≠ .none))
    (k : ∀ b o, b ∉ fp → h.get? b = some o → h'.get? b = some o) : FrS h₀ h' φ env vs ρ where
  fn := F.fn
  glob := F.glob
  blt := F.blt
  locNew := F.locNew
  locOut := F.locOut
  inj := F.inj
  ns := by
    obtain ⟨m, n, r⟩ := F.ns
    refine ⟨m, ?_, fun x' i V h1 h2 h3 h4 => ?_⟩
    · obtain ⟨o, es, ep, e, d, rr⟩ := n
      exact ⟨o, es, ep, k _ o (fun hm => fields_notOwn F (mine _ hm) (.inl rfl)) e, d, rr⟩
    · obtain ⟨v, e, rl⟩ := r x' i V h1 h2 h3 h4
      exact ⟨v, e, Rel.keep (own := fun a => a ∈ fp) (fun b o _ hb e => k b o hb e) (List.prefix_refl _) (fun a m => m.elim (fun m => S.noTup m) fun m => fields_noTup (mine a m)) _ _ rl⟩
  cell := fun x' i h1 h2 => by
    obtain ⟨c, ov, e, o, n, ic, r⟩ := F.cell x' i h1 h2
    refine ⟨c, ov, e, o, n, ?_, fun V h3 h4 => ?_⟩
    · obtain ⟨oo, e', d⟩ := ic
      refine ⟨oo, k _ oo (fun hm => ?_) e', d⟩
      obtain ⟨o2, us, e2, d2, _⟩ := mine _ hm
      rw [e2] at e'; cases e'; rw [d] at d2; cases d2
    · obtain ⟨v, e', rl⟩ := r V h3 h4
      exact ⟨v, e', Rel.keep (own := fun a => a ∈ fp) (fun b o _ hb e => k b o hb e) (List.prefix_refl _) (fun a m => m.elim (fun m => S.noTup m) fun m => fields_noTup (mine a m)) _ _ rl⟩
  cellInj := F.cellInj

noncomputable def ownP (env : Env) (vs : Vs) (fp : List Addr) : Addr → Prop := fun a => frameOwn env vs a ∨ a ∈ fp

theorem Step.dropFp {h₀ : Heap} {env : Env} {vs : Vs} {fp : List Addr} {s s' : Shared} {φ φ' : List Addr} {σ' : Store} (x : Step h₀ (ownP env vs fp) s s' φ φ' σ') (h : ∀ b ∈ fp, s.heap.get? b = none) : Step h₀ (frameOwn env vs) s s' φ φ' σ' :=
  ⟨x.only, x.pre, x.sim, fun b o h1 h2 e => x.keep b o h1 (fun m => m.elim h2 fun m => by rw [h b m] at e; cases e) e, x.fresh, x.pres⟩
/-- the iterator's last change -/
theorem Step.endFp {h₀ : Heap} {own : Addr → Prop} {fp : List Addr} {sp s s₁ : Shared} {φp φ : List Addr} {σ : Store} (x : Step h₀ own sp s φp φ σ) (h : ∀ b ∈ fp, sp.heap.get? b = none) (new : ∀ b ∈ fp, h₀.get? b = none)
    (mine : ∀ b ∈ fp, ∃ o us, s.heap.get? b = some o ∧ (o.data = .fields us ∧ o.cls ≠ .none)) (only : ∃ h' tk, s₁ = { s with heap := h', toks := tk }) (k : ∀ b o, b ∉ fp → s.heap.get? b = some o → s₁.heap.get? b = some o) : Step h₀ own sp s₁ φp φ σ where
  only := by
    obtain ⟨h2, t2, rfl⟩ := only
    exact x.only
  pre := x.pre
  sim := x.sim.keepOwn (own := fun a => a ∈ fp) (fun b o hb e => k b o hb e) fun a ha => ⟨fields_noTup (mine a ha), fields_out x.sim (mine a ha), new a ha⟩
  keep := fun b o h1 h2 e => k b o (fun m => by rw [h b m] at e; cases e) (x.keep b o h1 h2 e)
  fresh := x.fresh
  pres := fun b o e => by
    obtain ⟨o', e'⟩ := x.pres b o e
    exact ⟨o', k b o' (fun m => by rw [h b m] at e; cases e) e'⟩

section
variable {prog : Program} {w : World} {h₀ : Heap} {C : Oracle} {d : Nat} {env : Env} {vs : Vs}

theorem for_loop {A : Around} {s : Shared} {φ : List Addr} {σ : Store} {ρ : List V} {Q : Post} {t : Expr} {p : Pat} {I : Addr} {fp : List Addr} {items : List V} {same : Store → Prop} {St : Nat → Heap → List Addr → Store → Prop}
    {body : List Stmt} {body' : List S} {sp : Shared} {φp : List Addr} (R : ROk A d) (x : Step h₀ noOwn sp s φp φ σ) (hfp : ∀ b ∈ fp, sp.heap.get? b = none) (W : Itr prog w A h₀ t I fp items same St) (ht : CPat env vs t p) (hb : SsOk prog w h₀ C d env vs body body') (F : FrS h₀ s.heap φ env vs ρ) (st : St 0 s.heap φ σ)
    (q : forW (fun v ρ₁ σ₂ R => match bindTo σ₂ p v ρ₁ with | some ρ₂ => wpSs C body' ρ₂ σ₂ R | Option.none => False) same items ρ σ Q) :
    codeAny (model prog w) A (.forLoop t (.ref I) body [] env) (fun r s' => match r with | .ok f => PF h₀ env vs sp φp Q f s' | .error _ => False) s := by
  refine codeAny_forLoop_any (fun k s' => ∃ i φ' σ' ρ', k = items.length + 1 - i ∧ i ≤ items.length ∧ Step h₀ (ownP env vs fp) sp s' φp φ' σ' ∧ FrS h₀ s'.heap φ' env vs ρ' ∧ St i s'.heap φ' σ' ∧
      forW (fun v ρ₁ σ₂ R => match bindTo σ₂ p v ρ₁ with | some ρ₂ => wpSs C body' ρ₂ σ₂ R | Option.none => False) same (items.drop i) ρ' σ' Q) ?_ (items.length + 1)
    ⟨0, φ, σ, ρ, rfl, Nat.zero_le _, x.wider fun _ f => f.elim, F, st, by simpa using q⟩
  rintro k s' ⟨i, φ', σ', ρ', rfl, hi, stp, F', st', q'⟩
  by_cases hlt : i < items.length
  · have hd : items.drop i = items[i] :: items.drop (i + 1) := List.drop_eq_getElem_cons hlt
    rw [hd, forW] at q'
    refine wpAny_mono (W.item i items[i] s' φ' σ' (by simp [hlt]) st' stp.sim) (fun r s₁ y => ?_) fun _ _ e => e.elim
    obtain ⟨v, rfl, y⟩ := y
    refine wpAny_mono y (fun _ s₂ z => ?_) fun _ _ e => e.elim
    obtain ⟨only, rl, st₂, kk, mine⟩ := z
    have stp₂ : Step h₀ (fun a => a ∈ fp) s' s₂ φ' φ' σ' := Step.iter stp.sim W.new (W.mine i _ _ _ st') only kk mine
    have F₂ : FrS h₀ s₂.heap φ' env vs ρ' := F'.keepFp stp.sim (W.mine i _ _ _ st') kk
    split at q'
    · rename_i ρ₂ eb
      refine assign_ok ht R.hd stp₂.sim F₂ rl eb fun s₃ st₃ F₃ => ?_
      have rel₃ : ∀ V v, Rel s₂.heap φ' V v → Rel s₃.heap φ' V v := fun V v r => r.stepOwn stp₂.sim F₂ st₃
      have fp₃ : ∀ b ∈ fp, ∀ o, s₂.heap.get? b = some o → s₃.heap.get? b = some o := fun b hb o e => st₃.keep b o (fields_out stp₂.sim (mine b hb)) (fields_notOwn F₂ (mine b hb)) e
      have mine₃ : ∀ b ∈ fp, ∃ o us, s₃.heap.get? b = some o ∧ (o.data = .fields us ∧ o.cls ≠ .none) := fun b hb => let ⟨o, us, e, dd⟩ := mine b hb; ⟨o, us, fp₃ b hb o e, dd⟩
      refine wpAny_mono (hb A s₃ φ' σ' ρ₂ _ R st₃.sim F₃ q') (fun f s₄ y => ?_) fun _ _ e => e.elim
      obtain ⟨φ₄, σ₄, ρ₄, fl, st₄, F₄, rf, q₄⟩ := y
      have all : Step h₀ (ownP env vs fp) sp s₄ φp φ₄ σ₄ := stp.trans ((stp₂.wider fun _ m => .inr m).trans ((st₃.trans st₄).wider fun _ m => .inl m))
      have fp₄ : ∀ b ∈ fp, ∀ o, s₃.heap.get? b = some o → s₄.heap.get? b = some o := fun b hb o e => st₄.keep b o (fields_out st₃.sim (mine₃ b hb)) (fields_notOwn F₃ (mine₃ b hb)) e
      have go : same σ₄ → forW (fun v ρ₁ σ₂ R => match bindTo σ₂ p v ρ₁ with | some ρ₂ => wpSs C body' ρ₂ σ₂ R | Option.none => False) same (items.drop (i + 1)) ρ₄ σ₄ Q →
          ∃ m, m < items.length + 1 - i ∧ ∃ i φ' σ' ρ', m = items.length + 1 - i ∧ i ≤ items.length ∧ Step h₀ (ownP env vs fp) sp s₄ φp φ' σ' ∧ FrS h₀ s₄.heap φ' env vs ρ' ∧ St i s₄.heap φ' σ' ∧
            forW (fun v ρ₁ σ₂ R => match bindTo σ₂ p v ρ₁ with | some ρ₂ => wpSs C body' ρ₂ σ₂ R | Option.none => False) same (items.drop i) ρ' σ' Q := fun hsame hq =>
        ⟨items.length + 1 - (i + 1), by omega, i + 1, φ₄, σ₄, ρ₄, rfl, hlt, all, F₄,
          W.frame (i + 1) s₂.heap s₄.heap φ' φ₄ σ' σ₄ st₂ st₄.sim st₄.pre hsame (fun b hb o e => fp₄ b hb o (fp₃ b hb o e)) (fun V v r => (rel₃ V v r).stepOwn st₃.sim F₃ st₄), hq⟩
      cases fl with
      | next => simp only [RelF] at rf; subst rf; exact go q₄.1 q₄.2
      | cont => simp only [RelF] at rf; subst rf; exact go q₄.1 q₄.2
      | brk => simp only [RelF] at rf; subst rf; exact ⟨φ₄, σ₄, ρ₄, .next, all.dropFp hfp, F₄, rfl, q₄⟩
      | ret V => obtain ⟨u, rfl, ru⟩ := rf; exact ⟨φ₄, σ₄, ρ₄, .ret V, all.dropFp hfp, F₄, ⟨u, rfl, ru⟩, q₄⟩
      | exc c => exact rf.elim
    · exact q'.elim
  · have hin : i = items.length := by omega
    subst hin
    rw [List.drop_length, forW] at q'
    refine wpAny_mono (W.done s' φ' σ' st' stp.sim) (fun r s₁ y => ?_) fun _ _ e => e.elim
    obtain ⟨rfl, only, kk⟩ := y
    exact wpAny_execs_nil ⟨φ', σ', ρ', .next, (stp.dropFp hfp).endFp hfp W.new (W.mine _ _ _ _ st') only kk, F'.keepFp stp.sim (W.mine _ _ _ _ st') kk, rfl, q'⟩
end

end Mine

/-! KIter -/
namespace Mine
open PySem PySem.Calls

noncomputable def plainIter (n : String) : Bool := !["enumerate", "zip", "dict_itemiterator", "dict_reverseitemiterator", "odict_iterator", "itertools.zip_longest", "itertools.pairwise"].contains n

theorem letOwned_other {M : Model} {A : Around} {E : Value → Shared → Prop} {s : Shared} {t : Expr} {I : Addr} {v : Value} {o : Obj} {n : String} {Q : Unit → Shared → Prop} (ho : s.heap.get? I = some o) (hc : o.cls = .type n)
    (hn : plainIter n = true) (hQ : Q () s) : wpAny M A (letOwnedTupleGo t (.ref I) v) Q E s := by
  have hn' : ["enumerate", "zip", "dict_itemiterator", "dict_reverseitemiterator", "odict_iterator", "itertools.zip_longest", "itertools.pairwise"].contains n = false := by
    simpa [plainIter] using hn
  have key : ∀ a : Addr, wpAny M A (do
      let o ← load I
      match o.cls, o.data with
      | .type n, .fields vs =>
        if ["enumerate", "zip", "dict_itemiterator", "dict_reverseitemiterator", "odict_iterator", "itertools.zip_longest", "itertools.pairwise"].contains n && vs[0]? == some (rawInt a) then
          rule "for.unpacks-the-owned-tuple"
          updateField I 0 .none
      | _, _ => pure ()) Q E s := by
    intro a
    refine wpAny_bind (wpAny_load ho ?_)
    rw [hc]
    split
    · rename_i n' vs' e _
      cases e
      rw [hn']
      simp only [Bool.false_and, Bool.false_eq_true, if_false]
      exact wpAny_pure hQ
    · exact wpAny_pure hQ
  cases t <;> first
    | exact wpAny_pure hQ
    | (cases v <;> first | exact wpAny_pure hQ | exact key _)

section
variable {prog : Program} {w : World} {A : Around} {h₀ : Heap} {t : Expr}

theorem Rel.keepFp {h h' : Heap} {φ : List Addr} {σ : Store} {fp : List Addr} (S : Sim h₀ h φ σ) (mine : ∀ b ∈ fp, ∃ o us, h.get? b = some o ∧ (o.data = .fields us ∧ o.cls ≠ .none)) (k : ∀ b o, b ∉ fp → h.get? b = some o → h'.get? b = some o)
    {V : V} {v : Value} (r : Rel h φ V v) : Rel h' φ V v :=
  Rel.keep (own := fun a => a ∈ fp) (fun b o _ hb e => k b o hb e) (List.prefix_refl _) (fun a m => m.elim (fun m => S.noTup m) fun m => fields_noTup (mine a m)) _ _ r

theorem prefix_get {α : Type} {l l' : List α} (h : l <+: l') {n : Nat} {a : α} (e : l[n]? = some a) : l'[n]? = some a := by
  obtain ⟨t, rfl⟩ := h
  rw [List.getElem?_append_left (List.getElem?_eq_some_iff.mp e).1]; exact e

theorem itr_range {I : Addr} {a : Int} {n : Nat} (hh : A.handled = none) (hI : h₀.get? I = none) :
    Itr prog w A h₀ t I [I] (rangeL a n) (fun _ => True) (fun i h _ _ => IsRangeIter h I (a + i) ((n : Int) - i) 1) where
  new := fun b hb => by simp at hb; subst hb; exact hI
  mine := fun i h φ σ e b hb => by simp at hb; subst hb; exact ⟨_, _, e, rfl, nofun⟩
  frame := fun i h h' φ φ' σ σ' e _ hp hs k kr => k I (by simp) _ e
  item := fun i V s φ σ hV e S => by
    obtain ⟨rfl, hi⟩ := rangeL_at n a i V hV
    refine wpAny_pyNext_range_item e (by omega) fun h' hit' hs' => ⟨_, rfl, ?_⟩
    have kk : ∀ b o, b ∉ [I] → s.heap.get? b = some o → h'.get? b = some o := fun b o hb e => hs'.extBut b o (fun h => hb (by simp [h])) e
    refine letOwned_other hit' rfl (by decide) ⟨⟨h', _, rfl⟩, rel_int, ?_, kk, fun b hb => by simp at hb; subst hb; exact ⟨_, _, hit', rfl, nofun⟩⟩
    have e1 : a + ((i + 1 : Nat) : Int) = a + (i : Int) + 1 := by push_cast; omega
    have e2 : (n : Int) - ((i + 1 : Nat) : Int) = (n : Int) - (i : Int) - 1 := by push_cast; omega
    rw [e1, e2]; exact hit'
  done := fun s φ σ e S => by
    rw [rangeL_len] at e
    exact wpAny_pyNext_range_end hh e (by omega) fun h' he' => ⟨rfl, ⟨h', s.toks, rfl⟩, fun b o hb e => he' b o (fun h => hb (by simp [h])) e⟩
theorem self_range {I : Addr} {a : Int} {n : Nat} : SelfIt prog w A I (fun i h _ _ => IsRangeIter h I (a + i) ((n : Int) - i) 1) :=
  fun i s φ σ e => wpAny_pyIter_rangeiter e ⟨rfl, rfl⟩

end

end Mine

/-! KSrc -/
namespace Mine
open PySem PySem.Calls

noncomputable def bltNames : List Str := ["len", "list", "tuple", "sorted", "str", "int", "isinstance", "range", "bool"]

/-- what stands below: the text's own functions and tables, the built-in names -/
structure Gnd (h₀ : Heap) (G : GlT) (fa : Nat → Addr) (mg mb : Str → Option Value) : Prop where
  ns : h₀.Ns mainGlobals mg
  nsb : h₀.Ns builtinsNs mb
  nolimit : h₀.NoLimit
  fn : ∀ x i, G.lookup x = some (.fn i) → mg x = some (.ref (fa i))
  isfn : ∀ x i, G.lookup x = some (.fn i) → ∃ o fd, h₀.get? (fa i) = some o ∧ o.data = .func fd
  blt : ∀ x ∈ bltNames, G.lookup x = none → mg x = none
  bv : ∀ x : Str, x ≠ "__name__" → mb x = bootBuiltins x

section
variable {prog : Program} {w : World} {h₀ : Heap} {C : Oracle} {d : Nat} {env : Env} {vs : Vs} {G : GlT} {fa : Nat → Addr} {mg mb : Str → Option Value}

theorem isGlob_kind {x : Str} (h : isGlob env.scope x = true) : env.kindOf x = some .globalImplicit := by
  unfold isGlob at h
  exact beq_iff_eq.mp h

theorem name_fn (g : Gnd h₀ G fa mg mb) {A : Around} {s : Shared} {φ : List Addr} {σ : Store} {ρ : List V} {x : Str} {i : Nat} {pos : Pos} {Q : Value → Shared → Prop} {E : Value → Shared → Prop} (S : Sim h₀ s.heap φ σ) (F : FrS h₀ s.heap φ env vs ρ)
    (hx : G.lookup x = some (.fn i)) (hk : isGlob env.scope x = true) (hd : (x == ("__debug__" : Str)) = false) (h : Q (.ref (fa i)) s) : wpAny (model prog w) A (eval (.Name x pos) env) Q E s :=
  Name_function_global F.fn (isGlob_kind hk) (loadGlobal_global (F.glob ▸ g.ns.keeps S.keep) (g.fn x i hx) h) hd
theorem name_blt (g : Gnd h₀ G fa mg mb) {A : Around} {s : Shared} {φ : List Addr} {σ : Store} {ρ : List V} {x : Str} {v : Value} {pos : Pos} {Q : Value → Shared → Prop} {E : Value → Shared → Prop} (S : Sim h₀ s.heap φ σ) (F : FrS h₀ s.heap φ env vs ρ)
    (hx : G.lookup x = none) (hb : x ∈ bltNames) (hv : bootBuiltins x = some v) (hk : isGlob env.scope x = true) (h : Q v s) : wpAny (model prog w) A (eval (.Name x pos) env) Q E s := by
  have hn : x ≠ "__name__" := by rintro rfl; revert hb; decide +kernel
  have hd : (x == ("__debug__" : Str)) = false := by
    cases e : x == ("__debug__" : Str) with
    | false => rfl
    | true => rw [beq_iff_eq.mp e] at hb; revert hb; decide +kernel
  exact Name_function_global F.fn (isGlob_kind hk) (loadGlobal_builtin (F.glob ▸ g.ns.keeps S.keep) (g.blt x hb hx) (F.blt ▸ g.nsb.keeps S.keep) ((g.bv x hn).trans hv) h) hd

noncomputable def NoStars (es : List Expr) : Prop := ∀ env pos, (backTo pos (starEach es env)).any (·.1) = false
theorem noStars_nil : NoStars [] := fun _ _ => rfl
theorem noStars_cons {e : Expr} {es : List Expr} (h : NoStar e) (hs : NoStars es) : NoStars (e :: es) := fun env pos => by
  rw [h es env]
  show (false || (backTo pos (starEach es env)).any (·.1)) = false
  rw [hs env pos]; rfl

/-- a call of a built-in function or type: the arguments first -/
theorem call_val {A : Around} {s : Shared} {φ : List Addr} {σ : Store} {ρ : List V} {Q : List V → Store → Prop} {X : XPost} {f : Value} (hf : (∃ T, f = .type T) ∨ ∃ T, f = .builtin T) {e : Expr} {es : List Expr} {as : List E} {pos : Pos} {P : Value → Shared → Prop} (R : ROk A d) (hn : NoStar e) (hns : NoStars (e :: es))
    (hl : LOk prog w h₀ C d env vs (e :: es) as) (S : Sim h₀ s.heap φ σ) (F : FrS h₀ s.heap φ env vs ρ) (q : wpL C as ρ σ Q X)
    (h : ∀ s₁ vals φ₁ σ₁ Vs, Step h₀ noOwn s s₁ φ φ₁ σ₁ → RelL s₁.heap φ₁ Vs vals → Vs.length = as.length → Q Vs σ₁ → wpAny (model prog w) A (call f vals) P (PX h₀ s φ X) s₁) :
    wpAny (model prog w) A (callWith pos f [] (backTo pos (starEach (e :: es) env)) []) P (PX h₀ s φ X) s := by
  have hp := hns env pos
  have key : wpAny (model prog w) A (evalArgs f true (backTo pos (starEach (e :: es) env)) []) (fun a s₁ => wpAny (model prog w) A (call f ([] ++ a.pos) a.kw) P (PX h₀ s φ X) s₁) (PX h₀ s φ X) s := by
    have hl' := hl A s φ σ ρ Q X pos R S F q
    rw [hn es env] at hl' ⊢
    refine evalArgs_plain (wpAny_mono hl' (fun vals s₁ y => ?_) fun _ _ e => e)
    obtain ⟨φ₁, σ₁, Vs, st, rl, hlen, q₁⟩ := y
    exact h s₁ vals φ₁ σ₁ Vs st rl hlen q₁
  rcases hf with ⟨T, rfl⟩ | ⟨T, rfl⟩
  · exact PySem.callWith_type hp key
  · exact callWith_builtin hp key
end

/-! the sources of loops -/
section
variable (prog : Program) (w : World) (h₀ : Heap) (C : Oracle) (d : Nat)
noncomputable def SrcOk (env : Env) (vs : Vs) (iter : Expr) (k : SrcK) (as : List E) (t : Expr) : Prop :=
  ∀ (A : Around) (s : Shared) (φ : List Addr) (σ : Store) (ρ : List V) (Q : List V → List V → Store → Prop) (X : XPost), ROk A d → Sim h₀ s.heap φ σ → FrS h₀ s.heap φ env vs ρ →
    wpL C as ρ σ (fun Vs σ₁ => ∃ items, srcItems k Vs σ₁ = some items ∧ Q Vs items σ₁) X →
    wpAny (model prog w) A (eval iter env) (fun x s₁ => wpAny (model prog w) A (pyIter x) (fun it s₂ => ∃ φ₁ σ₁ Vs items I fp St, it = .ref I ∧ Step h₀ noOwn s s₂ φ φ₁ σ₁ ∧ Q Vs items σ₁ ∧
      Itr prog w A h₀ t I fp items (srcSame k Vs σ₁) St ∧ St 0 s₂.heap φ₁ σ₁ ∧ (∀ b ∈ fp, s.heap.get? b = none) ∧ SelfIt prog w A I St) (PX h₀ s φ X) s₁) (PX h₀ s φ X) s
end

theorem fresh_none {h₀ h : Heap} {φ : List Addr} {σ : Store} (S : Sim h₀ h φ σ) {a : Addr} (ha : h.objs.size ≤ a) : h₀.get? a = none ∧ h.get? a = none := by
  have h1 : h.get? a = none := by
    cases e : h.get? a with
    | none => rfl
    | some o => exact absurd (Heap.lt_size e) (Nat.not_lt.mpr ha)
  refine ⟨?_, h1⟩
  cases e : h₀.get? a with
  | none => rfl
  | some o => rw [S.keep a o e] at h1; cases h1

theorem none_back {h₀ : Heap} {own : Addr → Prop} {s s₁ : Shared} {φ φ₁ : List Addr} {σ₁ : Store} (x : Step h₀ own s s₁ φ φ₁ σ₁) {a : Addr} (h : s₁.heap.get? a = none) : s.heap.get? a = none := by
  cases e : s.heap.get? a with
  | none => rfl
  | some o => obtain ⟨o', e'⟩ := x.pres a o e; rw [h] at e'; cases e'

section
variable {prog : Program} {w : World} {h₀ : Heap} {C : Oracle} {d : Nat} {env : Env} {vs : Vs} {G : GlT} {fa : Nat → Addr} {mg mb : Str → Option Value}

theorem boot_range : bootBuiltins "range" = some (.type "range") := by decide +kernel
theorem call_eq {f : Str} {pf pos : Pos} {es : List Expr} : eval (.Call (.Name f pf) es [] pos) env = (do callWith pos (← eval (.Name f pf) env) [] (backTo pos (starEach es env)) []) := rfl

theorem src_range (g : Gnd h₀ G fa mg mb) {e : Expr} {es : List Expr} {as : List E} {t : Expr} {pf pos : Pos} (hx : G.lookup ("range" : Str) = none) (hk : isGlob env.scope ("range" : Str) = true) (hn : NoStar e) (hns : NoStars (e :: es)) (hl : LOk prog w h₀ C d env vs (e :: es) as) :
    SrcOk prog w h₀ C d env vs (.Call (.Name ("range" : Str) pf) (e :: es) [] pos) .range as t := fun A s φ σ ρ Q X R S F q => by
  rw [call_eq]
  refine wpAny_bind (name_blt g S F hx (by decide) boot_range hk ?_)
  refine call_val (.inl ⟨_, rfl⟩) R hn hns hl S F q fun s₁ vals φ₁ σ₁ Vs st rl hlen y => ?_
  obtain ⟨items, ei, q₁⟩ := y
  obtain ⟨b, rfl, h1, h2, rfl⟩ := range_inv ei
  match vals, rl with
  | [], rl => rw [RelL] at rl; exact rl.elim
  | _ :: _ :: _, rl => simp [RelL] at rl
  | [v], rl =>
  simp only [RelL, Rel] at rl
  obtain ⟨⟨u, rfl⟩, _⟩ := rl
  refine call_range_1 ?_
  refine wpAny_pyIter_range (IsRange.new _ _ _ _ _ _ _) (small_one (by decide) (by decide) h1 (by unfold maxLen at h2; omega)) ?_
  have hsz : Builtin.Range.rangeSize 0 b 1 = ((b.toNat : Nat) : Int) := by rw [rangeSize_one]; split <;> omega
  rw [hsz]
  refine ⟨φ₁, σ₁, [.int b], rangeL 0 b.toNat, _, _, _, rfl, st.trans (Step.keeps st.sim _ fun c o e => Heap.get?_push_of_some _ (Heap.get?_push_of_some _ e)), q₁,
    itr_range (a := 0) (n := b.toNat) R.hd ?_, ?_, fun c hc => ?_, self_range⟩
  · rw [Heap.size_push]; exact (fresh_none st.sim (Nat.le_succ _)).1
  · exact (Heap.get?_push_size _ rfl).trans (by simp)
  · simp only [List.mem_singleton] at hc; subst hc
    rw [Heap.size_push]; exact none_back st (fresh_none st.sim (Nat.le_succ _)).2

theorem sok_for {t iter : Expr} {p : Pat} {k : SrcK} {as : List E} {body : List Stmt} {body' : List S} {pos} (hs : ∀ x, foldedSetIterable iter env x = pure x) (ht : CPat env vs t p) (hi : SrcOk prog w h₀ C d env vs iter k as t) (hb : SsOk prog w h₀ C d env vs body body') :
    SOk prog w h₀ C d env vs (.For t iter body [] pos) (.for_ p k as body') := fun A s φ σ ρ Q R S F q => by
  rw [wpS] at q
  refine wpAny_For (wpAny_mono (hi A s φ σ ρ _ _ R S F q) (fun x s₁ y => ?_) fun _ _ e => e.elim) hs
  refine wpAny_mono y (fun it s₂ z => ?_) fun _ _ e => e.elim
  obtain ⟨φ₁, σ₁, Vs, items, I, fp, St, rfl, st, q₁, W, st0, hfp, _⟩ := z
  refine codeAny_mono (for_loop R st hfp W ht hb (F.step S st) st0 q₁) fun r s' hr => ?_
  cases r with
  | ok f => exact hr
  | error e => exact hr.elim
end

end Mine

/-! KCall -/
namespace Mine
open PySem PySem.Calls

section
variable {prog : Program} {w : World} {h₀ : Heap} {C : Oracle} {d : Nat} {env : Env} {vs : Vs} {G : GlT} {fa : Nat → Addr} {mg mb : Str → Option Value}

/-! calls of the text's own functions -/
variable (prog w h₀ fa C d) in
noncomputable def CSound : Prop := ∀ (x : Str) (i : Nat), G.lookup x = some (.fn i) → ∀ (A : Around) (s : Shared) (φ : List Addr) (σ : Store) (Vs : List V) (vals : List Value) (Q : V → Store → Prop) (X : XPost), ROk A d → Sim h₀ s.heap φ σ → RelL s.heap φ Vs vals →
  C i Vs σ Q X → codeAny (model prog w) A (.call (.ref (fa i)) ⟨vals, []⟩) (fun r s' => match r with | .ok (.ret v) => PV h₀ s φ Q v s' | .ok _ => False | .error e => PX h₀ s φ X e s') s

theorem ok_call (g : Gnd h₀ G fa mg mb) (hC : CSound prog w h₀ C d (G := G) fa) {x : Str} {i : Nat} {e : Expr} {es : List Expr} {as : List E} {pf pos : Pos} (hx : G.lookup x = some (.fn i)) (hk : isGlob env.scope x = true)
    (hd : (x == ("__debug__" : Str)) = false) (hn : NoStar e) (hl : LOk prog w h₀ C d env vs (e :: es) as) : EOk prog w h₀ C d env vs (.Call (.Name x pf) (e :: es) [] pos) (.call i as) := fun A s φ σ ρ Q X R S F q => by
  rw [wpE] at q
  rw [call_eq]
  refine wpAny_bind (name_fn g S F hx hk hd ?_)
  obtain ⟨o, fd, ho, hdat⟩ := g.isfn x i hx
  refine callWith_function (o := o) (fd := fd) ?_
  have hl' := hl A s φ σ ρ _ X pos R S F q
  rw [hn es env] at hl' ⊢
  refine evalArgs_plain (wpAny_mono hl' (fun vals s₁ y => ?_) fun _ _ e => e)
  obtain ⟨φ₁, σ₁, Vs, st, rl, hlen, q₁⟩ := y
  refine ⟨⟨st.sim.keep _ _ ho, hdat⟩, wpAny_call (codeAny_mono (hC x i hx A s₁ φ₁ σ₁ Vs vals Q X R st.sim rl q₁) fun r s' hr => ?_)⟩
  cases r with
  | error e => exact PX.trans st hr
  | ok f => cases f with
    | ret v => exact PV.trans st hr
    | _ => exact hr
end

end Mine

/-! KPrim -/
namespace Mine
open PySem PySem.Calls

theorem nodup_inj {α : Type} {l : List α} (h : l.Nodup) {i j : Nat} (hi : i < l.length) (hj : j < l.length) (e : l[i] = l[j]) : i = j := by
  rw [List.nodup_iff_pairwise_ne, List.pairwise_iff_getElem] at h
  rcases Nat.lt_trichotomy i j with c | c | c
  · exact absurd e (h i j hi hj c)
  · exact c
  · exact absurd e.symm (h j i hj hi c)

noncomputable def tyName : Ty → String
  | .int => "int" | .bool => "bool" | .str => "str" | .tuple => "tuple" | .list => "list"

theorem boot_len : bootBuiltins "len" = some (.builtin "len") := by decide +kernel
theorem boot_list : bootBuiltins "list" = some (.type "list") := by decide +kernel
theorem boot_tuple : bootBuiltins "tuple" = some (.type "tuple") := by decide +kernel
theorem boot_sorted : bootBuiltins "sorted" = some (.builtin "sorted") := by decide +kernel
theorem boot_str : bootBuiltins "str" = some (.type "str") := by decide +kernel
theorem boot_int : bootBuiltins "int" = some (.type "int") := by decide +kernel
theorem boot_bool : bootBuiltins "bool" = some (.type "bool") := by decide +kernel
theorem boot_isinstance : bootBuiltins "isinstance" = some (.builtin "isinstance") := by decide +kernel

section
variable {prog : Program} {w : World} {h₀ : Heap} {A : Around} {s : Shared} {φ : List Addr} {σ : Store} {E : Value → Shared → Prop} {Q : V → Store → Prop}

theorem len_ok {V : Mine.V} {v : Value} (S : Sim h₀ s.heap φ σ) (r : Rel s.heap φ V v) (q : (lenV σ V).to Q) : wpAny (model prog w) A (call (.builtin "len") [v]) (PV h₀ s φ Q) E s := by
  unfold lenV at q
  split at q
  · split at q
    · rename_i Vs en
      obtain ⟨a, items, k, rfl, _, g, rl, z⟩ := S.list en r
      have hsz : items.size = Vs.length := by simpa using rl.length.symm
      refine call_len_list g.isList (by omega) ?_
      rw [hsz]; exact PV.plain S rel_int q
    · exact q.elim
  · rename_i Vs
    split at q
    · rename_i hz
      rw [Rel] at r
      obtain ⟨a, items, n, rfl, g, rl⟩ := r
      have hsz : items.size = Vs.length := by simpa using rl.length.symm
      refine PySem.P.len_tuple g (by unfold maxLen at hz; omega) ?_
      rw [hsz]; exact PV.plain S rel_int q
    · exact q.elim
  · exact q.elim

theorem PV.listAt {Vs : List V} {items : Array Value} {a : Addr} {h' : Heap} {tk c : Nat} (S : Sim h₀ s.heap φ σ) (r : RelL s.heap φ Vs items.toList) (hz : Vs.length ≤ 2 ^ 20) (ha : s.heap.get? a = none)
    (k : ∀ b o, s.heap.get? b = some o → h'.get? b = some o) (hD : h'.get? a = some { cls := .type "list", data := .seq items c }) (q : Q (.ref σ.length) (σ ++ [.list Vs])) : PV h₀ s φ Q (.ref a) { s with heap := h', toks := tk } := by
  have S' := S.alloc (vs := Vs) (items := items) k ⟨c, hD⟩ ha (RelL.keep (own := noOwn) (fun b o _ _ e => k b o e) (List.prefix_refl _) (fun a m => m.elim (fun m => S.noTup m) fun f => f.elim) _ _ r) hz
  refine ⟨φ ++ [a], _, .ref σ.length, ⟨⟨rfl, rfl⟩, List.prefix_append _ _, S', fun b o _ _ e => k b o e, fun x m => ?_, fun b o e => ⟨o, k b o e⟩⟩, ?_, q⟩
  · rcases List.mem_append.mp m with m | m
    · exact .inl m
    · simp at m; subst m; exact .inr ha
  · rw [Rel]; exact ⟨_, rfl, by rw [← S.len]; simp⟩

/-- a built-in function of one argument -/
theorem prim_ok {p : Pr} {f : Value} {V : Mine.V} {v : Value} (hf : f = (match p with | .len => .builtin "len" | .list => .type "list" | .str => .type "str" | .int => .type "int" | .isinst _ => .none)) (S : Sim h₀ s.heap φ σ) (r : Rel s.heap φ V v) (q : (prim1 p V σ).to Q) (hp : ∀ t, p ≠ .isinst t) :
    wpAny (model prog w) A (call f [v]) (PV h₀ s φ Q) E s := by
  subst hf
  cases p with
  | len => exact len_ok S r q
  | list =>
    replace q : (listV σ (fun vs => alloc (.list vs) σ) V).to Q := q
    unfold listV at q
    split at q
    · split at q
      · rename_i Vs en
        obtain ⟨a, items, k, rfl, _, g, rl, z⟩ := S.list en r
        have hsz : items.size = Vs.length := by simpa using rl.length.symm
        refine PySem.call_list_seq (hsz := size_le' (by omega)) a (.inl rfl) g rfl rfl fun h' c' hk hD => ?_
        exact PV.listAt S rl z (fresh_none S (Nat.le_refl _)).2 hk hD q
      · exact q.elim
    · exact q.elim
  | str =>
    replace q : (strV σ V).to Q := q
    unfold strV at q
    split at q
    · rename_i b
      split at q
      · rename_i hb
        rw [Rel] at r; obtain ⟨t, rfl⟩ := r
        refine PySem.P.str_of_int ?_ (PV.plain S rel_str q)
        unfold small at hb
        simp only [Bool.and_eq_true, decide_eq_true_eq] at hb
        by_cases h0 : b.natAbs = 0
        · rw [h0]; decide
        · exact (Nat.log2_lt h0).mpr (Nat.lt_of_lt_of_le (by omega : b.natAbs < 2 ^ 64) (Nat.pow_le_pow_right (by omega) (by omega)))
      · exact q.elim
    · exact q.elim
  | int =>
    replace q : (toIntV σ V).to Q := q
    unfold toIntV at q
    split at q
    · rename_i x
      split at q
      · rename_i hx
        obtain ⟨W, e, q⟩ := ofOpt_to q
        obtain ⟨n, hn, rfl⟩ := Option.map_eq_some_iff.mp e
        rw [Rel] at r; obtain ⟨t, rfl⟩ := r
        exact W.KIN.call_text hn hx (PV.plain S rel_int q)
      · exact q.elim
    · exact q.elim
  | isinst t => exact absurd rfl (hp t)

theorem isinst_ok {ty : Ty} {V : Mine.V} {v : Value} (S : Sim h₀ s.heap φ σ) (r : Rel s.heap φ V v) (q : (prim1 (.isinst ty) V σ).to Q) : wpAny (model prog w) A (call (.builtin "isinstance") [v, .type (tyName ty)]) (PV h₀ s φ Q) E s := by
  obtain ⟨W, e, q⟩ := ofOpt_to (show (Res.ofOpt σ ((typeIs σ ty V).map .bool)).to Q from q)
  obtain ⟨b, hb, rfl⟩ := Option.map_eq_some_iff.mp e
  have fin : ∀ tk, PV h₀ s φ Q (.bool b) { s with toks := tk } := fun tk => PV.plain S rel_bool q
  unfold typeIs at hb
  cases ty with
  | int =>
    dsimp only at hb
    split at hb
    · cases hb; rw [Rel] at r; obtain ⟨t, rfl⟩ := r
      exact IsiPair.int_int (fin s.toks)
    · cases hb
  | bool =>
    dsimp only at hb
    split at hb
    · cases hb; rw [Rel] at r; subst r
      exact IsiPair.bool_bool (fin s.toks)
    · cases hb; rw [Rel] at r; obtain ⟨t, rfl⟩ := r
      exact IsiPair.int_bool (fin _)
    · cases hb
  | str =>
    dsimp only at hb
    split at hb
    · cases hb; rw [Rel] at r; obtain ⟨t, rfl⟩ := r
      exact IsiPair.str_str (fin s.toks)
    · cases hb
  | tuple =>
    dsimp only at hb
    split at hb
    · cases hb; rw [Rel] at r; obtain ⟨a, items, n, rfl, g, rl⟩ := r
      exact IsiPair.isTuple_tuple ⟨_, g, rfl, n, rfl⟩ (fun _ _ e => e) (fin s.toks)
    · cases hb
  | list =>
    dsimp only at hb
    split at hb
    · split at hb
      · rename_i en
        cases hb
        obtain ⟨a, items, k, rfl, _, g, rl, z⟩ := S.list en r
        exact IsiPair.isList_list g.isList (fun _ _ e => e) (fin s.toks)
      · cases hb
    · cases hb

/-- a list of the store changed -/
theorem Step.setList {n : Nat} {a : Addr} {Vs : List V} {items : Array Value} {h' : Heap} {tk : Nat} {own : Addr → Prop} (S : Sim h₀ s.heap φ σ) (ea : φ[n]? = some a) (hn : n < σ.length) (hn0 : n ≠ 0) (hs : Heap.SameBut a s.heap h') (hp : h'.PlainList a items)
    (rl : RelL s.heap φ Vs items.toList) (hz : Vs.length ≤ 2 ^ 20) : Step h₀ own s { s with heap := h', toks := tk } φ φ (σ.set n (.list Vs)) := by
  have ma : a ∈ φ := List.mem_of_getElem? ea
  have kk : ∀ b o, b ≠ a → s.heap.get? b = some o → h'.get? b = some o := fun b o hb e => (hs.2 b hb).trans e
  have K : Keep φ noOwn s.heap h' := fun b o hb _ e => kk b o (fun h => hb (h ▸ ma)) e
  have R' : ∀ Ws us, RelL s.heap φ Ws us → RelL h' φ Ws us := fun Ws us r => RelL.keep K (List.prefix_refl _) (fun a m => m.elim (fun m => S.noTup m) fun f => f.elim) _ _ r
  refine ⟨⟨rfl, rfl⟩, List.prefix_refl _, ⟨fun b o e => ?_, by simp [S.len], S.nodup, S.new, fun m o e => ?_⟩, K.mono (fun _ m => m) (fun _ f => f.elim), fun _ m => .inl m, fun b o e => ?_⟩
  · refine kk b o (fun h => ?_) (S.keep b o e)
    rw [h, S.new (n - 1) a (by rw [show n - 1 + 1 = n by omega]; exact ea)] at e; cases e
  · by_cases hm : n = m
    · subst hm
      rw [set_get_eq hn] at e
      cases e
      exact ⟨a, ea, items, hp, R' _ _ rl, hz⟩
    · rw [set_get_ne hm] at e
      obtain ⟨b, eb, r⟩ := S.obj m o e
      have hab : b ≠ a := fun h => by
        subst h
        have h1 := List.getElem?_eq_some_iff.mp ea
        have h2 := List.getElem?_eq_some_iff.mp eb
        exact hm (nodup_inj S.nodup h1.1 h2.1 (h1.2.trans h2.2.symm))
      refine ⟨b, eb, ?_⟩
      cases o with
      | list Ws =>
        obtain ⟨it, ⟨z, hb⟩, rr, zz⟩ := r
        exact ⟨it, ⟨z, kk b _ hab hb⟩, R' _ _ rr, zz⟩
      | tab P => exact ⟨r.1, kk b _ hab r.2⟩
      | gone => obtain ⟨us, e⟩ := r; exact ⟨us, kk b _ hab e⟩
  · by_cases hb : b = a
    · subst hb; obtain ⟨z, e'⟩ := hp; exact ⟨_, e'⟩
    · exact ⟨o, kk b o hb e⟩

theorem append_ok {V W : Mine.V} {v u : Value} (S : Sim h₀ s.heap φ σ) (r : Rel s.heap φ V v) (r' : Rel s.heap φ W u) (q : (appV σ V W).to Q) : wpAny (model prog w) A (call (.builtin "list.append") [v, u]) (PV h₀ s φ Q) E s := by
  unfold appV at q
  split at q
  · split at q
    · rename_i Vs en
      split at q
      · rename_i hz
        obtain ⟨a, items, k, rfl, ea, g, rl, z⟩ := S.list en r
        have hsz : items.size = Vs.length := by simpa using rl.length.symm
        refine wpAny_list_append_plain ⟨k, g⟩ (fun h' hp hs => ?_) (size_le (by omega))
        refine ⟨φ, _, .none, Step.setList (items := items.push u) (tk := s.toks) S ea (List.getElem?_eq_some_iff.mp en).1 hz.2 hs hp ?_ (by simp; have := hz.1; unfold maxLen at this; omega), rel_none, q⟩
        rw [Array.toList_push]
        exact rl.append (by simp only [RelL]; exact ⟨r', trivial⟩)
      · exact q.elim
    · exact q.elim
  · exact q.elim
end

end Mine

/-! KPrim2 -/
namespace Mine
open PySem PySem.Calls

/-- the built-in functions of one argument -/
noncomputable def bltOf (x : Str) : Option (Pr × Value) :=
  if x == ("len" : Str) then some (.len, .builtin "len")
  else if x == ("list" : Str) then some (.list, .type "list")
  else if x == ("str" : Str) then some (.str, .type "str")
  else if x == ("int" : Str) then some (.int, .type "int")
  else none

section
variable {prog : Program} {w : World} {h₀ : Heap} {C : Oracle} {d : Nat} {env : Env} {vs : Vs} {G : GlT} {fa : Nat → Addr} {mg mb : Str → Option Value}

structure BltOk (x : Str) (p : Pr) (f : Value) : Prop where
  nm : x ∈ bltNames
  boot : bootBuiltins x = some f
  val : (∃ T, f = .type T) ∨ ∃ T, f = .builtin T
  is : f = (match p with | .len => .builtin "len" | .list => .type "list" | .str => .type "str" | .int => .type "int" | .isinst _ => .none)
  not : ∀ t, p ≠ .isinst t
theorem bltOf_ok {x : Str} {p : Pr × Value} (h : bltOf x = some p) : BltOk x p.1 p.2 := by
  unfold bltOf at h
  repeat' split at h
  all_goals first
    | cases h
    | skip
  all_goals (rename_i hx; obtain rfl := beq_iff_eq.mp hx)
  · exact ⟨by decide, boot_len, .inr ⟨_, rfl⟩, rfl, nofun⟩
  · exact ⟨by decide, boot_list, .inl ⟨_, rfl⟩, rfl, nofun⟩
  · exact ⟨by decide, boot_str, .inl ⟨_, rfl⟩, rfl, nofun⟩
  · exact ⟨by decide, boot_int, .inl ⟨_, rfl⟩, rfl, nofun⟩

theorem ok_blt (g : Gnd h₀ G fa mg mb) {x : Str} {f : Value} {p : Pr} {e : Expr} {es : List Expr} {as : List E} {pf pos : Pos} (hp : BltOk x p f) (hx : G.lookup x = none)
    (hk : isGlob env.scope x = true) (hn : NoStar e) (hns : NoStars (e :: es)) (hl : LOk prog w h₀ C d env vs (e :: es) as) :
    EOk prog w h₀ C d env vs (.Call (.Name x pf) (e :: es) [] pos) (.prim p as) := fun A s φ σ ρ Q X R S F q => by
  rw [wpE] at q
  rw [call_eq]
  refine wpAny_bind (name_blt g S F hx hp.nm hp.boot hk ?_)
  refine call_val hp.val R hn hns hl S F q fun s₁ vals φ₁ σ₁ Vs st rl hlen y => ?_
  unfold primV at y
  split at y
  · match vals, rl with
    | [], rl => rw [RelL] at rl; exact rl.elim
    | _ :: _ :: _, rl => simp [RelL] at rl
    | [v], rl =>
    rw [RelL] at rl
    exact wpAny_mono (prim_ok hp.is st.sim rl.1 y hp.not) (fun _ _ z => PV.trans st z) fun _ _ e => e
  · exact y.elim

theorem ok_isinst (g : Gnd h₀ G fa mg mb) {x : Str} {ty : Ty} {e : Expr} {a : E} {pf pt pos : Pos} (hi : G.lookup ("isinstance" : Str) = none) (hki : isGlob env.scope ("isinstance" : Str) = true) (hx : G.lookup x = none) (hb : x ∈ bltNames) (hv : bootBuiltins x = some (.type (tyName ty)))
    (hk : isGlob env.scope x = true) (hn : NoStar e) (h : EOk prog w h₀ C d env vs e a) : EOk prog w h₀ C d env vs (.Call (.Name ("isinstance" : Str) pf) [e, .Name x pt] [] pos) (.prim (.isinst ty) [a]) := fun A s φ σ ρ Q X R S F q => by
  rw [wpE] at q
  rw [call_eq]
  refine wpAny_bind (name_blt g S F hi (by decide) boot_isinstance hki ?_)
  rw [wpL] at q
  refine callWith_builtin (by rw [hn]; rfl) ?_
  have key : wpAny (model prog w) A (spliced (backTo pos (starEach [e, .Name x pt] env))) (fun vals s₁ => wpAny (model prog w) A (call (.builtin "isinstance") ([] ++ vals) []) (PV h₀ s φ Q) (PX h₀ s φ X) s₁) (PX h₀ s φ X) s := by
    refine wpAny_items_cons (wpAny_mono (h A s φ σ ρ _ X R S F q) (fun v s₁ y => ?_) fun _ _ e => e) (hn _ _)
    obtain ⟨φ₁, σ₁, V, st, rl, q₁⟩ := y
    rw [wpL] at q₁
    refine wpAny_items_cons (name_blt g st.sim (F.step S st) hx hb hv hk (wpAny_items_nil ?_))
    exact wpAny_mono (isinst_ok st.sim rl q₁) (fun _ _ z => PV.trans st z) fun _ _ e => e
  rw [hn] at key ⊢
  exact evalArgs_plain key

/-- xs.append(v) -/
theorem ok_append {o e : Expr} {a b : E} {apos pos : Pos} (hbase : ∀ env, attributeBase o ("append" : Str) env (eval o env) = eval o env) (hline : (apos.endLine == pos.line) = true) (hn : NoStar e)
    (ho : EOk prog w h₀ C d env vs o a) (he : EOk prog w h₀ C d env vs e b) : EOk prog w h₀ C d env vs (.Call (.Attribute o ("append" : Str) apos) [e] [] pos) (.append a b) := fun A s φ σ ρ Q X R S F q => by
  rw [wpE] at q
  refine wpAny_Call_append (hbase env) (by rw [hn]; rfl) hline (by rw [hn]; rfl) (wpAny_mono (ho A s φ σ ρ _ X R S F q) (fun v s₁ y => ?_) fun _ _ e => e)
  obtain ⟨φ₁, σ₁, V, st, rl, ⟨n, us, rfl, en⟩, q₁⟩ := y
  obtain ⟨l, items, k, rfl, el, gl, rr, hz⟩ := st.sim.list en rl
  refine ⟨l, items, rfl, ⟨_, k, gl, rfl, rfl, rfl⟩, wpAny_mono (he A s₁ φ₁ σ₁ ρ _ X R st.sim (F.step S st) q₁) (fun u s₂ y => ?_) fun _ _ e => PX.trans st e⟩
  obtain ⟨φ₂, σ₂, W, st₂, rl₂, q₂⟩ := y
  exact wpAny_mono (append_ok st₂.sim (rl.step st.sim st₂) rl₂ q₂) (fun _ _ z => PV.trans (st.trans st₂) z) fun _ _ e => e
end
end Mine

/-! KComp -/
namespace Mine
open PySem PySem.Calls

/-- the cells that a comprehension takes along -/
noncomputable def clGo (env : Env) : List (Str × NameKind) → List (Str × Addr) → List (Str × Addr)
  | [], acc => acc
  | (n, k) :: r, acc => if k == .free then clGo env r ((n, (env.cells.lookup n).getD 0) :: acc) else clGo env r acc

theorem closure_ok {env : Env} {sc : Scope} (h : ∀ y ∈ sc.names, y.2 = .free → ∃ c, env.cells.lookup y.1 = some c) : closureFor sc env = pure (clGo env sc.names []) := by
  unfold closureFor
  have key : ∀ (names : List (Str × NameKind)) (acc : List (Str × Addr)), (∀ y ∈ names, y.2 = .free → ∃ c, env.cells.lookup y.1 = some c) →
      (forIn names acc fun x cs => (if x.2 == NameKind.free then do let c ← cellOf env x.1; pure (ForInStep.yield ((x.1, c) :: cs)) else pure (ForInStep.yield cs) : Sem (ForInStep (List (Str × Addr))))) = pure (clGo env names acc) := by
    intro names
    induction names with
    | nil => intro acc _; rfl
    | cons y r ih =>
      intro acc hh
      obtain ⟨n, k⟩ := y
      rw [List.forIn_cons]
      simp only [clGo]
      cases hk : k == NameKind.free with
      | false =>
        simp only [Bool.false_eq_true, if_false, pure_bind]
        exact ih acc fun y hy => hh y (List.mem_cons_of_mem _ hy)
      | true =>
        obtain ⟨c, hc⟩ := hh (n, k) List.mem_cons_self (by simpa using hk)
        simp only [if_true]
        have : cellOf env n = pure c := by unfold cellOf; rw [hc]
        rw [this]
        simp only [pure_bind]
        rw [hc]
        exact ih _ fun y hy => hh y (List.mem_cons_of_mem _ hy)
  have := key sc.names [] h
  simpa using this

theorem clGo_acc (env : Env) : ∀ (names : List (Str × NameKind)) (acc : List (Str × Addr)) (y : Str), (∀ p ∈ acc, p.2 = (env.cells.lookup p.1).getD 0) → (acc.lookup y).isSome = true ∨ (y, NameKind.free) ∈ names →
    (clGo env names acc).lookup y = some ((env.cells.lookup y).getD 0)
  | [], acc, y, ha, h => by
    rcases h with h | h
    · obtain ⟨c, hc⟩ := Option.isSome_iff_exists.mp h
      rw [clGo, hc]
      have := ha (y, c) (mem_of_lookup hc)
      simp only at this
      rw [this]
    · cases h
  | (n, k) :: r, acc, y, ha, h => by
    rw [clGo]
    cases hk : k == NameKind.free with
    | false =>
      simp only [Bool.false_eq_true, if_false]
      refine clGo_acc env r acc y ha (h.imp id fun m => ?_)
      rcases List.mem_cons.mp m with e | m
      · cases e; simp at hk
      · exact m
    | true =>
      simp only [if_true]
      refine clGo_acc env r _ y (fun p hp => ?_) ?_
      · rcases List.mem_cons.mp hp with rfl | hp
        · rfl
        · exact ha p hp
      · rcases h with h | h
        · left
          rw [List.lookup_cons]
          split
          · rfl
          · exact h
        · rcases List.mem_cons.mp h with e | m
          · cases e; left; rw [List.lookup_cons]; simp
          · exact .inr m

theorem clGo_none (env : Env) : ∀ (names : List (Str × NameKind)) (acc : List (Str × Addr)) (y : Str), acc.lookup y = none → (y, NameKind.free) ∉ names → (clGo env names acc).lookup y = none
  | [], acc, y, h, _ => h
  | (n, k) :: r, acc, y, h, hn => by
    rw [clGo]
    cases hk : k == NameKind.free with
    | false =>
      simp only [Bool.false_eq_true, if_false]
      exact clGo_none env r acc y h fun m => hn (List.mem_cons_of_mem _ m)
    | true =>
      simp only [if_true]
      refine clGo_none env r _ y ?_ fun m => hn (List.mem_cons_of_mem _ m)
      rw [List.lookup_cons]
      cases e : y == n with
      | true => exact absurd (by rw [beq_iff_eq.mp e, ← beq_iff_eq.mp hk]; exact List.mem_cons_self) hn
      | false => exact h

/-- a comprehension's block, in this frame -/
structure CompSc (env : Env) (vs : Vs) (sc : Scope) (vs' : Vs) (x : Str) (i : Nat) : Prop where
  kind : sc.kind = .function
  cell : ∀ y ∈ sc.names, y.2 ≠ .cell
  names : ∀ y ∈ sc.names, y.2 = .local → sc.names.lookup y.1 = some .local
  var : sc.names.lookup x = some .local
  once : (x, NameKind.free) ∉ sc.names
  slot : vs'.lookup x = some i
  free : ∀ y ∈ sc.names, y.2 = .free → ∃ j, vs.lookup y.1 = some j ∧ (env.kindOf y.1 = some .cell ∨ env.kindOf y.1 = some .free)
  vars : ∀ y j, vs'.lookup y = some j → (y = x ∧ j = i) ∨ (y ≠ x ∧ sc.names.lookup y = some .free ∧ vs.lookup y = some j ∧ j ≠ i)

theorem lookup_relabel_free {env : Env} : ∀ {names : List (Str × NameKind)} {y : Str}, names.lookup y = some .free →
    (names.map fun (n, k) => if (k == NameKind.free && env.scope.kind == .function && env.kindOf n == some .cell) then (n, NameKind.cell) else (n, k)).lookup y = some .cell ∨
    (names.map fun (n, k) => if (k == NameKind.free && env.scope.kind == .function && env.kindOf n == some .cell) then (n, NameKind.cell) else (n, k)).lookup y = some .free
  | [], _, h => by simp at h
  | (n, k) :: r, y, h => by
    rw [List.lookup_cons] at h
    rw [List.map_cons]
    dsimp only
    cases hy : y == n with
    | true =>
      rw [hy] at h
      simp only [Option.some.injEq] at h
      subst h
      split
      · left; rw [List.lookup_cons, hy]
      · right; rw [List.lookup_cons, hy]
    | false =>
      rw [hy] at h
      have := lookup_relabel_free (env := env) h
      split
      · rw [List.lookup_cons, hy]; exact this
      · rw [List.lookup_cons, hy]; exact this

theorem comp_frame {h₀ h h' : Heap} {φ : List Addr} {σ : Store} {env : Env} {vs vs' : Vs} {ρ : List V} {sc : Scope} {x : Str} {i : Nat} {L : Addr} (c : CompSc env vs sc vs' x i) (S : Sim h₀ h φ σ) (F : FrS h₀ h φ env vs ρ)
    (k : ∀ b o, h.get? b = some o → h'.get? b = some o) {m : Str → Option Value} (n : h'.Ns L m) (hL : h.get? L = none) : FrS h₀ h' φ (compEnvC sc (clGo env sc.names []) L env) vs' (ρ.set i .undef) where
  fn := c.kind
  glob := F.glob
  blt := F.blt
  locNew := by
    show h₀.get? L = none
    cases e : h₀.get? L with
    | none => rfl
    | some o => rw [S.keep L o e] at hL; cases hL
  locOut := fun hm => by
    have := S.lt hm
    obtain ⟨_, o, _, _, r⟩ := S.mem hm
    obtain ⟨_, e⟩ := r.there
    have e' : h.get? L = some _ := e
    rw [hL] at e'; cases e'
  inj := fun y z j hy hz => by
    rcases c.vars y j hy with ⟨rfl, rfl⟩ | ⟨h1, _, h2, h3⟩
    · rcases c.vars z _ hz with ⟨rfl, _⟩ | ⟨_, _, _, h3⟩
      · rfl
      · exact absurd rfl h3
    · rcases c.vars z j hz with ⟨rfl, rfl⟩ | ⟨_, _, h4, _⟩
      · exact absurd rfl h3
      · exact F.inj y z j h2 h4
  ns := by
    refine ⟨m, n, fun y j V hy hk hV hne => ?_⟩
    rcases c.vars y j hy with ⟨rfl, rfl⟩ | ⟨_, hf, _, _⟩
    · exact absurd (set_get_self hV).symm hne
    · rcases lookup_relabel_free (env := env) hf with e | e <;> (rw [show (compEnvC sc (clGo env sc.names []) L env).kindOf y = _ from e] at hk; cases hk)
  cell := fun y j hy hk => by
    rcases c.vars y j hy with ⟨rfl, rfl⟩ | ⟨_, hf, hv, hj⟩
    · have := lookup_relabel_local (env := env) c.var
      rw [show (compEnvC sc (clGo env sc.names []) L env).kindOf _ = _ from this] at hk
      rcases hk with q | q <;> cases q
    · obtain ⟨j', hv', hkk⟩ := c.free (y, .free) (mem_of_lookup hf) rfl
      rw [hv] at hv'; cases hv'
      obtain ⟨cc, ov, e1, e2, e3, ⟨o, eo, dd⟩, rr⟩ := F.cell y j hv hkk
      have hl : (clGo env sc.names []).lookup y = some cc := by
        rw [clGo_acc env sc.names [] y (fun _ h => by cases h) (.inr (mem_of_lookup hf)), e1]; rfl
      refine ⟨cc, ov, hl, e2, e3, ⟨o, k _ _ eo, dd⟩, fun V hV hne => ?_⟩
      rw [set_get_ne (Ne.symm hj)] at hV
      obtain ⟨v, ev, rv⟩ := rr V hV hne
      exact ⟨v, ev, Rel.keep (own := noOwn) (fun b o _ _ e => k b o e) (List.prefix_refl _) (fun a m => m.elim (fun m => S.noTup m) fun f => f.elim) _ _ rv⟩
  cellInj := fun y z j j' cc hy hz h1 h2 => by
    rcases c.vars y j hy with ⟨rfl, rfl⟩ | ⟨_, hf, hv, _⟩
    · rcases c.vars z j' hz with ⟨rfl, _⟩ | ⟨hne, hf', hv', _⟩
      · rfl
      · exfalso
        have h1' : (clGo env sc.names []).lookup _ = some cc := h1
        rw [clGo_none env sc.names [] _ rfl c.once] at h1'; cases h1'
    · rcases c.vars z j' hz with ⟨rfl, rfl⟩ | ⟨_, hf', hv', _⟩
      · exfalso
        have h2' : (clGo env sc.names []).lookup _ = some cc := h2
        rw [clGo_none env sc.names [] _ rfl c.once] at h2'; cases h2'
      · obtain ⟨_, _, hk1⟩ := c.free (y, .free) (mem_of_lookup hf) rfl
        obtain ⟨_, _, hk2⟩ := c.free (z, .free) (mem_of_lookup hf') rfl
        obtain ⟨c1, _, e1, _⟩ := F.cell y j hv hk1
        obtain ⟨c2, _, e2, _⟩ := F.cell z j' hv' hk2
        have l1 : (clGo env sc.names []).lookup y = some c1 := by
          rw [clGo_acc env sc.names [] y (fun _ h => by cases h) (.inr (mem_of_lookup hf)), e1]; rfl
        have l2 : (clGo env sc.names []).lookup z = some c2 := by
          rw [clGo_acc env sc.names [] z (fun _ h => by cases h) (.inr (mem_of_lookup hf')), e2]; rfl
        have h1' : c1 = cc := Option.some.inj (l1.symm.trans h1)
        have h2' : c2 = cc := Option.some.inj (l2.symm.trans h2)
        subst h1' h2'
        exact F.cellInj y z j j' _ hv hv' e1 e2

theorem via_pure {α : Type} {M : Model} {A : Around} {P : Shared → Prop} {E E' : Value → Shared → Prop} {s : Shared} {t : Sem α} {Q : α → Shared → Prop} (h : wpAny M A (pure () : Sem Unit) (fun _ s' => P s') E' s)
    (k : P s → wpAny M A t Q E s) : wpAny M A t Q E s := fun Γ p hΓ => k (h Γ p hΓ) Γ p hΓ

theorem Step.drop {h₀ : Heap} {own : Addr → Prop} {s s' : Shared} {φ φ' : List Addr} {σ' : Store} (x : Step h₀ own s s' φ φ' σ') (h : ∀ b, own b → s.heap.get? b = none) : Step h₀ noOwn s s' φ φ' σ' :=
  ⟨x.only, x.pre, x.sim, fun b o h1 _ e => x.keep b o h1 (fun m => by rw [h b m] at e; cases e) e, x.fresh, x.pres⟩

/-- an object that is no tuple, no frame, no cell, and not the store's: its change -/
theorem FrS.keepOne {h₀ h h' : Heap} {φ : List Addr} {σ : Store} {env : Env} {vs : Vs} {ρ : List V} {D : Addr} {arr : Array Value} (F : FrS h₀ h φ env vs ρ) (S : Sim h₀ h φ σ) (hD : h.PlainList D arr)
    (k : ∀ b o, b ≠ D → h.get? b = some o → h'.get? b = some o) : FrS h₀ h' φ env vs ρ where
  fn := F.fn
  glob := F.glob
  blt := F.blt
  locNew := F.locNew
  locOut := F.locOut
  inj := F.inj
  ns := by
    obtain ⟨m, n, r⟩ := F.ns
    refine ⟨m, ?_, fun x' i V h1 h2 h3 h4 => ?_⟩
    · obtain ⟨o, es, ep, e, d, rr⟩ := n
      refine ⟨o, es, ep, k _ o (fun hm => ?_) e, d, rr⟩
      obtain ⟨z, e'⟩ := hD
      rw [← hm, e] at e'; cases e'; cases d
    · obtain ⟨v, e, rl⟩ := r x' i V h1 h2 h3 h4
      exact ⟨v, e, Rel.keep (own := fun a => a = D) (fun b o _ hb e => k b o hb e) (List.prefix_refl _) (fun a m => m.elim (fun m => S.noTup m) fun m => by subst m; exact plain_noTup hD) _ _ rl⟩
  cell := fun x' i h1 h2 => by
    obtain ⟨c, ov, e, o, n, ic, r⟩ := F.cell x' i h1 h2
    refine ⟨c, ov, e, o, n, ?_, fun V h3 h4 => ?_⟩
    · obtain ⟨oo, e', d⟩ := ic
      refine ⟨oo, k _ oo (fun hm => ?_) e', d⟩
      obtain ⟨z, e2⟩ := hD
      rw [← hm, e'] at e2; cases e2; cases d
    · obtain ⟨v, e', rl⟩ := r V h3 h4
      exact ⟨v, e', Rel.keep (own := fun a => a = D) (fun b o _ hb e => k b o hb e) (List.prefix_refl _) (fun a m => m.elim (fun m => S.noTup m) fun m => by subst m; exact plain_noTup hD) _ _ rl⟩
  cellInj := F.cellInj
where
  plain_noTup {h : Heap} {D : Addr} {arr : Array Value} (x : h.PlainList D arr) : NoTup h D := by
    obtain ⟨z, e⟩ := x
    intro o' items n e' c' _
    rw [e] at e'; cases e'; simp at c'

theorem plain_noTup {h : Heap} {D : Addr} {arr : Array Value} (x : h.PlainList D arr) : NoTup h D := by
  obtain ⟨z, e⟩ := x
  intro o' items n e' c' _
  rw [e] at e'; cases e'; simp at c'

theorem FrS.undef {h₀ h : Heap} {φ : List Addr} {env : Env} {vs : Vs} {ρ : List V} {i : Nat} {v : V} (F : FrS h₀ h φ env vs (ρ.set i v)) : FrS h₀ h φ env vs (ρ.set i .undef) where
  fn := F.fn
  glob := F.glob
  blt := F.blt
  locNew := F.locNew
  locOut := F.locOut
  inj := F.inj
  ns := by
    obtain ⟨m, n, r⟩ := F.ns
    refine ⟨m, n, fun x j V h1 h2 h3 h4 => ?_⟩
    by_cases hij : i = j
    · subst hij; exact absurd (set_get_self h3).symm h4
    · exact r x j V h1 h2 (by rw [set_get_ne hij] at h3 ⊢; exact h3) h4
  cell := fun x j h1 h2 => by
    obtain ⟨c, ov, e, o, n, ic, r⟩ := F.cell x j h1 h2
    refine ⟨c, ov, e, o, n, ic, fun V h3 h4 => ?_⟩
    by_cases hij : i = j
    · subst hij; exact absurd (set_get_self h3).symm h4
    · exact r V (by rw [set_get_ne hij] at h3 ⊢; exact h3) h4
  cellInj := F.cellInj

/-- a list that stands becomes the store's -/
theorem Sim.join {h₀ h : Heap} {φ : List Addr} {σ : Store} (x : Sim h₀ h φ σ) {a : Addr} {vs : List V} {items : Array Value} (hp : h.PlainList a items) (hn : a ∉ φ) (h0 : h₀.get? a = none) (hr : RelL h φ vs items.toList) (hz : vs.length ≤ 2 ^ 20) :
    Sim h₀ h (φ ++ [a]) (σ ++ [.list vs]) where
  keep := x.keep
  len := by simp [x.len]
  nodup := by
    rw [List.nodup_append]
    refine ⟨x.nodup, by simp, fun b hb c hc => ?_⟩
    simp at hc; subst hc
    intro e; subst e
    exact hn hb
  new := fun m b hb => by
    by_cases hlt : m + 1 < φ.length
    · rw [List.getElem?_append_left hlt] at hb
      exact x.new m b hb
    · rw [List.getElem?_append_right (by omega)] at hb
      have : b = a := by
        have := List.mem_of_getElem? hb
        simpa using this
      subst this
      exact h0
  obj := fun n o e => by
    by_cases hlt : n < σ.length
    · rw [List.getElem?_append_left hlt] at e
      obtain ⟨b, g, r⟩ := x.obj n o e
      refine ⟨b, ?_, r.keepAll (fun _ _ e => e) (List.prefix_append _ _) fun a m => x.noTup m⟩
      rw [List.getElem?_append_left (by rw [x.len]; exact hlt)]; exact g
    · have hn' : n = σ.length := by
        have := (List.getElem?_eq_some_iff.mp e).1
        simp at this; omega
      subst hn'
      simp at e; subst e
      refine ⟨a, by rw [← x.len]; simp, items, hp, ?_, hz⟩
      exact RelL.keep (own := noOwn) (Keep.refl _ _ _) (List.prefix_append _ _) (fun b m => m.elim (fun m => x.noTup m) fun f => f.elim) _ _ hr

section
variable {prog : Program} {w : World} {h₀ : Heap} {C : Oracle} {d : Nat}

variable (prog w h₀ C d) in
/-- a comprehension's conditions -/
noncomputable def TsOk (env : Env) (vs : Vs) (es : List Expr) (as : List E) : Prop :=
  ∀ (A : Around) (s : Shared) (φ : List Addr) (σ : Store) (ρ : List V) (Q : Bool → Store → Prop) (X : XPost), ROk A d → Sim h₀ s.heap φ σ → FrS h₀ s.heap φ env vs ρ → wpTs C as ρ σ Q X →
    wpAny (model prog w) A (forIn es true fun c r => if r = true then do let ok ← isTrue c env (eval c env); pure (ForInStep.yield ok) else pure (ForInStep.yield r)) (PB h₀ s φ Q) (PX h₀ s φ X) s

theorem forIn_no {A : Around} {env : Env} {Q : Bool → Shared → Prop} {E : Value → Shared → Prop} {s : Shared} : ∀ (es : List Expr), Q false s →
    wpAny (model prog w) A (forIn es false fun c r => if r = true then do let ok ← isTrue c env (eval c env); pure (ForInStep.yield ok) else pure (ForInStep.yield r)) Q E s
  | [], h => wpAny_pure h
  | _ :: es, h => by
    rw [List.forIn_cons, if_neg (by decide)]
    exact wpAny_bind (wpAny_pure (forIn_no es h))
variable {env : Env} {vs : Vs}
theorem tsok_nil : TsOk prog w h₀ C d env vs [] [] := fun A s φ σ ρ Q X _ S _ q => by
  rw [wpTs] at q
  exact wpAny_tests_nil ⟨φ, σ, Step.refl S, q⟩
theorem tsok_cons {e : Expr} {a : E} {es : List Expr} {as : List E} (h : TOk prog w h₀ C d env vs e a) (hs : TsOk prog w h₀ C d env vs es as) : TsOk prog w h₀ C d env vs (e :: es) (a :: as) := fun A s φ σ ρ Q X R S F q => by
  rw [wpTs] at q
  rw [List.forIn_cons, if_pos rfl]
  refine wpAny_bind (wpAny_bind (wpAny_mono (h A s φ σ ρ _ X R S F q) (fun b s₁ y => wpAny_pure ?_) fun _ _ e => e))
  obtain ⟨φ₁, σ₁, st, q₁⟩ := y
  cases b with
  | false => exact forIn_no es ⟨φ₁, σ₁, st, by simpa using q₁⟩
  | true =>
    refine wpAny_mono (hs A s₁ φ₁ σ₁ ρ Q X R st.sim (F.step S st) (by simpa using q₁)) (fun b s₂ z => ?_) fun _ _ e => PX.trans st e
    obtain ⟨φ₂, σ₂, st₂, q₂⟩ := z
    exact ⟨φ₂, σ₂, st.trans st₂, q₂⟩
end
end Mine

/-! KComp2 -/
namespace Mine
open PySem PySem.Calls

section
variable {prog : Program} {w : World} {h₀ : Heap} {C : Oracle} {d : Nat} {env : Env} {vs vs' : Vs} {A : Around}

/-- a comprehension's turn -/
noncomputable def compT (C : Oracle) (a : E) (i : Nat) (conds : List E) (ρ : List V) (X : XPost) : V → Store → (Option V → Store → Prop) → Prop :=
  fun v σ₂ R => wpTs C conds (ρ.set i v) σ₂ (fun b σ₃ => if b then wpE C a (ρ.set i v) σ₃ (fun x σ₄ => R (some x) σ₄) X else R Option.none σ₃) X

theorem ns_ne_plain {h : Heap} {L D : Addr} {m : Str → Option Value} {arr : Array Value} (n : h.Ns L m) (p : h.PlainList D arr) : D ≠ L := by
  rintro rfl
  obtain ⟨o, es, ep, e, dd, _⟩ := n
  obtain ⟨z, e'⟩ := p
  rw [e] at e'; cases e'; cases dd
theorem fields_ne_plain {h : Heap} {b D : Addr} {arr : Array Value} (x : ∃ o us, h.get? b = some o ∧ (o.data = .fields us ∧ o.cls ≠ .none)) (p : h.PlainList D arr) : D ≠ b := by
  rintro rfl
  obtain ⟨o, us, e, dd, _⟩ := x
  obtain ⟨z, e'⟩ := p
  rw [e] at e'; cases e'; cases dd
theorem fields_ne_ns {h : Heap} {b L : Addr} {m : Str → Option Value} (x : ∃ o us, h.get? b = some o ∧ (o.data = .fields us ∧ o.cls ≠ .none)) (n : h.Ns L m) : b ≠ L := by
  rintro rfl
  obtain ⟨o, us, e, dd, _⟩ := x
  obtain ⟨o', es, ep, e', dd', _⟩ := n
  rw [e] at e'; cases e'; rw [dd] at dd'; cases dd'

theorem step_out {own : Addr → Prop} {s s' : Shared} {φ φ' : List Addr} {σ' : Store} (st : Step h₀ own s s' φ φ' σ') {D : Addr} (h : D ∉ φ) (e : ∃ o, s.heap.get? D = some o) : D ∉ φ' := fun m => by
  rcases st.fresh D m with m | n
  · exact h m
  · obtain ⟨o, e⟩ := e; rw [n] at e; cases e

/-- the store's change at one list that is not the store's -/
theorem Step.one {s : Shared} {φ : List Addr} {σ : Store} {D : Addr} {arr arr' : Array Value} {h' : Heap} (S : Sim h₀ s.heap φ σ) (hp : s.heap.PlainList D arr) (hp' : h'.PlainList D arr') (hs : Heap.SameBut D s.heap h') (hD : D ∉ φ) (h0 : h₀.get? D = none) :
    Step h₀ (fun a => a = D) s { s with heap := h' } φ φ σ where
  only := ⟨rfl, rfl⟩
  pre := List.prefix_refl _
  sim := S.keepOwn (own := fun a => a = D) (fun b o hb e => (hs.2 b hb).trans e) (by rintro a rfl; exact ⟨plain_noTup hp, hD, h0⟩)
  keep := fun b o _ hb e => (hs.2 b hb).trans e
  fresh := fun _ m => .inl m
  pres := fun b o e => by
    by_cases hb : b = D
    · subst hb; obtain ⟨z, e'⟩ := hp'; exact ⟨_, e'⟩
    · exact ⟨o, (hs.2 b hb).trans e⟩

theorem comp_core {s s₂ : Shared} {φ φ₂ : List Addr} {σ σ₂ : Store} {ρ : List V} {scope : Scope} {x : Str} {i : Nat} {px pos : Pos} {elt iter : Expr} {ifs : List Expr} {a : E} {conds : List E} {I : Addr} {fp : List Addr} {items : List V} {same : Store → Prop}
    {St : Nat → Heap → List Addr → Store → Prop} {Qc : List V → Store → Prop} {X : XPost} {RR : Value → Addr → Result → Shared → Prop} {E : Value → Shared → Prop}
    (R : ROk A d) (S : Sim h₀ s.heap φ σ) (F : FrS h₀ s.heap φ env vs ρ) (st : Step h₀ noOwn s s₂ φ φ₂ σ₂) (c : CompSc env vs scope vs' x i) (hfp : ∀ b ∈ fp, s.heap.get? b = none) (W : Itr prog w A h₀ (.Name x px) I fp items same St) (self : SelfIt prog w A I St)
    (st0 : St 0 s₂.heap φ₂ σ₂) (hsame : same σ₂) (helt : ∀ L, EOk prog w h₀ C d (compEnvC scope (clGo env scope.names []) L env) vs' elt a) (hts : ∀ L, TsOk prog w h₀ C d (compEnvC scope (clGo env scope.names []) L env) vs' ifs conds) (hz : items.length ≤ maxLen)
    (q : compW (compT C a i conds ρ X) same items [] σ₂ Qc)
    (hfin : ∀ s' φ' σ' acc D L m arr, Step h₀ noOwn s s' φ φ' σ' → s.heap.get? D = none → D ∉ φ' → h₀.get? D = none → s.heap.get? L = none → L ∉ φ' → h₀.get? L = none → D ≠ L → s'.heap.Ns L m → s'.heap.PlainList D arr → RelL s'.heap φ' acc arr.toList → acc.length ≤ maxLen → Qc acc σ' → RR (.ref D) L (.ok .next) s') :
    wpAny (model prog w) A (newList []) (fun acc s₃ => wpAny (model prog w) A (newFunctionEnv scope env.globals (clGo env scope.names []) [] env.qual none .none (some env)) (fun cenv s₄ =>
      codeAny (model prog w) A (.compStart (.ListComp elt [⟨.Name x px, iter, ifs, 0⟩] scope pos) 0 (.ref I) acc { cenv with scope := relabel scope env }) (RR acc cenv.locals) s₄) E s₃) E s₂ := by
  refine wpAny_newObj_type (wpAny_newFunctionEnv c.cell (by intro y hy; simp at hy) (fun h₁ hns₁ hsb₁ => ?_) c.kind)
  dsimp only at hns₁ hsb₁ ⊢
  generalize hH2 : s₂.heap.push { cls := .type "list", dict := none, data := .seq ([] : List Value).toArray } = H2 at hns₁ hsb₁ ⊢
  have hC : H2.objs.size = s₂.heap.objs.size + 1 := by rw [← hH2, Heap.size_push]
  have hDC : s₂.heap.objs.size ≠ H2.objs.size := by rw [hC]; exact Nat.ne_of_lt (Nat.lt_succ_self _)
  have hCle : s₂.heap.objs.size ≤ H2.objs.size := by rw [hC]; exact Nat.le_succ _
  have below : ∀ b, b < s₂.heap.objs.size → b ≠ H2.objs.size ∧ b ≠ s₂.heap.objs.size := fun b hb => ⟨by rw [hC]; exact Nat.ne_of_lt (Nat.lt_succ_of_lt hb), Nat.ne_of_lt hb⟩
  have old : ∀ b o, s₂.heap.get? b = some o → h₁.get? b = some o := fun b o e => hsb₁.extBut b o (below b (Heap.lt_size e)).1 (Heap.get?_push_of_some _ (hH2 ▸ Heap.get?_push_of_some _ e))
  have hacc : h₁.PlainList s₂.heap.objs.size #[] := ⟨_, hsb₁.extBut _ _ hDC (Heap.get?_push_of_some _ (hH2 ▸ Heap.get?_push_size _ rfl))⟩
  have nD := fresh_none st.sim (Nat.le_refl s₂.heap.objs.size)
  have nL := fresh_none st.sim hCle
  have oD : s₂.heap.objs.size ∉ φ₂ := fun m => absurd (st.sim.lt m) (Nat.lt_irrefl _)
  generalize hDe : s₂.heap.objs.size = D at *
  generalize hLe : H2.objs.size = L at *
  have sD : s.heap.get? D = none := none_back st nD.2
  have sL : s.heap.get? L = none := none_back st nL.2
  have st₃ : Step h₀ noOwn s₂ { s₂ with heap := h₁, toks := s₂.toks + ([] : List (Str × Value)).length } φ₂ φ₂ σ₂ := Step.keeps st.sim _ old
  have F₃ : FrS h₀ h₁ φ₂ (compEnvC scope (clGo env scope.names []) L env) vs' (ρ.set i .undef) := comp_frame c st.sim (F.step S st) old hns₁ nL.2
  have hst₁ : St 0 h₁ φ₂ σ₂ := W.frame 0 s₂.heap h₁ φ₂ φ₂ σ₂ σ₂ st0 st₃.sim (List.prefix_refl _) hsame (fun b _ o e => old b o e) fun V v r => r.step st.sim st₃
  have loop : codeAny (model prog w) A (.compLoop (.ListComp elt [⟨.Name x px, iter, ifs, 0⟩] scope pos) 0 (.ref I) (.ref D) (compEnvC scope (clGo env scope.names []) L env)) (RR (.ref D) L) { s₂ with heap := h₁, toks := s₂.toks + ([] : List (Str × Value)).length } := by
    refine codeAny_compLoop_tests (fun k s' => ∃ j φ' σ' acc arr, k = items.length + 1 - j ∧ j ≤ items.length ∧ Step h₀ noOwn s s' φ φ' σ' ∧ FrS h₀ s'.heap φ' (compEnvC scope (clGo env scope.names []) L env) vs' (ρ.set i .undef) ∧ St j s'.heap φ' σ' ∧ D ∉ φ' ∧ s'.heap.PlainList D arr ∧
        RelL s'.heap φ' acc arr.toList ∧ acc.length ≤ j ∧ compW (compT C a i conds ρ X) same (items.drop j) acc σ' Qc) ?_ (items.length + 1)
      ⟨0, φ₂, σ₂, [], #[], rfl, Nat.zero_le _, st.trans st₃, F₃, hst₁, oD, hacc, by simp only [RelL], Nat.le_refl _, by simpa using q⟩
    rintro k s' ⟨j, φ', σ', acc, arr, rfl, hj, stp, F', st', hD', hp', rl', hal, q'⟩
    by_cases hlt : j < items.length
    · have hd : items.drop j = items[j] :: items.drop (j + 1) := List.drop_eq_getElem_cons hlt
      rw [hd, compW] at q'
      refine wpAny_mono (W.item j items[j] s' φ' σ' (by simp [hlt]) st' stp.sim) (fun r s₁ y => ?_) fun _ _ e => e.elim
      obtain ⟨v, rfl, y⟩ := y
      refine via_pure y fun z => ?_
      obtain ⟨only, rl, st₂, kk, mine⟩ := z
      have mine' := W.mine j _ _ _ st'
      have stp₂ : Step h₀ (fun b => b ∈ fp) s' s₁ φ' φ' σ' := Step.iter stp.sim W.new mine' only kk mine
      have F₂ := F'.keepFp stp.sim mine' kk
      have hDf : D ∉ fp := fun m => fields_ne_plain (mine' D m) hp' rfl
      have hp₂ : s₁.heap.PlainList D arr := hp'.at fun o e => kk D o hDf e
      have rl₂ : RelL s₁.heap φ' acc arr.toList := RelL.keep (own := fun b => b ∈ fp) (fun b o _ hb e => kk b o hb e) (List.prefix_refl _) (fun b m => m.elim (fun m => stp.sim.noTup m) fun m => fields_noTup (mine' b m)) _ _ rl'
      refine wpAny_assign_Name (store_local stp₂.sim F₂ c.slot (lookup_relabel_local c.var) rl fun s₃ st₃ F₃ => ?_)
      rw [List.set_set] at F₃
      obtain ⟨m₂, ns₂, _⟩ := F₂.ns
      have hDL : D ≠ L := ns_ne_plain ns₂ hp₂
      have hp₃ : s₃.heap.PlainList D arr := hp₂.at fun o e => st₃.keep D o hD' hDL e
      have rel₃ : ∀ V v, Rel s₁.heap φ' V v → Rel s₃.heap φ' V v := fun V v r => Rel.keep st₃.keep st₃.pre (fun b m => m.elim (fun m => stp₂.sim.noTup m) fun m => by subst m; exact noTup_ns ns₂) _ _ r
      have rl₃ : RelL s₃.heap φ' acc arr.toList := RelL.keep st₃.keep st₃.pre (fun b m => m.elim (fun m => stp₂.sim.noTup m) fun m => by subst m; exact noTup_ns ns₂) _ _ rl₂
      have fp₃ : ∀ b ∈ fp, ∀ o, s₁.heap.get? b = some o → s₃.heap.get? b = some o := fun b hb o e => st₃.keep b o (fields_out stp₂.sim (mine b hb)) (fields_ne_ns (mine b hb) ns₂) e
      have mine₃ : ∀ b ∈ fp, ∃ o us, s₃.heap.get? b = some o ∧ (o.data = .fields us ∧ o.cls ≠ .none) := fun b hb => let ⟨o, us, e, dd⟩ := mine b hb; ⟨o, us, fp₃ b hb o e, dd⟩
      change wpTs C conds (ρ.set i items[j]) σ' (fun b σ₃ => if b = true then wpE C a (ρ.set i items[j]) σ₃ (fun x σ₄ => same σ₄ ∧ compW (compT C a i conds ρ X) same (items.drop (j + 1)) (acc ++ [x]) σ₄ Qc) X else same σ₃ ∧ compW (compT C a i conds ρ X) same (items.drop (j + 1)) (acc ++ []) σ₃ Qc) X at q'
      refine wpAny_mono (hts L A s₃ φ' σ' (ρ.set i items[j]) _ X R st₃.sim F₃ q') (fun ok s₄ y => ?_) fun _ _ e => e.elim
      obtain ⟨φ₄, σ₄, st₄, q₄⟩ := y
      have hD₄ : D ∉ φ₄ := step_out st₄ hD' (let ⟨z, e⟩ := hp₃; ⟨_, e⟩)
      have hp₄ : s₄.heap.PlainList D arr := hp₃.at fun o e => st₄.keep D o hD' (fun f => f) e
      have rl₄ := rl₃.step st₃.sim st₄
      have fp₄ : ∀ b ∈ fp, ∀ o, s₃.heap.get? b = some o → s₄.heap.get? b = some o := fun b hb o e => st₄.keep b o (fields_out st₃.sim (mine₃ b hb)) (fun f => f) e
      have mine₄ : ∀ b ∈ fp, ∃ o us, s₄.heap.get? b = some o ∧ (o.data = .fields us ∧ o.cls ≠ .none) := fun b hb => let ⟨o, us, e, dd⟩ := mine₃ b hb; ⟨o, us, fp₄ b hb o e, dd⟩
      have F₄ := F₃.step st₃.sim st₄
      have own₄ : Step h₀ noOwn s s₄ φ φ₄ σ₄ := by
        refine Step.drop (own := fun b => b ∈ fp ∨ b = L) ((stp.wider fun _ f => f.elim).trans ((stp₂.wider fun _ m => .inl m).trans ((st₃.wider fun _ m => .inr m).trans (st₄.wider fun _ f => f.elim)))) fun b hb => ?_
        rcases hb with hb | rfl
        · exact hfp b hb
        · exact sL
      cases ok with
      | false =>
        simp only [Bool.false_eq_true, if_false] at q₄ ⊢
        refine ⟨items.length + 1 - (j + 1), by omega, j + 1, φ₄, σ₄, acc, arr, rfl, hlt, own₄, F₄.undef, ?_, hD₄, hp₄, rl₄, by omega, by simpa using q₄.2⟩
        exact W.frame (j + 1) s₁.heap s₄.heap φ' φ₄ σ' σ₄ st₂ st₄.sim st₄.pre q₄.1 (fun b hb o e => fp₄ b hb o (fp₃ b hb o e)) fun V v r => (rel₃ V v r).step st₃.sim st₄
      | true =>
        simp only [if_true] at q₄ ⊢
        refine wpAny_mono (helt L A s₄ φ₄ σ₄ (ρ.set i items[j]) _ X R st₄.sim F₄ q₄) (fun y s₅ z => ?_) fun _ _ e => e.elim
        obtain ⟨φ₅, σ₅, V, st₅, rV, q₅⟩ := z
        have hD₅ : D ∉ φ₅ := step_out st₅ hD₄ (let ⟨z, e⟩ := hp₄; ⟨_, e⟩)
        have hp₅ : s₅.heap.PlainList D arr := hp₄.at fun o e => st₅.keep D o hD₄ (fun f => f) e
        have rl₅ := rl₄.step st₄.sim st₅
        have fp₅ : ∀ b ∈ fp, ∀ o, s₄.heap.get? b = some o → s₅.heap.get? b = some o := fun b hb o e => st₅.keep b o (fields_out st₄.sim (mine₄ b hb)) (fun f => f) e
        have mine₅ : ∀ b ∈ fp, ∃ o us, s₅.heap.get? b = some o ∧ (o.data = .fields us ∧ o.cls ≠ .none) := fun b hb => let ⟨o, us, e, dd⟩ := mine₄ b hb; ⟨o, us, fp₅ b hb o e, dd⟩
        have F₅ := F₄.step st₄.sim st₅
        have hsz : arr.size = acc.length := by simpa using rl'.length.symm
        refine wpAny_list_append_plain hp₅ (fun h₆ hp₆ hs₆ => ?_) (size_le (by omega))
        have st₆ : Step h₀ (fun b => b = D) s₅ { s₅ with heap := h₆ } φ₅ φ₅ σ₅ := Step.one st₅.sim hp₅ hp₆ hs₆ hD₅ nD.1
        have rel₆ : ∀ V v, Rel s₅.heap φ₅ V v → Rel h₆ φ₅ V v := fun V v r => Rel.keep st₆.keep st₆.pre (fun b m => m.elim (fun m => st₅.sim.noTup m) fun m => by subst m; exact plain_noTup hp₅) _ _ r
        have rl₆ : RelL h₆ φ₅ acc arr.toList := RelL.keep st₆.keep st₆.pre (fun b m => m.elim (fun m => st₅.sim.noTup m) fun m => by subst m; exact plain_noTup hp₅) _ _ rl₅
        have F₆ : FrS h₀ h₆ φ₅ (compEnvC scope (clGo env scope.names []) L env) vs' (ρ.set i items[j]) := F₅.keepOne st₅.sim hp₅ fun b o hb e => (hs₆.2 b hb).trans e
        have fp₆ : ∀ b ∈ fp, ∀ o, s₅.heap.get? b = some o → h₆.get? b = some o := fun b hb o e => (hs₆.2 b (fun h => fields_ne_plain (mine₅ b hb) hp₅ h.symm)).trans e
        have own₆ : Step h₀ noOwn s { s₅ with heap := h₆ } φ φ₅ σ₅ := Step.drop (own := fun b => b = D) (((own₄.trans st₅).wider fun _ f => f.elim).trans st₆) fun b hb => by subst hb; exact sD
        refine ⟨items.length + 1 - (j + 1), by omega, j + 1, φ₅, σ₅, acc ++ [V], arr.push y, rfl, hlt, own₆, F₆.undef, ?_, hD₅, hp₆, ?_, by simp; omega, by simpa using q₅.2⟩
        · exact W.frame (j + 1) s₁.heap h₆ φ' φ₅ σ' σ₅ st₂ st₆.sim (st₄.pre.trans st₅.pre) q₅.1 (fun b hb o e => fp₆ b hb o (fp₅ b hb o (fp₄ b hb o (fp₃ b hb o e)))) fun V v r => rel₆ V v (((rel₃ V v r).step st₃.sim st₄).step st₄.sim st₅)
        · rw [Array.toList_push]
          exact rl₆.append (by simp only [RelL]; exact ⟨rel₆ _ _ rV, trivial⟩)
    · have hin : j = items.length := by omega
      subst hin
      rw [List.drop_length, compW] at q'
      refine wpAny_mono (W.done s' φ' σ' st' stp.sim) (fun r s₁ y => ?_) fun _ _ e => e.elim
      obtain ⟨rfl, only, kk⟩ := y
      have mine' := W.mine _ _ _ _ st'
      have F₂ := F'.keepFp stp.sim mine' kk
      obtain ⟨m₂, ns₂, _⟩ := F₂.ns
      have hDf : D ∉ fp := fun m => fields_ne_plain (mine' D m) hp' rfl
      have hp₂ : s₁.heap.PlainList D arr := hp'.at fun o e => kk D o hDf e
      exact hfin s₁ φ' σ' acc D L m₂ arr (stp.endFp hfp W.new mine' only kk) sD hD' nD.1 sL F₂.locOut nL.1 (ns_ne_plain ns₂ hp₂) ns₂ hp₂
        (RelL.keep (own := fun b => b ∈ fp) (fun b o _ hb e => kk b o hb e) (List.prefix_refl _) (fun b m => m.elim (fun m => stp.sim.noTup m) fun m => fields_noTup (mine' b m)) _ _ rl') (by omega) q'
  refine codeAny_compStart_list loop (wpAny_mono (self 0 _ φ₂ σ₂ hst₁) (fun v s₁ y => ?_) fun _ _ e => e.elim)
  obtain ⟨rfl, rfl⟩ := y
  exact loop
end
end Mine

/-! KComp3 -/
namespace Mine
open PySem PySem.Calls

theorem srcSame_refl {k : SrcK} {Vs : List V} {σ : Store} : srcSame k Vs σ σ := by
  trivial

section
variable {prog : Program} {w : World} {h₀ : Heap} {C : Oracle} {d : Nat} {env : Env} {vs vs' : Vs}

/-- a comprehension's frame lets its names go -/
theorem Step.letGo {own : Addr → Prop} {s s' : Shared} {φ φ' : List Addr} {σ' : Store} {L : Addr} {m : Str → Option Value} {h' : Heap} (st : Step h₀ own s s' φ φ' σ') (n : s'.heap.Ns L m) (hL : L ∉ φ') (h0 : h₀.get? L = none) (sL : s.heap.get? L = none)
    (hs : Heap.SameBut L s'.heap h') : Step h₀ own s { s' with heap := h' } φ φ' σ' where
  only := st.only
  pre := st.pre
  sim := st.sim.keepOwn (own := fun a => a = L) (fun b o hb e => (hs.2 b hb).trans e) (by rintro a rfl; exact ⟨noTup_ns n, hL, h0⟩)
  keep := fun b o h1 h2 e => (hs.2 b (fun h => by subst h; rw [sL] at e; cases e)).trans (st.keep b o h1 h2 e)
  fresh := st.fresh
  pres := fun b o e => by
    obtain ⟨o', e'⟩ := st.pres b o e
    exact ⟨o', (hs.2 b (fun h => by subst h; rw [sL] at e; cases e)).trans e'⟩
theorem Rel.letGo {h h' : Heap} {φ : List Addr} {σ : Store} {L : Addr} {m : Str → Option Value} {V : V} {v : Value} (r : Rel h φ V v) (S : Sim h₀ h φ σ) (n : h.Ns L m) (hs : Heap.SameBut L h h') : Rel h' φ V v :=
  Rel.keep (own := fun a => a = L) (fun b o _ hb e => (hs.2 b hb).trans e) (List.prefix_refl _) (fun a m => m.elim (fun m => S.noTup m) fun e => by subst e; exact noTup_ns n) _ _ r
theorem FrS.letGo {h h' : Heap} {φ : List Addr} {σ : Store} {ρ : List V} {L : Addr} {m : Str → Option Value} (F : FrS h₀ h φ env vs ρ) (S : Sim h₀ h φ σ) (n : h.Ns L m) (hne : env.locals ≠ L) (hs : Heap.SameBut L h h') : FrS h₀ h' φ env vs ρ where
  fn := F.fn
  glob := F.glob
  blt := F.blt
  locNew := F.locNew
  locOut := F.locOut
  inj := F.inj
  ns := by
    obtain ⟨mm, nn, r⟩ := F.ns
    refine ⟨mm, nn.sameBut hs hne, fun x' i V h1 h2 h3 h4 => ?_⟩
    obtain ⟨v, e, rl⟩ := r x' i V h1 h2 h3 h4
    exact ⟨v, e, rl.letGo S n hs⟩
  cell := fun x' i h1 h2 => by
    obtain ⟨c, ov, e, o, nw, ic, r⟩ := F.cell x' i h1 h2
    refine ⟨c, ov, e, o, nw, ic.sameBut hs (ns_ne_cell n ic), fun V h3 h4 => ?_⟩
    obtain ⟨v, e', rl⟩ := r V h3 h4
    exact ⟨v, e', rl.letGo S n hs⟩
  cellInj := F.cellInj

/-- what the comprehension made becomes the store's -/
theorem comp_join {s s' : Shared} {φ φ' : List Addr} {σ' : Store} {acc : List V} {D : Addr} {arr : Array Value} (st : Step h₀ noOwn s s' φ φ' σ') (sD : s.heap.get? D = none) (hD : D ∉ φ') (h0 : h₀.get? D = none) (hp : s'.heap.PlainList D arr)
    (rl : RelL s'.heap φ' acc arr.toList) (hz : acc.length ≤ maxLen) : Step h₀ noOwn s s' φ (φ' ++ [D]) (σ' ++ [.list acc]) ∧ Rel s'.heap (φ' ++ [D]) (.ref σ'.length) (.ref D) := by
  refine ⟨⟨st.only, st.pre.trans (List.prefix_append _ _), st.sim.join hp hD h0 rl (maxLen_le hz), st.keep, fun a m => ?_, st.pres⟩, ?_⟩
  · rcases List.mem_append.mp m with m | m
    · exact st.fresh a m
    · simp at m; subst m; exact .inr sD
  · rw [Rel]
    exact ⟨D, rfl, by rw [← st.sim.len]; simp⟩

theorem comp_closure {h : Heap} {φ : List Addr} {ρ : List V} {scope : Scope} {x : Str} {i : Nat} (c : CompSc env vs scope vs' x i) (F : FrS h₀ h φ env vs ρ) : closureFor scope env = pure (clGo env scope.names []) :=
  closure_ok fun y hy hf => by
    obtain ⟨j, hj, hk⟩ := c.free y hy hf
    obtain ⟨cc, _, e, _⟩ := F.cell y.1 j hj hk
    exact ⟨cc, e⟩

theorem ok_comp {scope : Scope} {x : Str} {i : Nat} {px pos : Pos} {elt iter : Expr} {ifs : List Expr} {a : E} {conds src : List E} {k : SrcK} (c : CompSc env vs scope vs' x i) (hs : ∀ x, foldedSetIterable iter env x = pure x)
    (hsrc : SrcOk prog w h₀ C d env vs iter k src (.Name x px)) (helt : ∀ L, EOk prog w h₀ C d (compEnvC scope (clGo env scope.names []) L env) vs' elt a)
    (hts : ∀ L, TsOk prog w h₀ C d (compEnvC scope (clGo env scope.names []) L env) vs' ifs conds) :
    EOk prog w h₀ C d env vs (.ListComp elt [⟨.Name x px, iter, ifs, 0⟩] scope pos) (.comp a (.var i) k src conds) := fun A s φ σ ρ Q X R S F q => by
  rw [wpE] at q
  rw [eval_ListComp]
  refine wpAny_comprehension_free (use := none) rfl hs (comp_closure c F) c.kind c.names (wpAny_mono (hsrc A s φ σ ρ (fun Vs items σ₁ => items.length ≤ maxLen ∧ compW (compT C a i conds ρ X) (srcSame k Vs σ₁) items [] σ₁ fun ys σ₂ => Q (.ref σ₂.length) (σ₂ ++ [O.list ys])) X R S F q) (fun xv s₁ h₁ => wpAny_mono h₁ (fun it s₂ h₂ => ?_) fun _ _ e => e) fun _ _ e => e)
  obtain ⟨φ₁, σ₁, Vs, items, I, fp, St, rfl, st, ⟨hz, q₁⟩, W, st0, hfp, self⟩ := h₂
  refine comp_core (RR := fun acc L => compPost (model prog w) A (PX h₀ s φ X) none (PV h₀ s φ Q) acc L) R S F st c hfp W self st0 srcSame_refl helt hts hz q₁ ?_
  intro s' φ' σ' acc D L m arr st' sD hD nD sL hL nL hDL hn hp rl hal hq
  obtain ⟨st₂, r₂⟩ := comp_join st' sD hD nD hp rl hal
  have hL₂ : L ∉ φ' ++ [D] := fun mm => by
    rcases List.mem_append.mp mm with mm | mm
    · exact hL mm
    · simp at mm; exact hDL mm.symm
  exact ⟨m, hn, fun h' hs' => ⟨φ' ++ [D], σ' ++ [.list acc], .ref σ'.length, st₂.letGo hn hL₂ nL sL hs', r₂.letGo st₂.sim hn hs', hq⟩⟩

/-- y = [..]: stored while the comprehension's frame stands -/
theorem sok_comp {scope : Scope} {x y : Str} {i iy : Nat} {px py pos spos : Pos} {elt iter : Expr} {ifs : List Expr} {a : E} {conds src : List E} {k : SrcK} (c : CompSc env vs scope vs' x i) (hs : ∀ x, foldedSetIterable iter env x = pure x)
    (hsrc : SrcOk prog w h₀ C d env vs iter k src (.Name x px)) (helt : ∀ L, EOk prog w h₀ C d (compEnvC scope (clGo env scope.names []) L env) vs' elt a)
    (hts : ∀ L, TsOk prog w h₀ C d (compEnvC scope (clGo env scope.names []) L env) vs' ifs conds) (hy : vs.lookup y = some iy) (hky : env.kindOf y = some .local)
    (hsw : swapsWith (.ListComp elt [⟨.Name x px, iter, ifs, 0⟩] scope pos) (some (.Name y py)) spos.line env = pure true) :
    SOk prog w h₀ C d env vs (.Assign [.Name y py] (.ListComp elt [⟨.Name x px, iter, ifs, 0⟩] scope pos) spos) (.assign (.var iy) (.comp a (.var i) k src conds)) := fun A s φ σ ρ Q R S F q => by
  rw [wpS, wpE] at q
  rw [exec_Assign_Name_used _ _ _ _ hsw]
  refine wpAny_bind (wpAny_standAt (wpAny_bind ?_))
  show wpAny _ A (do let _ ← comprehension (.ListComp elt [⟨.Name x px, iter, ifs, 0⟩] scope pos) scope env _ (newList []) false (eval iter env) (some (assign (.Name y py) env))) _ _ s
  refine wpAny_bind (wpAny_mono (wpAny_comprehension_free (use := some (assign (.Name y py) env)) (Q := fun _ s' => PF h₀ env vs s φ Q .next s') rfl hs (comp_closure c F) c.kind c.names
    (wpAny_mono (hsrc A s φ σ ρ (fun Vs items σ₁ => items.length ≤ maxLen ∧ compW (compT C a i conds ρ (fun c σ₁ => Q (.exc c) ρ σ₁)) (srcSame k Vs σ₁) items [] σ₁ fun ys σ₂ => Q .next (ρ.set iy (.ref σ₂.length)) (σ₂ ++ [O.list ys])) (fun c σ₁ => Q (.exc c) ρ σ₁) R S F q) (fun xv s₁ h₁ => wpAny_mono h₁ (fun it s₂ h₂ => ?_) fun _ _ e => e.elim) fun _ _ e => e.elim)) (fun _ s' hq => wpAny_pure (wpAny_pure hq)) fun _ _ e => e)
  obtain ⟨φ₁, σ₁, Vs, items, I, fp, St, rfl, st, ⟨hz, q₁⟩, W, st0, hfp, self⟩ := h₂
  refine comp_core (RR := fun acc L => compPost (model prog w) A NX (some (assign (.Name y py) env)) (fun _ s' => PF h₀ env vs s φ Q .next s') acc L) R S F st c hfp W self st0 srcSame_refl helt hts hz q₁ ?_
  intro s' φ' σ' acc D L m arr st' sD hD nD sL hL nL hDL hn hp rl hal hq
  obtain ⟨st₂, r₂⟩ := comp_join st' sD hD nD hp rl hal
  have hL₂ : L ∉ φ' ++ [D] := fun mm => by
    rcases List.mem_append.mp mm with mm | mm
    · exact hL mm
    · simp at mm; exact hDL mm.symm
  have F₂ := F.step S st₂
  have hLe : env.locals ≠ L := fun e => by
    obtain ⟨_, ⟨o, _, _, e', _⟩, _⟩ := F.ns
    rw [e, sL] at e'; cases e'
  show wpAny _ A (assign (.Name y py) env (.ref D)) _ _ _
  refine wpAny_assign_Name (store_local st₂.sim F₂ hy hky r₂ fun s₃ st₃ F₃ => ?_)
  have hn₃ : s₃.heap.Ns L m := by
    obtain ⟨o, es, ep, e, rr⟩ := hn
    exact ⟨o, es, ep, st₃.keep L o hL₂ (fun h => hLe h.symm) e, rr⟩
  refine ⟨m, hn₃, fun h' hs' => ?_⟩
  have st₄ : Step h₀ (frameOwn env vs) s s₃ φ (φ' ++ [D]) (σ' ++ [.list acc]) := (st₂.own).trans (st₃.wider fun _ e => .inl e)
  exact ⟨φ' ++ [D], σ' ++ [.list acc], _, .next, st₄.letGo hn₃ hL₂ nL sL hs', F₃.letGo st₃.sim hn₃ hLe hs', rfl, hq⟩
end
end Mine

/-! KComp4 -/
namespace Mine
open PySem PySem.Calls

noncomputable def isCF (sc : Scope) (x : Str) : Bool := match sc.names.lookup x with
  | some .cell | some .free => true
  | _ => false
theorem isCF_kind {sc : Scope} {x : Str} (h : isCF sc x = true) : sc.names.lookup x = some .cell ∨ sc.names.lookup x = some .free := by
  unfold isCF at h
  split at h
  · exact .inl ‹_›
  · exact .inr ‹_›
  · cases h

/-- the names of a comprehension's block: its own one, then those from around -/
noncomputable def compVars (sc : Scope) (vs : Vs) (x : Str) (nx : Nat) : Vs := (x, nx) :: sc.names.filterMap fun y => if y.2 == .free then (vs.lookup y.1).map (y.1, ·) else none

noncomputable def compOk (sc : Scope) (vs : Vs) (csc : Scope) (x : Str) (nx : Nat) : Bool :=
  csc.kind == .function && csc.names.all (fun y => y.2 != .cell && (y.2 != .local || csc.names.lookup y.1 == some .local) && (y.2 != .free || (csc.names.lookup y.1 == some .free && isCF sc y.1 && (vs.lookup y.1).isSome))) &&
    csc.names.lookup x == some .local && vs.all (fun p => p.2 != nx)

theorem lookup_mem_filterMap {names : List (Str × NameKind)} {vs : Vs} {y : Str} {j : Nat} (h : (names.filterMap fun y => if y.2 == .free then (vs.lookup y.1).map (y.1, ·) else none).lookup y = some j) : (y, NameKind.free) ∈ names ∧ vs.lookup y = some j := by
  have := mem_of_lookup h
  obtain ⟨p, hp, e⟩ := List.mem_filterMap.mp this
  split at e
  · rename_i hf
    obtain ⟨j', hj, e⟩ := Option.map_eq_some_iff.mp e
    cases e
    refine ⟨?_, hj⟩
    obtain ⟨n, k⟩ := p
    simp only [beq_iff_eq] at hf
    subst hf; exact hp
  · cases e

theorem comp_sc {env : Env} {sc csc : Scope} {vs : Vs} {x : Str} {nx : Nat} (hcf : ∀ y, isCF sc y = true → isCF env.scope y = true) (h : compOk sc vs csc x nx = true) : CompSc env vs csc (compVars csc vs x nx) x nx := by
  unfold compOk at h
  simp only [Bool.and_eq_true, beq_iff_eq, List.all_eq_true, bne_iff_ne, ne_eq, Bool.or_eq_true, Option.isSome_iff_exists] at h
  obtain ⟨⟨⟨h1, h2⟩, h3⟩, h4⟩ := h
  have hfree : ∀ y, (y, NameKind.free) ∈ csc.names → csc.names.lookup y = some .free ∧ isCF sc y = true ∧ ∃ j, vs.lookup y = some j := fun y hy => by
    have := (h2 _ hy).2
    simp only [not_true_eq_false, false_or] at this
    exact ⟨this.1.1, this.1.2, this.2⟩
  have once : (x, NameKind.free) ∉ csc.names := fun m => by
    have := (hfree x m).1
    rw [h3] at this; cases this
  refine ⟨h1, fun y hy => (h2 y hy).1.1, fun y hy hl => ?_, h3, once, ?_, fun y hy hf => ?_, fun y j hj => ?_⟩
  · have := (h2 y hy).1.2
    rcases this with n | e
    · exact absurd hl n
    · exact e
  · simp [compVars]
  · obtain ⟨n, k⟩ := y
    simp only at hf; subst hf
    obtain ⟨_, c, j, hj⟩ := hfree n hy
    exact ⟨j, hj, isCF_kind (hcf n c)⟩
  · rw [compVars, List.lookup_cons] at hj
    cases e : y == x with
    | true =>
      rw [e] at hj
      simp only [Option.some.injEq] at hj
      exact .inl ⟨beq_iff_eq.mp e, hj.symm⟩
    | false =>
      rw [e] at hj
      obtain ⟨m, hv⟩ := lookup_mem_filterMap hj
      refine .inr ⟨fun h => by simp [h] at e, (hfree y m).1, hv, fun hn => ?_⟩
      have := h4 (y, j) (mem_of_lookup hv)
      exact this hn

theorem lookup_relabel {env : Env} {x : Str} : ∀ (names : List (Str × NameKind)),
    (names.map fun (n, k) => if (k == NameKind.free && env.scope.kind == .function && env.kindOf n == some .cell) then (n, NameKind.cell) else (n, k)).lookup x =
    (names.lookup x).map fun k => if (k == NameKind.free && env.scope.kind == .function && env.kindOf x == some .cell) then NameKind.cell else k
  | [] => rfl
  | (n, k) :: r => by
    have ih := lookup_relabel (env := env) (x := x) r
    show List.lookup x ((if (k == NameKind.free && env.scope.kind == .function && env.kindOf n == some .cell) = true then (n, NameKind.cell) else (n, k)) :: _) = Option.map _ (List.lookup x ((n, k) :: r))
    by_cases hc : (k == NameKind.free && env.scope.kind == .function && env.kindOf n == some .cell) = true
    · rw [if_pos hc, List.lookup_cons, List.lookup_cons]
      cases e : x == n with
      | true => rw [beq_iff_eq.mp e]; exact congrArg some (if_pos hc).symm
      | false => exact ih
    · rw [if_neg hc, List.lookup_cons, List.lookup_cons]
      cases e : x == n with
      | true => rw [beq_iff_eq.mp e]; exact congrArg some (if_neg hc).symm
      | false => exact ih

theorem relabel_lookup {env : Env} {sc : Scope} {x : Str} : (relabel sc env).names.lookup x = (sc.names.lookup x).map fun k => if (k == NameKind.free && env.scope.kind == .function && env.kindOf x == some .cell) then NameKind.cell else k := lookup_relabel sc.names

theorem relabel_var {env : Env} {sc : Scope} (x : Str) : isVar (relabel sc env) x = isVar sc x := by
  unfold isVar
  rw [relabel_lookup]
  cases sc.names.lookup x with
  | none => rfl
  | some k =>
    rw [Option.map_some]
    by_cases hq : (k == NameKind.free && env.scope.kind == .function && env.kindOf x == some .cell) = true
    · rw [if_pos hq]
      simp only [Bool.and_eq_true, beq_iff_eq] at hq
      rw [hq.1.1]
    · rw [if_neg hq]
theorem relabel_glob {env : Env} {sc : Scope} (x : Str) : isGlob (relabel sc env) x = isGlob sc x := by
  unfold isGlob
  rw [relabel_lookup]
  cases sc.names.lookup x with
  | none => rfl
  | some k =>
    rw [Option.map_some]
    by_cases hq : (k == NameKind.free && env.scope.kind == .function && env.kindOf x == some .cell) = true
    · rw [if_pos hq]
      simp only [Bool.and_eq_true, beq_iff_eq] at hq
      rw [hq.1.1]; rfl
    · rw [if_neg hq]
theorem relabel_cf {env : Env} {sc : Scope} (x : Str) (h : isCF sc x = true) : isCF (relabel sc env) x = true := by
  unfold isCF at h ⊢
  rw [relabel_lookup]
  cases e : sc.names.lookup x with
  | none => rw [e] at h; cases h
  | some k =>
    rw [e] at h
    rw [Option.map_some]
    by_cases hq : (k == NameKind.free && env.scope.kind == .function && env.kindOf x == some .cell) = true
    · rw [if_pos hq]
    · rw [if_neg hq]; exact h
end Mine

/-! KFun -/
namespace Mine
open PySem PySem.Calls

theorem slots_get : ∀ (xs : List Str) (n : Nat) {x : Str} {i : Nat}, (slotsFrom n xs).lookup x = some i → n ≤ i ∧ xs[i - n]? = some x
  | [], _, _, _, h => by simp [slotsFrom] at h
  | y :: r, n, x, i, h => by
    rw [slotsFrom, List.lookup_cons] at h
    cases e : x == y with
    | true =>
      rw [e] at h
      simp only [Option.some.injEq] at h
      subst h
      rw [beq_iff_eq.mp e]; simp
    | false =>
      rw [e] at h
      obtain ⟨h1, h2⟩ := slots_get r (n + 1) h
      refine ⟨by omega, ?_⟩
      rw [show i - n = (i - (n + 1)) + 1 by omega]
      simpa using h2
theorem slots_inj {xs : List Str} {n : Nat} {x y : Str} {i : Nat} (h : (slotsFrom n xs).lookup x = some i) (h' : (slotsFrom n xs).lookup y = some i) : x = y :=
  Option.some.inj ((slots_get xs n h).2.symm.trans (slots_get xs n h').2)

theorem bindL_out {k : Str → Option NameKind} : ∀ (ps : List Str) (vs : List Value) (m : Str → Option Value) {x : Str}, x ∉ ps → bindL k (ps.zip vs) m x = m x
  | [], _, _, _, _ => rfl
  | _ :: _, [], _, _, _ => rfl
  | p :: ps, v :: vs, m, x, h => by
    rw [List.zip_cons_cons, bindL, bindL_out ps vs _ (fun hh => h (List.mem_cons_of_mem _ hh))]
    have hne : x ≠ p := fun e => h (e ▸ List.mem_cons_self)
    split
    · exact if_neg hne
    · rfl
theorem bindC_out {k : Str → Option NameKind} : ∀ (ps : List Str) (vs : List Value) (m : Str → Option Value) {x : Str}, x ∉ ps → bindC k (ps.zip vs) m x = m x
  | [], _, _, _, _ => rfl
  | _ :: _, [], _, _, _ => rfl
  | p :: ps, v :: vs, m, x, h => by
    rw [List.zip_cons_cons, bindC, bindC_out ps vs _ (fun hh => h (List.mem_cons_of_mem _ hh))]
    have hne : x ≠ p := fun e => h (e ▸ List.mem_cons_self)
    split
    · rfl
    · exact if_neg hne
theorem bindL_get {k : Str → Option NameKind} : ∀ (ps : List Str) (vs : List Value) (m : Str → Option Value) {i : Nat} {x : Str} {v : Value}, ps.Nodup → ps[i]? = some x → vs[i]? = some v → k x = some .local → bindL k (ps.zip vs) m x = some v
  | [], _, _, _, _, _, _, h, _, _ => by simp at h
  | _ :: _, [], _, _, _, _, _, _, h, _ => by simp at h
  | p :: ps, u :: vs, m, 0, x, v, hnd, h, h', hk => by
    simp only [List.getElem?_cons_zero, Option.some.injEq] at h h'
    subst h h'
    rw [List.zip_cons_cons, bindL, bindL_out ps vs _ (List.nodup_cons.mp hnd).1, if_pos hk, if_pos rfl]
  | p :: ps, u :: vs, m, i + 1, x, v, hnd, h, h', hk => by
    rw [List.zip_cons_cons, bindL]
    exact bindL_get ps vs _ (List.nodup_cons.mp hnd).2 (by simpa using h) (by simpa using h') hk
theorem bindC_get {k : Str → Option NameKind} : ∀ (ps : List Str) (vs : List Value) (m : Str → Option Value) {i : Nat} {x : Str} {v : Value}, ps.Nodup → ps[i]? = some x → vs[i]? = some v → k x ≠ some .local → bindC k (ps.zip vs) m x = some v
  | [], _, _, _, _, _, _, h, _, _ => by simp at h
  | _ :: _, [], _, _, _, _, _, _, h, _ => by simp at h
  | p :: ps, u :: vs, m, 0, x, v, hnd, h, h', hk => by
    simp only [List.getElem?_cons_zero, Option.some.injEq] at h h'
    subst h h'
    rw [List.zip_cons_cons, bindC, bindC_out ps vs _ (List.nodup_cons.mp hnd).1, if_neg hk, if_pos rfl]
  | p :: ps, u :: vs, m, i + 1, x, v, hnd, h, h', hk => by
    rw [List.zip_cons_cons, bindC]
    exact bindC_get ps vs _ (List.nodup_cons.mp hnd).2 (by simpa using h) (by simpa using h') hk

theorem cells_some : ∀ (names : List (Str × NameKind)) (n : Nat) (acc : List (Str × Addr)) {x : Str}, (acc.lookup x).isSome = true ∨ (x, NameKind.cell) ∈ names → ((cellsFrom n names acc).lookup x).isSome = true
  | [], _, _, _, h => h.elim id fun h => by cases h
  | (y, k) :: r, n, acc, x, h => by
    rw [cellsFrom]
    cases hk : k == NameKind.cell with
    | false =>
      simp only [Bool.false_eq_true, if_false]
      refine cells_some r n acc (h.imp id fun m => ?_)
      rcases List.mem_cons.mp m with e | m
      · cases e; simp at hk
      · exact m
    | true =>
      simp only [if_true]
      refine cells_some r (n + 1) _ ?_
      rcases h with h | h
      · left; rw [List.lookup_cons]; split
        · rfl
        · exact h
      · rcases List.mem_cons.mp h with e | m
        · cases e; left; rw [List.lookup_cons]; simp
        · exact .inr m

noncomputable def plainArgs : Arguments → Option (List Arg)
  | ⟨[], args, none, [], [], none, []⟩ => some args
  | _ => none
theorem plainArgs_eq {a : Arguments} {args : List Arg} (h : plainArgs a = some args) : a = ⟨[], args, none, [], [], none, []⟩ := by
  unfold plainArgs at h
  split at h
  · cases h; rfl
  · cases h

/-- a def's own names: its parameters first -/
noncomputable def ownNames (ps : List Str) (sc : Scope) : List Str := ps ++ (ownOf sc).filter fun x => !ps.contains x
noncomputable def isOwn (sc : Scope) (x : Str) : Bool := match sc.names.lookup x with
  | some .local | some .cell => true
  | _ => false
theorem isOwn_kind {sc : Scope} {x : Str} (h : isOwn sc x = true) : sc.names.lookup x = some .local ∨ sc.names.lookup x = some .cell := by
  unfold isOwn at h
  split at h
  · exact .inl ‹_›
  · exact .inr ‹_›
  · cases h

/-- a def that can be walked -/
structure DefOk (params : Arguments) (scope : Scope) (args : List Arg) (vs : Vs) : Prop where
  plain : plainArgs params = some args
  nodup : (args.map (·.arg)).Nodup
  vs : vs = slotsFrom 0 (ownNames (args.map (·.arg)) scope)
  own : ∀ x ∈ ownNames (args.map (·.arg)) scope, isOwn scope x = true
  kind : scope.kind = .function
  co : scope.isCoroutine = false
  gen : scope.isGenerator = false

section
variable {prog : Program} {w : World} {h₀ : Heap}

theorem args_get {ps : List Str} {xs : List Str} {Vs : List V} {vals : List Value} {i k : Nat} {x : Str} {W : V} {h : Heap} {φ : List Addr} (hl : ps.length = Vs.length) (rl : RelL h φ Vs vals) (hx : (ps ++ xs)[i]? = some x) (hW : (Vs ++ List.replicate k V.undef)[i]? = some W) (hne : W ≠ .undef) :
    ps[i]? = some x ∧ ∃ v, vals[i]? = some v ∧ Rel h φ W v := by
  have hi : i < Vs.length := by
    refine Nat.lt_of_not_le fun h => hne ?_
    rw [List.getElem?_append_right h] at hW
    rw [List.getElem?_replicate] at hW
    split at hW
    · cases hW; rfl
    · cases hW
  rw [List.getElem?_append_left hi] at hW
  rw [List.getElem?_append_left (hl ▸ hi)] at hx
  exact ⟨hx, rl.get hW⟩

theorem call_frame {s s₁ : Shared} {φ : List Addr} {σ : Store} {fd : FuncData} {a : Addr} {params : Arguments} {args : List Arg} {vs : Vs} {Vs : List V} {vals : List Value} {k : Nat} (D : DefOk fd.params fd.scope args vs)
    (hg : fd.globals = mainGlobals) (hb : fd.builtins = builtinsNs) (S : Sim h₀ s.heap φ σ) (rl : RelL s.heap φ Vs vals) (hl : args.length = Vs.length)
    (x : InCallC s (callEnvC fd s.heap.objs.size a).locals (bindL (callEnvC fd s.heap.objs.size a).kindOf ((args.map (·.arg)).zip vals) fun _ => none) (callEnvC fd s.heap.objs.size a).cells
        (bindC (callEnvC fd s.heap.objs.size a).kindOf ((args.map (·.arg)).zip vals) fun _ => none) s₁) :
    FrS h₀ s₁.heap φ (callEnvC fd s.heap.objs.size a) vs (Vs ++ List.replicate k V.undef) where
  fn := D.kind
  glob := hg
  blt := hb
  locNew := (fresh_none S (Nat.le_refl _)).1
  locOut := fun m => absurd (S.lt m) (Nat.lt_irrefl _)
  inj := fun y z i hy hz => by rw [D.vs] at hy hz; exact slots_inj hy hz
  ns := by
    refine ⟨_, x.toInCall.ns, fun y i V hy hk hV hne => ?_⟩
    rw [D.vs] at hy
    obtain ⟨h1, v, hv, r⟩ := args_get (by simpa using hl) rl (slots_get _ 0 hy).2 hV hne
    exact ⟨v, bindL_get _ _ _ D.nodup h1 hv hk, Rel.keep (own := noOwn) (fun b o _ _ e => x.toInCall.keep b o e) (List.prefix_refl _) (fun a m => m.elim (fun m => S.noTup m) fun f => f.elim) _ _ r⟩
  cell := fun y i hy hk => by
    have hy' := hy
    rw [D.vs] at hy'
    have hget := (slots_get _ 0 hy').2
    have ho := isOwn_kind (D.own y (List.mem_of_getElem? hget))
    have hc : fd.scope.names.lookup y = some .cell := by
      rcases ho with e | e
      · rw [show (callEnvC fd s.heap.objs.size a).kindOf y = _ from e] at hk
        rcases hk with q | q <;> cases q
      · exact e
    obtain ⟨c, ec⟩ := Option.isSome_iff_exists.mp (cells_some fd.scope.names (s.heap.objs.size + 1) [] (.inr (mem_of_lookup hc)))
    have ec' : (callEnvC fd s.heap.objs.size a).cells.lookup y = some c := ec
    have hlt := x.above y c (mem_of_lookup ec')
    have hlt' : s.heap.objs.size ≤ c := Nat.le_of_lt hlt
    refine ⟨c, _, ec', fun m => absurd (S.lt m) (Nat.not_lt.mpr hlt'), (fresh_none S hlt').1, x.cell y c ec', fun V hV hne => ?_⟩
    obtain ⟨h1, v, hv, r⟩ := args_get (by simpa using hl) rl hget hV hne
    exact ⟨v, bindC_get _ _ _ D.nodup h1 hv (by rw [show (callEnvC fd s.heap.objs.size a).kindOf y = _ from hc]; decide), Rel.keep (own := noOwn) (fun b o _ _ e => x.toInCall.keep b o e) (List.prefix_refl _) (fun a m => m.elim (fun m => S.noTup m) fun f => f.elim) _ _ r⟩
  cellInj := fun y z i j c _ _ h1 h2 => name_of_addr x.apart (mem_of_lookup h1) (mem_of_lookup h2)

/-- a call, from its body -/
theorem call_ok {C : Oracle} {d : Nat} {A : Around} {s : Shared} {φ : List Addr} {σ : Store} {fd : FuncData} {a : Addr} {o : Obj} {args : List Arg} {vs : Vs} {Vs : List V} {vals : List Value} {k : Nat} {body : List Stmt} {body' : List S} {Q : V → Store → Prop} {X : XPost}
    (D : DefOk fd.params fd.scope args vs) (hg : fd.globals = mainGlobals) (hb : fd.builtins = builtinsNs) (hbody : fd.body = .stmts body) (hclo : fd.closure = []) (hdf : fd.defaults = .none) (R : ROk A (d + 1)) (ho : s.heap.get? a = some o) (hd : o.data = .func fd)
    (hlim : s.heap.NoLimit) (hcd : s.heap.CodeRec fd.code fd.qualname) (S : Sim h₀ s.heap φ σ) (rl : RelL s.heap φ Vs vals) (hl : args.length = Vs.length)
    (hB : ∀ env, env.scope = fd.scope → env.code = fd.code → SsOk prog w h₀ C d env vs body body')
    (q : wpSs C body' (Vs ++ List.replicate k V.undef) σ fun fl _ σ' => match fl with | .ret v => Q v σ' | .next => Q .none σ' | .exc c => X c σ' | _ => False) :
    codeAny (model prog w) A (.call (.ref a) ⟨vals, []⟩) (fun r s' => match r with | .ok (.ret v) => PV h₀ s φ Q v s' | .ok _ => False | .error e => PX h₀ s φ X e s') s := by
  have hroom : A.depth < recursionLimit := Nat.lt_of_lt_of_le (Nat.lt_of_le_of_lt (Nat.le_add_right _ _) R.depth) (by decide)
  have hlv : args.length = vals.length := hl.trans rl.length
  refine codeAny_call_cells (binds := (args.map (·.arg)).zip vals) hroom ho hd hlim hcd hbody (bindArgs_plain (plainArgs_eq D.plain) hdf hlv D.nodup) hclo (fun y hy => ?_) (fun s₁ x => ?_) D.co D.gen D.kind
  · have hm : y.1 ∈ args.map (·.arg) := (List.of_mem_zip hy).1
    rcases isOwn_kind (D.own y.1 (List.mem_append_left _ hm)) with e | e
    · exact .inl e
    · exact .inr ⟨e, cells_some _ _ _ (.inr (mem_of_lookup e))⟩
  · have F := call_frame (params := fd.params) (k := k) (a := a) D hg hb S rl hl x
    obtain ⟨h₁, tk, rfl, kk⟩ := x.done
    refine wpAny_mono (hB (callEnvC fd s.heap.objs.size a) rfl rfl (A.deeper (callEnvC fd s.heap.objs.size a)) _ φ σ _ _ ⟨R.hd, ?_, ?_⟩ (S.keeps kk) F q) (fun f s' y => ?_) fun _ _ e => e.elim
    · have := R.depth; show A.depth + 1 + d < 900; omega
    · have := R.units; show A.units + 3 + 3 * d < 9000; omega
    · obtain ⟨φ', σ', ρ', fl, st, F', rf, q'⟩ := y
      have st' : Step h₀ noOwn s s' φ φ' σ' := by
        refine ⟨?_, st.pre, st.sim, fun b ob hb' _ e => st.keep b ob hb' (fun m => ?_) (kk b ob e), fun b m => ?_, fun b ob e => st.pres b ob (kk b ob e)⟩
        · exact st.only
        · have hlt := Heap.lt_size e
          rcases m with rfl | ⟨y, i, _, _, ec⟩
          · exact Nat.lt_irrefl _ hlt
          · exact absurd hlt (Nat.not_lt.mpr (Nat.le_of_lt (x.above y b (mem_of_lookup ec))))
        · rcases st.fresh b m with m | e
          · exact .inl m
          · right
            cases q : s.heap.get? b with
            | none => rfl
            | some ob => have := kk b ob q; rw [show h₁.get? b = none from e] at this; cases this
      cases fl with
      | next => simp only [RelF] at rf; subst rf; exact ⟨φ', σ', .none, st', rel_none, q'⟩
      | ret V => obtain ⟨v, rfl, r⟩ := rf; exact ⟨φ', σ', V, st', r, q'⟩
      | brk => exact q'.elim
      | cont => exact q'.elim
      | exc c => exact rf.elim
end

end Mine

/-! KRead -/
namespace Mine
open PySem PySem.Calls

noncomputable def nameOk (x : Str) : Bool := !(x == ("__debug__" : Str)) && !(x == ("__classdict__" : Str))
noncomputable def rName (sc : Scope) (vs : Vs) (x : Str) : Option E :=
  if nameOk x && isVar sc x then (vs.lookup x).map E.loc else none
noncomputable def rConst : Const → Option E
  | .bool b => some (.bool b)
  | .int i => some (.int i)
  | .str s => some (.str s)
  | _ => none

/-- the types that isinstance is asked for -/
noncomputable def tyOf (x : Str) : Option Ty :=
  if x == ("int" : Str) then some .int else if x == ("bool" : Str) then some .bool else if x == ("str" : Str) then some .str
  else if x == ("tuple" : Str) then some .tuple else if x == ("list" : Str) then some .list else none

noncomputable def freeName (G : GlT) (sc : Scope) (x : Str) : Bool := isGlob sc x && (G.lookup x).isNone

noncomputable def rPat (sc : Scope) (vs : Vs) : Expr → Option Pat
  | .Name x _ => if isOwn sc x then (vs.lookup x).map Pat.var else none
  | _ => none

noncomputable def isTup : Expr → Bool
  | .Tuple .. => true
  | _ => false

/-- the source of a loop -/
noncomputable def rSrc (G : GlT) (sc : Scope) (f : Expr → Option E) (e : Expr) : Option (List E) :=
  match e with
  | .Call (.Name x _) (a :: as) [] _ => if x == ("range" : Str) && freeName G sc x then mapO f (a :: as) else none
  | _ => none
noncomputable def rComp (G : GlT) (nx : Nat) (f : Scope → Vs → Expr → Option E) (sc : Scope) (vs : Vs) (elt : Expr) (x : Str) (iter : Expr) (csc : Scope) : Option E :=
  if compOk sc vs csc x nx then (rSrc G sc (f sc vs) iter).bind fun as => (f csc (compVars csc vs x nx) elt).map fun a => .comp a (.var nx) .range as [] else none

/-- a call by a name -/
noncomputable def rCall (G : GlT) (sc : Scope) (f : Expr → Option E) (x : Str) (args : List Expr) : Option E :=
  match args with
  | [] => none
  | a :: as =>
    if x == ("isinstance" : Str) then (match as with
      | [.Name t _] => if freeName G sc x && freeName G sc t then (tyOf t).bind fun ty => (f a).map fun b => .prim (.isinst ty) [b] else none
      | _ => none)
    else if isGlob sc x && nameOk x then (mapO f (a :: as)).bind fun xs => (match G.lookup x with
        | some (.fn i) => some (.call i xs)
        | none => (bltOf x).map fun p => .prim p.1 xs)
    else none
noncomputable def rStep (G : GlT) (nx : Nat) (ff : Scope → Vs → Expr → Option E) (sc : Scope) (vs : Vs) (e : Expr) : Option E :=
  let f := ff sc vs
  match e with
    | .Constant c _ _ => rConst c
    | .Name x _ => rName sc vs x
    | .BinOp l op r _ => (cBin op).bind fun o => (f l).bind fun a => (f r).map fun b => .bin o a b
    | .UnaryOp op x _ => (match op with
      | .USub => (f x).map E.neg
      | .Not => (f x).map E.not
      | _ => none)
    | .BoolOp op es _ => if es.isEmpty then none else (match op with
      | .And => (mapO f es).map E.and
      | .Or => (mapO f es).map E.or)
    | .Compare l ops es _ => (match ops, es with
      | [op], [e] => if lastMarks [op] [e] then none else (f l).bind fun x => (f e).map fun y => .cmp x [cCmp op] [y]
      | _, _ => none)
    | .Tuple es _ _ => if es.length ≤ 1000 then (mapO f es).map E.tup else none
    | .List es _ => if es.length ≤ 1000 then (mapO f es).map E.list else none
    | .Subscript a i _ => (f a).bind fun x => (f i).map fun y => .sub x y
    | .Call g args kws pos => (match kws with
      | [] => (match g with
        | .Name x _ => rCall G sc f x args
        | .Attribute o m apos => (match o, args with
          | .Name o _, [a] => if m == ("append" : Str) && (apos.endLine == pos.line) then (rName sc vs o).bind fun x => (f a).map fun y => .append x y else none
          | _, _ => none)
        | _ => none)
      | _ => none)
    | _ => none
noncomputable def rE (G : GlT) (nx : Nat) : Nat → Scope → Vs → Expr → Option E
  | 0, _, _, _ => none
  | n + 1, sc, vs, e => rStep G nx (rE G nx n) sc vs e

section
variable {prog : Program} {w : World} {h₀ : Heap} {C : Oracle} {d : Nat} {env : Env} {vs : Vs} {G : GlT} {fa : Nat → Addr} {mg mb : Str → Option Value} {sc : Scope}

structure Agree (env : Env) (sc : Scope) : Prop where
  var : ∀ x, isVar env.scope x = isVar sc x
  glob : ∀ x, isGlob env.scope x = isGlob sc x
  cf : ∀ x, isCF sc x = true → isCF env.scope x = true

theorem Agree.of_eq {env : Env} {sc : Scope} (h : env.scope = sc) : Agree env sc := ⟨fun _ => by rw [h], fun _ => by rw [h], fun _ q => by rw [h]; exact q⟩
theorem Agree.comp {env : Env} {sc : Scope} {cl : List (Str × Addr)} {L : Addr} : Agree (compEnvC sc cl L env) sc := ⟨fun x => relabel_var x, fun x => relabel_glob x, fun x h => relabel_cf x h⟩

variable (prog w h₀ C d env vs) in
structure EGood (e : Expr) (a : E) : Prop where
  star : NoStar e
  slice : NoSlice e
  ok : EOk prog w h₀ C d env vs e a
  test : TOk prog w h₀ C d env vs e a

theorem nameOk_1 {x : Str} (h : nameOk x = true) : (x == ("__debug__" : Str)) = false := by unfold nameOk at h; simp only [Bool.and_eq_true, Bool.not_eq_true'] at h; exact h.1
theorem nameOk_2 {x : Str} (h : nameOk x = true) : (x == ("__classdict__" : Str)) = false := by unfold nameOk at h; simp only [Bool.and_eq_true, Bool.not_eq_true'] at h; exact h.2

/-- the value is what the test asks -/
noncomputable def plainE : E → Bool
  | .not _ | .and _ | .or _ | .cmp _ _ _ => false
  | _ => true
theorem wpT_plain {C : Oracle} {a : E} {whole : (V → Store → Prop) → XPost → Prop} {ρ : List V} {σ : Store} {Q : Bool → Store → Prop} {X : XPost} (h : plainE a = true) (q : wpT C a whole ρ σ Q X) :
    whole (fun v σ₁ => match truth σ₁ v with | some b => Q b σ₁ | Option.none => False) X := by
  cases a <;> first | (simp only [wpT] at q; exact q) | cases h
theorem gv {e : Expr} {a : E} (h1 : NoStar e) (h2 : NoSlice e) (he : ∀ env whole, isTrue e env whole = (do let v ← whole; standAt e.pos; holding [v] (truthy v)))
    (ha : plainE a = true) (h : EOk prog w h₀ C d env vs e a) : EGood prog w h₀ C d env vs e a :=
  ⟨h1, h2, h, tok_val he (fun _ _ _ _ _ q => wpT_plain ha q) h⟩

theorem rName_ok (hA : Agree env sc) {x : Str} {p : Pos} {a : E} (h : rName sc vs x = some a) : EGood prog w h₀ C d env vs (.Name x p) a := by
  unfold rName at h
  split at h
  · rename_i hn
    simp only [Bool.and_eq_true] at hn
    obtain ⟨i, hi, rfl⟩ := Option.map_eq_some_iff.mp h
    exact gv (fun _ _ => rfl) (fun _ _ => rfl) (fun _ _ => rfl) rfl (ok_loc hi ((hA.var x).trans hn.2) (nameOk_1 hn.1) (nameOk_2 hn.1))
  · cases h
theorem bind_map {α β γ : Type} {o : Option α} {p : α → Option β} {f : α → β → γ} {c : γ} (h : (o.bind fun a => (p a).map (f a)) = some c) : ∃ a b, o = some a ∧ p a = some b ∧ f a b = c := by
  obtain ⟨a, ha, h⟩ := Option.bind_eq_some_iff.mp h
  obtain ⟨b, hb, h⟩ := Option.map_eq_some_iff.mp h
  exact ⟨a, b, ha, hb, h⟩

theorem mapO_cons {α β : Type} {f : α → Option β} {a : α} {as : List α} {bs : List β} (h : mapO f (a :: as) = some bs) : ∃ b bs', f a = some b ∧ mapO f as = some bs' ∧ bs = b :: bs' := by
  rw [mapO] at h
  split at h
  · rename_i b bs' e1 e2
    cases h; exact ⟨b, bs', e1, e2, rfl⟩
  · cases h

theorem lst_L {f : Expr → Option E} (hf : ∀ e a, f e = some a → EGood prog w h₀ C d env vs e a) : ∀ (es : List Expr) {as : List E}, mapO f es = some as → LOk prog w h₀ C d env vs es as ∧ AOk prog w h₀ C d env vs es as ∧ NoStars es ∧ as.length = es.length
  | [], as, h => by rw [mapO] at h; cases h; exact ⟨lok_nil, aok_nil, noStars_nil, rfl⟩
  | e :: es, as, h => by
    obtain ⟨a, as', h1, h2, rfl⟩ := mapO_cons h
    have he := hf e a h1
    obtain ⟨i1, i2, i3, i4⟩ := lst_L hf es h2
    exact ⟨lok_cons he.star he.ok i1, aok_cons he.test i2, noStars_cons he.star i3, by simp [i4]⟩
theorem lst_B {f : Expr → Option E} (hf : ∀ e a, f e = some a → EGood prog w h₀ C d env vs e a) : ∀ (e : Expr) (es : List Expr) {as : List E}, mapO f (e :: es) = some as → BOk prog w h₀ C d env vs (e :: es) as
  | e, [], as, h => by
    obtain ⟨a, as', h1, h2, rfl⟩ := mapO_cons h
    rw [mapO] at h2; cases h2
    exact bok_one (hf e a h1).ok
  | e, e' :: es, as, h => by
    obtain ⟨a, as', h1, h2, rfl⟩ := mapO_cons h
    obtain ⟨a', as'', h3, h4, rfl⟩ := mapO_cons h2
    exact bok_cons (hf e a h1).ok (lst_B hf e' es h2)
theorem freeName_1 (hA : Agree env sc) {x : Str} (h : freeName G sc x = true) : G.lookup x = none ∧ isGlob env.scope x = true := by
  unfold freeName at h
  simp only [Bool.and_eq_true, Option.isNone_iff_eq_none] at h
  exact ⟨h.2, (hA.glob x).trans h.1⟩

theorem tyOf_ok {x : Str} {t : Ty} (h : tyOf x = some t) : x ∈ bltNames ∧ bootBuiltins x = some (.type (tyName t)) := by
  unfold tyOf at h
  repeat' split at h
  all_goals first
    | cases h
    | skip
  all_goals (rename_i hx; obtain rfl := beq_iff_eq.mp hx)
  · exact ⟨by decide, boot_int⟩
  · exact ⟨by decide, boot_bool⟩
  · exact ⟨by decide, boot_str⟩
  · exact ⟨by decide, boot_tuple⟩
  · exact ⟨by decide, boot_list⟩

theorem rSrc_ok (g : Gnd h₀ G fa mg mb) (hA : Agree env sc) {f : Expr → Option E} (ih : ∀ e a, f e = some a → EGood prog w h₀ C d env vs e a) {t e : Expr} {as : List E} (h : rSrc G sc f e = some as) : SrcOk prog w h₀ C d env vs e .range as t ∧ ∀ x, foldedSetIterable e env x = pure x := by
  unfold rSrc at h
  split at h
  · rename_i x pf a as' pos
    refine ⟨?_, fun _ => rfl⟩
    split at h
    · rename_i hx
      simp only [Bool.and_eq_true] at hx
      obtain rfl := beq_iff_eq.mp hx.1
      obtain ⟨f1, f2⟩ := freeName_1 hA hx.2
      obtain ⟨h1, _, h3, _⟩ := lst_L ih _ h
      obtain ⟨b, _, hb, _, _⟩ := mapO_cons h
      exact src_range g f1 f2 (ih _ _ hb).star h3 h1
    · cases h
  · cases h

/-- what a comprehension's reading gives -/
structure CompRd (prog : Program) (w : World) (h₀ : Heap) (C : Oracle) (d : Nat) (env : Env) (vs : Vs) (elt : Expr) (x : Str) (px : Pos) (iter : Expr) (csc : Scope) (nx : Nat) (a : E) (as : List E) : Prop where
  sc : CompSc env vs csc (compVars csc vs x nx) x nx
  fold : ∀ x, foldedSetIterable iter env x = pure x
  src : SrcOk prog w h₀ C d env vs iter .range as (.Name x px)
  elt : ∀ L, EOk prog w h₀ C d (compEnvC csc (clGo env csc.names []) L env) (compVars csc vs x nx) elt a

theorem rComp_ok (g : Gnd h₀ G fa mg mb) {nx : Nat} {f : Scope → Vs → Expr → Option E} (ih : ∀ sc vs e a, f sc vs e = some a → ∀ env, Agree env sc → EGood prog w h₀ C d env vs e a) (hA : Agree env sc) {elt : Expr} {x : Str} {px : Pos} {iter : Expr} {csc : Scope} {b : E}
    (h : rComp G nx f sc vs elt x iter csc = some b) : ∃ a as, b = .comp a (.var nx) .range as [] ∧ CompRd prog w h₀ C d env vs elt x px iter csc nx a as := by
  unfold rComp at h
  split at h
  · rename_i hc
    obtain ⟨as, a, h1, h2, rfl⟩ := bind_map h
    obtain ⟨s1, s2⟩ := rSrc_ok g hA (fun e a q => ih sc vs e a q env hA) h1
    exact ⟨a, as, rfl, comp_sc hA.cf hc, s2, s1, fun L => (ih _ _ _ _ h2 _ Agree.comp).ok⟩
  · cases h

theorem rCall_ok (g : Gnd h₀ G fa mg mb) (hC : CSound prog w h₀ C d (G := G) fa) (hA : Agree env sc) {f : Expr → Option E} (ih : ∀ e a, f e = some a → EGood prog w h₀ C d env vs e a) {x : Str} {args : List Expr} {pf pos : Pos} {a : E}
    (h : rCall G sc f x args = some a) : EGood prog w h₀ C d env vs (.Call (.Name x pf) args [] pos) a := by
  unfold rCall at h
  split at h
  · cases h
  · rename_i e es
    split at h
    · rename_i hx
      obtain rfl := beq_iff_eq.mp hx
      split at h
      · rename_i t pt
        split at h
        · rename_i hfr
          simp only [Bool.and_eq_true] at hfr
          obtain ⟨ty, b, hty, hb, rfl⟩ := bind_map h
          obtain ⟨f1, f2⟩ := freeName_1 hA hfr.1
          obtain ⟨f3, f4⟩ := freeName_1 hA hfr.2
          obtain ⟨t1, t2⟩ := tyOf_ok hty
          exact gv (fun _ _ => rfl) (fun _ _ => rfl) (fun _ _ => rfl) rfl (ok_isinst g f1 f2 f3 t1 t2 f4 (ih _ _ hb).star (ih _ _ hb).ok)
        · cases h
      · cases h
    · split at h
      · rename_i hgl
        simp only [Bool.and_eq_true] at hgl
        obtain ⟨xs, hxs, h⟩ := Option.bind_eq_some_iff.mp h
        obtain ⟨h1, _, h3, h4⟩ := lst_L ih _ hxs
        obtain ⟨b, bs, hb, _, _⟩ := mapO_cons hxs
        split at h
        · rename_i i hi
          cases h
          exact gv (fun _ _ => rfl) (fun _ _ => rfl) (fun _ _ => rfl) rfl (ok_call g hC hi ((hA.glob x).trans hgl.1) (nameOk_1 hgl.2) (ih _ _ hb).star h1)
        · rename_i hnone
          obtain ⟨p, hp, rfl⟩ := Option.map_eq_some_iff.mp h
          exact gv (fun _ _ => rfl) (fun _ _ => rfl) (fun _ _ => rfl) rfl (ok_blt g (bltOf_ok hp) hnone ((hA.glob x).trans hgl.1) (ih _ _ hb).star h3 h1)
      · cases h
theorem rE_ok (g : Gnd h₀ G fa mg mb) (hC : CSound prog w h₀ C d (G := G) fa) {nx : Nat} : ∀ (n : Nat) (sc : Scope) (vs : Vs) (e : Expr) (a : E), rE G nx n sc vs e = some a → ∀ (env : Env), Agree env sc → EGood prog w h₀ C d env vs e a
  | 0, _, _, _, _, h, _, _ => by rw [rE] at h; cases h
  | n + 1, sc, vs, e, a, h, env, hA => by
    have ih : ∀ e a, rE G nx n sc vs e = some a → EGood prog w h₀ C d env vs e a := fun e a h => rE_ok g hC n sc vs e a h env hA
    rw [rE] at h
    unfold rStep at h
    dsimp only at h
    split at h
    · -- constants
      rename_i c k p
      unfold rConst at h
      split at h <;> cases h
      · exact gv (fun _ _ => rfl) (fun _ _ => rfl) (fun _ _ => rfl) rfl ok_bool
      · exact gv (fun _ _ => rfl) (fun _ _ => rfl) (fun _ _ => rfl) rfl ok_int
      · exact gv (fun _ _ => rfl) (fun _ _ => rfl) (fun _ _ => rfl) rfl ok_str
    · exact rName_ok hA h
    · obtain ⟨o, ho, h⟩ := Option.bind_eq_some_iff.mp h
      obtain ⟨x, y, hl, hr, rfl⟩ := bind_map h
      exact gv (fun _ _ => rfl) (fun _ _ => rfl) (fun _ _ => rfl) rfl (ok_bin ho (ih _ _ hl).ok (ih _ _ hr).ok)
    · split at h
      · obtain ⟨x, hx, rfl⟩ := Option.map_eq_some_iff.mp h
        exact gv (fun _ _ => rfl) (fun _ _ => rfl) (fun _ _ => rfl) rfl (ok_neg (ih _ _ hx).ok)
      · obtain ⟨x, hx, rfl⟩ := Option.map_eq_some_iff.mp h
        exact ⟨fun _ _ => rfl, fun _ _ => rfl, ok_not (ih _ _ hx).ok, tok_not (ih _ _ hx).test⟩
      · cases h
    · rename_i op es p
      split at h
      · cases h
      · split at h
        · obtain ⟨x, hx, rfl⟩ := Option.map_eq_some_iff.mp h
          obtain ⟨_, h2, _⟩ := lst_L ih es hx
          match es, hx, h2 with
          | e :: es, hx, h2 => exact ⟨fun _ _ => rfl, fun _ _ => rfl, ok_and (lst_B ih e es hx), tok_and h2⟩
          | [], _, _ => simp at *
        · obtain ⟨x, hx, rfl⟩ := Option.map_eq_some_iff.mp h
          obtain ⟨_, h2, _⟩ := lst_L ih es hx
          match es, hx, h2 with
          | e :: es, hx, h2 => exact ⟨fun _ _ => rfl, fun _ _ => rfl, ok_or (lst_B ih e es hx), tok_or h2⟩
          | [], _, _ => simp at *
    · split at h
      · split at h
        · cases h
        · rename_i hm
          obtain ⟨x, y, hx, hy, rfl⟩ := bind_map h
          have hm := Bool.eq_false_iff.mpr hm
          exact ⟨fun _ _ => rfl, fun _ _ => rfl, ok_cmp hm (ih _ _ hx).ok (cok_one (ih _ _ hy).ok), tok_cmp hm (ih _ _ hx).ok (cok_one (ih _ _ hy).ok)⟩
      · cases h
    · split at h
      · rename_i hz
        obtain ⟨x, hx, rfl⟩ := Option.map_eq_some_iff.mp h
        obtain ⟨h1, _, _, h4⟩ := lst_L ih _ hx
        exact gv (fun _ _ => rfl) (fun _ _ => rfl) (fun _ _ => rfl) rfl (ok_tup h1 (h4 ▸ hz))
      · cases h
    · split at h
      · rename_i hz
        obtain ⟨x, hx, rfl⟩ := Option.map_eq_some_iff.mp h
        obtain ⟨h1, _, _, h4⟩ := lst_L ih _ hx
        exact gv (fun _ _ => rfl) (fun _ _ => rfl) (fun _ _ => rfl) rfl (ok_list h1 (h4 ▸ hz))
      · cases h
    · obtain ⟨x, y, hx, hy, rfl⟩ := bind_map h
      exact gv (fun _ _ => rfl) (fun _ _ => rfl) (fun _ _ => rfl) rfl (ok_sub (ih _ _ hy).slice (ih _ _ hx).ok (ih _ _ hy).ok)
    · split at h
      · split at h
        · exact rCall_ok g hC hA ih h
        · split at h
          · rename_i o po a apos
            split at h
            · rename_i hm
              simp only [Bool.and_eq_true] at hm
              obtain rfl := beq_iff_eq.mp hm.1
              obtain ⟨x, y, hx, hy, rfl⟩ := bind_map h
              exact gv (fun _ _ => rfl) (fun _ _ => rfl) (fun _ _ => rfl) rfl (ok_append (fun _ => rfl) hm.2 (ih _ _ hy).star (rName_ok hA hx).ok (ih _ _ hy).ok)
            · cases h
          · cases h
        · cases h
      · cases h
    · cases h
end
end Mine

/-! KReadS -/
namespace Mine
open PySem PySem.Calls

noncomputable def isLC : Expr → Bool
  | .ListComp .. | .SetComp .. | .DictComp .. => true
  | _ => false
theorem noComp_of {e : Expr} (h : isLC e = false) : NoComp e := by
  cases e <;> first | exact fun _ _ _ => rfl | cases h
theorem noSwap {t value : Expr} {env : Env} (h : isTup value = false) : swappedStores [t] value env = pure none := by
  unfold swappedStores
  cases t <;> first | rfl | (cases value <;> first | rfl | (exfalso; cases h))

noncomputable def rAssign (G : GlT) (nx : Nat) (sc : Scope) (vs : Vs) (n : Nat) (t value : Expr) : Option S :=
  match value with
  | .ListComp elt [⟨.Name x _, iter, [], 0⟩] csc _ => (rPat sc vs t).bind fun q => (rComp G nx (rE G nx n) sc vs elt x iter csc).map fun a => .assign q a
  | value => if isLC value then none else (rPat sc vs t).bind fun p => (rE G nx n sc vs value).map fun a => .assign p a
noncomputable def rSStep (G : GlT) (nx : Nat) (sc : Scope) (vs : Vs) (n : Nat) (f : Stmt → Option S) (st : Stmt) : Option S :=
  match st with
  | .Expr e _ => if isLC e then none else (rE G nx n sc vs e).map S.expr
  | .Return o _ => o.bind fun e => (rE G nx n sc vs e).map fun a => .ret (some a)
  | .Assign ts value _ => (match ts with
    | [t] => rAssign G nx sc vs n t value
    | _ => none)
  | .If test b o _ => (rE G nx n sc vs test).bind fun a => (mapO f b).bind fun b' => (mapO f o).map fun o' => .if_ a b' o'
  | .For t iter body els _ => if els.isEmpty then (rPat sc vs t).bind fun p => (rSrc G sc (rE G nx n sc vs) iter).bind fun as => (mapO f body).map fun b => .for_ p .range as b else none
  | _ => none
noncomputable def rS (G : GlT) (nx : Nat) (sc : Scope) (vs : Vs) (m : Nat) : Nat → Stmt → Option S
  | 0, _ => none
  | n + 1, st => rSStep G nx sc vs m (rS G nx sc vs m n) st

section
variable {prog : Program} {w : World} {h₀ : Heap} {C : Oracle} {d : Nat} {env : Env} {vs : Vs} {G : GlT} {fa : Nat → Addr} {mg mb : Str → Option Value} {sc : Scope}

theorem rPat_ok (hs : env.scope = sc) {t : Expr} {p : Pat} (h : rPat sc vs t = some p) : CPat env vs t p := by
  unfold rPat at h
  split at h
  · split at h
    · rename_i ho
      obtain ⟨i, hi, rfl⟩ := Option.map_eq_some_iff.mp h
      refine .name hi ?_
      have := isOwn_kind ho
      rw [← hs] at this; exact this
    · cases h
  · cases h

theorem lst_S {f : Stmt → Option S} (hf : ∀ e a, f e = some a → SOk prog w h₀ C d env vs e a) : ∀ (es : List Stmt) {as : List S}, mapO f es = some as → SsOk prog w h₀ C d env vs es as
  | [], as, h => by rw [mapO] at h; cases h; exact ssok_nil
  | e :: es, as, h => by
    obtain ⟨a, as', h1, h2, rfl⟩ := mapO_cons h
    exact ssok_cons (hf e a h1) (lst_S hf es h2)

theorem rAssign_ok (g : Gnd h₀ G fa mg mb) (hC : CSound prog w h₀ C d (G := G) fa) (hs : env.scope = sc) {m nx : Nat} {t value : Expr} {p : Pos} {a : S} (h : rAssign G nx sc vs m t value = some a) : SOk prog w h₀ C d env vs (.Assign [t] value p) a := by
  have hA := Agree.of_eq hs
  have ih : ∀ e a, rE G nx m sc vs e = some a → EGood prog w h₀ C d env vs e a := fun e a h => rE_ok g hC m sc vs e a h env hA
  unfold rAssign at h
  split at h
  · rename_i elt x px iter csc pc
    obtain ⟨q, a', hq, hr, rfl⟩ := bind_map h
    have hp := rPat_ok (vs := vs) hs hq
    obtain ⟨b, as, rfl, c⟩ := rComp_ok (px := px) g (fun sc vs e a h env hA => rE_ok g hC m sc vs e a h env hA) hA hr
    cases hp with
    | @name y i py hy hk =>
      have key : ∃ b, swapsWith (.ListComp elt [⟨.Name x px, iter, [], 0⟩] csc pc) (some (.Name y py)) p.line env = pure b ∧ (b = true → env.kindOf y = some .local) := by
        refine ⟨_, rfl, fun e => ?_⟩
        simp only [Bool.and_eq_true, beq_iff_eq] at e
        exact e.1.1.2
      obtain ⟨b, hb, hl⟩ := key
      cases b with
      | true => exact sok_comp c.sc c.fold c.src c.elt (fun _ => tsok_nil) hy (hl rfl) hb
      | false => exact sok_assign hb (noSwap rfl) rfl (.name hy hk) (ok_comp c.sc c.fold c.src c.elt fun _ => tsok_nil)
  · split at h
    · cases h
    · rename_i hl
      have hl : isLC value = false := by simpa using hl
      obtain ⟨q, b, hq, hb, rfl⟩ := bind_map h
      have hp := rPat_ok (vs := vs) hs hq
      cases hp with
      | name hy hk => exact sok_assign (noComp_of hl _ _ _) rfl rfl (.name hy hk) (ih _ _ hb).ok

theorem rS_ok (g : Gnd h₀ G fa mg mb) (hC : CSound prog w h₀ C d (G := G) fa) (hs : env.scope = sc) {m nx : Nat} : ∀ (n : Nat) (st : Stmt) (a : S), rS G nx sc vs m n st = some a → SOk prog w h₀ C d env vs st a
  | 0, _, _, h => by rw [rS] at h; cases h
  | n + 1, st, a, h => by
    have hA := Agree.of_eq hs
    have ih : ∀ e a, rE G nx m sc vs e = some a → EGood prog w h₀ C d env vs e a := fun e a h => rE_ok g hC m sc vs e a h env hA
    have ihs : ∀ e a, rS G nx sc vs m n e = some a → SOk prog w h₀ C d env vs e a := fun e a h => rS_ok g hC hs n e a h
    rw [rS] at h
    unfold rSStep at h
    split at h
    · split at h
      · cases h
      · rename_i hl
        obtain ⟨b, hb, rfl⟩ := Option.map_eq_some_iff.mp h
        exact sok_expr (noComp_of (by simpa using hl)) (ih _ _ hb).ok
    · obtain ⟨e, rfl, h⟩ := Option.bind_eq_some_iff.mp h
      obtain ⟨b, hb, rfl⟩ := Option.map_eq_some_iff.mp h
      exact sok_ret (ih _ _ hb).ok
    · split at h
      · exact rAssign_ok g hC hs h
      · cases h
    · obtain ⟨a', ha, h⟩ := Option.bind_eq_some_iff.mp h
      obtain ⟨b', o', hb, ho, rfl⟩ := bind_map h
      exact sok_if (ih _ _ ha).test (lst_S ihs _ hb) (lst_S ihs _ ho)
    · split at h
      · rename_i hels
        obtain rfl := List.isEmpty_iff.mp hels
        obtain ⟨q, hq, h⟩ := Option.bind_eq_some_iff.mp h
        obtain ⟨as, b', hsr, hb, rfl⟩ := bind_map h
        obtain ⟨s1, s2⟩ := rSrc_ok g hA ih hsr
        exact sok_for s2 (rPat_ok (vs := vs) hs hq) s1 (lst_S ihs _ hb)
      · cases h
    · cases h

/-- a def's reading: so many slots behind its own names -/
noncomputable def rFn (G : GlT) (params : Arguments) (body : List Stmt) (sc : Scope) (extra : Nat) : Option Fn :=
  match plainArgs params with
  | none => none
  | some args =>
    if decide ((args.map (·.arg)).Nodup) && ((ownNames (args.map (·.arg)) sc).all (isOwn sc)) && (sc.kind == .function) && !sc.isCoroutine && !sc.isGenerator then
      (mapO (rS G (ownNames (args.map (·.arg)) sc).length sc (slotsFrom 0 (ownNames (args.map (·.arg)) sc)) 40 20) body).map fun b => ⟨args.length, args.length + extra, b⟩
    else none

end

/-- a def's body does as the abstract one says -/
noncomputable def FnOk (prog : Program) (w : World) (h₀ : Heap) (G : GlT) (fa : Nat → Addr) (params : Arguments) (body : List Stmt) (sc : Scope) (code : Value) (fn : Fn) : Prop :=
  ∃ args vs, DefOk params sc args vs ∧ fn.params = args.length ∧ ∀ C d, CSound prog w h₀ C d (G := G) fa → needOf fn.body ≤ d → ∀ env, env.scope = sc → env.code = code → SsOk prog w h₀ C d env vs body fn.body

theorem fnok_of {prog : Program} {w : World} {h₀ : Heap} {G : GlT} {fa : Nat → Addr} {mg mb : Str → Option Value} (g : Gnd h₀ G fa mg mb) {params : Arguments} {body : List Stmt} {sc : Scope} {extra : Nat} {fn : Fn} {code : Value} (h : rFn G params body sc extra = some fn) : FnOk prog w h₀ G fa params body sc code fn := by
  unfold rFn at h
  split at h
  · cases h
  · rename_i args ha
    split at h
    · rename_i hc
      simp only [Bool.and_eq_true, decide_eq_true_eq, Bool.not_eq_true', List.all_eq_true, beq_iff_eq] at hc
      obtain ⟨⟨⟨⟨c1, c2⟩, c3⟩, c4⟩, c5⟩ := hc
      obtain ⟨b, hb, rfl⟩ := Option.map_eq_some_iff.mp h
      exact ⟨args, _, ⟨ha, c1, rfl, c2, c3, c4, c5⟩, rfl, fun C d hC _ env he _ => lst_S (rS_ok g hC he 20) _ hb⟩
    · cases h

/-- the text's own functions, read -/
structure Funs (prog : Program) (w : World) (h₀ : Heap) (G : GlT) (fa : Nat → Addr) (P : List Fn) : Prop where
  fn : ∀ x i fn, G.lookup x = some (.fn i) → P[i]? = some fn → ∃ o name params body sc pm code doc, h₀.get? (fa i) = some o ∧ o.data = .func (docDef name params body sc pm code doc) ∧ h₀.CodeRec code name ∧ FnOk prog w h₀ G fa params body sc code fn

theorem csound {prog : Program} {w : World} {h₀ : Heap} {G : GlT} {fa : Nat → Addr} {mg mb : Str → Option Value} {P : List Fn} (g : Gnd h₀ G fa mg mb) (Fs : Funs prog w h₀ G fa P) : ∀ d, CSound prog w h₀ (callW P d) d (G := G) fa
  | 0 => fun x i hx A s φ σ Vs vals Q X R S rl q => q.elim
  | d + 1 => fun x i hx A s φ σ Vs vals Q X R S rl q => by
    have hC := csound (prog := prog) (w := w) g Fs d
    simp only [callW] at q
    split at q
    · rename_i fn hfn
      obtain ⟨o, name, params, body, sc, pm, code, doc, ho, hd, hcd, args, vs, D, hp, hB⟩ := Fs.fn x i fn hx hfn
      refine call_ok (fd := docDef name params body sc pm code doc) (body := body) (body' := fn.body) (vs := vs) D rfl rfl rfl rfl rfl R (S.keep _ _ ho) hd (g.nolimit.keeps S.keep) (hcd.keeps S.keep) S rl (by rw [← hp]; exact q.1.symm) (hB _ d hC q.2.1) q.2.2
    · exact q.elim
end Mine

/-! KHead -/
namespace Mine
open PySem PySem.Calls PySem.W PyProof.Rows

noncomputable def glFrom : Nat → List DefRec → GlT
  | _, [] => []
  | n, d :: r => (d.name, .fn n) :: glFrom (n + 1) r

theorem glFrom_get : ∀ (ds : List DefRec) (n : Nat) {x : Str} {i : Nat}, (glFrom n ds).lookup x = some (.fn i) → n ≤ i ∧ ∃ d, ds[i - n]? = some d ∧ d.name = x
  | [], _, _, _, h => by simp [glFrom] at h
  | y :: r, n, x, i, h => by
    rw [glFrom, List.lookup_cons] at h
    cases e : x == y.name with
    | true =>
      rw [e] at h
      simp only [Option.some.injEq, Gl.fn.injEq] at h
      subst h
      exact ⟨Nat.le_refl _, y, by simp, (beq_iff_eq.mp e).symm⟩
    | false =>
      rw [e] at h
      obtain ⟨h1, d, h2, h3⟩ := glFrom_get r (n + 1) h
      refine ⟨by omega, d, ?_, h3⟩
      rw [show i - n = (i - (n + 1)) + 1 by omega]
      simpa using h2
noncomputable def glAll (p : Program) : GlT := glFrom 0 (recsOf p)
theorem glAll_fn {p : Program} {x : Str} {i : Nat} (h : (glAll p).lookup x = some (.fn i)) : ∃ d, (recsOf p)[i]? = some d ∧ d.name = x := by
  obtain ⟨_, d, hd, e⟩ := glFrom_get _ 0 h
  exact ⟨d, by simpa using hd, e⟩

/-- where the functions lie -/
noncomputable def addrOf (mg : Str → Option Value) (ds : List DefRec) (i : Nat) : Addr := match ds[i]? with
  | some d => (match mg d.name with | some (.ref a) => a | _ => 0)
  | none => 0

noncomputable def readAll (G : GlT) (ds : List DefRec) (extra : Nat) : Option (List Fn) := mapO (fun d => rFn G d.params d.body d.scope (((ownNames ((plainArgs d.params).getD [] |>.map (·.arg)) d.scope).length - ((plainArgs d.params).getD []).length) + extra)) ds

theorem mapO_get {α β : Type} {f : α → Option β} : ∀ (as : List α) {bs : List β} {i : Nat} {b : β}, mapO f as = some bs → bs[i]? = some b → ∃ a, as[i]? = some a ∧ f a = some b
  | [], bs, i, b, h, hb => by rw [mapO] at h; cases h; simp at hb
  | a :: as, bs, i, b, h, hb => by
    obtain ⟨b', bs', h1, h2, rfl⟩ := mapO_cons h
    cases i with
    | zero => simp at hb; subst hb; exact ⟨a, rfl, h1⟩
    | succ i => simpa using mapO_get as h2 (by simpa using hb)

noncomputable def bltFree (p : Program) (loose : List Str) : Bool :=
  bltNames.all fun x => !(startupNames.contains x || loose.contains x || ((recsOf p).map (·.name)).contains x || ((litsOf p).map (·.1)).contains x || ((clssOf p loose).map (·.name)).contains x) || ((glAll p).lookup x).isSome

theorem gnd_of {p : Program} {loose : List Str} {mean : ExcName → Option Value} {mg mb : Str → Option Value} {h : Heap} (T : Top p loose mean mg mb h) (hb : bltFree p loose = true) : Gnd h (glAll p) (addrOf mg (recsOf p)) mg mb where
  ns := T.g
  nsb := T.b
  nolimit := T.nolimit
  fn := fun x i hx => by
    obtain ⟨d, hd, rfl⟩ := glAll_fn hx
    obtain ⟨a, o, pm, cd, doc, h1, _⟩ := T.fn d (List.mem_of_getElem? hd)
    rw [h1]
    unfold addrOf
    rw [hd]; simp only [h1]
  isfn := fun x i hx => by
    obtain ⟨d, hd, rfl⟩ := glAll_fn hx
    obtain ⟨a, o, pm, cd, doc, h1, h2, h3, _⟩ := T.fn d (List.mem_of_getElem? hd)
    refine ⟨o, _, ?_, h3⟩
    unfold addrOf
    rw [hd]; simp only [h1]; exact h2
  blt := fun x hx hn => by
    unfold bltFree at hb
    have := List.all_eq_true.mp hb x hx
    rw [hn] at this
    simp only [Option.isSome_none, Bool.or_false, Bool.not_eq_true', Bool.or_eq_false_iff] at this
    obtain ⟨⟨⟨⟨a1, a2⟩, a3⟩, a4⟩, a5⟩ := this
    refine T.free x ?_ ?_ ?_ ?_ ?_ <;> (intro m; simp_all)
  bv := T.builtins

theorem relL_ints {h : Heap} {φ : List Addr} {vs : List Value} {xs : List Int} (x : IntsAre vs xs) : RelL h φ (xs.map V.int) vs := by
  induction x with
  | nil => simp only [List.map_nil, RelL]
  | cons n t _ ih => simp only [List.map_cons, RelL, Rel]; exact ⟨⟨t, rfl⟩, ih⟩

theorem well_all {P : Params} {h : Heap} : ∀ {vs : List Value} {xs : List Int}, WellAll P h vs (ofPys (xs.map PyData.int)) → IntsAre vs xs
  | _, [], x => by rw [List.map_nil, ofPys] at x; cases x; exact .nil
  | _, i :: xs, x => by
    rw [List.map_cons, ofPys, ofPy] at x
    cases x with
    | cons a b => cases a; exact .cons i _ (well_all b)
theorem well_ints {P : Params} {h : Heap} {l : Addr} {xs : List Int} (x : Well P h (.ref l) (ofPy (.list (xs.map PyData.int)))) : ∃ vs, h.get? l = some { cls := .type "list", data := .seq vs.toArray } ∧ IntsAre vs xs := by
  rw [ofPy] at x
  cases x with
  | list e a => exact ⟨_, e, well_all a⟩
end Mine

/-! KWp -/
namespace Mine
open PySem

/-! what the abstract machine does, step by step -/
noncomputable def seqK (C : Oracle) (ss : List S) (Q : Post) : Post := fun fl ρ σ => match fl with
  | .next => wpSs C ss ρ σ Q
  | fl => Q fl ρ σ
noncomputable def truthK (σ : Store) (v : V) (K : Bool → Prop) : Prop := match truth σ v with
  | some b => K b
  | Option.none => False
noncomputable def cmpK (σ : Store) (op : COp) (x y : V) (K : Bool → Prop) : Prop := match cmpV σ op x y with
  | some b => K b
  | Option.none => False
noncomputable def bindK (σ : Store) (p : Pat) (v : V) (ρ : List V) (K : List V → Prop) : Prop := match bindTo σ p v ρ with
  | some ρ' => K ρ'
  | Option.none => False
noncomputable def retK (Q : V → Store → Prop) (X : XPost) : Post := fun fl _ σ' => match fl with
  | .ret v => Q v σ'
  | .next => Q .none σ'
  | .exc c => X c σ'
  | _ => False

section
variable {C : Oracle} {ss : List S} {ρ : List V} {σ : Store} {Q : Post} {i n : Nat} {e e' a b : E} {es es' : List E} {X : XPost} {P : V → Store → Prop}

theorem call_in {Ps : List Fn} {f : Nat} {fn : Fn} {d : Nat} {args : List V} (h : Ps[f]? = some fn) (hl : args.length = fn.params)
    (q : wpSs (callW Ps d) fn.body (args ++ List.replicate (fn.slots - fn.params) V.undef) σ (retK P X)) (hn : needOf fn.body ≤ d := by exact Nat.zero_le _) : callW Ps (d + 1) f args σ P X := by
  simp only [callW, h]; exact ⟨hl, hn, q⟩

theorem k_next (q : wpSs C ss ρ σ Q) : seqK C ss Q .next ρ σ := q
theorem k_ret {v : V} (q : Q (.ret v) ρ σ) : seqK C ss Q (.ret v) ρ σ := q
theorem k_ret' {v : V} (q : P v σ) : retK P X (.ret v) ρ σ := q
theorem s_cons {s : S} (q : wpS C s ρ σ (seqK C ss Q)) : wpSs C (s :: ss) ρ σ Q := by
  rw [wpSs]; exact q
theorem s_nil (q : Q .next ρ σ) : wpSs C [] ρ σ Q := by rw [wpSs]; exact q
theorem s_expr (q : wpE C e ρ σ (fun _ σ₁ => Q .next ρ σ₁) (fun c σ₁ => Q (.exc c) ρ σ₁)) : wpS C (.expr e) ρ σ Q := by rw [wpS]; exact q
theorem s_ret (q : wpE C e ρ σ (fun v σ₁ => Q (.ret v) ρ σ₁) (fun c σ₁ => Q (.exc c) ρ σ₁)) : wpS C (.ret (some e)) ρ σ Q := by rw [wpS, wpO]; exact q
theorem s_var (q : wpE C e ρ σ (fun v σ₁ => Q .next (ρ.set i v) σ₁) (fun c σ₁ => Q (.exc c) ρ σ₁)) : wpS C (.assign (.var i) e) ρ σ Q := by rw [wpS]; exact q
theorem s_if {o o' : List S} (q : wpT C e (wpE C e ρ σ) ρ σ (fun t σ₁ => if t = true then wpSs C o ρ σ₁ Q else wpSs C o' ρ σ₁ Q) (fun c σ₁ => Q (.exc c) ρ σ₁)) : wpS C (.if_ e o o') ρ σ Q := by rw [wpS]; exact q
theorem s_for {p : Pat} {k : SrcK} {body : List S} (q : wpL C es ρ σ (fun vs σ₁ => ∃ items, srcItems k vs σ₁ = some items ∧ forW (fun v ρ₁ σ₂ R => bindK σ₂ p v ρ₁ fun ρ₂ => wpSs C body ρ₂ σ₂ R) (srcSame k vs σ₁) items ρ σ₁ Q) (fun c σ₁ => Q (.exc c) ρ σ₁)) :
    wpS C (.for_ p k es body) ρ σ Q := by rw [wpS]; exact q
theorem e_bool {t : Bool} (q : P (.bool t) σ) : wpE C (.bool t) ρ σ P X := by rw [wpE]; exact q
theorem e_int {k : Int} (q : P (.int k) σ) : wpE C (.int k) ρ σ P X := by rw [wpE]; exact q
theorem e_str {k : Str} (q : P (.str k) σ) : wpE C (.str k) ρ σ P X := by rw [wpE]; exact q
noncomputable def def? : V → Bool
  | .undef => false
  | _ => true
theorem e_loc {v : V} (h : ρ[i]? = some v) (hd : def? v = true) (q : P v σ) : wpE C (.loc i) ρ σ P X := by
  rw [wpE, h]
  cases v <;> first | exact q | cases hd
theorem e_bin {op : BOp} (q : wpE C a ρ σ (fun x σ₁ => wpE C b ρ σ₁ (fun y σ₂ => (binV op x y σ₂).to P) X) X) : wpE C (.bin op a b) ρ σ P X := by rw [wpE]; exact q
theorem e_neg (q : wpE C a ρ σ (fun x σ₁ => match x with
    | .int i => P (.int (-i)) σ₁
    | _ => False) X) : wpE C (.neg a) ρ σ P X := by rw [wpE]; exact q
theorem e_not (q : wpE C a ρ σ (fun x σ₁ => truthK σ₁ x fun b => P (.bool (!b)) σ₁) X) : wpE C (.not a) ρ σ P X := by rw [wpE]; exact q
theorem e_and (q : wpB C true es ρ σ P X) : wpE C (.and es) ρ σ P X := by rw [wpE]; exact q
theorem e_or (q : wpB C false es ρ σ P X) : wpE C (.or es) ρ σ P X := by rw [wpE]; exact q
theorem e_cmp {ops : List COp} (q : wpE C e ρ σ (fun x σ₁ => wpC C ops es x ρ σ₁ (fun b σ₂ => P (.bool b) σ₂) X) X) : wpE C (.cmp e ops es) ρ σ P X := by rw [wpE]; exact q
theorem e_tup (q : wpL C es ρ σ (fun vs σ₁ => P (.tup vs) σ₁) X) : wpE C (.tup es) ρ σ P X := by rw [wpE]; exact q
theorem e_list (q : wpL C es ρ σ (fun vs σ₁ => P (.ref σ₁.length) (σ₁ ++ [.list vs])) X) : wpE C (.list es) ρ σ P X := by rw [wpE]; exact q
theorem e_sub (q : wpE C a ρ σ (fun x σ₁ => wpE C b ρ σ₁ (fun y σ₂ => (subV x y σ₂).to P) X) X) : wpE C (.sub a b) ρ σ P X := by rw [wpE]; exact q
theorem e_call {f : Nat} (q : wpL C es ρ σ (fun vs σ₁ => C f vs σ₁ P X) X) : wpE C (.call f es) ρ σ P X := by rw [wpE]; exact q
theorem e_prim {p : Pr} (q : wpL C es ρ σ (fun vs σ₁ => (primV p vs σ₁).to P) X) : wpE C (.prim p es) ρ σ P X := by rw [wpE]; exact q
theorem e_append (q : wpE C a ρ σ (fun V σ₁ => isList σ₁ V ∧ wpE C b ρ σ₁ (fun W σ₂ => (appV σ₂ V W).to P) X) X) : wpE C (.append a b) ρ σ P X := by rw [wpE]; exact q

/-- a comprehension's turn -/
noncomputable def turnC (C : Oracle) (e : E) (i : Nat) (conds : List E) (ρ : List V) (X : XPost) (v : V) (σ : Store) (R : Option V → Store → Prop) : Prop :=
  wpTs C conds (ρ.set i v) σ (fun b σ₃ => if b = true then wpE C e (ρ.set i v) σ₃ (fun x σ₄ => R (some x) σ₄) X else R none σ₃) X
theorem e_comp {k : SrcK} {conds : List E} (q : wpL C es ρ σ (fun vs σ₁ => ∃ items, srcItems k vs σ₁ = some items ∧ items.length ≤ maxLen ∧ compW (turnC C e i conds ρ X) (srcSame k vs σ₁) items [] σ₁ fun ys σ₂ => P (.ref σ₂.length) (σ₂ ++ [.list ys])) X) :
    wpE C (.comp e (.var i) k es conds) ρ σ P X := by rw [wpE]; exact q
theorem e_sortKey {T : Addr} (q : wpE C a ρ σ (fun v σ₁ => ∃ n vs, v = .ref n ∧ σ₁[1]? = some (.tab T) ∧ σ₁[n]? = some (.list vs) ∧ vs.length < 64 ∧ keysW (fun y σ₂ R => wpE C b [y] σ₂ R X) vs [] (σ₁.set 1 .gone)
      fun ks σ₂ => ∃ rs, rowsOf ks = some rs ∧ (∀ r ∈ rs, r ≠ []) ∧ ∀ p : List Nat, p.Perm (List.range vs.length) → p.Pairwise (ahead rs) → P (.ref σ₂.length) (σ₂ ++ [.list (p.map fun i => vs.getD i .none)])) X) : wpE C (.sortKey T a b) ρ σ P X := by rw [wpE]; exact q

theorem l_nil {P : List V → Store → Prop} (q : P [] σ) : wpL C [] ρ σ P X := by rw [wpL]; exact q
theorem l_cons {P : List V → Store → Prop} (q : wpE C e ρ σ (fun v σ₁ => wpL C es ρ σ₁ (fun vs σ₂ => P (v :: vs) σ₂) X) X) : wpL C (e :: es) ρ σ P X := by rw [wpL]; exact q

theorem b_one {d : Bool} (q : wpE C e ρ σ P X) : wpB C d [e] ρ σ P X := by
  rw [wpB]; simp only [List.isEmpty_nil, if_true]; exact q
theorem b_cons {d : Bool} (q : wpE C e ρ σ (fun v σ₁ => truthK σ₁ v fun b => if (b == d) = true then wpB C d (e' :: es) ρ σ₁ P X else P v σ₁) X) : wpB C d (e :: e' :: es) ρ σ P X := by
  rw [wpB]; simp only [List.isEmpty_cons, Bool.false_eq_true, if_false]; exact q
theorem c_one {op : COp} {x : V} {K : Bool → Store → Prop} (q : wpE C e ρ σ (fun y σ₁ => cmpK σ₁ op x y fun b => K b σ₁) X) : wpC C [op] [e] x ρ σ K X := by
  rw [wpC]; simp only [List.isEmpty_nil, Bool.true_or, if_true]; exact q
variable {K : Bool → Store → Prop} {w : (V → Store → Prop) → XPost → Prop}
theorem t_not (q : wpT C e (wpE C e ρ σ) ρ σ (fun b σ₁ => K (!b) σ₁) X) : wpT C (.not e) w ρ σ K X := by rw [wpT]; exact q
theorem t_and (q : wpTs C es ρ σ K X) : wpT C (.and es) w ρ σ K X := by rw [wpT]; exact q
theorem t_or (q : wpTo C es ρ σ K X) : wpT C (.or es) w ρ σ K X := by rw [wpT]; exact q
theorem t_cmp {ops : List COp} (q : wpE C e ρ σ (fun x σ₁ => wpC C ops es x ρ σ₁ K X) X) : wpT C (.cmp e ops es) w ρ σ K X := by rw [wpT]; exact q
theorem t_call {f : Nat} (q : w (fun v σ₁ => truthK σ₁ v fun b => K b σ₁) X) : wpT C (.call f es) w ρ σ K X := by simp only [wpT]; exact q
theorem t_prim {p : Pr} (q : w (fun v σ₁ => truthK σ₁ v fun b => K b σ₁) X) : wpT C (.prim p es) w ρ σ K X := by simp only [wpT]; exact q
theorem ts_nil (q : K true σ) : wpTs C [] ρ σ K X := by rw [wpTs]; exact q
theorem ts_cons (q : wpT C e (wpE C e ρ σ) ρ σ (fun b σ₁ => if b = true then wpTs C es ρ σ₁ K X else K false σ₁) X) : wpTs C (e :: es) ρ σ K X := by rw [wpTs]; exact q
theorem to_nil (q : K false σ) : wpTo C [] ρ σ K X := by rw [wpTo]; exact q
theorem to_cons (q : wpT C e (wpE C e ρ σ) ρ σ (fun b σ₁ => if b = true then K true σ₁ else wpTo C es ρ σ₁ K X) X) : wpTo C (e :: es) ρ σ K X := by rw [wpTo]; exact q
end

section
variable {σ : Store} {K : Bool → Prop} {x y : Int} {n : Nat}
theorem tr_bool {b : Bool} (q : K b) : truthK σ (.bool b) K := q
theorem cm_lt (q : K (decide (x < y))) : cmpK σ .lt (.int x) (.int y) K := q
theorem cm_gt (q : K (decide (x > y))) : cmpK σ .gt (.int x) (.int y) K := q
theorem cm_eq (q : K (decide (x = y))) : cmpK σ .eq (.int x) (.int y) K := q
theorem cm_ne (q : K (!decide (x = y))) : cmpK σ .ne (.int x) (.int y) K := q
theorem cm_eqV {a b : V} {r : Bool} (h : eqV σ a b = some r) (q : K r) : cmpK σ .eq a b K := by unfold cmpK cmpV; rw [h]; exact q
theorem cm_neV {a b : V} {r : Bool} (h : eqV σ a b = some r) (q : K (!r)) : cmpK σ .ne a b K := by unfold cmpK cmpV; rw [h]; exact q
variable {R : List V → Prop} {ρ : List V}
theorem bd_var {i : Nat} {v : V} (q : R (ρ.set i v)) : bindK σ (.var i) v ρ R := q
variable {Q : V → Store → Prop}
theorem r_add (q : Q (.int (x + y)) σ) : (binV .add (.int x) (.int y) σ).to Q := q
theorem r_sub (q : Q (.int (x - y)) σ) : (binV .sub (.int x) (.int y) σ).to Q := q
theorem r_mul (h : (-1000000000000000 ≤ x ∧ x ≤ 1000000000000000) ∨ (-1000000000000000 ≤ y ∧ y ≤ 1000000000000000)) (q : Q (.int (x * y)) σ) : (binV .mul (.int x) (.int y) σ).to Q := by
  have : (small x || small y) = true := by
    unfold small
    simp only [Bool.or_eq_true, Bool.and_eq_true, decide_eq_true_eq]
    omega
  simp only [binV, binI, two?, this, if_true]; exact q
theorem r_mod (h : 0 < y) (q : Q (.int (x % y)) σ) : (binV .mod (.int x) (.int y) σ).to Q := by
  have : (y != 0) = true := by simp; omega
  simp only [binV, binI, two?, this, if_true, Int.fmod_eq_emod_of_nonneg x (Int.le_of_lt h)]; exact q
theorem r_div (h : 0 < y ∧ y ≤ 1000000000000000) (q : Q (.int (x / y)) σ) : (binV .floordiv (.int x) (.int y) σ).to Q := by
  have : (y != 0 && small y) = true := by
    unfold small
    simp only [Bool.and_eq_true, decide_eq_true_eq, bne_iff_ne]
    omega
  simp only [binV, binI, two?, this, if_true, Int.fdiv_eq_ediv_of_nonneg x (Int.le_of_lt h.1)]; exact q
theorem r_pow6 (q : Q (.int 1000000) σ) : (binV .pow (.int 10) (.int 6) σ).to Q := q
theorem r_subT {vs : List V} {k : Int} {v : V} (h : 0 ≤ k ∧ k < 1000000) (h' : vs[k.toNat]? = some v) (q : Q v σ) : (subV (.tup vs) (.int k) σ).to Q := by
  have : small k = true := by unfold small; simp only [Bool.and_eq_true, decide_eq_true_eq]; omega
  have hl := (List.getElem?_eq_some_iff.mp h').1
  have hi : idx k vs.length = some k.toNat := by unfold idx; rw [if_pos (by omega)]
  simp only [subV, this, if_true, hi, Option.bind_some, h', Res.ofOpt_some]; exact q
theorem r_subL {vs : List V} {k : Int} {v : V} (e : σ[n]? = some (.list vs)) (h : 0 ≤ k) (h' : vs[k.toNat]? = some v) (q : Q v σ) : (subV (.ref n) (.int k) σ).to Q := by
  have hl := (List.getElem?_eq_some_iff.mp h').1
  have hi : idx k vs.length = some k.toNat := by unfold idx; rw [if_pos (by omega)]
  simp only [subV, e, hi, Option.bind_some, h', Res.ofOpt_some]; exact q
theorem r_len {vs : List V} (e : σ[n]? = some (.list vs)) (q : Q (.int vs.length) σ) : (primV .len [.ref n] σ).to Q := by simp only [primV, prim1, lenV, listV, appV, typeIs, e]; exact q
theorem r_isB {b : Bool} (q : Q (.bool true) σ) : (primV (.isinst .bool) [.bool b] σ).to Q := q
theorem r_isI (q : Q (.bool true) σ) : (primV (.isinst .int) [.int x] σ).to Q := q
theorem r_isIB (q : Q (.bool false) σ) : (primV (.isinst .bool) [.int x] σ).to Q := q
theorem r_isT {vs : List V} (q : Q (.bool true) σ) : (primV (.isinst .tuple) [.tup vs] σ).to Q := q
theorem r_isL {vs : List V} (e : σ[n]? = some (.list vs)) (q : Q (.bool true) σ) : (primV (.isinst .list) [.ref n] σ).to Q := by simp only [primV, prim1, lenV, listV, appV, typeIs, typeIs, e]; exact q
theorem r_list {vs : List V} (e : σ[n]? = some (.list vs)) (q : Q (.ref σ.length) (σ ++ [.list vs])) : (primV .list [.ref n] σ).to Q := by simp only [primV, prim1, lenV, listV, appV, typeIs, e]; exact q
theorem r_append {vs : List V} {v : V} (e : σ[n]? = some (.list vs)) (hn : n ≠ 0) (hz : vs.length < 1000000) (q : Q .none (σ.set n (.list (vs ++ [v])))) : (appV σ (.ref n) v).to Q := by
  simp only [primV, prim1, lenV, listV, appV, typeIs, e, if_pos (show vs.length < maxLen ∧ n ≠ 0 from ⟨hz, hn⟩)]; exact q
theorem isList_i {vs : List V} (e : σ[n]? = some (.list vs)) : isList σ (.ref n) := ⟨n, vs, rfl, e⟩

variable {A B : Prop}
theorem ite_t (a : A) : ite (true = true) A B := by rw [if_pos rfl]; exact a
theorem ite_f (b : B) : ite (false = true) A B := by rw [if_neg (by decide)]; exact b
theorem ite_nt (b : B) : ite ((!true) = true) A B := by rw [if_neg (by decide)]; exact b
theorem ite_nf (a : A) : ite ((!false) = true) A B := by rw [if_pos (by decide)]; exact a
theorem ite_d {c : Prop} [Decidable c] (a : c → A) (b : ¬ c → B) : ite (decide c = true) A B := by
  by_cases h : c
  · rw [if_pos (by simpa using h)]; exact a h
  · rw [if_neg (by simpa using h)]; exact b h
theorem ite_nd {c : Prop} [Decidable c] (a : ¬ c → A) (b : c → B) : ite ((!decide c) = true) A B := by
  by_cases h : c
  · rw [if_neg (by simpa using h)]; exact b h
  · rw [if_pos (by simpa using h)]; exact a h
theorem ite_b {b : Bool} (a : b = true → A) (b' : b = false → B) : ite (b = true) A B := by
  cases b
  · exact b' rfl
  · exact a rfl
end

/-- the first n statements up to I, the others from it -/
theorem s_cut {C : Oracle} (n : Nat) (I : List V → Store → Prop) {l : List S} {ρ : List V} {σ : Store} {Q : Post}
    (h : ∀ K : Post, (∀ ρ' σ', I ρ' σ' → K .next ρ' σ') → (∀ fl ρ' σ', fl ≠ .next → Q fl ρ' σ' → K fl ρ' σ') → wpSs C (l.take n) ρ σ K)
    (rest : ∀ ρ' σ', I ρ' σ' → wpSs C (l.drop n) ρ' σ' Q) : wpSs C l ρ σ Q := by
  have key : ∀ (n : Nat) (l : List S) (ρ : List V) (σ : Store), wpSs C (l.take n) ρ σ (fun fl ρ' σ' => match fl with | .next => wpSs C (l.drop n) ρ' σ' Q | fl => Q fl ρ' σ') = wpSs C l ρ σ Q := by
    intro n
    induction n with
    | zero => intro l ρ σ; simp only [List.take_zero, List.drop_zero, wpSs]
    | succ n ih =>
      intro l ρ σ
      cases l with
      | nil => simp only [List.take_nil, List.drop_nil, wpSs]
      | cons s ss =>
        simp only [List.take_succ_cons, List.drop_succ_cons]
        rw [wpSs, wpSs]
        refine congrArg _ (funext fun fl => funext fun ρ₁ => funext fun σ₁ => ?_)
        cases fl <;> first | rfl | exact ih ss ρ₁ σ₁
  rw [← key n l ρ σ]
  refine h _ (fun ρ' σ' i => rest ρ' σ' i) fun fl ρ' σ' hf q => ?_
  cases fl <;> first | exact absurd rfl hf | exact q

noncomputable def cellAt (xs : List Int) (k : Int) : Int := xs.getD k.toNat 0

end Mine

/-! KWpL -/
namespace Mine
open PySem

section
variable {turn : V → List V → Store → Post → Prop} {same : Store → Prop} {Q : Post}

noncomputable def loopK (turn : V → List V → Store → Post → Prop) (same : Store → Prop) (vs : List V) (Q : Post) : Post := fun fl ρ' σ' => match fl with
    | .next => same σ' ∧ forW turn same vs ρ' σ' Q
    | .cont => same σ' ∧ forW turn same vs ρ' σ' Q
    | .brk => Q .next ρ' σ'
    | .ret x => Q (.ret x) ρ' σ'
    | .exc c => Q (.exc c) ρ' σ'
theorem fw_nil {ρ : List V} {σ : Store} (q : Q .next ρ σ) : forW turn same [] ρ σ Q := by rw [forW]; exact q
theorem fw_cons {v : V} {vs : List V} {ρ : List V} {σ : Store} (q : turn v ρ σ (loopK turn same vs Q)) : forW turn same (v :: vs) ρ σ Q := by rw [forW]; exact q
theorem lk_next {vs : List V} {ρ : List V} {σ : Store} (s : same σ) (q : forW turn same vs ρ σ Q) : loopK turn same vs Q .next ρ σ := ⟨s, q⟩
theorem lk_ret {vs : List V} {v : V} {ρ : List V} {σ : Store} (q : Q (.ret v) ρ σ) : loopK turn same vs Q (.ret v) ρ σ := q

/-- a loop with an invariant -/
theorem forW_inv (I : Nat → List V → Store → Prop) : ∀ (items : List V) (k : Nat) (ρ : List V) (σ : Store),
    (∀ i v ρ σ (K : Post), items[i]? = some v → I (k + i) ρ σ → (∀ ρ' σ', same σ' → I (k + i + 1) ρ' σ' → K .next ρ' σ') → (∀ ρ' σ', same σ' → I (k + i + 1) ρ' σ' → K .cont ρ' σ') → (∀ ρ' σ', Q .next ρ' σ' → K .brk ρ' σ') →
      (∀ v ρ' σ', Q (.ret v) ρ' σ' → K (.ret v) ρ' σ') → (∀ c ρ' σ', Q (.exc c) ρ' σ' → K (.exc c) ρ' σ') → turn v ρ σ K) →
    (∀ ρ σ, I (k + items.length) ρ σ → Q .next ρ σ) → I k ρ σ → forW turn same items ρ σ Q
  | [], k, ρ, σ, _, fin, h0 => by rw [forW]; exact fin ρ σ h0
  | v :: vs, k, ρ, σ, step, fin, h0 => by
    rw [forW]
    refine step 0 v ρ σ _ rfl h0 (fun ρ' σ' s i => ?_) (fun ρ' σ' s i => ?_) (fun ρ' σ' q => q) (fun v ρ' σ' q => q) fun c ρ' σ' q => q
    · refine ⟨s, forW_inv I vs (k + 1) ρ' σ' (fun j v ρ σ K hv hI h1 h2 h3 h4 h5 => ?_) (fun ρ σ h => fin ρ σ ?_) i⟩
      · have e : k + 1 + j = k + (j + 1) := by omega
        rw [e] at hI h1 h2
        exact step (j + 1) v ρ σ K (by simpa using hv) hI h1 h2 h3 h4 h5
      · rw [List.length_cons]; rw [show k + (vs.length + 1) = k + 1 + vs.length by omega]; exact h
    · refine ⟨s, forW_inv I vs (k + 1) ρ' σ' (fun j v ρ σ K hv hI h1 h2 h3 h4 h5 => ?_) (fun ρ σ h => fin ρ σ ?_) i⟩
      · have e : k + 1 + j = k + (j + 1) := by omega
        rw [e] at hI h1 h2
        exact step (j + 1) v ρ σ K (by simpa using hv) hI h1 h2 h3 h4 h5
      · rw [List.length_cons]; rw [show k + (vs.length + 1) = k + 1 + vs.length by omega]; exact h

variable {ρ : List V} {σ : Store}
theorem f_range {b : Int} (I : Nat → List V → Store → Prop) (hb : -1000000 ≤ b ∧ b ≤ 1000000) (h0 : I 0 ρ σ)
    (step : ∀ (i : Nat) ρ σ (K : Post), (i : Int) < b → I i ρ σ → (∀ ρ' σ', I (i + 1) ρ' σ' → K .next ρ' σ') → (∀ ρ' σ', I (i + 1) ρ' σ' → K .cont ρ' σ') → (∀ ρ' σ', Q .next ρ' σ' → K .brk ρ' σ') → (∀ v ρ' σ', Q (.ret v) ρ' σ' → K (.ret v) ρ' σ') → (∀ c ρ' σ', Q (.exc c) ρ' σ' → K (.exc c) ρ' σ') → turn (.int i) ρ σ K)
    (fin : ∀ ρ σ, I b.toNat ρ σ → Q .next ρ σ) : ∃ items, srcItems .range [.int b] σ = some items ∧ forW turn (srcSame .range [.int b] σ) items ρ σ Q := by
  refine ⟨rangeL 0 b.toNat, ?_, forW_inv I _ 0 ρ σ (fun i v ρ σ K hv hI h1 h2 h3 h4 h5 => ?_) (fun ρ σ h => fin ρ σ ?_) h0⟩
  · simp only [srcItems, rangeItems]; rw [if_pos]; refine ⟨by omega, by unfold maxLen; omega⟩
  · obtain ⟨rfl, hi⟩ := rangeL_at _ _ _ _ hv
    rw [show (0 : Int) + i = i by omega]
    rw [show 0 + i = i by omega] at hI h1 h2
    exact step i ρ σ K (by omega) hI (fun ρ' σ' h => h1 ρ' σ' trivial h) (fun ρ' σ' h => h2 ρ' σ' trivial h) h3 h4 h5
  · rw [rangeL_len] at h; simpa using h
end

section
variable {turn : V → Store → (Option V → Store → Prop) → Prop} {same : Store → Prop} {Q : List V → Store → Prop}
/-- a comprehension with an invariant -/
theorem compW_inv (I : Nat → List V → Store → Prop) : ∀ (items : List V) (k : Nat) (acc : List V) (σ : Store),
    (∀ i v acc σ (K : Option V → Store → Prop), items[i]? = some v → I (k + i) acc σ → (∀ r σ', same σ' → I (k + i + 1) (acc ++ r.toList) σ' → K r σ') → turn v σ K) →
    (∀ acc σ, I (k + items.length) acc σ → Q acc σ) → I k acc σ → compW turn same items acc σ Q
  | [], k, acc, σ, _, fin, h0 => by rw [compW]; exact fin acc σ h0
  | v :: vs, k, acc, σ, step, fin, h0 => by
    rw [compW]
    refine step 0 v acc σ _ rfl h0 fun r σ' s i => ⟨s, compW_inv I vs (k + 1) _ σ' (fun j v acc σ K hv hI h1 => ?_) (fun acc σ h => fin acc σ ?_) i⟩
    · have e : k + 1 + j = k + (j + 1) := by omega
      rw [e] at hI h1
      exact step (j + 1) v acc σ K (by simpa using hv) hI h1
    · rw [List.length_cons]; rw [show k + (vs.length + 1) = k + 1 + vs.length by omega]; exact h

end

theorem toD_ref {σ : Store} {n m : Nat} {vs : List V} (e : σ[n]? = some (.list vs)) : toD σ (m + 1) (.ref n) = (mapO (toD σ m) vs).map PyData.list := by rw [toD]; simp only [e]
theorem get_app {σ τ : Store} {n : Nat} {o : O} (h : σ[n]? = some o) : (σ ++ τ)[n]? = some o := by
  rw [List.getElem?_append_left (List.getElem?_eq_some_iff.mp h).1]; exact h
theorem get_last {σ : Store} {o : O} : (σ ++ [o])[σ.length]? = some o := by simp
theorem get_set_ne {σ : Store} {n m : Nat} {o x : O} (hn : n ≠ m) (h : σ[m]? = some o) : (σ.set n x)[m]? = some o := by
  rw [List.getElem?_set_ne hn]; exact h
theorem get_set_eq {σ : Store} {n : Nat} {o x : O} (h : σ[n]? = some o) : (σ.set n x)[n]? = some x := by
  rw [List.getElem?_set_self (List.getElem?_eq_some_iff.mp h).1]
theorem toD_map {α : Type} {σ : Store} {n m : Nat} {l : List α} {g : α → V} {dat : α → PyData} (e : σ[n]? = some (.list (l.map g))) (h : ∀ x ∈ l, toD σ m (g x) = some (dat x)) : toD σ (m + 1) (.ref n) = some (.list (l.map dat)) := by
  have key : ∀ l : List α, (∀ x ∈ l, toD σ m (g x) = some (dat x)) → mapO (toD σ m) (l.map g) = some (l.map dat) := by
    intro l
    induction l with
    | nil => intro _; rfl
    | cons r rs ih => intro h; rw [List.map_cons, mapO, ih fun x hx => h x (List.mem_cons_of_mem _ hx), h r List.mem_cons_self]; rfl
  rw [toD_ref e, key l h]; rfl
theorem can_map {α : Type} {l : List α} {dat : α → PyData} (h : ∀ x ∈ l, (dat x).canLay0 = true) : (PyData.list (l.map dat)).canLay0 = true := by
  have key : ∀ l : List α, (∀ x ∈ l, (dat x).canLay0 = true) → PyData.canLayAll0 (l.map dat) = true := by
    intro l
    induction l with
    | nil => intro _; rfl
    | cons r rs ih => intro h; rw [List.map_cons, PyData.canLayAll0, ih fun x hx => h x (List.mem_cons_of_mem _ hx), h r List.mem_cons_self]; rfl
  simp only [PyData.canLay0, key l h]
end Mine

/-! KWpE -/
namespace Mine
open PySem
/-! data that equals itself -/
theorem eqV_self {σ : Store} {a b : V} {x : PyData} (ha : toD σ 6 a = some x) (hb : toD σ 6 b = some x) (hc : x.canLay0 = true) : eqV σ a b = some true := by
  unfold eqV
  rw [ha, hb]
  simp only [hc, Bool.and_self, if_true]
  rw [PySem.SeqAt.eqv_refl x hc]
end Mine

/-! KSort -/
namespace Mine
open PySem PySem.W PyProof.Rows

/-- a tree of questions, answered by lt; all of them below n -/
noncomputable def Tr (lt : Nat → Nat → Bool) (n : Nat) {α : Type} : KasT α → (α → Prop) → Prop
  | .ret a, Q => Q a
  | .ask i j k, Q => i < n ∧ j < n ∧ Tr lt n (k (lt i j)) Q
theorem Tr.bind {lt : Nat → Nat → Bool} {n : Nat} {α β : Type} {f : α → KasT β} {Q : β → Prop} : ∀ {t : KasT α}, Tr lt n t (fun a => Tr lt n (f a) Q) → Tr lt n (t.bind f) Q
  | .ret a, h => h
  | .ask i j k, h => ⟨h.1, h.2.1, Tr.bind (t := k (lt i j)) h.2.2⟩
theorem Tr.mono {lt : Nat → Nat → Bool} {n : Nat} {α : Type} {Q Q' : α → Prop} (hq : ∀ a, Q a → Q' a) : ∀ {t : KasT α}, Tr lt n t Q → Tr lt n t Q'
  | .ret a, h => hq a h
  | .ask i j k, h => ⟨h.1, h.2.1, Tr.mono (t := k (lt i j)) hq h.2.2⟩

/-- a weak order, strict -/
structure Weak (lt : Nat → Nat → Bool) : Prop where
  irr : ∀ i, lt i i = false
  asy : ∀ i j, lt i j = true → lt j i = false
  neg : ∀ i j k, lt i k = true → lt i j = true ∨ lt j k = true

variable {lt : Nat → Nat → Bool}
theorem Weak.tr (W : Weak lt) {i j k : Nat} (h1 : lt i j = true) (h2 : lt j k = true) : lt i k = true := by
  rcases W.neg i k j h1 with h | h
  · exact h
  · rw [W.asy _ _ h2] at h; cases h
/-- ahead, what is alike by its place -/
noncomputable def Bf (lt : Nat → Nat → Bool) (i j : Nat) : Prop := lt i j = true ∨ (lt j i = false ∧ i < j)
theorem Bf.no (W : Weak lt) {i j : Nat} (h : Bf lt i j) : lt j i = false := h.elim (fun h => W.asy _ _ h) fun h => h.1
theorem Bf.trans (W : Weak lt) {i j k : Nat} (h1 : Bf lt i j) (h2 : Bf lt j k) : Bf lt i k := by
  rcases h1 with a | ⟨a, b⟩
  · rcases W.neg i k j a with h | h
    · exact .inl h
    · rw [h2.no W] at h; cases h
  · rcases h2 with c | ⟨c, e⟩
    · rcases W.neg j i k c with h | h
      · rw [a] at h; cases h
      · exact .inl h
    · cases hk : lt k i with
      | false => exact .inr ⟨hk, by omega⟩
      | true =>
        rcases W.neg k j i hk with h | h
        · rw [c] at h; cases h
        · rw [a] at h; cases h

noncomputable def at' (p : Array Nat) (k : Nat) : Nat := p.getD k 0
theorem sat_eq (p : Array Nat) (k : Nat) : at' p k = (p[k]?).getD 0 := by unfold at'; rw [Array.getD_eq_getD_getElem?]

/-- the places from m on stand as they stood -/
structure Fix (n : Nat) (p : Array Nat) (m : Nat) : Prop where
  size : p.size = n
  perm : p.Perm (List.toArray (List.range n))
  le : m ≤ n
  rest : ∀ k, m ≤ k → k < n → at' p k = k
  low : ∀ k, k < m → at' p k < m
theorem Fix.inb {n m : Nat} {p : Array Nat} (F : Fix n p m) {k : Nat} (h : k < n) : at' p k < n := by
  by_cases hk : k < m
  · exact Nat.lt_of_lt_of_le (F.low k hk) F.le
  · rw [F.rest k (by omega) h]; exact h
theorem Fix.up {n m m' : Nat} {p : Array Nat} (F : Fix n p m) (h : m ≤ m') (h' : m' ≤ n) : Fix n p m' where
  size := F.size
  perm := F.perm
  le := h'
  rest := fun k a b => F.rest k (by omega) b
  low := fun k a => by
    by_cases hk : k < m
    · have := F.low k hk; omega
    · rw [F.rest k (by omega) (by omega)]; exact a

theorem at_rev {p : Array Nat} {i j k : Nat} (hj : j ≤ p.size) (hij : i ≤ j) : at' (kas_rev p i j) k = if i ≤ k ∧ k < j then at' p (i + j - 1 - k) else at' p k := by
  unfold kas_rev
  rw [sat_eq, getElem?_mirror hj _ (by omega)]
  by_cases h : i ≤ k ∧ k < j
  · rw [if_pos h]
    by_cases h2 : (i ≤ k ∧ k < i + (j - i) / 2) ∨ (j - (j - i) / 2 ≤ k ∧ k < j)
    · rw [if_pos h2, sat_eq]
    · rw [if_neg h2, sat_eq]
      have : k = i + j - 1 - k := by omega
      rw [← this]
  · rw [if_neg h, if_neg (by omega), sat_eq]
theorem Fix.rev {n m i j : Nat} {p : Array Nat} (F : Fix n p m) (hij : i ≤ j) (hj : j ≤ m) : Fix n (kas_rev p i j) m where
  size := by unfold kas_rev; rw [mirror_size]; exact F.size
  perm := (mirror_perm _ _ _ _).trans F.perm
  le := F.le
  rest := fun k a b => by
    rw [at_rev (by rw [F.size]; have := F.le; omega) hij, if_neg (by omega)]; exact F.rest k a b
  low := fun k a => by
    rw [at_rev (by rw [F.size]; have := F.le; omega) hij]
    split
    · exact F.low _ (by omega)
    · exact F.low _ a

noncomputable def Srt (lt : Nat → Nat → Bool) (p : Array Nat) (m : Nat) : Prop := ∀ i j, i < j → j < m → Bf lt (at' p i) (at' p j)
noncomputable def Dsc (lt : Nat → Nat → Bool) (p : Array Nat) (m : Nat) : Prop := ∀ i j, i < j → j < m → Bf lt (at' p j) (at' p i)

theorem Srt.chain (W : Weak lt) {p : Array Nat} {a : Nat} (h : Srt lt p a) : ∀ {m : Nat}, a ≤ m → (∀ k, a ≤ k → 1 ≤ k → k < m → Bf lt (at' p (k - 1)) (at' p k)) → Srt lt p m
  | 0, hm, _ => fun i j hij hj => by omega
  | m + 1, hm, hc => by
    by_cases ha : a = m + 1
    · rw [← ha]; exact h
    have ih : Srt lt p m := Srt.chain W h (by omega) fun k a b c => hc k a b (by omega)
    intro i j hij hj
    by_cases hjm : j < m
    · exact ih i j hij hjm
    · have : j = m := by omega
      subst this
      have h1 := hc j (by omega) (by omega) (by omega)
      by_cases hi : i = j - 1
      · rw [hi]; exact h1
      · exact (ih i (j - 1) (by omega) (by omega)).trans W h1
theorem Dsc.rev {n m : Nat} {p : Array Nat} (F : Fix n p m) (h : Dsc lt p m) : Srt lt (kas_rev p 0 m) m := fun i j hij hj => by
  have hz : m ≤ p.size := by rw [F.size]; exact F.le
  rw [at_rev hz (Nat.zero_le _), at_rev hz (Nat.zero_le _), if_pos (by omega), if_pos (by omega)]
  exact h _ _ (by omega) (by omega)

theorem sasc_ok {n : Nat} {p : Array Nat} : ∀ (f a : Nat) {Q : Nat → Prop}, 1 ≤ a → a + f ≤ n → (∀ k, k < n → at' p k < n) →
    (∀ m, a ≤ m → m ≤ a + f → (∀ k, a ≤ k → k < m → lt (at' p k) (at' p (k - 1)) = false) → (m < a + f → lt (at' p m) (at' p (m - 1)) = true) → Q m) → Tr lt n (kas_asc p f a) Q
  | 0, a, Q, _, _, _, hQ => by
    rw [kas_asc]
    exact hQ a (Nat.le_refl _) (by omega) (fun k h1 h2 => by omega) fun h => by omega
  | f + 1, a, Q, h1, h2, hp, hQ => by
    rw [kas_asc]
    refine ⟨hp a (by omega), hp (a - 1) (by omega), ?_⟩
    show Tr lt n (if lt (at' p a) (at' p (a - 1)) = true then _ else _) Q
    split
    · rename_i hc
      exact hQ a (Nat.le_refl _) (by omega) (fun k h1 h2 => by omega) fun _ => hc
    · rename_i hc
      refine sasc_ok f (a + 1) (by omega) (by omega) hp fun m m1 m2 m3 m4 => hQ m (by omega) (by omega) (fun k k1 k2 => ?_) fun h => m4 (by omega)
      by_cases hk : k = a
      · rw [hk]; simpa using hc
      · exact m3 k (by omega) k2

theorem tail3_ok {n m : Nat} {p : Array Nat} {Q : Nat × Array Nat → Prop} (W : Weak lt) (F : Fix n p m) (h1 : 1 ≤ m) (h : Dsc lt p m) (hQ : ∀ r, 1 ≤ r.1 → Fix n r.2 r.1 → Srt lt r.2 r.1 → Q r) : Tr lt n (kas_tail3 m n p) Q := by
  unfold kas_tail3
  have F' := F.rev (Nat.zero_le m) (Nat.le_refl m)
  have S := h.rev F
  have hle := F.le
  refine Tr.bind (sasc_ok (n - m) m h1 (by omega) (fun k hk => F'.inb hk) fun r r1 r2 r3 r4 => ?_)
  have Fr := F'.up r1 (by omega)
  refine hQ (r, kas_rev p 0 m) (by show 1 ≤ r; omega) Fr (S.chain W r1 fun k k1 k2 k3 => ?_)
  have e : at' (kas_rev p 0 m) k = k := F'.rest k k1 (by omega)
  refine .inr ⟨r3 k k1 k3, ?_⟩
  rw [e]
  by_cases hk : k - 1 < m
  · have := F'.low (k - 1) hk; omega
  · rw [F'.rest (k - 1) (by omega) (by omega)]; omega

/-- a run down, its last ones alike and still in their order -/
structure Run (lt : Nat → Nat → Bool) (n : Nat) (p : Array Nat) (m q : Nat) : Prop where
  fix : Fix n p m
  le : q + 1 ≤ m
  dsc : Dsc lt p (m - (q + 1))
  strict : ∀ i j, i < m - (q + 1) → m - (q + 1) ≤ j → j < m → lt (at' p j) (at' p i) = true
  alike : ∀ i j, m - (q + 1) ≤ i → i < j → j < m → lt (at' p i) (at' p j) = false ∧ lt (at' p j) (at' p i) = false ∧ at' p i < at' p j

theorem Run.dscRev {n m q : Nat} {p : Array Nat} (R : Run lt n p m q) : Dsc lt (kas_rev p (m - (q + 1)) m) m := fun i j hij hj => by
  have hz : m ≤ p.size := by rw [R.fix.size]; exact R.fix.le
  have hg := R.le
  rw [at_rev hz (by omega), at_rev hz (by omega)]
  by_cases hi : m - (q + 1) ≤ i
  · rw [if_pos (by omega), if_pos (by omega)]
    obtain ⟨a1, a2, a3⟩ := R.alike (m - (q + 1) + m - 1 - j) (m - (q + 1) + m - 1 - i) (by omega) (by omega) (by omega)
    exact .inr ⟨a2, a3⟩
  · rw [if_neg (c := m - (q + 1) ≤ i ∧ i < m) (by omega)]
    split
    · exact .inl (R.strict i _ (by omega) (by omega) (by omega))
    · exact R.dsc i j hij (by omega)
/-- nothing to turn round -/
theorem rev_one {p : Array Nat} {m : Nat} : kas_rev p (m - (0 + 1)) m = p := by
  unfold kas_rev
  rw [show (m - (m - (0 + 1))) / 2 = 0 by omega]
  rfl
/-- the next one is below all -/
theorem Run.below {n m q : Nat} {p : Array Nat} (W : Weak lt) (R : Run lt n p m q) {x : Nat} (h : lt x (at' p (m - 1)) = true) : ∀ i, i < m → lt x (at' p i) = true := fun i hi => by
  have hg := R.le
  by_cases hgi : m - (q + 1) ≤ i
  · by_cases e : i = m - 1
    · rw [e]; exact h
    · obtain ⟨a1, a2, _⟩ := R.alike i (m - 1) hgi (by omega) (by omega)
      rcases W.neg x (at' p i) (at' p (m - 1)) h with h' | h'
      · exact h'
      · rw [a1] at h'; cases h'
  · exact W.tr h (R.strict i (m - 1) (by omega) (by omega) (by omega))
theorem Run.next {n m q : Nat} {p : Array Nat} (W : Weak lt) (R : Run lt n p m q) (hm : m < n) (h : lt (at' p m) (at' p (m - 1)) = true) : Run lt n (kas_rev p (m - (q + 1)) m) (m + 1) 0 := by
  have hg := R.le
  have hz : m ≤ p.size := by rw [R.fix.size]; exact R.fix.le
  have F := R.fix.rev (i := m - (q + 1)) (j := m) (by omega) (Nat.le_refl _)
  refine ⟨F.up (Nat.le_succ _) hm, by omega, ?_, fun i j hi hj hj' => ?_, fun i j a b c => by omega⟩
  · rw [show m + 1 - (0 + 1) = m by omega]; exact R.dscRev
  · have : j = m := by omega
    subst this
    have e1 : at' (kas_rev p (j - (q + 1)) j) j = at' p j := by rw [F.rest j (Nat.le_refl _) hm, R.fix.rest j (Nat.le_refl _) hm]
    rw [e1, at_rev hz (by omega)]
    split
    · exact R.below W h _ (by omega)
    · exact R.below W h _ (by omega)
theorem Run.same {n m q : Nat} {p : Array Nat} (W : Weak lt) (R : Run lt n p m q) (hm : m < n) (h1 : lt (at' p m) (at' p (m - 1)) = false) (h2 : lt (at' p (m - 1)) (at' p m) = false) : Run lt n p (m + 1) (q + 1) := by
  have hg := R.le
  have e := R.fix.rest m (Nat.le_refl _) hm
  have eg : m + 1 - (q + 1 + 1) = m - (q + 1) := by omega
  have al : ∀ i, m - (q + 1) ≤ i → i < m → lt (at' p i) (at' p m) = false ∧ lt (at' p m) (at' p i) = false := fun i a b => by
    by_cases hi : i = m - 1
    · rw [hi]; exact ⟨h2, h1⟩
    · obtain ⟨a1, a2, _⟩ := R.alike i (m - 1) a (by omega) (by omega)
      constructor
      · cases hc : lt (at' p i) (at' p m) with
        | false => rfl
        | true => rcases W.neg _ (at' p (m - 1)) _ hc with h | h
                  · rw [a1] at h; cases h
                  · rw [h2] at h; cases h
      · cases hc : lt (at' p m) (at' p i) with
        | false => rfl
        | true => rcases W.neg _ (at' p (m - 1)) _ hc with h | h
                  · rw [h1] at h; cases h
                  · rw [a2] at h; cases h
  refine ⟨R.fix.up (Nat.le_succ _) hm, by omega, ?_, fun i j hi hj hj' => ?_, fun i j a b c => ?_⟩
  · rw [eg]; exact R.dsc
  · rw [eg] at hi hj
    by_cases hjm : j < m
    · exact R.strict i j hi hj hjm
    · have : j = m := by omega
      subst this
      have hs := R.strict i (j - 1) hi (by omega) (by omega)
      rcases W.neg _ (at' p j) _ hs with h | h
      · rw [h2] at h; cases h
      · exact h
  · rw [eg] at a
    by_cases hjm : j < m
    · exact R.alike i j a b hjm
    · have : j = m := by omega
      subst this
      refine ⟨(al i a b).1, (al i a b).2, ?_⟩
      rw [e]; exact R.fix.low i b

theorem sdesc_ok {n : Nat} (W : Weak lt) {Q : Array Nat × Nat × Nat → Prop} (hQ : ∀ r, Run lt n r.1 r.2.1 r.2.2 → Q r) : ∀ (f : Nat) (p : Array Nat) (m q : Nat), m + f ≤ n → Run lt n p m q → Tr lt n (kas_desc f p m q) Q
  | 0, p, m, q, _, R => by rw [kas_desc]; exact hQ _ R
  | f + 1, p, m, q, hf, R => by
    have hm : m < n := by omega
    have hg := R.le
    rw [kas_desc]
    refine ⟨R.fix.inb hm, R.fix.inb (by omega), ?_⟩
    show Tr lt n (if lt (at' p m) (at' p (m - 1)) = true then _ else _) Q
    split
    · rename_i hc
      split
      · exact sdesc_ok W hQ f _ (m + 1) 0 (by omega) (R.next W hm hc)
      · rename_i hq
        have : q = 0 := by omega
        subst this
        have := R.next W hm hc
        rw [rev_one] at this
        exact sdesc_ok W hQ f _ (m + 1) 0 (by omega) this
    · rename_i hc
      refine ⟨R.fix.inb (by omega), R.fix.inb hm, ?_⟩
      show Tr lt n (if lt (at' p (m - 1)) (at' p m) = true then _ else _) Q
      split
      · exact hQ _ R
      · rename_i hd
        exact sdesc_ok W hQ f _ (m + 1) (q + 1) (by omega) (R.same W hm (by simpa using hc) (by simpa using hd))

theorem descPart_ok {n m : Nat} {p : Array Nat} {Q : Nat × Array Nat → Prop} (W : Weak lt) (hm : m < n) (R : Run lt n p (m + 1) 0) (hQ : ∀ r, 1 ≤ r.1 → Fix n r.2 r.1 → Srt lt r.2 r.1 → Q r) : Tr lt n (kas_descPart m n p) Q := by
  unfold kas_descPart
  refine Tr.bind (sdesc_ok W (fun r R => ?_) (n - (m + 1)) p (m + 1) 0 (by omega) R)
  have hg := R.le
  split
  · exact tail3_ok W (R.fix.rev (by omega) (Nat.le_refl _)) (by omega) R.dscRev hQ
  · rename_i hq
    have e : r.2.2 = 0 := by omega
    have := R.dscRev
    rw [e, rev_one] at this
    exact tail3_ok W R.fix (by omega) this hQ

theorem fix_start {n : Nat} : Fix n (List.toArray (List.range n)) 0 where
  size := by simp
  perm := Array.Perm.refl _
  le := Nat.zero_le _
  rest := fun k _ h => by rw [sat_eq]; simp [h]
  low := fun k h => by omega

theorem scount_ok {n : Nat} {Q : Nat × Array Nat → Prop} (W : Weak lt) (h1 : 1 ≤ n) (hQ : ∀ r, 1 ≤ r.1 → Fix n r.2 r.1 → Srt lt r.2 r.1 → Q r) : Tr lt n (kas_count n (List.toArray (List.range n))) Q := by
  unfold kas_count
  have F : Fix n (List.toArray (List.range n)) 0 := fix_start
  have hat : ∀ k, k < n → at' (List.toArray (List.range n)) k = k := fun k h => F.rest k (Nat.zero_le _) h
  refine Tr.bind (sasc_ok (n - 1) 1 (Nat.le_refl _) (by omega) (fun k hk => F.inb hk) fun m m1 m2 m3 m4 => ?_)
  have hmn : m ≤ n := by omega
  have Fm := F.up (Nat.zero_le m) hmn
  have S : Srt lt (List.toArray (List.range n)) m := Srt.chain W (a := 1) (fun i j a b => by omega) m1 fun k k1 k2 k3 => by
    refine .inr ⟨m3 k k1 k3, ?_⟩
    rw [hat k (by omega), hat (k - 1) (by omega)]; omega
  split
  · exact hQ (m, _) m1 Fm S
  · rename_i hne
    have hlt : m < n := by
      have : m ≠ n := by simpa using hne
      omega
    have hst : lt m (m - 1) = true := by
      have := m4 (by omega)
      rw [hat m hlt, hat (m - 1) (by omega)] at this; exact this
    split
    · refine ⟨F.inb (by omega), F.inb (by omega), ?_⟩
      show Tr lt n (if lt (at' _ 0) (at' _ (m - 1)) = true then _ else _) Q
      rw [hat 0 (by omega), hat (m - 1) (by omega)]
      split
      · exact hQ (m, _) m1 Fm S
      · rename_i h0
        have h0' : lt 0 (m - 1) = false := by simpa using h0
        -- all of them alike
        have up : ∀ i j, i ≤ j → j < m → lt j i = false := fun i j a b => by
          by_cases e : i = j
          · rw [e]; exact W.irr j
          · have := (S i j (by omega) b).no W
            rw [hat i (by omega), hat j (by omega)] at this; exact this
        have al : ∀ i j, i < m → j < m → lt i j = false := fun i j a b => by
          cases hc : lt i j with
          | false => rfl
          | true =>
            rcases W.neg _ 0 _ hc with h | h
            · rw [up 0 i (Nat.zero_le _) a] at h; cases h
            · rcases W.neg _ (m - 1) _ h with h | h
              · rw [h0'] at h; cases h
              · rw [up j (m - 1) (by omega) (by omega)] at h; cases h
        have hz : m ≤ (List.toArray (List.range n)).size := by simpa using hmn
        have hr : ∀ k, k < m → at' (kas_rev (List.toArray (List.range n)) 0 m) k = m - 1 - k := fun k hk => by
          rw [at_rev hz (Nat.zero_le _), if_pos (by omega), hat _ (by omega)]; omega
        have Fr := Fm.rev (Nat.zero_le m) (Nat.le_refl m)
        refine descPart_ok W hlt ⟨Fr.up (Nat.le_succ _) hlt, by omega, fun i j a b => ?_, fun i j a b c => ?_, fun i j a b c => by omega⟩ hQ
        · rw [hr i (by omega), hr j (by omega)]
          exact .inr ⟨al _ _ (by omega) (by omega), by omega⟩
        · have : j = m := by omega
          subst this
          rw [Fr.rest j (Nat.le_refl _) hlt, hr i (by omega)]
          rcases W.neg _ (j - 1 - i) _ hst with h | h
          · exact h
          · rw [al _ _ (by omega) (by omega)] at h; cases h
    · have e : m = 1 := by omega
      subst e
      refine descPart_ok W hlt ⟨Fm.up (Nat.le_succ _) hlt, by omega, fun i j a b => by omega, fun i j a b c => ?_, fun i j a b c => by omega⟩ hQ
      have h1 : j = 1 := by omega
      have h2 : i = 0 := by omega
      subst h1 h2
      rw [hat 1 hlt, hat 0 (by omega)]; exact hst

theorem splace_ok {n k : Nat} {p : Array Nat} (W : Weak lt) (F : Fix n p k) (S : Srt lt p k) (hk : k < n) {Q : Nat → Prop} (hQ : ∀ l, l ≤ k → (∀ i, i < l → lt k (at' p i) = false) → (∀ i, l ≤ i → i < k → lt k (at' p i) = true) → Q l) :
    ∀ (f l r : Nat), l ≤ r → r ≤ k → r - l ≤ f → (∀ i, i < l → lt k (at' p i) = false) → (∀ i, r ≤ i → i < k → lt k (at' p i) = true) → Tr lt n (kas_place p k f l r) Q
  | 0, l, r, h1, h2, h3, a, b => by
    rw [kas_place]
    have : l = r := by omega
    exact hQ l (by omega) a (this ▸ b)
  | f + 1, l, r, h1, h2, h3, a, b => by
    rw [kas_place]
    split
    · have : l = r := by omega
      exact hQ l (by omega) a (this ▸ b)
    · refine ⟨F.inb hk, F.inb (by omega), ?_⟩
      show Tr lt n (if lt (at' p k) (at' p ((l + r) / 2)) = true then _ else _) Q
      rw [F.rest k (Nat.le_refl _) hk]
      have up : ∀ i j, i ≤ j → j < k → lt k (at' p i) = true → lt k (at' p j) = true := fun i j c e h => by
        by_cases hij : i = j
        · rw [← hij]; exact h
        · rcases W.neg _ (at' p j) _ h with h | h
          · exact h
          · rw [(S i j (by omega) e).no W] at h; cases h
      split
      · rename_i hc
        refine splace_ok W F S hk hQ f l _ (by omega) (by omega) (by omega) a fun i c e => up _ i c e hc
      · rename_i hc
        refine splace_ok W F S hk hQ f _ r (by omega) h2 (by omega) (fun i c => ?_) b
        cases hi : lt k (at' p i) with
        | false => rfl
        | true => exact absurd (up i ((l + r) / 2) (by omega) (by omega) hi) hc

theorem at_bubble {p : Array Nat} {k l i : Nat} (hk : k < p.size) (hl : l ≤ k) : at' (bubble p k (k - l)) i = if i = l then at' p k else if l < i ∧ i ≤ k then at' p (i - 1) else at' p i := by
  rw [sat_eq, getElem?_bubble hk _ (by omega)]
  rw [show k - (k - l) = l by omega]
  split
  · rw [sat_eq]
  · split <;> rw [sat_eq]

theorem sbin_ok {n : Nat} (W : Weak lt) {Q : Array Nat → Prop} (hQ : ∀ p, Fix n p n → Srt lt p n → Q p) : ∀ (f : Nat) (p : Array Nat) (k : Nat), k + f = n → Fix n p k → Srt lt p k → Tr lt n (kas_bin f p k) Q
  | 0, p, k, h, F, S => by
    rw [kas_bin]
    have : k = n := by omega
    subst this
    exact hQ p F S
  | f + 1, p, k, h, F, S => by
    rw [kas_bin]
    have hk : k < n := by omega
    refine Tr.bind (splace_ok W F S hk (fun l hl a b => ?_) k 0 k (Nat.zero_le _) (Nat.le_refl _) (by omega) (fun i hi => by omega) fun i hi hi' => by omega)
    have hz : k < p.size := by rw [F.size]; exact hk
    have hb := fun i => at_bubble (i := i) hz hl
    have ek := F.rest k (Nat.le_refl _) hk
    refine sbin_ok W hQ f _ (k + 1) (by omega) ⟨by rw [bubble_size]; exact F.size, (bubble_perm _ _ _).trans F.perm, hk, fun i c e => ?_, fun i c => ?_⟩ fun i j hij hj => ?_
    · rw [hb, if_neg (by omega), if_neg (by omega)]; exact F.rest i (by omega) e
    · rw [hb]
      split
      · rw [ek]; omega
      · split
        · have := F.low (i - 1) (by omega); omega
        · have := F.low i (by omega); omega
    · rw [hb i, hb j]
      by_cases hi : i = l
      · rw [if_pos hi, if_neg (by omega), if_pos (by omega), ek]
        exact .inl (b _ (by omega) (by omega))
      · rw [if_neg hi]
        by_cases hj' : j = l
        · rw [if_pos hj', if_neg (by omega), ek]
          exact .inr ⟨a i (by omega), F.low i (by omega)⟩
        · rw [if_neg hj']
          by_cases hil : l < i
          · rw [if_pos (by omega), if_pos (by omega)]
            exact S _ _ (by omega) (by omega)
          · rw [if_neg (by omega)]
            split
            · exact S _ _ (by omega) (by omega)
            · exact S _ _ (by omega) (by omega)

/-- the sort: what comes of it -/
theorem sort_ok {n : Nat} (W : Weak lt) (h : 1 ≤ n) : Tr lt n (kas_sort n) fun p => p.toList.Perm (List.range n) ∧ p.toList.Pairwise (Bf lt) := by
  have fin : ∀ p, Fix n p n → Srt lt p n → p.toList.Perm (List.range n) ∧ p.toList.Pairwise (Bf lt) := fun p F S => by
    refine ⟨by simpa using F.perm.toList, ?_⟩
    rw [List.pairwise_iff_getElem]
    intro i j hi hj hij
    have e : ∀ k (hk : k < p.toList.length), at' p k = p.toList[k] := fun k hk => by
      rw [sat_eq]
      have hk' : k < p.size := by simpa using hk
      simp [hk']
    rw [← e i hi, ← e j hj]
    exact S i j hij (by rw [← F.size]; simpa using hj)
  unfold kas_sort
  refine Tr.bind (scount_ok W h fun r r1 F S => ?_)
  have hle := F.le
  split
  · rename_i hr
    rw [show max r.1 1 = r.1 by omega]
    exact sbin_ok W fin _ _ _ (by omega) F S
  · have e : r.1 = n := by omega
    rw [e] at F S
    exact fin _ F S
end Mine

/-! KSorted -/
namespace Mine
open PySem PySem.Calls PyProof.Rows PySem.W
set_option maxRecDepth 100000

/-! the order of rows -/
theorem ltRow_irr : ∀ a : List Int, ltRow a a = false
  | [] => rfl
  | x :: a => by rw [ltRow, if_pos rfl]; exact ltRow_irr a
theorem ltRow_asy : ∀ a b : List Int, ltRow a b = true → ltRow b a = false
  | [], [], h => by cases h
  | [], _ :: _, _ => rfl
  | _ :: _, [], h => by cases h
  | x :: a, y :: b, h => by
    rw [ltRow] at h ⊢
    by_cases e : x = y
    · rw [if_pos e] at h; rw [if_pos e.symm]; exact ltRow_asy a b h
    · rw [if_neg e] at h; rw [if_neg (Ne.symm e)]
      simp only [decide_eq_true_eq] at h
      simp only [decide_eq_false_iff_not]; omega
theorem ltRow_neg : ∀ a b c : List Int, ltRow a c = true → ltRow a b = true ∨ ltRow b c = true
  | [], [], _, h => .inr h
  | [], _ :: _, _, _ => .inl rfl
  | _ :: _, _, [], h => by cases h
  | _ :: _, [], _ :: _, _ => .inr rfl
  | x :: a, y :: b, z :: c, h => by
    rw [ltRow] at h
    rw [ltRow, ltRow]
    by_cases e : x = z
    · rw [if_pos e] at h
      subst e
      by_cases e2 : x = y
      · subst e2
        rw [if_pos rfl, if_pos rfl]; exact ltRow_neg a b c h
      · rw [if_neg e2, if_neg (Ne.symm e2)]
        simp only [decide_eq_true_eq]; omega
    · rw [if_neg e] at h
      simp only [decide_eq_true_eq] at h
      by_cases e2 : x = y
      · subst e2
        right; rw [if_neg e]; simp only [decide_eq_true_eq]; omega
      · by_cases e3 : y = z
        · left; rw [if_neg e2]; simp only [decide_eq_true_eq]; omega
        · rw [if_neg e2, if_neg e3]; simp only [decide_eq_true_eq]; omega
noncomputable def ltAt (rs : List (List Int)) (i j : Nat) : Bool := ltRow (rs.getD i []) (rs.getD j [])
theorem weakRow (rs : List (List Int)) : Weak (ltAt rs) where
  irr := fun i => ltRow_irr _
  asy := fun i j => ltRow_asy _ _
  neg := fun i j k => ltRow_neg _ _ _
theorem bf_ahead {rs : List (List Int)} : Bf (ltAt rs) = ahead rs := rfl

/-- the questions of a sort, asked of the machine -/
theorem tr_wp {lt : Nat → Nat → Bool} {n : Nat} {α : Type} {cmp : Nat → Nat → (Bool → Shared → Prop) → Shared → Prop} {s : Shared} (hc : ∀ i j (C : Bool → Shared → Prop), i < n → j < n → C (lt i j) s → cmp i j C s) {Qt : α → Prop} {Q : α → Shared → Prop} (hq : ∀ a, Qt a → Q a s) :
    ∀ {t : KasT α}, Tr lt n t Qt → t.kasWp cmp Q s
  | .ret a, h => hq a h
  | .ask i j k, h => hc i j _ h.1 h.2.1 (tr_wp hc hq (t := k (lt i j)) h.2.2)

section
variable {prog : Program} {w : World} {A : Around} {E : Value → Shared → Prop} {s : Shared}

theorem lex_ok {fin : Bool} {Q : Bool → Shared → Prop} : ∀ (a b : List Int) (vs us : List Value) (i : Nat), IntsAre vs a → IntsAre us b → fin = decide (vs.length < us.length) → Q (ltRow a b) s → KatLex prog w A true fin Q (vs.zip us) i s
  | [], [], _, _, i, .nil, .nil, hf, q => by
    refine kat_nil ?_
    subst hf; exact q
  | [], _ :: _, _, _, i, .nil, .cons _ _ _, hf, q => by
    refine kat_nil ?_
    subst hf
    simpa [ltRow] using q
  | _ :: _, [], _, _, i, .cons _ _ _, .nil, hf, q => by
    refine kat_nil ?_
    subst hf
    simpa [ltRow] using q
  | x :: a, y :: b, _, _, i, .cons _ t ha, .cons _ u hb, hf, q => by
    rw [List.zip_cons_cons]
    refine kat_cons (wpAny_eqBool_int ?_)
    rw [ltRow] at q
    by_cases e : x = y
    · rw [if_pos e] at q
      rw [show (x == y) = true by simpa using e]
      exact kat_yes (lex_ok a b _ _ (i + 1) ha hb (by rw [hf]; simp) q)
    · rw [if_neg e] at q
      rw [show (x == y) = false by simpa using e]
      refine kat_no ?_
      cases i with
      | zero => exact oneLt_int q
      | succ i => exact kat_one _ _ (PyProof.Rows.lt_int q)

/-- rows of ints, as they lie -/
noncomputable def RowsAre (h : Heap) : List Value → List (List Int) → Prop
  | [], [] => True
  | v :: vs, r :: rs => (∃ a items n, v = .ref a ∧ h.get? a = some { cls := .type "tuple", data := .seq items n } ∧ IntsAre items.toList r) ∧ RowsAre h vs rs
  | _, _ => False
theorem RowsAre.len {h : Heap} : ∀ {vs : List Value} {rs : List (List Int)}, RowsAre h vs rs → vs.length = rs.length
  | [], [], _ => rfl
  | _ :: _, _ :: _, x => by rw [List.length_cons, List.length_cons, x.2.len]
  | [], _ :: _, x => x.elim
  | _ :: _, [], x => x.elim
theorem RowsAre.keeps {h h' : Heap} (k : ∀ b o, o.cls = .type "tuple" → h.get? b = some o → h'.get? b = some o) : ∀ {vs : List Value} {rs : List (List Int)}, RowsAre h vs rs → RowsAre h' vs rs
  | [], [], _ => trivial
  | _ :: _, _ :: _, x => ⟨let ⟨a, it, n, e, g, i⟩ := x.1; ⟨a, it, n, e, k a _ rfl g, i⟩, x.2.keeps k⟩
  | [], _ :: _, x => x.elim
  | _ :: _, [], x => x.elim
theorem RowsAre.at' {h : Heap} : ∀ {vs : List Value} {rs : List (List Int)}, RowsAre h vs rs → ∀ {i : Nat}, i < vs.length → ∃ a items n, vs.getD i .none = .ref a ∧ h.get? a = some { cls := .type "tuple", data := .seq items n } ∧ IntsAre items.toList (rs.getD i [])
  | [], [], _, i, hi => by simp at hi
  | _ :: _, _ :: _, x, 0, _ => by simpa using x.1
  | _ :: vs, _ :: rs, x, i + 1, hi => by
    obtain ⟨a, it, n, h1, h2, h3⟩ := x.2.at' (i := i) (by simpa using hi)
    exact ⟨a, it, n, by simpa using h1, h2, by simpa using h3⟩
  | [], _ :: _, x, _, _ => x.elim
  | _ :: _, [], x, _, _ => x.elim
theorem RowsAre.tups {h : Heap} : ∀ {vs : List Value} {rs : List (List Int)}, RowsAre h vs rs → (∀ r ∈ rs, r ≠ []) → ∃ fs, KatTups h vs fs ∧ fs.length = vs.length ∧ ∀ v ∈ fs, ∃ i t, v = Value.int i t
  | [], [], _, _ => ⟨[], trivial, rfl, fun v hv => by cases hv⟩
  | _ :: _, r :: _, x, hne => by
    obtain ⟨⟨a, it, n, rfl, g, hi⟩, x2⟩ := x
    obtain ⟨fs, t, hl, hv⟩ := x2.tups fun r hr => hne r (List.mem_cons_of_mem _ hr)
    have hr := hne r List.mem_cons_self
    obtain ⟨y, rr, rfl⟩ : ∃ y rr, r = y :: rr := by
      cases r with
      | nil => exact absurd rfl hr
      | cons y rr => exact ⟨y, rr, rfl⟩
    generalize hL : it.toList = L at hi
    cases hi with
    | cons i tk hrest =>
      refine ⟨.int y tk :: fs, KatTups.cons g rfl rfl (by rw [← Array.getElem?_toList, hL]; rfl) t, by simp [hl], fun v hv' => ?_⟩
      rcases List.mem_cons.mp hv' with rfl | hv'
      · exact ⟨_, _, rfl⟩
      · exact hv v hv'
  | [], _ :: _, x, _ => x.elim
  | _ :: _, [], x, _ => x.elim

theorem looks_int {M : Model} {h : Heap} {i : Int} {t : Tok} : Looks M h (typeOf (.int i t)) (.type "int") := fun A Q E s _ q => wpAny_typeOf (typeIs_int s i t) q

end

theorem ints_of {h : Heap} {φ : List Addr} : ∀ {Vs : List V} {ns : List Int} {vs : List Value}, intsOf Vs = some ns → RelL h φ Vs vs → IntsAre vs ns
  | [], ns, vs, e, r => by
    rw [intsOf] at e; cases e
    cases vs with
    | nil => exact .nil
    | cons _ _ => rw [RelL] at r; exact r.elim
  | V :: Vs, ns, vs, e, r => by
    cases vs with
    | nil => rw [RelL] at r; exact r.elim
    | cons v vs =>
      rw [RelL] at r
      cases V <;> simp only [intsOf, reduceCtorEq] at e
      obtain ⟨ms, hm, rfl⟩ := Option.map_eq_some_iff.mp e
      have r1 := r.1
      rw [Rel] at r1
      obtain ⟨t, rfl⟩ := r1
      exact .cons _ t (ints_of hm r.2)
theorem rows_of {h : Heap} {φ : List Addr} : ∀ {Vs : List V} {rs : List (List Int)} {vs : List Value}, rowsOf Vs = some rs → RelL h φ Vs vs → RowsAre h vs rs ∧ Vs = rs.map fun r => .tup (r.map .int)
  | [], rs, vs, e, r => by
    rw [rowsOf] at e; cases e
    cases vs with
    | nil => exact ⟨trivial, rfl⟩
    | cons _ _ => rw [RelL] at r; exact r.elim
  | V :: Vs, rs, vs, e, r => by
    cases vs with
    | nil => rw [RelL] at r; exact r.elim
    | cons v vs =>
      rw [RelL] at r
      cases V <;> simp only [rowsOf, reduceCtorEq] at e
      rename_i us
      split at e
      · rename_i a b ha hb
        cases e
        have r1 := r.1
        rw [Rel] at r1
        obtain ⟨x, it, n, rfl, g, rl⟩ := r1
        obtain ⟨i1, i2⟩ := rows_of hb r.2
        exact ⟨⟨⟨x, it, n, rfl, g, ints_of ha rl⟩, i1⟩, by rw [i2, List.map_cons, ints_eq ha]⟩
      · cases e
where
  ints_eq : ∀ {Vs : List V} {ns : List Int}, intsOf Vs = some ns → Vs = ns.map V.int
    | [], ns, e => by rw [intsOf] at e; cases e; rfl
    | V :: Vs, ns, e => by
      cases V <;> simp only [intsOf, reduceCtorEq] at e
      obtain ⟨ms, hm, rfl⟩ := Option.map_eq_some_iff.mp e
      rw [List.map_cons, ← ints_eq hm]

theorem relL_pick {h : Heap} {φ : List Addr} {Vs : List V} {vs : List Value} (r : RelL h φ Vs vs) : ∀ (p : List Nat), (∀ i ∈ p, i < Vs.length) → RelL h φ (p.map fun i => Vs.getD i .none) (p.map fun i => vs.getD i Value.none)
  | [], _ => by simp only [List.map_nil, RelL]
  | i :: p, hp => by
    rw [List.map_cons, List.map_cons, RelL]
    refine ⟨?_, relL_pick r p fun j hj => hp j (List.mem_cons_of_mem _ hj)⟩
    have hi := hp i List.mem_cons_self
    obtain ⟨v, e, rl⟩ := r.get (List.getElem?_eq_getElem hi)
    rw [List.getD_eq_getElem?_getD, List.getD_eq_getElem?_getD, e, List.getElem?_eq_getElem hi]
    exact rl

section
variable {C : Oracle}
/-- one argument, its value -/
theorem wpL_one {a : E} {ρ : List V} {σ : Store} {P : V → Store → Prop} {X : XPost} (q : wpE C a ρ σ P X) : wpL C [a] ρ σ (fun vs σ₁ => ∃ v, vs = [v] ∧ P v σ₁) X := by
  rw [wpL]
  have e : (fun v σ₁ => wpL C [] ρ σ₁ (fun vs σ₂ => ∃ u, v :: vs = [u] ∧ P u σ₂) X) = P := by
    funext v σ₁
    rw [wpL]
    refine propext ⟨fun ⟨u, e, h⟩ => ?_, fun h => ⟨v, rfl, h⟩⟩
    cases e; exact h
  rw [e]; exact q
end
end Mine

/-! KKey -/
namespace Mine
open PySem PySem.Calls PyProof.Rows PySem.W
set_option maxRecDepth 100000

theorem range_pick (vs : List Value) : (List.range vs.length).map (fun i => vs.getD i Value.none) = vs := by
  apply List.ext_getElem?
  intro i
  rw [List.getElem?_map]
  by_cases hi : i < vs.length
  · simp [hi]
  · simp [hi]

section
variable {prog : Program} {w : World} {A : Around} {E : Value → Shared → Prop} {s : Shared}

/-- the sort behind the keys -/
theorem key_end {a kS : Addr} {vs kvs : List Value} {rs : List (List Int)} {e e1 : Nat} {P : PySem.Fin → Shared → Prop} (hkS : s.heap.get? kS = some (seqObj "list" kvs.toArray e)) (ha : s.heap.get? a = some (seqObj "list" #[] e1)) (hne : a ≠ kS) (hl : kvs.length = vs.length)
    (hr : RowsAre s.heap kvs rs) (hnr : ∀ r ∈ rs, r ≠ []) (h64 : vs.length < 64)
    (h : ∀ p : List Nat, p.Perm (List.range vs.length) → p.Pairwise (ahead rs) → ∀ h' c, h'.get? a = some (seqObj "list" (p.map fun i => vs.getD i Value.none).toArray c) → (∀ b o, b ≠ a → b ≠ kS → s.heap.get? b = some o → h'.get? b = some o) → (∃ o, h'.get? kS = some o) → P (.done (.ret .none)) { s with heap := h' }) :
    wpAny (model prog w) A (ksk_end a false vs.toArray e1 (.ref kS) kvs.toArray) P E s := by
  have tail : ∀ (st : SortSt) (p : List Nat), (arrOf st).map (·.2) = (p.map fun i => vs.getD i Value.none).toArray → failedOf st = none → p.Perm (List.range vs.length) → p.Pairwise (ahead rs) → wpAny (model prog w) A (ksk_tail a false e1 (.ref kS) st) P E s := fun st p hout hf hp1 hp2 => by
    unfold ksk_tail
    dsimp only
    rw [hout]
    have hsz : (p.map fun i => vs.getD i Value.none).toArray.size = vs.length := by rw [List.size_toArray, List.length_map, hp1.length_eq, List.length_range]
    obtain ⟨ck, hck⟩ : ∃ ck, (s.heap.update kS (Obj.mapSeq fun _ => (#[] : Array Value))).get? kS = some (seqObj "list" #[] ck) := ⟨_, get?_update_seq hkS fun _ => #[]⟩
    have ha1 : (s.heap.update kS (Obj.mapSeq fun _ => (#[] : Array Value))).get? a = some (seqObj "list" #[] e1) := (Heap.get?_update_ne _ _ _ _ hne).trans ha
    obtain ⟨c2, hc2⟩ : ∃ c2, ((s.heap.update kS (Obj.mapSeq fun _ => (#[] : Array Value))).update a (Obj.mapSeq fun _ => (p.map fun i => vs.getD i Value.none).toArray)).get? a = some (seqObj "list" (p.map fun i => vs.getD i Value.none).toArray c2) := ⟨_, get?_update_seq ha1 fun _ => (p.map fun i => vs.getD i Value.none).toArray⟩
    refine wpAny_bind (listUpdate_at hkS rfl ?_ (by rw [List.size_toArray, sizeLine_eq]; omega) (Nat.zero_le _))
    refine wpAny_bind (wpAny_letGo ?_)
    refine wpAny_bind (seqEpoch_at ha1 rfl ?_)
    refine wpAny_bind (listUpdate_at ha1 rfl ?_ (Nat.zero_le _) (Nat.le_trans (Nat.le_of_eq hsz) (by rw [sizeLine_eq]; omega)))
    rw [hf]
    simp only [bne_self_eq_false, Bool.false_eq_true, if_false]
    refine wpAny_pure (h p hp1 hp2 _ c2 hc2 (fun b o h1 h2 eb => ?_) ⟨_, (Heap.get?_update_ne _ _ _ _ (Ne.symm hne)).trans hck⟩)
    exact (Heap.get?_update_ne _ _ _ _ h1).trans ((Heap.get?_update_ne _ _ _ _ h2).trans eb)
  unfold ksk_end
  dsimp only
  simp only [Bool.false_eq_true, if_false]
  by_cases h2 : vs.toArray.size < 2
  · rw [if_pos h2, if_pos h2]
    refine wpAny_bind (wpAny_pure ?_)
    rw [StateT.run_pure]
    refine wpAny_bind (wpAny_pure ?_)
    dsimp only
    refine tail _ (List.range vs.length) ?_ rfl (List.Perm.refl _) ?_
    · rw [range_pick]
      show (kvs.toArray.zip vs.toArray).map (·.2) = vs.toArray
      apply Array.toList_inj.mp
      simp [List.map_snd_zip, hl]
    · have hlt : vs.length < 2 := by simpa using h2
      match hv : vs.length, hlt with
      | 0, _ => simp
      | 1, _ => simp
  · rw [if_neg h2, if_neg h2]
    have h2' : 2 ≤ vs.length := by simp only [List.size_toArray] at h2; omega
    obtain ⟨fs, tup, hfl, hfi⟩ := hr.tups hnr
    refine wpAny_bind (kat_kind tup (by omega) (T := .type "int") (fun v hv => by obtain ⟨i, t, rfl⟩ := hfi v hv; exact looks_int) rfl ?_)
    refine wpAny_bind (wpAny_mono (kat_run (ks := kvs) (vs := vs) (Q := fun st' s' => s' = s ∧ ∃ p : Array Nat, arrOf st' = p.map (kas_item (kvs.toArray.zip vs.toArray)) ∧ failedOf st' = none ∧ p.toList.Perm (List.range vs.length) ∧ p.toList.Pairwise (Bf (ltAt rs)))
      (G := fun p s' => s' = s ∧ p.toList.Perm (List.range vs.length) ∧ p.toList.Pairwise (Bf (ltAt rs)))
      hl h2' h64 (fun p st' s' _ a2 a3 a4 => ⟨a4.1, p, a2, a3, a4.2.1, a4.2.2⟩) (tr_wp (lt := ltAt rs) (fun i j C hi hj hC => ?_) (fun p hp => ⟨rfl, hp.1, hp.2⟩) (sort_ok (weakRow rs) (by omega)))) ?_ fun _ _ e => e)
    · obtain ⟨x, ix, nx, ex, gx, hx⟩ := hr.at' (i := i) (by omega)
      obtain ⟨y, iy, ny, ey, gy, hy⟩ := hr.at' (i := j) (by omega)
      show wpAny _ _ (keyLt' _ (kvs.getD i Value.none) (kvs.getD j Value.none)) _ _ _
      rw [ex, ey]
      exact kat_lt (b := true) gx rfl gy rfl (lex_ok _ _ _ _ 0 hx hy (by simp) hC)
    · rintro ⟨⟨⟩, st'⟩ s' ⟨rfl, p, har, hf, hp1, hp2⟩
      exact tail st' p.toList (kat_snds (ks := kvs) hl har) hf hp1 hp2
end
end Mine

/-! KKey2 -/
namespace Mine
open PySem PySem.Calls PyProof.Rows PySem.W
set_option maxRecDepth 100000

/-- objects that stand outside the store -/
noncomputable def Outs (h : Heap) (φ : List Addr) (kS : Addr) (objs : List (Addr × Obj)) : Prop := ∀ p ∈ objs, h.get? p.1 = some p.2 ∧ p.1 ∉ φ ∧ p.1 ≠ kS

theorem Step.out {h₀ : Heap} {own : Addr → Prop} {s s' : Shared} {φ φ' : List Addr} {σ' : Store} (st : Step h₀ own s s' φ φ' σ') {a : Addr} {o : Obj} (e : s.heap.get? a = some o) (h : a ∉ φ) : a ∉ φ' := fun m => by
  rcases st.fresh a m with m | e'
  · exact h m
  · rw [e] at e'; cases e'
theorem Outs.step {h₀ : Heap} {own : Addr → Prop} {s s' : Shared} {φ φ' : List Addr} {σ' : Store} {kS : Addr} {objs : List (Addr × Obj)} (x : Outs s.heap φ kS objs) (st : Step h₀ own s s' φ φ' σ') (ho : ∀ b, own b → b = kS) : Outs s'.heap φ' kS objs := fun p hp => by
  obtain ⟨h1, h2, h3⟩ := x p hp
  exact ⟨st.keep p.1 p.2 h2 (fun m => h3 (ho _ m)) h1, st.out h1 h2, h3⟩

section
variable {prog : Program} {w : World} {A : Around} {h₀ : Heap}

theorem key_loop {E : Value → Shared → Prop} {f : Value} {kS : Addr} {objs : List (Addr × Obj)} {K : V → Store → (V → Store → Prop) → Prop} {body : Value → PUnit → Sem (ForInStep PUnit)} (h0 : h₀.get? kS = none)
    (hkey : ∀ (s : Shared) (φ : List Addr) (σ : Store) (V : V) (v : Value) (R : Mine.V → Store → Prop), Sim h₀ s.heap φ σ → Outs s.heap φ kS objs → Rel s.heap φ V v → K V σ R → wpAny (model prog w) A (call f [v]) (fun u s' => ∃ φ' σ' U, Step h₀ noOwn s s' φ φ' σ' ∧ Rel s'.heap φ' U u ∧ R U σ') (fun _ _ => False) s)
    (hb : ∀ x (s : Shared) (Q' : ForInStep PUnit → Shared → Prop), wpAny (model prog w) A (call f [x]) (fun k s' => ∃ kvs e, s'.heap.get? kS = some (seqObj "list" kvs.toArray e) ∧ kvs.length < 64 ∧
      ∀ c, (s'.heap.update kS (Obj.mapSeq (·.push k))).get? kS = some (seqObj "list" (kvs ++ [k]).toArray c) → Q' (.yield ⟨⟩) { s' with heap := s'.heap.update kS (Obj.mapSeq (·.push k)) }) (fun _ _ => False) s → wpAny (model prog w) A (body x ⟨⟩) Q' E s) {Qk : List V → Store → Prop} :
    ∀ (vs : List Value) (Vs : List V) (s : Shared) (φ : List Addr) (σ : Store) (acc : List V) (kvs : List Value) (e : Nat), Sim h₀ s.heap φ σ → Outs s.heap φ kS objs → kS ∉ φ → s.heap.get? kS = some (seqObj "list" kvs.toArray e) → kvs.length + vs.length < 64 → RelL s.heap φ Vs vs → RelL s.heap φ acc kvs → keysW K Vs acc σ Qk →
      wpAny (model prog w) A (forIn vs PUnit.unit body) (fun _ s' => ∃ φ' σ' acc' kvs' e', Step h₀ (fun b => b = kS) s s' φ φ' σ' ∧ Outs s'.heap φ' kS objs ∧ kS ∉ φ' ∧ s'.heap.get? kS = some (seqObj "list" kvs'.toArray e') ∧ kvs'.length = kvs.length + vs.length ∧ RelL s'.heap φ' acc' kvs' ∧ Qk acc' σ') E s
  | [], Vs, s, φ, σ, acc, kvs, e, S, O, hk, hS, hl, rv, ra, q => by
    have : Vs = [] := List.length_eq_zero_iff.mp (by have := rv.length; simpa using this)
    subst this
    rw [keysW] at q
    rw [List.forIn_nil]
    exact wpAny_pure ⟨φ, σ, acc, kvs, e, Step.refl S, O, hk, hS, by simp, ra, q⟩
  | v :: vs, [], s, φ, σ, acc, kvs, e, S, O, hk, hS, hl, rv, ra, q => by rw [RelL] at rv; exact rv.elim
  | v :: vs, V :: Vs, s, φ, σ, acc, kvs, e, S, O, hk, hS, hl, rv, ra, q => by
    rw [RelL] at rv
    rw [keysW] at q
    rw [List.length_cons] at hl
    rw [List.forIn_cons]
    refine wpAny_bind (hb v s _ (wpAny_mono (hkey s φ σ V v _ S O rv.1 q) (fun u s₁ y => ?_) fun _ _ x => x))
    obtain ⟨φ₁, σ₁, U, st, ru, q₁⟩ := y
    have hS₁ := st.keep kS _ hk (fun f => f) hS
    refine ⟨kvs, e, hS₁, by omega, fun c hc => ?_⟩
    have hk₁ := st.out hS hk
    have nt : NoTup s₁.heap kS := fun o' it n e' c' _ => by rw [hS₁] at e'; cases e'; simp [seqObj] at c'
    have kk : ∀ b o, ¬ b = kS → s₁.heap.get? b = some o → (s₁.heap.update kS (Obj.mapSeq (·.push u))).get? b = some o := fun b o h e => (Heap.get?_update_ne _ _ _ _ h).trans e
    have st₂ : Step h₀ (fun b => b = kS) s₁ { s₁ with heap := s₁.heap.update kS (Obj.mapSeq (·.push u)) } φ₁ φ₁ σ₁ := by
      refine ⟨⟨rfl, rfl⟩, List.prefix_refl _, st.sim.keepOwn (own := fun b => b = kS) (fun b o h e => kk b o h e) (by rintro a rfl; exact ⟨nt, hk₁, h0⟩), fun b o _ h e => kk b o h e, fun _ m => .inl m, fun b o e => ?_⟩
      by_cases hbk : b = kS
      · subst hbk; exact ⟨_, hc⟩
      · exact ⟨o, kk b o hbk e⟩
    have rk : ∀ Ws us, RelL s₁.heap φ₁ Ws us → RelL (s₁.heap.update kS (Obj.mapSeq (·.push u))) φ₁ Ws us := fun Ws us r => RelL.keep (own := fun b => b = kS) (fun b o _ h e => kk b o h e) (List.prefix_refl _) (fun a m => m.elim (fun m => st.sim.noTup m) fun m => by subst m; exact nt) _ _ r
    have st₁₂ := (st.wider (own' := fun b => b = kS) fun _ f => f.elim).trans st₂
    refine wpAny_mono (key_loop h0 hkey hb vs Vs _ φ₁ σ₁ (acc ++ [U]) (kvs ++ [u]) c st₂.sim (O.step st₁₂ fun _ h => h) hk₁ hc (by rw [List.length_append, List.length_singleton]; omega) (rk _ _ (rv.2.step S st)) (rk _ _ ((ra.step S st).append (by simp only [RelL]; exact ⟨ru, trivial⟩))) q₁) (fun _ s' y => ?_) fun _ _ x => x
    obtain ⟨φ', σ', acc', kvs', e', st₃, O', hk', hS', hl', ra', q'⟩ := y
    exact ⟨φ', σ', acc', kvs', e', st₁₂.trans st₃, O', hk', hS', by rw [hl', List.length_append, List.length_singleton, List.length_cons]; omega, ra', q'⟩

/-- list.sort with a key, the list being a fresh one -/
theorem key_tree {E : Value → Shared → Prop} {f : Value} {s : Shared} {φ : List Addr} {σ : Store} {a : Addr} {n : Nat} {objs : List (Addr × Obj)} {K : V → Store → (V → Store → Prop) → Prop} {Vs : List V} {vs : List Value} {P : PySem.Fin → Shared → Prop} {Q : V → Store → Prop} {s₀ : Shared}
    (S : Sim h₀ s.heap φ σ) (st₀ : Step h₀ noOwn s₀ s φ φ σ) (h0 : s₀.heap.get? a = none) (ha0 : h₀.get? a = none) (haφ : a ∉ φ) (hO : ∀ p ∈ objs, s.heap.get? p.1 = some p.2 ∧ p.1 ∉ φ ∧ p.1 ≠ a) (ha : s.heap.get? a = some (seqObj "list" vs.toArray n)) (rv : RelL s.heap φ Vs vs) (h64 : vs.length < 64)
    (hkey : ∀ (kS : Addr) (s : Shared) (φ : List Addr) (σ : Store) (V : V) (v : Value) (R : Mine.V → Store → Prop), Sim h₀ s.heap φ σ → Outs s.heap φ kS objs → Rel s.heap φ V v → K V σ R → wpAny (model prog w) A (call f [v]) (fun u s' => ∃ φ' σ' U, Step h₀ noOwn s s' φ φ' σ' ∧ Rel s'.heap φ' U u ∧ R U σ') (fun _ _ => False) s)
    (q : keysW K Vs [] σ fun ks σ₂ => ∃ rs, rowsOf ks = some rs ∧ (∀ r ∈ rs, r ≠ []) ∧ ∀ p : List Nat, p.Perm (List.range Vs.length) → p.Pairwise (ahead rs) → Q (.ref σ₂.length) (σ₂ ++ [.list (p.map fun i => Vs.getD i .none)]))
    (h : ∀ s', PV h₀ s₀ φ Q (.ref a) s' → P (.done (.ret .none)) s') : wpAny (model prog w) A (ksk_tree a f false) P E s := by
  have hlen : Vs.length = vs.length := rv.length
  have haS : a < s.heap.objs.size := Heap.lt_size ha
  have hsl : vs.length ≤ sizeLine := by rw [sizeLine_eq]; omega
  obtain ⟨e1, ha1⟩ : ∃ e1, (s.heap.update a (Obj.mapSeq fun _ => (#[] : Array Value))).get? a = some (seqObj "list" #[] e1) := ⟨_, get?_update_seq ha fun _ => #[]⟩
  have hsz : ((s.heap.update a (Obj.mapSeq fun _ => (#[] : Array Value))).push (seqObj "tuple" vs.toArray 0)).objs.size = s.heap.objs.size + 1 := by rw [size_push', Heap.size_update]
  -- the state at which the keys are asked for
  generalize hh₁ : ((s.heap.update a (Obj.mapSeq fun _ => (#[] : Array Value))).push (seqObj "tuple" vs.toArray 0)).push (seqObj "list" #[] 0) = h₁
  have nta : NoTup s.heap a := fun o' it n e' c' _ => by rw [ha] at e'; cases e'; simp [seqObj] at c'
  have kk : ∀ b o, b ≠ a → s.heap.get? b = some o → h₁.get? b = some o := fun b o hb e => by
    rw [← hh₁]
    exact Heap.get?_push_of_some _ (Heap.get?_push_of_some _ ((Heap.get?_update_ne _ _ _ _ hb).trans e))
  have ga : h₁.get? a = some (seqObj "list" #[] e1) := by rw [← hh₁]; exact Heap.get?_push_of_some _ (Heap.get?_push_of_some _ ha1)
  have gk : h₁.get? (s.heap.objs.size + 1) = some (seqObj "list" ([] : List Value).toArray 0) := by rw [← hh₁, ← hsz]; exact Heap.get?_push_size _ rfl
  have hka : s.heap.objs.size + 1 ≠ a := Nat.ne_of_gt (Nat.lt_succ_of_lt haS)
  have fk : h₀.get? (s.heap.objs.size + 1) = none ∧ s.heap.get? (s.heap.objs.size + 1) = none := fresh_none S (Nat.le_succ s.heap.objs.size)
  have hkφ : s.heap.objs.size + 1 ∉ φ := fun m => by have := S.lt m; exact Nat.lt_irrefl _ (Nat.lt_trans (Nat.lt_succ_self _) this)
  have S₁ : Sim h₀ h₁ φ σ := S.keepOwn (own := fun b => b = a) (fun b o hb e => kk b o hb e) (by rintro b rfl; exact ⟨nta, haφ, ha0⟩)
  have rv₁ : RelL h₁ φ Vs vs := RelL.keep (own := fun b => b = a) (fun b o _ hb e => kk b o hb e) (List.prefix_refl _) (fun b m => m.elim (fun m => S.noTup m) fun m => by subst m; exact nta) _ _ rv
  have st₁ : Step h₀ noOwn s₀ { s with heap := h₁ } φ φ σ := by
    refine ⟨st₀.only, List.prefix_refl _, S₁, fun b o hb _ e => kk b o (fun hba => by rw [hba, h0] at e; cases e) (st₀.keep b o hb (fun f => f) e), fun _ m => .inl m, fun b o e => ?_⟩
    obtain ⟨o', e'⟩ := st₀.pres b o e
    exact ⟨o', kk b o' (fun hba => by rw [hba, h0] at e; cases e) e'⟩
  unfold ksk_tree
  refine wpAny_bind (listItems_at ha rfl ?_)
  refine wpAny_bind (listUpdate_at ha rfl ?_ (by rw [List.size_toArray]; exact hsl) (Nat.zero_le _))
  refine wpAny_bind (seqEpoch_at ha1 rfl ?_)
  refine wpAny_bind (wpAny_newTuple ?_ (by show vs.length ≤ _; exact hsl))
  refine wpAny_bind (wpAny_newList ?_ (Nat.zero_le _))
  refine wpAny_holding ?_
  show wpAny (model prog w) A (ksk_rest a f false vs.toArray e1 (.ref ((s.heap.update a (Obj.mapSeq fun _ => (#[] : Array Value))).push (seqObj "tuple" vs.toArray 0)).objs.size)) P E { s with heap := ((s.heap.update a (Obj.mapSeq fun _ => (#[] : Array Value))).push (seqObj "tuple" vs.toArray 0)).push (seqObj "list" #[] 0) }
  rw [hsz, hh₁]
  unfold ksk_rest
  refine wpAny_bind (wpAny_rule ?_)
  first
    | rw [List.forIn_toArray]
    | (rw [← Array.forIn_toList]; simp only [List.toList_toArray])
    | rw [← Array.forIn_toList]
  generalize hkS : s.heap.objs.size + 1 = kS at *
  have hks : ∀ b o, s.heap.get? b = some o → b ≠ kS := fun b o e => by rw [← hkS]; exact Nat.ne_of_lt (Nat.lt_succ_of_lt (Heap.lt_size e))
  have O₁ : Outs h₁ φ kS ((a, seqObj "list" #[] e1) :: objs) := fun p hp => by
    rcases List.mem_cons.mp hp with rfl | hp
    · exact ⟨ga, haφ, Ne.symm hka⟩
    · obtain ⟨o1, o2, o3⟩ := hO p hp
      exact ⟨kk p.1 p.2 o3 o1, o2, hks _ _ o1⟩
  refine wpAny_bind (wpAny_mono (key_loop (kS := kS) (objs := (a, seqObj "list" #[] e1) :: objs) (K := K) fk.1 (fun t φ σ V v R S O r k => hkey kS t φ σ V v R S (fun p hp => O p (List.mem_cons_of_mem _ hp)) r k) (fun x s' Q' hx => ?_) vs Vs { s with heap := h₁ } φ σ [] [] 0 S₁ O₁ hkφ gk (by simpa using h64) rv₁ (by simp only [RelL]) q) (fun _ s' y => ?_) fun _ _ x => x)
  · refine wpAny_bind (wpAny_attempt (wpAny_mono hx (fun k s'' hk => ?_) fun _ _ hF => hF.elim))
    obtain ⟨kvs, e, g, hz, hQ⟩ := hk
    have ea : kvs.toArray.push k = (kvs ++ [k]).toArray := by simp
    obtain ⟨c2, hc2⟩ : ∃ c2, (s''.heap.update kS (Obj.mapSeq (·.push k))).get? kS = some (seqObj "list" (kvs ++ [k]).toArray c2) := ⟨_, by rw [← ea]; exact get?_update_seq g (·.push k)⟩
    try dsimp only
    refine wpAny_bind (listUpdate_at g rfl ?_ (by rw [List.size_toArray, sizeLine_eq]; omega) (Nat.le_trans (Nat.le_of_eq (Array.size_push ..)) (by rw [List.size_toArray, sizeLine_eq]; omega)))
    exact wpAny_pure (hQ c2 hc2)
  · obtain ⟨φ', σ', acc', kvs', e', st', O', hk', hS', hl', ra', rs, hrs, hne, q'⟩ := y
    try dsimp only
    refine wpAny_bind (listItems_at hS' rfl ?_)
    have hl'' : kvs'.length = vs.length := by simpa using hl'
    have oa := O' (a, seqObj "list" #[] e1) List.mem_cons_self
    refine key_end hS' oa.1 (Ne.symm hka) hl'' (rows_of hrs ra').1 hne h64 fun p hp1 hp2 h' c f1 f2 f3 => h _ ?_
    have ntk : NoTup s'.heap kS := fun o' it n e' c' _ => by rw [hS'] at e'; cases e'; simp [seqObj] at c'
    have nta' : NoTup s'.heap a := fun o' it n e' c' _ => by rw [oa.1] at e'; cases e'; simp [seqObj] at c'
    have s0k : s₀.heap.get? kS = none := none_back st₀ fk.2
    have keep' : ∀ b o, ¬ (b = a ∨ b = kS) → s'.heap.get? b = some o → h'.get? b = some o := fun b o hb e => f2 b o (fun h => hb (.inl h)) (fun h => hb (.inr h)) e
    have nto : ∀ b, (b = a ∨ b = kS) → NoTup s'.heap b := fun b hb => by rcases hb with rfl | rfl <;> assumption
    have S' : Sim h₀ h' φ' σ' := st'.sim.keepOwn (own := fun b => b = a ∨ b = kS) keep' fun b hb => ⟨nto b hb, by rcases hb with rfl | rfl; exact oa.2.1; exact hk', by rcases hb with rfl | rfl; exact ha0; exact fk.1⟩
    have stF : Step h₀ noOwn s₀ { s' with heap := h' } φ φ' σ' := by
      refine ⟨⟨st'.only.1.trans st₁.only.1, st'.only.2.trans st₁.only.2⟩, st'.pre, S', fun b o hb _ e => ?_, fun b m => ?_, fun b o e => ?_⟩
      · have h1 : b ≠ a := fun h => by rw [h, h0] at e; cases e
        have h2 : b ≠ kS := fun h => by rw [h, s0k] at e; cases e
        exact f2 b o h1 h2 (st'.keep b o hb h2 (st₁.keep b o hb (fun f => f) e))
      · rcases st'.fresh b m with m | e
        · exact .inl m
        · exact .inr (none_back st₁ e)
      · obtain ⟨o1, e1'⟩ := st₁.pres b o e
        obtain ⟨o2, e2⟩ := st'.pres b o1 e1'
        by_cases h1 : b = a
        · subst h1; exact ⟨_, f1⟩
        · by_cases h2 : b = kS
          · subst h2; exact f3
          · exact ⟨o2, f2 b o2 h1 h2 e2⟩
    have rvF : RelL h' φ' Vs vs := RelL.keep (own := fun b => b = a ∨ b = kS) (fun b o _ hb e => keep' b o hb e) (List.prefix_refl _) (fun b m => m.elim (fun m => st'.sim.noTup m) fun m => nto b m) _ _
      (RelL.keep (own := fun b => b = kS) st'.keep st'.pre (fun b m => m.elim (fun m => S₁.noTup m) fun m => by subst m; intro o' it n e' c' _; rw [show ({ s with heap := h₁ } : Shared).heap.get? _ = _ from gk] at e'; cases e'; simp [seqObj] at c') _ _ rv₁)
    rw [← hlen] at hp1
    have hin : ∀ i ∈ p, i < Vs.length := fun i hi => by simpa using hp1.mem_iff.mp hi
    obtain ⟨j1, j2⟩ := comp_join (acc := p.map fun i => Vs.getD i .none) (arr := (p.map fun i => vs.getD i Value.none).toArray) stF h0 oa.2.1 ha0 ⟨c, f1⟩ (by simpa using relL_pick rvF p hin) (by rw [List.length_map, hp1.length_eq, List.length_range]; unfold maxLen; omega)
    exact ⟨_, _, _, j1, j2, q' p hp1 hp2⟩
end
end Mine

/-! KLam -/
namespace Mine
open PySem PySem.Calls PyProof.Rows PySem.W
set_option maxRecDepth 100000

section
variable {prog : Program} {w : World} {h₀ : Heap} {C : Oracle} {d : Nat} {G : GlT} {fa : Nat → Addr} {mg mb : Str → Option Value}

/-- a lambda of one name, that nothing takes from around -/
structure LamOk (params : Arguments) (scope : Scope) (x : Str) (arg : Arg) : Prop where
  plain : params = ⟨[], [arg], none, [], [], none, []⟩
  name : arg.arg = x
  kind : scope.kind = .function
  co : scope.isCoroutine = false
  gen : scope.isGenerator = false
  cell : ∀ y ∈ scope.names, y.2 ≠ .cell
  free : ∀ y ∈ scope.names, y.2 ≠ .free
  loc : scope.names.lookup x = some .local

theorem lam_call (g : Gnd h₀ G fa mg mb) {A : Around} {s : Shared} {φ : List Addr} {σ : Store} {f c' : Addr} {name qual : Str} {params : Arguments} {body : Expr} {scope : Scope} {pm ctv : Value} {x : Str} {arg : Arg} {b : E} {V : V} {v : Value} {Q : Mine.V → Store → Prop} {X : XPost} {E : Value → Shared → Prop}
    (L : LamOk params scope x arg) (R : ROk A (d + 1)) (S : Sim h₀ s.heap φ σ) (hf : s.heap.get? f = some (kla_obj name qual params body scope [] pm c' ctv)) (hcd : s.heap.CodeRec (.ref c') qual) (r : Rel s.heap φ V v)
    (hB : ∀ env, env.scope = scope → EOk prog w h₀ C d env [(x, 0)] body b) (q : wpE C b [V] σ Q X) : wpAny (model prog w) A (call (.ref f) [v]) (PV h₀ s φ Q) E s := by
  have hroom : A.depth < recursionLimit := Nat.lt_of_lt_of_le (Nat.lt_of_le_of_lt (Nat.le_add_right _ _) R.depth) (by decide)
  refine wpAny_call (kla_callFunE (fd := kla_fn name qual params body scope [] pm (.ref c') ctv) hroom hf rfl L.co L.gen rfl hcd ?_)
  have hb : bindArgs (kla_fn name qual params body scope [] pm (.ref c') ctv) ⟨[v], []⟩ = pure [(x, v)] := by
    have := bindArgs_plain (fd := kla_fn name qual params body scope [] pm (.ref c') ctv) (args := [arg]) (vals := [v]) L.plain rfl rfl (by simp)
    rw [this, ← L.name]; rfl
  rw [hb]
  refine wpAny_pure (wpAny_newFunctionEnv L.cell (fun y hy => by simp at hy; subst hy; exact L.loc) (fun h₁ hns hsb => ⟨(g.nolimit.keeps S.keep).fresh _ hsb, ?_⟩) L.kind)
  have kk : ∀ b o, s.heap.get? b = some o → h₁.get? b = some o := fun b o e => hsb.extBut b o (Nat.ne_of_lt (Heap.lt_size e)) (Heap.get?_push_of_some _ e)
  have F : FrS h₀ h₁ φ (newEnv scope s.heap.objs.size mainGlobals [] (qual ++ ".<locals>.") (some f) (.ref c') none builtinsNs) [(x, 0)] [V] := {
    fn := L.kind
    glob := rfl
    blt := rfl
    locNew := (fresh_none S (Nat.le_refl _)).1
    locOut := fun m => absurd (S.lt m) (Nat.lt_irrefl _)
    inj := fun y z i hy hz => by
      have h1 := mem_of_lookup hy
      have h2 := mem_of_lookup hz
      simp at h1 h2
      rw [h1.1, h2.1]
    ns := by
      refine ⟨_, hns, fun y i W hy hk hW hne => ?_⟩
      have h1 := mem_of_lookup hy
      simp at h1
      obtain ⟨rfl, rfl⟩ := h1
      simp at hW; subst hW
      exact ⟨v, by simp, Rel.keep (own := noOwn) (fun b o _ _ e => kk b o e) (List.prefix_refl _) (fun a m => m.elim (fun m => S.noTup m) fun f => f.elim) _ _ r⟩
    cell := fun y i hy hk => by
      have h1 := mem_of_lookup hy
      simp at h1
      obtain ⟨rfl, rfl⟩ := h1
      rw [show (newEnv scope s.heap.objs.size mainGlobals [] (qual ++ ".<locals>.") (some f) (.ref c') none builtinsNs).kindOf _ = _ from L.loc] at hk
      rcases hk with e | e <;> cases e
    cellInj := fun y z i j c _ _ h1 => by cases h1 }
  have st₁ : Step h₀ noOwn s { s with heap := h₁, toks := s.toks + [(x, v)].length } φ φ σ := Step.keeps S _ kk
  refine kla_codeExpr (wpAny_mono (hB _ rfl (A.deeper _) { s with heap := h₁, toks := s.toks + [(x, v)].length } φ σ [V] Q X ⟨R.hd, ?_, ?_⟩ st₁.sim F q) (fun u s' y => ?_) fun _ _ e => e.elim)
  · have := R.depth; show A.depth + 1 + d < 900; omega
  · have := R.units; show A.units + 3 + 3 * d < 9000; omega
  · exact PV.trans st₁ y
/-- the table of codes gets a row -/
theorem Step.gone {s : Shared} {φ : List Addr} {σ : Store} {P : Addr} {h' : Heap} {us : Array Value} {tk : Nat} (S : Sim h₀ s.heap φ σ) (hσ : σ[1]? = some (.tab P)) (hx : Heap.ExtBut P s.heap h') (hP : h'.get? P = some { cls := .none, data := .fields us }) :
    Step h₀ noOwn s { s with heap := h', toks := tk } φ φ (σ.set 1 .gone) := by
  obtain ⟨a, ea, rfl, e0⟩ := S.obj 1 _ hσ
  have ma : a ∈ φ := List.mem_of_getElem? ea
  have kk : ∀ b o, b ≠ a → s.heap.get? b = some o → h'.get? b = some o := fun b o hb e => hx b o hb e
  have K : Keep φ noOwn s.heap h' := fun b o hb _ e => kk b o (fun h => hb (h ▸ ma)) e
  have R' : ∀ Ws us, RelL s.heap φ Ws us → RelL h' φ Ws us := fun Ws us r => RelL.keep K (List.prefix_refl _) (fun a m => m.elim (fun m => S.noTup m) fun f => f.elim) _ _ r
  have h1 : 1 < σ.length := (List.getElem?_eq_some_iff.mp hσ).1
  refine ⟨⟨rfl, rfl⟩, List.prefix_refl _, ⟨fun b o e => ?_, by simp [S.len], S.nodup, S.new, fun m o e => ?_⟩, K, fun _ m => .inl m, fun b o e => ?_⟩
  · refine kk b o (fun h => ?_) (S.keep b o e)
    rw [h, S.new 0 a ea] at e; cases e
  · by_cases hm : 1 = m
    · subst hm
      rw [set_get_eq h1] at e
      cases e
      exact ⟨a, ea, us, hP⟩
    · rw [set_get_ne hm] at e
      obtain ⟨b, eb, r⟩ := S.obj m o e
      have hab : b ≠ a := fun h => by
        subst h
        have g1 := List.getElem?_eq_some_iff.mp ea
        have g2 := List.getElem?_eq_some_iff.mp eb
        exact hm (nodup_inj S.nodup g1.1 g2.1 (g1.2.trans g2.2.symm))
      refine ⟨b, eb, ?_⟩
      cases o with
      | list Ws =>
        obtain ⟨it, ⟨z, hb⟩, rr, zz⟩ := r
        exact ⟨it, ⟨z, kk b _ hab hb⟩, R' _ _ rr, zz⟩
      | tab P => exact ⟨r.1, kk b _ hab r.2⟩
      | gone => obtain ⟨us, e⟩ := r; exact ⟨us, kk b _ hab e⟩
  · by_cases hb : b = a
    · subst hb; exact ⟨_, hP⟩
    · exact ⟨o, kk b o hb e⟩

theorem no_closure {env : Env} {scope : Scope} (h : ∀ y ∈ scope.names, y.2 ≠ .free) : closureFor scope env = pure [] := by
  rw [closure_ok fun y hy hf => absurd hf (h y hy)]
  have key : ∀ names : List (Str × NameKind), (∀ y ∈ names, y.2 ≠ .free) → clGo env names [] = [] := by
    intro names
    induction names with
    | nil => intro _; rfl
    | cons y r ih =>
      intro h
      obtain ⟨n, k⟩ := y
      rw [clGo, if_neg (by simpa using h (n, k) List.mem_cons_self)]
      exact ih fun y hy => h y (List.mem_cons_of_mem _ hy)
  rw [key _ h]

theorem ok_sortKey (g : Gnd h₀ G fa mg mb) {env : Env} {vs : Vs} {e body : Expr} {a b : E} {params : Arguments} {scope : Scope} {lpos kp pf pos : Pos} {x : Str} {arg : Arg} {c P : Addr} (hx : G.lookup ("sorted" : Str) = none) (hk : isGlob env.scope ("sorted" : Str) = true) (hn : NoStar e) (he : EOk prog w h₀ C (d + 2) env vs e a)
    (L : LamOk params scope x arg) (hdef : defaultsOf params env = ([], [])) (hcode : env.code = .ref c) (hC : CodeHd h₀ c P) (hb : h₀.BuiltinsAt mg P) (hgP : mainGlobals ≠ P) (hB : ∀ env, env.scope = scope → EOk prog w h₀ C d env [(x, 0)] body b) :
    EOk prog w h₀ C (d + 2) env vs (.Call (.Name ("sorted" : Str) pf) [e] [⟨some "key", .Lambda params body scope lpos, kp⟩] pos) (.sortKey P a b) := fun A s φ σ ρ Q X R S F q => by
  rw [wpE] at q
  show wpAny (model prog w) A (do callWith pos (← eval (.Name ("sorted" : Str) pf) env) [] (backTo pos (starEach [e] env)) (backToKw pos (keywordEach [⟨some "key", .Lambda params body scope lpos, kp⟩] env))) _ _ s
  refine wpAny_bind (name_blt g S F hx (by decide) boot_sorted hk ?_)
  refine callWith_kw ?_ (by rw [hn [] env]; rfl) (noStars_cons hn noStars_nil env pos) rfl rfl
  refine wpAny_mono (lok_cons hn he lok_nil A s φ σ ρ _ X pos R S F (wpL_one q)) (fun vals s₁ y => ?_) fun _ _ e => e
  obtain ⟨φ₁, σ₁, Vs₁, st₁, rl, _, V, rfl, n, Vs, rfl, hσ, en, h64, q₁⟩ := y
  match vals, rl with
  | [], rl => rw [RelL] at rl; exact rl.elim
  | _ :: _ :: _, rl => simp [RelL] at rl
  | [v], rl =>
  rw [RelL] at rl
  obtain ⟨l, items, z, rfl, el, gl, rr, hz⟩ := st₁.sim.list en rl.1
  have F₁ := F.step S st₁
  obtain ⟨pa, epa, hpa, gP⟩ := st₁.sim.obj 1 _ hσ
  subst hpa
  refine kws_cons (kla_eval hdef ?_)
  refine kla_makeFunction (mg := mg) (no_closure L.free) F₁.glob (g.ns.keeps st₁.sim.keep) hcode (hC.keeps st₁.sim.keep) gP trivial rfl hgP (by
    obtain ⟨bm, ob, b1, b2, b3, b4, b5, b6⟩ := hb
    exact ⟨bm, ob, b1, b2, b3, b4, st₁.sim.keep _ _ b5, b6⟩) fun c' ctv h' tk hext hge hlt hrec htb => ?_
  refine kws_nil ?_
  have stG := Step.gone (us := #[] ++ #[rawInt lpos.line, rawInt lpos.col, .ref c']) (tk := tk) st₁.sim hσ (h' := h'.push (kla_obj "<lambda>" (env.qual ++ "<lambda>") params body scope [] ((mg "__name__").getD .none) c' ctv)) (fun b o hb e => Heap.get?_push_of_some _ (hext b o hb e)) (Heap.get?_push_of_some _ htb)
  generalize hs₂ : ({ s₁ with heap := h'.push (kla_obj "<lambda>" (env.qual ++ "<lambda>") params body scope [] ((mg "__name__").getD .none) c' ctv), toks := tk } : Shared) = s₂ at stG ⊢
  have gf : s₂.heap.get? h'.objs.size = some (kla_obj "<lambda>" (env.qual ++ "<lambda>") params body scope [] ((mg "__name__").getD .none) c' ctv) := by rw [← hs₂]; exact Heap.get?_push_size _ rfl
  obtain ⟨c₂, oc, ocv, tq, e2, hoc, hocd, hocq⟩ := hrec
  cases e2
  have gc : s₂.heap.get? c' = some oc := by rw [← hs₂]; exact Heap.get?_push_of_some _ hoc
  have hnew : ∀ b, s₁.heap.objs.size ≤ b → b ∉ φ₁ := fun b hb m => Nat.lt_irrefl _ (Nat.lt_of_lt_of_le (st₁.sim.lt m) hb)
  have hfφ : h'.objs.size ∉ φ₁ := hnew _ (Nat.le_trans hge (Nat.le_of_lt hlt))
  have hcφ : c' ∉ φ₁ := hnew _ hge
  -- the list of boxes, after
  have gl₂ : ∃ z, s₂.heap.get? l = some { cls := .type "list", data := .seq items z } ∧ RelL s₂.heap φ₁ Vs items.toList := by
    have en₂ : (σ₁.set 1 .gone)[n]? = some (.list Vs) := by
      have : 1 ≠ n := fun h => by rw [← h, hσ] at en; cases en
      rw [set_get_ne this]; exact en
    have r₂ : Rel s₂.heap φ₁ (.ref n) (.ref l) := by rw [Rel]; exact ⟨l, rfl, el⟩
    obtain ⟨l', it', z', e1, _, g1, r1, _⟩ := stG.sim.list en₂ r₂
    cases e1
    have hl : l ≠ pa := fun h => by
      have g2 : s₁.heap.get? l = some { cls := .type "list", data := .seq items z } := gl
      rw [h, gP] at g2; cases g2
    have g3 : s₂.heap.get? l = some { cls := .type "list", data := .seq items z } := by rw [← hs₂]; exact Heap.get?_push_of_some _ (hext l _ hl gl)
    have g4 : s₂.heap.get? l = some { cls := .type "list", data := .seq it' z' } := g1
    rw [g3] at g4; cases g4
    exact ⟨z, g3, r1⟩
  obtain ⟨z₂, gl₂, rr₂⟩ := gl₂
  have hlen : items.toList.length = Vs.length := rr₂.length.symm
  have gL : s₂.heap.IsList l items.toList.toArray := by rw [Array.toArray_toList]; exact ⟨_, gl₂, rfl, z₂, rfl⟩
  show wpAny (model prog w) A (call (.builtin "sorted") [.ref l] [(Str.ofString "key", .ref h'.objs.size)]) _ _ s₂
  refine call_function_entry_kw kind_sorted plain_sorted entry_sorted (ksk_s1 _ _) ?_
  unfold Builtin.«sorted»
  refine wpAny_bind (m := checkCount "sorted" 1 1 _) (wpAny_pure ?_)
  refine wpAny_bind (collect_list gL ?_ (by rw [sizeLine_eq]; omega))
  refine wpAny_bind (wpAny_newList ?_ (by rw [sizeLine_eq]; omega))
  have hsz : ((s₂.heap.push (seqObj "list" #[] 0)).update s₂.heap.objs.size (Obj.mapSeq (· ++ items.toList.toArray))).objs.size = s₂.heap.objs.size + 1 := by
    rw [Heap.size_update, size_push']
  generalize hh₃ : ((s₂.heap.push (seqObj "list" #[] 0)).update s₂.heap.objs.size (Obj.mapSeq (· ++ items.toList.toArray))).push (seqObj "list" items.toList.toArray 0) = h₃
  have hoL : h₃.get? (s₂.heap.objs.size + 1) = some (seqObj "list" items.toList.toArray 0) := by
    rw [← hh₃, ← hsz]; exact Heap.get?_push_size _ rfl
  have kk₃ : ∀ b o, s₂.heap.get? b = some o → h₃.get? b = some o := fun b o e => by
    rw [← hh₃]
    refine Heap.get?_push_of_some _ ?_
    rw [Heap.get?_update_ne _ _ _ _ (Nat.ne_of_lt (Heap.lt_size e))]
    exact Heap.get?_push_of_some _ e
  have st₃ : Step h₀ noOwn s₂ { s₂ with heap := h₃ } φ₁ φ₁ (σ₁.set 1 .gone) := Step.keeps stG.sim s₂.toks kk₃
  have fr := fresh_none stG.sim (Nat.le_succ s₂.heap.objs.size)
  have hDφ : s₂.heap.objs.size + 1 ∉ φ₁ := fun m => Nat.lt_irrefl _ (Nat.lt_trans (Nat.lt_succ_self _) (stG.sim.lt m))
  rw [hsz]
  refine wpAny_bind (wpAny_holding (wpAny_call_entry_kw (s := { s₂ with heap := h₃ }) slot_list_sort ⟨_, hoL, rfl⟩ entry_list_sort ?_ (ksk_l1 _ _)))
  rw [ksk_t1]
  refine key_tree (s := { s₂ with heap := h₃ }) (s₀ := s₂) (φ := φ₁) (σ := σ₁.set 1 .gone) (Vs := Vs) (K := fun y σ R => wpE C b [y] σ R X) (Q := Q) (objs := [(h'.objs.size, kla_obj "<lambda>" (env.qual ++ "<lambda>") params body scope [] ((mg "__name__").getD .none) c' ctv), (c', oc)])
    st₃.sim st₃ fr.2 fr.1 hDφ (fun p hp => ?_) hoL (rr₂.step stG.sim st₃) (by omega) (fun kS t φt σt V v Rt St O r k => ?_) q₁ fun s' hpv => ⟨_, rfl, wpAny_pure ⟨_, rfl, PV.trans (st₁.trans stG) hpv⟩⟩
  · simp only [List.mem_cons, List.not_mem_nil, or_false] at hp
    rcases hp with rfl | rfl
    · exact ⟨kk₃ _ _ gf, hfφ, Nat.ne_of_lt (Nat.lt_succ_of_lt (Heap.lt_size gf))⟩
    · exact ⟨kk₃ _ _ gc, hcφ, Nat.ne_of_lt (Nat.lt_succ_of_lt (Heap.lt_size gc))⟩
  · have o1 := O _ List.mem_cons_self
    have o2 := O _ (List.mem_cons_of_mem _ List.mem_cons_self)
    refine lam_call g L ⟨R.hd, ?_, ?_⟩ St o1.1 ⟨c', oc, ocv, tq, rfl, o2.1, hocd, hocq⟩ r hB k
    · have := R.depth; show A.depth + (d + 1) < 900; omega
    · have := R.units; show A.units + 1 + 1 + 3 * (d + 1) < 9000; omega
end
end Mine

/-! KHeadK -/
namespace Mine
open PySem PySem.Calls PySem.W PyProof.Rows

/-- its tree -/
noncomputable def keyBody (x y : Str) (lp : Arguments) (ls : Scope) (k k1 k2 : Nat) (p : Nat → Pos) : List Stmt :=
  [.Return (some (.Call (.Name ("sorted" : Str) (p 0)) [.Name x (p 1)] [⟨some "key", .Lambda lp (.Tuple [.UnaryOp .USub (.Subscript (.Name y (p 2)) (.Constant (.int 2) k1 (p 3)) (p 4)) (p 5), .UnaryOp .USub (.Subscript (.Name y (p 6)) (.Constant (.int 1) k2 (p 7)) (p 8)) (p 9)] k (p 10)) ls (p 11), p 12⟩] (p 13))) (p 14)]

theorem fnok_key {prog : Program} {w : World} {h₀ : Heap} {G : GlT} {fa : Nat → Addr} {mg mb : Str → Option Value} (g : Gnd h₀ G fa mg mb) {params lp : Arguments} {sc ls : Scope} {x y : Str} {xa ya : Arg} {k k1 k2 : Nat} {p : Nat → Pos} {c P : Addr}
    (D : DefOk params sc [xa] [(x, 0)]) (hG : G.lookup ("sorted" : Str) = none) (hk : isGlob sc ("sorted" : Str) = true) (hx : isVar sc x = true) (hx1 : (x == ("__debug__" : Str)) = false) (hx2 : (x == ("__classdict__" : Str)) = false)
    (L : LamOk lp ls y ya) (hy : isVar ls y = true) (hy1 : (y == ("__debug__" : Str)) = false) (hy2 : (y == ("__classdict__" : Str)) = false)
    (hC : CodeHd h₀ c P) (hb : h₀.BuiltinsAt mg P) (hgP : mainGlobals ≠ P) : FnOk prog w h₀ G fa params (keyBody x y lp ls k k1 k2 p) sc (.ref c) (keyFn P) := by
  refine ⟨[xa], [(x, 0)], D, rfl, fun C d _ hd env he hcode => ?_⟩
  obtain ⟨d, rfl⟩ : ∃ e, d = e + 2 := ⟨d - 2, by have : (2 : Nat) ≤ d := hd; omega⟩
  refine ssok_cons (sok_ret (ok_sortKey g hG (by rw [he]; exact hk) (fun _ _ => rfl) (ok_loc (by simp) (by rw [he]; exact hx) hx1 hx2) L (by rw [L.plain]; rfl) hcode hC hb hgP fun env he => ?_)) ssok_nil
  have hl : ∀ q : Pos, EOk prog w h₀ C d env [(y, 0)] (.Name y q) (.loc 0) := fun q => ok_loc (by simp) (by rw [he]; exact hy) hy1 hy2
  exact ok_tup (lok_cons (fun _ _ => rfl) (ok_neg (ok_sub (fun _ _ => rfl) (hl _) ok_int)) (lok_cons (fun _ _ => rfl) (ok_neg (ok_sub (fun _ _ => rfl) (hl _) ok_int)) lok_nil)) (by decide)

section
variable {h : Heap} {P : Addr} (hP : h.get? P = some { cls := .none, data := .fields #[] })
include hP
theorem hid {b : Addr} {o : Obj} (e : h.get? b = some o) (hd : o.data ≠ .fields #[]) : (h.hide P).get? b = some o := by
  rw [Heap.hide_ne _ fun q => ?_]
  · exact e
  · rw [q, hP] at e; cases e; exact hd rfl
theorem hid_ns {a : Addr} {m : Str → Option Value} (x : h.Ns a m) : (h.hide P).Ns a m := by
  obtain ⟨o, es, ep, e, d, r⟩ := x
  exact ⟨o, es, ep, hid hP e (by rw [d]; exact fun q => by cases q), d, r⟩
theorem ns_ne {a : Addr} {m : Str → Option Value} (x : h.Ns a m) : a ≠ P := fun q => by
  obtain ⟨o, es, ep, e, d, r⟩ := x
  rw [q, hP] at e; cases e; cases d
theorem hid_rec {v : Value} {q : Str} (x : h.CodeRec v q) : (h.hide P).CodeRec v q := by
  obtain ⟨c, o, vs, t, e, g, d, r⟩ := x
  refine ⟨c, o, vs, t, e, hid hP g fun z => ?_, d, r⟩
  rw [d] at z; cases z; simp at r
theorem hid_gnd {G : GlT} {fa : Nat → Addr} {mg mb : Str → Option Value} (g : Gnd h G fa mg mb) : Gnd (h.hide P) G fa mg mb where
  ns := hid_ns hP g.ns
  nsb := hid_ns hP g.nsb
  nolimit := let ⟨mc, a, b⟩ := g.nolimit; ⟨mc, hid_ns hP a, b⟩
  fn := g.fn
  isfn := fun x i hx => let ⟨o, fd, e, d⟩ := g.isfn x i hx; ⟨o, fd, hid hP e (by rw [d]; exact fun q => by cases q), d⟩
  blt := g.blt
  bv := g.bv
end

theorem law_key {p q : Program} {w : World} {loose : List Str} {mean : ExcName → Option Value} {mg mb : Str → Option Value} {s₁ : Shared} {d₀ : DefRec} {P' : List Fn} {extra : Nat} {cl : ClaimW} {cw : Str → Option Addr} {args : List WData} {a l : Addr} {vs : List Value} {xs : List Int} {i d : Nat} {name : Str}
    (T : Top q loose mean mg mb s₁.heap) (hb : bltFree q loose = true) (hh : (recsOf q).head? = some d₀) (hP : readAll (glAll q) (recsOf q).tail extra = some P') (hi : (glAll q).lookup name = some (.fn i)) (hd : d ≤ 500) (hmg : mg name = some (.ref a)) (hg : s₁.gens = #[])
    (hkey : ∀ h₀ (_ : Gnd h₀ (glAll q) (addrOf mg (recsOf q)) mg mb) c P, CodeHd h₀ c P → h₀.BuiltinsAt mg P → mainGlobals ≠ P → FnOk p w h₀ (glAll q) (addrOf mg (recsOf q)) d₀.params d₀.body d₀.scope (.ref c) (keyFn P))
    (hl : s₁.heap.get? l = some { cls := .type "list", data := .seq vs.toArray }) (hv : IntsAre vs xs) (hz : xs.length ≤ 63)
    (hr : ∀ cls, cl.raises args cls = false) (hpost : cl.post args (.bool true) args = true)
    (plain : ∀ P, callW (keyFn P :: P') d i [.ref 0] [.list (xs.map .int), .tab P] (fun v σ => v = .bool true ∧ σ[1]? = some .gone) (fun _ _ => False)) :
    codeAny (model p w) callerA (.call (.ref a) ⟨[.ref l], []⟩) (GoodWG cl cw mean args s₁) s₁ := by
  obtain ⟨ds, hds⟩ : ∃ ds, recsOf q = d₀ :: ds := by
    cases hq : recsOf q with
    | nil => rw [hq] at hh; cases hh
    | cons x r => rw [hq] at hh; cases hh; exact ⟨r, rfl⟩
  have hm₀ : d₀ ∈ recsOf q := by rw [hds]; exact List.mem_cons_self
  obtain ⟨a₀, o₀, fd₀, c, P, t1, t2, t3, t4, t5, t6⟩ := T.tab d₀ hm₀
  have hPt := t6.2
  have g₁ := gnd_of T hb
  have g := hid_gnd hPt g₁
  have hcP : CodeHd (s₁.heap.hide P) c P := by
    obtain ⟨o, vs, file, tf, flags, tg, inF, text, tt, e1, e2, e3, e4, r⟩ := CodeHd.of t5 t6
    refine ⟨o, vs, file, tf, flags, tg, inF, text, tt, hid hPt e1 fun z => ?_, e2, e3, e4, r⟩
    rw [e3] at z; cases z; simp at e4
  have hbP : (s₁.heap.hide P).BuiltinsAt mg P := by
    obtain ⟨bm, ob, b1, b2, b3, b4, b5, b6⟩ := T.bmain
    refine ⟨bm, ob, b1, b2, fun z => ?_, fun z => ?_, hid hPt b3 (by rw [b6]; exact fun q => by cases q), b4, b5, b6⟩
    · obtain ⟨o', es, ep, e, dd, _⟩ := T.g
      rw [z, e] at b3; cases b3; rw [b6] at dd; cases dd
    · rw [z, hPt] at b3; cases b3; cases b6
  have Fs : Funs p w (s₁.heap.hide P) (glAll q) (addrOf mg (recsOf q)) (keyFn P :: P') := ⟨fun x i fn hx hfn => by
    obtain ⟨dd, hdd, rfl⟩ := glAll_fn hx
    obtain ⟨a, o, pm, cd, doc, h1, h2, h3, h4⟩ := T.fn dd (List.mem_of_getElem? hdd)
    have ha : addrOf mg (recsOf q) i = a := by unfold addrOf; rw [hdd]; simp only [h1]
    refine ⟨o, dd.name, dd.params, dd.body, dd.scope, pm, cd, doc, ?_, h3, hid_rec hPt h4, ?_⟩
    · rw [ha]; exact hid hPt h2 (by rw [h3]; exact fun q => by cases q)
    · cases i with
      | zero =>
        rw [hds] at hdd
        cases hdd; cases hfn
        have : cd = .ref c := by
          rw [h1] at t1; cases t1
          rw [h2] at t2; cases t2
          rw [h3] at t3; cases t3
          exact t4
        rw [this]
        exact hkey _ g c P hcP hbP (ns_ne hPt T.g)
      | succ i =>
        rw [hds] at hdd
        rw [hds, List.tail_cons] at hP
        obtain ⟨d', hd', hr⟩ := mapO_get _ hP (show P'[i]? = some fn from hfn)
        rw [show ds[i]? = some dd from hdd] at hd'; cases hd'
        exact fnok_of g hr⟩
  have ha : a = addrOf mg (recsOf q) i := by
    have := g.fn name i hi
    rw [hmg] at this; cases this; rfl
  subst ha
  have hlP : l ≠ P := fun z => by rw [z, hPt] at hl; cases hl
  have S : Sim (s₁.heap.hide P) s₁.heap [l, P] [.list (xs.map .int), .tab P] := by
    refine ⟨fun _ _ e => Heap.of_hide e, rfl, by simp [hlP], fun n b hn => ?_, fun n o e => ?_⟩
    · match n, hn with
      | 0, hn => simp at hn; subst hn; exact Heap.hide_self _ _
      | n + 1, hn => simp at hn
    · match n, e with
      | 0, e =>
        simp at e; subst e
        exact ⟨l, rfl, vs.toArray, ⟨0, hl⟩, by simpa using relL_ints hv, by simp; omega⟩
      | 1, e =>
        simp at e; subst e
        exact ⟨P, rfl, rfl, hPt⟩
      | n + 2, e => simp at e
  have R : ROk callerA d := ⟨rfl, by show 1 + claimMargin + d < 900; unfold claimMargin; omega, by show 4 + 3 * d < 9000; omega⟩
  refine codeAny_mono (csound (prog := p) (w := w) g Fs d name i hi callerA s₁ [l, P] _ [.ref 0] [.ref l] _ _ R S (by simp only [RelL, Rel]; exact ⟨⟨l, rfl, rfl⟩, trivial⟩) (plain P)) fun r s' y => ?_
  match r, y with
  | .ok (.ret v), y =>
    obtain ⟨φ', σ', V, st, rl, rfl, hgone⟩ := y
    rw [Rel] at rl
    subst rl
    refine ⟨.inl ⟨.bool true, .bool true, [], rfl, hr, .bool true, hpost, fun _ => ⟨List.nodup_nil, fun _ h => by cases h⟩⟩, ?_, st.only.1, .of_eq (st.only.2.trans hg)⟩
    obtain ⟨aP, eP, us, hus⟩ := st.sim.obj 1 _ hgone
    have : aP = P := by
      obtain ⟨t, rfl⟩ := st.pre
      simpa using eP.symm
    subst this
    have kp : ∀ b o, b ≠ aP → s₁.heap.get? b = some o → s'.heap.get? b = some o := fun b o hb e => st.sim.keep b o (by rw [Heap.hide_ne _ hb]; exact e)
    refine ⟨fun b o e => ?_, fun b o e => ?_⟩
    · by_cases hb : b = aP
      · subst hb
        rw [hPt] at e; cases e
        exact .inr (.inl ⟨t6.isCodeTable, rfl, #[], us, rfl, by rw [hus]; simp⟩)
      · exact .inl (kp b o hb e)
    · by_cases hb : b = aP
      · subst hb; exact ⟨_, hus⟩
      · exact ⟨o, kp b o hb e⟩
  | .ok .next, y => exact y.elim
  | .ok .brk, y => exact y.elim
  | .ok .cont, y => exact y.elim
  | .error e, y => exact y.elim

/-- the def by_size -/
noncomputable def key07 : DefRec where
  name := "by_size"
  params := ⟨[], [⟨"boxes", none, ⟨2, 12, 2, 17⟩⟩], none, [], [], none, []⟩
  body := keyBody "boxes" "box" ⟨[], [⟨"box", none, ⟨3, 36, 3, 39⟩⟩], none, [], [], none, []⟩ { kind := .function, names := [("box", .local)], isGenerator := false, isCoroutine := false, more := [] } 0 0 0 fun i => ([⟨3, 11, 3, 17⟩, ⟨3, 18, 3, 23⟩, ⟨3, 43, 3, 46⟩, ⟨3, 47, 3, 48⟩, ⟨3, 43, 3, 49⟩, ⟨3, 42, 3, 49⟩, ⟨3, 52, 3, 55⟩, ⟨3, 56, 3, 57⟩, ⟨3, 52, 3, 58⟩, ⟨3, 51, 3, 58⟩, ⟨3, 41, 3, 59⟩, ⟨3, 29, 3, 59⟩, ⟨3, 25, 3, 59⟩, ⟨3, 11, 3, 60⟩, ⟨3, 4, 3, 60⟩] : List Pos).getD i ⟨0, 0, 0, 0⟩
  scope := { kind := .function, names := [("boxes", .local), ("sorted", .globalImplicit)], isGenerator := false, isCoroutine := false, more := [] }
  pos := ⟨2, 0, 3, 60⟩
theorem fnok07 {prog : Program} {w : World} {h₀ : Heap} {G : GlT} {fa : Nat → Addr} {mg mb : Str → Option Value} (g : Gnd h₀ G fa mg mb) {c P : Addr} (hG : G.lookup ("sorted" : Str) = none) (hC : CodeHd h₀ c P) (hb : h₀.BuiltinsAt mg P) (hgP : mainGlobals ≠ P) :
    FnOk prog w h₀ G fa key07.params key07.body key07.scope (.ref c) (keyFn P) := by
  dsimp only [key07]
  exact fnok_key g (x := "boxes") (y := "box") (xa := ⟨"boxes", none, ⟨2, 12, 2, 17⟩⟩) (ya := ⟨"box", none, ⟨3, 36, 3, 39⟩⟩) ⟨rfl, by decide +kernel, by kernel_rfl, by decide +kernel, rfl, rfl, rfl⟩ hG (by decide +kernel) (by decide +kernel) (by decide +kernel) (by decide +kernel) ⟨rfl, rfl, rfl, rfl, rfl, by decide +kernel, by decide +kernel, by decide +kernel⟩ (by decide +kernel) (by decide +kernel) (by decide +kernel) hC hb hgP
end Mine

/-! L07 -/
namespace Mine
open PySem

noncomputable def f07_1 : Fn := ⟨2, 3, [
    .if_ (.cmp (.loc 1) [.lt] [(.prim .len [(.loc 0)])]) [.ret (some (.sub (.loc 0) (.loc 1)))] [],
    .ret (some (.int 0))]⟩
noncomputable def f07_2 : Fn := ⟨2, 5, [
    .assign (.var 2) (.sub (.list [(.int 3), (.int 3), (.bin .pow (.int 10) (.int 6))]) (.bin .mod (.loc 0) (.int 3))),
    .assign (.var 3) (.bin .mod (.bin .mul (.loc 0) (.int 48271)) (.int 2147483647)),
    .ret (some (.tup [(.prim .str [(.loc 1)]), (.bin .add (.int 1) (.bin .mod (.bin .floordiv (.loc 0) (.int 3)) (.loc 2))), (.bin .add (.int 1) (.bin .mod (.loc 3) (.loc 2))), (.cmp (.bin .mod (.bin .floordiv (.loc 0) (.int 9)) (.int 2)) [.eq] [(.int 1)])]))]⟩
noncomputable def f07_3 : Fn := ⟨1, 2, [
    .if_ (.or [(.not (.prim (.isinst .tuple) [(.loc 0)])), (.cmp (.prim .len [(.loc 0)]) [.ne] [(.int 4)]), (.not (.prim (.isinst .str) [(.sub (.loc 0) (.int 0))]))]) [.ret (some (.bool false))] [],
    .if_ (.or [(.not (.prim (.isinst .int) [(.sub (.loc 0) (.int 1))])), (.not (.prim (.isinst .int) [(.sub (.loc 0) (.int 2))])), (.not (.prim (.isinst .bool) [(.sub (.loc 0) (.int 3))]))]) [.ret (some (.bool false))] [],
    .ret (some (.and [(.not (.prim (.isinst .bool) [(.sub (.loc 0) (.int 1))])), (.not (.prim (.isinst .bool) [(.sub (.loc 0) (.int 2))]))]))]⟩
noncomputable def f07_4 : Fn := ⟨2, 3, [
    .if_ (.cmp (.sub (.loc 0) (.int 2)) [.ne] [(.sub (.loc 1) (.int 2))]) [.ret (some (.cmp (.sub (.loc 0) (.int 2)) [.gt] [(.sub (.loc 1) (.int 2))]))] [],
    .if_ (.cmp (.sub (.loc 0) (.int 1)) [.ne] [(.sub (.loc 1) (.int 1))]) [.ret (some (.cmp (.sub (.loc 0) (.int 1)) [.gt] [(.sub (.loc 1) (.int 1))]))] [],
    .ret (some (.cmp (.prim .int [(.sub (.loc 0) (.int 0))]) [.lt] [(.prim .int [(.sub (.loc 1) (.int 0))])]))]⟩
noncomputable def f07_5 : Fn := ⟨1, 7, [
    .assign (.var 1) (.bin .mod (.call 1 [(.loc 0), (.int 0)]) (.int 13)),
    .if_ (.cmp (.bin .mod (.bin .floordiv (.call 1 [(.loc 0), (.int 0)]) (.int 13)) (.int 5)) [.eq] [(.int 1)]) [.assign (.var 1) (.bin .add (.int 13) (.bin .mod (.bin .floordiv (.call 1 [(.loc 0), (.int 0)]) (.int 65)) (.int 50)))] [],
    .assign (.var 3) (.comp (.call 2 [(.bin .add (.call 1 [(.loc 0), (.bin .add (.int 1) (.loc 6))]) (.bin .floordiv (.bin .mul (.int 7) (.loc 6)) (.int 11))), (.loc 6)]) (.var 6) .range [(.loc 1)] []),
    .assign (.var 4) (.prim .list [(.loc 3)]),
    .assign (.var 5) (.call 0 [(.loc 4)]),
    .if_ (.or [(.cmp (.loc 4) [.ne] [(.loc 3)]), (.not (.prim (.isinst .list) [(.loc 5)])), (.cmp (.prim .len [(.loc 5)]) [.ne] [(.loc 1)])]) [.ret (some (.bool false))] [],
    .for_ (.var 2) .range [(.loc 1)] [.if_ (.or [(.not (.call 3 [(.sub (.loc 5) (.loc 2))])), (.cmp (.sub (.loc 3) (.loc 2)) [.notin] [(.loc 5)]), (.cmp (.sub (.loc 5) (.loc 2)) [.notin] [(.loc 3)])]) [.ret (some (.bool false))] [], .if_ (.and [(.cmp (.loc 2) [.gt] [(.int 0)]), (.not (.call 4 [(.sub (.loc 5) (.bin .sub (.loc 2) (.int 1))), (.sub (.loc 5) (.loc 2))]))]) [.ret (some (.bool false))] []],
    .expr (.append (.loc 5) (.tup [(.str (Str.ofString "")), (.int 1), (.int 1), (.bool true)])),
    .ret (some (.cmp (.loc 4) [.eq] [(.loc 3)]))]⟩
noncomputable def P07 : List Fn := [f07_1, f07_2, f07_3, f07_4, f07_5]

local macro_rules | `(tactic| wtm_at "mine rfl") => `(tactic| with_unfolding_all rfl)
local macro_rules | `(tactic| wtm_at "mine ref") => `(tactic| first | assumption | with_unfolding_all rfl | exact get_last | (refine get_app ?_; wtm_at "mine ref"))
local macro_rules | `(tactic| wtm_at "mine s") => `(tactic| with_reducible first
 | refine s_cons ?_ | refine e_loc (by wtm_at "mine rfl") (by wtm_at "mine rfl") ?_ | refine e_int ?_ | refine l_cons ?_ | refine l_nil ?_ | refine e_bin ?_
 | refine k_next ?_ | refine r_add ?_ | refine r_sub ?_ | refine r_mul (by omega) ?_ | refine r_mod (by omega) ?_ | refine r_div (by omega) ?_
 | refine e_call ?_ | refine s_var ?_ | refine e_sub ?_ | refine r_subT (by omega) (by wtm_at "mine rfl") ?_ | refine e_tup ?_ | refine s_if ?_
 | refine t_cmp ?_ | refine c_one ?_ | refine cm_eq ?_ | refine cm_lt ?_ | refine cm_gt ?_ | refine cm_ne ?_ 
 | refine t_and ?_ | refine t_or ?_ | refine t_not ?_ | refine ts_cons ?_ | refine ts_nil ?_ | refine to_cons ?_ | refine to_nil ?_ | refine t_call ?_ | refine t_prim ?_ 
 | refine tr_bool ?_ 
 | refine ite_t ?_ | refine ite_f ?_ | refine ite_nt ?_ | refine ite_nf ?_ 
 | refine bd_var ?_ 
 | refine s_ret ?_ | refine s_nil ?_ | refine s_expr ?_ | refine s_for ?_ | refine k_ret ?_ | refine k_ret' ?_ 
 | refine e_and ?_ | refine e_or ?_ | refine e_not ?_ | refine e_cmp ?_ | refine b_cons ?_ | refine b_one ?_ | refine e_bool ?_ | refine e_str ?_ | refine e_list ?_ | refine e_prim ?_ | refine e_append ?_ | refine e_neg ?_ | refine e_comp ?_ 
 | refine r_pow6 ?_ | refine r_len (by wtm_at "mine ref") ?_ 
 | refine r_isB ?_ | refine r_isI ?_ | refine r_isIB ?_ | refine r_isT ?_ | refine r_isL (by wtm_at "mine ref") ?_ | refine r_list (by wtm_at "mine ref") ?_ )
local macro_rules | `(tactic| wtm_at "mine") => `(tactic| repeat wtm_at "mine s")

noncomputable abbrev P7 (T : Addr) : List Fn := keyFn T :: P07
/-- a box: its number, width, height, may be turned -/
structure Bx where
  k : Int
  w : Int
  h : Int
  t : Bool
noncomputable def Bx.nm (b : Bx) : Str := Str.ofString (toString b.k)
noncomputable def Bx.v (b : Bx) : V := .tup [.str b.nm, .int b.w, .int b.h, .bool b.t]
noncomputable def Bx.d (b : Bx) : PyData := .tuple [.str b.nm, .int b.w, .int b.h, .bool b.t]
noncomputable def Bx.row (b : Bx) : List Int := [-b.h, -b.w]
/-- a stands rightly ahead of b -/
noncomputable def Bx.Right (a b : Bx) : Prop := a.h > b.h ∨ (a.h = b.h ∧ (a.w > b.w ∨ (a.w = b.w ∧ a.k < b.k)))
theorem nm_ok : ∀ k : Fin 64, PyData.strOk (Str.ofString (toString ((k.val : Nat) : Int))) = true := by decide +kernel
theorem nm_len : ∀ k : Fin 64, (Str.ofString (toString ((k.val : Nat) : Int))).length ≤ 640 := by decide +kernel
noncomputable def Bx.In (b : Bx) : Prop := 0 ≤ b.k ∧ b.k < 64
theorem nm_is {b : Bx} (h : b.In) : ∃ k : Fin 64, b.nm = Str.ofString (toString ((k.val : Nat) : Int)) := by
  obtain ⟨h0, h1⟩ := h
  refine ⟨⟨b.k.toNat, by omega⟩, ?_⟩
  unfold Bx.nm
  rw [show ((b.k.toNat : Nat) : Int) = b.k by omega]
theorem Bx.ok {b : Bx} (h : b.In) : b.d.canLay0 = true := by
  simp only [Bx.d, PyData.canLay0, PyData.canLayAll0, Bool.and_true]
  obtain ⟨k, e⟩ := nm_is h
  rw [e]; exact nm_ok k

theorem any_of {l : List Bx} {b : Bx} (hb : b ∈ l) (h : ∀ x ∈ l, x.In) : (l.map Bx.d).any (fun y => PyData.eqv y b.d) = true := by
  rw [List.any_eq_true]
  exact ⟨b.d, List.mem_map_of_mem hb, PySem.SeqAt.eqv_refl _ (Bx.ok (h b hb))⟩

theorem getD_map {α : Type} (f : α → V) (l : List α) (d : α) {i : Nat} (h : i < l.length) : (l.map f).getD i .none = f (l.getD i d) := by
  simp [List.getD_eq_getElem?_getD, List.getElem?_eq_getElem h]

theorem sorted07 {bs : List Bx} {p : List Nat} (hk : ∀ (i : Nat) (b : Bx), bs[i]? = some b → b.k = i) (hp : p.Perm (List.range bs.length)) (ho : p.Pairwise (ahead (bs.map Bx.row))) :
    ∃ fs : List Bx, p.map (fun i => (bs.map Bx.v).getD i .none) = fs.map Bx.v ∧ fs.length = bs.length ∧ (∀ b ∈ bs, b ∈ fs) ∧ (∀ b ∈ fs, b ∈ bs) ∧ ∀ (i : Nat) (a b : Bx), fs[i]? = some a → fs[i + 1]? = some b → a.Right b := by
  have hlt : ∀ i ∈ p, i < bs.length := fun i hi => by simpa using hp.mem_iff.mp hi
  refine ⟨p.map fun i => bs.getD i ⟨0, 0, 0, true⟩, ?_, ?_, ?_, ?_, ?_⟩
  · rw [List.map_map]
    exact List.map_congr_left fun i hi => getD_map Bx.v bs _ (hlt i hi)
  · rw [List.length_map, hp.length_eq, List.length_range]
  · intro b hb
    obtain ⟨i, hi, rfl⟩ := List.mem_iff_getElem.mp hb
    exact List.mem_map.mpr ⟨i, hp.mem_iff.mpr (by simpa using hi), by simp [List.getD_eq_getElem?_getD, List.getElem?_eq_getElem hi]⟩
  · intro b hb
    obtain ⟨i, hi, rfl⟩ := List.mem_map.mp hb
    rw [List.getD_eq_getElem?_getD, List.getElem?_eq_getElem (hlt i hi)]
    exact List.getElem_mem _
  · intro i a b ha hb
    rw [List.getElem?_map, Option.map_eq_some_iff] at ha hb
    obtain ⟨x, hx, rfl⟩ := ha
    obtain ⟨y, hy, rfl⟩ := hb
    obtain ⟨hi, rfl⟩ := List.getElem?_eq_some_iff.mp hx
    obtain ⟨hj, rfl⟩ := List.getElem?_eq_some_iff.mp hy
    have h := List.pairwise_iff_getElem.mp ho i (i + 1) hi hj (Nat.lt_succ_self i)
    generalize p[i] = x at *
    have hyl := hlt _ (List.getElem_mem hj)
    generalize p[i + 1] = y at *
    have hxl : x < bs.length := hlt _ (List.mem_of_getElem? hx)
    have gx : bs.getD x ⟨0, 0, 0, true⟩ = bs[x] := by rw [List.getD_eq_getElem?_getD, List.getElem?_eq_getElem hxl]; rfl
    have gy : bs.getD y ⟨0, 0, 0, true⟩ = bs[y] := by rw [List.getD_eq_getElem?_getD, List.getElem?_eq_getElem hyl]; rfl
    have kx : bs[x].k = x := hk x _ (List.getElem?_eq_getElem hxl)
    have ky : bs[y].k = y := hk y _ (List.getElem?_eq_getElem hyl)
    rw [gx, gy]
    have rx : (bs.map Bx.row).getD x [] = [-bs[x].h, -bs[x].w] := by rw [List.getD_eq_getElem?_getD, List.getElem?_map, List.getElem?_eq_getElem hxl]; rfl
    have ry : (bs.map Bx.row).getD y [] = [-bs[y].h, -bs[y].w] := by rw [List.getD_eq_getElem?_getD, List.getElem?_map, List.getElem?_eq_getElem hyl]; rfl
    unfold ahead at h
    rw [rx, ry] at h
    simp only [ltRow] at h
    unfold Bx.Right
    rw [kx, ky]
    generalize bs[x].h = a at *
    generalize bs[y].h = b at *
    generalize bs[x].w = c at *
    generalize bs[y].w = e at *
    by_cases h1 : a = b
    · subst h1
      by_cases h2 : c = e
      · subst h2
        simp at h
        exact .inr ⟨rfl, .inr ⟨rfl, by omega⟩⟩
      · have h3 : ¬ -c = -e := by omega
        have h4 : ¬ -e = -c := by omega
        simp only [if_true, if_neg h3, if_neg h4, decide_eq_true_eq, decide_eq_false_iff_not] at h
        refine .inr ⟨rfl, .inl ?_⟩
        omega
    · have h3 : ¬ -a = -b := by omega
      have h4 : ¬ -b = -a := by omega
      simp only [if_neg h3, if_neg h4, decide_eq_true_eq, decide_eq_false_iff_not] at h
      left; omega

section
variable {T : Addr} {d : Nat} {σ : Store} {Q : V → Store → Prop} {X : XPost}

theorem cm_notin {n : Nat} {l : List Bx} {b : Bx} {K : Bool → Prop} (e : σ[n]? = some (.list (l.map Bx.v))) (hb : b ∈ l) (h : ∀ x ∈ l, x.In) (q : K false) : cmpK σ .notin b.v (.ref n) K := by
  have h1 : toD σ 6 (.ref n) = some (.list (l.map Bx.d)) := toD_map e fun x _ => rfl
  have h2 : toD σ 6 b.v = some b.d := rfl
  have h3 : inV σ b.v (.ref n) = some true := by
    unfold inV
    rw [h1, h2]
    have hc : (b.d.canLay0 && PyData.canLayAll0 (l.map Bx.d)) = true := by
      have := can_map (l := l) (dat := Bx.d) fun x hx => Bx.ok (h x hx)
      simp only [PyData.canLay0] at this
      rw [Bx.ok (h b hb), this]; rfl
    dsimp only
    rw [if_pos hc, any_of hb h]
  unfold cmpK cmpV
  rw [h3]; exact q
theorem eq_boxes {n m : Nat} {l : List Bx} (e : σ[n]? = some (.list (l.map Bx.v))) (e' : σ[m]? = some (.list (l.map Bx.v))) (h : ∀ x ∈ l, x.In) : eqV σ (.ref n) (.ref m) = some true :=
  eqV_self (toD_map e fun x _ => rfl) (toD_map e' fun x _ => rfl) (can_map fun x hx => Bx.ok (h x hx))
theorem r_str {k : Int} (h : 0 ≤ k ∧ k < 64) (q : Q (.str (Str.ofString (toString k))) σ) : (primV .str [.int k] σ).to Q := by
  have : small k = true := by unfold small; simp only [Bool.and_eq_true, decide_eq_true_eq]; omega
  simp only [primV, prim1, strV, this, if_true]; exact q
theorem r_intS {b : Bx} (h : b.In) (q : Q (.int b.k) σ) : (primV .int [.str b.nm] σ).to Q := by
  have h1 : b.nm.length ≤ 640 := by obtain ⟨k, e⟩ := nm_is h; rw [e]; exact nm_len k
  have h2 : intText? b.nm = some b.k := W.KIN.num_reads h.1 (Int.lt_trans h.2 (by decide))
  have h3 : toIntV σ (.str b.nm) = .ok (.int b.k) σ := by simp only [toIntV, if_pos h1, h2, Option.map_some, Res.ofOpt_some]
  show (toIntV σ (.str b.nm)).to Q
  rw [h3]; exact q
theorem r_isS {x : Str} (q : Q (.bool true) σ) : (primV (.isinst .str) [.str x] σ).to Q := q
theorem r_lenT {vs : List V} (h : vs.length = 4) (q : Q (.int 4) σ) : (primV .len [.tup vs] σ).to Q := by
  simp only [primV, prim1, lenV, h, if_pos (show 4 ≤ maxLen by decide)]; exact q

theorem cell07 {xs : List Int} {k : Int} (h : σ[0]? = some (.list (xs.map .int))) (hk : 0 ≤ k) (q : Q (.int (cellAt xs k)) σ) : callW (P7 T) (d + 1) 1 [.ref 0, .int k] σ Q X := by
  refine call_in (fn := f07_1) rfl rfl ?_
  dsimp only [f07_1]
  unfold cellAt at q
  wtm_at "mine"
  rw [List.length_map]
  refine ite_d (fun hl => ?_) fun hl => ?_
  · rw [List.getD_eq_getElem?_getD, List.getElem?_eq_getElem (show k.toNat < xs.length by omega)] at q
    wtm_at "mine"
    refine r_subL h hk (v := .int xs[k.toNat]) ?_ ?_
    · rw [List.getElem?_map, List.getElem?_eq_getElem (show k.toNat < xs.length by omega)]; rfl
    · wtm_at "mine"
      exact q
  · wtm_at "mine"
    rw [List.getD_eq_getElem?_getD, List.getElem?_eq_none (by omega)] at q
    exact q

theorem box07 {c k : Int} (hk : 0 ≤ k ∧ k < 64) (q : ∀ b : Bx, b.k = k → ∀ o, Q b.v (σ ++ [o])) : callW (P7 T) (d + 1) 2 [.int c, .int k] σ Q X := by
  refine call_in (fn := f07_2) rfl rfl ?_
  dsimp only [f07_2]
  wtm_at "mine"
  have hz : ∃ z : Int, 0 < z ∧ ([.int 3, .int 3, .int 1000000] : List V)[(c % 3).toNat]? = some (.int z) := by
    have : c % 3 = 0 ∨ c % 3 = 1 ∨ c % 3 = 2 := by omega
    rcases this with h | h | h <;> rw [h] <;> exact ⟨_, by decide, rfl⟩
  obtain ⟨z, hz, hz'⟩ := hz
  refine r_subL get_last (by omega) hz' ?_
  wtm_at "mine"
  refine r_str hk ?_
  wtm_at "mine"
  exact q ⟨k, _, _, _⟩ rfl _

theorem kinds07 {b : Bx} (q : Q (.bool true) σ) : callW (P7 T) (d + 1) 3 [b.v] σ Q X := by
  refine call_in (fn := f07_3) rfl rfl ?_
  dsimp only [f07_3, Bx.v]
  repeat (wtm_at "mine"; first | refine r_lenT rfl ?_ | refine r_isS ?_)
  wtm_at "mine"
  exact q

theorem right07 {a b : Bx} (ha : a.In) (hb : b.In) (h : a.Right b) (q : Q (.bool true) σ) : callW (P7 T) (d + 1) 4 [a.v, b.v] σ Q X := by
  refine call_in (fn := f07_4) rfl rfl ?_
  dsimp only [f07_4, Bx.v]
  unfold Bx.Right at h
  wtm_at "mine"
  refine ite_nd (fun h1 => ?_) fun h1 => ?_
  · wtm_at "mine"
    rw [decide_eq_true (by omega)]; exact q
  wtm_at "mine"
  refine ite_nd (fun h2 => ?_) fun h2 => ?_
  · wtm_at "mine"
    rw [decide_eq_true (by omega)]; exact q
  wtm_at "mine"
  refine r_intS ha ?_
  wtm_at "mine"
  refine r_intS hb ?_
  wtm_at "mine"
  rw [decide_eq_true (by omega)]; exact q

theorem keys_go {C : Oracle} {R : List V → Store → Prop} : ∀ (bs : List Bx) (acc : List Bx), R ((acc ++ bs).map fun b => .tup (b.row.map .int)) σ →
    keysW (fun y σ₂ R' => wpE C (.tup [.neg (.sub (.loc 0) (.int 2)), .neg (.sub (.loc 0) (.int 1))]) [y] σ₂ R' X) (bs.map Bx.v) (acc.map fun b => .tup (b.row.map .int)) σ R
  | [], acc, q => by rw [List.map_nil, keysW]; simpa using q
  | b :: bs, acc, q => by
    rw [List.map_cons, keysW]
    dsimp only [Bx.v]
    wtm_at "mine"
    have := keys_go (C := C) (R := R) bs (acc ++ [b]) (by simpa using q)
    rw [List.map_append] at this
    exact this
theorem rows_go : ∀ bs : List Bx, rowsOf (bs.map fun b => .tup (b.row.map .int)) = some (bs.map Bx.row)
  | [] => rfl
  | b :: bs => by rw [List.map_cons, rowsOf, rows_go bs]; rfl

theorem size07 {n : Nat} {bs : List Bx} (hT : σ[1]? = some (.tab T)) (e : σ[n]? = some (.list (bs.map Bx.v))) (hz : bs.length < 64) (hk : ∀ (i : Nat) (b : Bx), bs[i]? = some b → b.k = i)
    (q : ∀ fs : List Bx, fs.length = bs.length → (∀ b ∈ bs, b ∈ fs) → (∀ b ∈ fs, b ∈ bs) → (∀ (i : Nat) (a b : Bx), fs[i]? = some a → fs[i + 1]? = some b → a.Right b) → Q (.ref (σ.set 1 .gone).length) (σ.set 1 .gone ++ [.list (fs.map Bx.v)])) :
    callW (P7 T) (d + 3) 0 [.ref n] σ Q X := by
  refine call_in (fn := keyFn T) rfl rfl ?_ (by show 2 ≤ d + 2; omega)
  dsimp only [keyFn]
  wtm_at "mine"
  refine e_sortKey ?_
  wtm_at "mine"
  refine ⟨n, _, rfl, hT, e, by rw [List.length_map]; exact hz, keys_go bs [] ⟨_, rows_go _, fun r hr => ?_, fun p hp ho => ?_⟩⟩
  · simp only [List.nil_append, List.mem_map] at hr
    obtain ⟨b, _, rfl⟩ := hr
    exact fun h => by cases h
  rw [List.length_map] at hp
  obtain ⟨fs, h1, h2, h3, h4, h5⟩ := sorted07 hk hp (by simpa using ho)
  rw [h1]
  wtm_at "mine"
  exact q fs h2 h3 h4 h5

theorem tail07 {n₂ n₃ n₄ : Nat} {m : Int} {bs fs : List Bx} {v0 v6 : V} (hm : bs.length = m.toNat) (h0 : 0 ≤ m ∧ m < 64) (hk : ∀ b ∈ bs, b.In) (e1 : σ[1]? = some .gone) (e2 : σ[n₂]? = some (.list (bs.map Bx.v))) (e3 : σ[n₃]? = some (.list (bs.map Bx.v))) (e4 : σ[n₄]? = some (.list (fs.map Bx.v)))
    (ne : n₄ ≠ 0 ∧ n₄ ≠ 1 ∧ n₄ ≠ n₂ ∧ n₄ ≠ n₃) (f1 : fs.length = bs.length) (f2 : ∀ b ∈ bs, b ∈ fs) (f3 : ∀ b ∈ fs, b ∈ bs) (f4 : ∀ (i : Nat) (a b : Bx), fs[i]? = some a → fs[i + 1]? = some b → a.Right b) :
    wpSs (callW (P7 T) 59) (f07_5.body.drop 5) [v0, .int m, .undef, .ref n₂, .ref n₃, .ref n₄, v6] σ (retK (fun v σ => v = .bool true ∧ σ[1]? = some .gone) X) := by
  have hf : ∀ b ∈ fs, b.In := fun b hb => hk b (f3 b hb)
  dsimp only [f07_5, List.drop]
  wtm_at "mine"
  refine cm_neV (eq_boxes e3 e2 hk) ?_
  wtm_at "mine"
  rw [List.length_map, f1, hm, show ((m.toNat : Nat) : Int) = m by omega, decide_eq_true rfl]
  wtm_at "mine"
  refine f_range (fun _ ρ σ' => σ' = σ ∧ ∃ v5, ρ = [v0, .int m, v5, .ref n₂, .ref n₃, .ref n₄, v6]) (by omega) ⟨rfl, _, rfl⟩ (fun k ρ σ' K hkm hI h1 _ _ _ _ => ?_) fun ρ σ' hI => ?_
  · obtain ⟨rfl, v5, rfl⟩ := hI
    have lb : k < bs.length := by omega
    have lf : k < fs.length := by omega
    have gb : (bs.map Bx.v)[(k : Int).toNat]? = some bs[k].v := by rw [Int.toNat_natCast, List.getElem?_map, List.getElem?_eq_getElem lb]; rfl
    have gf : (fs.map Bx.v)[(k : Int).toNat]? = some fs[k].v := by rw [Int.toNat_natCast, List.getElem?_map, List.getElem?_eq_getElem lf]; rfl
    wtm_at "mine"
    refine r_subL e4 (by omega) gf ?_
    wtm_at "mine"
    refine kinds07 ?_
    wtm_at "mine"
    refine r_subL e2 (by omega) gb ?_
    wtm_at "mine"
    refine cm_notin e4 (f2 _ (List.getElem_mem lb)) hf ?_
    wtm_at "mine"
    refine r_subL e4 (by omega) gf ?_
    wtm_at "mine"
    refine cm_notin e2 (f3 _ (List.getElem_mem lf)) hk ?_
    wtm_at "mine"
    refine ite_d (fun hp => ?_) fun hp => ?_
    · wtm_at "mine"
      have l' : k - 1 < fs.length := by omega
      refine r_subL e4 (by omega) (v := (fs[k - 1]).v) (by rw [show ((k : Int) - 1).toNat = k - 1 by omega, List.getElem?_map, List.getElem?_eq_getElem l']; rfl) ?_
      wtm_at "mine"
      refine r_subL e4 (by omega) gf ?_
      wtm_at "mine"
      refine right07 (hf _ (List.getElem_mem l')) (hf _ (List.getElem_mem lf)) (f4 (k - 1) _ _ (List.getElem?_eq_getElem l') ?_) ?_
      · rw [show k - 1 + 1 = k by omega]; exact List.getElem?_eq_getElem lf
      wtm_at "mine"
      exact h1 _ _ ⟨rfl, _, rfl⟩
    · wtm_at "mine"
      exact h1 _ _ ⟨rfl, _, rfl⟩
  · obtain ⟨rfl, v5, rfl⟩ := hI
    wtm_at "mine"
    refine ⟨isList_i e4, ?_⟩
    wtm_at "mine"
    refine r_append e4 ne.1 (by rw [List.length_map]; omega) ?_
    wtm_at "mine"
    refine cm_eqV (eq_boxes (get_set_ne ne.2.2.2 e3) (get_set_ne ne.2.2.1 e2) hk) ?_
    wtm_at "mine"
    exact ⟨rfl, get_set_ne ne.2.1 e1⟩

theorem law07 (xs : List Int) (T : Addr) : callW (P7 T) 60 5 [.ref 0] [.list (xs.map .int), .tab T] (fun v σ => v = .bool true ∧ σ[1]? = some .gone) (fun _ _ => False) := by
  refine call_in (fn := f07_5) rfl rfl ?_
  refine s_cut 2 (fun ρ σ => ∃ m : Int, (0 ≤ m ∧ m < 64) ∧ σ = [.list (xs.map .int), .tab T] ∧ ρ = [.ref 0, .int m, .undef, .undef, .undef, .undef, .undef]) (fun K hK hX => ?_) fun ρ σ i => ?_
  · dsimp only [f07_5, List.take]
    wtm_at "mine"
    refine cell07 rfl (by omega) ?_
    wtm_at "mine"
    refine cell07 rfl (by omega) ?_
    wtm_at "mine"
    refine ite_d (fun hc => ?_) fun hc => ?_
    · wtm_at "mine"
      refine cell07 rfl (by omega) ?_
      wtm_at "mine"
      exact hK _ _ ⟨_, by omega, rfl, rfl⟩
    · wtm_at "mine"
      exact hK _ _ ⟨_, by omega, rfl, rfl⟩
  obtain ⟨m, hm, rfl, rfl⟩ := i
  refine s_cut 1 (fun ρ σ => ∃ (bs : List Bx) (n : Nat), bs.length = m.toNat ∧ (∀ (i : Nat) (b : Bx), bs[i]? = some b → b.k = i) ∧ σ[1]? = some (.tab T) ∧ σ[n]? = some (.list (bs.map Bx.v)) ∧ 2 ≤ n ∧ ρ = [.ref 0, .int m, .undef, .ref n, .undef, .undef, .undef]) (fun K hK hX => ?_) fun ρ σ i => ?_
  · dsimp only [f07_5, List.take, List.drop]
    wtm_at "mine"
    refine ⟨rangeL 0 m.toNat, by simp only [srcItems, rangeItems]; rw [if_pos (by unfold maxLen; omega)], by rw [rangeL_len]; unfold maxLen; omega, ?_⟩
    refine compW_inv (fun i acc σ => ∃ bs : List Bx, acc = bs.map Bx.v ∧ bs.length = i ∧ (∀ (i : Nat) (b : Bx), bs[i]? = some b → b.k = i) ∧ σ[0]? = some (.list (xs.map .int)) ∧ σ[1]? = some (.tab T)) _ 0 [] _ (fun i v acc σ K' hv hI h1 => ?_) (fun acc σ hI => ?_) ⟨[], rfl, rfl, fun i b h => by simp at h, rfl, rfl⟩
    · obtain ⟨bs, rfl, hl, hk, e0, e1⟩ := hI
      obtain ⟨rfl, hi⟩ := rangeL_at _ _ _ _ hv
      rw [show (0 : Int) + i = i by omega]
      dsimp only [turnC]
      wtm_at "mine"
      refine cell07 e0 (by omega) ?_
      wtm_at "mine"
      refine box07 (by omega) fun b hb o => ?_
      refine h1 _ _ trivial ⟨bs ++ [b], by simp, by simp [hl], fun j c hj => ?_, get_app e0, get_app e1⟩
      rw [List.getElem?_append] at hj
      split at hj
      · exact hk j c hj
      · rename_i hjl
        have : j - bs.length < 1 := (List.getElem?_eq_some_iff.mp hj).1
        rw [show j - bs.length = 0 by omega] at hj
        simp at hj
        rw [← hj, hb]; omega
    · obtain ⟨bs, rfl, hl, hk, e0, e1⟩ := hI
      rw [rangeL_len] at hl
      wtm_at "mine"
      have h2 : 1 < σ.length := (List.getElem?_eq_some_iff.mp e1).1
      exact hK _ _ ⟨bs, σ.length, by omega, hk, get_app e1, get_last, by omega, rfl⟩
  obtain ⟨bs, n, hl, hk, e1, e2, hn, rfl⟩ := i
  have hk' : ∀ b ∈ bs, b.In := fun b hb => by
    obtain ⟨i, hi, rfl⟩ := List.mem_iff_getElem.mp hb
    unfold Bx.In
    rw [hk i _ (List.getElem?_eq_getElem hi)]; omega
  have h1l := (List.getElem?_eq_some_iff.mp e1).1
  have hnl := (List.getElem?_eq_some_iff.mp e2).1
  refine s_cut 2 (fun ρ σ' => ∃ (fs : List Bx), fs.length = bs.length ∧ (∀ b ∈ bs, b ∈ fs) ∧ (∀ b ∈ fs, b ∈ bs) ∧ (∀ (i : Nat) (a b : Bx), fs[i]? = some a → fs[i + 1]? = some b → a.Right b) ∧
    σ' = (σ ++ [O.list (bs.map Bx.v)]).set 1 .gone ++ [O.list (fs.map Bx.v)] ∧ ρ = [.ref 0, .int m, .undef, .ref n, .ref σ.length, .ref (σ.length + 1), .undef]) (fun K hK hX => ?_) fun ρ σ' i => ?_
  · dsimp only [f07_5, List.take, List.drop]
    wtm_at "mine"
    refine size07 (get_app e1) get_last (by omega) hk fun fs g1 g2 g3 g4 => ?_
    wtm_at "mine"
    exact hK _ _ ⟨fs, g1, g2, g3, g4, rfl, by simp⟩
  obtain ⟨fs, g1, g2, g3, g4, rfl, rfl⟩ := i
  have hlen : ((σ ++ [O.list (bs.map Bx.v)]).set 1 .gone).length = σ.length + 1 := by simp
  refine tail07 (bs := bs) (fs := fs) hl (by omega) hk' (get_app (get_set_eq (get_app e1))) (get_app (get_set_ne (by omega) (get_app e2))) (get_app (get_set_ne (by omega) get_last)) ?_ (by omega) g1 g2 g3 g4
  rw [← hlen]; exact get_last
end

end Mine

/-! J07 -/
open PySem PySem.W PyProof.Rows
set_option maxRecDepth 100000 in
set_option maxHeartbeats 8000000 in
theorem PySem.Challenge.cw_uf030015_07_holds : PySem.Challenge.rw_uf030015_07.Holds := by
  w_on
  o_law
  o_head Hook.none
  case hw => w_witness2
  intro w s₀ s₁ mg mb G Y fa o pm cd doc dV kV ho hd hcd hD hmg hg args vals as hpre hlay hrd hwl hlo
  have T := Ground.T G
  wrow_args hpre hlay hrd hwl hlo
  refine enter_call ?_
  obtain ⟨vs, e, hv⟩ := Mine.well_ints ‹Well _ _ _ _›
  refine Mine.law_key (d₀ := Mine.key07) (P' := Mine.P07) (extra := 1) (i := 5) (d := 60) T (by kernel_rfl) (by kernel_rfl) (by kernel_rfl) (by kernel_rfl) (by decide) hmg hg (fun h₀ g c P h1 h2 h3 => Mine.fnok07 g (by kernel_rfl) h1 h2 h3) e hv (by omega) (fun _ => rfl) ?_ (Mine.law07 _)
  wrow_post
