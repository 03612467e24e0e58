import PyProof.Rows.All
import Wide.All
import OpenK.AllK
import Wide.FinOn
import PyProof.SetKind
import PyProof.SetScanFacts
import PyProof.Rows.SetFrom
import PyProof.Rows.SortPure
import PyProof.FactsAll.set_1
import PyProof.CollectWalk
import PyProof.FactsAll.set_2
import PyProof.Rows.SortShell
import KE.KSortTup
import PyProof.P3Statements
import PyProof.Rows.TmSorted
import PyProof.TupleKey
import PyProof.Rows.TupIn
import PyProof.CompFree
import PyProof.CompUse
import PyProof.Walks
import PyProof.WalksMore
import PyProof.Calls
import PyProof.ListOps
import PyProof.Cells
import PyProof.Rules2
import PyProof.Rules3
import PyProof.DictIter
import PyProof.DictKinds
import PyProof.Ns1
import PyProof.StationsW
import PyProof.Rows.PlainStore
import PyProof.Rows.RuleB_floordiv
import PyProof.Rows.RuleB_mod
import PyProof.Rows.RuleB_sub
import PyProof.PureInt
import PyProof.AutoIntOps
import PyProof.Rows.Chain
import PyProof.MakeMany
import PyProof.TupleIter
import PyProof.TupleOps
import PyProof.Rows.TupMore
import PyProof.ListTruth
import PyProof.Truth
import PyProof.Rows.RuleU_int
import PyProof.Rows.IntRules
import PyProof.Rows.StrTemp
import PyProof.ListIndexNeg
import PyProof.Rows.StrRules
import PyProof.P3Eq
import PyProof.P3In
import PyProof.NeData
import PyProof.SliceList
import PyProof.ListMulRoad
import PyProof.DictStraight
import PyProof.StrLawsIn
import PyProof.StrOps
import PyProof.DefCall
import KE.KUnpack
import PyProof.RulesAssignMore
import PyProof.Raises
import PyProof.SeqWrite
import PyProof.ForAny
import PyProof.EnumFor
import PyProof.EnumMake
import PyProof.RangeFor
import PyProof.PvWalk
import PyProof.Boot
import PyProof.EnumStmt
import PyProof.StrWalks
import PyProof.DictWalks
import PyProof.Rows.Range3
import PyProof.TupleOfSeq
import PyProof.Rows.ListCopyD
import PyProof.WalkInts
import PyProof.Conv_int_bool
import PyProof.CallStr
import PyProof.IsiSeqPairs
import PyProof.IsiPairs
import PyProof.ForAppend
import KE.KItem
import PyProof.Dict
import PyProof.Rows.PlainObj
import PyProof.Rows.Own
import KE.KNest
import PyProof.Rows.TupTab
import PyProof.DictRoadsH
import PyProof.ConsumeWalk
import PyProof.SliceStr2
import PyProof.SliceSyntax
import PyProof.LetGo
import PyProof.MeetsDictList
import PyProof.EqAt
import PyProof.ExcClass2
import PyProof.ExcBaseAll.ValueError
import PyProof.InstStoreFacts
import PyProof.RulesAs
import PyProof.Rows.AttrNodeAny
import PyProof.Rows.Method
import PyProof.NsDelKeeps
import PyProof.Rows.SortStr
import KE.KLam
import KE.KDictSum
import PyProof.Rows.CallKwBuiltin
import Wide.Tac
import PyProof.Rows.StrMeet
import PySem.Challenge.RW_uf030015_10
set_option Elab.async false
set_option compiler.extract_closed false
set_option backward.match.sparseCases false
set_option hygiene false
set_option linter.all false
set_option bootstrap.genMatcherCode false
set_option maxRecDepth 100000 in
theorem Mine.Internal.said10 : PySem.Challenge.rw_uf030015_10.wellSaid = true := by decide +kernel

namespace Mine.Internal
set_option genSizeOf false
set_option genInjectivity false
inductive AE where
 | v (i:Nat) | n (k:Nat) | a (x y:AE) | s (x y:AE) | m (k:Nat) (x:AE) | g (x:AE)
inductive AK where | le | lt | eq | qe | nle | nlt
inductive AR where
 | e
 | w (k:Nat) (t:AR)
 | c (k:AK) (x y:AE) (t:AR)
noncomputable def AR.l (x y:AE) (t:AR):AR:=.c .le x y t
noncomputable def AR.t (x y:AE) (t:AR):AR:=.c .lt x y t
noncomputable def AR.q (x y:AE) (t:AR):AR:=.c .eq x y t
noncomputable def AR.p (x y:AE) (t:AR):AR:=.c .qe x y t
noncomputable def AR.m (x y:AE) (t:AR):AR:=.c .nle x y t
noncomputable def AR.o (x y:AE) (t:AR):AR:=.c .nlt x y t
noncomputable def AE.v0:AE:=.v 0
noncomputable def AE.v1:AE:=.v 1
noncomputable def AE.v2:AE:=.v 2
noncomputable def AE.v3:AE:=.v 3
noncomputable def AE.v4:AE:=.v 4
noncomputable def AE.v5:AE:=.v 5
noncomputable def AE.n0:AE:=.n 0
noncomputable def AE.n1:AE:=.n 1
noncomputable def AE.n2:AE:=.n 2
noncomputable def AE.n3:AE:=.n 3
noncomputable def av (l:List Int):Nat→Int
 | 0=>l.headD 0
 | i+1=>av l.tail i
noncomputable def avn (l:List Nat):Nat→Nat
 | 0=>l.headD 0
 | i+1=>avn l.tail i
noncomputable def AE.di (l:List Int):AE→Int
 | .v i=>av l i
 | .n k=>(k:Int)
 | .a x y=>x.di l+y.di l
 | .s x y=>x.di l - y.di l
 | .m k x=>(k:Int)*x.di l
 | .g x=>-x.di l
noncomputable def AE.dn (l:List Nat):AE→Nat
 | .v i=>avn l i
 | .n k=>k
 | .a x y=>x.dn l+y.dn l
 | .s x _=>x.dn l
 | .m k x=>k*x.dn l
 | .g x=>x.dn l
noncomputable def AE.pos:AE→Bool
 | .v _=>true
 | .n _=>true
 | .a x y=>x.pos&&y.pos
 | .s _ _=>false
 | .m _ x=>x.pos
 | .g _=>false
noncomputable def pa:List Int→List Int→List Int
 | [],q=>q
 | a::p,q=>(a+q.headD 0)::pa p q.tail
noncomputable def pm (k:Int) (p:List Int):List Int:=p.map (k*·)
noncomputable def pu:Nat→List Int
 | 0=>[1]
 | i+1=>0::pu i
noncomputable def AE.p:AE→List Int
 | .v i=>0::pu i
 | .n k=>[(k:Int)]
 | .a x y=>pa x.p y.p
 | .s x y=>pa x.p (pm (-1) y.p)
 | .m k x=>pm k x.p
 | .g x=>pm (-1) x.p
noncomputable def ev (l:List Int):List Int→Int
 | []=>0
 | a::p=>a*l.headD 0+ev l.tail p
theorem J6:∀ (p q l:List Int),ev l (pa p q)=ev l p+ev l q:=fun p=>by
 induction p with
 | nil=>exact fun q l=>(Int.zero_add _).symm
 | cons a p ih=>
  intro q l
  cases q with
  | nil=>show (a+0)*_+ev l.tail (pa p [])=(a*_+ev l.tail p)+0;rw [ih,Int.add_zero,Int.add_zero];exact congrArg (_+·) (Int.add_zero _)
  | cons b q=>show (a+b)*_+ev l.tail (pa p q)=(a*_+_)+(b*_+_);rw [ih,Int.add_mul,Int.add_assoc,Int.add_assoc,Int.add_left_comm (b*_)]
theorem HW (k:Int):∀ (p l:List Int),ev l (pm k p)=k*ev l p:=fun p=>by
 induction p with
 | nil=>exact fun l=>(Int.mul_zero k).symm
 | cons a p ih=>exact fun l=>(congrArg (k*a*l.headD 0+·) (ih l.tail)).trans (by rw [Int.mul_assoc];exact (Int.mul_add ..).symm)
theorem Um:∀ (i:Nat) (l:List Int),ev l (pu i)=av l i:=fun i=>by
 induction i with
 | zero=>exact fun l=>(Int.add_zero _).trans (Int.one_mul _)
 | succ i ih=>exact fun l=>(congrArg (·+ev l.tail (pu i)) (Int.zero_mul _)).trans ((Int.zero_add _).trans (ih _))
theorem AE.ev (e:AE) (l:List Int):Mine.Internal.ev (1::l) e.p=e.di l:=by
 induction e with
 | v i=>exact (congrArg (·+_) (Int.zero_mul _)).trans ((Int.zero_add _).trans (Um i l))
 | n k=>exact (Int.add_zero _).trans (Int.mul_one _)
 | a x y hx hy=>exact (J6 ..).trans (by rw [hx,hy];rfl)
 | s x y hx hy=>exact (J6 ..).trans (by rw [HW,hx,hy,Int.neg_one_mul];rfl)
 | m k x hx=>exact (HW ..).trans (by rw [hx];rfl)
 | g x hx=>exact (HW ..).trans (by rw [hx];exact Int.neg_one_mul _)
noncomputable def AK.i:AK→Int→Int→Prop
 | .le,x,y=>x≤y
 | .lt,x,y=>x<y
 | .eq,x,y=>x=y
 | .qe,x,y=>x=y
 | .nle,x,y=>¬ x≤y
 | .nlt,x,y=>¬ x<y
noncomputable def AK.n:AK→Nat→Nat→Prop
 | .le,x,y=>x≤y
 | .lt,x,y=>x<y
 | .eq,x,y=>x=y
 | .qe,x,y=>x=y
 | .nle,x,y=>¬ x≤y
 | .nlt,x,y=>¬ x<y
noncomputable def AK.p:AK→List Int→List Int→List Int
 | .le,x,y=>pa x (pm (-1) y)
 | .lt,x,y=>pa [1] (pa x (pm (-1) y))
 | .eq,x,y=>pa x (pm (-1) y)
 | .qe,x,y=>pa y (pm (-1) x)
 | .nle,x,y=>pa [1] (pa y (pm (-1) x))
 | .nlt,x,y=>pa y (pm (-1) x)
noncomputable def AK.q:AK→List Int→List Int→List Int
 | .le,x,y=>AK.p .nle x y
 | .lt,x,y=>AK.p .nlt x y
 | .nle,x,y=>AK.p .le x y
 | .nlt,x,y=>AK.p .lt x y
 | _,_,_=>[]
theorem GS (x y l:List Int):ev l (pa x (pm (-1) y))=ev l x - ev l y:=by rw [J6,HW,Int.neg_one_mul];rfl
theorem L5 (x y l:List Int):ev (1::l) (pa [1] (pa x (pm (-1) y)))=1+(ev (1::l) x - ev (1::l) y):=by rw [J6,GS];rfl
theorem LF {x y:Int} (h:x<y):1+(x - y)≤0:=by rw [← Int.add_sub_assoc,Int.add_comm];exact Int.sub_nonpos_of_le h
theorem AK.ok {k:AK} {x y l:List Int} (h:k.i (ev (1::l) x) (ev (1::l) y)):ev (1::l) (k.p x y)≤0:=by
 cases k with
 | le=>exact Int.le_trans (Int.le_of_eq (GS ..)) (Int.sub_nonpos_of_le h)
 | lt=>exact Int.le_trans (Int.le_of_eq (L5 ..)) (LF h)
 | eq=>exact Int.le_trans (Int.le_of_eq (GS ..)) (Int.sub_nonpos_of_le (Int.le_of_eq h))
 | qe=>exact Int.le_trans (Int.le_of_eq (GS ..)) (Int.sub_nonpos_of_le (Int.le_of_eq h.symm))
 | nle=>exact Int.le_trans (Int.le_of_eq (L5 ..)) (LF (Int.lt_of_not_ge h))
 | nlt=>exact Int.le_trans (Int.le_of_eq (GS ..)) (Int.sub_nonpos_of_le (Int.le_of_not_gt h))
theorem AK.no {k:AK} {x y l:List Int} (h:¬ ev (1::l) (k.q x y)≤0):k.i (ev (1::l) x) (ev (1::l) y):=by
 cases k with
 | le=>exact Int.not_lt.mp fun z=>h (AK.ok (k:=.nle) (Int.not_le.mpr z))
 | lt=>exact Int.not_le.mp fun z=>h (AK.ok (k:=.nlt) (Int.not_lt.mpr z))
 | eq=>exact absurd (Int.le_refl 0) h
 | qe=>exact absurd (Int.le_refl 0) h
 | nle=>exact fun z=>h (AK.ok (k:=.le) z)
 | nlt=>exact fun z=>h (AK.ok (k:=.lt) z)
noncomputable def pz (b:Bool):List Int→Bool
 | []=>true
 | a::p=>(bif b then decide (0≤a) else decide (a=0))&&pz b p
noncomputable def AR.k (b:Bool):AR→Nat→List Int→Bool
 | .e,_,[]=>false
 | .e,_,a::p=>decide (0<a)&&pz b p
 | .w k t,_,d=>t.k b k d
 | .c k x y t,n,d=>t.k b 1 (pa (pm n (k.p x.p y.p)) d)
noncomputable def AR.i (l:List Int):AR→Prop→Prop
 | .e,G=>G
 | .w _ t,G=>t.i l G
 | .c k x y t,G=>k.i (x.di l) (y.di l)→t.i l G
noncomputable def AR.n (l:List Nat):AR→Prop→Prop
 | .e,G=>G
 | .w _ t,G=>t.n l G
 | .c k x y t,G=>k.n (x.dn l) (y.dn l)→t.n l G
noncomputable def AR.pos:AR→Bool
 | .e=>true
 | .w _ t=>t.pos
 | .c _ x y t=>x.pos&&(y.pos&&t.pos)
theorem T7:∀ {p l:List Int},(b=true→∀ i,0≤av l i)→pz b p=true→0≤ev l p:=fun {p}=>by
 induction p with
 | nil=>exact fun _ _=>Int.le_refl 0
 | cons a p ih=>
  intro l hl h
  have h:=(Bool.and_eq_true _ _).mp h
  refine Int.add_nonneg ?_ (ih (fun e i=>hl e (i+1)) h.2)
  cases b with
  | true=>exact Int.mul_nonneg (of_decide_eq_true h.1) (hl rfl 0)
  | false=>rw [of_decide_eq_true h.1,Int.zero_mul];exact Int.le_refl 0
theorem AR.ok {b:Bool} {l:List Int} (hl:b=true→∀ i,0≤av l i) {G:Prop} (r:AR):∀ (k:Nat) (D:List Int),r.k b k D=true→(¬ ev (1::l) D≤0→G)→r.i l G:=by
 induction r with
 | e=>
  intro k D h g
  cases D with
  | nil=>cases h
  | cons a p=>
   have h:=(Bool.and_eq_true _ _).mp h
   exact g (Int.not_le.mpr (Int.lt_of_lt_of_le (of_decide_eq_true h.1) (Int.le_trans (Int.le_of_eq ((Int.mul_one a).symm.trans (Int.add_zero _).symm)) (Int.add_le_add_left (T7 hl h.2) _))))
 | w k t ih=>exact fun _ D=>ih k D
 | c k x y t ih=>
  intro n D h g p
  refine ih 1 _ h fun z=>g fun z'=>z ?_
  rw [J6,HW]
  rw [← AE.ev,← AE.ev] at p
  exact Int.add_le_add (Int.mul_nonpos_of_nonneg_of_nonpos (Int.natCast_nonneg n) (AK.ok p)) z'
theorem ari (l:List Int) (g:AK) (x y:AE) (r:AR) (h:r.k false 1 (g.q x.p y.p)=true):r.i l (g.i (x.di l) (y.di l)):=
 AR.ok (b:=false) (fun e=>nomatch e) r 1 _ h fun z=>by rw [← AE.ev,← AE.ev];exact AK.no z
theorem SI (l:List Int) (r:AR) (h:r.k false 1 []=true):r.i l False:=AR.ok (b:=false) (fun e=>nomatch e) r 1 _ h fun z=>z (Int.le_refl 0)
theorem H5:∀ (i:Nat) (l:List Nat),av (l.map Nat.cast) i=(avn l i:Int):=fun i=>by
 induction i with
 | zero=>exact fun l=>by cases l <;> rfl
 | succ i ih=>exact fun l=>by cases l with
  | nil=>exact ih []
  | cons a l=>exact ih l
theorem AE.cast (l:List Nat) (e:AE) (h:e.pos=true):e.di (l.map Nat.cast)=(e.dn l:Int):=by
 induction e with
 | v i=>exact H5 i l
 | n k=>rfl
 | a x y hx hy=>have h:=(Bool.and_eq_true _ _).mp h;exact (congr (congrArg HAdd.hAdd (hx h.1)) (hy h.2)).trans (Int.natCast_add ..).symm
 | s x y=>cases h
 | m k x hx=>exact (congrArg (HMul.hMul _) (hx h)).trans (Int.natCast_mul ..).symm
 | g x=>cases h
theorem AK.cast {k:AK} {x y:Nat}:k.n x y↔k.i x y:=by
 cases k with
 | le=>exact Int.ofNat_le.symm
 | lt=>exact Int.ofNat_lt.symm
 | eq=>exact Int.ofNat_inj.symm
 | qe=>exact Int.ofNat_inj.symm
 | nle=>exact not_congr Int.ofNat_le.symm
 | nlt=>exact not_congr Int.ofNat_lt.symm
theorem AR.cast {l:List Nat} {G:Prop} (r:AR) (h:r.pos=true) (q:r.i (l.map Nat.cast) G):r.n l G:=by
 induction r with
 | e=>exact q
 | w k t ih=>exact ih h q
 | c k x y t ih=>
  intro p
  have h:=(Bool.and_eq_true _ _).mp h
  have h':=(Bool.and_eq_true _ _).mp h.2
  refine ih h'.2 (q ?_)
  rw [AE.cast l x h.1,AE.cast l y h'.1];exact AK.cast.mp p
theorem arw (l:List Nat) (w:Nat) (g:AK) (x y:AE) (r:AR) (h:((AR.c g x y r).pos&&r.k true 1 (pm w (g.q x.p y.p)))=true):r.n l (g.n (x.dn l) (y.dn l)):=by
 have h:=(Bool.and_eq_true _ _).mp h
 have a:=(Bool.and_eq_true _ _).mp h.1
 have b:=(Bool.and_eq_true _ _).mp a.2
 refine r.cast b.2 (AR.ok (fun _ i=>?_) r 1 _ h.2 fun z=>?_)
 ·rw [H5];exact Int.natCast_nonneg _
 ·rw [AK.cast,← AE.cast l x a.1,← AE.cast l y b.1,← AE.ev,← AE.ev]
  exact AK.no fun u=>z (by rw [HW];exact Int.mul_nonpos_of_nonneg_of_nonpos (Int.natCast_nonneg w) u)
theorem TQ (l:List Nat) (r:AR) (h:(r.pos&&r.k true 1 [])=true):r.n l False:=by
 have h:=(Bool.and_eq_true _ _).mp h
 exact r.cast h.1 (AR.ok (fun _ i=>by rw [H5];exact Int.natCast_nonneg _) r 1 _ h.2 fun z=>z (Int.le_refl 0))
theorem an1 (g:AK) (x y:AE) (r:AR) (h:((AR.c g x y r).pos&&r.k true 1 (pm (1:Nat) (g.q x.p y.p)))=true):r.n [a] (g.n (x.dn [a]) (y.dn [a])):=arw [a] 1 g x y r h
theorem am1 (r:AR) (h:(r.pos&&r.k true 1 [])=true):r.n [a] False:=TQ [a] r h
theorem ai1 (g:AK) (x y:AE) (r:AR) (h:r.k false 1 (g.q x.p y.p)=true):r.i [a] (g.i (x.di [a]) (y.di [a])):=ari [a] g x y r h
theorem aj1 (r:AR) (h:r.k false 1 []=true):r.i [a] False:=SI [a] r h
theorem an2 (g:AK) (x y:AE) (r:AR) (h:((AR.c g x y r).pos&&r.k true 1 (pm (1:Nat) (g.q x.p y.p)))=true):r.n [a,b] (g.n (x.dn [a,b]) (y.dn [a,b])):=arw [a,b] 1 g x y r h
theorem am2 (r:AR) (h:(r.pos&&r.k true 1 [])=true):r.n [a,b] False:=TQ [a,b] r h
theorem ai2 (g:AK) (x y:AE) (r:AR) (h:r.k false 1 (g.q x.p y.p)=true):r.i [a,b] (g.i (x.di [a,b]) (y.di [a,b])):=ari [a,b] g x y r h
theorem aj2 (r:AR) (h:r.k false 1 []=true):r.i [a,b] False:=SI [a,b] r h
theorem an3 (g:AK) (x y:AE) (r:AR) (h:((AR.c g x y r).pos&&r.k true 1 (pm (1:Nat) (g.q x.p y.p)))=true):r.n [a,b,c] (g.n (x.dn [a,b,c]) (y.dn [a,b,c])):=arw [a,b,c] 1 g x y r h
theorem am3 (r:AR) (h:(r.pos&&r.k true 1 [])=true):r.n [a,b,c] False:=TQ [a,b,c] r h
theorem ai3 (g:AK) (x y:AE) (r:AR) (h:r.k false 1 (g.q x.p y.p)=true):r.i [a,b,c] (g.i (x.di [a,b,c]) (y.di [a,b,c])):=ari [a,b,c] g x y r h
theorem aj3 (r:AR) (h:r.k false 1 []=true):r.i [a,b,c] False:=SI [a,b,c] r h
theorem an4 (g:AK) (x y:AE) (r:AR) (h:((AR.c g x y r).pos&&r.k true 1 (pm (1:Nat) (g.q x.p y.p)))=true):r.n [a,b,c,d] (g.n (x.dn [a,b,c,d]) (y.dn [a,b,c,d])):=arw [a,b,c,d] 1 g x y r h
theorem ai4 (g:AK) (x y:AE) (r:AR) (h:r.k false 1 (g.q x.p y.p)=true):r.i [a,b,c,d] (g.i (x.di [a,b,c,d]) (y.di [a,b,c,d])):=ari [a,b,c,d] g x y r h
theorem an5 (g:AK) (x y:AE) (r:AR) (h:((AR.c g x y r).pos&&r.k true 1 (pm (1:Nat) (g.q x.p y.p)))=true):r.n [a,b,c,d,e] (g.n (x.dn [a,b,c,d,e]) (y.dn [a,b,c,d,e])):=arw [a,b,c,d,e] 1 g x y r h
theorem ai5 (g:AK) (x y:AE) (r:AR) (h:r.k false 1 (g.q x.p y.p)=true):r.i [a,b,c,d,e] (g.i (x.di [a,b,c,d,e]) (y.di [a,b,c,d,e])):=ari [a,b,c,d,e] g x y r h
theorem an6 (g:AK) (x y:AE) (r:AR) (h:((AR.c g x y r).pos&&r.k true 1 (pm (1:Nat) (g.q x.p y.p)))=true):r.n [a,b,c,d,e,f] (g.n (x.dn [a,b,c,d,e,f]) (y.dn [a,b,c,d,e,f])):=arw [a,b,c,d,e,f] 1 g x y r h
theorem GE {α:Type} {lt:α→α→Prop} {x y z:α} {R S T:Prop} (tr:lt x y→lt y z→lt x z) (k:R→S→T) (h:lt x y∨x=y∧R) (g:lt y z∨y=z∧S):lt x z∨x=z∧T:=
 h.elim (fun h=>.inl (g.elim (tr h) fun g=>g.1▸h)) fun h=>g.elim (fun g=>.inl (h.1▸g)) fun g=>.inr ⟨h.1.trans g.1,k h.2 g.2⟩
theorem F5 {α:Type} {lt:α→α→Prop} {x y:α} {R S:Prop} (tr:lt x y→lt y x→False) (ir:∀ x,¬ lt x x) (h:lt x y∨x=y∧R) (g:lt y x∨y=x∧S):x=y∧R∧S:=
 h.elim (fun h=>g.elim (fun g=>(tr h g).elim) fun g=>(ir y (g.1.symm▸h)).elim) fun h=>g.elim (fun g=>(ir y (h.1▸g)).elim) fun g=>⟨h.1,h.2,g.2⟩
theorem BP {α:Type _} {P:α→Prop}:∀ a∈([]:List α),P a:=fun _ h=>nomatch h
theorem HI {α:Type _} {a:α} {P:Prop} (h:none=some a):P:=nomatch h
theorem Oe {α:Type _} {a:α} {P:Prop} (h:some a=none):P:=nomatch h
end Mine.Internal
namespace Mine.Internal
universe u
theorem AQ {α:Sort _} {p1:α→Prop} {c:Prop} (h:∃ x,p1 x) (k:∀ x,p1 x→c):c:=h.elim fun x h0=>k x h0
theorem Ay {p1 p2 p3:Prop} {c:Prop} (h:p1∧p2∧p3) (k:p1→p2→p3→c):c:=k h.1 h.2.1 h.2.2
theorem HS {α:Sort _} {p1:Prop} {p2:α→Prop} {c:Prop} (h:p1∧∃ x,p2 x) (k:p1→∀ x,p2 x→c):c:=h.2.elim fun x h1=>k h.1 x h1
theorem EH {p q r c:Prop} (h:p∨q∨r) (k0:p→c) (k1:q→c) (k2:r→c):c:=h.elim k0 fun h=>h.elim k1 k2
theorem Gy {p q r s c:Prop} (h:p∨q∨r∨s) (k0:p→c) (k1:q→c) (k2:r→c) (k3:s→c):c:=h.elim k0 fun h=>h.elim k1 fun h=>h.elim k2 k3
theorem P0 {p q r s t c:Prop} (h:p∨q∨r∨s∨t) (k0:p→c) (k1:q→c) (k2:r→c) (k3:s→c) (k4:t→c):c:=h.elim k0 fun h=>h.elim k1 fun h=>h.elim k2 fun h=>h.elim k3 k4
theorem AC {α:Sort _} {p1 p2:α→Prop} {c:Prop} (h:∃ x,p1 x∧p2 x) (k:∀ x,p1 x→p2 x→c):c:=h.elim fun x h0=>k x h0.1 h0.2
theorem Am {α:Sort _} {β:Sort _} {p1:α→β→Prop} {c:Prop} (h:∃ x,∃ y,p1 x y) (k:∀ x,∀ y,p1 x y→c):c:=h.elim fun x h0=>h0.elim fun y h1=>k x y h1
theorem It {p1 p2 p3 p4:Prop} {c:Prop} (h:p1∧p2∧p3∧p4) (k:p1→p2→p3→p4→c):c:=k h.1 h.2.1 h.2.2.1 h.2.2.2
theorem PM {α:Sort _} {p1 p2:Prop} {p3:α→Prop} {c:Prop} (h:p1∧p2∧∃ x,p3 x) (k:p1→p2→∀ x,p3 x→c):c:=h.2.2.elim fun x h2=>k h.1 h.2.1 x h2
theorem CM {α:Sort _} {p1:Prop} {p2 p3:α→Prop} {c:Prop} (h:p1∧∃ x,p2 x∧p3 x) (k:p1→∀ x,p2 x→p3 x→c):c:=h.2.elim fun x h1=>k h.1 x h1.1 h1.2
theorem N9 {α:Sort _} {β:Sort _} {p1:Prop} {p2:α→β→Prop} {c:Prop} (h:p1∧∃ x,∃ y,p2 x y) (k:p1→∀ x,∀ y,p2 x y→c):c:=h.2.elim fun x h1=>h1.elim fun y h2=>k h.1 x y h2
theorem Ab {α:Sort _} {p1 p2 p3:α→Prop} {c:Prop} (h:∃ x,p1 x∧p2 x∧p3 x) (k:∀ x,p1 x→p2 x→p3 x→c):c:=h.elim fun x h0=>k x h0.1 h0.2.1 h0.2.2
theorem FI {α:Sort _} {β:Sort _} {p1:α→Prop} {p2:α→β→Prop} {c:Prop} (h:∃ x,p1 x∧∃ y,p2 x y) (k:∀ x,p1 x→∀ y,p2 x y→c):c:=h.elim fun x h0=>h0.2.elim fun y h2=>k x h0.1 y h2
theorem CD {α:Sort _} {β:Sort _} {p1 p2:α→β→Prop} {c:Prop} (h:∃ x,∃ y,p1 x y∧p2 x y) (k:∀ x,∀ y,p1 x y→p2 x y→c):c:=h.elim fun x h0=>h0.elim fun y h1=>k x y h1.1 h1.2
theorem Ec {α:Sort _} {β:Sort _} {γ:Sort _} {p1:α→β→γ→Prop} {c:Prop} (h:∃ x,∃ y,∃ z,p1 x y z) (k:∀ x,∀ y,∀ z,p1 x y z→c):c:=h.elim fun x h0=>h0.elim fun y h1=>h1.elim fun z h2=>k x y z h2
theorem Eg {p1 p2 p3 p4 p5:Prop} {c:Prop} (h:p1∧p2∧p3∧p4∧p5) (k:p1→p2→p3→p4→p5→c):c:=k h.1 h.2.1 h.2.2.1 h.2.2.2.1 h.2.2.2.2
theorem FA {α:Sort _} {p1:Prop} {p2 p3 p4:α→Prop} {c:Prop} (h:p1∧∃ x,p2 x∧p3 x∧p4 x) (k:p1→∀ x,p2 x→p3 x→p4 x→c):c:=h.2.elim fun x h1=>k h.1 x h1.1 h1.2.1 h1.2.2
theorem LJ {α:Sort _} {β:Sort _} {p1:Prop} {p2 p3:α→β→Prop} {c:Prop} (h:p1∧∃ x,∃ y,p2 x y∧p3 x y) (k:p1→∀ x,∀ y,p2 x y→p3 x y→c):c:=h.2.elim fun x h1=>h1.elim fun y h2=>k h.1 x y h2.1 h2.2
theorem Ll {α:Sort _} {β:Sort _} {γ:Sort _} {p1:Prop} {p2:α→β→γ→Prop} {c:Prop} (h:p1∧∃ x,∃ y,∃ z,p2 x y z) (k:p1→∀ x,∀ y,∀ z,p2 x y z→c):c:=h.2.elim fun x h1=>h1.elim fun y h2=>h2.elim fun z h3=>k h.1 x y z h3
theorem BH {α:Sort _} {p1 p2 p3 p4:α→Prop} {c:Prop} (h:∃ x,p1 x∧p2 x∧p3 x∧p4 x) (k:∀ x,p1 x→p2 x→p3 x→p4 x→c):c:=h.elim fun x h0=>k x h0.1 h0.2.1 h0.2.2.1 h0.2.2.2
theorem Qs {α:Sort _} {β:Sort _} {p1 p2:α→Prop} {p3:α→β→Prop} {c:Prop} (h:∃ x,p1 x∧p2 x∧∃ y,p3 x y) (k:∀ x,p1 x→p2 x→∀ y,p3 x y→c):c:=h.elim fun x h0=>h0.2.2.elim fun y h3=>k x h0.1 h0.2.1 y h3
theorem Q1 {α:Sort _} {β:Sort _} {p1:α→Prop} {p2 p3:α→β→Prop} {c:Prop} (h:∃ x,p1 x∧∃ y,p2 x y∧p3 x y) (k:∀ x,p1 x→∀ y,p2 x y→p3 x y→c):c:=h.elim fun x h0=>h0.2.elim fun y h2=>k x h0.1 y h2.1 h2.2
theorem DU {α:Sort _} {β:Sort _} {γ:Sort _} {p1:α→Prop} {p2:α→β→γ→Prop} {c:Prop} (h:∃ x,p1 x∧∃ y,∃ z,p2 x y z) (k:∀ x,p1 x→∀ y,∀ z,p2 x y z→c):c:=h.elim fun x h0=>h0.2.elim fun y h2=>h2.elim fun z h3=>k x h0.1 y z h3
theorem A0 {α:Sort _} {β:Sort _} {p1 p2 p3:α→β→Prop} {c:Prop} (h:∃ x,∃ y,p1 x y∧p2 x y∧p3 x y) (k:∀ x,∀ y,p1 x y→p2 x y→p3 x y→c):c:=h.elim fun x h0=>h0.elim fun y h1=>k x y h1.1 h1.2.1 h1.2.2
theorem Cu {α:Sort _} {β:Sort _} {γ:Sort _} {p1 p2:α→β→γ→Prop} {c:Prop} (h:∃ x,∃ y,∃ z,p1 x y z∧p2 x y z) (k:∀ x,∀ y,∀ z,p1 x y z→p2 x y z→c):c:=h.elim fun x h0=>h0.elim fun y h1=>h1.elim fun z h2=>k x y z h2.1 h2.2
theorem OY {α:Sort _} {β:Sort _} {p1:Prop} {p2:α→Prop} {p3 p4:α→β→Prop} {c:Prop} (h:p1∧∃ x,p2 x∧∃ y,p3 x y∧p4 x y) (k:p1→∀ x,p2 x→∀ y,p3 x y→p4 x y→c):c:=h.2.elim fun x h1=>h1.2.elim fun y h3=>k h.1 x h1.1 y h3.1 h3.2
theorem CG {α:Sort _} {β:Sort _} {p1:Prop} {p2 p3 p4:α→β→Prop} {c:Prop} (h:p1∧∃ x,∃ y,p2 x y∧p3 x y∧p4 x y) (k:p1→∀ x,∀ y,p2 x y→p3 x y→p4 x y→c):c:=h.2.elim fun x h1=>h1.elim fun y h2=>k h.1 x y h2.1 h2.2.1 h2.2.2
theorem Ey {α:Sort _} {β:Sort _} {γ:Sort _} {δ:Sort _} {p1:Prop} {p2:α→β→γ→δ→Prop} {c:Prop} (h:p1∧∃ x,∃ y,∃ z,∃ w,p2 x y z w) (k:p1→∀ x,∀ y,∀ z,∀ w,p2 x y z w→c):c:=h.2.elim fun x h1=>h1.elim fun y h2=>h2.elim fun z h3=>h3.elim fun w h4=>k h.1 x y z w h4
theorem Bu {α:Sort _} {p1 p2 p3 p4 p5:α→Prop} {c:Prop} (h:∃ x,p1 x∧p2 x∧p3 x∧p4 x∧p5 x) (k:∀ x,p1 x→p2 x→p3 x→p4 x→p5 x→c):c:=h.elim fun x h0=>k x h0.1 h0.2.1 h0.2.2.1 h0.2.2.2.1 h0.2.2.2.2
theorem Jx {α:Sort _} {β:Sort _} {p1 p2:α→Prop} {p3 p4:α→β→Prop} {c:Prop} (h:∃ x,p1 x∧p2 x∧∃ y,p3 x y∧p4 x y) (k:∀ x,p1 x→p2 x→∀ y,p3 x y→p4 x y→c):c:=h.elim fun x h0=>h0.2.2.elim fun y h3=>k x h0.1 h0.2.1 y h3.1 h3.2
theorem BN {α:Sort _} {β:Sort _} {p1 p2 p3 p4:α→β→Prop} {c:Prop} (h:∃ x,∃ y,p1 x y∧p2 x y∧p3 x y∧p4 x y) (k:∀ x,∀ y,p1 x y→p2 x y→p3 x y→p4 x y→c):c:=h.elim fun x h0=>h0.elim fun y h1=>k x y h1.1 h1.2.1 h1.2.2.1 h1.2.2.2
theorem Jp {α:Sort _} {β:Sort _} {γ:Sort _} {p1 p2:α→β→Prop} {p3:α→β→γ→Prop} {c:Prop} (h:∃ x,∃ y,p1 x y∧p2 x y∧∃ z,p3 x y z) (k:∀ x,∀ y,p1 x y→p2 x y→∀ z,p3 x y z→c):c:=h.elim fun x h0=>h0.elim fun y h1=>h1.2.2.elim fun z h4=>k x y h1.1 h1.2.1 z h4
theorem Af {α:Sort _} {β:Sort _} {γ:Sort _} {p1 p2 p3:α→β→γ→Prop} {c:Prop} (h:∃ x,∃ y,∃ z,p1 x y z∧p2 x y z∧p3 x y z) (k:∀ x,∀ y,∀ z,p1 x y z→p2 x y z→p3 x y z→c):c:=h.elim fun x h0=>h0.elim fun y h1=>h1.elim fun z h2=>k x y z h2.1 h2.2.1 h2.2.2
theorem Pb {α:Sort _} {β:Sort _} {γ:Sort _} {δ:Sort _} {p1 p2:α→β→γ→δ→Prop} {c:Prop} (h:∃ x,∃ y,∃ z,∃ w,p1 x y z w∧p2 x y z w) (k:∀ x,∀ y,∀ z,∀ w,p1 x y z w→p2 x y z w→c):c:=h.elim fun x h0=>h0.elim fun y h1=>h1.elim fun z h2=>h2.elim fun w h3=>k x y z w h3.1 h3.2
theorem C4 {α:Sort _} {β:Sort _} {p1:Prop} {p2 p3 p4 p5:α→β→Prop} {c:Prop} (h:p1∧∃ x,∃ y,p2 x y∧p3 x y∧p4 x y∧p5 x y) (k:p1→∀ x,∀ y,p2 x y→p3 x y→p4 x y→p5 x y→c):c:=h.2.elim fun x h1=>h1.elim fun y h2=>k h.1 x y h2.1 h2.2.1 h2.2.2.1 h2.2.2.2
theorem NU {α:Sort _} {β:Sort _} {p1 p2:α→Prop} {p3 p4 p5:α→β→Prop} {c:Prop} (h:∃ x,p1 x∧p2 x∧∃ y,p3 x y∧p4 x y∧p5 x y) (k:∀ x,p1 x→p2 x→∀ y,p3 x y→p4 x y→p5 x y→c):c:=h.elim fun x h0=>h0.2.2.elim fun y h3=>k x h0.1 h0.2.1 y h3.1 h3.2.1 h3.2.2
theorem Mi {α:Sort _} {β:Sort _} {p1 p2 p3 p4 p5:α→β→Prop} {c:Prop} (h:∃ x,∃ y,p1 x y∧p2 x y∧p3 x y∧p4 x y∧p5 x y) (k:∀ x,∀ y,p1 x y→p2 x y→p3 x y→p4 x y→p5 x y→c):c:=h.elim fun x h0=>h0.elim fun y h1=>k x y h1.1 h1.2.1 h1.2.2.1 h1.2.2.2.1 h1.2.2.2.2
theorem CC {α:Sort _} {β:Sort _} {γ:Sort _} {p1 p2 p3 p4:α→β→γ→Prop} {c:Prop} (h:∃ x,∃ y,∃ z,p1 x y z∧p2 x y z∧p3 x y z∧p4 x y z) (k:∀ x,∀ y,∀ z,p1 x y z→p2 x y z→p3 x y z→p4 x y z→c):c:=h.elim fun x h0=>h0.elim fun y h1=>h1.elim fun z h2=>k x y z h2.1 h2.2.1 h2.2.2.1 h2.2.2.2
theorem MO {α:Sort _} {β:Sort _} {γ:Sort _} {δ:Sort _} {ε:Sort _} {p1 p2:α→β→γ→δ→ε→Prop} {c:Prop} (h:∃ x,∃ y,∃ z,∃ w,∃ v,p1 x y z w v∧p2 x y z w v) (k:∀ x,∀ y,∀ z,∀ w,∀ v,p1 x y z w v→p2 x y z w v→c):c:=h.elim fun x h0=>h0.elim fun y h1=>h1.elim fun z h2=>h2.elim fun w h3=>h3.elim fun v h4=>k x y z w v h4.1 h4.2
theorem KO {α:Sort _} {β:Sort _} {γ:Sort _} {δ:Sort _} {p1:Prop} {p2 p3 p4:α→β→γ→δ→Prop} {c:Prop} (h:p1∧∃ x,∃ y,∃ z,∃ w,p2 x y z w∧p3 x y z w∧p4 x y z w) (k:p1→∀ x,∀ y,∀ z,∀ w,p2 x y z w→p3 x y z w→p4 x y z w→c):c:=h.2.elim fun x h1=>h1.elim fun y h2=>h2.elim fun z h3=>h3.elim fun w h4=>k h.1 x y z w h4.1 h4.2.1 h4.2.2
theorem ET {α:Sort _} {β:Sort _} {γ:Sort _} {δ:Sort _} {p1:α→Prop} {p2 p3 p4:α→β→γ→δ→Prop} {c:Prop} (h:∃ x,p1 x∧∃ y,∃ z,∃ w,p2 x y z w∧p3 x y z w∧p4 x y z w) (k:∀ x,p1 x→∀ y,∀ z,∀ w,p2 x y z w→p3 x y z w→p4 x y z w→c):c:=h.elim fun x h0=>h0.2.elim fun y h2=>h2.elim fun z h3=>h3.elim fun w h4=>k x h0.1 y z w h4.1 h4.2.1 h4.2.2
theorem BR {α:Sort _} {β:Sort _} {p1 p2 p3 p4 p5 p6:α→β→Prop} {c:Prop} (h:∃ x,∃ y,p1 x y∧p2 x y∧p3 x y∧p4 x y∧p5 x y∧p6 x y) (k:∀ x,∀ y,p1 x y→p2 x y→p3 x y→p4 x y→p5 x y→p6 x y→c):c:=h.elim fun x h0=>h0.elim fun y h1=>k x y h1.1 h1.2.1 h1.2.2.1 h1.2.2.2.1 h1.2.2.2.2.1 h1.2.2.2.2.2
theorem Aw {α:Sort _} {β:Sort _} {γ:Sort _} {p1 p2 p3 p4 p5:α→β→γ→Prop} {c:Prop} (h:∃ x,∃ y,∃ z,p1 x y z∧p2 x y z∧p3 x y z∧p4 x y z∧p5 x y z) (k:∀ x,∀ y,∀ z,p1 x y z→p2 x y z→p3 x y z→p4 x y z→p5 x y z→c):c:=h.elim fun x h0=>h0.elim fun y h1=>h1.elim fun z h2=>k x y z h2.1 h2.2.1 h2.2.2.1 h2.2.2.2.1 h2.2.2.2.2
theorem GG {α:Sort _} {β:Sort _} {γ:Sort _} {δ:Sort _} {p1 p2 p3 p4:α→β→γ→δ→Prop} {c:Prop} (h:∃ x,∃ y,∃ z,∃ w,p1 x y z w∧p2 x y z w∧p3 x y z w∧p4 x y z w) (k:∀ x,∀ y,∀ z,∀ w,p1 x y z w→p2 x y z w→p3 x y z w→p4 x y z w→c):c:=h.elim fun x h0=>h0.elim fun y h1=>h1.elim fun z h2=>h2.elim fun w h3=>k x y z w h3.1 h3.2.1 h3.2.2.1 h3.2.2.2
theorem Fj {α:Sort _} {β:Sort _} {γ:Sort _} {p1 p2:Prop} {p3 p4 p5 p6:α→β→γ→Prop} {c:Prop} (h:p1∧p2∧∃ x,∃ y,∃ z,p3 x y z∧p4 x y z∧p5 x y z∧p6 x y z) (k:p1→p2→∀ x,∀ y,∀ z,p3 x y z→p4 x y z→p5 x y z→p6 x y z→c):c:=h.2.2.elim fun x h2=>h2.elim fun y h3=>h3.elim fun z h4=>k h.1 h.2.1 x y z h4.1 h4.2.1 h4.2.2.1 h4.2.2.2
theorem Dh {α:Sort _} {β:Sort _} {γ:Sort _} {p1:Prop} {p2 p3 p4 p5 p6:α→β→γ→Prop} {c:Prop} (h:p1∧∃ x,∃ y,∃ z,p2 x y z∧p3 x y z∧p4 x y z∧p5 x y z∧p6 x y z) (k:p1→∀ x,∀ y,∀ z,p2 x y z→p3 x y z→p4 x y z→p5 x y z→p6 x y z→c):c:=h.2.elim fun x h1=>h1.elim fun y h2=>h2.elim fun z h3=>k h.1 x y z h3.1 h3.2.1 h3.2.2.1 h3.2.2.2.1 h3.2.2.2.2
theorem Fm {α:Sort _} {β:Sort _} {γ:Sort _} {δ:Sort _} {p1:Prop} {p2 p3 p4 p5:α→β→γ→δ→Prop} {c:Prop} (h:p1∧∃ x,∃ y,∃ z,∃ w,p2 x y z w∧p3 x y z w∧p4 x y z w∧p5 x y z w) (k:p1→∀ x,∀ y,∀ z,∀ w,p2 x y z w→p3 x y z w→p4 x y z w→p5 x y z w→c):c:=h.2.elim fun x h1=>h1.elim fun y h2=>h2.elim fun z h3=>h3.elim fun w h4=>k h.1 x y z w h4.1 h4.2.1 h4.2.2.1 h4.2.2.2
theorem Cw {α:Sort _} {β:Sort _} {p1 p2 p3 p4 p5 p6 p7:α→β→Prop} {c:Prop} (h:∃ x,∃ y,p1 x y∧p2 x y∧p3 x y∧p4 x y∧p5 x y∧p6 x y∧p7 x y) (k:∀ x,∀ y,p1 x y→p2 x y→p3 x y→p4 x y→p5 x y→p6 x y→p7 x y→c):c:=h.elim fun x h0=>h0.elim fun y h1=>k x y h1.1 h1.2.1 h1.2.2.1 h1.2.2.2.1 h1.2.2.2.2.1 h1.2.2.2.2.2.1 h1.2.2.2.2.2.2
theorem Jo {α:Sort _} {β:Sort _} {γ:Sort _} {p1 p2 p3 p4 p5 p6:α→β→γ→Prop} {c:Prop} (h:∃ x,∃ y,∃ z,p1 x y z∧p2 x y z∧p3 x y z∧p4 x y z∧p5 x y z∧p6 x y z) (k:∀ x,∀ y,∀ z,p1 x y z→p2 x y z→p3 x y z→p4 x y z→p5 x y z→p6 x y z→c):c:=h.elim fun x h0=>h0.elim fun y h1=>h1.elim fun z h2=>k x y z h2.1 h2.2.1 h2.2.2.1 h2.2.2.2.1 h2.2.2.2.2.1 h2.2.2.2.2.2
theorem Jn {α:Sort _} {β:Sort _} {γ:Sort _} {δ:Sort _} {ε:Sort _} {p1 p2 p3 p4:α→β→γ→δ→ε→Prop} {c:Prop} (h:∃ x,∃ y,∃ z,∃ w,∃ v,p1 x y z w v∧p2 x y z w v∧p3 x y z w v∧p4 x y z w v) (k:∀ x,∀ y,∀ z,∀ w,∀ v,p1 x y z w v→p2 x y z w v→p3 x y z w v→p4 x y z w v→c):c:=h.elim fun x h0=>h0.elim fun y h1=>h1.elim fun z h2=>h2.elim fun w h3=>h3.elim fun v h4=>k x y z w v h4.1 h4.2.1 h4.2.2.1 h4.2.2.2
theorem Ik {α:Sort _} {β:Sort _} {γ:Sort _} {δ:Sort _} {ε:Sort _} {ζ:Sort _} {p1:Prop} {p2 p3 p4:α→β→γ→δ→ε→ζ→Prop} {c:Prop} (h:p1∧∃ x,∃ y,∃ z,∃ w,∃ v,∃ u,p2 x y z w v u∧p3 x y z w v u∧p4 x y z w v u) (k:p1→∀ x,∀ y,∀ z,∀ w,∀ v,∀ u,p2 x y z w v u→p3 x y z w v u→p4 x y z w v u→c):c:=h.2.elim fun x h1=>h1.elim fun y h2=>h2.elim fun z h3=>h3.elim fun w h4=>h4.elim fun v h5=>h5.elim fun u h6=>k h.1 x y z w v u h6.1 h6.2.1 h6.2.2
theorem JC {α:Sort _} {β:Sort _} {γ:Sort _} {p1:α→Prop} {p2 p3:α→β→Prop} {p4 p5 p6 p7:α→β→γ→Prop} {c:Prop} (h:∃ x,p1 x∧∃ y,p2 x y∧p3 x y∧∃ z,p4 x y z∧p5 x y z∧p6 x y z∧p7 x y z) (k:∀ x,p1 x→∀ y,p2 x y→p3 x y→∀ z,p4 x y z→p5 x y z→p6 x y z→p7 x y z→c):c:=h.elim fun x h0=>h0.2.elim fun y h2=>h2.2.2.elim fun z h5=>k x h0.1 y h2.1 h2.2.1 z h5.1 h5.2.1 h5.2.2.1 h5.2.2.2
theorem DM {α:Sort _} {β:Sort _} {γ:Sort _} {p1 p2 p3 p4 p5 p6 p7:α→β→γ→Prop} {c:Prop} (h:∃ x,∃ y,∃ z,p1 x y z∧p2 x y z∧p3 x y z∧p4 x y z∧p5 x y z∧p6 x y z∧p7 x y z) (k:∀ x,∀ y,∀ z,p1 x y z→p2 x y z→p3 x y z→p4 x y z→p5 x y z→p6 x y z→p7 x y z→c):c:=h.elim fun x h0=>h0.elim fun y h1=>h1.elim fun z h2=>k x y z h2.1 h2.2.1 h2.2.2.1 h2.2.2.2.1 h2.2.2.2.2.1 h2.2.2.2.2.2.1 h2.2.2.2.2.2.2
theorem Iu {α:Sort _} {β:Sort _} {γ:Sort _} {δ:Sort _} {ε:Sort _} {p1 p2 p3 p4 p5:α→β→γ→δ→ε→Prop} {c:Prop} (h:∃ x,∃ y,∃ z,∃ w,∃ v,p1 x y z w v∧p2 x y z w v∧p3 x y z w v∧p4 x y z w v∧p5 x y z w v) (k:∀ x,∀ y,∀ z,∀ w,∀ v,p1 x y z w v→p2 x y z w v→p3 x y z w v→p4 x y z w v→p5 x y z w v→c):c:=h.elim fun x h0=>h0.elim fun y h1=>h1.elim fun z h2=>h2.elim fun w h3=>h3.elim fun v h4=>k x y z w v h4.1 h4.2.1 h4.2.2.1 h4.2.2.2.1 h4.2.2.2.2
theorem EE {α1:Sort _} {α2:Sort _} {α3:Sort _} {α4:Sort _} {α5:Sort _} {α6:Sort _} {α7:Sort _} {α8:Sort _} {p1:Prop} {p2 p3:α1→α2→α3→α4→α5→α6→α7→α8→Prop} {c:Prop} (h:p1∧∃ x1,∃ x2,∃ x3,∃ x4,∃ x5,∃ x6,∃ x7,∃ x8,p2 x1 x2 x3 x4 x5 x6 x7 x8∧p3 x1 x2 x3 x4 x5 x6 x7 x8) (k:p1→∀ x1,∀ x2,∀ x3,∀ x4,∀ x5,∀ x6,∀ x7,∀ x8,p2 x1 x2 x3 x4 x5 x6 x7 x8→p3 x1 x2 x3 x4 x5 x6 x7 x8→c):c:=h.2.elim fun x1 h1=>h1.elim fun x2 h2=>h2.elim fun x3 h3=>h3.elim fun x4 h4=>h4.elim fun x5 h5=>h5.elim fun x6 h6=>h6.elim fun x7 h7=>h7.elim fun x8 h8=>k h.1 x1 x2 x3 x4 x5 x6 x7 x8 h8.1 h8.2
theorem G9 {α:Sort _} {β:Sort _} {γ:Sort _} {δ:Sort _} {p1 p2 p3 p4 p5 p6 p7:α→β→γ→δ→Prop} {c:Prop} (h:∃ x,∃ y,∃ z,∃ w,p1 x y z w∧p2 x y z w∧p3 x y z w∧p4 x y z w∧p5 x y z w∧p6 x y z w∧p7 x y z w) (k:∀ x,∀ y,∀ z,∀ w,p1 x y z w→p2 x y z w→p3 x y z w→p4 x y z w→p5 x y z w→p6 x y z w→p7 x y z w→c):c:=h.elim fun x h0=>h0.elim fun y h1=>h1.elim fun z h2=>h2.elim fun w h3=>k x y z w h3.1 h3.2.1 h3.2.2.1 h3.2.2.2.1 h3.2.2.2.2.1 h3.2.2.2.2.2.1 h3.2.2.2.2.2.2
theorem Gm {α:Sort _} {β:Sort _} {γ:Sort _} {p1 p2 p3 p4 p5 p6:α→β→Prop} {p7 p8 p9:α→β→γ→Prop} {c:Prop} (h:∃ x,∃ y,p1 x y∧p2 x y∧p3 x y∧p4 x y∧p5 x y∧p6 x y∧∃ z,p7 x y z∧p8 x y z∧p9 x y z) (k:∀ x,∀ y,p1 x y→p2 x y→p3 x y→p4 x y→p5 x y→p6 x y→∀ z,p7 x y z→p8 x y z→p9 x y z→c):c:=h.elim fun x h0=>h0.elim fun y h1=>h1.2.2.2.2.2.2.elim fun z h8=>k x y h1.1 h1.2.1 h1.2.2.1 h1.2.2.2.1 h1.2.2.2.2.1 h1.2.2.2.2.2.1 z h8.1 h8.2.1 h8.2.2
theorem GD {α:Sort _} {β:Sort _} {γ:Sort _} {δ:Sort _} {ε:Sort _} {ζ:Sort _} {p1 p2 p3 p4 p5 p6:α→β→γ→δ→ε→ζ→Prop} {c:Prop} (h:∃ x,∃ y,∃ z,∃ w,∃ v,∃ u,p1 x y z w v u∧p2 x y z w v u∧p3 x y z w v u∧p4 x y z w v u∧p5 x y z w v u∧p6 x y z w v u) (k:∀ x,∀ y,∀ z,∀ w,∀ v,∀ u,p1 x y z w v u→p2 x y z w v u→p3 x y z w v u→p4 x y z w v u→p5 x y z w v u→p6 x y z w v u→c):c:=h.elim fun x h0=>h0.elim fun y h1=>h1.elim fun z h2=>h2.elim fun w h3=>h3.elim fun v h4=>h4.elim fun u h5=>k x y z w v u h5.1 h5.2.1 h5.2.2.1 h5.2.2.2.1 h5.2.2.2.2.1 h5.2.2.2.2.2
theorem Fq {α:Sort _} {β:Sort _} {p1 p2 p3 p4 p5 p6 p7 p8 p9 p10 p11:α→β→Prop} {c:Prop} (h:∃ x,∃ y,p1 x y∧p2 x y∧p3 x y∧p4 x y∧p5 x y∧p6 x y∧p7 x y∧p8 x y∧p9 x y∧p10 x y∧p11 x y) (k:∀ x,∀ y,p1 x y→p2 x y→p3 x y→p4 x y→p5 x y→p6 x y→p7 x y→p8 x y→p9 x y→p10 x y→p11 x y→c):c:=h.elim fun x h0=>h0.elim fun y h1=>k x y h1.1 h1.2.1 h1.2.2.1 h1.2.2.2.1 h1.2.2.2.2.1 h1.2.2.2.2.2.1 h1.2.2.2.2.2.2.1 h1.2.2.2.2.2.2.2.1 h1.2.2.2.2.2.2.2.2.1 h1.2.2.2.2.2.2.2.2.2.1 h1.2.2.2.2.2.2.2.2.2.2
theorem Bi {α:Sort _} {β:Sort _} {γ:Sort _} {δ:Sort _} {ε:Sort _} {ζ:Sort _} {p1 p2 p3 p4 p5 p6 p7:α→β→γ→δ→ε→ζ→Prop} {c:Prop} (h:∃ x,∃ y,∃ z,∃ w,∃ v,∃ u,p1 x y z w v u∧p2 x y z w v u∧p3 x y z w v u∧p4 x y z w v u∧p5 x y z w v u∧p6 x y z w v u∧p7 x y z w v u) (k:∀ x,∀ y,∀ z,∀ w,∀ v,∀ u,p1 x y z w v u→p2 x y z w v u→p3 x y z w v u→p4 x y z w v u→p5 x y z w v u→p6 x y z w v u→p7 x y z w v u→c):c:=h.elim fun x h0=>h0.elim fun y h1=>h1.elim fun z h2=>h2.elim fun w h3=>h3.elim fun v h4=>h4.elim fun u h5=>k x y z w v u h5.1 h5.2.1 h5.2.2.1 h5.2.2.2.1 h5.2.2.2.2.1 h5.2.2.2.2.2.1 h5.2.2.2.2.2.2
theorem A2 {α1:Sort _} {α2:Sort _} {α3:Sort _} {α4:Sort _} {α5:Sort _} {α6:Sort _} {α7:Sort _} {α8:Sort _} {α9:Sort _} {α10:Sort _} {α11:Sort _} {α12:Sort _} {p1:α1→α2→α3→α4→α5→α6→α7→α8→α9→α10→α11→α12→Prop} {c:Prop} (h:∃ x1,∃ x2,∃ x3,∃ x4,∃ x5,∃ x6,∃ x7,∃ x8,∃ x9,∃ x10,∃ x11,∃ x12,p1 x1 x2 x3 x4 x5 x6 x7 x8 x9 x10 x11 x12) (k:∀ x1,∀ x2,∀ x3,∀ x4,∀ x5,∀ x6,∀ x7,∀ x8,∀ x9,∀ x10,∀ x11,∀ x12,p1 x1 x2 x3 x4 x5 x6 x7 x8 x9 x10 x11 x12→c):c:=h.elim fun x1 h0=>h0.elim fun x2 h1=>h1.elim fun x3 h2=>h2.elim fun x4 h3=>h3.elim fun x5 h4=>h4.elim fun x6 h5=>h5.elim fun x7 h6=>h6.elim fun x8 h7=>h7.elim fun x9 h8=>h8.elim fun x10 h9=>h9.elim fun x11 h10=>h10.elim fun x12 h11=>k x1 x2 x3 x4 x5 x6 x7 x8 x9 x10 x11 x12 h11
theorem DE {α:Sort _} {β:Sort _} {γ:Sort _} {δ:Sort _} {p1 p2 p3 p4 p5 p6 p7 p8 p9 p10:α→β→γ→δ→Prop} {c:Prop} (h:∃ x,∃ y,∃ z,∃ w,p1 x y z w∧p2 x y z w∧p3 x y z w∧p4 x y z w∧p5 x y z w∧p6 x y z w∧p7 x y z w∧p8 x y z w∧p9 x y z w∧p10 x y z w) (k:∀ x,∀ y,∀ z,∀ w,p1 x y z w→p2 x y z w→p3 x y z w→p4 x y z w→p5 x y z w→p6 x y z w→p7 x y z w→p8 x y z w→p9 x y z w→p10 x y z w→c):c:=h.elim fun x h0=>h0.elim fun y h1=>h1.elim fun z h2=>h2.elim fun w h3=>k x y z w h3.1 h3.2.1 h3.2.2.1 h3.2.2.2.1 h3.2.2.2.2.1 h3.2.2.2.2.2.1 h3.2.2.2.2.2.2.1 h3.2.2.2.2.2.2.2.1 h3.2.2.2.2.2.2.2.2.1 h3.2.2.2.2.2.2.2.2.2
theorem FD {α1:Sort _} {α2:Sort _} {α3:Sort _} {α4:Sort _} {α5:Sort _} {α6:Sort _} {α7:Sort _} {α8:Sort _} {α9:Sort _} {p1 p2 p3 p4 p5:α1→α2→α3→α4→α5→α6→α7→α8→α9→Prop} {c:Prop} (h:∃ x1,∃ x2,∃ x3,∃ x4,∃ x5,∃ x6,∃ x7,∃ x8,∃ x9,p1 x1 x2 x3 x4 x5 x6 x7 x8 x9∧p2 x1 x2 x3 x4 x5 x6 x7 x8 x9∧p3 x1 x2 x3 x4 x5 x6 x7 x8 x9∧p4 x1 x2 x3 x4 x5 x6 x7 x8 x9∧p5 x1 x2 x3 x4 x5 x6 x7 x8 x9) (k:∀ x1,∀ x2,∀ x3,∀ x4,∀ x5,∀ x6,∀ x7,∀ x8,∀ x9,p1 x1 x2 x3 x4 x5 x6 x7 x8 x9→p2 x1 x2 x3 x4 x5 x6 x7 x8 x9→p3 x1 x2 x3 x4 x5 x6 x7 x8 x9→p4 x1 x2 x3 x4 x5 x6 x7 x8 x9→p5 x1 x2 x3 x4 x5 x6 x7 x8 x9→c):c:=h.elim fun x1 h0=>h0.elim fun x2 h1=>h1.elim fun x3 h2=>h2.elim fun x4 h3=>h3.elim fun x5 h4=>h4.elim fun x6 h5=>h5.elim fun x7 h6=>h6.elim fun x8 h7=>h7.elim fun x9 h8=>k x1 x2 x3 x4 x5 x6 x7 x8 x9 h8.1 h8.2.1 h8.2.2.1 h8.2.2.2.1 h8.2.2.2.2
theorem Cs {α:Sort _} {β:Sort _} {γ:Sort _} {δ:Sort _} {p1 p2 p3 p4 p5 p6 p7 p8 p9 p10 p11:α→β→γ→δ→Prop} {c:Prop} (h:∃ x,∃ y,∃ z,∃ w,p1 x y z w∧p2 x y z w∧p3 x y z w∧p4 x y z w∧p5 x y z w∧p6 x y z w∧p7 x y z w∧p8 x y z w∧p9 x y z w∧p10 x y z w∧p11 x y z w) (k:∀ x,∀ y,∀ z,∀ w,p1 x y z w→p2 x y z w→p3 x y z w→p4 x y z w→p5 x y z w→p6 x y z w→p7 x y z w→p8 x y z w→p9 x y z w→p10 x y z w→p11 x y z w→c):c:=h.elim fun x h0=>h0.elim fun y h1=>h1.elim fun z h2=>h2.elim fun w h3=>k x y z w h3.1 h3.2.1 h3.2.2.1 h3.2.2.2.1 h3.2.2.2.2.1 h3.2.2.2.2.2.1 h3.2.2.2.2.2.2.1 h3.2.2.2.2.2.2.2.1 h3.2.2.2.2.2.2.2.2.1 h3.2.2.2.2.2.2.2.2.2.1 h3.2.2.2.2.2.2.2.2.2.2
theorem E9 {α1:Sort _} {α2:Sort _} {α3:Sort _} {α4:Sort _} {α5:Sort _} {α6:Sort _} {α7:Sort _} {α8:Sort _} {α9:Sort _} {α10:Sort _} {α11:Sort _} {p1 p2 p3 p4:α1→α2→α3→α4→α5→α6→α7→α8→α9→α10→α11→Prop} {c:Prop} (h:∃ x1,∃ x2,∃ x3,∃ x4,∃ x5,∃ x6,∃ x7,∃ x8,∃ x9,∃ x10,∃ x11,p1 x1 x2 x3 x4 x5 x6 x7 x8 x9 x10 x11∧p2 x1 x2 x3 x4 x5 x6 x7 x8 x9 x10 x11∧p3 x1 x2 x3 x4 x5 x6 x7 x8 x9 x10 x11∧p4 x1 x2 x3 x4 x5 x6 x7 x8 x9 x10 x11) (k:∀ x1,∀ x2,∀ x3,∀ x4,∀ x5,∀ x6,∀ x7,∀ x8,∀ x9,∀ x10,∀ x11,p1 x1 x2 x3 x4 x5 x6 x7 x8 x9 x10 x11→p2 x1 x2 x3 x4 x5 x6 x7 x8 x9 x10 x11→p3 x1 x2 x3 x4 x5 x6 x7 x8 x9 x10 x11→p4 x1 x2 x3 x4 x5 x6 x7 x8 x9 x10 x11→c):c:=h.elim fun x1 h0=>h0.elim fun x2 h1=>h1.elim fun x3 h2=>h2.elim fun x4 h3=>h3.elim fun x5 h4=>h4.elim fun x6 h5=>h5.elim fun x7 h6=>h6.elim fun x8 h7=>h7.elim fun x9 h8=>h8.elim fun x10 h9=>h9.elim fun x11 h10=>k x1 x2 x3 x4 x5 x6 x7 x8 x9 x10 x11 h10.1 h10.2.1 h10.2.2.1 h10.2.2.2
theorem EQ {α1:Sort _} {α2:Sort _} {α3:Sort _} {α4:Sort _} {α5:Sort _} {α6:Sort _} {α7:Sort _} {α8:Sort _} {α9:Sort _} {α10:Sort _} {α11:Sort _} {p1:Prop} {p2 p3 p4 p5:α1→α2→α3→α4→α5→α6→α7→α8→α9→α10→α11→Prop} {c:Prop} (h:p1∧∃ x1,∃ x2,∃ x3,∃ x4,∃ x5,∃ x6,∃ x7,∃ x8,∃ x9,∃ x10,∃ x11,p2 x1 x2 x3 x4 x5 x6 x7 x8 x9 x10 x11∧p3 x1 x2 x3 x4 x5 x6 x7 x8 x9 x10 x11∧p4 x1 x2 x3 x4 x5 x6 x7 x8 x9 x10 x11∧p5 x1 x2 x3 x4 x5 x6 x7 x8 x9 x10 x11) (k:p1→∀ x1,∀ x2,∀ x3,∀ x4,∀ x5,∀ x6,∀ x7,∀ x8,∀ x9,∀ x10,∀ x11,p2 x1 x2 x3 x4 x5 x6 x7 x8 x9 x10 x11→p3 x1 x2 x3 x4 x5 x6 x7 x8 x9 x10 x11→p4 x1 x2 x3 x4 x5 x6 x7 x8 x9 x10 x11→p5 x1 x2 x3 x4 x5 x6 x7 x8 x9 x10 x11→c):c:=h.2.elim fun x1 h1=>h1.elim fun x2 h2=>h2.elim fun x3 h3=>h3.elim fun x4 h4=>h4.elim fun x5 h5=>h5.elim fun x6 h6=>h6.elim fun x7 h7=>h7.elim fun x8 h8=>h8.elim fun x9 h9=>h9.elim fun x10 h10=>h10.elim fun x11 h11=>k h.1 x1 x2 x3 x4 x5 x6 x7 x8 x9 x10 x11 h11.1 h11.2.1 h11.2.2.1 h11.2.2.2
theorem DB {α1:Sort _} {α2:Sort _} {α3:Sort _} {α4:Sort _} {α5:Sort _} {α6:Sort _} {α7:Sort _} {α8:Sort _} {α9:Sort _} {α10:Sort _} {α11:Sort _} {α12:Sort _} {α13:Sort _} {α14:Sort _} {α15:Sort _} {α16:Sort _} {α17:Sort _} {p1 p2 p3 p4:α1→α2→α3→α4→α5→α6→α7→α8→α9→α10→α11→α12→α13→α14→α15→α16→α17→Prop} {c:Prop} (h:∃ x1,∃ x2,∃ x3,∃ x4,∃ x5,∃ x6,∃ x7,∃ x8,∃ x9,∃ x10,∃ x11,∃ x12,∃ x13,∃ x14,∃ x15,∃ x16,∃ x17,p1 x1 x2 x3 x4 x5 x6 x7 x8 x9 x10 x11 x12 x13 x14 x15 x16 x17∧p2 x1 x2 x3 x4 x5 x6 x7 x8 x9 x10 x11 x12 x13 x14 x15 x16 x17∧p3 x1 x2 x3 x4 x5 x6 x7 x8 x9 x10 x11 x12 x13 x14 x15 x16 x17∧p4 x1 x2 x3 x4 x5 x6 x7 x8 x9 x10 x11 x12 x13 x14 x15 x16 x17) (k:∀ x1,∀ x2,∀ x3,∀ x4,∀ x5,∀ x6,∀ x7,∀ x8,∀ x9,∀ x10,∀ x11,∀ x12,∀ x13,∀ x14,∀ x15,∀ x16,∀ x17,p1 x1 x2 x3 x4 x5 x6 x7 x8 x9 x10 x11 x12 x13 x14 x15 x16 x17→p2 x1 x2 x3 x4 x5 x6 x7 x8 x9 x10 x11 x12 x13 x14 x15 x16 x17→p3 x1 x2 x3 x4 x5 x6 x7 x8 x9 x10 x11 x12 x13 x14 x15 x16 x17→p4 x1 x2 x3 x4 x5 x6 x7 x8 x9 x10 x11 x12 x13 x14 x15 x16 x17→c):c:=h.elim fun x1 h0=>h0.elim fun x2 h1=>h1.elim fun x3 h2=>h2.elim fun x4 h3=>h3.elim fun x5 h4=>h4.elim fun x6 h5=>h5.elim fun x7 h6=>h6.elim fun x8 h7=>h7.elim fun x9 h8=>h8.elim fun x10 h9=>h9.elim fun x11 h10=>h10.elim fun x12 h11=>h11.elim fun x13 h12=>h12.elim fun x14 h13=>h13.elim fun x15 h14=>h14.elim fun x16 h15=>h15.elim fun x17 h16=>k x1 x2 x3 x4 x5 x6 x7 x8 x9 x10 x11 x12 x13 x14 x15 x16 x17 h16.1 h16.2.1 h16.2.2.1 h16.2.2.2
end Mine.Internal
namespace Mine.Internal
open PySem PySem.Calls PySem.W PyProof.Rows
noncomputable def F1 (p:Program) (w:World) (n₀:Nat) (ann:Option Value):Nat→SharedT→Thread→Option SharedT
 | 0,_,_=>none
 | n+1,s,t=>match through t with
  | true=>some s
  | false=>match PySem.W.Fast.tw6613529449190102663 n₀ ann t with
   | false=>none
   | true=>match PySem.W.Fast.tw10156331382660048174 (PySem.W.Fast.tw11892475500146522536 PySem.W.Fast.tw14364793385576792824) p w s t with
    | some (s',t')=>F1 p w n₀ ann n s' t'
    | none=>none
theorem Go:∀ {n:Nat} {s s':SharedT} {t:Thread},F1 p w n₀ ann n s t=some s'→topRun treeTable p w n₀ ann n s.abs t=some s'.abs
 | 0,_,_,_,h=>by cases h
 | n+1,s,s',t,h=>by
  unfold F1 at h
  unfold topRun
  rw [← PySem.W.Fast.te6613529449190102663,← PySem.W.Fast.te10156331382660048174,← PySem.W.Fast.te11892475500146522536,← PySem.W.Fast.te14364793385576792824] at h
  cases he:through t with
  | true=>rw [he] at h;cases h;rfl
  | false=>
   rw [he] at h
   cases hk:stepOk n₀ ann t with
   | false=>rw [hk] at h;cases h
   | true=>
    rw [hk] at h
    cases hs:stepT (denote treeTable) p w s t with
    | none=>rw [hs] at h;cases h
    | some r=>obtain ⟨s₂,t₂⟩:=r;rw [hs] at h;rw [stepT_spec hs];exact Go h
noncomputable def Gh (P:Params):BT:=((boot_heap P).objs.toList.foldl (fun (x:BT × Nat) o=>(x.1.ins x.2 o,x.2+1)) (BT.nil,0)).1
theorem Jy (P:Params):boot_heap P=absHeap (Gh P) 11 {}:=by kernel_rfl
end Mine.Internal
namespace Mine.Internal
open PySem
noncomputable def Ris (xs:Array Nat):Prop:=xs.toList.Pairwise (·<·)
theorem Nt (xs:Array Nat) (k:Nat):xs.getD k 0=(xs[k]?).getD 0:=by rw [Array.getD_eq_getD_getElem?]
theorem Bz {xs:Array Nat} {i:Nat} (d:Nat) (h:i<xs.size):xs.getD i d=xs.toList[i]:=by
 rw [Array.getD_eq_getD_getElem?,Array.getElem?_eq_getElem h];rfl
theorem Ris.lt {xs:Array Nat} (R:Ris xs) {i j:Nat} (h:i<j) (hj:j<xs.size):xs.getD i 0<xs.getD j 0:=by
 rw [Bz 0 hj,Bz 0 (Nat.lt_trans h hj)]
 exact List.pairwise_iff_getElem.mp R i j (Nat.lt_trans h hj) hj h
theorem Ris.le (R:Ris xs) (h:i≤k) (h':k<xs.size):xs.getD i 0≤xs.getD k 0:=
 (Nat.lt_or_eq_of_le h).elim (fun h=>Nat.le_of_lt (R.lt h h')) fun e=>e▸Nat.le_refl _
noncomputable def Li (xs:Array Nat) (j r:Nat):Prop:=r≤xs.size∧(∀ i,i<r→xs.getD i 0<j)∧∀ i,r≤i→i<xs.size→j≤xs.getD i 0
theorem OG {xs:Array Nat} {j:Nat} (R:Ris xs) (f:Nat):∀ lo hi:Nat,lo≤hi→hi≤xs.size→hi≤lo+f→(∀ i,i<lo→xs.getD i 0<j)→(∀ i,hi≤i→i<xs.size→j≤xs.getD i 0)→Li xs j (SetTable.below.go xs j f lo hi):=by
 induction f with
 | zero=>exact fun lo hi h1 h2 h3 a b=>⟨Nat.le_trans h1 h2,a,fun i h=>b i (Nat.le_trans h3 h)⟩
 | succ f ih=>
  intro lo hi h1 h2 h3 a b
  by_cases hlt:lo<hi
  ·have m1:lo≤(lo+hi) / 2:=(Nat.le_div_iff_mul_le (by decide)).mpr (by rw [Nat.mul_two];exact Nat.add_le_add_left h1 lo)
   have m2:(lo+hi) / 2<hi:=Nat.div_lt_of_lt_mul (by rw [Nat.two_mul];exact Nat.add_lt_add_right hlt hi)
   have hm:=Nat.lt_of_lt_of_le m2 h2
   by_cases hc:xs.getD ((lo+hi) / 2) j<j
   ·rw [show SetTable.below.go xs j (f+1) lo hi=SetTable.below.go xs j f ((lo+hi) / 2+1) hi from (if_pos hlt).trans (if_pos hc)]
    rw [Bz j hm,← Bz 0 hm] at hc
    exact ih _ hi m2 h2 (by rw [Nat.add_right_comm];exact Nat.le_trans h3 (Nat.add_le_add_right m1 (f+1))) (fun i h=>Nat.lt_of_le_of_lt (R.le (Nat.le_of_lt_succ h) hm) hc) b
   ·rw [show SetTable.below.go xs j (f+1) lo hi=SetTable.below.go xs j f lo ((lo+hi) / 2) from (if_pos hlt).trans (if_neg hc)]
    rw [Bz j hm,← Bz 0 hm] at hc
    exact ih lo _ m1 (Nat.le_of_lt hm) (Nat.le_of_lt_succ (Nat.lt_of_lt_of_le m2 h3)) a fun i h4 h5=>Nat.le_trans (Nat.le_of_not_lt hc) (R.le h4 h5)
  ·rw [show SetTable.below.go xs j (f+1) lo hi=lo from if_neg hlt]
   exact ⟨Nat.le_trans h1 h2,a,fun i h=>b i (Nat.le_trans (Nat.le_of_not_lt hlt) h)⟩
theorem GP (R:Ris xs):Li xs j (SetTable.below xs j):=
 OG R xs.size 0 xs.size (Nat.zero_le _) (Nat.le_refl _) (Nat.le_add_left _ _) (fun i h=>absurd h (Nat.not_lt_zero _)) fun i h h'=>absurd h' (Nat.not_lt.mpr h)
theorem Ks (R:Ris xs) (h:i<xs.size):SetTable.below xs (xs.getD i 0+1)=i+1:=by
 have k:=GP (j:=xs.getD i 0+1) R
 exact Nat.le_antisymm (Nat.not_lt.mp fun h1=>Nat.not_lt.mpr (R.lt (Nat.lt_succ_self i) (Nat.lt_of_lt_of_le h1 k.1)) (k.2.1 (i+1) h1)) (Nat.not_lt.mp fun h1=>Nat.lt_irrefl _ (k.2.2 i (Nat.le_of_lt_succ h1) h))
theorem K4 (R:Ris xs):SetTable.below xs 0=0:=Nat.eq_zero_of_not_pos fun h=>Nat.not_lt_zero _ ((GP R).2.1 0 h)
theorem LA {xs:Array Nat} {j:Nat} (R:Ris xs) (hj:xs[SetTable.below xs j]?≠some j):Ris (SetTable.insertAt xs (SetTable.below xs j) j):=by
 refine Ay (GP (j:=j) R) fun a b c=>?_
 unfold Ris
 rw [SetTable.toList_insertAt]
 generalize SetTable.below xs j=p at *
 have hb:∀ x∈xs.toList.take p,x<j:=fun x hx=>(List.mem_take_iff_getElem.mp hx).elim fun i h=>h.elim fun h e=>by
  have h:=Nat.lt_min.mp h
  have:=b i h.1
  rw [Bz 0 h.2] at this;exact e▸this
 have hc:∀ x∈xs.toList.drop p,j<x:=fun x hx=>(List.mem_drop_iff_getElem.mp hx).elim fun i h=>h.elim fun h e=>by
  have h:p+i<xs.size:=Nat.add_comm i p▸h
  have h1:=c (p+i) (Nat.le_add_right _ _) h
  rw [Bz 0 h] at h1
  refine Nat.lt_of_le_of_ne (e▸h1) fun e'=>?_
  have hp:=Nat.lt_of_le_of_lt (Nat.le_add_right p i) h
  have h2:=c p (Nat.le_refl _) hp
  rw [Bz 0 hp] at h2
  refine (Nat.eq_zero_or_pos i).elim (fun z=>?_) fun z=>?_
  ·subst z
   exact hj (by rw [e',← e];exact Array.getElem?_eq_getElem hp)
  ·have h3:=R.lt (Nat.lt_add_of_pos_right z) h
   rw [Bz 0 h,Bz 0 hp] at h3
   exact Nat.lt_irrefl _ (Nat.lt_of_le_of_lt h2 (Nat.lt_of_lt_of_eq h3 (e.trans e'.symm)))
 exact List.pairwise_append.mpr ⟨R.sublist (List.take_sublist ..),List.pairwise_cons.mpr ⟨hc,R.sublist (List.drop_sublist ..)⟩,fun x hx=>List.forall_mem_cons.mpr ⟨hb x hx,fun y hy=>Nat.lt_trans (hb x hx) (hc y hy)⟩⟩
theorem Mo (n:Nat):Ris (Array.range n):=by unfold Ris;rw [Array.toList_range];exact List.pairwise_lt_range
noncomputable def Mt (t:SetTable) (j:Nat):Prop:=t.place[SetTable.below t.place j]?≠some j
theorem NC (h:∀ i,t.slot j≠.live i):Mt t j:=fun e=>by
 refine h (SetTable.below t.place j) ?_
 unfold SetTable.slot
 simp [e]
theorem EF {t:SetTable} {p:SetTable.Probe}:(t.advance p).dummy=p.dummy:=by
 unfold SetTable.advance
 split <;> rfl
noncomputable def Ip (t:SetTable):Option SetTable.Met→Prop
 | some (.empty j d)=>Mt t j∧∀ e,d=some e→Mt t e
 | _=>True
theorem KZ {t:SetTable} {f:Nat→Int} {h:Int} (n:Nat):∀ p:SetTable.Probe,(∀ e,p.dummy=some e→Mt t e)→Ip t (SetTable.probe.go t f h n p):=by
 induction n with
 | zero=>exact fun _ _=>trivial
 | succ n ih=>
  intro p hp
  have hf:(∀ i,t.slot p.j≠.live i)→Mt t p.j:=NC
  show Ip t (match t.slot p.j with
   | .empty=>some (.empty p.j p.dummy)
   | .dummy=>SetTable.probe.go t f h n (t.advance { p with dummy:=some p.j })
   | .live i=>if f i==h then some (.candidate p.j i (t.advance p)) else SetTable.probe.go t f h n (t.advance p))
  generalize t.slot p.j=s at hf ⊢
  cases s with
  | empty=>exact ⟨hf nofun,hp⟩
  | dummy=>exact ih _ fun e he=>Option.some.inj (EF.symm.trans he)▸hf nofun
  | live i=>
   show Ip t (if f i==h then _ else _)
   by_cases hc:(f i==h)=true
   ·rw [if_pos hc];trivial
   ·rw [if_neg hc];exact ih _ fun e he=>hp e (EF.symm.trans he)
theorem G3 (e:t.freeSlot h=some (j,b)):Mt t j:=by
 have k:=KZ (t:=t) (f:=fun _=>h+1) (h:=h) (10*SetTable.turns t.mask) (t.probeStart h) nofun
 unfold SetTable.freeSlot SetTable.probe at e
 generalize SetTable.probe.go t (fun _=>h+1) h (10*SetTable.turns t.mask) (t.probeStart h)=m at k e
 cases m with
 | none=>cases e
 | some m=>
  cases m with
  | candidate=>cases e
  | empty j' d=>
   cases d with
   | none=>cases e;exact k.1
   | some x=>cases e;exact k.2 x rfl
theorem Ct {t:SetTable} {n:Nat}:Ris (t.standIn n).place:=Mo n
theorem G6 {t:SetTable} {n:Nat} (R:Ris t.place):Ris (t.orStandIn n).place∧(t.orStandIn n).led=t.led:=by
 unfold SetTable.orStandIn
 split
 ·exact ⟨R,rfl⟩
 ·exact ⟨Ct,rfl⟩
theorem KU {t:SetTable} {es:Array (Int × Value)} {h:Int} {x:Value} (R:Ris t.place):Ris (layNew t es h x).2.1.place∧(layNew t es h x).2.1.led=t.led:=by
 unfold layNew
 split
 ·rename_i slot wd hf
  have hr:Ris (t.put slot).1.place:=LA R (G3 hf)
  exact G6 (t:=(t.put slot).1) hr
 ·exact ⟨Ct,rfl⟩
theorem Nr {g:Nat→Option Nat} (n:Nat):Ris ((((List.range n).filterMap fun j=>(g j).map (j,·)).map (·.1)).toArray):=by
 have hp:(((List.range n).filterMap fun j=>(g j).map (j,·)).map (·.1)).Pairwise (·<·):=by
  rw [List.pairwise_map,List.pairwise_filterMap]
  refine List.pairwise_lt_range.imp fun {a b} hab x hx y hy=>?_
  refine AC (Option.map_eq_some_iff.mp hx) fun u _ ze1=>?_;subst ze1
  refine AC (Option.map_eq_some_iff.mp hy) fun v _ ze1=>?_;subst ze1
  exact hab
 exact hp
theorem I5 {n:Nat}:Ris (relayAll t es n).2.1.place∧(relayAll t es n).2.1.led=t.led:=by
 unfold relayAll
 split
 ·rename_i t' order hr
  have key:Ris t'.place∧t'.led=t.led:=by
   unfold SetTable.relaid SetTable.laid at hr
   simp only [Option.bind_eq_bind,Option.pure_def,Option.bind_eq_some_iff,Option.some.injEq,Prod.mk.injEq] at hr
   refine Ab hr fun owner _ ze1 _=>?_;subst ze1
   exact ⟨Nr _,rfl⟩
  dsimp only
  split
  ·exact key
  ·exact ⟨Ct,rfl⟩
 ·exact ⟨Ct,rfl⟩
end Mine.Internal
namespace Mine.Internal
open PySem PySem.Spec PyProof.Rows
section
variable {prog:Program} {w:World} {A:Around} {E:Value→Shared→Prop} {s:Shared}
noncomputable def Ch (es:Array (Int × Value)):List Int:=es.toList.map fun e=>numOf e.2
variable (prog w) in
noncomputable def SetR (h:Heap) (a:Addr) (led:Bool) (ks:List Int):Prop:=
 ∃ o es ep t,h.get? a=some o∧o.ExactSet∧o.data=.set es ep t∧ElemsOf (intKind prog w) es.toList∧ks=Ch es∧ks.Nodup∧es.size<scanBound∧t.fits es.size=true∧Ris t.place∧t.led=led
theorem KB (h:ElemsOf (intKind prog w) es) (he:e∈es):∃ t,e.2=.int (numOf e.2) t:=by
 obtain ⟨⟨k,hk,_⟩,_⟩:=h e he
 refine AQ (Value.isInt_shape hk) fun t ht=>?_
 exact ⟨t,by rw [ht];rfl⟩
theorem Oj (h:ElemsOf (intKind prog w) es) (he:e∈es):(intKind prog w).is k e.2=true↔numOf e.2=k:=by
 refine AQ (KB h he) fun t ht=>?_
 rw [ht]
 constructor
 ·intro hk
  have hk:Value.isInt k (Value.int (numOf e.2) t)=true:=hk
  refine AQ (Value.isInt_shape hk) fun t' e'=>?_
  cases e';rfl
 ·intro hk
  have:numOf e.2=k:=by simpa [numOf] using hk
  rw [this];exact intKind_is _ _ _ _
theorem JU {g:Bool→Sem Unit} (hg:∀ (b:Bool) (s₁:Shared) (Q':Unit→Shared→Prop),Q' () s₁→wpAny (model prog w) A (g b) Q' E s₁) {ep:Nat} (ho:s.heap.get? a=some o) (hex:o.ExactSet) (hd:o.data=.set es ep t) (hel1:ElemsOf (intKind prog w) es1.toList) (hnd:(Ch es1).Nodup) (hb1:es1.size<scanBound) (hf2:t2.fits es1.size=true) (hr:Ris t2.place) {led:Bool} (hled:t2.led=led)
  {wasDummy:Bool} {R:Option Bool→Shared→Prop}
  (h:∀ h' ks',Heap.SameBut a s.heap h'→SetR prog w h' a led ks'→ks'.Perm (Ch es1)→R (some true) { s with heap:=h' }) :
  wpAny (model prog w) A (do
    storeSet a es1 t2
    if (!wasDummy&&t2.tooFull)=true then do
      g (relayAll t2 es1 (SetTable.grown es1.size)).2.2
      storeSet a (relayAll t2 es1 (SetTable.grown es1.size)).1 (relayAll t2 es1 (SetTable.grown es1.size)).2.1
      pure (some true)
     else pure (some true)) R E s:=by
 have stored:∀ {h₁:Heap} {o₁:Obj} {es₁:Array (Int × Value)} {ep₁:Nat} {t₁:SetTable} (es':Array (Int × Value)) (t':SetTable),h₁.get? a=some o₁→o₁.data=.set es₁ ep₁ t₁ →
   (h₁.update a (Obj.putSet es' t')).get? a=some { o₁ with data:=.set es' (ep₁+1) t' }:=fun es' t' h1 h2=>by
  have:=Heap.get?_update_self (Obj.putSet es' t') h1 (by rw [putSet_of es' t' h2];rfl)
  rw [putSet_of es' t' h2] at this;exact this
 refine wpAny_bind (wpAny_storeSet_of ho hd ?_ (fits_of_scanBound hb1))
 have ho1:=stored es1 t2 ho hd
 have hsb1:=Heap.SameBut.update s.heap a (Obj.putSet es1 t2)
 split
 ·have hp:=relayAll_perm t2 es1 (SetTable.grown es1.size)
  have hfr:=relayAll_fits t2 es1 (SetTable.grown es1.size)
  have hrr:=I5 (t:=t2) (es:=es1) (n:=SetTable.grown es1.size)
  generalize relayAll t2 es1 (SetTable.grown es1.size)=Rl at hp hfr hrr ⊢
  obtain ⟨es2,t3,gave2⟩:=Rl
  dsimp only at hp hfr hrr ⊢
  have hsz:es2.size=es1.size:=by rw [← Array.length_toList,hp.length_eq,Array.length_toList]
  have hb2:es2.size<scanBound:=by rw [hsz];exact hb1
  have hk:(Ch es2).Perm (Ch es1):=hp.map _
  refine wpAny_bind (hg _ _ _ ?_)
  refine wpAny_bind (wpAny_storeSet_of ho1 rfl ?_ (fits_of_scanBound hb2))
  exact wpAny_pure (h _ (Ch es2) (hsb1.trans (Heap.SameBut.update _ a _)) ⟨_,es2,_,t3,stored es2 t3 ho1 rfl,hex,rfl,hel1.perm hp,rfl,hk.nodup_iff.mpr hnd,hb2,hfr,hrr.1,hrr.2.trans hled⟩ hk)
 ·exact wpAny_pure (h _ (Ch es1) hsb1 ⟨_,es1,_,t2,ho1,hex,rfl,hel1,rfl,hnd,hb1,hf2,hr,hled⟩ (List.Perm.refl _))
theorem TO (S:SetR prog w s.heap a led ks) (hroom:ks.length+1<scanBound)
  (h:∀ h' ks' b,Heap.SameBut a s.heap h'→SetR prog w h' a led ks'→(∀ x,x∈ks'↔x∈ks∨x=k)→ks'.length≤ks.length+1→Q b { s with heap:=h' }) :
  wpAny (model prog w) A (setAddHashed a (.int k tk) ((intKind prog w).hash k)) Q E s:=by
 refine DE (id S) fun o es ep t ho hex hd hel hks hnd hb hf hr hled=>?_
 have hlen:ks.length=es.size:=by rw [hks];simp [Ch]
 have hkey:=intKind_is prog w k tk
 have hsc:(Value.int k tk).scannable=true:=rfl
 unfold setAddHashed setAddHashedIn
 refine wpAny_holding (wpAny_bind (wpAny_setState_of ho hd hf ?_))
 dsimp only
 rw [byScan_of hsc hb hel]
 simp only [↓reduceIte]
 unfold setAddByScan
 refine wpAny_bind ?_
 refine wpAny_bind (wpAny_rule ?_)
 refine wpAny_bind (wpAny_setScan_of hkey ho hd hf hel ?_)
 cases hi:List.findIdx? (fun e=>(intKind prog w).is k e.2) es.toList with
 | some j=>
  dsimp only
  refine AC (List.findIdx?_eq_some_iff_getElem.mp hi) fun hj hpj _=>?_
  have hm:k∈ks:=by
   rw [hks]
   exact List.mem_map.mpr ⟨es.toList[j],List.getElem_mem hj,(Oj hel (List.getElem_mem hj)).mp hpj⟩
  refine wpAny_pure (wpAny_pure ?_)
  have e:s={ s with heap:=s.heap }:=by cases s;rfl
  rw [e]
  exact h s.heap ks _ (Heap.SameBut.refl a s.heap) S (fun x=>⟨.inl,fun q=>q.elim id fun q=>q▸hm⟩) (Nat.le_succ _)
 | none=>
  dsimp only
  have hm:k∉ks:=fun q=>by
   rw [hks] at q
   refine AC (List.mem_map.mp q) fun e he hk=>?_
   have h1:=List.findIdx?_eq_none_iff.mp hi e he
   rw [(Oj hel he).mpr hk] at h1;cases h1
  have hgw:∀ (b:Bool) {s₁:Shared} {Q':Unit→Shared→Prop},Q' () s₁→wpAny (model prog w) A (match b with | true=>rule "set.scan.the-table-gave-way" | false=>pure ()) Q' E s₁:=
   fun b s₁ Q' hq=>by cases b <;> first | exact wpAny_pure hq | exact wpAny_rule hq
  have hperm:=layNew_perm t es ((intKind prog w).hash k) (.int k tk)
  have hfits:=layNew_fits t es ((intKind prog w).hash k) (.int k tk)
  have hris:=KU (es:=es) (h:=(intKind prog w).hash k) (x:=.int k tk) hr
  generalize layNew t es ((intKind prog w).hash k) (.int k tk)=L at hperm hfits hris ⊢
  obtain ⟨es1,t1,wasDummy,gave⟩:=L
  dsimp only at hperm hfits hris ⊢
  rw [Array.toList_push] at hperm
  have hel1:ElemsOf (intKind prog w) es1.toList:=(hel.push hkey hsc).perm hperm
  have hsz1:es1.size=es.size+1:=by rw [← Array.length_toList,hperm.length_eq,List.length_append,Array.length_toList];rfl
  have hk1:(Ch es1).Perm (ks++[k]):=by
   rw [hks]
   have:=hperm.map fun e=>numOf e.2
   rw [List.map_append] at this
   exact this
  have hnd1:(Ch es1).Nodup:=by
   rw [hk1.nodup_iff,List.nodup_append]
   exact ⟨hnd,by simp,fun x hx y hy e=>by simp at hy;subst hy;subst e;exact hm hx⟩
  have hb1':es1.size<scanBound:=by exact an4 .lt .v0 .v1 (.q .v0 (.a .v2 .n1) (.p .v3 .v2 (.t (.a .v3 .n1) .v1 .e))) rfl hsz1 hlen hroom
  refine wpAny_bind (hgw _ ?_)
  have hend:∀ h' ks',Heap.SameBut a s.heap h'→SetR prog w h' a led ks'→ks'.Perm (Ch es1)→Q true { s with heap:=h' }:=fun h' ks' hsb hS hp=>by
   have hp':=hp.trans hk1
   refine h h' ks' true hsb hS (fun x=>?_) (by rw [hp'.length_eq];simp)
   rw [hp'.mem_iff];simp
  split
  ·refine wpAny_bind ?_
   rw [hashByValue_scannable 8 hsc]
   refine wpAny_pure ?_
   refine JU ?_ ho hex hd hel1 hnd1 hb1' ?_ ?_ (led:=led) ?_ ?_
   ·intro b s₁ Q' hq;cases b <;> first | exact wpAny_pure hq | exact wpAny_rule hq
   ·exact hfits
   ·exact hris.1
   ·exact hris.2.trans hled
   ·intro h' ks' hsb hS' hp;dsimp only;exact wpAny_pure (hend h' ks' hsb hS' hp)
  ·refine wpAny_bind (wpAny_pure ?_)
   simp only [↓reduceIte]
   refine JU ?_ ho hex hd hel1 hnd1 hb1' hfits hris.1 (led:=led) (hris.2.trans hled) ?_
   ·intro b s₁ Q' hq;cases b <;> first | exact wpAny_pure hq | exact wpAny_rule hq
   ·intro h' ks' hsb hS' hp;dsimp only;exact wpAny_pure (hend h' ks' hsb hS' hp)
end
section
variable {prog:Program} {w:World} {A:Around} {R:Result→Shared→Prop} {I:Addr} {fp wr:List Addr} {G:Array GenState→Array GenState→Prop} {n:Nat} {P:Nat→Value→Prop} {St:Nat→Shared→Prop}
theorem SetR.keep (S:SetR prog w h a led ks) (k:∀ o,h.get? a=some o→h'.get? a=some o):SetR prog w h' a led ks:=by
 refine Pb S fun o es ep t ho rest=>?_
 exact ⟨o,es,ep,t,k o ho,rest⟩
theorem Je (W:WalksS prog w A.in1 I fp wr G n P St) (S:Addr) (hSf:S∉fp) (val:Nat→Int) (hval:∀ i v,P i v→∃ t,v=.int (val i) t) (hb:n+1<scanBound) :
  ∀ (k i:Nat) (s:Shared) (ks:List Int),n - i=k→i≤n→St i s→SetR prog w s.heap S led ks→(∀ x,x∈ks↔∃ j,j<i∧val j=x)→ks.length≤i →
   (∀ s' ks',Moved (S::wr) G s s'→SetR prog w s'.heap S led ks'→(∀ x,x∈ks'↔∃ j,j<n∧val j=x)→ks'.length≤n→R (.ok (.ret .none)) s') →
   codeAny (model prog w) A (.builtin "set.update.loop" ⟨[.ref S,.ref I],[]⟩) R s:=by
 have hSw:S∉wr:=fun h=>hSf (W.sub _ h)
 have hsub:∀ b∈wr,b∈S::wr:=fun b hb=>List.mem_cons_of_mem _ hb
 intro k
 induction k with
 | zero=>
  intro i s ks hk hi hst hS hm hl hR
  have hin:i=n:=by exact Nat.le_antisymm (an2 .le .v0 .v1 (.l .v0 .v1 .e) rfl hi) (an3 .le .v0 .v1 (.p (.a .v2 .v1) .v0 (.q .v2 .n0 .e)) rfl (Nat.sub_add_cancel (an2 .le .v0 .v1 (.l .v0 .v1 .e) rfl hi)) hk)
  subst hin
  refine codeAny_builtin F.entry_set_update_loop ?_
  rw [Around.under_plainId F.plain_set_update_loop _]
  show wpAny _ A.in1 (pyNext (.ref I) >>= _) _ _ s
  refine wpAny_bind (W.done s _ _ hst fun s' hmv=>?_)
  show wpAny _ A.in1 (ret Value.none) _ _ s'
  exact wpAny_pure (hR s' ks (hmv.mono hsub) (hS.keep fun o e=>hmv.heap S _ hSw e) hm hl)
 | succ k ih=>
  intro i s ks hk hi hst hS hm hl hR
  have hlt:i<n:=by exact an4 .lt .v0 .v1 (.q (.a .v2 .v0) .v1 (.p .v2 (.a .v3 .n1) .e)) rfl (Nat.sub_add_cancel (an2 .le .v0 .v1 (.l .v0 .v1 .e) rfl hi)) hk
  refine codeAny_builtin F.entry_set_update_loop ?_
  rw [Around.under_plainId F.plain_set_update_loop _]
  show wpAny _ A.in1 (pyNext (.ref I) >>= _) _ _ s
  refine wpAny_bind (W.item i s _ _ hlt hst fun v s' hP hst' hmv=>?_)
  refine AQ (hval i v hP) fun t ze1=>?_;subst ze1
  have hS':=hS.keep (h':=s'.heap) fun o e=>hmv.heap S _ hSw e
  show wpAny _ A.in1 (holding [Value.int (val i) t] (setAdd S (.int (val i) t)) >>= _) _ _ s'
  refine wpAny_bind (wpAny_holding ?_)
  unfold setAdd
  refine wpAny_holding ?_
  refine wpAny_bind ((intKind prog w).pyHash (k:=val i) (intKind_is _ _ _ _) ?_)
  refine TO (s:={ s' with toks:=s'.toks+1 }) hS' (by exact an4 .lt (.a .v0 .n1) .v1 (.l .v0 .v2 (.t .v2 .v3 (.t (.a .v3 .n1) .v1 .e))) rfl hl hlt hb) fun h' ks' b hsb hS2 hm2 hl2=>?_
  refine wpAny_pure ⟨plainId_quiet F.plain_set_update_loop _,ih (i+1) _ ks' (by exact Nat.le_antisymm (an5 .le .v0 .v1 (.q (.a .v0 (.a .v2 .n1)) .v3 (.p (.a .v4 .v2) .v3 (.q .v4 (.a .v1 .n1) .e))) rfl (Nat.sub_add_cancel (an2 .le (.a .v0 .n1) .v1 (.t .v0 .v1 .e) rfl hlt)) (Nat.sub_add_cancel (an2 .le .v0 .v1 (.t .v0 .v1 .e) rfl hlt)) hk) (an5 .le .v0 .v1 (.p .v2 (.a .v0 .n1) (.q (.a .v2 .v3) .v4 (.p (.a .v1 (.a .v3 .n1)) .v4 .e))) rfl hk (Nat.sub_add_cancel (an2 .le .v0 .v1 (.t .v0 .v1 .e) rfl hlt)) (Nat.sub_add_cancel (an2 .le (.a .v0 .n1) .v1 (.t .v0 .v1 .e) rfl hlt)))) hlt (W.frame _ s' _ _ hst' (Nat.le_succ _) fun b hb o e=>?_) hS2 (fun x=>?_) (by exact an3 .le .v0 (.a .v1 .n1) (.l .v0 (.a .v2 .n1) (.l .v2 .v1 .e)) rfl hl2 hl) fun s'' ks'' hm'' hS'' hms hls=>?_⟩
  ·rw [hsb.2 b (fun h:b=S=>hSf (by rw [← h];exact hb))];exact e
  ·rw [hm2 x,hm x]
   constructor
   ·rintro (⟨j,h1,h2⟩ | rfl)
    ·exact ⟨j,by exact an2 .lt .v0 (.a .v1 .n1) (.t .v0 .v1 .e) rfl h1,h2⟩
    ·exact ⟨i,by exact an1 .lt .v0 (.a .v0 .n1) .e rfl,rfl⟩
   ·rintro ⟨j,h1,h2⟩
    by_cases hj:j=i
    ·exact .inr (by rw [← h2,hj])
    ·exact .inl ⟨j,by exact Or.elim (Nat.lt_or_gt_of_ne hj) (fun z0=>an2 .lt .v0 .v1 (.t .v0 .v1 .e) rfl z0) (fun z0=>an2 .lt .v0 .v1 (.w 2 (.t .v0 (.a .v1 .n1) (.t .v1 .v0 .e))) rfl h1 z0),h2⟩
  ·refine hR s'' ks'' (Moved.trans W.gtrans ((hmv.mono hsub).then_heap (Nat.le_succ _) fun b o hb e=>?_) hm'') hS'' hms hls
   rw [hsb.2 b (fun h:b=S=>hb (by rw [h];exact List.mem_cons_self))];exact e
end
end Mine.Internal
namespace Mine.Internal
open PySem PySem.Spec PyProof.Rows
noncomputable def B1 (w:World):Bool:=!w.params.followText "set-order"
section
variable {prog:Program} {w:World} {A:Around} {E:Value→Shared→Prop} {s:Shared}
theorem Jl (a:Value)
  (h:Q₁ (.ref s.heap.objs.size) { s with heap:=s.heap.push { cls:=.type "set", dict:=none,data:=.set #[] 0 (.fresh 0 0 (B1 w)) } }) :
  codeAny (model prog w) A (.call (.builtin "set.__new__") ⟨[.type "set", a],[]⟩) (wants Q₁ E) s:=by
 refine codeAny_of_tree ?_
 show wpAny _ A.in1 (do checkBuiltinCall "set.__new__" ⟨[.type "set", a],[]⟩;again (.builtin "set.__new__" ⟨[.type "set", a],[]⟩)) _ _ s
 refine wpAny_bind (wpAny_of_eq (PySem.F.newCall_set_1 a) (wpAny_pure ⟨plainId_quiet PySem.F.plain_set_new _,codeAny_builtin PySem.F.entry_set_new ?_⟩))
 rw [Around.under_plainId PySem.F.plain_set_new _]
 unfold Builtin.«set.__new__» Builtin.Frozenset.newClass
 have hsub:=sub_set_self
 obtain ⟨hp,g,d,tk,os⟩:=s
 dsimp only
 wp_walk
 refine wpAny_askSetting (wpAny_pure ?_)
 dsimp only
 simp only [newObj]
 refine wpAny_bind (wpAny_alloc (wpAny_pure ?_))
 exact wpAny_pure h
theorem Mz {h:Heap} {led:Bool}:SetR prog w (h.push { cls:=.type "set", dict:=none,data:=.set #[] 0 (.fresh 0 0 led) }) h.objs.size led []:=
 ⟨_,#[],0,_,Heap.get?_push_size _ rfl,⟨rfl,rfl,rfl⟩,rfl,BP,rfl,List.nodup_nil,by decide,rfl,List.Pairwise.nil,rfl⟩
set_option maxRecDepth 100000 in
set_option maxHeartbeats 3200000 in
theorem Ni
  (hh:A.handled=none) (hl:s.heap.IsList l items) (hi:IntsAre items.toList ns) (hb:items.size+1<scanBound)
  (h:∀ (h':Heap) (tk:Nat) (ks:List Int),SetR prog w h' s.heap.objs.size (B1 w) ks→(∀ x,x∈ks↔x∈ns)→ks.length≤items.size →
   (∀ b o,b<s.heap.objs.size→s.heap.get? b=some o→h'.get? b=some o)→Q (.ref s.heap.objs.size) { s with heap:=h',toks:=tk }) :
  wpAny (model prog w) A (call (.type "set") [.ref l]) Q E s:=by
 have hlen:items.size=ns.length:=by have:=IntsAre.length hi;simpa using this
 refine Am F.called_set.mro fun c tl hmro=>?_
 have hmade:=F.called_set.made
 have hsub:=F.called_set.sub
 refine wpAny_call (codeAny_of_tree ?_)
 show wpAny _ _ (callAny (.type "set") _) _ _ _
 refine wpAny_pure ⟨Code.quiet_builtin _ (by decide +kernel),codeAny_builtin F.entry_type_call ?_⟩
 rw [Around.under_plain (weight_type_call_type "set" [.ref l] []) rfl]
 have h1:=F.called_set.notType
 have h2:=F.called_set.canCreate
 have hct:=PySem.F.typeCall_set_1 (.ref l)
 repeat (any_goals (first | assumption | wp_step))
 refine codeAny_mono (Jl (.ref l) (E:=E) (Q₁:=fun obj s₁=>obj=.ref s.heap.objs.size∧s₁={ s with heap:=s.heap.push { cls:=.type "set", dict:=none,data:=.set #[] 0 (.fresh 0 0 (B1 w)) } }) ⟨rfl,rfl⟩) fun r s₁ hr=>?_
 cases r with
 | error e=>exact hr
 | ok fl=>
  cases fl with
  | ret obj=>
   obtain ⟨rfl,rfl⟩:=hr
   have hS:(s.heap.push { cls:=.type "set", dict:=none,data:=.set #[] 0 (.fresh 0 0 (B1 w)) }).get? s.heap.objs.size=some { cls:=.type "set", dict:=none,data:=.set #[] 0 (.fresh 0 0 (B1 w)) }:=Heap.get?_push_size _ rfl
   have hT:Shared.TypeIs { s with heap:=s.heap.push { cls:=.type "set", dict:=none,data:=.set #[] 0 (.fresh 0 0 (B1 w)) } } (.ref s.heap.objs.size) "set":=⟨_,hS,rfl⟩
   have hli:=F.called_set.init.lookup
   have hbi:=F.called_set.init.bind (.ref s.heap.objs.size)
   repeat (any_goals (first | assumption | wp_step))
   refine codeAny_mono (codeAny_call_builtin (R:=wants (fun r s₂=>r=.none∧∃ h' tk ks,s₂={ s with heap:=h',toks:=tk }∧SetR prog w h' s.heap.objs.size (B1 w) ks∧(∀ x,x∈ks↔x∈ns)∧ks.length≤items.size ∧
     (∀ b o,b<s.heap.objs.size→s.heap.get? b=some o→h'.get? b=some o)) E) F.called_set.init.plain F.entry_set_init (check_set_init_1 hT ?_)) fun r₂ s₂ hr₂=>?_
   ·refine Qs hl fun ol hol hcl nl hdl=>?_
    obtain ⟨ocls,odict,odata,oslots⟩:=ol
    simp only at hcl hdl
    subst hcl;subst hdl
    have hol':(s.heap.push { cls:=.type "set", dict:=none,data:=.set #[] 0 (.fresh 0 0 (B1 w)) }).get? l=some { cls:=.type "list", dict:=odict,data:=.seq items nl,slots:=oslots }:=Heap.get?_push_of_some _ hol
    have hsls:=PySem.F.sub_list_set
    have hslf:=PySem.F.sub_list_frozenset
    have hne:(Value.type "list"==Value.type "dict")=false:=by decide
    have hl1:(s.heap.push { cls:=.type "set", dict:=none,data:=.set #[] 0 (.fresh 0 0 (B1 w)) }).IsList l items:=⟨_,hol',rfl,nl,rfl⟩
    unfold Builtin.«set.__init__» noKeywords Builtin.Frozenset.updateFrom
    generalize hPI:pyIter=PI
    wp_walk
    subst hPI
    refine wpAny_pyIter_list hl1 ?_
    refine wpAny_bind (wpAny_runValue ?_)
    have hlS:l<s.heap.objs.size:=Heap.lt_size hol
    have hh3:A.in1.in1.in1.handled=none:=by simp [hh]
    have hneI:l≠(s.heap.push { cls:=.type "set", dict:=none,data:=.set #[] 0 (.fresh 0 0 (B1 w)) }).objs.size:=by
     rw [Heap.size_push];exact Nat.ne_of_lt (Nat.lt_succ_of_lt hlS)
    have hSf:s.heap.objs.size∉[(s.heap.push { cls:=.type "set", dict:=none,data:=.set #[] 0 (.fresh 0 0 (B1 w)) }).objs.size,l]:=by
     rw [Heap.size_push];simp only [List.mem_cons,List.mem_singleton,List.not_mem_nil,or_false,not_or]
     exact ⟨Nat.ne_of_lt (Nat.lt_succ_self _),Nat.ne_of_gt hlS⟩
    have hval:∀ (i:Nat) (v:Value),items[i]?=some v→∃ t,v=.int ((fun i=>ns.getD i 0) i) t:=fun i v hv=>
     IntsAre.int_at hi i v (by rw [Array.getElem?_toList];exact hv)
    refine Je ((Walks.list hh3 _ l hneI items).toS) s.heap.objs.size hSf (fun i=>ns.getD i 0) hval hb (led:=B1 w) (items.size - 0) 0 _ [] (by exact Nat.le_antisymm (an1 .le .v0 .v0 .e rfl) (an1 .le .v0 .v0 .e rfl)) (Nat.zero_le _)
     ⟨⟨_,Heap.get?_push_size _ rfl,rfl,rfl⟩,(hl1.push _)⟩ (Mz.keep fun o e=>Heap.get?_push_of_some _ e) (fun x=>⟨fun q=>absurd q (by simp),fun ⟨j,hj,_⟩=>absurd hj (Nat.not_lt_zero _)⟩) (Nat.le_refl _) ?_
    intro s' ks hm hS' hms hls
    obtain ⟨h',g',d',tk',os'⟩:=s'
    have eg:g'=s.gens:=hm.gens
    have ed:d'=s.drawn:=hm.drawn
    have eo:os'=s.os:=hm.os
    subst eg;subst ed;subst eo
    show wpAny _ _ _ _ _ _
    refine wpAny_pure ?_
    show wpAny _ _ (ret Value.none) _ _ _
    refine wpAny_pure ⟨rfl,h',tk',ks,rfl,hS',fun x=>?_,hls,fun b o hb e=>?_⟩
    ·rw [hms x]
     constructor
     ·rintro ⟨j,hj,rfl⟩
      have:j<ns.length:=by exact an3 .lt .v0 .v1 (.t .v0 .v2 (.q .v2 .v1 .e)) rfl hj hlen
      simp [this]
     ·intro hx
      obtain ⟨j,hj,e⟩:=List.mem_iff_getElem.mp hx
      exact ⟨j,by exact an3 .lt .v0 .v1 (.t .v0 .v2 (.p .v1 .v2 .e)) rfl hj hlen,by simp [hj,e]⟩
    ·have hb1:b≠s.heap.objs.size:=Nat.ne_of_lt hb
     have hb2:b≠(s.heap.push { cls:=.type "set", dict:=none,data:=.set #[] 0 (.fresh 0 0 (B1 w)) }).objs.size:=by
      rw [Heap.size_push];exact Nat.ne_of_lt (Nat.lt_succ_of_lt hb)
     exact hm.heap b o (by simp only [List.mem_cons,List.mem_singleton,List.not_mem_nil,or_false,not_or];exact ⟨hb1,hb2⟩) (Heap.get?_push_of_some _ (Heap.get?_push_of_some _ e))
   ·cases r₂ with
    | error e=>exact hr₂
    | ok fl₂=>
     cases fl₂ with
     | ret r=>
      refine Dh hr₂ fun ze1 h' tk ks ze2 hS' hms hls hk'=>?_;subst ze1;subst ze2
      repeat (any_goals (first | assumption | wp_step))
      exact h _ _ _ hS' hms hls hk'
     | _=>exact hr₂.elim
  | _=>exact hr.elim
end
end Mine.Internal
namespace Mine.Internal
open PySem PySem.Spec PyProof.Rows
set_option maxRecDepth 100000
theorem GJ:entryFor table "set.__iter__"=some Builtin.«frozenset.__iter__»:=
 entryFor_alias (id':="frozenset.__iter__") (by kernel_rfl) rfl (by decide +kernel) (by kernel_rfl)
theorem AX:Slot "set_iterator" "__next__" "set_iterator.__next__":=
 .of (owner:="set_iterator") (n:="__next__") (by rw [typeLookup_type,builtinLookup_eq_fast];kernel_rfl) (by decide +kernel) (by decide +kernel) (by decide +kernel)
  (by first | exact .inl (by decide +kernel) | exact .inr (by decide +kernel)) (by rw [isSubtype_type];kernel_rfl)
theorem BC:entryFor table "set_iterator.__next__"=some Builtin.«set_iterator.__next__»:=entryFor_of_fast (by kernel_rfl)
theorem BJ (a:Value):argsOk "set_iterator.__next__" ⟨[a],[]⟩:=by unfold argsOk;kernel_rfl
section
variable {prog:Program} {w:World} {A:Around} {E:Value→Shared→Prop} {s:Shared}
noncomputable def A6 (first:Value) (i:Nat) (a:Addr) (n ep:Nat):Obj:={ cls:=.type "set_iterator", data:=.fields #[first,rawInt i,.ref a,rawInt n,rawInt ep] }
set_option backward.match.sparseCases true in
theorem DL (hI:s.heap.get? I=some (A6 first i a n ep)) (ho:s.heap.get? a=some o) (hd:o.data=.set es ep t) (hf:t.fits es.size=true) (hn:es.size=n)
  (h:wpAny (model prog w) A (match first with
   | .int slot _=>do
    match ← setNext a slot.toNat i ep with
    | some (x,next)=>do
     setField (.ref I) 0 (rawInt next)
     setField (.ref I) 1 (rawInt ((i:Int)+1))
     ret x
    | none=>do
     setField (.ref I) 2 .none
     raiseNew (← newExc (.type "StopIteration") [])
   | _=>do
    let some places ← seqItems? first | unsupported "internal:set_iterator"
    match places[i]? with
    | some (.int place _)=>do
     let x ← setNextDrawn a place.toNat ep
     setField (.ref I) 1 (rawInt ((i:Int)+1))
     ret x
    | some _=>unsupported "internal:set_iterator"
    | none=>do
     setField (.ref I) 0 (rawInt 0)
     setField (.ref I) 2 .none
     raiseNew (← newExc (.type "StopIteration") [])) Q E s):wpAny (model prog w) A (Builtin.«set_iterator.__next__» ⟨[.ref I],[]⟩) Q E s:=by
 unfold Builtin.«set_iterator.__next__»
 refine wpAny_bind (m:=slotArgs "__next__" 0 _) (wpAny_pure ?_)
 dsimp only
 refine wpAny_bind (wpAny_fieldsOf hI rfl ?_)
 dsimp only [rawInt]
 refine wpAny_bind (wpAny_setEntries_of ho hd hf ?_)
 rw [if_neg (by simp [hn])]
 exact h
theorem Ml {slot nx i n ep:Nat} {Q:Option Value→Shared→Prop} (hI:s.heap.get? I=some (A6 (rawInt slot) i a n ep)) (ho:s.heap.get? a=some o) (hd:o.data=.set es ep t) (hf:t.fits es.size=true) (hn:es.size=n)
  (hs:∀ (E':Value→Shared→Prop) (Q':Option (Value × Nat)→Shared→Prop),Q' (some (x,nx)) s→wpAny (model prog w) A.in1 (setNext a slot i ep) Q' E' s)
  (hQ:∀ h',h'.get? I=some (A6 (rawInt nx) (i+1) a n ep)→Heap.SameBut I s.heap h'→Q (some x) { s with heap:=h' }):wpAny (model prog w) A (pyNext (.ref I)) Q E s:=by
 have hT:s.TypeIs (.ref I) "set_iterator":=⟨_,hI,rfl⟩
 unfold pyNext
 refine wpAny_bind (wpAny_attempt (wpAny_callSpecial?_slot (name:=Str.ofString "__next__") hT AX
  (wpAny_call_entry AX hT BC (DL hI ho hd hf hn ?_) (BJ _))))
 show wpAny _ _ (setNext a slot i ep >>= _) _ _ s
 refine wpAny_bind (hs _ _ ?_)
 dsimp only
 have hI1:(s.heap.update I (Obj.mapFields (·.setIfInBounds 0 (rawInt nx)))).get? I=some (A6 (rawInt nx) i a n ep):=Heap.get?_update_self _ hI rfl
 have hI2:((s.heap.update I (Obj.mapFields (·.setIfInBounds 0 (rawInt nx)))).update I (Obj.mapFields (·.setIfInBounds 1 (rawInt ((i:Int)+1))))).get? I=some (A6 (rawInt nx) (i+1) a n ep):=Heap.get?_update_self _ hI1 rfl
 refine wpAny_bind (wpAny_setField hI rfl (by simp [A6]) ?_)
 refine wpAny_bind (wpAny_setField hI1 rfl (by simp) ?_)
 exact wpAny_pure ⟨x,rfl,wpAny_pure (hQ _ hI2 ((Heap.SameBut.update ..).trans (Heap.SameBut.update ..)))⟩
theorem LI {I:Addr} {o:Obj} {vs:Array Value} {Q:Option Value→Shared→Prop} {s₀:Shared} (hh:A.handled=none) (hI:s.heap.get? I=some o) (hd:o.data=.fields vs) (hz:2<vs.size) (hx:Heap.SameBut I s₀.heap s.heap)
  (hQ:∀ h',Heap.ExtBut I s₀.heap h'→Q none { s with heap:=h' }) :
  wpAny (model prog w) A.in1 (do setField (.ref I) 2 .none;raiseNew (← newExc (.type "StopIteration") [])) (fun (_:PySem.Fin) _=>False)
   (fun e s'=>wpAny (model prog w) A (do if ← isInstance e (.type "StopIteration") then pure none else throw e) Q E s') s:=by
 refine wpAny_bind (wpAny_setField hI hd hz ?_)
 show wpAny _ _ (newExc (.type "StopIteration") [] >>= _) _ _ _
 refine wpAny_bind ?_
 simp only [newExc,newTuple]
 refine wpAny_bind (wpAny_newObj_type ?_ (by size_fits))
 refine wpAny_bind (m:=firstArgMember _ _) (wpAny_of_eq (a:=Value.none) (by first | rfl | (simp only [firstArgMember];rfl)) ?_)
 refine wpAny_newObj_type ?_ (by size_fits)
 simp only [raiseNew]
 refine wpAny_bind (wpAny_handled ?_)
 rw [show A.in1.handled=none from hh]
 refine wpAny_bind (wpAny_pure (wpAny_throw ?_))
 refine wpAny_bind (wpAny_isInstance (T:="StopIteration") (b:=true) ⟨_,Heap.get?_push_size _ rfl,rfl⟩ isSubtype_stop ?_)
 exact wpAny_pure (hQ _ ((((hx.trans (Heap.SameBut.update ..)).extBut).push _).push _))
theorem Ma {slot i n ep:Nat} {Q:Option Value→Shared→Prop} (hh:A.handled=none) (hI:s.heap.get? I=some (A6 (rawInt slot) i a n ep)) (ho:s.heap.get? a=some o) (hd:o.data=.set es ep t) (hf:t.fits es.size=true) (hn:es.size=n)
  (hs:∀ (E':Value→Shared→Prop) (Q':Option (Value × Nat)→Shared→Prop),Q' none s→wpAny (model prog w) A.in1 (setNext a slot i ep) Q' E' s)
  (hQ:∀ h',Heap.ExtBut I s.heap h'→Q none { s with heap:=h' }):wpAny (model prog w) A (pyNext (.ref I)) Q E s:=by
 have hT:s.TypeIs (.ref I) "set_iterator":=⟨_,hI,rfl⟩
 unfold pyNext
 refine wpAny_bind (wpAny_attempt (wpAny_callSpecial?_slot (name:=Str.ofString "__next__") hT AX
  (wpAny_call_entry AX hT BC (DL hI ho hd hf hn ?_) (BJ _))))
 show wpAny _ _ (setNext a slot i ep >>= _) _ _ s
 refine wpAny_bind (hs _ _ ?_)
 dsimp only
 exact wpAny_mono (LI hh hI rfl (by simp) (Heap.SameBut.refl _ _) hQ) (fun _ _ f=>f.elim) fun _ _ e=>e
theorem FV {α:Type} {M:Model} {c:Prop} [Decidable c] {x y:Sem α} {Q:α→Shared→Prop} (h:¬ c) (q:wpAny M A y Q E s):wpAny M A (if c then x else y) Q E s:=by rw [if_neg h];exact q
theorem GB {α:Type} {M:Model} {c:Prop} [Decidable c] {x y:Sem α} {Q:α→Shared→Prop} (h:c) (q:wpAny M A x Q E s):wpAny M A (if c then x else y) Q E s:=by rw [if_pos h];exact q
theorem D8 (q:Q (w.params.followText "set-order") s):wpAny (model prog w) A setsByText Q E s:=by
 unfold setsByText
 exact wpAny_bind (wpAny_askSetting (wpAny_pure q))
noncomputable def Qe (pl:Array Nat):Nat→Nat
 | 0=>0
 | i+1=>pl.getD i 0+1
theorem P4 (R:Ris pl):∀ {i:Nat},i≤pl.size→SetTable.below pl (Qe pl i)=i
 | 0,_=>K4 R
 | i+1,h=>Ks R (by exact an2 .lt .v0 .v1 (.l (.a .v0 .n1) .v1 .e) rfl h)
theorem JZ (ho:s.heap.get? a=some o) (hd:o.data=.set es ep t) (hf:t.fits es.size=true) (R:Ris t.place) (hw:w.params.followText "set-order"=false) (hl:t.led=true) (hp:¬ (t.plain=false∧1<es.size)) (hi:i≤es.size) :
  ∀ (E':Value→Shared→Prop) (Q':Option (Value × Nat)→Shared→Prop),Q' (es[i]?.map fun e=>(e.2,Qe t.place (i+1))) s→wpAny (model prog w) A (setNext a (Qe t.place i) i ep) Q' E' s:=by
 intro E' Q' q
 have hsz:t.place.size=es.size:=by simp only [SetTable.fits,Bool.and_eq_true,beq_iff_eq] at hf;exact hf.1
 unfold setNext
 refine wpAny_bind (wpAny_setState_of ho hd hf ?_)
 dsimp only
 refine wpAny_bind (D8 ?_)
 rw [hw]
 refine FV (by decide) ?_
 refine FV (show ¬ ((!t.plain&&decide (es.size > 1))=true) by
  intro h
  simp only [Bool.and_eq_true,Bool.not_eq_true',decide_eq_true_eq] at h
  exact hp h) ?_
 refine wpAny_bind (show wpAny (model prog w) A (if (!t.led&&!es.isEmpty)=true then unsupported _ else pure ()) _ _ _ from FV (by simp [hl]) (wpAny_pure ?_))
 rw [P4 R (by exact an3 .le .v0 .v1 (.l .v0 .v2 (.p .v1 .v2 .e)) rfl hi hsz)]
 refine wpAny_pure ?_
 by_cases h:i<es.size
 ·have e1:es[i]?=some es[i]:=Array.getElem?_eq_getElem h
  have e2:t.place[i]?=some (t.place.getD i 0):=by rw [Nt,Array.getElem?_eq_getElem (by exact an3 .lt .v0 .v1 (.t .v0 .v2 (.p .v1 .v2 .e)) rfl h hsz)];rfl
  rw [e1] at q ⊢
  rw [e2]
  exact q
 ·have e1:es[i]?=none:=Array.getElem?_eq_none (by exact an2 .le .v0 .v1 (.o .v1 .v0 .e) rfl h)
  rw [e1] at q ⊢
  exact q
theorem Ge {α:Type} (l:List α):∀ (i:Nat) (h:i<l.length),(l[i]::l.eraseIdx i).Perm l:=by
 induction l with
 | nil=>exact fun i h=>absurd h (Nat.not_lt_zero i)
 | cons x l ih=>
  intro i h
  cases i with
  | zero=>exact .refl _
  | succ i=>exact (List.Perm.swap _ _ _).trans (List.Perm.cons _ (ih i (Nat.lt_of_succ_lt_succ h)))
theorem Hi {α:Type} {l:List α} {i n:Nat} (h:i<l.length) (e:n+1=l.length):n=(l.eraseIdx i).length:=by
 rw [List.length_eraseIdx_of_lt h,← e];rfl
theorem RS {α:Type} (nx:Nat→Nat) (f:Nat):∀ (k:Nat) (left:List α) (out:Array α),f=left.length→(pickOrder.go nx f k left out).toList.Perm (out.toList++left):=by
 induction f with
 | zero=>exact fun k left out h=>by rw [List.length_eq_zero_iff.mp h.symm,List.append_nil];exact .refl _
 | succ f ih=>
  intro k left out h
  have hlt:nx k % left.length<left.length:=Nat.mod_lt _ (h▸Nat.zero_lt_succ f)
  rw [show pickOrder.go nx (f+1) k left out=pickOrder.go nx f (k+1) (left.eraseIdx (nx k % left.length)) (out.push left[nx k % left.length]) from congrArg (fun o:Option α=>match o with
   | some x=>pickOrder.go nx f (k+1) (left.eraseIdx (nx k % left.length)) (out.push x)
   | none=>out) (List.getElem?_eq_getElem hlt)]
  refine (ih (k+1) _ _ (Hi hlt h)).trans ?_
  rw [Array.toList_push,List.append_assoc]
  exact List.Perm.append_left _ (Ge _ _ hlt)
theorem HQ {α:Type} (nx:Nat→Nat) (xs:Array α):(pickOrder nx xs).toList.Perm xs.toList:=by
 have:=RS nx xs.size 0 xs.toList #[] (by simp)
 simpa [pickOrder] using this
theorem IS (ho:s.heap.get? a=some o) (hd:o.data=.set es ep t) (hf:t.fits es.size=true) (hw:w.params.followText "set-order"=true) :
  ∀ (E':Value→Shared→Prop) (Q':Option (Value × Nat)→Shared→Prop),Q' ((pickOrder (w.params.setOrder a ep) es)[i]?.map fun e=>(e.2,slot)) s→wpAny (model prog w) A (setNext a slot i ep) Q' E' s:=by
 intro E' Q' q
 unfold setNext
 refine wpAny_bind (wpAny_setState_of ho hd hf ?_)
 dsimp only
 refine wpAny_bind (D8 ?_)
 rw [hw]
 refine GB rfl ?_
 refine FV (by simp) ?_
 refine wpAny_bind ?_
 unfold setWalk
 refine wpAny_bind (wpAny_setState_of ho hd hf ?_)
 dsimp only
 refine wpAny_bind (D8 ?_)
 rw [hw]
 refine GB rfl ?_
 refine wpAny_bind (wpAny_askSetting (wpAny_pure (wpAny_pure ?_)))
 exact q
theorem RJ {α:Type} (n:Nat):∀ (xs:List α) (s:Shared) {Q:List α→Shared→Prop},n=xs.length→(∀ ys dr,ys.Perm xs→Q ys { s with drawn:=dr })→wpAny (model prog w) A (drawOrder n xs) Q E s:=by
 induction n with
 | zero=>
  intro xs s Q h q
  have:xs=[]:=List.length_eq_zero_iff.mp h.symm
  subst this
  exact wpAny_pure (q [] s.drawn (List.Perm.refl _))
 | succ n ih=>
  intro xs s Q h q
  cases xs with
  | nil=>cases h
  | cons x xs=>
  have hlt:w.draws .order (s.drawn.get .order) % (x::xs).length<(x::xs).length:=Nat.mod_lt _ (Nat.zero_lt_succ _)
  show wpAny (model prog w) A (do let i ← choose .order (x::xs).length;match (x::xs)[i]? with
   | some x'=>return x'::(← drawOrder n ((x::xs).eraseIdx i))
   | none=>unsupported "internal:drawOrder") Q E s
  refine wpAny_bind ?_
  refine fun Γ p hΓ=>⟨by simp,?_⟩
  show wpAny (model prog w) A (match (x::xs)[w.draws .order (s.drawn.get .order) % (x::xs).length]? with
   | some y=>do return y::(← drawOrder n ((x::xs).eraseIdx (w.draws .order (s.drawn.get .order) % (x::xs).length)))
   | none=>unsupported "internal:drawOrder") Q E { s with drawn:=s.drawn.bump .order }
  generalize w.draws .order (s.drawn.get .order) % (x::xs).length=j at hlt ⊢
  rw [List.getElem?_eq_getElem hlt]
  exact wpAny_bind (ih _ _ (Hi hlt h) fun ys dr hp=>wpAny_pure (q _ dr ((List.Perm.cons _ hp).trans (Ge _ _ hlt))))
end
end Mine.Internal
namespace Mine.Internal
open PySem PySem.Spec PyProof.Rows
set_option maxRecDepth 100000
theorem Cx:Slot "set_iterator" "__iter__" "set_iterator.__iter__":=
 .of (owner:="set_iterator") (n:="__iter__") (by rw [typeLookup_type,builtinLookup_eq_fast];kernel_rfl) (by decide +kernel) (by decide +kernel) (by decide +kernel)
  (by first | exact .inl (by decide +kernel) | exact .inr (by decide +kernel)) (by rw [isSubtype_type];kernel_rfl)
theorem EK:entryFor table "set_iterator.__iter__"=some Builtin.«dict_keyiterator.__iter__»:=
 entryFor_alias (id':="dict_keyiterator.__iter__") (by kernel_rfl) rfl (by decide +kernel) (by kernel_rfl)
theorem E8 (a:Value):argsOk "set_iterator.__iter__" ⟨[a],[]⟩:=by unfold argsOk;kernel_rfl
noncomputable def Py:Array GenState→Array GenState→Prop:=fun a b=>b=a
noncomputable def O5 (out:Array (Int × Value)) (i:Nat) (v:Value):Prop:=∃ e,out[i]?=some e∧v=e.2
section
variable {prog:Program} {w:World} {A:Around} {E:Value→Shared→Prop} {s:Shared}
theorem HR (hI:s.heap.get? I=some (A6 first i a n ep)) (q:Q (.ref I) s):wpAny (model prog w) A (pyIter (.ref I)) Q E s:=by
 have hT:s.TypeIs (.ref I) "set_iterator":=⟨_,hI,rfl⟩
 refine wpAny_pyIter_slot hT Cx (wpAny_call_entry Cx hT EK ?_ (E8 _))
 show wpAny _ _ (ret (.ref I)) _ _ s
 exact wpAny_pure ⟨_,rfl,"set_iterator", _,hT,AX.lookup,q⟩
theorem Hr (hh:A.handled=none) (hIa:a≠I) (hd:o.data=.set es ep t) (hf:t.fits es.size=true) (hn:es.size=n) (ho:out.size=n) (sl:Nat→Nat)
  (hs:∀ (s:Shared) (i:Nat),i≤n→s.heap.get? a=some o→∀ (E':Value→Shared→Prop) (Q':Option (Value × Nat)→Shared→Prop),Q' (out[i]?.map fun e=>(e.2,sl (i+1))) s→wpAny (model prog w) A.in1 (setNext a (sl i) i ep) Q' E' s) :
  WalksS prog w A I [I,a] [I] Py n (O5 out) (fun i s=>i≤n∧s.heap.get? I=some (A6 (rawInt (sl i)) i a n ep)∧s.heap.get? a=some o) where
 sub:=fun b hb=>by simp at hb;subst hb;simp
 grefl:=fun _=>rfl
 gtrans:=fun _ _ _ h1 h2=>h2.trans h1
 frame:=fun i s h' tk st _ k=>⟨st.1,k I (by simp) _ st.2.1,k a (by simp) _ st.2.2⟩
 item:=fun i s Q E hi st hQ=>by
  have hio:i<out.size:=ho▸hi
  have e:out[i]?=some out[i]:=Array.getElem?_eq_getElem hio
  refine Ml (x:=out[i].2) (nx:=sl (i+1)) st.2.1 st.2.2 hd hf hn (fun E' Q' q=>hs s i (by exact an2 .le .v0 .v1 (.l .v0 .v1 .e) rfl st.1) st.2.2 E' Q' (by rw [e];exact q)) fun h' h1 h2=>?_
  refine hQ _ _ ⟨out[i],e,rfl⟩ ⟨hi,h1,(h2.2 a hIa).trans st.2.2⟩ ⟨fun b ob hb eb=>(h2.2 b (by simpa using hb)).trans eb,rfl,rfl,rfl,Nat.le_refl _⟩
 done:=fun s Q E st hQ=>by
  have e:out[n]?=none:=Array.getElem?_eq_none (by exact an2 .le .v0 .v1 (.q .v0 .v1 .e) rfl ho)
  refine Ma hh st.2.1 st.2.2 hd hf hn (fun E' Q' q=>hs s n (Nat.le_refl _) st.2.2 E' Q' (by rw [e];exact q)) fun h' h1=>hQ _ ⟨fun b ob hb eb=>h1 b ob (by simpa using hb) eb,rfl,rfl,rfl,Nat.le_refl _⟩
 self:=fun i s Q E st q=>HR st.2.1 q
noncomputable def Ds (es:Array (Int × Value)) (π:List Nat):Array (Int × Value):=(π.map fun j=>es[j]?.getD (0,.none)).toArray
theorem G7 (h:π.Perm (List.range es.size)):(Ds es π).toList.Perm es.toList:=by
 have e:(List.range es.size).map (fun j=>es[j]?.getD (0,.none))=es.toList:=by
  apply List.ext_getElem?
  intro i
  rw [List.getElem?_map]
  by_cases hi:i<es.size
  ·simp [hi]
  ·simp [hi]
 have:=h.map fun j=>es[j]?.getD (0,.none)
 rw [e] at this
 simpa [Ds] using this
theorem Kb {i n ep j:Nat} {c:Nat} {Q:Option Value→Shared→Prop} (hI:s.heap.get? I=some (A6 (.ref T) i a n ep)) (ho:s.heap.get? a=some o) (hd:o.data=.set es ep t) (hf:t.fits es.size=true) (hn:es.size=n)
  (hT:s.heap.get? T=some oT) (hdT:oT.data=.seq pl c) (hpl:pl[i]?=some (rawInt j)) {x:Int × Value} (hx:es[j]?=some x)
  (hQ:∀ h',h'.get? I=some (A6 (.ref T) (i+1) a n ep)→Heap.SameBut I s.heap h'→Q (some x.2) { s with heap:=h' }):wpAny (model prog w) A (pyNext (.ref I)) Q E s:=by
 have hTy:s.TypeIs (.ref I) "set_iterator":=⟨_,hI,rfl⟩
 unfold pyNext
 refine wpAny_bind (wpAny_attempt (wpAny_callSpecial?_slot (name:=Str.ofString "__next__") hTy AX
  (wpAny_call_entry AX hTy BC (DL hI ho hd hf hn ?_) (BJ _))))
 dsimp only
 refine wpAny_bind (wpAny_seqItems hT hdT ?_)
 dsimp only
 rw [hpl]
 dsimp only [rawInt]
 refine wpAny_bind ?_
 unfold setNextDrawn
 refine wpAny_bind (wpAny_setState_of ho hd hf ?_)
 dsimp only
 refine FV (by simp) ?_
 rw [Int.toNat_natCast,hx]
 refine wpAny_pure ?_
 have hI1:(s.heap.update I (Obj.mapFields (·.setIfInBounds 1 (rawInt ((i:Int)+1))))).get? I=some (A6 (.ref T) (i+1) a n ep):=Heap.get?_update_self _ hI rfl
 refine wpAny_bind (wpAny_setField hI rfl (by simp) ?_)
 exact wpAny_pure ⟨x.2,rfl,wpAny_pure (hQ _ hI1 (Heap.SameBut.update ..))⟩
theorem Ms (hh:A.handled=none) (hI:s.heap.get? I=some (A6 (.ref T) i a n ep)) (ho:s.heap.get? a=some o) (hd:o.data=.set es ep t) (hf:t.fits es.size=true) (hn:es.size=n)
  (hT:s.heap.get? T=some oT) (hdT:oT.data=.seq pl c) (hpl:pl[i]?=none)
  (hQ:∀ h',Heap.ExtBut I s.heap h'→Q none { s with heap:=h' }):wpAny (model prog w) A (pyNext (.ref I)) Q E s:=by
 have hTy:s.TypeIs (.ref I) "set_iterator":=⟨_,hI,rfl⟩
 unfold pyNext
 refine wpAny_bind (wpAny_attempt (wpAny_callSpecial?_slot (name:=Str.ofString "__next__") hTy AX
  (wpAny_call_entry AX hTy BC (DL hI ho hd hf hn ?_) (BJ _))))
 dsimp only
 refine wpAny_bind (wpAny_seqItems hT hdT ?_)
 dsimp only
 rw [hpl]
 dsimp only
 have hI1:(s.heap.update I (Obj.mapFields (·.setIfInBounds 0 (rawInt 0)))).get? I=some (A6 (rawInt 0) i a n ep):=Heap.get?_update_self _ hI rfl
 refine wpAny_bind (wpAny_setField hI rfl (by simp) ?_)
 exact wpAny_mono (LI (s₀:=s) (s:={ s with heap:=s.heap.update I (Obj.mapFields (·.setIfInBounds 0 (rawInt 0))) }) hh hI1 rfl (by simp) (Heap.SameBut.update ..) hQ) (fun _ _ f=>f.elim) fun _ _ e=>e
theorem Ky {n ep:Nat} {c:Nat} (hh:A.handled=none) (hIa:a≠I) (hIT:T≠I) (hd:o.data=.set es ep t) (hf:t.fits es.size=true) (hn:es.size=n) (hπ:π.Perm (List.range es.size)) (hdT:oT.data=.seq (π.map fun (j:Nat)=>rawInt j).toArray c) :
  WalksS prog w A I [I,a,T] [I] Py n (O5 (Ds es π)) (fun i s=>i≤n∧s.heap.get? I=some (A6 (.ref T) i a n ep)∧s.heap.get? a=some o∧s.heap.get? T=some oT) where
 sub:=fun b hb=>by simp at hb;subst hb;simp
 grefl:=fun _=>rfl
 gtrans:=fun _ _ _ h1 h2=>h2.trans h1
 frame:=fun i s h' tk st _ k=>⟨st.1,k I (by simp) _ st.2.1,k a (by simp) _ st.2.2.1,k T (by simp) _ st.2.2.2⟩
 item:=fun i s Q E hi st hQ=>by
  have hlen:π.length=es.size:=by rw [hπ.length_eq,List.length_range]
  have hi':i<π.length:=by exact an4 .lt .v0 .v1 (.t .v0 .v2 (.p .v3 .v2 (.p .v1 .v3 .e))) rfl hi hn hlen
  have hj:π[i]<es.size:=by simpa using hπ.mem_iff.mp (List.getElem_mem hi')
  have hx:es[π[i]]?=some es[π[i]]:=Array.getElem?_eq_getElem hj
  refine Kb st.2.1 st.2.2.1 hd hf hn st.2.2.2 hdT (j:=π[i]) (by simp [hi']) hx fun h' h1 h2=>?_
  refine hQ _ _ ⟨es[π[i]],by simp [Ds,hi',hj],rfl⟩ ⟨hi,h1,(h2.2 a hIa).trans st.2.2.1,(h2.2 T hIT).trans st.2.2.2⟩ ⟨fun b ob hb eb=>(h2.2 b (by simpa using hb)).trans eb,rfl,rfl,rfl,Nat.le_refl _⟩
 done:=fun s Q E st hQ=>by
  have hlen:π.length=es.size:=by rw [hπ.length_eq,List.length_range]
  refine Ms hh st.2.1 st.2.2.1 hd hf hn st.2.2.2 hdT (by simp;exact an3 .le .v0 .v1 (.q .v0 .v2 (.q .v2 .v1 .e)) rfl hlen hn) fun h' h1=>hQ _ ⟨fun b ob hb eb=>h1 b ob (by simpa using hb) eb,rfl,rfl,rfl,Nat.le_refl _⟩
 self:=fun i s Q E st q=>HR st.2.1 q
structure SetWalk (prog:Program) (w:World) (A:Around) (es:Array (Int × Value)) (a:Addr) (s₀ s:Shared) (I:Addr):Prop where
 walk:∃ fp out St,out.toList.Perm es.toList∧WalksS prog w A I fp [I] Py es.size (O5 out) St∧St 0 s∧∀ b∈fp,b=a∨s₀.heap.objs.size≤b
 old:s₀.heap.objs.size≤I
 keep:∀ b o,s₀.heap.get? b=some o→s.heap.get? b=some o
 size:s₀.heap.objs.size≤s.heap.objs.size
 os:s.os=s₀.os
 gens:s.gens=s₀.gens
theorem Oc (hh:A'.handled=none) (ho:s.heap.get? a=some o) (hex:o.ExactSet) (hd:o.data=.set es ep t) (hf:t.fits es.size=true) (R:Ris t.place) (hl:t.led=B1 w)
  (hz:es.size<scanBound) (q:∀ I s₁,SetWalk prog w A' es a s s₁ I→Q (.ref I) s₁):wpAny (model prog w) A (pyIter (.ref a)) Q E s:=by
 have hT:s.TypeIs (.ref a) "set":=⟨o,ho,hex.1⟩
 have ha:a<s.heap.objs.size:=Heap.lt_size ho
 refine wpAny_pyIter_slot hT PySem.F.slot_set_iter (wpAny_call_entry PySem.F.slot_set_iter hT GJ ?_ (PySem.F.args_set_iter_1 _))
 unfold Builtin.«frozenset.__iter__»
 refine wpAny_bind (m:=Builtin.Frozenset.slot0 "__iter__" _) (wpAny_pure ?_)
 refine wpAny_bind ?_
 unfold Builtin.Frozenset.sizeOf
 refine wpAny_bind (wpAny_setEntries_of ho hd hf (wpAny_pure ?_))
 refine wpAny_bind ?_
 unfold setDrawn
 refine wpAny_bind (wpAny_setState_of ho hd hf ?_)
 dsimp only
 refine wpAny_bind (D8 (wpAny_pure ?_))
 have make:∀ (s₁:Shared) (first:Value),s₁.heap.get? a=some o→(Q (.ref s₁.heap.objs.size) { s₁ with heap:=s₁.heap.push (A6 first 0 a es.size ep) }) →
   wpAny (model prog w) A.in1 (do ret (← newFields "set_iterator" [first,rawInt 0,.ref a,rawInt es.size,rawInt (← setEpoch a)])) (fun fin s'=>∃ v,fin=.done (.ret v)∧(∃ T' r,s'.TypeIs v T'∧typeLookup (.type T') "__next__"=pure (some r)∧Q v s')) E s₁:=fun s₁ first ho₁ hq=>by
  refine wpAny_bind (wpAny_setEpoch_of ho₁ hd hf ?_)
  refine wpAny_bind (wpAny_newObj_type ?_ (by size_fits))
  exact wpAny_pure ⟨_,rfl,"set_iterator", _,⟨_,Heap.get?_push_size _ rfl,rfl⟩,AX.lookup,hq⟩
 by_cases hdr:(!w.params.followText "set-order"&&(!t.plain&&decide (es.size > 1)))=true
 ·refine GB (show (!w.params.followText "set-order"&&(!t.plain&&decide (es.size > 1)))=true from hdr) ?_
  refine wpAny_bind (RJ es.size (List.range es.size) s (by simp) fun π dr hp=>?_)
  have hlen:π.length=es.size:=by rw [hp.length_eq,List.length_range]
  refine wpAny_bind (wpAny_newTuple ?_ (by rw [List.length_map,hlen];exact fits_of_scanBound hz))
  have hT1:(s.heap.push { cls:=.type "tuple", data:=.seq (π.map fun (j:Nat)=>rawInt j).toArray }).get? s.heap.objs.size=some { cls:=.type "tuple", data:=.seq (π.map fun (j:Nat)=>rawInt j).toArray }:=Heap.get?_push_size _ rfl
  refine make _ _ (Heap.get?_push_of_some _ ho) (q _ _ ⟨⟨[(s.heap.push { cls:=.type "tuple", data:=.seq (π.map fun (j:Nat)=>rawInt j).toArray }).objs.size,a,s.heap.objs.size],Ds es π,_,G7 hp,
   Ky (T:=s.heap.objs.size) (o:=o) (ep:=ep) (c:=0) hh ?_ ?_ hd hf rfl hp rfl,⟨Nat.zero_le _,Heap.get?_push_size _ rfl,Heap.get?_push_of_some _ (Heap.get?_push_of_some _ ho),Heap.get?_push_of_some _ hT1⟩,?_⟩,?_,fun b o e=>Heap.get?_push_of_some _ (Heap.get?_push_of_some _ e),?_,rfl,rfl⟩)
  ·rw [Heap.size_push];exact Nat.ne_of_lt (Nat.lt_succ_of_lt ha)
  ·rw [Heap.size_push];exact Nat.ne_of_lt (Nat.lt_succ_self _)
  ·intro b hb
   simp only [List.mem_cons,List.not_mem_nil,or_false] at hb
   simp only [Heap.size_push] at hb
   rcases hb with rfl | rfl | rfl
   ·exact .inr (Nat.le_succ _)
   ·exact .inl rfl
   ·exact .inr (Nat.le_refl _)
  ·simp only [Heap.size_push];exact Nat.le_succ _
  ·simp only [Heap.size_push];exact Nat.le_succ_of_le (Nat.le_succ _)
 ·refine FV (show ¬ ((!w.params.followText "set-order"&&(!t.plain&&decide (es.size > 1)))=true) from hdr) (wpAny_bind (wpAny_pure ?_))
  have hne:a≠s.heap.objs.size:=Nat.ne_of_lt ha
  cases hw:w.params.followText "set-order" with
  | true=>
   refine make s (rawInt 0) ho (q _ _ ⟨⟨[s.heap.objs.size,a],pickOrder (w.params.setOrder a ep) es,_,HQ _ _,Hr (o:=o) (ep:=ep) (t:=t) hh hne hd hf rfl ?_ (fun _=>0) (fun s' i _ h'=>IS h' hd hf hw),⟨Nat.zero_le _,Heap.get?_push_size _ rfl,Heap.get?_push_of_some _ ho⟩,?_⟩,Nat.le_refl _,fun b o e=>Heap.get?_push_of_some _ e,?_,rfl,rfl⟩)
   ·have:=(HQ (w.params.setOrder a ep) es).length_eq;simpa using this
   ·intro b hb
    simp only [List.mem_cons,List.not_mem_nil,or_false] at hb
    rcases hb with rfl | rfl
    ·exact .inr (Nat.le_refl _)
    ·exact .inl rfl
   ·simp only [Heap.size_push];exact Nat.le_succ _
  | false=>
   rw [hw] at hdr
   have hp:¬ (t.plain=false∧1<es.size):=fun h=>hdr (by simp [h.1,h.2])
   have hled:t.led=true:=by rw [hl];simp [B1,hw]
   refine make s (rawInt 0) ho (q _ _ ⟨⟨[s.heap.objs.size,a],es,_,List.Perm.refl _,Hr (o:=o) (ep:=ep) (t:=t) hh hne hd hf rfl rfl (Qe t.place) (fun s' i hi h'=>JZ h' hd hf R hw hled hp hi),⟨Nat.zero_le _,Heap.get?_push_size _ rfl,Heap.get?_push_of_some _ ho⟩,?_⟩,Nat.le_refl _,fun b o e=>Heap.get?_push_of_some _ e,?_,rfl,rfl⟩)
   ·intro b hb
    simp only [List.mem_cons,List.not_mem_nil,or_false] at hb
    rcases hb with rfl | rfl
    ·exact .inr (Nat.le_refl _)
    ·exact .inl rfl
   ·simp only [Heap.size_push];exact Nat.le_succ _
end
end Mine.Internal
namespace Mine.Internal
open PySem PySem.Spec PyProof.Rows
set_option maxRecDepth 100000
theorem Ro:typeLookup (.type "set") "__len__"=pure (some (.builtin "set.__len__")):=by rw [typeLookup_type,builtinLookup_eq_fast];kernel_rfl
section
variable {prog:Program} {w:World} {A:Around} {E:Value→Shared→Prop} {s:Shared}
theorem Ja (hh:A.handled=none) (S:SetR prog w s.heap a (B1 w) ks)
  (q:∀ acc ns s',IntsAre acc ns→ns.Perm ks→(∀ b o,s.heap.get? b=some o→s'.heap.get? b=some o)→s.heap.objs.size≤s'.heap.objs.size→s'.os=s.os→s'.gens=s.gens→Q acc s'):wpAny (model prog w) A (collect (.ref a)) Q E s:=by
 refine DE (id S) fun o es ep t ho hex hd hel hks hnd hb hf hr hled=>?_
 have ha:a<s.heap.objs.size:=Heap.lt_size ho
 have hT:s.TypeIs (.ref a) "set":=⟨o,ho,hex.1⟩
 unfold collect
 refine wpAny_bind (wpAny_runValue (codeAny_builtin PySem.F.entry_proto_collect ?_))
 rw [Around.under_plainId PySem.F.plain_proto_collect _]
 show wpAny _ A.in1 (newList [] >>= fun l=>again (.builtin "list.__iadd__" ⟨[l,.ref a],[]⟩)) _ _ s
 refine wpAny_bind (wpAny_newObj_type ?_)
 refine wpAny_pure ⟨plainId_quiet PySem.F.plain_list_iadd _,codeAny_builtin PySem.F.entry_list_iadd ?_⟩
 rw [Around.under_plainId PySem.F.plain_list_iadd _]
 have hS₁:(s.heap.push { cls:=.type "list", data:=.seq ([]:List Value).toArray }).get? s.heap.objs.size=some { cls:=.type "list", data:=.seq ([]:List Value).toArray }:=Heap.get?_push_size _ rfl
 have ho₁:(s.heap.push { cls:=.type "list", data:=.seq ([]:List Value).toArray }).get? a=some o:=Heap.get?_push_of_some _ ho
 show wpAny _ A.in1 (Builtin.List.listExtendWith (.ref s.heap.objs.size) (.ref a) (.ref s.heap.objs.size)) _ _ _
 unfold Builtin.List.listExtendWith
 have hT₁:Shared.TypeIs { s with heap:=s.heap.push { cls:=.type "list", data:=.seq ([]:List Value).toArray } } (.ref a) "set":=⟨o,ho₁,hex.1⟩
 refine wpAny_bind (wpAny_typeOf hT₁ ?_)
 have h1:Builtin.List.listSameRef (.ref s.heap.objs.size) (.ref a)=false:=by
  simp only [Builtin.List.listSameRef,beq_eq_false_iff_ne,ne_eq];exact Nat.ne_of_gt ha
 have h2:(Value.type "set"==Value.type "list")=false:=by decide
 have h3:(Value.type "set"==Value.type "tuple")=false:=by decide
 simp only [h1,h2,h3,Bool.or_false,Bool.false_eq_true,if_false]
 refine wpAny_bind (Oc (A':=A.in1) (s:={ s with heap:=s.heap.push { cls:=.type "list", data:=.seq ([]:List Value).toArray } }) hh ho₁ hex hd hf hr hled hb fun I s₂ W=>?_)
 refine CC W.walk fun fp out St hout WS hst hfp=>?_
 have hT₂:s₂.TypeIs (.ref a) "set":=⟨o,W.keep a o ho₁,hex.1⟩
 refine wpAny_bind (wpAny_holding ?_)
 unfold Builtin.List.listLengthHint
 refine wpAny_bind (wpAny_specialOf hT₂ Ro ?_)
 (generalize hid:("set.__len__":String)=id0;wp_delta;rw [show splitId id0=some ("set", "__len__") from by subst hid;decide +kernel];subst hid)
 refine wpAny_bind (wpAny_isInstance (b:=true) hT₂ sub_set_self ?_)
 refine wpAny_bind (wpAny_typeOf hT₂ ?_)
 refine wpAny_pure ?_
 refine GB (by decide) ?_
 refine wpAny_bind (wpAny_rule ?_)
 have hS₂:=W.keep _ _ hS₁
 have hSf:s.heap.objs.size∉fp:=fun m=>by
  refine Or.elim (hfp _ m) (fun e=>?_) (fun e=>?_)
  ·exact Nat.ne_of_gt ha e
  ·rw [Heap.size_push] at e;exact Nat.not_succ_le_self _ e
 refine wpAny_bind ?_
 show wpAny _ A.in1 (updateSeq s.heap.objs.size (·.push .none) >>= fun _=>updateSeq s.heap.objs.size (·.pop)) _ _ _
 refine wpAny_bind (wpAny_updateSeq hS₂ rfl ?_)
 have hS₃:=Heap.get?_update_self (Obj.mapSeq (·.push Value.none)) hS₂ rfl
 refine wpAny_updateSeq hS₃ rfl ?_
 have hS₄:=Heap.get?_update_self (Obj.mapSeq (·.pop)) hS₃ rfl
 have oth:∀ b o,b≠s.heap.objs.size→s₂.heap.get? b=some o→((s₂.heap.update s.heap.objs.size (Obj.mapSeq (·.push Value.none))).update s.heap.objs.size (Obj.mapSeq (·.pop))).get? b=some o:=
  fun b o hb e=>(Heap.get?_update_other _ _ (Ne.symm hb)).trans ((Heap.get?_update_other _ _ (Ne.symm hb)).trans e)
 refine wpAny_pure ⟨plainId_quiet PySem.F.plain_extend_loop _,codeAny_extend_loopS WS (fits_of_scanBound hb) _ hSf _ es.size 0 _ _ _ rfl (Nat.zero_le _)
  (WS.frame 0 s₂ _ s₂.toks hst (Nat.le_refl _) fun b hb o e=>oth b o (fun h=>hSf (h▸hb)) e) hS₄ (ItemsOf.nil _) fun s' acc' c' hm hS' hacc=>?_⟩
 show wpAny _ A (load s.heap.objs.size >>= _) _ _ s'
 refine wpAny_bind (wpAny_load hS' ?_)
 have hsz:out.size=es.size:=by have:=hout.length_eq;simpa using this
 have hacc':acc'.toList=out.toList.map (·.2):=by
  apply List.ext_getElem?
  intro j
  rw [Array.getElem?_toList,List.getElem?_map,Array.getElem?_toList]
  by_cases hj:j<es.size
  ·have hj':j<acc'.size:=by rw [hacc.1];exact hj
   have e1:acc'[j]?=some acc'[j]:=Array.getElem?_eq_getElem hj'
   refine AC (hacc.2 j _ e1) fun e h1 h2=>?_
   rw [e1,h1,h2];rfl
  ·rw [Array.getElem?_eq_none (by rw [hacc.1];exact an2 .le .v0 .v1 (.o .v1 .v0 .e) rfl hj),Array.getElem?_eq_none (by exact an3 .le .v0 .v1 (.q .v0 .v2 (.o .v1 .v2 .e)) rfl hsz hj)];rfl
 have hint:∀ v∈acc'.toList,∃ n t,v=Value.int n t:=fun v hv=>by
  rw [hacc'] at hv
  refine AC (List.mem_map.mp hv) fun e he ze1=>?_;subst ze1
  refine AQ (KB hel (hout.mem_iff.mp he)) fun t ht=>?_
  exact ⟨_,t,ht⟩
 refine wpAny_pure (q acc'.toList _ s' (intsAre_map _ hint) ?_ (fun b o e=>?_) ?_ ?_ ?_)
 ·rw [hacc',List.map_map,hks]
  exact hout.map _
 ·have hb:b<s.heap.objs.size:=Heap.lt_size e
  have hbI:b≠I:=fun h=>by
   have:=W.old
   rw [Heap.size_push] at this
   rw [h] at hb
   exact Nat.lt_irrefl _ (Nat.lt_trans hb (Nat.lt_of_succ_le this))
  refine hm.heap b o ?_ (oth b o (Nat.ne_of_lt hb) (W.keep b o (Heap.get?_push_of_some _ e)))
  simp only [List.mem_cons,List.not_mem_nil,or_false,not_or]
  exact ⟨Nat.ne_of_lt hb,hbI⟩
 ·exact Nat.le_of_lt (Heap.lt_size hS')
 ·exact hm.os.trans W.os
 ·exact hm.gens.trans W.gens
theorem Kr (hh:A.handled=none) (S:SetR prog w s.heap a (B1 w) ks) (h64:ks.length<64)
  (q:∀ D (out:Array Value) (ns:List Int) (h':Heap) (s':Shared) (c:Nat),IntsAre out.toList ns→ns.Perm ks→ns.Pairwise (·≤·)→s.heap.get? D=none→h'.get? D=some { cls:=.type "list", data:=.seq out c }→(∀ b o,s.heap.get? b=some o→h'.get? b=some o)→s'.os=s.os→s'.gens=s.gens→Q (.ref D) { s' with heap:=h' }) :
  wpAny (model prog w) A (call (.builtin "sorted") [.ref a]) Q E s:=by
 refine Calls.call_function_entry kind_sorted plain_sorted entry_sorted (args_sorted1 _) ?_
 unfold Builtin.«sorted»
 refine wpAny_bind (m:=checkCount "sorted" 1 1 _) (wpAny_pure ?_)
 refine wpAny_bind (Ja hh S fun acc ns s₁ hI hp hk hz hos hg=>?_)
 have hlen:acc.length=ks.length:=(IntsAre.length hI).trans hp.length_eq
 refine wpAny_bind (wpAny_newList ?_ (by rw [hlen,sizeLine_eq];exact an1 .le .v0 (.n 16777216) (.t .v0 (.n 64) .e) rfl h64))
 have hoL:(s₁.heap.push (seqObj "list" acc.toArray 0)).get? s₁.heap.objs.size=some (seqObj "list" acc.toArray 0):=Heap.get?_push_size _ rfl
 have hlt:∀ b o,s₁.heap.get? b=some o→b≠s₁.heap.objs.size:=fun b o e=>Nat.ne_of_lt (Heap.lt_size e)
 refine wpAny_bind (wpAny_holding (wpAny_call_entry (s:={ s₁ with heap:=s₁.heap.push (seqObj "list" acc.toArray 0) }) slot_list_sort ⟨_,hoL,rfl⟩ entry_list_sort (list_sort_tree (s:={ s₁ with heap:=s₁.heap.push (seqObj "list" acc.toArray 0) }) hoL hI (by exact an2 .lt .v0 (.n 64) (.q .v0 .v1 (.t .v1 (.n 64) .e)) rfl hlen h64) fun out ns' a1 a2 a3=>⟨_,rfl,?_⟩) (args_list_sort _)))
 obtain ⟨c1,g1⟩:∃ c1,((s₁.heap.push (seqObj "list" acc.toArray 0)).update s₁.heap.objs.size (Obj.mapSeq fun _=>(#[]:Array Value))).get? s₁.heap.objs.size=some (seqObj "list" #[] c1):=⟨_,get?_update_seq hoL fun _=>#[]⟩
 have g2:((((s₁.heap.push (seqObj "list" acc.toArray 0)).update s₁.heap.objs.size (Obj.mapSeq fun _=>(#[]:Array Value))).push (seqObj "tuple" acc.toArray 0)).push (seqObj "list" #[] 0)).get? s₁.heap.objs.size=some (seqObj "list" #[] c1):=Heap.get?_push_of_some _ (Heap.get?_push_of_some _ g1)
 obtain ⟨c3,g3⟩:∃ c3,(sortedHeap (s₁.heap.push (seqObj "list" acc.toArray 0)) s₁.heap.objs.size acc out).get? s₁.heap.objs.size=some (seqObj "list" out c3):=⟨_,get?_update_seq g2 fun _=>out⟩
 refine wpAny_pure ⟨_,rfl,q s₁.heap.objs.size out ns' _ s₁ c3 a1 (a2.trans hp) a3 ?_ g3 (fun b o e=>?_) hos hg⟩
 ·exact Heap.get?_none_of_le hz
 ·have e1:=hk b o e
  have hb:=hlt b o e1
  unfold sortedHeap
  rw [Heap.get?_update_ne _ _ _ _ hb]
  refine Heap.get?_push_of_some _ (Heap.get?_push_of_some _ ?_)
  rw [Heap.get?_update_ne _ _ _ _ hb]
  exact Heap.get?_push_of_some _ e1
end
end Mine.Internal
namespace Mine.Internal
open PySem PySem.W PyProof.Rows
noncomputable def Tr (lt:Nat→Nat→Bool) (n:Nat) {α:Type}:KasT α→(α→Prop)→Prop
 | .ret a,Q=>Q a
 | .ask i j k,Q=>i<n∧j<n∧Tr lt n (k (lt i j)) Q
theorem Tr.bind {lt:Nat→Nat→Bool} {n:Nat} {α β:Type} {f:α→KasT β} {Q:β→Prop} {t:KasT α} (h:Tr lt n t (fun a=>Tr lt n (f a) Q)):Tr lt n (t.bind f) Q:=by
 induction t with
 | ret a=>exact h
 | ask i j k ih=>exact ⟨h.1,h.2.1,ih _ h.2.2⟩
structure Weak (lt:Nat→Nat→Bool):Prop where
 irr:∀ i,lt i i=false
 asy:∀ i j,lt i j=true→lt j i=false
 neg:∀ i j k,lt i k=true→lt i j=true∨lt j k=true
variable {lt:Nat→Nat→Bool}
theorem Im {b:Bool} {P:Prop} (h:b=true) (h':b=false):P:=nomatch h.symm.trans h'
theorem Weak.no (W:Weak lt) {i j k:Nat} (h1:lt i j=false) (h2:lt j k=false):lt i k=false:=Bool.eq_false_iff.mpr fun h=>(W.neg i j k h).elim (Im · h1) (Im · h2)
theorem Weak.tr (W:Weak lt) {i j k:Nat} (h1:lt i j=true) (h2:lt j k=true):lt i k=true:=(W.neg i k j h1).elim id fun h=>Im h (W.asy _ _ h2)
noncomputable def Bf (lt:Nat→Nat→Bool) (i j:Nat):Prop:=lt i j=true∨(lt j i=false∧i<j)
theorem Bf.no (W:Weak lt) (h:Bf lt i j):lt j i=false:=h.elim (fun h=>W.asy _ _ h) fun h=>h.1
theorem Bf.trans (W:Weak lt) {i j k:Nat} (h1:Bf lt i j) (h2:Bf lt j k):Bf lt i k:=
 h1.elim (fun a=>.inl ((W.neg i k j a).elim id fun h=>Im h (h2.no W))) fun a=>h2.elim (fun c=>.inl ((W.neg j i k c).elim (fun h=>Im h a.1) id)) fun c=>.inr ⟨W.no c.1 a.1,Nat.lt_trans a.2 c.2⟩
structure Fix (f:Nat) (p:Array Nat) (L:List Nat):Prop where
 eq:p.toList=L++List.range' L.length f
 perm:L.Perm (List.range L.length)
section
variable {f n:Nat} {p:Array Nat} {L K D A R X Y:List Nat} {x z:Nat}
theorem Ai (K:List Nat) (z:Nat):(K++[z]).length=K.length+1:=List.length_append
theorem Fix.low (F:Fix f p L) (h:x∈L):x<L.length:=List.mem_range.mp (F.perm.mem_iff.mp h)
theorem Fix.grow (F:Fix (f+1) p L):Fix f p (L++[L.length]) where
 eq:=by rw [F.eq,List.range'_succ,Ai,List.append_cons]
 perm:=by rw [Ai,List.range_succ];exact F.perm.append_right _
theorem IX (h:p.toList=X++x::Y):p.getD X.length 0=x:=by
 rw [Array.getD_eq_getD_getElem?,← Array.getElem?_toList,h,List.getElem?_append_right (Nat.le_refl _),Nat.sub_self];rfl
theorem Fix.here (F:Fix (f+1) p L):p.getD L.length 0=L.length:=IX (F.eq.trans (by rw [List.range'_succ]))
theorem Fix.here1 (F:Fix (f+1) p (K++[z])):p.getD (K.length+1) 0=K.length+1:=Ai K z▸F.here
theorem Fix.last (F:Fix f p (K++[z])):p.getD K.length 0=z:=IX (F.eq.trans (List.append_assoc ..))
theorem Fix.low1 (F:Fix f p (K++[z])) (h:K.length+1+f=n):z<n:=
 Nat.lt_of_lt_of_le (F.low (List.mem_append_right _ List.mem_cons_self)) (h▸(Ai K z).symm▸Nat.le_add_right _ _)
theorem Fix.at (F:Fix f p L) (h:i<L.length):p.getD i 0=L[i]:=by
 rw [Array.getD_eq_getD_getElem?,← Array.getElem?_toList,F.eq,List.getElem?_append_left h,List.getElem?_eq_getElem h];rfl
theorem Nf (h:p.toList=D++(A++R)):(kas_rev p D.length (D.length+A.length)).toList=D++(A.reverse++R):=by
 have hz:D.length+A.length≤p.size:=by rw [← Array.length_toList,h,List.length_append,List.length_append,← Nat.add_assoc];exact Nat.le_add_right _ _
 refine List.ext_getElem? fun k=>?_
 rw [Array.getElem?_toList,kas_rev,getElem?_mirror_all hz,← Array.getElem?_toList,← Array.getElem?_toList,h]
 refine (Nat.lt_or_ge k D.length).elim (fun c=>?_) fun c=>?_
 ·rw [if_neg (fun z=>Nat.not_lt.mpr z.1 c),List.getElem?_append_left c,List.getElem?_append_left c]
 ·obtain ⟨i,rfl⟩:=Nat.exists_eq_add_of_le c
  rw [List.getElem?_append_right c,List.getElem?_append_right c,Nat.add_sub_cancel_left]
  refine (Nat.lt_or_ge i A.length).elim (fun c'=>?_) fun c'=>?_
  ·refine (Nat.exists_eq_add_of_le c').elim fun j (hj:A.length=i+1+j)=>?_
   have e1:A.length - 1 - i=j:=by rw [hj,Nat.add_right_comm,Nat.add_sub_cancel,Nat.add_sub_cancel_left]
   have e2:D.length+(D.length+A.length) - 1 - (D.length+i)=D.length+j:=Nat.sub_eq_of_eq_add (Nat.sub_eq_of_eq_add (hj▸Nat.le_antisymm (an3 .le (.a .v0 (.a .v0 (.a (.a .v1 .n1) .v2))) (.a (.a (.a .v0 .v2) (.a .v0 .v1)) .n1) .e rfl) (an3 .le (.a (.a (.a .v0 .v1) (.a .v0 .v2)) .n1) (.a .v0 (.a .v0 (.a (.a .v2 .n1) .v1))) .e rfl)))
   rw [if_pos ⟨c,Nat.add_lt_add_left c' _⟩,e2,List.getElem?_append_right (Nat.le_add_right ..),Nat.add_sub_cancel_left,List.getElem?_append_left (hj▸Nat.lt_add_of_pos_left (Nat.zero_lt_succ i)),List.getElem?_append_left (by rw [List.length_reverse];exact c'),List.getElem?_reverse c',e1]
  ·rw [if_neg (fun z=>Nat.not_lt.mpr c' (Nat.lt_of_add_lt_add_left z.2)),List.getElem?_append_right c',List.getElem?_append_right (by rw [List.length_reverse];exact c'),List.length_reverse]
theorem OA (h:p.toList=X++(Y++x::R)):(bubble p (X.length+Y.length) Y.length).toList=X++x::(Y++R):=by
 have hz:X.length+Y.length<p.size:=by rw [← Array.length_toList,h,List.length_append,List.length_append];exact Nat.add_lt_add_left (Nat.lt_add_of_pos_right (Nat.zero_lt_succ _)) _
 refine List.ext_getElem? fun k=>?_
 rw [Array.getElem?_toList,getElem?_bubble hz _ (Nat.le_add_left _ _),Nat.add_sub_cancel,← Array.getElem?_toList,← Array.getElem?_toList,← Array.getElem?_toList,h]
 refine (Nat.lt_or_ge k X.length).elim (fun c=>?_) fun c=>?_
 ·rw [if_neg (Nat.ne_of_lt c),if_neg (fun z=>Nat.lt_asymm c z.1),List.getElem?_append_left c,List.getElem?_append_left c]
 ·obtain ⟨i,rfl⟩:=Nat.exists_eq_add_of_le c
  rw [List.getElem?_append_right c,List.getElem?_append_right c,Nat.add_sub_cancel_left]
  cases i with
  | zero=>rw [if_pos (Nat.add_zero _),List.getElem?_append_right (Nat.le_add_right _ _),Nat.add_sub_cancel_left,List.getElem?_append_right (Nat.le_refl _),Nat.sub_self];rfl
  | succ j=>
   rw [if_neg (Nat.ne_of_gt (Nat.lt_add_of_pos_right (Nat.zero_lt_succ j))),List.getElem?_cons_succ]
   refine (Nat.lt_or_ge j Y.length).elim (fun c'=>?_) fun c'=>?_
   ·rw [if_pos ⟨Nat.lt_add_of_pos_right (Nat.zero_lt_succ j),Nat.add_le_add_left c' _⟩,show X.length+(j+1) - 1=X.length+j from rfl,List.getElem?_append_right (Nat.le_add_right _ _),Nat.add_sub_cancel_left,List.getElem?_append_left c',List.getElem?_append_left c']
   ·rw [if_neg (fun z=>Nat.not_lt.mpr c' (Nat.le_of_add_le_add_left z.2)),List.getElem?_append_right (Nat.le_succ_of_le c'),List.getElem?_append_right c',Nat.succ_sub c'];rfl
theorem H8 (D A:List Nat):(D++A.reverse).length=(D++A).length:=by rw [List.length_append,List.length_append,List.length_reverse]
theorem Fix.rev (F:Fix f p (D++A)):Fix f (kas_rev p D.length (D++A).length) (D++A.reverse) where
 eq:=by
  have e:=F.eq
  rw [List.append_assoc] at e
  rw [List.length_append,Nf e,List.append_assoc,List.length_append,List.length_append,List.length_reverse]
 perm:=by
  have e:=F.perm
  rw [List.length_append] at e
  rw [List.length_append,List.length_reverse]
  exact ((List.reverse_perm A).append_left D).trans e
theorem OV (W:Weak lt) (S:(K++[z]).Pairwise (Bf lt)) (h:Bf lt z x):(K++[z]++[x]).Pairwise (Bf lt):=
 List.pairwise_append.mpr ⟨S,List.pairwise_singleton _ _,fun a ha b hb=>List.mem_singleton.mp hb▸((List.mem_append.mp ha).elim (fun ha=>((List.pairwise_append.mp S).2.2 a ha z List.mem_cons_self).trans W h) fun ha=>List.mem_singleton.mp ha▸h)⟩
end
noncomputable def Up (lt:Nat→Nat→Bool) (n:Nat) (p:Array Nat) (Q:Nat→Prop):Prop:=
 ∀ g K z,K.length+1+g=n→Fix g p (K++[z])→(K++[z]).Pairwise (Bf lt)→(g≠0→lt (K.length+1) z=true)→Q (K.length+1)
theorem PJ (W:Weak lt) (q:Up lt n p Q) (f:Nat):∀ (K:List Nat) (z:Nat),K.length+1+f=n→Fix f p (K++[z])→(K++[z]).Pairwise (Bf lt)→Tr lt n (kas_asc p f (K.length+1)) Q:=by
 induction f with
 | zero=>exact fun K z hn F S=>q 0 K z hn F S fun h=>absurd rfl h
 | succ f ih=>
  intro K z hn F S
  show Tr lt n (.ask (p.getD (K.length+1) 0) (p.getD K.length 0) _) Q
  rw [F.here1,F.last]
  refine ⟨hn▸Nat.lt_add_of_pos_right (Nat.zero_lt_succ f),F.low1 hn,?_⟩
  show Tr lt n (if lt (K.length+1) z=true then _ else _) Q
  by_cases hc:lt (K.length+1) z=true
  ·rw [if_pos hc];exact q (f+1) K z hn F S fun _=>hc
  ·rw [if_neg hc]
   have G:=F.grow
   have lo:=F.low (List.mem_append_right K List.mem_cons_self)
   have:=ih (K++[z]) (K++[z]).length
   rw [Ai] at this G lo
   exact this (Nat.add_right_comm _ f 1▸hn) G (OV W S (.inr ⟨Bool.eq_false_iff.mpr hc,lo⟩))
noncomputable def Se (lt:Nat→Nat→Bool) (n:Nat) (Q:Nat × Array Nat→Prop):Prop:=
 ∀ g p L,L.length+g=n→Fix g p L→L.Pairwise (Bf lt)→1≤L.length→Q (L.length,p)
theorem Jj (W:Weak lt) (hn:L.length+f=n) (F:Fix f p L) (h0:1≤L.length) (h:L.Pairwise fun x y=>Bf lt y x) (hQ:Se lt n Q):Tr lt n (kas_tail3 L.length n p) Q:=by
 refine Tr.bind ?_
 have F':Fix f (kas_rev p 0 L.length) L.reverse:=Fix.rev (D:=[]) F
 have S:=List.pairwise_reverse.mpr h
 rw [show n - L.length=f by rw [← hn];exact Nat.add_sub_cancel_left ..]
 generalize kas_rev p 0 L.length=p' at F' ⊢
 rw [← List.length_reverse] at hn h0 ⊢
 generalize L.reverse=M at *
 obtain ⟨K,z,rfl⟩:∃ K z,M=K++[z]:=⟨M.dropLast,M.getLast (List.ne_nil_of_length_pos h0),(List.dropLast_concat_getLast _).symm⟩
 rw [Ai] at hn ⊢
 exact PJ W (fun g K z hn F S _=>by have:=hQ g p' (K++[z]);rw [Ai] at this;exact this hn F S (Nat.le_add_left 1 _)) f K z hn F' S
noncomputable def R0 (lt:Nat→Nat→Bool) (x y:Nat):Prop:=lt x y=false∧lt y x=false∧x<y
structure Run (lt:Nat→Nat→Bool) (f:Nat) (p:Array Nat) (D A:List Nat) (z:Nat):Prop where
 fix:Fix f p (D++(A++[z]))
 dsc:D.Pairwise fun x y=>Bf lt y x
 alike:(A++[z]).Pairwise (R0 lt)
 strict:∀ d∈D,∀ a∈A++[z],lt a d=true
section
variable {f n:Nat} {p:Array Nat} {D A:List Nat} {z:Nat}
theorem Run.dscRev (R:Run lt f p D A z):(D++(A++[z]).reverse).Pairwise fun x y=>Bf lt y x:=
 List.pairwise_append.mpr ⟨R.dsc,List.pairwise_reverse.mpr (R.alike.imp fun h=>.inr ⟨h.2.1,h.2.2⟩),fun d hd a ha=>.inl (R.strict d hd a (List.mem_reverse.mp ha))⟩
theorem Run.below (W:Weak lt) (R:Run lt f p D A z) {x:Nat} (h:lt x z=true):∀ d∈D++(A++[z]).reverse,lt x d=true:=fun d hd=>by
 have hz:∀ d∈A++[z],lt d z=false:=fun d hd=>(List.mem_append.mp hd).elim (fun hd=>((List.pairwise_append.mp R.alike).2.2 d hd z List.mem_cons_self).1) fun hd=>List.mem_singleton.mp hd▸W.irr _
 exact (List.mem_append.mp hd).elim (fun hd=>W.tr h (R.strict d hd z (List.mem_append_right _ List.mem_cons_self))) fun hd=>(W.neg x d z h).elim id fun h=>Im h (hz d (List.mem_reverse.mp hd))
theorem Fv (F:Fix (f+1) p L) (h:L.Pairwise fun x y=>Bf lt y x) (hs:∀ d∈L,lt L.length d=true):Run lt f p L [] L.length:=
 ⟨F.grow,h,List.pairwise_singleton _ _,fun d hd a ha=>List.mem_singleton.mp ha▸hs d hd⟩
theorem Run.next (W:Weak lt) (R:Run lt (f+1) p D A z) (h:lt (D++(A++[z])).length z=true):Run lt f (kas_rev p D.length (D++(A++[z])).length) (D++(A++[z]).reverse) [] (D++(A++[z])).length:=by
 have:=R.fix.rev
 rw [← H8] at this h ⊢
 exact Fv this R.dscRev (R.below W h)
theorem Run.same (W:Weak lt) (R:Run lt (f+1) p D A z) (h1:lt (D++(A++[z])).length z=false) (h2:lt z (D++(A++[z])).length=false):Run lt f p D (A++[z]) (D++(A++[z])).length:=by
 have hz:∀ a∈A++[z],lt a z=false∧lt z a=false:=fun d hd=>(List.mem_append.mp hd).elim (fun hd=>(fun h:R0 lt d z=>⟨h.1,h.2.1⟩) ((List.pairwise_append.mp R.alike).2.2 d hd z List.mem_cons_self)) fun hd=>List.mem_singleton.mp hd▸⟨W.irr _,W.irr _⟩
 refine ⟨List.append_assoc D (A++[z]) _▸R.fix.grow,R.dsc,List.pairwise_append.mpr ⟨R.alike,List.pairwise_singleton _ _,fun a ha b hb=>List.mem_singleton.mp hb▸⟨W.no (hz a ha).1 h2,W.no h1 (hz a ha).2,R.fix.low (List.mem_append_right _ ha)⟩⟩,fun d hd a ha=>(List.mem_append.mp ha).elim (R.strict d hd a) fun ha=>List.mem_singleton.mp ha▸?_⟩
 exact (W.neg _ _ _ (R.strict d hd z (List.mem_append_right _ List.mem_cons_self))).elim (fun h=>Im h h2) id
end
theorem Q2 (W:Weak lt) (hQ:∀ f p D A z,(D++(A++[z])).length+f=n→Run lt f p D A z→Q (p,(D++(A++[z])).length,A.length)) (f:Nat) :
  ∀ (p:Array Nat) (D A:List Nat) (z:Nat),(D++(A++[z])).length+f=n→Run lt f p D A z→Tr lt n (kas_desc f p (D++(A++[z])).length A.length) Q:=by
 induction f with
 | zero=>exact fun p D A z hn R=>hQ 0 p D A z hn R
 | succ f ih=>
  intro p D A z hn R
  have hm:(D++(A++[z])).length=(D++A).length+1:=by rw [← List.append_assoc];exact Ai ..
  have hlt:(D++(A++[z])).length<n:=hn▸Nat.lt_add_of_pos_right (Nat.zero_lt_succ f)
  have hz:z<n:=Nat.lt_trans (R.fix.low (List.mem_append_right _ (List.mem_append_right _ List.mem_cons_self))) hlt
  have e1:=R.fix.here
  have e2:p.getD ((D++(A++[z])).length - 1) 0=z:=by
   have:=R.fix
   rw [← List.append_assoc] at this
   rw [hm];exact this.last
  have hg:(D++(A++[z])).length - (A.length+1)=D.length:=by rw [List.length_append,Ai];exact Nat.add_sub_cancel ..
  have hn':(D++(A++[z])).length+1+f=n:=by rw [Nat.add_right_comm];exact hn
  show Tr lt n (.ask (p.getD (D++(A++[z])).length 0) (p.getD ((D++(A++[z])).length - 1) 0) fun c=>if c=true then (if A.length > 0 then kas_desc f (kas_rev p ((D++(A++[z])).length - (A.length+1)) (D++(A++[z])).length) ((D++(A++[z])).length+1) 0 else kas_desc f p ((D++(A++[z])).length+1) 0) else .ask _ _ _) Q
  rw [e1,e2,hg]
  refine ⟨hlt,hz,?_⟩
  show Tr lt n (if lt (D++(A++[z])).length z=true then _ else _) Q
  have ln:∀ (X:List Nat) x,(X++([]++[x])).length=X.length+1:=Ai
  by_cases hc:lt (D++(A++[z])).length z=true
  ·rw [if_pos hc]
   have R':=R.next W hc
   have hr:=ih (kas_rev p D.length (D++(A++[z])).length) (D++(A++[z]).reverse) [] (D++(A++[z])).length
   rw [ln,H8] at hr
   by_cases ha:A.length > 0
   ·rw [if_pos ha];exact hr hn' R'
   ·rw [if_neg ha]
    have ha:=List.length_eq_zero_iff.mp (Nat.eq_zero_of_not_pos ha)
    subst ha
    have R':=Fv R.fix (R.dscRev (D:=D) (A:=[]) (z:=z)) (R.below W hc)
    have hr:=ih p (D++[z]) [] (D++[z]).length
    rw [ln] at hr
    exact hr hn' R'
  ·rw [if_neg hc]
   refine ⟨hz,hlt,?_⟩
   show Tr lt n (if lt z (D++(A++[z])).length=true then _ else _) Q
   by_cases hd:lt z (D++(A++[z])).length=true
   ·rw [if_pos hd];exact hQ (f+1) p D A z hn R
   ·rw [if_neg hd]
    have hr:=ih p D (A++[z]) (D++(A++[z])).length
    rw [← List.append_assoc D,Ai,Ai A] at hr
    exact hr hn' (R.same W (Bool.eq_false_iff.mpr hc) (Bool.eq_false_iff.mpr hd))
theorem Fe (W:Weak lt) (hn:L.length+1+f=n) (R:Run lt f p L [] L.length) (hQ:Se lt n Q):Tr lt n (kas_descPart L.length n p) Q:=by
 refine Tr.bind ?_
 rw [show n - (L.length+1)=f by rw [← hn];exact Nat.add_sub_cancel_left ..]
 have:=Q2 (n:=n) W (Q:=fun r=>Tr lt n (if r.2.2 > 0 then kas_tail3 r.2.1 n (kas_rev r.1 (r.2.1 - (r.2.2+1)) r.2.1) else kas_tail3 r.2.1 n r.1) Q) (fun f p D A z hn R=>?_) f p L [] L.length
 rotate_left
 ·have e:=H8 D (A++[z])
  have h1:1≤(D++(A++[z])).length:=by rw [← List.append_assoc,Ai];exact Nat.le_add_left ..
  by_cases ha:A.length > 0
  ·rw [if_pos ha]
   dsimp only
   have:=Jj W (e▸hn) R.fix.rev (e▸h1) R.dscRev hQ
   rw [e] at this
   rw [show (D++(A++[z])).length - (A.length+1)=D.length by rw [List.length_append,Ai];exact Nat.add_sub_cancel ..]
   exact this
  ·rw [if_neg ha]
   have ha:=List.length_eq_zero_iff.mp (Nat.eq_zero_of_not_pos ha)
   subst ha
   exact Jj W hn R.fix h1 R.dscRev hQ
 have e:(L++([]++[L.length])).length=L.length+1:=Ai L L.length
 rw [e] at this
 exact this hn R
theorem QA {n:Nat} {Q:Nat × Array Nat→Prop} (W:Weak lt) (hQ:Se lt (n+1) Q):Tr lt (n+1) (kas_count (n+1) (List.toArray (List.range (n+1)))) Q:=by
 refine Tr.bind ?_
 have F:Fix n (List.toArray (List.range (n+1))) ([]++[0]):=Fix.grow (L:=[]) ⟨List.range_eq_range',.nil⟩
 generalize List.toArray (List.range (n+1))=p at *
 refine PJ W (fun g K z hn F S hl=>?_) n [] 0 (Nat.add_comm ..) F (List.pairwise_singleton _ _)
 have fin:Q (K.length+1,p):=by have:=hQ g p (K++[z]);rw [Ai] at this;exact this hn F S (Nat.le_add_left 1 _)
 cases g with
 | zero=>rw [if_pos (beq_iff_eq.mpr hn)];exact fin
 | succ g=>
  have hl:=hl nofun
  have hn':(K++[z]).length+1+g=n+1:=by rw [Ai,Nat.add_right_comm];exact hn
  have hn'':(K++[z]).reverse.length+1+g=n+1:=by rw [List.length_reverse];exact hn'
  rw [if_neg (fun e=>Nat.ne_of_lt (hn▸Nat.lt_add_of_pos_right (Nat.zero_lt_succ g)) (beq_iff_eq.mp e))]
  have ha:=List.pairwise_append.mp S
  cases K with
  | nil=>
   rw [if_neg (by decide)]
   exact Fe (L:=[z]) W hn' (Fv F (List.pairwise_singleton _ _) fun d hd=>List.mem_singleton.mp hd▸hl) hQ
  | cons a K=>
   rw [if_pos (show (a::K).length+1 > 1 from Nat.succ_lt_succ (Nat.zero_lt_succ _))]
   have e0:p.getD 0 0=a:=IX (X:=[]) F.eq
   have el:p.getD ((a::K).length+1 - 1) 0=z:=F.last
   show Tr lt (n+1) (.ask (p.getD 0 0) (p.getD ((a::K).length+1 - 1) 0) _) Q
   rw [e0,el]
   have lo:∀ x∈(a::K)++[z],x<n+1:=fun x hx=>Nat.lt_of_lt_of_le (F.low hx) (Ai (a::K) z▸hn▸Nat.le_add_right _ _)
   refine ⟨lo a List.mem_cons_self,lo z (List.mem_append_right _ List.mem_cons_self),?_⟩
   show Tr lt (n+1) (if lt a z=true then _ else _) Q
   by_cases hc:lt a z=true
   ·rw [if_pos hc];exact fin
   ·rw [if_neg hc]
    have hz:∀ d∈(a::K)++[z],lt d z=false:=fun d hd=>(List.mem_append.mp hd).elim (fun hd=>(List.mem_cons.mp hd).elim (fun e=>e▸Bool.eq_false_iff.mpr hc) fun hk=>
     W.no (((List.pairwise_cons.mp ha.1).1 d hk).no W) (Bool.eq_false_iff.mpr hc)) fun hd=>List.mem_singleton.mp hd▸W.irr _
    have F':Fix (g+1) (kas_rev p 0 ((a::K)++[z]).length) ((a::K)++[z]).reverse:=Fix.rev (D:=[]) F
    have hr:=Fv (lt:=lt) F' (List.pairwise_reverse.mpr S) fun d hd=>by
     rw [List.length_reverse,Ai]
     exact (W.neg _ d _ hl).elim id fun h=>Im h (hz d (List.mem_reverse.mp hd))
    have:=Fe W hn'' hr hQ
    rw [List.length_reverse,Ai] at this
    exact this
theorem PL (hk:p.getD k 0=k) (hn:k<n) (inb:∀ i,i<k→p.getD i 0<n) (up:∀ i j,i≤j→j<k→lt k (p.getD i 0)=true→lt k (p.getD j 0)=true)
  (hQ:∀ l,l≤k→(∀ i,i<l→lt k (p.getD i 0)=false)→(∀ i,l≤i→i<k→lt k (p.getD i 0)=true)→Q l) (f:Nat) :
  ∀ l r:Nat,l≤r→r≤k→r≤l+f→(∀ i,i<l→lt k (p.getD i 0)=false)→(∀ i,r≤i→i<k→lt k (p.getD i 0)=true)→Tr lt n (kas_place p k f l r) Q:=by
 induction f with
 | zero=>exact fun l r h1 h2 h3 a b=>hQ l (Nat.le_trans h1 h2) a fun i h=>b i (Nat.le_trans h3 h)
 | succ f ih=>
  intro l r h1 h2 h3 a b
  show Tr lt n (if l ≥ r then .ret l else .ask (p.getD k 0) (p.getD ((l+r) / 2) 0) fun c=>if c=true then kas_place p k f l ((l+r) / 2) else kas_place p k f ((l+r) / 2+1) r) Q
  by_cases hl:l ≥ r
  ·rw [if_pos hl];exact hQ l (Nat.le_trans h1 h2) a fun i h=>b i (Nat.le_trans hl h)
  ·rw [if_neg hl,hk]
   have hl:=Nat.lt_of_not_le hl
   have m1:l≤(l+r) / 2:=(Nat.le_div_iff_mul_le (by decide)).mpr (by rw [Nat.mul_two];exact Nat.add_le_add_left h1 l)
   have m2:(l+r) / 2<r:=Nat.div_lt_of_lt_mul (by rw [Nat.two_mul];exact Nat.add_lt_add_right hl r)
   have mk:=Nat.lt_of_lt_of_le m2 h2
   refine ⟨hn,inb _ mk,?_⟩
   show Tr lt n (if lt k (p.getD ((l+r) / 2) 0)=true then _ else _) Q
   by_cases hc:lt k (p.getD ((l+r) / 2) 0)=true
   ·rw [if_pos hc];exact ih l _ m1 (Nat.le_of_lt mk) (Nat.le_of_lt_succ (Nat.lt_of_lt_of_le m2 h3)) a fun i c e=>up _ i c e hc
   ·rw [if_neg hc];exact ih _ r m2 h2 (by rw [Nat.add_right_comm];exact Nat.le_trans h3 (Nat.add_le_add_right m1 (f+1))) (fun i c=>Bool.eq_false_iff.mpr fun h=>hc (up i _ (Nat.le_of_lt_succ c) mk h)) b
theorem Qn {n:Nat} (W:Weak lt) {Q:Array Nat→Prop} (hQ:∀ p L,Fix 0 p L→L.length=n→L.Pairwise (Bf lt)→Q p) (f:Nat):∀ (p:Array Nat) (L:List Nat),L.length+f=n→Fix f p L→L.Pairwise (Bf lt)→Tr lt n (kas_bin f p L.length) Q:=by
 induction f with
 | zero=>exact fun p L hn F S=>hQ p L F hn S
 | succ f ih=>
  intro p L hn F S
  have hk:L.length<n:=hn▸Nat.lt_add_of_pos_right (Nat.zero_lt_succ f)
  refine Tr.bind (PL F.here hk (fun i h=>?_) (fun i j hij hj h=>?_) (fun l hl a b=>?_) L.length 0 L.length (Nat.zero_le _) (Nat.le_refl _) (Nat.le_add_left ..) (fun i h=>absurd h (Nat.not_lt_zero _)) fun i h h'=>absurd h' (Nat.not_lt.mpr h))
  ·rw [F.at h];exact Nat.lt_trans (F.low (List.getElem_mem h)) hk
  ·refine (Nat.lt_or_eq_of_le hij).elim (fun hij=>?_) fun e=>e▸h
   rw [F.at hj];rw [F.at (Nat.lt_trans hij hj)] at h
   exact (W.neg _ _ _ h).elim id fun h=>Im h ((List.pairwise_iff_getElem.mp S i j (Nat.lt_trans hij hj) hj hij).no W)
  ·have e:L.take l++L.drop l=L:=List.take_append_drop ..
   have l1:(L.take l).length=l:=List.length_take_of_le hl
   have l2:(L.drop l).length=L.length - l:=List.length_drop
   have eq:=F.eq
   rw [List.range'_succ] at eq
   have:=OA (p:=p) (X:=L.take l) (Y:=L.drop l) (x:=L.length) (R:=List.range' (L.length+1) f) (by rw [← List.append_assoc,e];exact eq)
   rw [← List.length_append,e,l2] at this
   have ha:∀ x∈L.take l,lt L.length x=false:=fun x hx=>(List.mem_take_iff_getElem.mp hx).elim fun i h=>h.elim fun h e=>by
    have h:=Nat.lt_min.mp h
    have:=a i h.1
    rw [F.at h.2] at this;exact e▸this
   have hb:∀ x∈L.drop l,lt L.length x=true:=fun x hx=>(List.mem_drop_iff_getElem.mp hx).elim fun i h=>h.elim fun h e=>by
    have h:l+i<L.length:=Nat.add_comm i l▸h
    have:=b (l+i) (Nat.le_add_right ..) h
    rw [F.at h] at this;exact e▸this
   have hp:(L.take l++L.length::L.drop l).Perm (L.length::L):=List.perm_middle.trans (.cons _ (.of_eq e))
   have hl':(L.take l++L.length::L.drop l).length=L.length+1:=hp.length_eq
   have hr:=ih (bubble p L.length (L.length - l)) (L.take l++L.length::L.drop l)
   rw [hl'] at hr
   refine hr (by rw [Nat.add_right_comm];exact hn) ⟨?_,?_⟩ ?_
   ·rw [this,hl',List.append_assoc];rfl
   ·rw [hl',List.range_succ];exact hp.trans ((List.perm_append_singleton _ _).symm.trans (F.perm.append_right _))
   ·have s:=List.pairwise_append.mp (e.symm▸S)
    exact List.pairwise_append.mpr ⟨s.1,List.pairwise_cons.mpr ⟨fun y hy=>.inl (hb y hy),s.2.1⟩,fun x hx=>List.forall_mem_cons.mpr ⟨.inr ⟨ha x hx,F.low (List.mem_of_mem_take hx)⟩,s.2.2 x hx⟩⟩
theorem LN (W:Weak lt) (h:1≤n):Tr lt n (kas_sort n) fun p=>p.toList.Perm (List.range n)∧p.toList.Pairwise (Bf lt):=by
 have fin:∀ p L,Fix 0 p L→L.length=n→L.Pairwise (Bf lt)→p.toList.Perm (List.range n)∧p.toList.Pairwise (Bf lt):=fun p L F hn S=>by
  have e:=F.eq
  rw [List.range'_zero,List.append_nil] at e
  rw [e];exact ⟨hn▸F.perm,S⟩
 refine Tr.bind ?_
 cases n with
 | zero=>cases h
 | succ n=>
  refine QA W fun g p L hn F S h1=>?_
  cases g with
  | zero=>rw [if_neg (show ¬ L.length<n+1 from Nat.not_lt.mpr (Nat.le_of_eq hn.symm))];exact fin p L F hn S
  | succ g=>
   rw [if_pos (show L.length<n+1 from hn▸Nat.lt_add_of_pos_right (Nat.zero_lt_succ g))]
   dsimp only
   rw [Nat.max_eq_left h1,show n+1 - L.length=g+1 by rw [← hn];exact Nat.add_sub_cancel_left ..]
   exact Qn W fin (g+1) p L hn F S
end Mine.Internal
namespace Mine.Internal
open PySem
set_option genSizeOf false
set_option genInjectivity false
inductive V where
 | undef | none | bool (b:Bool) | int (i:Int) | str (s:Str) | tup (vs:List V) | ref (n:Nat)
inductive O where
 | list (vs:List V)
 | tab (P:Addr)
 | gone
 | dict (ep:Nat) (kvs:List (Str × V))
 | inst (C:Addr) (m:Nat)
 | ns (fs:List (Str × V))
 | row (P:Addr) (ln col:Int) (m:Nat)
 | code (q:Str)
 | dictT (n:Nat) (f:List Int→Option V)
abbrev AB:=List O
abbrev Ac:=Nat→AB→Prop
abbrev AN:=V→AB→Prop
abbrev CA:=Nat→List V→AB→AN→Ac→Prop
abbrev Ex:=CA→List V→AB→AN→Ac→Prop
abbrev Es:=CA→List V→AB→(List V→AB→Prop)→Ac→Prop
abbrev Tx:=CA→List V→AB→(Bool→AB→Prop)→Ac→Prop
inductive Fl where
 | next
 | ret (v:V)
 | exc (c:Nat)
abbrev CU:=Fl→List V→AB→Prop
abbrev Sx:=CA→List V→AB→CU→Prop
inductive BOp where | add | sub | mul | floordiv | mod | pow
inductive Ty where | int | bool | str | tuple
noncomputable def Ag:Nat:=1000000
noncomputable def Bl:Nat:=16000000
noncomputable def small (i:Int):Bool:=decide (-(2 ^ 63)≤i)&&decide (i<2 ^ 63)
noncomputable def b2i (b:Bool):Int:=if b then 1 else 0
noncomputable def FJ {α β:Type} (f:α→Option β):List α→Option (List β)
 | []=>some []
 | a::as=>(f a).bind fun b=>(FJ f as).map (b::·)
noncomputable def PA (f:V→Option PyData):Option O→Option PyData
 | some (.list vs)=>(FJ f vs).map PyData.list
 | _=>Option.none
noncomputable def toD (σ:AB):Nat→V→Option PyData
 | 0,_=>Option.none
 | n+1,v=>match v with
  | .none=>some .none
  | .bool b=>some (.bool b)
  | .int i=>some (.int i)
  | .str x=>some (.str x)
  | .tup vs=>(FJ (toD σ n) vs).map PyData.tuple
  | .ref k=>PA (toD σ n) σ[k]?
  | .undef=>Option.none
noncomputable def put (k:Str) (v:V) (l:List (Str × V)):List (Str × V):=
 if l.any (fun p=>p.1=k) then l.map (fun p=>if p.1=k then (p.1,v) else p) else l++[(k,v)]
noncomputable def del (k:Str) (l:List (Str × V)):List (Str × V):=l.filter fun p=>p.1≠k
noncomputable def EL (c:Nat):Str:=⟨#[c]⟩
noncomputable def VK {α:Type} (l:List α):Nat→List α
 | 0=>[]
 | n+1=>l++VK l n
inductive TruK (σ:AB) (K:Bool→Prop):V→Prop
 | none:K false→TruK σ K .none
 | bool {b:Bool}:K b→TruK σ K (.bool b)
 | int {i:Int}:K (i != 0)→TruK σ K (.int i)
inductive BinK (σ:AB) (Q:AN):BOp→V→V→Prop
 | add {x y:Int}:Q (.int (x+y)) σ→BinK σ Q .add (.int x) (.int y)
 | addS {x y:Str}:x.length+y.length≤Ag→Q (.str (x++y)) σ→BinK σ Q .add (.str x) (.str y)
 | addT {x y:List V}:x≠[]→y≠[]→x.length+y.length≤Ag→Q (.tup (x++y)) σ→BinK σ Q .add (.tup x) (.tup y)
 | addL {n m:Nat} {x y:List V}:σ[n]?=some (.list x)→σ[m]?=some (.list y)→x.length+y.length≤Ag→Q (.ref σ.length) (σ++[.list (x++y)])→BinK σ Q .add (.ref n) (.ref m)
 | sub {x y:Int}:Q (.int (x - y)) σ→BinK σ Q .sub (.int x) (.int y)
 | mul {x y:Int}:small x=true∨small y=true→Q (.int (x*y)) σ→BinK σ Q .mul (.int x) (.int y)
 | div {x y:Int}:y≠0→small y=true→Q (.int (x.fdiv y)) σ→BinK σ Q .floordiv (.int x) (.int y)
 | mod {x y:Int}:y≠0→Q (.int (x.fmod y)) σ→BinK σ Q .mod (.int x) (.int y)
 | pow {n:Nat}:0<n→n≤9→Q (.int (10 ^ n)) σ→BinK σ Q .pow (.int 10) (.int n)
noncomputable def Ah:List Int→List Int→Bool
 | [],[]=>false
 | [],_::_=>true
 | _::_,[]=>false
 | a::as,b::bs=>if a=b then Ah as bs else decide (a<b)
noncomputable def isNone:V→Bool
 | .none=>true
 | _=>false
inductive CmpK (σ:AB) (K:Bool→Prop):CmpOp→V→V→Prop
 | eq {a b:V} {x y:PyData}:toD σ 6 a=some x→toD σ 6 b=some y→x.canLay0=true→y.canLay0=true→K (PyData.eqv x y)→CmpK σ K .Eq a b
 | ne {a b:V} {x y:PyData}:toD σ 6 a=some x→toD σ 6 b=some y→x.canLay0=true→y.canLay0=true→K (!PyData.eqv x y)→CmpK σ K .NotEq a b
 | lt {x y:Int}:K (decide (x<y))→CmpK σ K .Lt (.int x) (.int y)
 | le {x y:Int}:K (decide (x≤y))→CmpK σ K .LtE (.int x) (.int y)
 | gt {x y:Int}:K (decide (x > y))→CmpK σ K .Gt (.int x) (.int y)
 | ge {x y:Int}:K (decide (x ≥ y))→CmpK σ K .GtE (.int x) (.int y)
 | ltT {x y:List Int}:K (Ah x y)→CmpK σ K .Lt (.tup (x.map .int)) (.tup (y.map .int))
 | is {a:V}:K (isNone a)→CmpK σ K .Is a .none
 | isnot {a:V}:K (!isNone a)→CmpK σ K .IsNot a .none
 | ninT {a b:V} {x:PyData} {ys:List PyData}:toD σ 6 a=some x→toD σ 6 b=some (.tuple ys)→x.canLay0=true→PyData.canLayAll0 ys=true→K (!ys.any fun y=>PyData.eqv y x)→CmpK σ K .NotIn a b
 | inD {n ep:Nat} {kvs:List (Str × V)} {k:Str}:σ[n]?=some (.dict ep kvs)→K (kvs.any fun p=>p.1=k)→CmpK σ K .In (.str k) (.ref n)
 | ninD {n ep:Nat} {kvs:List (Str × V)} {k:Str}:σ[n]?=some (.dict ep kvs)→K (!kvs.any fun p=>p.1=k)→CmpK σ K .NotIn (.str k) (.ref n)
 | inS {c:Nat} {y:Str}:K (decide (c∈y.cps.toList))→CmpK σ K .In (.str (EL c)) (.str y)
noncomputable def Idx (k:Int) (n j:Nat):Prop:=(k=j∧j<n)∨(k+n=j∧k<0)
inductive SubK (σ:AB) (Q:AN):V→V→Prop
 | tup {vs:List V} {k:Int} {j:Nat} {v:V}:small k=true→Idx k vs.length j→vs[j]?=some v→Q v σ→SubK σ Q (.tup vs) (.int k)
 | list {n:Nat} {vs:List V} {k:Int} {j:Nat} {v:V}:σ[n]?=some (.list vs)→Idx k vs.length j→vs[j]?=some v→Q v σ→SubK σ Q (.ref n) (.int k)
 | str {s:Str} {k:Int} {j c:Nat}:small k=true→Idx k s.length j→s.cps[j]?=some c→Q (.str (EL c)) σ→SubK σ Q (.str s) (.int k)
 | dict {n ep:Nat} {kvs:List (Str × V)} {k:Str} {v:V}:σ[n]?=some (.dict ep kvs)→kvs.lookup k=some v→Q v σ→SubK σ Q (.ref n) (.str k)
inductive BoundK (n d:Nat):Option V→Nat→Prop
 | no:BoundK n d Option.none d
 | pos {i j:Nat}:small i=true→j=min i n→BoundK n d (some (.int i)) j
noncomputable def cut {α:Type} (l:List α) (a b:Nat):List α:=(l.take b).drop a
inductive SliceK (σ:AB) (Q:AN):V→Option V→Option V→Prop
 | list {n:Nat} {vs:List V} {lo hi:Option V} {x y:Nat}:σ[n]?=some (.list vs)→BoundK vs.length 0 lo x→BoundK vs.length vs.length hi y→Q (.ref σ.length) (σ++[.list (cut vs x y)])→SliceK σ Q (.ref n) lo hi
 | str {s:Str} {lo hi:Option V} {x y:Nat}:s.length≤Ag→BoundK s.length 0 lo x→BoundK s.length s.length hi y→Q (.str ⟨(cut s.cps.toList x y).toArray⟩) σ→SliceK σ Q (.str s) lo hi
 | tup {vs:List V} {lo hi:Option V} {x y:Nat}:vs.length≤Ag→BoundK vs.length 0 lo x→BoundK vs.length vs.length hi y→(cut vs x y).length<vs.length→Q (.tup (cut vs x y)) σ→SliceK σ Q (.tup vs) lo hi
inductive SortK (σ:AB) (Q:AN):Bool→V→Prop
 | ints {n:Nat} {ns:List Int}:σ[n]?=some (.list (ns.map .int))→ns.length<64→(∀ ms:List Int,ms.Perm ns→ms.Pairwise (·≤·)→Q (.ref σ.length) (σ++[.list (ms.map .int)]))→SortK σ Q false (.ref n)
 | rows {n:Nat} {rs:List (List Int)}:σ[n]?=some (.list (rs.map fun r=>.tup (r.map .int)))→rs.length<64→(∀ r∈rs,r≠[]) →
   (∀ ts:List (List Int),ts.Perm rs→ts.Pairwise (fun a b=>Ah b a=false)→Q (.ref σ.length) (σ++[.list (ts.map fun r=>.tup (r.map .int))]))→SortK σ Q false (.ref n)
 | set {n:Nat} {ns:List Int}:σ[n]?=some (.list (ns.map .int))→ns.length<64→(∀ ms:List Int,ms.Pairwise (·<·)→(∀ x,x∈ms↔x∈ns)→Q (.ref σ.length) (σ++[.list (ms.map .int)]))→SortK σ Q true (.ref n)
 | strs {n:Nat} {ss:List Str}:σ[n]?=some (.list (ss.map .str))→ss.length<64→(∀ ts:List Str,ts.Perm ss→PyProof.Rows.sortedS ts=true→Q (.ref σ.length) (σ++[.list (ts.map .str)]))→SortK σ Q false (.ref n)
inductive Pr where | len | list | str | int | max | all | isinst (t:Ty)
inductive PrimK (σ:AB) (Q:AN):Pr→List V→Prop
 | lenL {n:Nat} {vs:List V}:σ[n]?=some (.list vs)→Q (.int vs.length) σ→PrimK σ Q .len [.ref n]
 | lenT {vs:List V}:vs.length≤Ag→Q (.int vs.length) σ→PrimK σ Q .len [.tup vs]
 | lenS {s:Str}:s.length≤Ag→Q (.int s.length) σ→PrimK σ Q .len [.str s]
 | all {n:Nat} {bs:List Bool}:σ[n]?=some (.list (bs.map .bool))→Q (.bool (bs.all id)) σ→PrimK σ Q .all [.ref n]
 | list {n:Nat} {vs:List V}:σ[n]?=some (.list vs)→Q (.ref σ.length) (σ++[.list vs])→PrimK σ Q .list [.ref n]
 | str {i:Int}:small i=true→Q (.str (Str.ofString (toString i))) σ→PrimK σ Q .str [.int i]
 | intB {b:Bool}:Q (.int (b2i b)) σ→PrimK σ Q .int [.bool b]
 | max {a b:Int}:Q (.int (if b > a then b else a)) σ→PrimK σ Q .max [.int a,.int b]
 | isB {b:Bool}:Q (.bool true) σ→PrimK σ Q (.isinst .bool) [.bool b]
 | isI {i:Int}:Q (.bool true) σ→PrimK σ Q (.isinst .int) [.int i]
 | isN {i:Int}:Q (.bool false) σ→PrimK σ Q (.isinst .bool) [.int i]
 | isS {s:Str}:Q (.bool true) σ→PrimK σ Q (.isinst .str) [.str s]
 | isT {vs:List V}:Q (.bool true) σ→PrimK σ Q (.isinst .tuple) [.tup vs]
inductive AppK (σ:AB) (Q:AN) (v:V):V→Prop
 | mk {n:Nat} {vs:List V}:σ[n]?=some (.list vs)→vs.length<Bl→n≠0→Q .none (σ.set n (.list (vs++[v])))→AppK σ Q v (.ref n)
inductive ExtK (σ:AB) (Q:AN):V→V→Prop
 | mk {n m:Nat} {vs us:List V}:σ[n]?=some (.list vs)→σ[m]?=some (.list us)→vs.length+us.length≤Bl→n≠0→Q .none (σ.set n (.list (vs++us)))→ExtK σ Q (.ref n) (.ref m)
noncomputable def isList (σ:AB) (v:V):Prop:=∃ n vs,v=.ref n∧σ[n]?=some (.list vs)
noncomputable def DP (s a:Int):Nat→List V
 | 0=>[]
 | n+1=>.int a::DP s (a+s) n
noncomputable abbrev Hw (a:Int):Nat→List V:=DP 1 a
noncomputable def Gf (k:Int):List V→List V
 | []=>[]
 | v::r=>.tup [.int k,v]::Gf (k+1) r
inductive SrcT where | plain | range | enum
inductive SrcK (σ:AB):SrcT→List V→List V→(AB→Prop)→Prop
 | list {n:Nat} {vs:List V}:σ[n]?=some (.list vs)→SrcK σ .plain [.ref n] vs (fun σ'=>σ'[n]?=some (.list vs))
 | str {s:Str}:s.cps.all (·<128)=true→SrcK σ .plain [.str s] (s.cps.toList.map fun c=>.str (EL c)) (fun _=>True)
 | dict {n ep:Nat} {kvs:List (Str × V)}:σ[n]?=some (.dict ep kvs)→SrcK σ .plain [.ref n] (kvs.map fun p=>.str p.1) (fun σ'=>σ'[n]?=some (.dict ep kvs))
 | range {b:Int}:-(2 ^ 62)≤b→b≤Ag→SrcK σ .range [.int b] (Hw 0 b.toNat) (fun _=>True)
 | range3 {b:Int}:-(2 ^ 62)≤b→b≤Ag→SrcK σ .range [.int 0,.int b,.int 3] (DP 3 0 ((b+2) / 3).toNat) (fun _=>True)
 | enum {n:Nat} {vs:List V}:σ[n]?=some (.list vs)→SrcK σ .enum [.ref n] (Gf 0 vs) (fun σ'=>σ'[n]?=some (.list vs))
inductive Pat where
 | var (i:Nat)
 | tup (ps:List Nat)
noncomputable def GV:List Nat→List V→List V→List V
 | i::is,v::vs,ρ=>GV is vs (ρ.set i v)
 | _,_,ρ=>ρ
inductive BindK (σ:AB) (K:List V→Prop) (ρ:List V):Pat→V→Prop
 | var {i:Nat} {v:V}:K (ρ.set i v)→BindK σ K ρ (.var i) v
 | tup {ps:List Nat} {vs:List V}:ps.length=vs.length→K (GV ps vs ρ)→BindK σ K ρ (.tup ps) (.tup vs)
noncomputable def FT (σ:AB) (n m:Nat) (f:List Int→Option V):Prop:=σ[n]?=some (.dictT m f)∨(f=(fun _=>none)∧∃ ep,σ[n]?=some (.dict ep []))
inductive SetK (σ:AB) (K:AB→Prop) (v:V):V→V→Prop
 | dict {n ep:Nat} {kvs:List (Str × V)} {k:Str}:σ[n]?=some (.dict ep kvs)→n≠0→kvs.length<Ag→(∀ ep',K (σ.set n (.dict ep' (put k v kvs))))→SetK σ K v (.ref n) (.str k)
 | dictT {n m:Nat} {f:List Int→Option V} {k:List Int}:FT σ n m f→n≠0→m<Ag→K (σ.set n (.dictT (m+1) fun k'=>if k'=k then some v else f k'))→SetK σ K v (.ref n) (.tup (k.map .int))
inductive GetK (σ:AB) (Q:AN) (d:V):V→V→Prop
 | mk {n m:Nat} {f:List Int→Option V} {k:List Int}:FT σ n m f→Q ((f k).getD d) σ→GetK σ Q d (.ref n) (.tup (k.map .int))
inductive IdxK (σ:AB) (Q:AN):V→V→Prop
 | mk {n j:Nat} {rs:List (List Int)} {k:List Int}:σ[n]?=some (.list (rs.map fun r=>.tup (r.map .int)))→rs[j]?=some k→k∉rs.take j→Q (.int j) σ→IdxK σ Q (.ref n) (.tup (k.map .int))
inductive AttrK (σ:AB) (Q:AN) (C:Addr) (x:Str):V→Prop
 | mk {n m:Nat} {fs:List (Str × V)} {v:V}:σ[n]?=some (.inst C m)→σ[m]?=some (.ns fs)→fs.lookup x=some v→Q v σ→AttrK σ Q C x (.ref n)
noncomputable def Ou (σ:AB) (C:Addr) (x:Str) (v:V):Prop:=∃ n m fs,v=.ref n∧σ[n]?=some (.inst C m)∧σ[m]?=some (.ns fs)∧fs.lookup x=none
inductive PutK (σ:AB) (K:AB→Prop) (C:Addr) (x:Str) (v:V):V→Prop
 | mk {n m:Nat} {fs:List (Str × V)}:σ[n]?=some (.inst C m)→σ[m]?=some (.ns fs)→m≠0→fs.length≤8→K (σ.set m (.ns (put x v fs)))→PutK σ K C x v (.ref n)
inductive PopK (σ:AB) (Q:AN):V→V→Prop
 | mk {n ep:Nat} {kvs:List (Str × V)} {k:Str} {v:V}:σ[n]?=some (.dict ep kvs)→n≠0→kvs.lookup k=some v→(∀ ep',Q v (σ.set n (.dict ep' (del k kvs))))→PopK σ Q (.ref n) (.str k)
noncomputable def dfK (p:Prop):V→Prop
 | .undef=>False
 | _=>p
noncomputable def Ui (K:V→Prop):Option V→Prop
 | some v=>dfK (K v) v
 | Option.none=>False
noncomputable def Uk (K:V→Prop):Option V→Prop
 | some v=>K v
 | Option.none=>False
noncomputable def brW (A B:Prop):Bool→Prop
 | true=>A
 | false=>B
noncomputable def brD (d b:Bool) (A B:Prop):Prop:=match d with
 | true=>brW A B b
 | false=>brW B A b
noncomputable def U3 (σ:AB) (Q:AN) (a b:Int):BOp→Prop
 | .add=>Q (.int (a+b)) σ
 | .sub=>Q (.int (a - b)) σ
 | op=>BinK σ Q op (.int a) (.int b)
noncomputable def VO (σ:AB) (Q:AN) (op:BOp) (a:Int):V→Prop
 | .int b=>U3 σ Q a b op
 | y=>BinK σ Q op (.int a) y
noncomputable def Sd (σ:AB) (Q:AN) (op:BOp) (y:V):V→Prop
 | .int a=>VO σ Q op a y
 | x=>BinK σ Q op x y
noncomputable def T5 (σ:AB) (Q:AN):V→Prop
 | .int i=>Q (.int (-i)) σ
 | _=>False
noncomputable def P7 (σ:AB) (K:Bool→Prop):V→Prop
 | .none=>K false
 | .bool b=>K b
 | .int i=>K (i != 0)
 | v=>TruK σ K v
noncomputable def VP (σ:AB) (K:Bool→Prop) (a b:Int):CmpOp→Prop
 | .Eq=>K (decide (a=b))
 | .NotEq=>K (!decide (a=b))
 | .Lt=>K (decide (a<b))
 | .LtE=>K (decide (a≤b))
 | .Gt=>K (decide (a > b))
 | .GtE=>K (decide (a ≥ b))
 | op=>CmpK σ K op (.int a) (.int b)
noncomputable def Uz (σ:AB) (K:Bool→Prop) (x:V):CmpOp→Prop
 | .Is=>K (isNone x)
 | .IsNot=>K (!isNone x)
 | op=>CmpK σ K op x .none
noncomputable def VD (σ:AB) (K:Bool→Prop) (a b:Bool):CmpOp→Prop
 | .Eq=>K (a==b)
 | .NotEq=>K (!(a==b))
 | op=>CmpK σ K op (.bool a) (.bool b)
noncomputable def Uw (σ:AB) (K:Bool→Prop) (op:CmpOp) (b:Int):V→Prop
 | .int a=>VP σ K a b op
 | x=>CmpK σ K op x (.int b)
noncomputable def U7 (σ:AB) (K:Bool→Prop) (op:CmpOp) (b:Bool):V→Prop
 | .bool a=>VD σ K a b op
 | x=>CmpK σ K op x (.bool b)
noncomputable def PC (σ:AB) (K:Bool→Prop) (op:CmpOp) (x:V):V→Prop
 | .int b=>Uw σ K op b x
 | .none=>Uz σ K x op
 | .bool b=>U7 σ K op b x
 | y=>CmpK σ K op x y
noncomputable def Ue (σ:AB) (Q:AN) (vs:List V) (j:Nat):Bool→Prop
 | true=>Uk (fun v=>Q v σ) vs[j]?
 | false=>SubK σ Q (.tup vs) (.int (.ofNat j))
noncomputable def Uv (σ:AB) (Q:AN) (vs:List V):Int→Prop
 | .ofNat j=>Ue σ Q vs j (Nat.ble j 1000000)
 | k=>SubK σ Q (.tup vs) (.int k)
noncomputable def U4 (σ:AB) (Q:AN) (vs:List V):V→Prop
 | .int k=>Uv σ Q vs k
 | y=>SubK σ Q (.tup vs) y
noncomputable def Sa (σ:AB) (Q:AN) (y:V):V→Prop
 | .tup vs=>U4 σ Q vs y
 | x=>SubK σ Q x y
noncomputable def P2 (K:List V→Prop):List Nat→List V→List V→Prop
 | [],[],ρ=>K ρ
 | p::ps,v::vs,ρ=>P2 K ps vs (ρ.set p v)
 | _,_,_=>False
noncomputable def T3 (σ:AB) (K:List V→Prop) (ρ:List V) (ps:List Nat):V→Prop
 | .tup vs=>P2 K ps vs ρ
 | v=>BindK σ K ρ (.tup ps) v
noncomputable def Jd (σ:AB) (K:List V→Prop) (ρ:List V) (v:V):Pat→Prop
 | .var i=>K (ρ.set i v)
 | .tup ps=>T3 σ K ρ ps v
noncomputable def B6:Ex:=fun _ _ σ Q _=>Q .none σ
noncomputable def BU (b:Bool):Ex:=fun _ _ σ Q _=>Q (.bool b) σ
noncomputable def AD (i:Int):Ex:=fun _ _ σ Q _=>Q (.int i) σ
noncomputable def Bc (s:Str):Ex:=fun _ _ σ Q _=>Q (.str s) σ
noncomputable def AA (i:Nat):Ex:=fun _ ρ σ Q _=>Ui (fun v=>Q v σ) ρ[i]?
noncomputable def AJ (op:BOp) (a b:Ex):Ex:=fun C ρ σ Q X=>a C ρ σ (fun x σ₁=>b C ρ σ₁ (fun y σ₂=>Sd σ₂ Q op y x) X) X
noncomputable def OZ (a:Ex):Ex:=fun C ρ σ Q X=>a C ρ σ (fun x σ₁=>T5 σ₁ Q x) X
noncomputable def SH (a:Ex):Ex:=fun C ρ σ Q X=>a C ρ σ (fun x σ₁=>P7 σ₁ (fun b=>Q (.bool (!b)) σ₁) x) X
noncomputable def evs (l:List Ex):Es:=List.rec (motive:=fun _=>Es) (fun _ _ σ Q _=>Q [] σ)
 (fun e _ ih C ρ σ Q X=>e C ρ σ (fun v σ₁=>ih C ρ σ₁ (fun vs σ₂=>Q (v::vs) σ₂) X) X) l
noncomputable def U9 (d:Bool) (e ih:Ex):List Ex→Ex
 | []=>e
 | _::_=>fun C ρ σ Q X=>e C ρ σ (fun v σ₁=>P7 σ₁ (fun b=>brD d b (ih C ρ σ₁ Q X) (Q v σ₁)) v) X
noncomputable def E5 (d:Bool) (l:List Ex):Ex:=List.rec (motive:=fun _=>Ex) (fun _ _ _ _ _=>False) (fun e es ih=>U9 d e ih es) l
noncomputable def S0 (op:CmpOp) (ih:List Ex→V→Tx):List CmpOp→List Ex→V→Tx
 | [],[r],x=>fun C ρ σ Q X=>r C ρ σ (fun y σ₁=>PC σ₁ (fun b=>Q b σ₁) op x y) X
 | _::_,r::r'::rs,x=>fun C ρ σ Q X=>r C ρ σ (fun y σ₁=>PC σ₁ (fun b=>brW (ih (r'::rs) y C ρ σ₁ Q X) (Q false σ₁) b) op x y) X
 | _,_,_=>fun _ _ _ _ _=>False
noncomputable def R2 (ops:List CmpOp):List Ex→V→Tx:=List.rec (motive:=fun _=>List Ex→V→Tx) (fun _ _ _ _ _ _ _=>False) (fun op ops ih=>S0 op ih ops) ops
noncomputable def AU (l:Ex) (ops:List CmpOp) (rs:List Ex):Tx:=fun C ρ σ Q X=>l C ρ σ (fun x σ₁=>R2 ops rs x C ρ σ₁ Q X) X
noncomputable def xOf (t:Tx):Ex:=fun C ρ σ Q X=>t C ρ σ (fun b σ₁=>Q (.bool b) σ₁) X
noncomputable def BF (es:List Ex):Ex:=fun C ρ σ Q X=>evs es C ρ σ (fun vs σ₁=>Q (.tup vs) σ₁) X
noncomputable def A4 (es:List Ex):Ex:=fun C ρ σ Q X=>evs es C ρ σ (fun vs σ₁=>Q (.ref σ₁.length) (σ₁++[.list vs])) X
noncomputable def AL (a i:Ex):Ex:=fun C ρ σ Q X=>a C ρ σ (fun x σ₁=>i C ρ σ₁ (fun y σ₂=>Sa σ₂ Q y x) X) X
noncomputable def evo:Option Ex→CA→List V→AB→(Option V→AB→Prop)→Ac→Prop
 | Option.none=>fun _ _ σ Q _=>Q Option.none σ
 | some e=>fun C ρ σ Q X=>e C ρ σ (fun v σ₁=>Q (some v) σ₁) X
noncomputable def DO (a:Ex) (lo hi:Option Ex):Ex:=fun C ρ σ Q X=>a C ρ σ (fun x σ₁=>evo lo C ρ σ₁ (fun y σ₂=>evo hi C ρ σ₂ (fun z σ₃=>SliceK σ₃ Q x y z) X) X) X
noncomputable def AS (f:Nat) (es:List Ex):Ex:=fun C ρ σ Q X=>evs es C ρ σ (fun vs σ₁=>C f vs σ₁ Q X) X
noncomputable def Ax (p:Pr) (es:List Ex):Ex:=fun C ρ σ Q X=>evs es C ρ σ (fun vs σ₁=>PrimK σ₁ Q p vs) X
noncomputable def HA (o x:Ex):Ex:=fun C ρ σ Q X=>o C ρ σ (fun v σ₁=>isList σ₁ v∧x C ρ σ₁ (fun u σ₂=>AppK σ₂ Q u v) X) X
noncomputable def TY (o x:Ex):Ex:=fun C ρ σ Q X=>o C ρ σ (fun v σ₁=>isList σ₁ v∧x C ρ σ₁ (fun u σ₂=>ExtK σ₂ Q v u) X) X
noncomputable def Ee (u:Bool) (a:Ex):Ex:=fun C ρ σ Q X=>a C ρ σ (fun v σ₁=>SortK σ₁ Q u v) X
noncomputable def As (c:Addr) (x:Str) (a:Ex):Ex:=fun C ρ σ Q X=>a C ρ σ (fun v σ₁=>AttrK σ₁ Q c x v) X
noncomputable def Au (c:Addr) (x:Str) (f:Nat) (a:Ex) (es:List Ex):Ex:=fun C ρ σ Q X=>a C ρ σ (fun v σ₁=>Ou σ₁ c x v∧evs es C ρ σ₁ (fun vs σ₂=>C f (v::vs) σ₂ Q X) X) X
noncomputable def Qh (c:Addr) (f:Nat) (es:List Ex):Ex:=fun C ρ σ Q X=>evs es C ρ σ (fun vs σ₁=>C f (.ref (σ₁.length+1)::vs) (σ₁++[.ns [],.inst c σ₁.length]) (fun r σ₂=>r=.none∧Q (.ref (σ₁.length+1)) σ₂) X) X
noncomputable def J2:Ex:=fun _ _ σ Q _=>Q (.ref σ.length) (σ++[.dict 0 []])
noncomputable def Q9 (a k:Ex):Ex:=fun C ρ σ Q X=>a C ρ σ (fun v σ₁=>(∃ n ep kvs,v=.ref n∧σ₁[n]?=some (.dict ep kvs))∧k C ρ σ₁ (fun u σ₂=>PopK σ₂ Q v u) X) X
noncomputable def Q3 (a k d:Ex):Ex:=fun C ρ σ Q X=>a C ρ σ (fun v σ₁=>(∃ n m f,v=.ref n∧FT σ₁ n m f)∧k C ρ σ₁ (fun u σ₂=>d C ρ σ₂ (fun w σ₃=>GetK σ₃ Q w v u) X) X) X
noncomputable def TB (a k:Ex):Ex:=fun C ρ σ Q X=>a C ρ σ (fun v σ₁=>isList σ₁ v∧k C ρ σ₁ (fun u σ₂=>IdxK σ₂ Q v u) X) X
noncomputable def TabW (P:Addr) (q:Str) (ln col:Int) (σ:AB) (K:Nat→AB→Prop):Prop:=
 (σ[1]?=some (.tab P)∧K σ.length (σ.set 1 (.row P ln col σ.length)++[.code q]))∨∃ m,σ[1]?=some (.row P ln col m)∧σ[m]?=some (.code q)∧K m σ
inductive KeySrc (σ:AB):V→List V→Prop
 | dict {n ep:Nat} {kvs:List (Str × V)}:n≠1→σ[n]?=some (.dict ep kvs)→KeySrc σ (.ref n) (kvs.map fun p=>.str p.1)
noncomputable def HZ (turn:V→AB→AN→Prop):List V→List V→AB→(List V→AB→Prop)→Prop
 | [],acc,σ,Q=>Q acc σ
 | v::vs,acc,σ,Q=>turn v σ fun u σ'=>HZ turn vs (acc++[u]) σ' Q
noncomputable def B7 (ks:List (List Int)) (i j:Nat):Prop:=Ah (ks.getD i []) (ks.getD j [])=true∨(Ah (ks.getD j []) (ks.getD i [])=false∧i<j)
noncomputable def noX:Ac:=fun _ _=>False
noncomputable def Bj (a:Ex):Tx:=fun C ρ σ Q X=>a C ρ σ (fun v σ₁=>P7 σ₁ (fun b=>Q b σ₁) v) X
noncomputable def CY (t:Tx):Tx:=fun C ρ σ Q X=>t C ρ σ (fun b σ₁=>Q (!b) σ₁) X
noncomputable def EC (l:List Tx):Tx:=List.rec (motive:=fun _=>Tx) (fun _ _ σ Q _=>Q true σ)
 (fun t _ ih C ρ σ Q X=>t C ρ σ (fun b σ₁=>brW (ih C ρ σ₁ Q X) (Q false σ₁) b) X) l
noncomputable def tOr (l:List Tx):Tx:=List.rec (motive:=fun _=>Tx) (fun _ _ σ Q _=>Q false σ)
 (fun t _ ih C ρ σ Q X=>t C ρ σ (fun b σ₁=>brW (Q true σ₁) (ih C ρ σ₁ Q X) b) X) l
noncomputable def Ba (turn:V→AB→(Option V→AB→Prop)→Prop) (same:AB→Prop):List V→List V→AB→(List V→AB→Prop)→Prop
 | [],acc,σ,Q=>Q acc σ
 | v::vs,acc,σ,Q=>turn v σ fun r σ'=>same σ'∧Ba turn same vs (acc++r.toList) σ' Q
noncomputable def DW (C:CA) (elt:Ex) (i:Nat) (ifs:List Tx) (ρ:List V) (v:V) (σ:AB) (R:Option V→AB→Prop):Prop:=
 EC ifs C (ρ.set i v) σ (fun b σ₁=>brW (elt C (ρ.set i v) σ₁ (fun x σ₂=>R (some x) σ₂) noX) (R Option.none σ₁) b) noX
noncomputable def BA (elt:Ex) (i:Nat) (k:SrcT) (src:List Ex) (ifs:List Tx):Ex:=fun C ρ σ Q X=>evs src C ρ σ (fun vs σ₁=>∃ items same,SrcK σ₁ k vs items same∧items.length≤Ag ∧
 Ba (DW C elt i ifs ρ) same items [] σ₁ fun ys σ₂=>Q (.ref σ₂.length) (σ₂++[.list ys])) X
noncomputable def Ij (P:Addr) (q:Str) (ln col:Int) (a:Ex) (i:Nat) (b:Ex):Ex:=fun C ρ σ Q X=>a C ρ σ (fun v σ₁=>∃ items,KeySrc σ₁ v items∧items.length<64∧TabW P q ln col σ₁ fun m σ₂=>HZ (fun y σ R=>σ[m]?=some (.code q)∧b C (ρ.set i y) σ R noX) items [] σ₂ fun ks σ₃=>
 ∃ rs:List (List Int),ks=rs.map (fun r=>.tup (r.map .int))∧(∀ r∈rs,r≠[])∧∀ p:List Nat,p.Perm (List.range items.length)→p.Pairwise (B7 rs)→Q (.ref σ₃.length) (σ₃++[.list (p.map fun i=>items.getD i .none)])) X
noncomputable def A8 (e:Ex):Sx:=fun C ρ σ Q=>e C ρ σ (fun _ σ₁=>Q .next ρ σ₁) (fun c σ₁=>Q (.exc c) ρ σ₁)
noncomputable def AW (e:Ex):Sx:=fun C ρ σ Q=>e C ρ σ (fun v σ₁=>Q (.ret v) ρ σ₁) (fun c σ₁=>Q (.exc c) ρ σ₁)
noncomputable def R8:Sx:=fun _ ρ σ Q=>Q (.ret .none) ρ σ
noncomputable def R7:Sx:=fun _ ρ σ Q=>Q .next ρ σ
noncomputable def AP (p:Pat) (e:Ex):Sx:=fun C ρ σ Q=>e C ρ σ (fun v σ₁=>Jd σ₁ (fun ρ'=>Q .next ρ' σ₁) ρ v p) (fun c σ₁=>Q (.exc c) ρ σ₁)
noncomputable def SX:Sx:=fun _ _ _ _=>False
noncomputable def KK (c:Addr) (x:Str) (o e:Ex):Sx:=fun C ρ σ Q=>e C ρ σ (fun v σ₁=>o C ρ σ₁ (fun u σ₂=>PutK σ₂ (fun σ₃=>Q .next ρ σ₃) c x v u) (fun c σ₂=>Q (.exc c) ρ σ₂)) (fun c σ₁=>Q (.exc c) ρ σ₁)
noncomputable def Cr (k:Nat) (e:Ex):Sx:=fun C ρ σ Q=>e C ρ σ (fun _ σ₁=>Q (.exc k) ρ σ₁) (fun c σ₁=>Q (.exc c) ρ σ₁)
noncomputable def HO (o i e:Ex):Sx:=fun C ρ σ Q=>e C ρ σ (fun v σ₁=>o C ρ σ₁ (fun x σ₂=>i C ρ σ₂ (fun y σ₃=>SetK σ₃ (fun σ₄=>Q .next ρ σ₄) v x y) (fun c σ₃=>Q (.exc c) ρ σ₃)) (fun c σ₂=>Q (.exc c) ρ σ₂)) (fun c σ₁=>Q (.exc c) ρ σ₁)
noncomputable def TH (K:List V→AB→Prop) (Q:CU):CU
 | .next,ρ,σ=>K ρ σ
 | fl,ρ,σ=>Q fl ρ σ
noncomputable def BL (l:List Sx):Sx:=List.rec (motive:=fun _=>Sx) (fun _ ρ σ Q=>Q .next ρ σ) (fun s _ ih C ρ σ Q=>s C ρ σ (TH (fun ρ₁ σ₁=>ih C ρ₁ σ₁ Q) Q)) l
noncomputable def sIf (c:Tx) (b o:List Sx):Sx:=fun C ρ σ Q=>c C ρ σ (fun t σ₁=>brW (BL b C ρ σ₁ Q) (BL o C ρ σ₁ Q) t) (fun c σ₁=>Q (.exc c) ρ σ₁)
noncomputable def UJ:Option Nat→List V→List V
 | none,ρ=>ρ
 | some i,ρ=>ρ.set i .undef
noncomputable def UA (hs:List (List Nat × V × Option Nat)) (Q:CU):CU
 | .exc c,ρ,σ=>match hs.find? (fun h=>h.1.contains c) with
  | some h=>Q (.ret h.2.1) (UJ h.2.2 ρ) σ
  | none=>Q (.exc c) ρ σ
 | fl,ρ,σ=>Q fl ρ σ
noncomputable def Sj (b:List Sx) (hs:List (List Nat × V × Option Nat)):Sx:=fun C ρ σ Q=>BL b C ρ σ (UA hs Q)
noncomputable def Df (K:List V→AB→Prop) (Q:CU):CU
 | .next,ρ,σ=>K ρ σ
 | fl,ρ,σ=>Q fl ρ σ
noncomputable def Eo (turn:V→List V→AB→CU→Prop) (same:AB→Prop):List V→List V→AB→CU→Prop
 | [],ρ,σ,Q=>Q .next ρ σ
 | v::vs,ρ,σ,Q=>turn v ρ σ (Df (fun ρ' σ'=>same σ'∧Eo turn same vs ρ' σ' Q) Q)
noncomputable def Fh (C:CA) (p:Pat) (body:List Sx) (v:V) (ρ:List V) (σ:AB) (Q:CU):Prop:=Jd σ (fun ρ'=>BL body C ρ' σ Q) ρ v p
noncomputable def CH (p:Pat) (k:SrcT) (src:List Ex) (body:List Sx):Sx:=fun C ρ σ Q=>evs src C ρ σ (fun vs σ₁=>∃ items same,SrcK σ₁ k vs items same∧Eo (Fh C p body) same items ρ σ₁ Q) (fun c σ₁=>Q (.exc c) ρ σ₁)
noncomputable def Gb (C:CA) (t:Tx) (body:List Sx) (Q:CU):Nat→List V→AB→Prop
 | 0,_,_=>False
 | n+1,ρ,σ=>t C ρ σ (fun b σ₁=>brW (BL body C ρ σ₁ (Df (fun ρ' σ'=>Gb C t body Q n ρ' σ') Q)) (Q .next ρ σ₁) b) (fun c σ₁=>Q (.exc c) ρ σ₁)
noncomputable def IM (t:Tx) (body:List Sx):Sx:=fun C ρ σ Q=>∃ n,Gb C t body Q n ρ σ
structure Fn where
 params:Nat
 slots:Nat
 body:List Sx
noncomputable def Fu (Q:AN) (X:Ac):CU
 | .ret v,_,σ=>Q v σ
 | .next,_,σ=>Q .none σ
 | .exc c,_,σ=>X c σ
noncomputable def Pu (P:List Fn):Nat→CA
 | 0=>fun _ _ _ _ _=>False
 | d+1=>fun f args σ Q X=>∃ fn,P[f]?=some fn∧args.length=fn.params∧BL fn.body (Pu P d) (args++List.replicate (fn.slots - fn.params) V.undef) σ (Fu Q X)
@[irreducible] def callW (P:List Fn) (d:Nat):CA:=Pu P d
theorem Pp (h:Ui K o):∃ v,o=some v∧v≠.undef∧K v:=by
 cases o with
 | none=>exact h.elim
 | some v=>cases v with
  | undef=>exact h.elim
  | _=>exact ⟨_,rfl,nofun,h⟩
theorem SN (h:Sd σ Q op y x):BinK σ Q op x y:=by
 cases x with
 | int a=>cases y with
  | int b=>cases op with
   | add=>exact .add h
   | sub=>exact .sub h
   | _=>exact h
  | _=>exact h
 | _=>exact h
theorem Nu (h:T5 σ Q x):∃ i,x=.int i∧Q (.int (-i)) σ:=by
 cases x with
 | int i=>exact ⟨i,rfl,h⟩
 | _=>exact h.elim
theorem S5 (h:P7 σ K v):TruK σ K v:=by
 cases v with
 | none=>exact .none h
 | bool b=>exact .bool h
 | int i=>exact .int h
 | _=>exact h
theorem Si (h:PC σ K op x y):CmpK σ K op x y:=by
 cases y with
 | int b=>cases x with
  | int a=>cases op with
   | Eq=>exact .eq (x:=.int a) (y:=.int b) rfl rfl rfl rfl h
   | NotEq=>exact .ne (x:=.int a) (y:=.int b) rfl rfl rfl rfl h
   | Lt=>exact .lt h
   | LtE=>exact .le h
   | Gt=>exact .gt h
   | GtE=>exact .ge h
   | _=>exact h
  | _=>exact h
 | none=>cases op with
  | Is=>exact .is h
  | IsNot=>exact .isnot h
  | _=>exact h
 | bool b=>cases x with
  | bool a=>cases op with
   | Eq=>exact .eq (x:=.bool a) (y:=.bool b) rfl rfl rfl rfl h
   | NotEq=>exact .ne (x:=.bool a) (y:=.bool b) rfl rfl rfl rfl h
   | _=>exact h
  | _=>exact h
 | _=>exact h
theorem SD (h:Sa σ Q y x):SubK σ Q x y:=by
 cases x with
 | tup vs=>cases y with
  | int k=>cases k with
   | ofNat j=>
    have h:Ue σ Q vs j (Nat.ble j 1000000):=h
    cases e:Nat.ble j 1000000 with
    | true=>
     rw [e] at h
     have h:Uk (fun v=>Q v σ) vs[j]?:=h
     cases g:vs[j]? with
     | none=>rw [g] at h;exact h.elim
     | some v=>
      rw [g] at h
      exact .tup (Bool.and_eq_true_iff.mpr ⟨decide_eq_true (Int.le_trans (by decide) (Int.natCast_nonneg j)),decide_eq_true (Int.lt_of_le_of_lt (Int.ofNat_le.mpr (Nat.le_of_ble_eq_true e)) (by decide))⟩) (.inl ⟨rfl,(List.getElem?_eq_some_iff.mp g).1⟩) g h
    | false=>rw [e] at h;exact h
   | negSucc j=>exact h
  | _=>exact h
 | _=>exact h
theorem HY:∀ {ps:List Nat} {vs ρ:List V},P2 K ps vs ρ→ps.length=vs.length∧K (GV ps vs ρ):=fun {ps}=>by
 induction ps with
 | nil=>intro vs ρ h;cases vs with
  | nil=>exact ⟨rfl,h⟩
  | cons _ _=>exact h.elim
 | cons p ps ih=>intro vs ρ h;cases vs with
  | nil=>exact h.elim
  | cons v vs=>exact ⟨congrArg (·+1) (ih h).1,(ih h).2⟩
theorem RY (h:Jd σ K ρ v p):BindK σ K ρ p v:=by
 cases p with
 | var i=>exact .var h
 | tup ps=>cases v with
  | tup vs=>exact .tup (HY h).1 (HY h).2
  | _=>exact h
theorem QH (h:brD d b A B):if b=d then A else B:=by cases d <;> cases b <;> exact h
theorem MI (h:callW P (d+1) f args σ Q X):∃ fn,P[f]?=some fn∧args.length=fn.params∧BL fn.body (callW P d) (args++List.replicate (fn.slots - fn.params) V.undef) σ (Fu Q X):=by
 with_unfolding_all exact h
theorem AM (h:P[f]?=some fn) (hl:args.length=fn.params) (q:BL fn.body (callW P d) (args++List.replicate (fn.slots - fn.params) V.undef) σ (Fu Q X)):callW P (d+1) f args σ Q X:=by
 with_unfolding_all exact (⟨fn,h,hl,q⟩:Pu P (d+1) f args σ Q X)
theorem OR (h:callW P 0 f args σ Q X):False:=by
 with_unfolding_all exact h
inductive Gl where
 | fn (i:Nat)
 | cls (C:Addr) (i:Nat)
 | exc (k:Nat) (kids:List Nat)
 | tabl (c P:Addr)
 | str (s:Str)
 | int (i:Int)
abbrev GlT:=List (Str × Gl)
abbrev Vs:=List (Str × Nat)
end Mine.Internal
namespace Mine.Internal
open PySem
theorem Hu:∀ a:List Int,Ah a a=false
 | []=>rfl
 | x::a=>by rw [Ah,if_pos rfl];exact Hu a
theorem HH:∀ a b:List Int,Ah a b=true→Ah b a=false
 | [],[],h=>by cases h
 | [],_::_,_=>rfl
 | _::_,[],h=>by cases h
 | x::a,y::b,h=>by
  rw [Ah] at h ⊢
  by_cases e:x=y
  ·rw [if_pos e] at h;rw [if_pos e.symm];exact HH a b h
  ·rw [if_neg e] at h;rw [if_neg (Ne.symm e)]
   simp only [decide_eq_true_eq] at h
   simp only [decide_eq_false_iff_not];exact ai2 .nlt .v0 .v1 (.t .v1 .v0 .e) rfl h
theorem HM:∀ a b c:List Int,Ah a c=true→Ah a b=true∨Ah b c=true
 | [],[],_,h=>.inr h
 | [],_::_,_,_=>.inl rfl
 | _::_,_,[],h=>by cases h
 | _::_,[],_::_,_=>.inr rfl
 | x::a,y::b,z::c,h=>by
  rw [Ah] at h
  rw [Ah,Ah]
  by_cases e:x=z
  ·rw [if_pos e] at h
   subst e
   by_cases e2:x=y
   ·subst e2
    rw [if_pos rfl,if_pos rfl];exact HM a b c h
   ·rw [if_neg e2,if_neg (Ne.symm e2)]
    simp only [decide_eq_true_eq];exact Classical.or_iff_not_imp_left.mpr fun z0=>Or.elim (Int.lt_or_gt_of_ne e2) (fun z1=>ai2 .lt .v0 .v1 (.w 2 (.o .v1 .v0 (.t .v1 .v0 .e))) rfl z0 z1) (fun z1=>ai2 .lt .v0 .v1 (.t .v0 .v1 .e) rfl z1)
  ·rw [if_neg e] at h
   simp only [decide_eq_true_eq] at h
   by_cases e2:x=y
   ·subst e2
    right;rw [if_neg e];simp only [decide_eq_true_eq];exact ai2 .lt .v0 .v1 (.t .v0 .v1 .e) rfl h
   ·by_cases e3:y=z
    ·left;rw [if_neg e2];simp only [decide_eq_true_eq];exact ai3 .lt .v0 .v1 (.t .v0 .v2 (.p .v1 .v2 .e)) rfl h e3
    ·rw [if_neg e2,if_neg e3];simp only [decide_eq_true_eq];exact Classical.or_iff_not_imp_left.mpr fun z0=>ai3 .lt .v0 .v1 (.o .v2 .v0 (.t .v2 .v1 .e)) rfl z0 h
end Mine.Internal
namespace Mine.Internal
open PySem PySem.Calls
set_option genSizeOf false
set_option genInjectivity false
structure Bs where
 heap:Heap
 prog:Program
 w:World
abbrev Bs.get? (b:Bs) (a:Addr):Option Obj:=b.heap.get? a
mutual
noncomputable def Rel (h:Heap) (φ:List Addr):V→Value→Prop
 | .undef,_=>False
 | .none,v=>v=.none
 | .bool b,v=>v=.bool b
 | .int i,v=>∃ t,v=.int i t
 | .str s,v=>∃ t,v=.str s t
 | .tup vs,v=>∃ a items n,v=.ref a∧h.get? a=some { cls:=.type "tuple", data:=.seq items n }∧RelL h φ vs items.toList
 | .ref n,v=>∃ a,v=.ref a∧φ[n]?=some a
noncomputable def RelL (h:Heap) (φ:List Addr):List V→List Value→Prop
 | [],[]=>True
 | V::Vs,v::vs=>Rel h φ V v∧RelL h φ Vs vs
 | _,_=>False
end
theorem A1:Rel h φ (.int i) (.int i t):=⟨t,rfl⟩
theorem B0:Rel h φ (.str x) (.str x t):=⟨t,rfl⟩
theorem Bb:Rel h φ (.bool b) (.bool b):=rfl
theorem Ci:Rel h φ .none .none:=rfl
noncomputable def RelP (h:Heap) (φ:List Addr) (kvs:List (Str × V)) (us:List (Str × Value)):Prop:=us.map (·.1)=kvs.map (·.1)∧RelL h φ (kvs.map (·.2)) (us.map (·.2))
noncomputable def AttrIs (h:Heap) (φ:List Addr):Option V→Option Value→Prop
 | some V,ov=>∃ v,ov=some v∧Rel h φ V v
 | none,ov=>ov=none
noncomputable def TupK (h:Heap) (ks:List Int) (a:Addr):Prop:=∃ items n,h.get? a=some { cls:=.type "tuple", data:=.seq items n }∧PyProof.Rows.IntsAre items.toList ks
abbrev tkd (h₀:Bs):HeapKind h₀.prog h₀.w (List Int):=tupleKind (intKind h₀.prog h₀.w)
noncomputable def T6 (h₀:Bs) (h:Heap) (a:Addr) (xs:List (List Int × Addr × Value)):Prop:=∃ o es ep,h.get? a=some o∧o.ExactDict∧o.data=.dict es ep∧es.toList=xs.map (entryOfKey (tkd h₀))
noncomputable def RelO (h₀:Bs) (h:Heap) (φ:List Addr):O→Addr→Prop
 | .list vs,a=>∃ items n,h.get? a=some { cls:=.type "list", data:=.seq items n }∧RelL h φ vs items.toList∧vs.length≤Bl
 | .tab P,a=>a=P∧h.get? a=some { cls:=.none,data:=.fields #[] }
 | .gone,a=>∃ us,h.get? a=some { cls:=.none,data:=.fields us }
 | .dict ep kvs,a=>∃ us,h.DictAt (strKind h₀.prog h₀.w) a us ep∧RelP h φ kvs us∧kvs.length≤Bl∧(a==sysModules)=false
 | .inst C m,a=>∃ dx,φ[m]?=some dx∧dx≠a∧∃ ob,h.get? a=some ob∧ob.cls=.ref C∧(∀ c,ob.data≠.cls c)∧ob.dict=some dx
 | .ns fs,a=>∃ m,h.Ns1 a m∧∀ y,AttrIs h φ (fs.lookup y) (m y)
 | .row P ln col m,a=>a=P∧∃ c,φ[m]?=some c∧h.get? a=some { cls:=.none,data:=.fields #[rawInt ln,rawInt col,.ref c] }
 | .code q,a=>∃ o vs t,h.get? a=some o∧o.data=.fields vs∧vs[1]?=some (.str q t)
 | .dictT n f,a=>∃ xs,T6 h₀ h a xs∧(xs.map (·.1)).Nodup∧(∀ x∈xs,TupK h x.1 x.2.1)∧(∀ k,AttrIs h φ (f k) ((atKey xs k).map (·.2)))∧xs.length≤n∧n≤Bl∧(a==sysModules)=false
structure Sim (h₀:Bs) (h:Heap) (φ:List Addr) (σ:AB):Prop where
 keep:∀ b o,h₀.get? b=some o→h.get? b=some o
 len:φ.length=σ.length
 nodup:φ.Nodup
 new:∀ (n:Nat) a,φ[n+1]?=some a→h₀.get? a=none
 obj:∀ (n:Nat) o,σ[n]?=some o→∃ a,φ[n]?=some a∧RelO h₀ h φ o a
noncomputable def Lk (o o':Obj):Prop:=∃ sl,o'={ o with slots:=sl }∧((∀ es ep,o.data≠.dict es ep)→sl=o.slots)
theorem Lk.refl (o:Obj):Lk o o:=⟨o.slots,rfl,fun _=>rfl⟩
theorem Lk.trans (x:Lk o o₁) (y:Lk o₁ o₂):Lk o o₂:=AC x fun sl e k=>AC y fun sl' e' k'=>by subst e e';exact ⟨sl',rfl,fun n=>(k' n).trans (k n)⟩
theorem Lk.same (x:Lk o o') (n:∀ es ep,o.data≠.dict es ep):o'=o:=by refine AC x fun _ e k=>?_;exact e.trans (by rw [k n])
theorem Lk.data (x:Lk o o'):o'.data=o.data:=by refine AC x fun _ e _=>?_;exact by rw [e]
noncomputable def U5 (φ:List Addr) (own:Addr→Prop) (h h':Heap):Prop:=∀ b o,b∉φ→¬ own b→h.get? b=some o→∃ o',h'.get? b=some o'∧Lk o o'
noncomputable def AO:Addr→Prop:=fun _=>False
noncomputable def A5 (h:Heap) (a:Addr):Prop:=∀ items n,h.get? a≠some { cls:=.type "tuple", data:=.seq items n }
theorem noTup (e:h.get? a=some o) (k:o.cls≠.type "tuple"):A5 h a:=fun _ _ e'=>by
 rw [e] at e';cases e';exact k rfl
theorem Ix (e:h.get? a=some o) (k:∀ items n,o.data≠.seq items n):A5 h a:=fun _ _ e'=>by
 rw [e] at e';cases e';exact k _ _ rfl
theorem RelL.nil:RelL h φ [] []:=trivial
theorem RelL.length {Vs:List V}:∀ {vs:List Value},RelL h φ Vs vs→Vs.length=vs.length:=by
 induction Vs with
 | nil=>intro vs r;cases vs with
  | nil=>rfl
  | cons _ _=>exact r.elim
 | cons V Vs ih=>intro vs r;cases vs with
  | nil=>exact r.elim
  | cons v vs=>exact congrArg (·+1) (ih r.2)
theorem RelL.one {V:V} (r:RelL h φ [V] vs):∃ v,vs=[v]∧Rel h φ V v:=by
 cases vs with
 | nil=>exact r.elim
 | cons v vs=>cases vs with
  | nil=>exact ⟨v,rfl,r.1⟩
  | cons _ _=>exact r.2.elim
theorem RelL.two {V W:Mine.Internal.V} (r:RelL h φ [V,W] vs):∃ v u,vs=[v,u]∧Rel h φ V v∧Rel h φ W u:=by
 cases vs with
 | nil=>exact r.elim
 | cons v vs=>refine AC (RelL.one (vs:=vs) r.2) fun u e r'=>?_;exact ⟨v,u,congrArg (v::·) e,r.1,r'⟩
theorem RelL.get {Vs:List V}:∀ {vs:List Value} {i:Nat} {V:V},RelL h φ Vs vs→Vs[i]?=some V→∃ v,vs[i]?=some v∧Rel h φ V v:=by
 induction Vs with
 | nil=>intro vs i V _ e;exact absurd e.symm (Option.some_ne_none V)
 | cons V Vs ih=>intro vs i W r e;cases vs with
  | nil=>exact r.elim
  | cons v vs=>cases i with
   | zero=>exact ⟨v,rfl,Option.some.inj e▸r.1⟩
   | succ i=>exact ih (i:=i) r.2 e
theorem RelL.append {Vs Ws:List V}:∀ {vs:List Value},RelL h φ Vs vs→RelL h φ Ws ws→RelL h φ (Vs++Ws) (vs++ws):=by
 induction Vs with
 | nil=>intro vs r y;cases vs with
  | nil=>exact y
  | cons _ _=>exact r.elim
 | cons V Vs ih=>intro vs r y;cases vs with
  | nil=>exact r.elim
  | cons v vs=>exact ⟨r.1,ih r.2 y⟩
section
variable {h h':Heap} {φ φ':List Addr}
theorem Bt {α:Type} {l l':List α} (h:l<+:l') {n:Nat} {a:α} (e:l[n]?=some a):l'[n]?=some a:=
 List.IsPrefix.getElem?_eq_some h e
where
 List.IsPrefix.getElem?_eq_some {l l':List α} (h:l<+:l') {n:Nat} {a:α} (e:l[n]?=some a):l'[n]?=some a:=by
  refine AQ h fun t ze1=>?_;subst ze1
  rw [List.getElem?_append_left (List.getElem?_eq_some_iff.mp e).1];exact e
mutual
theorem Rel.keep (k:∀ b items n,h.get? b=some { cls:=.type "tuple", data:=.seq items n }→h'.get? b=some { cls:=.type "tuple", data:=.seq items n }) (hp:φ<+:φ'):∀ (V:V) (v:Value),Rel h φ V v→Rel h' φ' V v
 | .undef,_,x=>x
 | .none,_,x=>x
 | .bool _,_,x=>x
 | .int _,_,x=>x
 | .str _,_,x=>x
 | .tup Vs,_,⟨a,items,n,e,g,r⟩=>⟨a,items,n,e,k a items n g,RelL.keep k hp Vs _ r⟩
 | .ref _,_,⟨a,e,g⟩=>⟨a,e,Bt hp g⟩
theorem RelL.keep (k:∀ b items n,h.get? b=some { cls:=.type "tuple", data:=.seq items n }→h'.get? b=some { cls:=.type "tuple", data:=.seq items n }) (hp:φ<+:φ'):∀ (Vs:List V) (vs:List Value),RelL h φ Vs vs→RelL h' φ' Vs vs
 | [],[],_=>trivial
 | V::Vs,v::vs,x=>⟨Rel.keep k hp V v x.1,RelL.keep k hp Vs vs x.2⟩
 | [],_::_,x=>x
 | _::_,[],x=>x
end
end
theorem RelP.keep (hp:φ<+:φ') (kt:∀ b items n,h.get? b=some { cls:=.type "tuple", data:=.seq items n }→h'.get? b=some { cls:=.type "tuple", data:=.seq items n }) (x:RelP h φ kvs us):RelP h' φ' kvs us:=⟨x.1,RelL.keep kt hp _ _ x.2⟩
theorem AttrIs.keep (hp:φ<+:φ') (kt:∀ b items n,h.get? b=some { cls:=.type "tuple", data:=.seq items n }→h'.get? b=some { cls:=.type "tuple", data:=.seq items n }) (x:AttrIs h φ o ov):AttrIs h' φ' o ov:=by
 cases o with
 | some V=>exact AC x fun v e r=>⟨v,e,Rel.keep kt hp _ _ r⟩
 | none=>exact x
theorem RelO.keep (hp:φ<+:φ') (kt:∀ b items n,h.get? b=some { cls:=.type "tuple", data:=.seq items n }→h'.get? b=some { cls:=.type "tuple", data:=.seq items n }) (k:∀ ob,h.get? a=some ob→h'.get? a=some ob) (x:RelO h₀ h φ o a):RelO h₀ h' φ' o a:=by
 cases o with
 | list _=>refine A0 x fun items n e r z=>?_;exact ⟨items,n,k _ e,RelL.keep kt hp _ _ r,z⟩
 | tab _=>exact ⟨x.1,k _ x.2⟩
 | gone=>refine AQ x fun us e=>?_;exact ⟨us,k _ e⟩
 | dict _ _=>refine Ab x fun us zt1 r z=>CD zt1 fun o es e q=>?_;exact ⟨us,⟨o,es,k _ e,q⟩,r.keep hp kt,z⟩
 | inst _ _=>refine Jx x fun dx e n ob g q=>?_;exact ⟨dx,Bt hp e,n,ob,k _ g,q⟩
 | ns _=>refine AC x fun m n r=>?_;exact ⟨m,n.at k,fun y=>(r y).keep hp kt⟩
 | row _ _ _ _=>refine CM x fun e c e1 e2=>?_;exact ⟨e,c,Bt hp e1,k _ e2⟩
 | code _=>refine Cu x fun o vs t e r=>?_;exact ⟨o,vs,t,k _ e,r⟩
 | dictT _ _=>
  refine Bu x fun xs zt1 nd tk at_ z=>Cu zt1 fun o es ep e q=>?_
  exact ⟨xs,⟨o,es,ep,k _ e,q⟩,nd,fun y m=>by refine CD (tk y m) fun it n e i=>?_;exact ⟨it,n,kt _ _ _ e,i⟩,fun y=>(at_ y).keep hp kt,z⟩
theorem BO:Value.type "list"≠Value.type "tuple":=by simp
inductive There (h:Heap) (a:Addr):Prop
 | mk (ob:Obj):h.get? a=some ob→(∀ items n,ob≠{ cls:=.type "tuple", data:=.seq items n })→(∀ us n,ob.data=.fields us→ob.cls=.type n→∃ x t,us[1]?=some (.str x t))→There h a
theorem RelO.there (x:RelO h₀ h φ o a):There h a:=by
 cases o with
 | list _=>refine CD x fun it n e r=>?_;exact .mk _ e (fun u v q=>BO (congrArg Obj.cls q)) nofun
 | tab _=>exact .mk _ x.2 nofun nofun
 | gone=>refine AQ x fun us e=>?_;exact .mk _ e nofun nofun
 | dict _ _=>refine AC x fun us zt1 r=>BN zt1 fun o es e c d q=>?_;exact .mk _ e (fun u v q=>nomatch d.symm.trans (congrArg Obj.data q)) fun u v e'=>nomatch d.symm.trans e'
 | inst _ _=>refine NU x fun dx e0 n ob e q r=>?_;exact .mk _ e (fun u v q'=>nomatch q.symm.trans (congrArg Obj.cls q')) fun u v w q'=>nomatch q.symm.trans q'
 | ns _=>refine AC x fun m zt1 r=>Af zt1 fun o es ep e d q=>?_;exact .mk _ e (fun u v q=>nomatch d.symm.trans (congrArg Obj.data q)) fun u v e'=>nomatch d.symm.trans e'
 | row _ _ _ _=>refine CM x fun e0 c e1 e=>?_;exact .mk _ e nofun nofun
 | code _=>refine Af x fun o vs t e d q=>?_;exact .mk _ e (fun u v q=>nomatch d.symm.trans (congrArg Obj.data q)) fun us n e' z=>⟨_,t,by cases d.symm.trans e';exact q⟩
 | dictT _ _=>refine AC x fun xs zt1 r=>CC zt1 fun o es ep e c d q=>?_;exact .mk _ e (fun u v q=>nomatch d.symm.trans (congrArg Obj.data q)) fun u v e'=>nomatch d.symm.trans e'
theorem BX {h:Heap} {a:Addr} (l:h.objs.size≤a):h.get? a=none:=by
 cases e:h.get? a with
 | none=>rfl
 | some o=>exact absurd (Heap.lt_size e) (Nat.not_lt.mpr l)
theorem Sim.at (x:Sim h₀ h φ σ) (m:a∈φ):There h a:=by
 obtain ⟨n,hn,rfl⟩:=List.mem_iff_getElem.mp m
 have hs:n<σ.length:=x.len▸hn
 refine AC (x.obj n σ[n] (List.getElem?_eq_getElem hs)) fun a e r=>?_
 rw [List.getElem?_eq_getElem hn] at e
 exact Option.some.inj e▸r.there
theorem Sim.noTup (x:Sim h₀ h φ σ) (m:a∈φ):A5 h a:=
 (x.at m).casesOn fun _ e k _=>fun items n e'=>k items n (Option.some.inj (e.symm.trans e'))
theorem Sim.out (x:Sim h₀ h φ σ) (n:h.get? a=none):a∉φ:=fun m=>
 (x.at m).casesOn fun _ e _ _=>HI (n.symm.trans e)
theorem Sim.none₀ (x:Sim h₀ h φ σ) (n:h.get? a=none):h₀.get? a=none:=by
 cases e:h₀.get? a with
 | none=>rfl
 | some o=>have:=x.keep a o e;rw [n] at this;cases this
theorem Sim.keeps {own:Addr→Prop} (x:Sim h₀ h φ σ) (k:∀ b o,¬ own b→h.get? b=some o→h'.get? b=some o)
  (ho:∀ a,own a→A5 h a∧a∉φ∧h₀.get? a=none):Sim h₀ h' φ σ where
 keep b o e:=k b o (fun m=>by rw [(ho b m).2.2] at e;cases e) (x.keep b o e)
 len:=x.len
 nodup:=x.nodup
 new:=x.new
 obj n o e:=by refine AC (x.obj n o e) fun a g r=>?_;exact ⟨a,g,r.keep (List.prefix_refl _) (fun b items n e=>k b _ (fun m=>(ho b m).1 items n e) e) fun ob=>k a ob fun m=>(ho a m).2.1 (List.mem_of_getElem? g)⟩
theorem Be {α:Type} {l:List α} {a b:α} (h:b∈l++[a]):b∈l∨b=a:=(List.mem_append.mp h).imp id List.mem_singleton.mp
theorem Sim.add (x:Sim h₀ h φ σ) (hn:a∉φ) (h0:h₀.get? a=none) (r:RelO h₀ h φ o a):Sim h₀ h (φ++[a]) (σ++[o]) where
 keep:=x.keep
 len:=by rw [List.length_append,List.length_append,x.len];rfl
 nodup:=List.nodup_append.mpr ⟨x.nodup,List.nodup_cons.mpr ⟨List.not_mem_nil,List.nodup_nil⟩,fun b hb c hc e=>hn (List.mem_singleton.mp hc▸e▸hb)⟩
 new m b hb:=by
  refine Or.elim (Nat.lt_or_ge (m+1) φ.length) (fun hlt=>?_) (fun hge=>?_)
  ·rw [List.getElem?_append_left hlt] at hb;exact x.new m b hb
  ·rw [List.getElem?_append_right hge] at hb
   exact List.mem_singleton.mp (List.mem_of_getElem? hb)▸h0
 obj n ob e:=by
  have kp:∀ {ob b},RelO h₀ h φ ob b→RelO h₀ h (φ++[a]) ob b:=fun r=>r.keep (List.prefix_append _ _) (fun _ _ _ e=>e) fun _ e=>e
  refine Or.elim (Nat.lt_or_ge n σ.length) (fun hlt=>?_) (fun hge=>?_)
  ·rw [List.getElem?_append_left hlt] at e
   refine AC (x.obj n ob e) fun b g r=>?_
   exact ⟨b,Bt (List.prefix_append _ _) g,kp r⟩
  ·rw [List.getElem?_append_right hge] at e
   have:n=φ.length:=by
    have:=(List.getElem?_eq_some_iff.mp e).1
    rw [x.len];exact Nat.le_antisymm (by rw [List.length_singleton] at this;exact Nat.le_of_sub_eq_zero (Nat.lt_one_iff.mp this)) hge
   refine ⟨a,by rw [this];exact List.getElem?_concat_length,kp ?_⟩
   exact List.mem_singleton.mp (List.mem_of_getElem? e)▸r
structure Cf (h₀:Bs) where
 s:Shared
 φ:List Addr
 σ:AB
 sim:Sim h₀ s.heap φ σ
section
variable {h₀:Bs}
structure WStp (own:Addr→Prop) (c c':Cf h₀):Prop where
 only:c'.s.os=c.s.os∧c'.s.gens=c.s.gens
 pre:c.φ<+:c'.φ
 keep:U5 c.φ own c.s.heap c'.s.heap
 fresh:∀ a∈c'.φ,a∈c.φ∨c.s.heap.get? a=none
structure Stp (own:Addr→Prop) (c c':Cf h₀):Prop extends WStp own c c' where
 pres:∀ b o,c.s.heap.get? b=some o→∃ o',c'.s.heap.get? b=some o'
theorem Stp.refl (c:Cf h₀):Stp own c c:=⟨⟨⟨rfl,rfl⟩,List.prefix_refl _,fun _ o _ _ e=>⟨o,e,.refl o⟩,fun _ m=>.inl m⟩,fun _ o e=>⟨o,e⟩⟩
theorem Stp.gone (x:Stp own c c') (e:c'.s.heap.get? a=none):c.s.heap.get? a=none:=by
 cases q:c.s.heap.get? a with
 | none=>rfl
 | some o=>refine AQ (x.pres a o q) fun o' e'=>?_;rw [e] at e';cases e'
theorem WStp.out (x:WStp own c c') (e:c.s.heap.get? a=some o) (n:a∉c.φ):a∉c'.φ:=fun m=>(x.fresh a m).elim n fun e'=>by rw [e] at e';cases e'
theorem Stp.trans (x:Stp own c c₁) (y:Stp own c₁ c₂):Stp own c c₂ where
 only:=⟨y.only.1.trans x.only.1,y.only.2.trans x.only.2⟩
 pre:=x.pre.trans y.pre
 keep b o h1 h2 e:=by refine AC (x.keep b o h1 h2 e) fun _ e1 k1=>?_;exact let ⟨o₂,e2,k2⟩:=y.keep b _ (x.out e h1) h2 e1;⟨o₂,e2,k1.trans k2⟩
 fresh a m:=(y.fresh a m).elim (x.fresh a) fun e=>.inr (x.gone e)
 pres b o e:=by refine AQ (x.pres b o e) fun o' e'=>?_;exact y.pres b o' e'
theorem Stp.transNew (x:Stp own c c₁) (y:WStp own' c₁ c₂) (h:∀ b,own' b→c.s.heap.get? b=none):Stp own c c₂ where
 only:=⟨y.only.1.trans x.only.1,y.only.2.trans x.only.2⟩
 pre:=x.pre.trans y.pre
 keep b o h1 h2 e:=by refine AC (x.keep b o h1 h2 e) fun _ e1 k1=>?_;exact AC (y.keep b _ (x.out e h1) (fun m=>HI ((h b m).symm.trans e)) e1) fun o₂ e2 k2=>⟨o₂,e2,k1.trans k2⟩
 fresh a m:=(y.fresh a m).elim (x.fresh a) fun e=>.inr (x.gone e)
 pres b o e:=by refine AQ (x.pres b o e) fun o' e'=>?_;exact (Classical.em (b∈c₁.φ)).elim (fun m=>(c₂.sim.at (y.pre.subset m)).casesOn fun ob e _ _=>⟨ob,e⟩) fun m=>AC (y.keep b o' m (fun m=>HI ((h b m).symm.trans e)) e') fun o₂ e2 _=>⟨o₂,e2⟩
theorem Stp.wider (x:Stp own c c') (h:∀ a,own a→own' a):Stp own' c c':=⟨⟨x.only,x.pre,fun b o h1 h2=>x.keep b o h1 fun m=>h2 (h b m),x.fresh⟩,x.pres⟩
theorem Stp.any (x:Stp AO c c'):Stp own c c':=x.wider fun _ f=>f.elim
noncomputable def Cf.keepOwn (c:Cf h₀) (s:Shared) {own:Addr→Prop} (k:∀ b o,¬ own b→c.s.heap.get? b=some o→s.heap.get? b=some o) (ho:∀ a,own a→A5 c.s.heap a∧a∉c.φ∧h₀.get? a=none):Cf h₀:=⟨s,c.φ,c.σ,c.sim.keeps k ho⟩
noncomputable def Cf.keep (c:Cf h₀) (s:Shared) (k:∀ b o,c.s.heap.get? b=some o→s.heap.get? b=some o):Cf h₀:=c.keepOwn s (own:=AO) (fun b o _ e=>k b o e) fun _ f=>f.elim
theorem Cf.keepOwn_stp {c:Cf h₀} {s:Shared} {own:Addr→Prop} {k:∀ b o,¬ own b→c.s.heap.get? b=some o→s.heap.get? b=some o} {ho:∀ a,own a→A5 c.s.heap a∧a∉c.φ∧h₀.get? a=none} (only:s.os=c.s.os∧s.gens=c.s.gens)
  (pres:∀ b o,own b→c.s.heap.get? b=some o→∃ o',s.heap.get? b=some o'):Stp own c (c.keepOwn s k ho):=
 ⟨⟨only,List.prefix_refl _,fun b o _ h e=>⟨o,k b o h e,.refl o⟩,fun _ m=>.inl m⟩,fun b o e=>(Classical.em (own b)).elim (fun h=>pres b o h e) fun h=>⟨o,k b o h e⟩⟩
theorem Cf.keep_stp {c:Cf h₀} {s:Shared} {k:∀ b o,c.s.heap.get? b=some o→s.heap.get? b=some o} (only:s.os=c.s.os∧s.gens=c.s.gens):Stp AO c (c.keep s k):=keepOwn_stp only fun _ _ f=>f.elim
theorem WStp.keepE (x:WStp own c c') (h1:b∉c.φ) (h2:¬ own b) (n:∀ es ep,o.data≠.dict es ep) (e:c.s.heap.get? b=some o):c'.s.heap.get? b=some o:=
 by refine AC (x.keep b o h1 h2 e) fun _ e' k=>?_;exact k.same n▸e'
theorem WStp.keepN (x:WStp own c c') (h1:b∉c.φ) (h2:¬ own b) (n:c.s.heap.Ns b m):c'.s.heap.Ns b m:=
 by refine Af n fun _ es ep e d q=>?_;exact let ⟨o',e',k⟩:=x.keep b _ h1 h2 e;⟨o',es,ep,e',k.data.trans d,q⟩
theorem WStp.keepC (x:WStp own c c') (h1:b∉c.φ) (h2:¬ own b) (n:c.s.heap.IsCell b v):c'.s.heap.IsCell b v:=
 by refine AC n fun _ e d=>?_;exact ⟨_,x.keepE h1 h2 (fun _ _ q=>nomatch d.symm.trans q) e,d⟩
theorem Rel.own {own:Addr→Prop} {V:V} (r:Rel c.s.heap c.φ V v) (x:WStp own c c') (ho:∀ a,own a→A5 c.s.heap a):Rel c'.s.heap c'.φ V v:=
 Rel.keep (fun b items n e=>x.keepE (fun m=>c.sim.noTup m items n e) (fun m=>ho b m items n e) nofun e) x.pre _ _ r
theorem RelL.own {own:Addr→Prop} {Vs:List V} (r:RelL c.s.heap c.φ Vs vs) (x:WStp own c c') (ho:∀ a,own a→A5 c.s.heap a):RelL c'.s.heap c'.φ Vs vs:=
 RelL.keep (fun b items n e=>x.keepE (fun m=>c.sim.noTup m items n e) (fun m=>ho b m items n e) nofun e) x.pre _ _ r
theorem Rel.step {V:V} (r:Rel c.s.heap c.φ V v) (x:Stp AO c c'):Rel c'.s.heap c'.φ V v:=r.own x.toWStp fun _ f=>f.elim
theorem RelL.step {Vs:List V} (r:RelL c.s.heap c.φ Vs vs) (x:Stp AO c c'):RelL c'.s.heap c'.φ Vs vs:=r.own x.toWStp fun _ f=>f.elim
theorem Ei {α β:Type} {f:α→β} {v:β} {P:β→Prop} (h:∃ t,v=f t) (k:∀ t,P (f t)):P v:=h.elim fun t e=>e▸k t
theorem Cf.list {c:Cf h₀} {n:Nat} {vs:List V} {v:Value} (e:c.σ[n]?=some (.list vs)) (r:Rel c.s.heap c.φ (.ref n) v) :
  ∃ a items k,v=.ref a∧c.φ[n]?=some a∧IsL c.s.heap a items k∧RelL c.s.heap c.φ vs items.toList∧vs.length≤Bl:=
 AC r fun _ ev ea=>AC (c.sim.obj n _ e) fun a' ea' ro=>A0 ro fun items k g rl z=>⟨a',items,k,ev.trans (congrArg Value.ref (Option.some.inj (ea.symm.trans ea'))),ea',g,rl,z⟩
theorem Cf.listE {c:Cf h₀} {n:Nat} {vs:List V} {v:Value} {P:Value→Prop} (e:c.σ[n]?=some (.list vs)) (r:Rel c.s.heap c.φ (.ref n) v)
  (k:∀ a items k,c.φ[n]?=some a→IsL c.s.heap a items k→RelL c.s.heap c.φ vs items.toList→vs.length≤Bl→P (.ref a)):P v:=
 Aw (Cf.list e r) fun a items j ze h1 h2 h3 h4=>ze▸k a items j h1 h2 h3 h4
end
structure Ctx where
 h₀:Bs
 C:CA
 d:Nat
 
 excs:List Nat
abbrev Ctx.prog (K:Ctx):Program:=K.h₀.prog
abbrev Ctx.w (K:Ctx):World:=K.h₀.w
abbrev Ctx.M (K:Ctx):Model:=model K.h₀.prog K.h₀.w
structure Loc where
 env:Env
 vs:Vs
 up:List Env
structure ROk (K:Ctx) (up:List Env) (A:Around):Prop where
 hd:A.handled=none
 depth:A.depth+3*K.d<902
 units:A.units+12*K.d<9006
 fr:A.frames=some up
inductive Exc (h:Heap) (a:Addr) (k:Nat):List Addr→Option Addr→Prop
 | new (oe:Obj) (vs:Array Value) (a0:Value):h.get? a=some oe→oe.cls=.ref k→oe.data=.fields vs→vs[0]?=some a0→vs[1]?=some .none→Exc h a k [a] none
 | seen (oe:Obj) (vs:Array Value) (a0:Value) (T:Addr) (oT:Obj) (ts:Array Value) (fl:Option Addr):h.get? a=some oe→oe.cls=.ref k→oe.data=.fields vs→vs[0]?=some a0→vs[1]?=some (.ref T)→T≠a →
   h.get? T=some oT→oT.data=.fields ts→ts[3]?=some (fl.elim .none fun f=>rawInt f)→Exc h a k [a,T] fl
theorem Exc.fields (x:Exc h a k fp fl):∀ b∈fp,∃ o us,h.get? b=some o∧o.data=.fields us:=by
 cases x with
 | new oe vs a0 e _ d=>intro b m;cases List.mem_singleton.mp m;exact ⟨_,_,e,d⟩
 | seen oe vs a0 T oT ts fl e _ d _ _ _ eT dT=>
  intro b m
  rcases List.mem_cons.mp m with rfl | m
  ·exact ⟨_,_,e,d⟩
  ·cases List.mem_singleton.mp m;exact ⟨_,_,eT,dT⟩
theorem Exc.mem (x:Exc h a k fp fl):a∈fp:=by cases x <;> exact List.mem_cons_self
section
variable {K:Ctx}
inductive PV (c:Cf K.h₀) (Q:AN) (v:Value):Shared→Prop
 | mk (c':Cf K.h₀) (V:V):Stp AO c c'→Rel c'.s.heap c'.φ V v→Q V c'.σ→PV c Q v c'.s
inductive PVs (c:Cf K.h₀) (Q:List V→AB→Prop) (vs:List Value):Shared→Prop
 | mk (c':Cf K.h₀) (Vs:List V):Stp AO c c'→RelL c'.s.heap c'.φ Vs vs→Q Vs c'.σ→PVs c Q vs c'.s
inductive PB (c:Cf K.h₀) (Q:Bool→AB→Prop) (b:Bool):Shared→Prop
 | mk (c':Cf K.h₀):Stp AO c c'→Q b c'.σ→PB c Q b c'.s
inductive PX (c:Cf K.h₀) (X:Ac):Value→Shared→Prop
 | mk (c':Cf K.h₀) (k:Nat) (a:Addr) (fp:List Addr):(∀ b∈fp,c.s.heap.get? b=none∧b∉c'.φ)→k∈K.excs→Stp AO c c'→Exc c'.s.heap a k fp none→X k c'.σ→PX c X (.ref a) c'.s
theorem PX.lift (x:Stp AO c₀ c) (y:PX c X e s'):PX c₀ X e s':=y.casesOn fun c' k a fp n hk st ex q=>.mk c' k a fp (fun b m=>⟨x.gone (n b m).1,(n b m).2⟩) hk (x.trans st) ex q
theorem PX.no (h:∀ k σ,¬ X k σ):¬ PX c X e s':=fun y=>y.casesOn fun _ _ _ _ _ _ _ _ q=>h _ _ q
variable {A:Around} {c₀ c:Cf K.h₀} {X:Ac}
theorem seq (st:Stp AO c₀ c) (h:wpAny K.M A m (PV c Q) (PX c X) c.s)
  (k:∀ (c₁:Cf K.h₀) (V:V) (v:Value),Stp AO c₀ c₁→Stp AO c c₁→Rel c₁.s.heap c₁.φ V v→Q V c₁.σ→P v c₁.s):wpAny K.M A m P (PX c₀ X) c.s:=
 wpAny_mono h (fun v _ y=>y.casesOn fun c₁ V s₁ r q=>k c₁ V v (st.trans s₁) s₁ r q) fun _ _ x=>x.lift st
theorem KH (st:Stp AO c₀ c) (h:wpAny K.M A m (PVs c Q) (PX c X) c.s)
  (k:∀ (c₁:Cf K.h₀) (Vs:List V) (vs:List Value),Stp AO c₀ c₁→Stp AO c c₁→RelL c₁.s.heap c₁.φ Vs vs→Q Vs c₁.σ→P vs c₁.s):wpAny K.M A m P (PX c₀ X) c.s:=
 wpAny_mono h (fun v _ y=>y.casesOn fun c₁ V s₁ r q=>k c₁ V v (st.trans s₁) s₁ r q) fun _ _ x=>x.lift st
theorem Na (st:Stp AO c₀ c) (h:wpAny K.M A m (PB c Q) (PX c X) c.s)
  (k:∀ (c₁:Cf K.h₀) (b:Bool),Stp AO c₀ c₁→Stp AO c c₁→Q b c₁.σ→P b c₁.s):wpAny K.M A m P (PX c₀ X) c.s:=
 wpAny_mono h (fun b _ y=>y.casesOn fun c₁ s₁ q=>k c₁ b (st.trans s₁) s₁ q) fun _ _ x=>x.lift st
theorem fin (st:Stp AO c₀ c) (h:wpAny K.M A m (PV c Q) (PX c X) c.s):wpAny K.M A m (PV c₀ Q) (PX c₀ X) c.s:=
 seq st h fun c₁ V _ s₁ _ r q=>.mk c₁ V s₁ r q
theorem Od (st:Stp AO c₀ c) (h:wpAny K.M A m (PB c Q) (PX c X) c.s):wpAny K.M A m (PB c₀ Q) (PX c₀ X) c.s:=
 Na st h fun c₁ _ s₁ _ q=>.mk c₁ s₁ q
theorem PV.lift (st:Stp AO c₀ c):PV c Q v s'→PV c₀ Q v s'
 | .mk c₁ V s₁ r q=>.mk c₁ V (st.trans s₁) r q
theorem PB.lift (st:Stp AO c₀ c):PB c Q b s'→PB c₀ Q b s'
 | .mk c₁ s₁ q=>.mk c₁ (st.trans s₁) q
noncomputable abbrev Cf.toks (c:Cf K.h₀) (tk:Nat):Cf K.h₀:=c.keep { c.s with toks:=tk } fun _ _ e=>e
theorem PV.plain {Q:AN} {V:V} {v:Value} {tk:Nat} (r:Rel c.s.heap c.φ V v) (q:Q V c.σ):PV c Q v { c.s with toks:=tk }:=PV.mk (c.toks tk) V (Cf.keep_stp ⟨rfl,rfl⟩) r q
theorem PV.same {V:V} (r:Rel c.s.heap c.φ V v) (q:Q V c.σ):PV c Q v c.s:=.mk c V (.refl c) r q
theorem PV.kept {Q:AN} {V:V} {v:Value} {h':Heap} {tk:Nat} (k:∀ b o,c.s.heap.get? b=some o→h'.get? b=some o) (r:Rel h' c.φ V v) (q:Q V c.σ):PV c Q v { c.s with heap:=h',toks:=tk }:=
 PV.mk (c.keep { c.s with heap:=h',toks:=tk } k) V (Cf.keep_stp ⟨rfl,rfl⟩) r q
theorem PW {h h':Heap} (k:∀ b o,h.get? b=some o→h'.get? b=some o):∀ b items n,h.get? b=some { cls:=.type "tuple", data:=.seq items n }→h'.get? b=some { cls:=.type "tuple", data:=.seq items n }:=fun b _ _ e=>k b _ e
noncomputable def Cf.add {h₀:Bs} (c:Cf h₀) {o:O} {a:Addr} {h':Heap} {tk:Nat} (k:∀ b ob,c.s.heap.get? b=some ob→h'.get? b=some ob) (n:c.s.heap.get? a=none) (r:RelO h₀ h' c.φ o a):Cf h₀:=
  ⟨{ c.s with heap:=h',toks:=tk },c.φ++[a],c.σ++[o],(c.keep { c.s with heap:=h',toks:=tk } k).sim.add (c.sim.out n) (c.sim.none₀ n) r⟩
theorem PV.new {tk:Nat} (k:∀ b ob,c.s.heap.get? b=some ob→h'.get? b=some ob) (n:c.s.heap.get? a=none) (r:RelO K.h₀ h' c.φ o a) (q:Q (.ref c.σ.length) (c.σ++[o])) :
  PV c Q (.ref a) { c.s with heap:=h',toks:=tk }:=
 PV.mk (c.add k n r) (.ref c.σ.length)
  ⟨⟨⟨rfl,rfl⟩,List.prefix_append _ _,fun b o _ _ e=>⟨o,k b o e,.refl o⟩,fun _ m=>(Be m).imp id fun e=>(congrArg c.s.heap.get? e).trans n⟩,fun b o e=>⟨o,k b o e⟩⟩ ⟨a,rfl,by rw [← c.sim.len];exact List.getElem?_concat_length⟩ q
theorem PV.list {Q:AN} {Vs:List V} {items:Array Value} {a:Addr} {h':Heap} {tk n:Nat} (r:RelL c.s.heap c.φ Vs items.toList) (hz:Vs.length≤Bl) (ha:c.s.heap.get? a=none) (k:∀ b ob,c.s.heap.get? b=some ob→h'.get? b=some ob)
  (e:h'.get? a=some { cls:=.type "list", data:=.seq items n }) (q:Q (.ref c.σ.length) (c.σ++[.list Vs])):PV c Q (.ref a) { c.s with heap:=h',toks:=tk }:=
 PV.new (o:=.list Vs) k ha ⟨items,n,e,RelL.keep (PW k) (List.prefix_refl _) _ _ r,hz⟩ q
theorem PV.pushL {Q:AN} {Vs:List V} {items:List Value} (r:RelL c.s.heap c.φ Vs items) (hz:Vs.length≤Bl) (q:Q (.ref c.σ.length) (c.σ++[.list Vs])) :
  PV c Q (.ref c.s.heap.objs.size) { c.s with heap:=c.s.heap.push { cls:=.type "list", data:=.seq items.toArray 0 } }:=
 PV.list (tk:=c.s.toks) r hz (BX (Nat.le_refl _)) (fun _ _ e=>Heap.get?_push_of_some _ e) (Heap.get?_push_size _ rfl) q
theorem PV.tup {Q:AN} {Vs:List V} {items:Array Value} {a:Addr} {h':Heap} {tk n:Nat} (r:RelL c.s.heap c.φ Vs items.toList) (k:∀ b ob,c.s.heap.get? b=some ob→h'.get? b=some ob)
  (e:h'.get? a=some { cls:=.type "tuple", data:=.seq items n }) (q:Q (.tup Vs) c.σ):PV c Q (.ref a) { c.s with heap:=h',toks:=tk }:=
 PV.kept (V:=.tup Vs) k ⟨a,items,n,rfl,e,RelL.keep (PW k) (List.prefix_refl _) _ _ r⟩ q
theorem PV.pushT {Vs:List V} (r:RelL c.s.heap c.φ Vs items) (q:Q (.tup Vs) c.σ) :
  PV c Q (.ref c.s.heap.objs.size) { c.s with heap:=c.s.heap.push { cls:=.type "tuple", data:=.seq items.toArray 0 } }:=
 PV.tup (tk:=c.s.toks) r (fun _ _ e=>Heap.get?_push_of_some _ e) (Heap.get?_push_size _ rfl) q
end
noncomputable def SlotIs {h₀:Bs} (c:Cf h₀) (ρ:List V) (i:Nat) (ov:Option Value):Prop:=∀ V,ρ[i]?=some V→V≠.undef→∃ v,ov=some v∧Rel c.s.heap c.φ V v
inductive NsAt {h₀:Bs} (c:Cf h₀) (L:Loc) (ρ:List V):Prop
 | mk (m:Str→Option Value):c.s.heap.Ns L.env.locals m→(∀ x i,L.vs.lookup x=some i→L.env.kindOf x=some .local→SlotIs c ρ i (m x))→NsAt c L ρ
inductive CellAt {h₀:Bs} (c:Cf h₀) (L:Loc) (ρ:List V) (x:Str) (i:Nat):Prop
 | mk (a:Addr) (ov:Option Value):L.env.cells.lookup x=some a→a∉c.φ→h₀.get? a=none→c.s.heap.IsCell a ov→SlotIs c ρ i ov→CellAt c L ρ x i
noncomputable def FrameAt {h₀:Bs} (c:Cf h₀) (e:Env):Prop:=e.scope.kind≠.module∧∃ f m,e.frame=some f∧h₀.get? f=none∧f∉c.φ∧c.s.heap.Ns f m
structure Fr {h₀:Bs} (c:Cf h₀) (L:Loc) (ρ:List V):Prop where
 fn:L.env.scope.kind=.function
 glob:L.env.globals=mainGlobals
 blt:L.env.builtins=builtinsNs
 locNew:h₀.get? L.env.locals=none
 locOut:L.env.locals∉c.φ
 inj:∀ x y i,L.vs.lookup x=some i→L.vs.lookup y=some i→x=y
 ns:NsAt c L ρ
 cell:∀ x i,L.vs.lookup x=some i→L.env.kindOf x=some .cell∨L.env.kindOf x=some .free→CellAt c L ρ x i
 cellInj:∀ x y i j a,L.vs.lookup x=some i→L.vs.lookup y=some j→L.env.cells.lookup x=some a→L.env.cells.lookup y=some a→x=y
 up:∀ e∈L.up,FrameAt c e
noncomputable def Loc.own (L:Loc):Addr→Prop:=fun a=>a=L.env.locals∨∃ x i,L.vs.lookup x=some i∧L.env.kindOf x=some .cell∧L.env.cells.lookup x=some a
section
variable {h₀:Bs} {c c':Cf h₀} {L:Loc} {ρ:List V}
theorem CO {h:Heap} {a:Addr} {m:Str→Option Value} (n:h.Ns a m):∃ o,h.get? a=some o∧∃ es ep,o.data=.dict es ep:=by refine Af n fun o es ep e d _=>?_;exact ⟨o,e,es,ep,d⟩
theorem Hz {h h':Heap} {a:Addr} {m:Str→Option Value} (n:h.Ns a m) (k:∀ o,h.get? a=some o→h'.get? a=some o):h'.Ns a m:=by refine Cu n fun o es ep e d=>?_;exact ⟨o,es,ep,k o e,d⟩
theorem HU {h h':Heap} {a:Addr} {v:Option Value} (n:h.IsCell a v) (k:∀ o,h.get? a=some o→h'.get? a=some o):h'.IsCell a v:=by refine AC n fun o e d=>?_;exact ⟨o,k o e,d⟩
theorem SlotIs.own {own:Addr→Prop} {i:Nat} (x:SlotIs c ρ i ov) (st:WStp own c c') (hn:∀ a,own a→A5 c.s.heap a):SlotIs c' ρ i ov:=fun V h1 h2=>AC (x V h1 h2) fun v e r=>⟨v,e,r.own st hn⟩
theorem FrameAt.keep {own:Addr→Prop} {e:Env} (st:WStp own c c') (hl:∀ f m,c.s.heap.Ns f m→e.frame=some f→¬ own f) (h:FrameAt c e):FrameAt c' e:=⟨h.1,BN h.2 fun f m e1 e2 e3 n=>⟨f,m,e1,e2,AC (CO n) fun _ e _=>st.out e e3,st.keepN e3 (hl f m n e1) n⟩⟩
theorem Fr.keep {own:Addr→Prop} (F:Fr c L ρ) (st:WStp own c c') (hn:∀ a,own a→A5 c.s.heap a) (hl:∀ f m,c.s.heap.Ns f m→f=L.env.locals∨(∃ e∈L.up,e.frame=some f)→¬ own f) (hc:∀ a ov,c.s.heap.IsCell a ov→¬ own a):Fr c' L ρ where
 fn:=F.fn
 glob:=F.glob
 blt:=F.blt
 locNew:=F.locNew
 locOut:=F.ns.casesOn fun _ n _=>AC (CO n) fun _ e _=>st.out e F.locOut
 inj:=F.inj
 ns:=F.ns.casesOn fun m n q=>.mk m (st.keepN F.locOut (hl _ _ n (.inl rfl)) n) fun x i h1 h2=>(q x i h1 h2).own st hn
 cell x i h1 h2:=match F.cell x i h1 h2 with
  | .mk a ov e o n ic r=>.mk a ov e (AC ic fun _ e' _=>st.out e' o) n (st.keepC o (hc a ov ic) ic) (r.own st hn)
 cellInj:=F.cellInj
 up e m:=(F.up e m).keep st fun f m' n e1=>hl f m' n (.inr ⟨e,m,e1⟩)
theorem Fr.step (F:Fr c L ρ) (st:Stp AO c c'):Fr c' L ρ:=F.keep st.toWStp (fun _ f=>f.elim) (fun _ _ _ _ f=>f) fun _ _ _ f=>f
theorem Cg {h:Heap} {a:Addr} {m:Str→Option Value} (n:h.Ns a m):A5 h a:=by refine DU (CO n) fun _ e _ _ d=>?_;exact Ix e fun _ _ e'=>nomatch d.symm.trans e'
theorem GW (n:h.IsCell a v):A5 h a:=by refine AC n fun _ e d=>?_;exact Ix e fun _ _ e'=>nomatch d.symm.trans e'
theorem Fr.noTup (F:Fr c L ρ) (x:L.own a):A5 c.s.heap a:=
 x.elim (fun h=>h▸F.ns.casesOn fun _ n _=>Cg n) fun h=>A0 h fun x i hx hk e=>(F.cell x i hx (.inl hk)).casesOn fun _ _ e1 _ _ ic _=>Option.some.inj (e1.symm.trans e)▸GW ic
theorem SlotIs.undef (x:SlotIs c (ρ.set i v) j ov):SlotIs c (ρ.set i .undef) j ov:=fun V h hV=>x V (by
  by_cases hij:i=j
  ·subst hij
   refine absurd ?_ hV
   rw [List.getElem?_set_self (by rw [← List.length_set];exact (List.getElem?_eq_some_iff.mp h).1)] at h
   exact (Option.some.inj h).symm
  ·rw [List.getElem?_set_ne hij] at h ⊢;exact h) hV
theorem Fr.undef (F:Fr c L (ρ.set i v)):Fr c L (ρ.set i .undef) where
 fn:=F.fn
 glob:=F.glob
 blt:=F.blt
 locNew:=F.locNew
 locOut:=F.locOut
 inj:=F.inj
 ns:=F.ns.casesOn fun m n q=>.mk m n fun x j h1 h2=>(q x j h1 h2).undef
 cell x j h1 h2:=(F.cell x j h1 h2).casesOn fun a ov e o n ic r=>.mk a ov e o n ic r.undef
 cellInj:=F.cellInj
 up:=F.up
end
end Mine.Internal
namespace Mine.Internal
open PySem PySem.Calls
section
variable (K:Ctx) (L:Loc)
noncomputable def EOk (e:Expr) (a:Ex):Prop:=
 ∀ (A:Around) (c:Cf K.h₀) (ρ:List V) (Q:AN) (X:Ac),ROk K L.up A→Fr c L ρ→a K.C ρ c.σ Q X→wpAny K.M A (eval e L.env) (PV c Q) (PX c X) c.s
noncomputable def LOk (es:List Expr) (as:List Ex):Prop:=
 ∀ (A:Around) (c:Cf K.h₀) (ρ:List V) (Q:List V→AB→Prop) (X:Ac) (pos:Pos),ROk K L.up A→Fr c L ρ→evs as K.C ρ c.σ Q X →
  wpAny K.M A (spliced (backTo pos (starEach es L.env))) (PVs c fun vs σ=>vs.length=es.length∧Q vs σ) (PX c X) c.s
noncomputable def BOk (es:List Expr) (as:List Ex):Prop:=
 ∀ (A:Around) (c:Cf K.h₀) (ρ:List V) (Q:AN) (X:Ac) (pos:Pos) (op:BoolOp),ROk K L.up A→Fr c L ρ→E5 (op==.And) as K.C ρ c.σ Q X→wpAny K.M A (boolOp pos op (evalEach es L.env)) (PV c Q) (PX c X) c.s
noncomputable def COk (ops:List CmpOp) (es:List Expr) (as:List Ex):Prop:=
 ∀ (A:Around) (c:Cf K.h₀) (ρ:List V) (Q:Bool→AB→Prop) (X:Ac) (pos:Pos) (V:V) (v:Value),ROk K L.up A→Fr c L ρ→Rel c.s.heap c.φ V v→R2 ops as V K.C ρ c.σ Q X →
  wpAny K.M A (compareChain pos v ops (evalEach es L.env)) (fun x s=>∃ b,x=.bool b∧PB c Q b s) (PX c X) c.s∧wpAny K.M A (testChain pos v ops (evalEach es L.env)) (PB c Q) (PX c X) c.s
noncomputable def TOk (e:Expr) (t:Tx):Prop:=
 ∀ (A:Around) (c:Cf K.h₀) (ρ:List V) (Q:Bool→AB→Prop) (X:Ac),ROk K L.up A→Fr c L ρ→t K.C ρ c.σ Q X→wpAny K.M A (isTrue e L.env (eval e L.env)) (PB c Q) (PX c X) c.s
noncomputable def AOk (es:List Expr) (ts:List Tx):Prop:=
 ∀ (A:Around) (c:Cf K.h₀) (ρ:List V) (Q:Bool→AB→Prop) (X:Ac),ROk K L.up A→Fr c L ρ →
  (EC ts K.C ρ c.σ Q X→wpAny K.M A (allTrue .And es L.env) (PB c Q) (PX c X) c.s)∧(tOr ts K.C ρ c.σ Q X→wpAny K.M A (allTrue .Or es L.env) (PB c Q) (PX c X) c.s)
end
noncomputable def Aq (e:Expr):Prop:=∀ rest env,starEach (e::rest) env=(false,eval e env)::starEach rest env
noncomputable def F6 (e:Expr):Prop:=∀ o i,subscripted e false o i=operate [o,i] (getItem o i)
section
variable {K:Ctx} {L:Loc}
theorem RW {k pos}:EOk K L (.Constant .none k pos) B6:=fun _ _ _ _ _ _ _ q=>wpAny_Constant_none (PV.same Ci q)
theorem Rd {b k pos}:EOk K L (.Constant (.bool b) k pos) (BU b):=fun _ _ _ _ _ _ _ q=>wpAny_Constant_bool (PV.same Bb q)
theorem ST {i k pos}:EOk K L (.Constant (.int i) k pos) (AD i):=fun _ _ _ _ _ _ _ q=>wpAny_Constant_int (PV.plain A1 q)
theorem SY {x k pos}:EOk K L (.Constant (.str x) k pos) (Bc x):=fun _ _ _ _ _ _ _ q=>wpAny_Constant_str (PV.plain B0 q)
noncomputable def Gn (sc:Scope) (x:Str):Bool:=decide (sc.names.lookup x=some .local)||(decide (sc.names.lookup x=some .cell)||decide (sc.names.lookup x=some .free))
theorem Kz (h:Gn sc x=true):sc.names.lookup x=some .local∨sc.names.lookup x=some .cell∨sc.names.lookup x=some .free:=
 ((Bool.or_eq_true _ _).mp h).imp of_decide_eq_true fun h=>((Bool.or_eq_true _ _).mp h).imp of_decide_eq_true of_decide_eq_true
noncomputable def CN (x:Str):Bool:=!(x==("__debug__":Str))&&!(x==("__classdict__":Str))
theorem C9 (h:CN x=true):(x==("__debug__":Str))=false:=(Bool.not_eq_true' _).mp (Bool.and_eq_true_iff.mp h).1
theorem NY (h:CN x=true):(x==("__classdict__":Str))=false:=(Bool.not_eq_true' _).mp (Bool.and_eq_true_iff.mp h).2
theorem TX {pos} (hx:L.vs.lookup x=some i) (hk:Gn L.env.scope x=true) (hn:CN x=true):EOk K L (.Name x pos) (AA i):=fun _ c ρ _ _ _ F q=>by
 obtain ⟨V,e,hV,q⟩:=Pp q
 refine wpAny_Name ?_ (C9 hn)
 refine Or.elim (Kz hk) (fun hl=>?_) (fun hl=>?_)
 ·cases F.ns with
  | mk m n r=>refine AC (r x i hx hl V e hV) fun _ hv rl=>?_;exact wpAny_loadName_local F.fn hl n hv (PV.same rl q)
 ·cases F.cell x i hx hl with
  | mk a ov e1 _ _ ic r=>
   refine AC (r V e hV) fun v ze rl=>?_;subst ze
   exact hl.elim (fun hl=>wpAny_loadName_cell F.fn hl e1 ic (PV.same rl q)) fun hl=>wpAny_loadName_free F.fn hl e1 ic (PV.same rl q) (NY hn)
theorem Cy (h:n≤Ag):n≤sizeLine:=Nat.le_trans h (by decide)
theorem CJ (h:n≤Bl):n≤sizeLine:=Nat.le_trans h (by decide)
theorem Iv (h:n≤Bl):(n:Int)<2 ^ 63:=Int.lt_of_le_of_lt (Int.ofNat_le.mpr h) (by decide)
theorem Cd (h:n≤Ag):n≤Bl:=Nat.le_trans h (by decide)
theorem RelL.size {h:Heap} {φ:List Addr} {Vs:List V} {items:Array Value} (r:RelL h φ Vs items.toList):items.size=Vs.length:=Array.length_toList.symm.trans r.length.symm
theorem Fb {A:Around} {c:Cf K.h₀} {V:V} {v:Value} {T:Bool→Prop} {R:Bool→Shared→Prop} {E:Value→Shared→Prop} (r:Rel c.s.heap c.φ V v) (ht:P7 c.σ T V) (h:∀ b tk,T b→R b { c.s with toks:=tk }):wpAny K.M A (truthy v) R E c.s:=by
 replace ht:=S5 ht
 cases ht with
 | none q=>cases r;exact fun Γ p hΓ=>h _ c.s.toks q
 | bool q=>cases r;exact wpAny_truthy_bool (h _ c.s.toks q)
 | int q=>refine AQ r fun t ze1=>?_;subst ze1;exact PyProof.Rows.truthy_int (h _ c.s.toks q)
theorem MC (h:small i=true):i.natAbs<2 ^ 64:=by
 unfold small at h
 have h1:=of_decide_eq_true (Bool.and_eq_true_iff.mp h).1
 have h2:=of_decide_eq_true (Bool.and_eq_true_iff.mp h).2
 exact Int.ofNat_lt.mp ((Int.natAbs_eq i).elim (fun e=>Int.lt_trans (e▸h2) (by decide)) fun e=>Int.lt_of_neg_lt_neg (Int.lt_of_lt_of_le (by decide) (e▸h1)))
theorem Fa (h:small i=true):i.natAbs.log2<64:=by
 by_cases h0:i.natAbs=0
 ·rw [h0];decide
 ·exact (Nat.log2_lt h0).mpr (MC h)
theorem GY (h:small i=true):Builtin.Int.intBits i≤64:=by
 unfold Builtin.Int.intBits
 split
 ·exact Nat.zero_le _
 ·exact Fa h
theorem RelP.at:∀ {us:List (Str × Value)},RelP h φ kvs us→(∀ V,kvs.lookup k=some V→∃ v,valueAt us k=some v∧Rel h φ V v)∧(valueAt us k).isSome=kvs.any (fun p=>p.1=k):=by
 induction kvs with
 | nil=>intro us r;cases us with
  | nil=>exact ⟨fun V e=>absurd e.symm (Option.some_ne_none V),rfl⟩
  | cons _ _=>exact absurd r.1 (List.cons_ne_nil _ _)
 | cons p kvs ih=>intro us r;cases us with
  | nil=>exact absurd r.1.symm (List.cons_ne_nil _ _)
  | cons u us=>
   have e:=List.cons.inj r.1
   have ih:=ih (us:=us) ⟨e.2,r.2.2⟩
   by_cases hk:u.1=k
   ·have hp:p.1=k:=e.1.symm.trans hk
    have hv:valueAt (u::us) k=some u.2:=by unfold valueAt;rw [List.find?_cons,decide_eq_true hk];rfl
    refine ⟨fun W hW=>⟨u.2,hv,?_⟩,by rw [hv,List.any_cons,decide_eq_true hp];rfl⟩
    rw [List.lookup_cons,hp,beq_self_eq_true] at hW;exact Option.some.inj hW▸r.2.1
   ·have hp:p.1≠k:=fun z=>hk (e.1.trans z)
    have hv:valueAt (u::us) k=valueAt us k:=by unfold valueAt;rw [List.find?_cons,decide_eq_false hk]
    rw [hv]
    refine ⟨fun W hW=>ih.1 W ?_,?_⟩
    ·rw [List.lookup_cons,beq_eq_false_iff_ne.mpr (Ne.symm hp)] at hW;exact hW
    ·rw [List.any_cons,decide_eq_false hp,Bool.false_or];exact ih.2
theorem Cf.dict {c:Cf K.h₀} {n ep:Nat} {kvs:List (Str × V)} {v:Value} (e:c.σ[n]?=some (.dict ep kvs)) (r:Rel c.s.heap c.φ (.ref n) v) :
  ∃ a us,v=.ref a∧c.φ[n]?=some a∧c.s.heap.DictAt (strKind K.h₀.prog K.h₀.w) a us ep∧RelP c.s.heap c.φ kvs us∧kvs.length≤Bl∧(a==sysModules)=false:=
 let ⟨_,ev,ea⟩:=r
 let ⟨a',ea',us,q⟩:=c.sim.obj n _ e
 ⟨a',us,ev.trans (congrArg Value.ref (Option.some.inj (ea.symm.trans ea'))),ea',q⟩
theorem Cf.dictE {c:Cf K.h₀} {n ep:Nat} {kvs:List (Str × V)} {v:Value} {P:Value→Prop} (e:c.σ[n]?=some (.dict ep kvs)) (r:Rel c.s.heap c.φ (.ref n) v)
  (k:∀ a us,c.φ[n]?=some a→c.s.heap.DictAt (strKind K.h₀.prog K.h₀.w) a us ep→RelP c.s.heap c.φ kvs us→kvs.length≤Bl→(a==sysModules)=false→P (.ref a)):P v:=
 BR (Cf.dict e r) fun a us ze h1 h2 h3 h4 h5=>ze▸k a us h1 h2 h3 h4 h5
noncomputable def cOp:BOp→Operator
 | .add=>.Add | .sub=>.Sub | .mul=>.Mult | .floordiv=>.FloorDiv | .mod=>.Mod | .pow=>.Pow
theorem Gv {α:Type} {a b:Array α}:(a.toList++b.toList).toArray=a++b:=by simp
theorem JV {h:Heap} {φ:List Addr} {Vs:List V} {items:Array Value} (r:RelL h φ Vs items.toList) (e:items.isEmpty=true):Vs=[]:=List.length_eq_zero_iff.mp (r.size.symm.trans (of_decide_eq_true e))
theorem Oy:∀ n:Nat,n<10→¬ Builtin.Int.intTooBig ((Builtin.Int.intBits 10:Int)*n)=true:=by decide +kernel
theorem SB {V W:Mine.Internal.V} (ra:Rel c.s.heap c.φ V a) (rb:Rel c.s.heap c.φ W b) (q:Sd c.σ Q o W V):wpAny K.M A (binaryOp (cOp o) a b) (PV c Q) E c.s:=by
 replace q:=SN q
 cases q with
 | add q=>refine AQ ra fun t ze1=>?_;subst ze1;refine AQ rb fun u ze1=>?_;subst ze1;exact PySem.P.add_int (PV.plain A1 q)
 | addS hz q=>refine AQ ra fun t ze1=>?_;subst ze1;refine AQ rb fun u ze1=>?_;subst ze1;exact PyProof.Rows.add_str (fun _ _=>PV.plain B0 q) (Cy hz)
 | @addT xs ys h1 h2 hz q=>
  refine Af ra fun t it n ze1 g rl=>?_;subst ze1
  refine Af rb fun u iu k ze1 gu rlu=>?_;subst ze1
  refine PySem.P.add_tuple g gu (fun h=>h1 (JV rl h)) (fun h=>h2 (JV rlu h)) ?_ (by rw [rl.size,rlu.size];exact Cy hz)
  rw [← Gv]
  exact PV.pushT (rl.append rlu) q
 | addL e1 e2 hz q=>
  apply Cf.listE e1 ra;intro a ia k _ hA rla _
  apply Cf.listE e2 rb;intro b ib k' _ hB rlb _
  refine PySem.P.add_list hA hB ?_ (by rw [rla.size,rlb.size];exact Cy hz)
  rw [← Gv]
  exact PV.pushL (rla.append rlb) (Cd (List.length_append▸hz)) q
 | sub q=>refine AQ ra fun t ze1=>?_;subst ze1;refine AQ rb fun u ze1=>?_;subst ze1;exact PyProof.Rows.sub_int' (PV.plain A1 q)
 | mul hs q=>refine AQ ra fun t ze1=>?_;subst ze1;refine AQ rb fun u ze1=>?_;subst ze1;exact PySem.P.mul_int (PV.plain A1 q) (hs.elim (fun h=>IntMulOk.of_left (GY h)) fun h=>IntMulOk.of_right (GY h))
 | div h0 hs q=>refine AQ ra fun t ze1=>?_;subst ze1;refine AQ rb fun u ze1=>?_;subst ze1;exact PyProof.Rows.floordiv_int h0 (PV.plain A1 q) (Or.inl (PyProof.noPylong_of_log2 (Nat.lt_of_lt_of_le (Fa hs) (by decide))))
 | mod h0 q=>refine AQ ra fun t ze1=>?_;subst ze1;refine AQ rb fun u ze1=>?_;subst ze1;exact PyProof.Rows.mod_int' h0 (PV.plain A1 q)
 | @pow n h0 h9 q=>
  refine AQ ra fun t ze1=>?_;subst ze1;apply Ei rb;intro u
  refine PySem.AutoIntOps.pow_4 (Int.natCast_nonneg n) (fun h=>Nat.pos_iff_ne_zero.mp h0 (Int.natCast_eq_zero.mp (beq_iff_eq.mp h))) (by decide) (by decide) ?_ (PV.plain A1 q)
  exact Oy n (Nat.lt_succ_of_le h9)
theorem Ss {pos} (hl:EOk K L l a) (hr:EOk K L r b):EOk K L (.BinOp l (cOp o) r pos) (AJ o a b):=fun A c ρ _ X R F q=>
 wpAny_BinOp (seq (.refl c) (hl A c ρ _ X R F q) fun c₁ _ _ s₁ _ r₁ q₁=>seq s₁ (hr A c₁ ρ _ X R (F.step s₁) q₁) fun _ _ _ s₂ t₂ r₂ q₂=>fin s₂ (SB (r₁.step t₂) r₂ q₂))
theorem Sg {pos} (h:EOk K L x a):EOk K L (.UnaryOp .USub x pos) (OZ a):=fun A c ρ _ X R F q=>
 wpAny_UnaryOp (seq (.refl c) (h A c ρ _ X R F q) fun c₁ _ _ s₁ _ r₁ q₁=>fin s₁ (by obtain ⟨_,e,q₁⟩:=Nu q₁;subst e;refine AQ r₁ fun t ze1=>?_;subst ze1;exact PySem.P.neg_int (PV.plain A1 q₁)))
theorem So {x:Expr} {a:Ex} {pos} (h:EOk K L x a):EOk K L (.UnaryOp .Not x pos) (SH a):=fun A c ρ _ X R F q=>
 wpAny_UnaryOp (seq (.refl c) (h A c ρ _ X R F q) fun c₁ _ _ s₁ _ r₁ q₁=>not_value (Fb r₁ q₁ fun b tk q=>.mk (c₁.toks tk) _ (s₁.trans (Cf.keep_stp ⟨rfl,rfl⟩)) Bb q))
theorem Eu:LOk K L [] []:=fun _ c _ _ _ _ _ _ q=>wpAny_items_nil (.mk c [] (.refl c) trivial ⟨rfl,q⟩)
theorem Dw (hn:Aq e) (he:EOk K L e a) (hes:LOk K L es as):LOk K L (e::es) (a::as):=fun A c ρ _ X pos R F q=>
 wpAny_items_cons (seq (.refl c) (he A c ρ _ X R F q) fun c₁ V _ s₁ _ r₁ q₁=>KH s₁ (hes A c₁ ρ _ X pos R (F.step s₁) q₁) fun c₂ Vs _ s₂ t₂ r₂ q₂=>.mk c₂ (V::Vs) s₂ ⟨r₁.step t₂,r₂⟩ ⟨congrArg (·+1) q₂.1,q₂.2⟩) (hn es L.env)
theorem Ta {k pos} (h:LOk K L es as) (hz:es.length≤1000):EOk K L (.Tuple es k pos) (BF as):=fun A c ρ _ X R F q=>
 wpAny_Tuple (KH (.refl c) (h A c ρ _ X pos R F q) fun c₁ _ _ s₁ _ r₁ q₁=>⟨CJ (r₁.length▸q₁.1▸Nat.le_trans hz (by decide)),(PV.pushT r₁ q₁.2).lift s₁⟩)
theorem Ra {pos} (h:LOk K L es as) (hz:es.length≤1000):EOk K L (.List es pos) (A4 as):=fun A c ρ _ X R F q=>
 wpAny_List (KH (.refl c) (h A c ρ _ X pos R F q) fun c₁ _ _ s₁ _ r₁ q₁=>⟨CJ (r₁.length▸q₁.1▸Nat.le_trans hz (by decide)),(PV.pushL r₁ (q₁.1▸Nat.le_trans hz (by decide)) q₁.2).lift s₁⟩)
theorem Qx (h:EOk K L e a):BOk K L [e] [a]:=fun A c ρ Q X _ _ R F q=>h A c ρ Q X R F q
set_option backward.match.sparseCases true in
theorem Pm {e e':Expr} {a a':Ex} {es:List Expr} {as:List Ex} (h:EOk K L e a) (hs:BOk K L (e'::es) (a'::as)):BOk K L (e::e'::es) (a::a'::as):=fun A c ρ Q X pos op R F q=>by
 show wpAny K.M A (do
  let v ← eval e L.env
  standAt pos
  let t ← holding [v] (truthy v)
  match op,t with
  | .And,false | .Or,true=>pure v
  | _,_=>boolOp pos op (evalEach (e'::es) L.env)) _ _ c.s
 refine wpAny_bind (seq (.refl c) (h A c ρ _ X R F q) fun c₁ V v s₁ _ r₁ q₁=>wpAny_bind (wpAny_standAt (wpAny_bind (wpAny_holding (Fb r₁ q₁ fun b tk q₂=>?_)))))
 have s₂:Stp AO c (c₁.toks tk):=s₁.trans (Cf.keep_stp ⟨rfl,rfl⟩)
 have go:∀ b',b=b'→(op==.And)=b'→wpAny K.M A (boolOp pos op (evalEach (e'::es) L.env)) (PV c Q) (PX c X) (c₁.toks tk).s:=fun b' h1 h2=>fin s₂ (hs A (c₁.toks tk) ρ Q X pos op R (F.step s₂) (by have q₂:=QH q₂;rw [if_pos (h1.trans h2.symm)] at q₂;exact q₂))
 have no:b≠(op==.And)→PV c Q v (c₁.toks tk).s:=fun hb=>.mk (c₁.toks tk) V s₂ r₁ (by have q₂:=QH q₂;rw [if_neg hb] at q₂;exact q₂)
 cases op <;> cases b
 ·exact wpAny_pure (no nofun)
 ·exact go true rfl rfl
 ·exact go false rfl rfl
 ·exact wpAny_pure (no nofun)
theorem Tm {pos} (h:BOk K L es as):EOk K L (.BoolOp .And es pos) (E5 true as):=fun A c ρ Q X R F q=>h A c ρ Q X pos .And R F q
theorem UT {pos} (h:BOk K L es as):EOk K L (.BoolOp .Or es pos) (E5 false as):=fun A c ρ Q X R F q=>h A c ρ Q X pos .Or R F q
theorem M1 {α β:Type} {f:α→Option β} {a:α} {as:List α} {bs:List β} (h:FJ f (a::as)=some bs):∃ b bs',f a=some b∧FJ f as=some bs'∧bs=b::bs':=
 by refine AC (Option.bind_eq_some_iff.mp h) fun b h1 h2=>?_;exact AC (Option.map_eq_some_iff.mp h2) fun bs' h3 h4=>⟨b,bs',h1,h3,h4.symm⟩
inductive DataIs (h:Heap) (v:Value) (n:Nat) (d:PyData):Prop
 | mk (as:List Addr):Reads h v d as→d.depth≤n→DataIs h v n d
theorem GT (hf:∀ V v dt,f V=some dt→Rel h φ V v→DataIs h v n dt)
  (Vs:List V):∀ (vs:List Value) (ds:List PyData),FJ f Vs=some ds→RelL h φ Vs vs→(∃ as,ReadsAll h vs ds as)∧PyData.depthAll ds≤n:=by
 induction Vs with
 | nil=>intro vs ds e r;cases vs with
  | nil=>exact Option.some.inj e▸⟨⟨_,.nil⟩,Nat.zero_le _⟩
  | cons _ _=>exact r.elim
 | cons V Vs ih=>intro vs ds e r;cases vs with
  | nil=>exact r.elim
  | cons v vs=>
   refine A0 (M1 e) fun b bs e1 e2 e3=>?_
   cases hf V v b e1 r.1 with
   | mk _ h1 d1=>
    have h2:=ih vs bs e2 r.2
    refine AQ h2.1 fun _ h3=>?_
    exact e3▸⟨⟨_,.cons h1 h3⟩,Nat.max_le.mpr ⟨d1,h2.2⟩⟩
theorem MV (e:PA f o=some d):∃ vs ds,o=some (.list vs)∧FJ f vs=some ds∧PyData.list ds=d:=by
 cases o with
 | none=>exact absurd e.symm (Option.some_ne_none d)
 | some o=>cases o with
  | list vs=>refine AC (Option.map_eq_some_iff.mp e) fun ds e1 e2=>?_;exact ⟨vs,ds,rfl,e1,e2⟩
  | _=>exact absurd e.symm (Option.some_ne_none d)
theorem Cb {h₀:Bs} {c:Cf h₀} (n:Nat):∀ (V:V) (v:Value) (dt:PyData),toD c.σ n V=some dt→Rel c.s.heap c.φ V v→DataIs c.s.heap v n dt:=by
 induction n with
 | zero=>exact fun _ _ dt e _=>absurd e.symm (Option.some_ne_none dt)
 | succ n ih=>
  intro V v dt e r
  cases V with
  | undef=>exact r.elim
  | none=>exact Option.some.inj e▸r▸.mk _ .none (Nat.zero_le _)
  | bool _=>exact Option.some.inj e▸r▸.mk _ (.bool _) (Nat.zero_le _)
  | int _=>refine AQ r fun _ r=>?_;exact Option.some.inj e▸r▸.mk _ (.int _ _) (Nat.zero_le _)
  | str _=>refine AQ r fun _ r=>?_;exact Option.some.inj e▸r▸.mk _ (.str _ _) (Nat.zero_le _)
  | tup vs=>
   refine Af r fun _ _ _ r g rl=>?_
   refine AC (Option.map_eq_some_iff.mp e) fun ds e1 e2=>?_
   have h:=GT ih vs _ ds e1 rl
   refine AQ h.1 fun _ ra=>?_
   exact e2▸r▸.mk _ (.tuple g rfl rfl ra) (Nat.succ_le_succ h.2)
  | ref k=>
   refine A0 (MV e) fun vs ds ek e1 e2=>?_
   refine Aw (Cf.list ek r) fun _ _ _ ev _ g rl _=>?_
   have h:=GT ih vs _ ds e1 rl
   refine AQ h.1 fun _ ra=>?_
   exact e2▸ev▸.mk _ (.list g rfl rfl ra) (Nat.succ_le_succ h.2)
theorem ROk.u100 (R:ROk K up A):A.units+100<9900:=Nat.lt_of_lt_of_le (Nat.add_lt_add_right (Nat.lt_of_le_of_lt (Nat.le_add_right _ _) R.units) 100) (by decide)
theorem L9 (R:ROk K up A) (h:n≤6):A.units+min n m<cLine:=
 Nat.lt_of_le_of_lt (Nat.add_le_add_left (Nat.le_trans (Nat.min_le_left _ _) h) _) (Nat.lt_of_lt_of_le (Nat.lt_of_le_of_lt (Nat.add_le_add_left (by decide) _) R.u100) (by decide))
theorem Op (R:ROk K up A) (h:m≤6):A.units+1+min n m<cLine:=
 Nat.lt_of_le_of_lt (Nat.le_trans (Nat.add_le_add_left (Nat.le_trans (Nat.min_le_right _ _) h) _) (Nat.le_of_eq (Nat.add_assoc _ 1 6))) (Nat.lt_of_lt_of_le (Nat.lt_of_le_of_lt (Nat.add_le_add_left (by decide) _) R.u100) (by decide))
theorem GZ:∀ {vs:List Value},RelL h φ (xs.map .int) vs→PyProof.Rows.IntsAre vs xs:=by
 induction xs with
 | nil=>intro vs r;cases vs with
  | nil=>exact .nil
  | cons _ _=>exact r.elim
 | cons x xs ih=>intro vs r;cases vs with
  | nil=>exact r.elim
  | cons v vs=>refine AQ r.1 fun _ e=>?_;exact e▸.cons _ _ (ih r.2)
theorem Gw (h:x=y):Ah (x::a) (y::b)=Ah a b:=if_pos h
theorem JO (h:x≠y):Ah (x::a) (y::b)=decide (x<y):=if_neg h
theorem QQ {β:Type} {M:Model} {A:Around} {E:Value→Shared→Prop} {s:Shared} {body:Value × Value→β→Sem (ForInStep β)} {r₀:β} {R:β→Shared→Prop} {yes:Bool→β}
  (hb:∀ (p q:Int) (t u:Tok) (R':ForInStep β→Shared→Prop),(p=q→R' (.yield r₀) s)→(p≠q→R' (.done (yes (decide (p<q)))) s)→wpAny M A (body (.int p t,.int q u) r₀) R' E s)
  {a b:List Int} {vs us:List Value} (ha:PyProof.Rows.IntsAre vs a) (hb':PyProof.Rows.IntsAre us b) (h:Ah a b=decide (vs.length<us.length)→R r₀ s) (hy:R (yes (Ah a b)) s):wpAny M A (forIn (vs.zip us) r₀ body) R E s:=by
 induction ha generalizing b us with
 | nil=>cases hb' with
  | nil=>exact wpAny_pure (h rfl)
  | cons _ _ _=>exact wpAny_pure (h (decide_eq_true (Nat.zero_lt_succ _)).symm)
 | cons p t ha ih=>cases hb' with
  | nil=>exact wpAny_pure (h rfl)
  | cons q u hb'=>
   rw [List.zip_cons_cons,List.forIn_cons]
   refine wpAny_bind (hb p q t u _ (fun e=>?_) fun e=>?_)
   ·exact ih hb' (fun e'=>h ((Gw e).trans (e'.trans (decide_eq_decide.mpr Nat.succ_lt_succ_iff.symm)))) (Gw e▸hy)
   ·exact wpAny_pure (JO e▸hy)
theorem TP (gx:IsT s.heap a ix n) (gy:IsT s.heap c iy k) (rx:PyProof.Rows.IntsAre ix.toList xs) (ry:PyProof.Rows.IntsAre iy.toList ys) (h:P (.done (.ret (.bool (Ah xs ys)))) s):wpAny K.M A (Builtin.«tuple.__lt__» ⟨[.ref a,.ref c],[]⟩) P E s:=by
 show wpAny _ _ (isInstance (.ref c) (.type "tuple") >>= _) _ _ s
 refine wpAny_bind (wpAny_isInstance (T:="tuple") ⟨_,gy,rfl⟩ AutoSeq1.sub_tuple_tuple (wpAny_bind (wpAny_tupleItemsOf gx rfl (wpAny_bind (wpAny_tupleItemsOf gy rfl (wpAny_bind ?_))))))
 refine QQ (yes:=fun b=>(some (.done (.ret (.bool b))),())) (fun p q t u R' h1 h2=>wpAny_bind (wpAny_eqBool_int ?_)) rx ry (fun e=>wpAny_pure (e▸h :)) (wpAny_pure h)
 by_cases e:p=q
 ·rw [beq_iff_eq.mpr e];exact wpAny_pure (h1 e)
 ·rw [beq_eq_false_iff_ne.mpr e]
  exact wpAny_bind (wpAny_rule (wpAny_bind (PyProof.Rows.lt_int (wpAny_bind (wpAny_pure (wpAny_pure (h2 e)))))))
theorem Ir {up:List Env} {A:Around} {c:Cf K.h₀} {op:CmpOp} {V W:Mine.Internal.V} {v u:Value} {T:Bool→Prop} {P:Value→Shared→Prop} {E:Value→Shared→Prop} (R:ROk K up A) (r1:Rel c.s.heap c.φ V v) (r2:Rel c.s.heap c.φ W u) (q:PC c.σ T op V W) (h:∀ b tk,T b→P (.bool b) { c.s with toks:=tk }) :
  wpAny K.M A (compareOp op v u) P E c.s:=by
 have h₀:∀ b,T b→P (.bool b) c.s:=fun b q=>h b c.s.toks q
 replace q:=Si q
 cases q with
 | eq e1 e2 c1 c2 q=>exact (Cb 6 _ _ _ e1 r1).casesOn fun _ ra da=>(Cb 6 _ _ _ e2 r2).casesOn fun _ rb _=>SeqAt.compareEq_reads ra rb c1 c2 (L9 R da) (h₀ _ q)
 | ne e1 e2 c1 c2 q=>exact (Cb 6 _ _ _ e1 r1).casesOn fun _ ra da=>(Cb 6 _ _ _ e2 r2).casesOn fun _ rb _=>SeqAt.compareNe_reads ra rb c1 c2 (L9 R da) (h₀ _ q)
 | ninT e1 e2 c1 c2 q=>exact (Cb 6 _ _ _ e1 r1).casesOn fun _ ra da=>(Cb 6 _ _ _ e2 r2).casesOn fun _ rb _=>SeqAt.notIn_tuple_reads rb ra c2 c1 (Op R da) (h₀ _ q)
 | lt q=>refine AQ r1 fun t ze1=>?_;subst ze1;refine AQ r2 fun t' ze1=>?_;subst ze1;exact PyProof.Rows.lt_int (h₀ _ q)
 | le q=>refine AQ r1 fun t ze1=>?_;subst ze1;refine AQ r2 fun t' ze1=>?_;subst ze1;exact PySem.P.le_int (h₀ _ q)
 | gt q=>refine AQ r1 fun t ze1=>?_;subst ze1;refine AQ r2 fun t' ze1=>?_;subst ze1;exact PyProof.Rows.gt_int (h₀ _ q)
 | ge q=>refine AQ r1 fun t ze1=>?_;subst ze1;refine AQ r2 fun t' ze1=>?_;subst ze1;exact PySem.P.ge_int (h₀ _ q)
 | ltT q=>
  refine Af r1 fun a ix n ze1 gx rx=>?_;subst ze1
  refine Af r2 fun b iy k ze1 gy ry=>?_;subst ze1
  exact wpAny_richCompare_same_room (op:=.Lt) (T:="tuple") ⟨_,gx,rfl⟩ ⟨_,gy,rfl⟩ F.slot_tuple_lt (wpAny_call_entry F.slot_tuple_lt ⟨_,gx,rfl⟩ F.entry_tuple_lt (TP gx gy (GZ rx) (GZ ry) ⟨_,rfl,by simp,h₀ _ q⟩) (F.args_tuple_lt_2 _ _))
   (Nat.lt_of_lt_of_le (Nat.lt_of_le_of_lt (Nat.le_add_right _ 100) R.u100) (by decide))
 | inD e q=>
  apply Cf.dictE e r2;intro a us _ D P _ hs
  apply Ei r1;intro t
  exact wpAny_in_of (strKind_is _ _ _ t) hs D.dictOf.mapOf (by rw [P.at.2];exact h _ _ q)
 | ninD e q=>
  apply Cf.dictE e r2;intro a us _ D P _ hs
  apply Ei r1;intro t
  exact wpAny_notIn_of (strKind_is _ _ _ t) hs D.dictOf.mapOf (by rw [P.at.2];exact h _ _ q)
 | inS q=>
  apply Ei r1;intro t
  apply Ei r2;intro u
  exact PySem.P.in_str (by rw [show EL _=(⟨#[_]⟩:Str) from rfl,PySem.StrLaws.found_one];exact h₀ _ q)
 | is q=>cases r2;exact is_none (rel_isNone r1▸h₀ _ q)
 | isnot q=>cases r2;exact isNot_none (rel_isNone r1▸h₀ _ q)
where
 rel_isNone {h:Heap} {φ:List Addr} {V:Mine.Internal.V} {v:Value} (r:Rel h φ V v):isNone V=(v==.none):=by
  cases V with
  | undef=>exact r.elim
  | none=>exact congrArg (·==Value.none) r.symm
  | bool _=>exact congrArg (·==Value.none) r.symm
  | int _=>exact r.elim fun _ r=>congrArg (·==Value.none) r.symm
  | str _=>exact r.elim fun _ r=>congrArg (·==Value.none) r.symm
  | tup _=>exact Cu r fun _ _ _ r _=>congrArg (·==Value.none) r.symm
  | ref _=>exact AC r fun _ r _=>congrArg (·==Value.none) r.symm
theorem Qr {op:CmpOp} {e:Expr} {a:Ex} (h:EOk K L e a):COk K L [op] [e] [a]:=fun A c ρ Q X pos V v R F r q=>by
 constructor
 ·show wpAny K.M A (do
   let rv ← holding [v] (eval e L.env)
   standAt pos
   operate [v,rv] (compareOp op v rv)) _ _ c.s
  exact wpAny_bind (wpAny_holding (seq (.refl c) (h A c ρ _ X R F q) fun c₁ _ _ s₁ _ r₁ q₁=>wpAny_bind (wpAny_standAt (PyProof.Rows.wpAny_operate' (Ir R (r.step s₁) r₁ q₁ fun b tk q=>⟨b,rfl,.mk (c₁.toks tk) (s₁.trans (Cf.keep_stp ⟨rfl,rfl⟩)) q⟩)))))
 ·show wpAny K.M A (do
   let rv ← holding [v] (eval e L.env)
   standAt pos
   let x ← operate [v,rv] (compareOp op v rv)
   holding [x] (truthy x)) _ _ c.s
  exact wpAny_bind (wpAny_holding (seq (.refl c) (h A c ρ _ X R F q) fun c₁ _ _ s₁ _ r₁ q₁=>wpAny_bind (wpAny_standAt (wpAny_bind (PyProof.Rows.wpAny_operate' (Ir R (r.step s₁) r₁ q₁ fun b tk q=>wpAny_holding (wpAny_truthy_bool (.mk (c₁.toks tk) (s₁.trans (Cf.keep_stp ⟨rfl,rfl⟩)) q))))))))
theorem Oa {op op':CmpOp} {ops:List CmpOp} {e e':Expr} {es:List Expr} {a a':Ex} {as:List Ex} (h:EOk K L e a) (hs:COk K L (op'::ops) (e'::es) (a'::as)):COk K L (op::op'::ops) (e::e'::es) (a::a'::as):=fun A c ρ Q X pos V v R F r q=>by
 constructor
 ·show wpAny K.M A (do
   let rv ← holding [v] (eval e L.env)
   standAt pos
   let x ← holding [v,rv] (compareOp op v rv)
   release [v,rv] [x]
   if ← holding [x,rv] (truthy x) then compareChain pos rv (op'::ops) (evalEach (e'::es) L.env) else pure x) _ _ c.s
  refine wpAny_bind (wpAny_holding (seq (.refl c) (h A c ρ _ X R F q) fun c₁ W u s₁ _ r₁ q₁=>?_))
  refine wpAny_bind (wpAny_standAt (wpAny_bind (wpAny_holding (Ir R (r.step s₁) r₁ q₁ fun b tk q=>?_))))
  have s₂:Stp AO c (c₁.toks tk):=s₁.trans (Cf.keep_stp ⟨rfl,rfl⟩)
  refine wpAny_bind (PyProof.Rows.wpAny_release' (wpAny_bind (wpAny_holding (wpAny_truthy_bool ?_))))
  cases b with
  | false=>exact wpAny_pure ⟨false,rfl,.mk (c₁.toks tk) s₂ q⟩
  | true=>exact wpAny_mono (hs A (c₁.toks tk) ρ Q X pos W u R (F.step s₂) r₁ q).1 (fun _ _ ⟨b,e,z⟩=>⟨b,e,z.lift s₂⟩) fun _ _ z=>z.lift s₂
 ·show wpAny K.M A (do
   let rv ← holding [v] (eval e L.env)
   standAt pos
   let x ← holding [v,rv] (compareOp op v rv)
   release [v,rv] [x]
   if ← holding [x,rv] (truthy x) then testChain pos rv (op'::ops) (evalEach (e'::es) L.env) else pure false) _ _ c.s
  refine wpAny_bind (wpAny_holding (seq (.refl c) (h A c ρ _ X R F q) fun c₁ W u s₁ _ r₁ q₁=>?_))
  refine wpAny_bind (wpAny_standAt (wpAny_bind (wpAny_holding (Ir R (r.step s₁) r₁ q₁ fun b tk q=>?_))))
  have s₂:Stp AO c (c₁.toks tk):=s₁.trans (Cf.keep_stp ⟨rfl,rfl⟩)
  refine wpAny_bind (PyProof.Rows.wpAny_release' (wpAny_bind (wpAny_holding (wpAny_truthy_bool ?_))))
  cases b with
  | false=>exact wpAny_pure (.mk (c₁.toks tk) s₂ q)
  | true=>exact Od s₂ (hs A (c₁.toks tk) ρ Q X pos W u R (F.step s₂) r₁ q).2
theorem TA {pos} (hm:lastMarks ops es=false) (h:EOk K L l a) (hs:COk K L ops es as):EOk K L (.Compare l ops es pos) (xOf (AU a ops as)):=fun A c ρ _ X R F q=>by
 rw [arm_eval_Compare,PyProof.Rows.markedEach_of_false _ _ _ hm]
 exact wpAny_bind (seq (.refl c) (h A c ρ _ X R F q) fun c₁ V v s₁ _ r₁ q₁=>wpAny_mono (hs A c₁ ρ _ X pos V v R (F.step s₁) r₁ q₁).1 (fun _ _ ⟨_,e,z⟩=>z.casesOn fun c₂ s₂ q₂=>e▸.mk c₂ _ (s₁.trans s₂) Bb q₂) fun _ _ z=>z.lift s₁)
theorem RV {pos} (hm:lastMarks ops es=false) (h:EOk K L l a) (hs:COk K L ops es as):TOk K L (.Compare l ops es pos) (AU a ops as):=fun A c ρ _ X R F q=>by
 rw [arm_isTrue_Compare,PyProof.Rows.markedEach_of_false _ _ _ hm]
 exact wpAny_bind (seq (.refl c) (h A c ρ _ X R F q) fun c₁ V v s₁ _ r₁ q₁=>Od s₁ (hs A c₁ ρ _ X pos V v R (F.step s₁) r₁ q₁).2)
theorem QV {pos} (h:TOk K L x t):TOk K L (.UnaryOp .Not x pos) (CY t):=fun A c ρ _ X R F q=>by
 rw [arm_isTrue_UnaryOp]
 exact wpAny_bind (Na (.refl c) (h A c ρ _ X R F q) fun c₁ _ s₁ _ q₁=>wpAny_pure (.mk c₁ s₁ q₁))
theorem RT {pos} (h:AOk K L es ts):TOk K L (.BoolOp .And es pos) (EC ts):=fun A c ρ Q X R F q=>(h A c ρ Q X R F).1 q
theorem SL {pos} (h:AOk K L es ts):TOk K L (.BoolOp .Or es pos) (tOr ts):=fun A c ρ Q X R F q=>(h A c ρ Q X R F).2 q
theorem Rg {e:Expr} {a:Ex} (he:∀ env whole,isTrue e env whole=(do let v ← whole;standAt e.pos;holding [v] (truthy v))) (h:EOk K L e a):TOk K L e (Bj a):=fun A c ρ _ X R F q=>by
 rw [he]
 exact wpAny_bind (seq (.refl c) (h A c ρ _ X R F q) fun c₁ _ _ s₁ _ r₁ q₁=>wpAny_bind (wpAny_standAt (wpAny_holding (Fb r₁ q₁ fun _ tk q=>.mk (c₁.toks tk) (s₁.trans (Cf.keep_stp ⟨rfl,rfl⟩)) q))))
theorem RB:AOk K L [] []:=fun _ c _ _ _ _ _=>⟨fun q=>wpAny_pure (.mk c (.refl c) q),fun q=>wpAny_pure (.mk c (.refl c) q)⟩
theorem OP (h:TOk K L e t) (hs:AOk K L es ts):AOk K L (e::es) (t::ts):=fun A c ρ Q X R F=>by
 rw [arm_allTrue_cons,arm_allTrue_cons]
 refine ⟨fun q=>wpAny_bind (Na (.refl c) (h A c ρ _ X R F q) fun c₁ b s₁ _ q₁=>?_),fun q=>wpAny_bind (Na (.refl c) (h A c ρ _ X R F q) fun c₁ b s₁ _ q₁=>?_)⟩
 ·cases b with
  | false=>exact wpAny_pure (.mk c₁ s₁ q₁)
  | true=>exact Od s₁ ((hs A c₁ ρ Q X R (F.step s₁)).1 q₁)
 ·cases b with
  | true=>exact wpAny_pure (.mk c₁ s₁ q₁)
  | false=>exact Od s₁ ((hs A c₁ ρ Q X R (F.step s₁)).2 q₁)
theorem P5:Idx k n j→seqIndex? k n=some j∧j<n
 | .inl ⟨e,h⟩=>⟨by subst e;unfold seqIndex?;simp only [if_neg (Int.not_lt.mpr (Int.natCast_nonneg j))];rw [if_pos (by simp [h])];rfl,h⟩
 | .inr ⟨e,h⟩=>have hj:j<n:=Int.ofNat_lt.mp (e▸Int.add_lt_of_lt_sub_right (Int.sub_self _▸h))
  ⟨by unfold seqIndex?;simp only [if_pos h];rw [if_pos (by simp;exact ⟨ai3 .le .n0 (.a .v0 .v1) (.p (.a .v0 .v1) .v2 (.l .n0 .v2 .e)) rfl e (Int.natCast_nonneg _),ai2 .lt (.a .v0 .v1) .v1 (.t .v0 .n0 .e) rfl h⟩),e];rfl,hj⟩
theorem KA (h:small i=true):-(2 ^ 63)≤i:=of_decide_eq_true (Bool.and_eq_true_iff.mp h).1
theorem Jb (h:small i=true):i<2 ^ 63:=of_decide_eq_true (Bool.and_eq_true_iff.mp h).2
theorem Td {A:Around} {c:Cf K.h₀} {Q:AN} {E:Value→Shared→Prop} {value slice:Expr} {V W:Mine.Internal.V} {a i:Value} (ra:Rel c.s.heap c.φ V a) (ri:Rel c.s.heap c.φ W i) (hs:F6 slice) (q:Sa c.σ Q W V):wpAny K.M A (PyProof.Rows.subscriptTail value slice a i) (PV c Q) E c.s:=by
 replace q:=SD q
 cases q with
 | tup hk hi e q=>
  refine Af ra fun t items n ze1 g rl=>?_;subst ze1
  apply Ei ri;intro u
  refine AC (rl.get e) fun y ey ry=>?_
  exact PyProof.Rows.item_tupleT (l:=items.toList) ⟨_,g,rfl,n,rfl⟩ (KA hk) (Jb hk) (rl.length▸(P5 hi).1) ey (PV.same ry q) (hs _ _)
 | list em hi e q=>
  apply Cf.listE em ra;intro l items n _ g rl z
  apply Ei ri;intro u
  refine AC (rl.get e) fun y ey ry=>?_
  refine PyProof.Rows.tail_any (T:="list") ⟨_,g,rfl⟩ slot_list_getitem.lookup ?_ (hs _ _)
  rw [Array.getElem?_toList] at ey
  rcases hi with ⟨rfl,hj⟩ | ⟨hj,hk⟩
  ·exact wpAny_getItem_list g.isList (Int.natCast_nonneg _) (Int.ofNat_lt.mpr (Nat.lt_of_lt_of_le hj (Nat.le_trans z (by decide)))) ey (PV.same ry q)
  ·rw [← rl.size] at hj
   have z':items.size≤16000000:=rl.size▸z
   have hk':=ai3 .le (.g .v0) .v1 (.p (.a .v1 .v0) .v2 (.l .n0 .v2 .e)) rfl hj (Int.natCast_nonneg _)
   exact wpAny_getItem_list_neg g.isList hk hk' (Int.le_trans (Int.le_trans (by decide) (Int.neg_le_neg (Int.ofNat_le.mpr z'))) hk') (hj▸ey) (PV.same ry q)
 | str hk hi e q=>
  apply Ei ra;intro t
  apply Ei ri;intro u
  refine PyProof.Rows.tail_any (T:="str") (typeIs_str _ _ _) F.slot_str_getitem.lookup ?_ (hs _ _)
  exact PySem.P.getItem_str (by rw [decide_eq_false (Int.not_lt.mpr (KA hk)),decide_eq_false (Int.not_le.mpr (Jb hk))];rfl) (by rw [(P5 hi).1];exact e) (PV.plain B0 q)
 | dict em e q=>
  apply Cf.dictE em ra;intro a us _ D P _ _
  apply Ei ri;intro t
  refine AC (P.at.1 _ e) fun v ev rv=>?_
  exact PyProof.Rows.tail_any (T:="dict") D.dictOf.typeIs slot_dict_getitem.lookup (wpAny_getItem_of (strKind_is _ _ _ t) D.dictOf.mapOf ev (PV.plain rv q)) (hs _ _)
theorem Sv {pos} (hs:F6 r) (hl:EOk K L l a) (hr:EOk K L r b):EOk K L (.Subscript l r pos) (AL a b):=fun A c ρ _ X R F q=>
 PyProof.Rows.Subscript_ (seq (.refl c) (hl A c ρ _ X R F q) fun c₁ _ _ s₁ _ r₁ q₁=>seq s₁ (hr A c₁ ρ _ X R (F.step s₁) q₁) fun _ _ _ s₂ t₂ r₂ q₂=>fin s₂ (Td (r₁.step t₂) r₂ hs q₂))
end
end Mine.Internal
namespace Mine.Internal
open PySem PySem.Calls
theorem Dj:∀ (xs:List Str) (vs:List Value) (T:List (Str × Value)),xs.Nodup→xs.length=vs.length→(∀ n∈xs,T.lookup n=(xs.zip vs).lookup n)→xs.filterMap (fun n=>(T.lookup n).map (n,·))=xs.zip vs
 | [],_,_,_,_,_=>by rw [List.zip_nil_left];rfl
 | x::xs,v::vs,T,hnd,hl,hT=>by
  have hx:=List.nodup_cons.mp hnd
  have h1:T.lookup x=some v:=(hT x List.mem_cons_self).trans (by rw [List.zip_cons_cons,List.lookup_cons,beq_self_eq_true])
  rw [List.filterMap_cons,h1]
  refine congrArg _ (Dj xs vs T hx.2 (Nat.succ.inj hl) fun n hn=>(hT n (List.mem_cons_of_mem _ hn)).trans ?_)
  rw [List.zip_cons_cons,List.lookup_cons,beq_eq_false_iff_ne.mpr (show n≠x from fun e=>hx.1 (e▸hn))]
theorem DV:∀ {names:List Str} {vals:List Value},names.length=vals.length→∀ n∈names,((names.zip vals).lookup n).isNone=false
 | x::xs,v::vs,hl,n,hn=>by
  rw [List.zip_cons_cons,List.lookup_cons]
  cases h:n==x with
  | true=>rfl
  | false=>exact DV (Nat.succ.inj hl) n ((List.mem_cons.mp hn).resolve_left fun e=>by rw [e,beq_self_eq_true] at h;cases h)
theorem KP {names:List Str} {vals:List Value} {k:Nat} (h:names.length=vals.length):(names.take k).filter (fun n=>((names.zip vals).lookup n).isNone)=[]:=
 List.filter_eq_nil_iff.mpr fun n hn=>Bool.eq_false_iff.mp (DV h n (List.mem_of_mem_take hn))
theorem JX {names:List Str} {vals:List Value} {k:Nat} (h:names.length=vals.length):¬ (!((names.take k).filter (fun n=>((names.zip vals).lookup n).isNone)).isEmpty)=true:=by rw [KP h];exact nofun
theorem DZ {vals:List Value} (hp:fd.params=⟨[],args,none,[],[],none,[]⟩) (hd:fd.defaults=.none)
  (hlen:(args.map (·.arg)).length=vals.length) (hnd:(args.map (·.arg)).Nodup):bindArgs fd ⟨vals,[]⟩=pure ((args.map (·.arg)).zip vals):=by
 obtain ⟨_,_,params⟩:=fd
 dsimp only at hp hd
 subst hp hd
 have e:((args.map Arg.arg)++[]).filterMap (fun n=>(((args.map Arg.arg).zip vals).lookup n).map (n,·))=(args.map Arg.arg).zip vals:=(congrArg _ (List.append_nil _)).trans (Dj (args.map Arg.arg) vals _ hnd hlen fun _ _=>rfl)
 refine Eq.trans (if_neg ?_) (Eq.trans (if_neg ?_) ?_)
 ·exact fun h=>Nat.not_lt.mpr (Nat.le_of_eq hlen.symm) (of_decide_eq_true (Bool.and_eq_true_iff.mp h).1)
 ·exact JX hlen
 ·refine Eq.trans (congrArg (fun l=>forIn (m:=Sem) l _ _ >>= _) (show List.zip (List.drop _ (args.map (·.arg))) (List.drop _ ([]:List Value))=[] from ?_)) ?_
  ·rw [List.drop_nil,List.zip_nil_right]
  ·exact congrArg (pure (f:=Sem)) e
theorem DT {h:Heap} {a b:Addr} {m:Str→Option Value} {ov:Option Value} (n:h.Ns a m) (x:h.IsCell b ov):b≠a:=fun e=>by
 refine DU (CO n) fun o e1 es ep d=>?_
 refine AC x fun o' e' d'=>?_
 rw [e,e1] at e';cases e';cases d.symm.trans d'
theorem EX {α:Type} {l:List α} {i j:Nat} {x:α} (h:i≠j):(l.set i x)[j]?=l[j]?:=List.getElem?_set_ne h
theorem CZ {α:Type} {l:List α} {i:Nat} {x y:α} (h:(l.set i x)[i]?=some y):x=y:=by
 rw [List.getElem?_set,if_pos rfl] at h
 split at h
 ·exact Option.some.inj h
 ·cases h
theorem SlotIs.other {V:V} (x:SlotIs c ρ j ov) (h:i≠j):SlotIs c (ρ.set i V) j ov:=fun W hW hne=>x W (EX h▸hW) hne
theorem SlotIs.this {h₀:Bs} {c:Cf h₀} {ρ:List V} {i:Nat} {V:V} {v:Value} (r:Rel c.s.heap c.φ V v):SlotIs c (ρ.set i V) i (some v):=fun _ hW _=>⟨v,rfl,CZ hW▸r⟩
section
variable {K:Ctx} {L:Loc} {A:Around} {c:Cf K.h₀} {ρ:List V} {E:Value→Shared→Prop}
theorem Dp {V:V} (F:Fr c L ρ) (hx:L.vs.lookup x=some i) (hk:L.env.kindOf x=some .local) (r:Rel c.s.heap c.φ V v)
  (h:∀ c':Cf K.h₀,c'.φ=c.φ→c'.σ=c.σ→Stp (·=L.env.locals) c c'→Fr c' L (ρ.set i V)→Q () c'.s):wpAny K.M A (storeName L.env x v) Q E c.s:=by
 cases F.ns with
 | mk m n rn=>
 refine wpAny_storeName_local hk n (fun h' hn hs=>?_) (by rw [F.fn];rfl)
 have ho:∀ a,a=L.env.locals→A5 c.s.heap a∧a∉c.φ∧K.h₀.get? a=none:=fun a e=>e▸⟨Cg n,F.locOut,F.locNew⟩
 have kk:∀ b o,¬ b=L.env.locals→c.s.heap.get? b=some o→h'.get? b=some o:=fun b o hb e=>(hs.2 b hb).trans e
 have st:Stp (·=L.env.locals) c (c.keepOwn { c.s with heap:=h',toks:=c.s.toks+1 } kk ho):=Cf.keepOwn_stp ⟨rfl,rfl⟩ fun b _ e _=>e▸let ⟨o,e',_⟩:=CO hn;⟨o,e'⟩
 have ht:∀ a,a=L.env.locals→A5 c.s.heap a:=fun a e=>(ho a e).1
 have ij:∀ {y j},L.vs.lookup y=some j→y≠x→i≠j:=fun hy ne e=>ne (F.inj _ x i (e▸hy) hx)
 refine h (c.keepOwn _ kk ho) rfl rfl st ⟨F.fn,F.glob,F.blt,F.locNew,F.locOut,F.inj,.mk _ hn fun y j hy hky=>?_,fun y j hy hky=>?_,F.cellInj,fun e m'=>?_⟩
 ·by_cases hyx:y=x
  ·subst hyx
   cases hx.symm.trans hy
   rw [if_pos rfl];exact SlotIs.this (r.own st.toWStp ht)
  ·rw [if_neg hyx];exact ((rn y j hy hky).own st.toWStp ht).other (ij hy hyx)
 ·cases F.cell y j hy hky with
  | mk a ov e1 e2 e3 ic rc=>
  refine .mk a ov e1 e2 e3 (HU ic fun o e=>kk a o (DT n ic) e) ((rc.own st.toWStp ht).other (ij hy ?_))
  rintro rfl
  rw [hk] at hky;refine Or.elim hky (fun q=>?_) (fun q=>?_) <;> cases q
 ·refine C4 (F.up e m') fun k f m₁ f1 f2 f3 n₁=>?_
  by_cases hf:f=L.env.locals
  ·exact ⟨k,f,_,f1,f2,f3,hf▸hn⟩
  ·exact ⟨k,f,m₁,f1,f2,f3,Hz n₁ fun o e=>kk f o hf e⟩
theorem LB {V:V} (F:Fr c L ρ) (hx:L.vs.lookup x=some i) (hk:L.env.kindOf x=some .cell) (r:Rel c.s.heap c.φ V v)
  (h:∀ c':Cf K.h₀,c'.φ=c.φ→c'.σ=c.σ→Stp L.own c c'→Fr c' L (ρ.set i V)→Q () c'.s):wpAny K.M A (storeName L.env x v) Q E c.s:=by
 cases F.ns with
 | mk m n rn=>
 cases F.cell x i hx (.inl hk) with
 | mk a ov e1 e2 e3 ic rc=>
 refine wpAny_storeName_cell F.fn hk e1 ic fun h' ic' hs=>?_
 have ho:∀ b,b=a→A5 c.s.heap b∧b∉c.φ∧K.h₀.get? b=none:=fun b e=>e▸⟨GW ic,e2,e3⟩
 have kk:∀ b o,¬ b=a→c.s.heap.get? b=some o→h'.get? b=some o:=fun b o hb e=>(hs.2 b hb).trans e
 have st:Stp (·=a) c (c.keepOwn { c.s with heap:=h' } kk ho):=Cf.keepOwn_stp ⟨rfl,rfl⟩ fun b _ e _=>e▸let ⟨o,e',_⟩:=ic';⟨o,e'⟩
 have ht:∀ b,b=a→A5 c.s.heap b:=fun b e=>(ho b e).1
 have ij:∀ {y j},L.vs.lookup y=some j→y≠x→i≠j:=fun hy ne e=>ne (F.inj _ x i (e▸hy) hx)
 refine h (c.keepOwn _ kk ho) rfl rfl (st.wider fun b e=>.inr ⟨x,i,hx,hk,e▸e1⟩) ⟨F.fn,F.glob,F.blt,F.locNew,F.locOut,F.inj,.mk m (Hz n fun o e=>kk _ o (Ne.symm (DT n ic)) e) fun y j hy hky=>?_,fun y j hy hky=>?_,F.cellInj,fun e m'=>?_⟩
 ·refine ((rn y j hy hky).own st.toWStp ht).other (ij hy ?_)
  rintro rfl
  rw [hk] at hky;cases hky
 ·by_cases hyx:y=x
  ·subst hyx
   cases hx.symm.trans hy
   exact .mk a (some v) e1 e2 e3 ic' (SlotIs.this (r.own st.toWStp ht))
  ·cases F.cell y j hy hky with
   | mk b ov' f1 f2 f3 ic2 rc2=>
   exact .mk b ov' f1 f2 f3 (HU ic2 fun o e=>kk b o (fun e=>hyx (F.cellInj y x j i a hy hx (e▸f1) e1)) e) ((rc2.own st.toWStp ht).other (ij hy hyx))
 ·refine C4 (F.up e m') fun k f m₁ f1 f2 f3 n₁=>?_
  exact ⟨k,f,m₁,f1,f2,f3,Hz n₁ fun o e=>kk f o (Ne.symm (DT n₁ ic)) e⟩
theorem Jh {V:V} (F:Fr c L ρ) (hx:L.vs.lookup x=some i) (hk:L.env.kindOf x=some .local∨L.env.kindOf x=some .cell) (r:Rel c.s.heap c.φ V v)
  (h:∀ c':Cf K.h₀,c'.φ=c.φ→c'.σ=c.σ→Stp L.own c c'→Fr c' L (ρ.set i V)→Q () c'.s):wpAny K.M A (storeName L.env x v) Q E c.s:=
 hk.elim (fun hk=>Dp F hx hk r fun c' e1 e2 st F'=>h c' e1 e2 (st.wider fun _ e=>.inl e) F') fun hk=>LB F hx hk r h
inductive CNames (L:Loc):List Expr→List Nat→Prop
 | nil:CNames L [] []
 | cons {x:Str} {i:Nat} {p:Pos} {es:List Expr} {is:List Nat}:L.vs.lookup x=some i→L.env.kindOf x=some .local∨L.env.kindOf x=some .cell→CNames L es is→CNames L (.Name x p::es) (i::is)
inductive CPat (L:Loc):Expr→Pat→Prop
 | name {x:Str} {i:Nat} {p:Pos}:L.vs.lookup x=some i→L.env.kindOf x=some .local∨L.env.kindOf x=some .cell→CPat L (.Name x p) (.var i)
 | tup {es:List Expr} {is:List Nat} {k:Nat} {p:Pos}:CNames L es is→CPat L (.Tuple es k p) (.tup is)
theorem CNames.len (h:CNames L es is):(assignEach es L.env).length=is.length:=by
 induction h with
 | nil=>rfl
 | cons _ _ _ ih=>exact congrArg (·+1) ih
theorem CNames.noStar (h:CNames L es is):(assignEach es L.env).findIdx? (·.1)=none:=by
 induction h with
 | nil=>rfl
 | cons _ _ _ ih=>
  show ((false,_)::assignEach _ L.env).findIdx? _=none
  rw [List.findIdx?_cons,ih];rfl
theorem Nm (h:CNames L es is):∀ {c:Cf K.h₀} {ρ Vs:List V} {us:List Value} {Q:Unit→Shared→Prop},Fr c L ρ→RelL c.s.heap c.φ Vs us→is.length=Vs.length →
  (∀ c':Cf K.h₀,c'.φ=c.φ→c'.σ=c.σ→Stp L.own c c'→Fr c' L (GV is Vs ρ)→Q () c'.s)→wpAny K.M A (assignInOrder ((assignEach es L.env).map (·.2)) us) Q E c.s:=by
 induction h with
 | nil=>
  intro c ρ Vs us Q F r hl hQ
  cases List.length_eq_zero_iff.mp hl.symm
  exact wpAny_pure (hQ c rfl rfl (.refl c) F)
 | @cons x i p es is hx hk _ ih=>
  intro c ρ Vs us Q F r hl hQ
  match Vs,us,r with
  | [],_,_=>cases hl
  | V::Vs,u::us,r=>
   show wpAny K.M A (do holding us (assign (.Name x p) L.env u);assignInOrder ((assignEach es L.env).map (·.2)) us) Q E c.s
   exact wpAny_bind (wpAny_holding (wpAny_assign_Name (Jh F hx hk r.1 fun c₁ e1 e2 st F₁=>ih F₁ (r.2.own st.toWStp fun _ m=>F.noTup m) (Nat.succ.inj hl) fun c₂ f1 f2 st₂ F₂=>hQ c₂ (f1.trans e1) (f2.trans e2) (st.trans st₂) F₂)))
theorem Hm (h:CPat L t p) {V:V} (hh:A.handled=none) (F:Fr c L ρ) (r:Rel c.s.heap c.φ V v) (e:Jd c.σ T ρ V p)
  (hQ:∀ (c':Cf K.h₀) (ρ':List Mine.Internal.V),c'.φ=c.φ→c'.σ=c.σ→Stp L.own c c'→Fr c' L ρ'→T ρ'→Q () c'.s):wpAny K.M A (assign t L.env v) Q E c.s:=by
 have kx:∀ {h':Heap} {m:Nat},(∀ b o,b≠m→c.s.heap.get? b=some o→h'.get? b=some o)→c.s.heap.objs.size≤m→∀ b o,c.s.heap.get? b=some o→h'.get? b=some o:=fun kx hm b o e=>kx b o (Nat.ne_of_lt (Nat.lt_of_lt_of_le (Heap.lt_size e) hm)) e
 have go:∀ {es:List Expr} {is:List Nat} {Vs:List Mine.Internal.V} {us:List Value} {h':Heap},CNames L es is→RelL c.s.heap c.φ Vs us→is.length=Vs.length→T (GV is Vs ρ)→(∀ b o,c.s.heap.get? b=some o→h'.get? b=some o) →
   wpAny K.M A (assignInOrder ((assignEach es L.env).map (·.2)) us) Q E { c.s with heap:=h' }:=fun hn rl hl q k=>
  have st:Stp AO c (c.keep { c.s with heap:=_ } k):=Cf.keep_stp ⟨rfl,rfl⟩
  Nm (c:=c.keep { c.s with heap:=_ } k) hn (F.step st) (rl.step st) hl fun c' e1 e2 st₂ F₂=>hQ c' _ e1 e2 (st.any.trans st₂) F₂ q
 cases h with
 | name hx hk=>exact wpAny_assign_Name (Jh F hx hk r fun c' e1 e2 st F'=>hQ c' _ e1 e2 st F' e)
 | @tup es is k p hn=>
  replace e:=RY e
  cases e with
  | tup hl q=>
   refine Af r fun a items n ze1 g rl=>?_;subst ze1
   exact wpAny_assign_Tuple hh ⟨_,g,rfl,n,rfl⟩ (by rw [hn.len,hl,rl.size]) hn.noStar fun h' k'=>go hn rl hl q (kx k' (Nat.le_refl _))
end
end Mine.Internal
namespace Mine.Internal
open PySem PySem.Calls
set_option genSizeOf false
set_option genInjectivity false
section
variable {K:Ctx}
inductive PF (c:Cf K.h₀) (L:Loc) (Q:CU):Flow→Shared→Prop
 | next (c':Cf K.h₀) (ρ':List V):Stp L.own c c'→Fr c' L ρ'→Q .next ρ' c'.σ→PF c L Q .next c'.s
 | ret (c':Cf K.h₀) (ρ':List V) (V:V) (v:Value):Stp L.own c c'→Fr c' L ρ'→Rel c'.s.heap c'.φ V v→Q (.ret V) ρ' c'.σ→PF c L Q (.ret v) c'.s
inductive PE (c:Cf K.h₀) (L:Loc) (Q:CU):Value→Shared→Prop
 | mk (c':Cf K.h₀) (ρ':List V) (k:Nat) (a:Addr) (fp:List Addr) (fl:Option Addr):(∀ b∈fp,c.s.heap.get? b=none∧b∉c'.φ)→k∈K.excs→Stp L.own c c'→Fr c' L ρ'→Exc c'.s.heap a k fp fl→fl=none∨fl=L.env.frame→Q (.exc k) ρ' c'.σ→PE c L Q (.ref a) c'.s
variable {c₀ c:Cf K.h₀} {L:Loc} {ρ:List V} {Q:CU}
theorem PF.lift (st:Stp L.own c₀ c) (y:PF c L Q f s):PF c₀ L Q f s:=
 y.casesOn (fun c' ρ' s F q=>.next c' ρ' (st.trans s) F q) fun c' ρ' V v s F r q=>.ret c' ρ' V v (st.trans s) F r q
theorem PE.lift (st:Stp L.own c₀ c) (y:PE c L Q e s):PE c₀ L Q e s:=y.casesOn fun c' ρ' k a fp fl n hk s F x h q=>.mk c' ρ' k a fp fl (fun b m=>⟨st.gone (n b m).1,(n b m).2⟩) hk (st.trans s) F x h q
theorem PX.toE (F:Fr c L ρ) (y:PX c (fun k σ=>Q (.exc k) ρ σ) e s):PE c L Q e s:=y.casesOn fun c' k a fp n hk st x q=>.mk c' ρ k a fp none n hk st.any (F.step st) x (.inl rfl) q
noncomputable def An (h:Heap):List Addr→Heap
 | []=>h
 | a::l=>(An h l).hide a
theorem Dy:∀ {l:List Addr},b∉l→h.get? b=some o→(An h l).get? b=some o
 | [],_,e=>e
 | a::_,n,e=>(Heap.hide_ne _ (fun q:b=a=>n (q▸List.mem_cons_self))).trans (Dy (fun m=>n (List.mem_cons_of_mem _ m)) e)
theorem ER:∀ {l:List Addr},(An h l).get? b=some o→b∉l∧h.get? b=some o
 | [],e=>⟨List.not_mem_nil,e⟩
 | a::l,e=>by
  have hb:b≠a:=fun q=>by rw [q] at e;exact nomatch (Heap.hide_self (An h l) a).symm.trans e
  obtain ⟨n,e'⟩:=ER (Heap.of_hide e)
  exact ⟨fun m=>(List.mem_cons.mp m).elim hb n,e'⟩
theorem Br (m:b∈l):(An h l).get? b=none:=by
 cases e:(An h l).get? b with
 | none=>rfl
 | some o=>exact absurd m (ER e).1
abbrev Loc.frs (L:Loc):List Addr:=L.up.filterMap (·.frame)
theorem MD {h base:Heap} {l:List Env} (q:∀ e∈l,e.scope.kind≠.module∧∃ f m,e.frame=some f∧base.get? f=none∧h.Ns f m):h.FunFrames base l:=by
 induction l with
 | nil=>trivial
 | cons e l ih=>exact CG (q e List.mem_cons_self) fun k f _ e1 e2 n=>DU (CO n) fun o e3 _ _ d=>⟨k,⟨f,o,e1,e2,e3,fun _ e'=>nomatch d.symm.trans e'⟩,ih fun e' m=>q e' (List.mem_cons_of_mem _ m)⟩
theorem QU {l:List Env} {f:Addr} (m:f∈l.filterMap (·.frame)):∃ e∈l,e.frame=some f:=List.mem_filterMap.mp m
theorem NT {c:Cf K.h₀} {L:Loc} {ρ:List V} {a:Addr} {k:Nat} {fp:List Addr} {fl:Option Addr} {h':Heap} (F:Fr c L ρ) (x:Exc c.s.heap a k fp fl) (hn:∀ b∈fp,K.h₀.get? b=none∧b∉c.φ)
  (hs:(An c.s.heap (fp++L.frs)).StaysIn h') (hu:c.s.heap.UpToSlots h'):∃ c':Cf K.h₀,c'.s={ c.s with heap:=h' }∧c'.φ=c.φ∧c'.σ=c.σ∧WStp (·∈fp) c c'∧Fr c' L ρ:=by
 have fr:∀ f∈L.frs,∃ m,K.h₀.get? f=none∧f∉c.φ∧c.s.heap.Ns f m:=fun f m=>by
  refine AC (QU m) fun e he hf=>?_
  refine C4 (F.up e he) fun _ f' m' e1 e2 e3 n=>?_
  cases hf.symm.trans e1
  exact ⟨m',e2,e3,n⟩
 have ke:∀ b o,b∉fp→b∉L.frs→c.s.heap.get? b=some o→h'.get? b=some o:=fun b o h1 h2 e=>hs b o (Dy (fun m=>(List.mem_append.mp m).elim h1 h2) e)
 have nofp:∀ b∈fp,A5 c.s.heap b:=fun b m=>CD (x.fields b m) fun _ _ e d=>Ix e fun _ _ e'=>nomatch d.symm.trans e'
 have S:Sim K.h₀ h' c.φ c.σ:=by
  refine c.sim.keeps (own:=fun b=>b∈fp∨b∈L.frs) (fun b o hb e=>ke b o (fun m=>hb (.inl m)) (fun m=>hb (.inr m)) e) fun b m=>?_
  refine Or.elim m (fun m=>?_) (fun m=>?_)
  ·exact ⟨nofp b m,(hn b m).2,(hn b m).1⟩
  ·refine Ab (fr b m) fun _ e2 e3 n=>?_
   exact ⟨Cg n,e3,e2⟩
 have st:WStp (·∈fp) c ⟨{ c.s with heap:=h' },c.φ,c.σ,S⟩:=⟨⟨rfl,rfl⟩,List.prefix_refl _,fun b o _ hb e=>by
  by_cases hf:b∈L.frs
  ·refine Ab (fr b hf) fun _ _ _ n=>?_
   refine DU (CO n) fun o' e' es ep d=>?_
   cases e.symm.trans e'
   refine AQ (hu b o e fun _ q=>nomatch d.symm.trans q) fun sl e2=>?_
   exact ⟨_,e2,sl,rfl,fun q=>absurd d (q es ep)⟩
  ·exact ⟨o,ke b o hb hf e,.refl o⟩,fun _ m=>.inl m⟩
 refine ⟨⟨{ c.s with heap:=h' },c.φ,c.σ,S⟩,rfl,rfl,rfl,st,F.keep st nofp (fun f m n _ hm=>?_) fun b ov ic hm=>?_⟩
 ·refine CD (x.fields f hm) fun _ _ e d=>?_
  refine DU (CO n) fun _ e' _ _ d'=>?_
  cases e.symm.trans e';cases d.symm.trans d'
 ·refine CD (x.fields b hm) fun _ _ e d=>?_
  refine AC ic fun _ e' d'=>?_
  cases e.symm.trans e';cases d.symm.trans d'
theorem K5 (hm:a∈fp) (hl:h'.FunFrames (An c.s.heap (fp++L.frs)) L.up)
  (x:h'.TracedAtW (An c.s.heap (fp++L.frs)) a (.ref k) a0 (fl.elim .none fun f=>rawInt f)):∃ T,Exc h' a k [a,T] fl∧∀ b∈[a,T],b∈fp∨c.s.heap.get? b=none:=by
 obtain ⟨oe,vs,T,oT,ts,he,⟨hc,h0⟩,hd,h1,hT,hne,heT,hdT,h3⟩:=x
 refine ⟨T,.seen oe vs a0 T oT ts fl he hc hd h0 h1 hne heT hdT h3,fun b m=>?_⟩
 rcases List.mem_cons.mp m with rfl | m
 ·exact .inl hm
 ·cases List.mem_singleton.mp m
  by_cases hf:T∈fp
  ·exact .inl hf
  ·refine .inr ?_
   cases e:c.s.heap.get? T with
   | none=>rfl
   | some o=>
    have:=Dy (l:=fp++L.frs) (fun m=>(List.mem_append.mp m).elim hf fun m=>by
     refine CM (hl.mem m) fun _ o' e' nf=>?_
     cases heT.symm.trans e';exact nf ts hdT) e
    cases hT.symm.trans this
structure AtFr (K:Ctx) (A:Around) (L:Loc) (c:Cf K.h₀) (ρ:List V) (a:Addr) (k:Nat) (fp:List Addr) (fl:Option Addr):Prop where
 R:A.frames=some L.up
 hu:L.up=L.env::L.up.tail
 F:Fr c L ρ
 x:Exc c.s.heap a k fp fl
 hfl:fl=none∨fl=L.env.frame
 hn:∀ b∈fp,K.h₀.get? b=none∧b∉c.φ
theorem AtFr.base {A:Around} {L:Loc} {c:Cf K.h₀} {ρ:List V} {a:Addr} {k:Nat} {fp:List Addr} {fl:Option Addr} (z:AtFr K A L c ρ a k fp fl) :
  A.frames=some (L.env::L.up.tail)∧c.s.heap.FunFrames (An c.s.heap (fp++L.frs)) (L.env::L.up.tail)∧(∃ f,L.env.frame=some f)∧(An c.s.heap (fp++L.frs)).StaysIn c.s.heap∧(An c.s.heap (fp++L.frs)).get? a=none:=by
 refine ⟨z.hu▸z.R,MD fun e m=>?_,?_,fun b o e=>(ER e).2,Br (List.mem_append_left _ z.x.mem)⟩
 ·rw [← z.hu] at m
  refine C4 (z.F.up e m) fun h1 f m' e1 _ _ n=>?_
  exact ⟨h1,f,m',e1,Br (List.mem_append_right _ (List.mem_filterMap.mpr ⟨e,m,e1⟩)),n⟩
 ·refine LJ (z.F.up L.env (z.hu▸List.mem_cons_self)) fun _ f _ e1 _=>?_
  exact ⟨f,e1⟩
noncomputable def XKeep {K:Ctx} (c:Cf K.h₀) (L:Loc) (ρ:List V) (a:Addr) (k:Nat) (fp:List Addr) (fl:Option Addr) (P:Shared→Prop):Prop:=
 ∀ (c':Cf K.h₀) (T:Addr),c'.φ=c.φ→c'.σ=c.σ→WStp (·∈fp) c c'→Fr c' L ρ→Exc c'.s.heap a k [a,T] fl→(∀ b∈[a,T],b∈fp∨c.s.heap.get? b=none)→P c'.s
theorem XKeep.use (h:XKeep c L ρ a k fp fl' P) (F:Fr c L ρ) (x:Exc c.s.heap a k fp fl) (hn:∀ b∈fp,K.h₀.get? b=none∧b∉c.φ)
  (hs:(An c.s.heap (fp++L.frs)).StaysIn h') (hl:h'.FunFrames (An c.s.heap (fp++L.frs)) L.up) (ht:h'.TracedAtW (An c.s.heap (fp++L.frs)) a (.ref k) a0 (fl'.elim .none fun f=>rawInt f)) (hu:c.s.heap.UpToSlots h'):P { c.s with heap:=h' }:=by
 refine Bu (NT F x hn hs hu) fun c' e1 e2 e3 st F'=>?_
 refine AC (K5 x.mem hl ht) fun T ex hp=>?_
 exact e1▸h c' T e2 e3 st F' (by rw [e1];exact ex) hp
theorem XKeep.same (h:XKeep c L ρ a k [a,T] fl P) (F:Fr c L ρ) (x:Exc c.s.heap a k [a,T] fl):P c.s:=
 h c T rfl rfl (Stp.refl c).toWStp F x fun _ m=>.inl m
theorem L6 (z:AtFr K A L c ρ a k fp fl) (h:XKeep c L ρ a k fp L.env.frame P) :
  wpAny K.M A (noteFrame (.ref a) L.env) (fun _ s=>P s) E c.s:=by
 refine Eg z.base fun hfr hl zt1 hkb hen=>AQ zt1 fun f hf=>?_
 have hfe:rawInt f=L.env.frame.elim .none fun f=>rawInt f:=by rw [hf];rfl
 have go:∀ {h':Heap} {a0:Value},Heap.NotedW (An c.s.heap (fp++L.frs)) (L.env::L.up.tail) a (.ref k) a0 (rawInt f) c.s.heap h'→P { c.s with heap:=h' }:=fun ⟨k1,k2,k3,k4⟩=>h.use z.F z.x z.hn k1 (z.hu▸k2) (hfe▸k3) k4
 cases z.x with
 | new oe vs a0 e hc d h0 h1=>
  unfold noteFrame
  simp only [hf]
  refine wpAny_bind (wpAny_field e d h1 ?_)
  rw [if_neg (by decide)]
  exact wpAny_entryW hfr hl hf e hkb hen d (Array.getElem?_eq_some_iff.mp h1).1 h0 fun h' hN=>go (hc▸hN)
 | seen oe vs a0 T oT ts fl e hc d h0 h1 hne heT hdT h3=>
  have ht:fl=none∨fl=some f:=z.hfl.imp id fun q=>q.trans hf
  have hT:(An c.s.heap ([a,T]++L.frs)).get? T=none:=Br (List.mem_append_left _ (List.mem_cons_of_mem _ List.mem_cons_self))
  rcases ht with rfl | rfl
  ·exact wpAny_noteFrame_onW hfr hl hf ⟨oe,vs,T,oT,ts,e,⟨hc,h0⟩,d,h1,hT,hne,heT,hdT,h3⟩ hkb hen fun h' hN=>go hN
  ·exact wpAny_noteFrame_againW (base:=An c.s.heap ([a,T]++L.frs)) hf ⟨oe,vs,T,oT,ts,e,⟨hc,h0⟩,d,h1,hT,hne,heT,hdT,h3⟩ (h.same z.F (hf▸z.x))
theorem C8 (z:AtFr K A L c ρ a k [a,T] fl) (h:XKeep c L ρ a k [a,T] fl' P) :
  wpAny K.M A (setFlight (.ref a) fl') (fun _ s=>P s) E c.s:=by
 refine Eg z.base fun hfr hl zt1 hkb hen=>AQ zt1 fun f hf=>?_
 have x:=z.x
 generalize hfp:[a,T]=fp at x
 cases x with
 | new=>cases hfp
 | seen oe vs a0 T' oT ts fl e hc d h0 h1 hne heT hdT h3=>
  cases hfp
  have hT:(An c.s.heap ([a,T]++L.frs)).get? T=none:=Br (List.mem_append_left _ (List.mem_cons_of_mem _ List.mem_cons_self))
  have hsz:3<ts.size:=(Array.getElem?_eq_some_iff.mp h3).1
  unfold setFlight
  refine wpAny_bind (wpAny_field e d h1 ?_)
  rw [if_pos (show (Value.ref T != Value.none)=true from rfl)]
  refine wpAny_setField heT hdT hsz ?_
  have other:∀ b,b≠T→(c.s.heap.update T (Obj.mapFields (·.setIfInBounds 3 (fl'.elim Value.none fun f=>rawInt f)))).get? b=c.s.heap.get? b:=fun b hb=>Heap.get?_update_other _ _ (Ne.symm hb)
  have noRec:∀ b o,c.s.heap.get? b=some o→(∀ vs,o.data≠.fields vs)→b≠T:=fun b o hb hnf q=>by
   rw [q,heT] at hb;injection hb with hb;subst hb;exact hnf ts hdT
  refine h.use (a0:=a0) z.F z.x z.hn (fun b o hb=>(other b fun q=>by rw [q,hT] at hb;cases hb).trans (hkb b o hb)) (z.hu▸hl.of_keeps fun b o hb hnf=>⟨o,(other b (noRec b o hb hnf)).trans hb,rfl⟩)
   ⟨oe,vs,T,_,_,(other a (Ne.symm hne)).trans e,⟨hc,h0⟩,d,h1,hT,hne,Heap.get?_update_self _ heT (Obj.isFreed_of_fields (Obj.data_mapFields hdT _)),Obj.data_mapFields hdT _,by rw [Array.getElem?_setIfInBounds_self_of_lt hsz]⟩ fun b o hb hnf=>⟨o.slots,(other b (noRec b o hb hnf)).trans hb⟩
theorem OJ (z:AtFr K A L c ρ a k fp fl) (h:XKeep c L ρ a k fp none P) :
  wpAny K.M A (leaving L.env (.ref a)) (fun _ s=>P s) E c.s:=by
 refine Eg z.base fun hfr hl zt1 hkb hen=>AQ zt1 fun f hf=>?_
 have go:∀ {h':Heap} {a0:Value},Heap.LeftW (An c.s.heap (fp++L.frs)) (L.env::L.up.tail) a (.ref k) a0 c.s.heap h'→P { c.s with heap:=h' }:=fun ⟨k1,k2,k3,k4⟩=>h.use z.F z.x z.hn k1 (z.hu▸k2) k3 k4
 cases z.x with
 | new oe vs a0 e hc d h0 h1=>exact wpAny_leaving_firstW hfr hl hf e hkb hen d h1 h0 fun h' hN=>go (hc▸hN)
 | seen oe vs a0 T oT ts fl e hc d h0 h1 hne heT hdT h3=>
  have ht:fl=none∨fl=some f:=z.hfl.imp id fun q=>q.trans hf
  have hT:(An c.s.heap ([a,T]++L.frs)).get? T=none:=Br (List.mem_append_left _ (List.mem_cons_of_mem _ List.mem_cons_self))
  rcases ht with rfl | rfl
  ·exact wpAny_leaving_nextW hfr hl hf ⟨oe,vs,T,oT,ts,e,⟨hc,h0⟩,d,h1,hT,hne,heT,hdT,h3⟩ hkb hen fun h' hN=>go hN
  ·unfold leaving
   exact wpAny_bind (wpAny_noteFrame_againW (base:=An c.s.heap ([a,T]++L.frs)) hf ⟨oe,vs,T,oT,ts,e,⟨hc,h0⟩,d,h1,hT,hne,heT,hdT,h3⟩ (C8 z h))
theorem PE.at (R:ROk K L.up A) (hu:L.up=L.env::L.up.tail):PE c L Q e s→∃ (c':Cf K.h₀) (ρ':List V) (k:Nat) (a:Addr) (fp:List Addr) (fl:Option Addr),e=.ref a∧c'.s=s∧AtFr K A L c' ρ' a k fp fl∧k∈K.excs∧Q (.exc k) ρ' c'.σ∧Stp L.own c c' ∧
  ∀ b∈fp,c.s.heap.get? b=none∧b∉c'.φ
 | .mk c' ρ' k a fp fl n hk st F x h q=>⟨c',ρ',k,a,fp,fl,rfl,rfl,⟨R.fr,hu,F,x,h,fun b m=>⟨c.sim.none₀ (n b m).1,(n b m).2⟩⟩,hk,q,st,n⟩
theorem EW {c c' c'':Cf K.h₀} {fp fp':List Addr} {own:Addr→Prop} (e1:c''.φ=c'.φ) (st:Stp own c c') (n:∀ b∈fp,c.s.heap.get? b=none∧b∉c'.φ) (h:∀ b∈fp',b∈fp∨c'.s.heap.get? b=none):∀ b∈fp',c.s.heap.get? b=none∧b∉c''.φ:=fun b m=>
 e1▸(h b m).elim (n b) fun e=>⟨st.gone e,c'.sim.out e⟩
inductive PN (c:Cf K.h₀) (L:Loc) (Q:CU):Value→Shared→Prop
 | mk (c':Cf K.h₀) (ρ':List V) (k:Nat) (a T:Addr):(∀ b∈[a,T],c.s.heap.get? b=none∧b∉c'.φ)→k∈K.excs→Stp L.own c c'→Fr c' L ρ'→Exc c'.s.heap a k [a,T] L.env.frame→Q (.exc k) ρ' c'.σ→PN c L Q (.ref a) c'.s
theorem PE.note {A:Around} {e:Value} {s:Shared} (R:ROk K L.up A) (hu:L.up=L.env::L.up.tail) (x:PE c L Q e s):notedBy K.M A L.env (PN c L Q) e s:=by
 refine Bi (x.at R hu) fun c' ρ' k a fp fl ze1 ze2 z hk q st n=>?_;subst ze1;subst ze2
 exact L6 (P:=fun s=>PN c L Q (.ref a) s) z fun c'' T e1 e2 st' F' ex hp=>.mk c'' ρ' k a T (EW e1 st n hp) hk (st.transNew st' fun b m=>(n b m).1) F' ex (e2▸q)
theorem Exc.traced (x:Exc h a k [a,T] fl):∃ oe vs,h.get? a=some oe∧oe.data=.fields vs∧vs[1]?=some (.ref T):=by
 cases x with
 | seen oe vs a0 T' oT ts fl e hc d h0 h1 hne heT hdT h3=>exact ⟨oe,vs,e,d,h1⟩
theorem PN.came {A:Around} {e:Value} {s:Shared} (R:ROk K L.up A) (hu:L.up=L.env::L.up.tail) (y:PN c L Q e s):cameBackBy K.M A L.env (PE c L Q) e s:=y.casesOn fun c' ρ' k a T n hk st F x q=>by
  have z:AtFr K A L c' ρ' a k [a,T] L.env.frame:=⟨R.fr,hu,F,x,.inr rfl,fun b m=>⟨c.sim.none₀ (n b m).1,(n b m).2⟩⟩
  refine A0 x.traced fun oe vs e d h1=>?_
  unfold cameBackBy
  refine wpAny_bind (wpAny_field e d h1 ?_)
  rw [if_neg (show ¬ (Value.ref T==Value.none)=true from nofun)]
  exact C8 (P:=fun s=>PE c L Q (.ref a) s) z fun c'' T e1 e2 st' F' ex hp=>.mk c'' ρ' k a [a,T] L.env.frame (EW e1 st n hp) hk (st.transNew st' fun b m=>(n b m).1) F' ex (.inr rfl) (e2▸q)
end
section
variable (K:Ctx) (L:Loc)
noncomputable def SOk (st:Stmt) (a:Sx):Prop:=∀ (A:Around) (c:Cf K.h₀) (ρ:List V) (Q:CU),ROk K L.up A→Fr c L ρ→a K.C ρ c.σ Q→wpAny K.M A (exec st L.env) (PF c L Q) (PE c L Q) c.s
noncomputable def SsOk (st:List Stmt) (a:List Sx):Prop:=∀ (A:Around) (c:Cf K.h₀) (ρ:List V) (Q:CU),ROk K L.up A→Fr c L ρ→BL a K.C ρ c.σ Q→wpAny K.M A (execs st L.env) (PF c L Q) (PE c L Q) c.s
structure RFun (K:Ctx) (up:List Env) (A:Around):Prop where
 hd:A.handled=none
 depth:A.depth+3*K.d<901
 units:A.units+12*K.d<9000
 fr:A.frames=some up
noncomputable def Om (st:List Stmt) (a:List Sx):Prop:=∀ (A:Around) (c:Cf K.h₀) (ρ:List V) (Q:CU),RFun K L.up A→Fr c L ρ→BL a K.C ρ c.σ Q→wpAny K.M A (execs st L.env) (PF c L Q) (PE c L Q) c.s
end
theorem RFun.ok (R:RFun K up A):ROk K up A:=⟨R.hd,Nat.lt_succ_of_lt R.depth,Nat.lt_of_lt_of_le R.units (by decide),R.fr⟩
theorem SsOk.f (h:SsOk K L st a):Om K L st a:=fun A c ρ Q R F q=>h A c ρ Q R.ok F q
noncomputable def OU (e:Expr):Prop:=∀ t l env,swapsWith e t l env=pure false
section
variable {K:Ctx} {L:Loc}
theorem inS (F:Fr c L ρ) (h:wpAny K.M A m (PV c T) (PX c fun k σ=>Q (.exc k) ρ σ) c.s)
  (k:∀ (c₁:Cf K.h₀) (V:V) (v:Value),Stp AO c c₁→Rel c₁.s.heap c₁.φ V v→T V c₁.σ→P v c₁.s):wpAny K.M A m P (PE c L Q) c.s:=
 wpAny_mono h (fun v _ y=>y.casesOn fun c₁ V s₁ r q=>k c₁ V v s₁ r q) fun _ _ x=>x.toE F
theorem QD (st:Stp AO c₀ c) (F:Fr c₀ L ρ) (h:wpAny K.M A m (PV c T) (PX c fun k σ=>Q (.exc k) ρ σ) c.s)
  (k:∀ (c₁:Cf K.h₀) (V:V) (v:Value),Stp AO c₀ c₁→Stp AO c c₁→Rel c₁.s.heap c₁.φ V v→T V c₁.σ→P v c₁.s):wpAny K.M A m P (PE c₀ L Q) c.s:=
 wpAny_mono h (fun v _ y=>y.casesOn fun c₁ V s₁ r q=>k c₁ V v (st.trans s₁) s₁ r q) fun _ _ x=>(x.lift st).toE F
theorem GR (h:env.scope.kind=.function):interactive env=false:=by unfold interactive;rw [h];rfl
theorem OM {pos} (hc:OU e) (h:EOk K L e a):SOk K L (.Expr e pos) (A8 a):=fun A c ρ _ R F q=>
 wpAny_Expr_any (inS F (h A c ρ _ _ R F q) fun c₁ _ _ s₁ _ q₁=>.next c₁ ρ s₁.any (F.step s₁) q₁) (GR F.fn) (hc _ _ _)
theorem RZ {pos} (h:EOk K L e a):SOk K L (.Return (some e) pos) (AW a):=fun A c ρ _ R F q=>
 wpAny_Return_some (inS F (h A c ρ _ _ R F q) fun c₁ V v s₁ r q₁=>.ret c₁ ρ V v s₁.any (F.step s₁) r q₁)
theorem Ps {pos}:SOk K L (.Return none pos) R8:=fun _ c ρ _ _ F q=>wpAny_Return_none (.ret c ρ .none .none (.refl c) F Ci q)
theorem Ol {pos}:SOk K L (.Pass pos) R7:=fun _ c ρ _ _ F q=>wpAny_bind (wpAny_standAt (wpAny_pure (.next c ρ (.refl c) F q)))
theorem EV {pos} (hc:swapsWith value (some t) pos.line L.env=pure false) (hw:swappedStores [t] value L.env=pure none) (hst:(assignEach [t] L.env).map (·.2)=[assign t L.env]) (ht:CPat L t p) (h:EOk K L value a) :
  SOk K L (.Assign [t] value pos) (AP p a):=fun A c ρ _ R F q=>
 wpAny_Assign_stores (inS F (h A c ρ _ _ R F q) fun c₁ _ v s₁ r q₁=>hst▸Hm ht R.hd (F.step s₁) r q₁ fun c₂ ρ' _ e2 s₂ F₂ q₂=>.next c₂ ρ' (s₁.any.trans s₂) F₂ (e2▸q₂)) hc hw
theorem PP:SsOk K L [] []:=fun _ c ρ _ _ F q=>wpAny_execs_nil (.next c ρ (.refl c) F q)
theorem MR (h:SOk K L st a) (hs:SsOk K L sts as):SsOk K L (st::sts) (a::as):=fun A c ρ Q R F q=>
 wpAny_execs_cons (wpAny_mono (h A c ρ _ R F q) (fun _ _ y=>y.casesOn (fun c₁ ρ₁ s₁ F₁ q₁=>wpAny_mono (hs A c₁ ρ₁ Q R F₁ q₁) (fun _ _ z=>z.lift s₁) fun _ _ z=>z.lift s₁)
  fun c₁ ρ₁ V v s₁ F₁ r q₁=>.ret c₁ ρ₁ V v s₁ F₁ r q₁) fun _ _ x=>x.casesOn fun c' ρ' k a fp fl n hk s F x h q=>.mk c' ρ' k a fp fl n hk s F x h q)
theorem Sn {pos} (ht:TOk K L test t) (hb:SsOk K L b b') (ho:SsOk K L o o'):SOk K L (.If test b o pos) (sIf t b' o'):=fun A c ρ Q R F q=>
 wpAny_If (wpAny_mono (ht A c ρ _ _ R F q) (fun x _ y=>by
  cases x with
  | true=>exact y.casesOn fun c₁ s₁ q₁=>wpAny_mono (hb A c₁ ρ Q R (F.step s₁) q₁) (fun _ _ z=>z.lift s₁.any) fun _ _ z=>z.lift s₁.any
  | false=>exact y.casesOn fun c₁ s₁ q₁=>wpAny_mono (ho A c₁ ρ Q R (F.step s₁) q₁) (fun _ _ z=>z.lift s₁.any) fun _ _ z=>z.lift s₁.any) fun _ _ x=>x.toE F)
end
inductive ItOb (h:Heap) (b:Addr):Prop
 | mk (o:Obj) (us:Array Value) (n:String):h.get? b=some o→o.data=.fields us→o.cls=.type n→(∀ x t,us[1]?≠some (.str x t))→ItOb h b
theorem ItOb.noTup (x:ItOb h b):A5 h b:=x.casesOn fun _ _ _ e d _ _=>Ix e fun _ _ e'=>nomatch d.symm.trans e'
theorem ItOb.out (S:Sim h₀ h φ σ) (x:ItOb h b):b∉φ:=fun m=>x.casesOn fun _ us n e d k q=>(S.at m).casesOn fun _ e' _ kk=>Am (kk us n (Option.some.inj (e'.symm.trans e)▸d) (Option.some.inj (e'.symm.trans e)▸k)) q
theorem ItOb.notNs (x:ItOb h b) (n:h.Ns b m):False:=x.casesOn fun _ _ _ e d _ _=>DU (CO n) fun _ e' _ _ d'=>nomatch d.symm.trans ((congrArg Obj.data (Option.some.inj (e.symm.trans e'))).trans d')
theorem ItOb.notCell (x:ItOb h b) (n:h.IsCell b v):False:=x.casesOn fun _ _ _ e d _ _=>AC n fun _ e' d'=>nomatch d.symm.trans ((congrArg Obj.data (Option.some.inj (e.symm.trans e'))).trans d')
theorem ItOb.noDict (x:ItOb h b) (e:h.get? b=some o):∀ es ep,o.data≠.dict es ep:=fun _ _ q=>x.casesOn fun _ _ _ e' d _ _=>nomatch d.symm.trans ((congrArg Obj.data (Option.some.inj (e'.symm.trans e))).trans q)
section
variable {K:Ctx}
inductive ItGo (fp:List Addr) (c:Cf K.h₀) (P:Cf K.h₀→Prop):Shared→Prop
 | mk (c':Cf K.h₀):c'.φ=c.φ→c'.σ=c.σ→WStp (·∈fp) c c'→P c'→ItGo fp c P c'.s
noncomputable def NX:Value→Shared→Prop:=fun _ _=>False
variable (K) in
structure Itr (A:Around) (t:Expr) (I:Addr) (fp:List Addr) (items:List V) (same:AB→Prop) (St:Nat→Cf K.h₀→Prop):Prop where
 new:∀ b∈fp,K.h₀.get? b=none
 mine:∀ i c,St i c→∀ b∈fp,ItOb c.s.heap b
 frame:∀ i (c c':Cf K.h₀),St i c→c.φ<+:c'.φ→same c'.σ→(∀ b∈fp,∀ o,c.s.heap.get? b=some o→c'.s.heap.get? b=some o)→(∀ V v,Rel c.s.heap c.φ V v→Rel c'.s.heap c'.φ V v)→St i c'
 item:∀ i V c,items[i]?=some V→St i c→wpAny K.M A (pyNext (.ref I)) (fun r s₁=>∃ v,r=some v∧wpAny K.M A (letOwnedTupleGo t (.ref I) v) (fun _ s₂=>ItGo fp c (fun c'=>Rel c'.s.heap c'.φ V v∧St (i+1) c') s₂) NX s₁) NX c.s
 done:∀ c,St items.length c→wpAny K.M A (pyNext (.ref I)) (fun r s₁=>r=none∧ItGo fp c (fun _=>True) s₁) NX c.s
variable (K) in
noncomputable def FE (A:Around) (I:Addr) (St:Nat→Cf K.h₀→Prop):Prop:=∀ i c,St i c→wpAny K.M A (pyIter (.ref I)) (fun v s₁=>v=.ref I∧s₁=c.s) NX c.s
variable {c c':Cf K.h₀} {L:Loc} {ρ:List V}
theorem Fr.iter {fp:List Addr} (F:Fr c L ρ) (mine:∀ b∈fp,ItOb c.s.heap b) (st:WStp (·∈fp) c c'):Fr c' L ρ:=
 F.keep st (fun b m=>(mine b m).noTup) (fun f _ n _ m=>(mine f m).notNs n) fun b _ ic m=>(mine b m).notCell ic
theorem Fr.notOwn (F:Fr c L ρ) (x:ItOb c.s.heap b):¬ L.own b:=fun h=>h.elim (fun e=>F.ns.casesOn fun _ n _=>x.notNs (e▸n)) fun h=>A0 h fun y i hy hk ec=>(F.cell y i hy (.inl hk)).casesOn fun _ _ e1 _ _ ic _=>x.notCell (Option.some.inj (e1.symm.trans ec)▸ic)
theorem P3 {A:Around} {Q:CU} {t:Expr} {p:Pat} {I:Addr} {fp:List Addr} {items:List V} {same:AB→Prop} {St:Nat→Cf K.h₀→Prop} {body:List Stmt} {body':List Sx} {cp:Cf K.h₀}
  (hu:L.up=L.env::L.up.tail) (R:ROk K L.up A) (st₀:Stp AO cp c) (hfp:∀ b∈fp,cp.s.heap.get? b=none) (W:Itr K A t I fp items same St) (ht:CPat L t p) (hb:SsOk K L body body') (F:Fr c L ρ) (h0:St 0 c) (q:Eo (Fh K.C p body') same items ρ c.σ Q) :
  codeAny K.M A (.forLoop t (.ref I) body [] L.env) (fun r s'=>match r with | .ok f=>PF cp L Q f s' | .error e=>PN cp L Q e s') c.s:=by
 refine codeAny_forLoop_any (fun n s'=>∃ i c' ρ',c'.s=s'∧(i+n=items.length+1∧i≤items.length)∧Stp L.own cp c'∧Fr c' L ρ'∧St i c'∧Eo (Fh K.C p body') same (items.drop i) ρ' c'.σ Q) ?_ (items.length+1)
  ⟨0,c,ρ,rfl,⟨Nat.zero_add _,Nat.zero_le _⟩,st₀.any,F,h0,q⟩
 rintro n s' ⟨i,c',ρ',rfl,hn,stp,F',st',q'⟩
 refine Or.elim (Nat.lt_or_ge i items.length) (fun hlt=>?_) (fun hge=>?_)
 ·rw [List.drop_eq_getElem_cons hlt] at q'
  have mine:=W.mine i c' st'
  refine wpAny_mono (W.item i items[i] c' (List.getElem?_eq_getElem hlt) st') (fun r s₁ ⟨v,e,y⟩=>?_) fun _ _ e=>e.elim
  subst e
  refine wpAny_mono y (fun _ s₂ z=>?_) fun _ _ e=>e.elim
  refine z.casesOn fun c₂ e1 e2 s₂ rs=>?_
  have rl:=rs.1
  have st₂:=rs.2
  have F₂:=F'.iter mine s₂
  have stp₂:Stp L.own cp c₂:=stp.transNew s₂ hfp
  have mine₂:=W.mine (i+1) c₂ st₂
  refine Hm (T:=fun ρ₁=>BL body' K.C ρ₁ c₂.σ (Df (fun ρ₂ σ₂=>same σ₂∧Eo (Fh K.C p body') same (items.drop (i+1)) ρ₂ σ₂ Q) Q)) ht R.hd F₂ rl (e2▸q') fun c₃ ρ₃ f1 f2 s₃ F₃ q₃=>?_
  refine wpAny_mono (hb A c₃ ρ₃ _ R F₃ (f2.symm▸q₃)) (fun f s₄ y=>?_) fun e s₄ y=>(PE.lift (stp₂.trans s₃) ?_:PE cp L Q e s₄).note R hu
  ·have go:∀ {c₄:Cf K.h₀} {ρ₄:List V},Stp L.own c₃ c₄→Fr c₄ L ρ₄→same c₄.σ→Eo (Fh K.C p body') same (items.drop (i+1)) ρ₄ c₄.σ Q →
     ∃ m,m<n∧∃ i c' ρ',c'.s=c₄.s∧(i+m=items.length+1∧i≤items.length)∧Stp L.own cp c'∧Fr c' L ρ'∧St i c'∧Eo (Fh K.C p body') same (items.drop i) ρ' c'.σ Q:=fun {c₄ ρ₄} s₄ F₄ hs hq=>
    ⟨n - 1,by exact an2 .lt .v0 .v1 (.q (.a .v0 .n1) .v1 .e) rfl (Nat.sub_add_cancel (an3 .le .n1 .v0 (.t .v1 .v2 (.p (.a .v1 .v0) (.a .v2 .n1) .e)) rfl hlt hn.1)),i+1,c₄,ρ₄,rfl,⟨by exact Nat.le_antisymm (an4 .le (.a (.a .v0 .n1) .v1) (.a .v2 .n1) (.q (.a .v1 .n1) .v3 (.q (.a .v0 .v3) (.a .v2 .n1) .e)) rfl (Nat.sub_add_cancel (an3 .le .n1 .v0 (.t .v1 .v2 (.p (.a .v1 .v0) (.a .v2 .n1) .e)) rfl hlt hn.1)) hn.1) (an4 .le (.a .v0 .n1) (.a (.a .v1 .n1) .v2) (.p (.a .v1 .v3) (.a .v0 .n1) (.p (.a .v2 .n1) .v3 .e)) rfl hn.1 (Nat.sub_add_cancel (an3 .le .n1 .v0 (.t .v1 .v2 (.p (.a .v1 .v0) (.a .v2 .n1) .e)) rfl hlt hn.1))),hlt⟩,(stp₂.trans s₃).trans s₄,F₄,W.frame (i+1) c₂ c₄ st₂ (f1▸s₃.pre.trans s₄.pre) hs
     (fun b hb o e=>(s₃.trans s₄).keepE (ItOb.out c₂.sim (mine₂ b hb)) (F₂.notOwn (mine₂ b hb)) ((mine₂ b hb).noDict e) e) (fun V v r=>r.own (s₃.trans s₄).toWStp fun _ m=>F₂.noTup m),hq⟩
   exact y.casesOn (fun c₄ ρ₄ s₄ F₄ q₄=>go s₄ F₄ q₄.1 q₄.2) fun c₄ ρ₄ V u s₄ F₄ r q₄=>.ret c₄ ρ₄ V u ((stp₂.trans s₃).trans s₄) F₄ r q₄
  ·exact y.casesOn fun c₄ ρ₄ k a fp fl n hk s₄ F₄ ex h q₄=>.mk c₄ ρ₄ k a fp fl n hk s₄ F₄ ex h q₄
 ·cases Nat.le_antisymm hn.2 hge
  rw [List.drop_length] at q'
  refine wpAny_mono (W.done c' st') (fun r s₁ ⟨e,z⟩=>?_) fun _ _ e=>e.elim
  subst e
  exact z.casesOn fun c₂ e1 e2 s₂ _=>wpAny_execs_nil (.next c₂ ρ' (stp.transNew s₂ hfp) (F'.iter (W.mine _ c' st') s₂) (e2▸q'))
end
end Mine.Internal
namespace Mine.Internal
open PySem PySem.Calls
set_option genSizeOf false
set_option genInjectivity false
noncomputable def Mw (n:String):Bool:=!["enumerate", "zip", "dict_itemiterator", "dict_reverseitemiterator", "odict_iterator", "itertools.zip_longest", "itertools.pairwise"].contains n
set_option backward.match.sparseCases true in
theorem Bq (ho:s.heap.get? I=some o) (hc:o.cls=.type n)
  (hn:Mw n=true) (hQ:Q () s):wpAny M A (letOwnedTupleGo t (.ref I) v) Q E s:=by
 have key:∀ a:Addr,wpAny M A (do
   let o ← load I
   match o.cls,o.data with
   | .type n,.fields vs=>
    if ["enumerate", "zip", "dict_itemiterator", "dict_reverseitemiterator", "odict_iterator", "itertools.zip_longest", "itertools.pairwise"].contains n&&vs[0]?==some (rawInt a) then
     rule "for.unpacks-the-owned-tuple"
     updateField I 0 .none
   | _,_=>pure ()) Q E s:=fun a=>by
  refine wpAny_bind (wpAny_load ho ?_)
  obtain ⟨_,_,dt,_⟩:=o
  cases hc
  cases dt <;> first | exact wpAny_pure hQ | skip
  show wpAny M A (if (_&&_)=true then _ else pure ()) Q E s
  rw [if_neg fun h=>Bool.eq_false_iff.mp ((Bool.not_eq_true' _).mp hn) (Bool.and_eq_true_iff.mp h).1]
  exact wpAny_pure hQ
 cases t <;> first
  | exact wpAny_pure hQ
  | (cases v <;> first | exact wpAny_pure hQ | exact key _)
theorem EI:∀ (n:Nat) (a:Int),(DP s a n).length=n
 | 0,_=>rfl
 | n+1,a=>congrArg (·+1) (EI n (a+s))
theorem Ga:∀ (n:Nat) (a:Int) (i:Nat) (V:V),(DP s a n)[i]?=some V→i<n∧V=.int (a+s*i)
 | n+1,a,0,V,e=>⟨Nat.zero_lt_succ _,(Option.some.inj e).symm.trans (by rw [Int.natCast_zero,Int.mul_zero,Int.add_zero])⟩
 | n+1,a,i+1,V,e=>let ⟨h1,h2⟩:=Ga n (a+s) i V e;⟨Nat.succ_lt_succ h1,h2.trans (by rw [Int.natCast_succ,Int.mul_add,Int.mul_one,Int.add_assoc,Int.add_comm s])⟩
theorem Ez:∀ (l:List V) (k:Int),(Gf k l).length=l.length
 | [],_=>rfl
 | _::r,k=>congrArg (·+1) (Ez r (k+1))
theorem Hq:∀ (l:List V) (k:Int) (i:Nat) (V:V),(Gf k l)[i]?=some V→∃ W,l[i]?=some W∧V=.tup [.int (k+i),W]
 | x::r,k,0,V,e=>⟨x,rfl,(Option.some.inj e).symm.trans (by rw [Int.natCast_zero,Int.add_zero])⟩
 | x::r,k,i+1,V,e=>let ⟨W,h1,h2⟩:=Hq r (k+1) i V e;⟨W,h1,h2.trans (by rw [Int.natCast_succ,Int.add_assoc,Int.add_comm 1])⟩
section
variable {K:Ctx} {A:Around} {t:Expr} {c:Cf K.h₀}
theorem G4 (new:∀ b∈fp,K.h₀.get? b=none) (mine:∀ b∈fp,ItOb c.s.heap b) (k:∀ b o,b∉fp→c.s.heap.get? b=some o→h'.get? b=some o)
  (q:∀ c':Cf K.h₀,c'.φ=c.φ→c'.σ=c.σ→c'.s.heap=h'→WStp (·∈fp) c c'→P c'):ItGo fp c P { c.s with heap:=h',toks:=tk }:=
 have ho:∀ a,a∈fp→A5 c.s.heap a∧a∉c.φ∧K.h₀.get? a=none:=fun a m=>⟨(mine a m).noTup,(mine a m).out c.sim,new a m⟩
 have st:WStp (·∈fp) c (c.keepOwn { c.s with heap:=h',toks:=tk } k ho):=⟨⟨rfl,rfl⟩,List.prefix_refl _,fun b o _ hb e=>⟨o,k b o hb e,.refl o⟩,fun _ m=>.inl m⟩
 .mk (c.keepOwn { c.s with heap:=h',toks:=tk } k ho) rfl rfl st (q _ rfl rfl rfl st)
theorem one {P:Addr→Prop} (h:P I):∀ b∈[I],P b:=fun _ m=>List.mem_singleton.mp m▸h
theorem Di {I:Addr} {h h':Heap} (x:∀ b o,b≠I→h.get? b=some o→h'.get? b=some o):∀ b o,b∉[I]→h.get? b=some o→h'.get? b=some o:=fun b o m e=>x b o (fun q=>m (List.mem_singleton.mpr q)) e
theorem BW (x:h.IsListIter I a i):ItOb h I:=by refine Ab x fun o e k d=>?_;exact .mk o _ _ e d k (fun _ _ q=>by simp at q)
theorem C2 {h h':Heap} {I a:Addr} {i:Nat} (x:h.IsListIter I a i) (k:∀ o,h.get? I=some o→h'.get? I=some o):h'.IsListIter I a i:=by refine AC x fun o e r=>?_;exact ⟨o,k o e,r⟩
theorem Nj {I:Addr} {n:Nat} {Vs:List V} (hh:A.handled=none) (hI:K.h₀.get? I=none):Itr K A t I [I] Vs (fun σ'=>σ'[n]?=some (.list Vs)) (fun i c=>c.σ[n]?=some (.list Vs)∧∃ a,c.φ[n]?=some a∧c.s.heap.IsListIter I a i) where
 new:=one hI
 mine _ _ x:=by refine CM x fun _ _ _ it=>?_;exact one (BW it)
 frame _ _ _ x hp hs k _:=by refine CM x fun _ a ea it=>?_;exact ⟨hs,a,Bt hp ea,C2 it (k I (List.mem_singleton.mpr rfl))⟩
 item i V c hV x:=by
  refine CM x fun es a ea hit=>?_
  refine Aw (Cf.list (v:=.ref a) es ⟨a,rfl,ea⟩) fun a' items z e1 ea' g rl _=>?_
  cases e1
  refine AC (rl.get hV) fun v ev rv=>?_
  refine wpAny_pyNext_list_item hit ⟨_,g,rfl,z,rfl⟩ (Array.getElem?_toList▸ev) fun h' hit' hs'=>⟨v,rfl,?_⟩
  refine Ab (id hit') fun o' e' k' d'=>?_
  exact Bq e' k' (by decide) (G4 (tk:=c.s.toks) (one hI) (one (BW hit)) (Di hs'.extBut) fun c' f1 f2 f3 st=>⟨rv.own st (one (BW hit).noTup),f2.symm▸es,a,f1.symm▸ea,f3.symm▸hit'⟩)
 done c x:=by
  refine CM x fun es a ea hit=>?_
  refine Aw (Cf.list (v:=.ref a) es ⟨a,rfl,ea⟩) fun a' items z e1 ea' g rl _=>?_
  cases e1
  exact wpAny_pyNext_list_end hh hit ⟨_,g,rfl,z,rfl⟩ (Array.getElem?_eq_none (Nat.le_of_eq rl.size)) fun h' he'=>⟨rfl,G4 (tk:=c.s.toks) (one hI) (one (BW hit)) (Di he') fun _ _ _ _ _=>trivial⟩
theorem MW {n:Nat} {Vs:List V}:FE K A I (fun i c=>c.σ[n]?=some (.list Vs)∧∃ a,c.φ[n]?=some a∧c.s.heap.IsListIter I a i):=fun _ _ x=>let ⟨_,_,_,hit⟩:=x;wpAny_pyIter_listiter hit ⟨rfl,rfl⟩
theorem DH (x:IsRangeIter h I a b d):ItOb h I:=.mk _ _ _ x rfl rfl (fun _ _ q=>by simp [rawInt] at q)
theorem M7 {I:Addr} {s a:Int} {n:Nat} (hh:A.handled=none) (hI:K.h₀.get? I=none):Itr K A t I [I] (DP s a n) (fun _=>True) (fun i c=>IsRangeIter c.s.heap I (a+s*i) ((n:Int) - i) s) where
 new:=one hI
 mine _ _ x:=one (DH x)
 frame _ _ _ x _ _ k _:=k I (List.mem_singleton.mpr rfl) _ x
 item i V c hV x:=by
  obtain ⟨hi,rfl⟩:=Ga n a i V hV
  refine wpAny_pyNext_range_item x (Int.sub_pos_of_lt (Int.ofNat_lt.mpr hi)) fun h' hit' hs'=>⟨_,rfl,Bq hit' rfl (by decide) (G4 (one hI) (one (DH x)) (Di hs'.extBut) fun c' f1 f2 f3 st=>⟨A1,?_⟩)⟩
  rw [f3,Int.natCast_succ,Int.mul_add,Int.mul_one,← Int.add_assoc,← Int.sub_sub]
  exact hit'
 done c x:=wpAny_pyNext_range_end hh x (by rw [EI,Int.sub_self];exact Int.le_refl 0) fun h' he'=>⟨rfl,G4 (tk:=c.s.toks) (one hI) (one (DH x)) (Di he') fun _ _ _ _ _=>trivial⟩
theorem KR:FE K A I (fun i c=>IsRangeIter c.s.heap I (a+s*i) ((n:Int) - i) s):=fun _ _ x=>wpAny_pyIter_rangeiter x ⟨rfl,rfl⟩
theorem two {P:Addr→Prop} (h:P I) (h':P J):∀ b∈[I,J],P b:=fun _ m=>(List.mem_cons.mp m).elim (fun e=>e▸h) fun m=>List.mem_singleton.mp m▸h'
theorem H0 (x:IsEnum h I J i old):ItOb h I:=.mk _ _ _ x rfl rfl (fun _ _ q=>by simp [rawInt] at q)
theorem Nk {I J:Addr} {n:Nat} {Vs:List V} {es:List Expr} {k:Nat} {p:Pos} (hh:A.handled=none) (hI:K.h₀.get? I=none) (hJ:K.h₀.get? J=none) (hIJ:I≠J) :
  Itr K A (.Tuple es k p) I [I,J] (Gf 0 Vs) (fun σ'=>σ'[n]?=some (.list Vs)) (fun i c=>c.σ[n]?=some (.list Vs)∧∃ a old,c.φ[n]?=some a∧IsEnum c.s.heap I J i old∧c.s.heap.IsListIter J a i) where
 new:=two hI hJ
 mine _ _ x:=by refine CG x fun _ _ _ _ e it=>?_;exact two (H0 e) (BW it)
 frame _ _ _ x hp hs k _:=by refine CG x fun _ a old ea e it=>?_;exact ⟨hs,a,old,Bt hp ea,k I List.mem_cons_self _ e,C2 it (k J (List.mem_cons_of_mem _ List.mem_cons_self))⟩
 item i V c hV x:=by
  refine CG x fun es a old ea he hit=>?_
  refine AC (Hq Vs 0 i V hV) fun W hW ze1=>?_;subst ze1
  refine Aw (Cf.list (v:=.ref a) es ⟨a,rfl,ea⟩) fun a' items z e1 ea' g rl _=>?_
  cases e1
  refine AC (rl.get hW) fun v ev rv=>?_
  refine wpAny_pyNext_enum_item he hit ⟨_,g,rfl,z,rfl⟩ (Array.getElem?_toList▸ev) hIJ fun h₁ heo hit₁ ht₁ hz₁ hk₁=>⟨_,rfl,?_⟩
  refine wpAny_letOwnedTupleGo_enum heo fun h₂ he₂ hs₂=>?_
  have mine:=two (P:=ItOb c.s.heap) (H0 he) (BW hit)
  refine G4 (two hI hJ) mine (fun b o m e=>?_) fun c' f1 f2 f3 st=>⟨?_,f2.symm▸es,a,v,f1.symm▸ea,?_,?_⟩
  ·have hb:b≠I:=fun q=>m (q▸List.mem_cons_self)
   exact (hs₂.2 b hb).trans (hk₁ b o hb (fun q=>m (q▸List.mem_cons_of_mem _ List.mem_cons_self)) e)
  ·refine ⟨_,_,0,rfl,(congrArg (fun h=>Heap.get? h c.s.heap.objs.size) f3).trans ((hs₂.2 _ (Ne.symm (Nat.ne_of_lt (Heap.lt_size he)))).trans ht₁),?_,rv.own st fun b m=>(mine b m).noTup,trivial⟩
   rw [Int.zero_add];exact A1
  ·rw [f3,Int.natCast_succ];exact he₂
  ·rw [f3];exact C2 hit₁ fun o e=>(hs₂.2 J (Ne.symm hIJ)).trans e
 done c x:=by
  refine CG x fun es a old ea he hit=>?_
  rw [Ez] at he hit
  refine Aw (Cf.list (v:=.ref a) es ⟨a,rfl,ea⟩) fun a' items z e1 ea' g rl _=>?_
  cases e1
  refine wpAny_pyNext_enum_end hh he hit ⟨_,g,rfl,z,rfl⟩ (Array.getElem?_eq_none (Nat.le_of_eq rl.size)) fun h' he'=>⟨rfl,G4 (tk:=c.s.toks) (two hI hJ) (two (H0 he) (BW hit)) (fun b o m e=>he' b o (fun q=>m (q▸List.mem_cons_of_mem _ List.mem_cons_self)) e) fun _ _ _ _ _=>trivial⟩
theorem EP {h:Heap} {I:Addr} {ty:String} {x:Str} {t:Tok} {i:Nat} (y:h.IsStrIter I ty x t i):ItOb h I:=by refine Ab y fun o e k d=>?_;exact .mk o _ _ e d k (fun _ _ q=>by simp at q)
theorem Rc {I:Addr} {x:Str} {u:Tok} (hh:A.handled=none) (hI:K.h₀.get? I=none):Itr K A t I [I] (x.cps.toList.map fun c=>V.str (EL c)) (fun _=>True) (fun i c=>c.s.heap.IsStrIter I "str_ascii_iterator" x u i) where
 new:=one hI
 mine _ _ y:=one (EP y)
 frame _ _ _ y _ _ k _:=by refine AC y fun o e r=>?_;exact ⟨o,k I (List.mem_singleton.mpr rfl) o e,r⟩
 item i V c hV y:=by
  rw [List.getElem?_map] at hV
  refine AC (Option.map_eq_some_iff.mp hV) fun n hn ze1=>?_;subst ze1
  refine wpAny_pyNext_ascii_item y (Array.getElem?_toList▸hn) fun h' hit' hs'=>⟨_,rfl,?_⟩
  refine Ab (id hit') fun o' e' k' d'=>?_
  exact Bq e' k' (by decide) (G4 (one hI) (one (EP y)) (Di hs'.extBut) fun c' f1 f2 f3 st=>⟨B0,f3.symm▸hit'⟩)
 done c y:=by
  rw [List.length_map,Array.length_toList] at y
  exact wpAny_pyNext_ascii_end hh y (Array.getElem?_eq_none (Nat.le_refl _)) fun h' he'=>⟨rfl,G4 (tk:=c.s.toks) (one hI) (one (EP y)) (Di he') fun _ _ _ _ _=>trivial⟩
theorem Nl:FE K A I (fun i c=>c.s.heap.IsStrIter I "str_ascii_iterator" x u i):=fun _ _ y=>wpAny_pyIter_striter_ascii y ⟨rfl,rfl⟩
theorem EN (y:h.IsKeyIter I d i n ep):ItOb h I:=by refine Ab y fun o e k q=>?_;exact .mk o _ _ e q k (fun _ _ q=>by simp at q)
theorem RelP.key (r:RelP h φ kvs us) {i:Nat} (e:(kvs.map fun p=>Mine.Internal.V.str p.1)[i]?=some W):∃ k v,us[i]?=some (k,v)∧W=.str k:=by
 rw [List.getElem?_map] at e
 refine AC (Option.map_eq_some_iff.mp e) fun p hp ze1=>?_;subst ze1
 have:=congrArg (fun l=>l[i]?) r.1
 simp only [List.getElem?_map,hp,Option.map_some] at this
 obtain ⟨⟨k,v⟩,h1,h2⟩:=Option.map_eq_some_iff.mp this
 exact ⟨k,v,h1,by rw [← h2]⟩
theorem RelP.len (r:RelP h φ kvs us):us.length=kvs.length:=by
 have:=congrArg List.length r.1
 rwa [List.length_map,List.length_map] at this
theorem OC {I:Addr} {n ep:Nat} {kvs:List (Str × V)} (hh:A.handled=none) (hI:K.h₀.get? I=none) :
  Itr K A t I [I] (kvs.map fun p=>V.str p.1) (fun σ'=>σ'[n]?=some (.dict ep kvs)) (fun i c=>c.σ[n]?=some (.dict ep kvs)∧∃ a,c.φ[n]?=some a∧c.s.heap.IsKeyIter I a i kvs.length ep) where
 new:=one hI
 mine _ _ x:=by refine CM x fun _ _ _ it=>?_;exact one (EN it)
 frame _ _ _ x hp hs k _:=by refine OY x fun _ a ea o e it=>?_;exact ⟨hs,a,Bt hp ea,o,k I (List.mem_singleton.mpr rfl) o e,it⟩
 item i V c hV x:=by
  refine CM x fun es a ea hit=>?_
  refine BR (Cf.dict (v:=.ref a) es ⟨a,rfl,ea⟩) fun a' us e1 ea' D P _ _=>?_
  cases e1
  refine CD (P.key hV) fun k v ev ze1=>?_;subst ze1
  rw [← P.len] at hit
  refine wpAny_pyNext_dict_item hit D ev fun key h' hk hit' hs'=>⟨key,rfl,?_⟩
  refine Ab (id hit') fun o' e' k' d'=>?_
  apply Ei (Value.isStrOf_shape hk);intro u
  exact Bq e' k' (by decide) (G4 (tk:=c.s.toks) (one hI) (one (EN hit)) (Di hs'.extBut) fun c' f1 f2 f3 st=>⟨B0,f2.symm▸es,a,f1.symm▸ea,f3.symm▸P.len▸hit'⟩)
 done c x:=by
  refine CM x fun es a ea hit=>?_
  refine BR (Cf.dict (v:=.ref a) es ⟨a,rfl,ea⟩) fun a' us e1 ea' D P _ _=>?_
  cases e1
  rw [List.length_map,← P.len] at hit
  exact wpAny_pyNext_dict_end hh hit D (List.getElem?_eq_none (Nat.le_refl _)) fun h' he'=>⟨rfl,G4 (tk:=c.s.toks) (one hI) (one (EN hit)) (Di he') fun _ _ _ _ _=>trivial⟩
theorem Mu {n ep:Nat}:FE K A I (fun i c=>c.σ[n]?=some (.dict ep kvs)∧∃ a,c.φ[n]?=some a∧c.s.heap.IsKeyIter I a i kvs.length ep):=fun _ _ x=>let ⟨_,_,_,hit⟩:=x;wpAny_pyIter_keyiter hit ⟨rfl,rfl⟩
end
end Mine.Internal
namespace Mine.Internal
open PySem PySem.Calls
set_option genSizeOf false
set_option genInjectivity false
noncomputable def B4:List Str:=["len", "list", "tuple", "sorted", "str", "int", "min", "max", "isinstance", "range", "enumerate", "set", "bool", "all", "ValueError"]
noncomputable def AV:Str:="Rack"
noncomputable def B9:List Str:=["shelves", "boxes", "places"]
noncomputable def Ii:List Str:=["__setattr__", "__getattribute__", "__getattr__", "shelves", "boxes", "places"]
noncomputable def K8 (h₀:Heap) (mN:Str→Option Value) (m:Str) (a:Addr):Prop:=mN m=some (.ref a)∧∃ o fd,h₀.get? a=some o∧o.cls=.type "function"∧o.data=.func fd
structure ClsG (h₀:Heap) (G:GlT) (fa:Nat→Addr) (mg:Str→Option Value) (C:Addr) (i:Nat):Prop where
 bound:mg AV=some (.ref C)
 ns:∃ N mN,PyProof.Rows.ClsAt h₀ C N mN∧(∀ n∈Ii,mN n=none)∧(∀ m j,G.lookup (AV++"."++m)=some (.fn j)→K8 h₀ mN m (fa j))∧K8 h₀ mN "__init__" (fa i)
noncomputable def bmV:List Value:=[.type "ValueError", .type "Exception", .type "BaseException", .type "object"]
inductive ExcCls (h₀:Heap) (k:Nat) (mro:List Value):Prop
 | mk (bm:List Value) (N:Addr) (nm q:Str) (bs:List Value) (hdct:Bool) (sn:List Str) (sub:List Value) (ab:Bool) (col:Option Bool) (dd:Option Addr) (k0 k1 k2 k3 k5:Option Value) (mN:Str→Option Value) :
  h₀.get? k=some (excClassObj nm q k N bs bm hdct sn sub ab col dd k0 k1 k2 k3 k5 "ValueError.__new__")→h₀.Ns N mN→mN "__init__"=none→OwnTail h₀ bmV bm→.ref k::bm=mro→ExcCls h₀ k mro
structure ExcG (h₀:Heap) (excs:List Nat) (mg:Str→Option Value) (x:Str) (k:Nat) (ks:List Nat):Prop where
 bound:mg x=some (.ref k)
 mem:k∈excs
 kids:∀ k'∈excs,∃ mro,ExcCls h₀ k' mro∧mro.contains (.ref k)=ks.contains k'
structure Gnd (K:Ctx) (G:GlT) (fa:Nat→Addr) (mg mb:Str→Option Value):Prop where
 ns:K.h₀.heap.Ns mainGlobals mg
 nsb:K.h₀.heap.Ns builtinsNs mb
 nolimit:K.h₀.heap.NoLimit
 fn:∀ x i,G.lookup x=some (.fn i)→(∀ m,x≠AV++"."++m)→mg x=some (.ref (fa i))
 isfn:∀ x i,G.lookup x=some (.fn i)→∃ o fd,K.h₀.get? (fa i)=some o∧o.data=.func fd
 str:∀ x z,G.lookup x=some (.str z)→∃ t,mg x=some (.str z t)
 int:∀ x z,G.lookup x=some (.int z)→∃ t,mg x=some (.int z t)
 blt:∀ x∈B4,G.lookup x=none→mg x=none
 bv:∀ x:Str,x≠"__name__"→mb x=bootBuiltins x
 cls:∀ C i,G.lookup AV=some (.cls C i)→ClsG K.h₀.heap G fa mg C i
 exc:∀ x k ks,G.lookup x=some (.exc k ks)→ExcG K.h₀.heap K.excs mg x k ks
 lam:∀ c P,G.lookup ("<lambda>":Str)=some (.tabl c P)→PySem.W.CodeHd K.h₀.heap c P∧K.h₀.heap.BuiltinsAt mg P∧mainGlobals≠P
noncomputable def BM (sc:Scope) (x:Str):Bool:=sc.names.lookup x==some NameKind.globalImplicit
noncomputable def Ae (G:GlT) (sc:Scope) (x:Str):Bool:=BM sc x&&(G.lookup x).isNone
section
variable {K:Ctx} {L:Loc} {G:GlT} {fa:Nat→Addr} {mg mb:Str→Option Value}
theorem Fg {env:Env} {x:Str} (h:BM env.scope x=true):env.kindOf x=some .globalImplicit:=beq_iff_eq.mp h
theorem J8 (hb:x∈B4):x≠"__name__"∧(x==("__debug__":Str))=false:=
 (by decide +kernel:∀ x∈B4,x≠"__name__"∧(x==("__debug__":Str))=false) x hb
section
variable {A:Around} {c:Cf K.h₀} {ρ:List V} {x:Str} {pos:Pos} {Q:Value→Shared→Prop} {E:Value→Shared→Prop}
theorem Cc (g:Gnd K G fa mg mb) (F:Fr c L ρ) {v:Value} (hv:mg x=some v) (hk:BM L.env.scope x=true) (hd:(x==("__debug__":Str))=false) (h:Q v c.s):wpAny K.M A (eval (.Name x pos) L.env) Q E c.s:=
 Name_function_global F.fn (Fg hk) (loadGlobal_global (F.glob▸g.ns.keeps c.sim.keep) hv h) hd
theorem Bv (g:Gnd K G fa mg mb) (F:Fr c L ρ) {v:Value} (hx:Ae G L.env.scope x=true) (hb:x∈B4) (hv:bootBuiltins x=some v) (h:Q v c.s):wpAny K.M A (eval (.Name x pos) L.env) Q E c.s:=
 have hx:=Bool.and_eq_true_iff.mp hx
 Name_function_global F.fn (Fg hx.1) (loadGlobal_builtin (F.glob▸g.ns.keeps c.sim.keep) (g.blt x hb (Option.isNone_iff_eq_none.mp hx.2)) (F.blt▸g.nsb.keeps c.sim.keep) ((g.bv x (J8 hb).1).trans hv) h) (J8 hb).2
end
theorem QO (g:Gnd K G fa mg mb) (hx:G.lookup x=some (.str z)) (hk:BM L.env.scope x=true) (hd:CN x=true):EOk K L (.Name x pos) (Bc z):=fun _ _ _ _ _ _ F q=>
 let ⟨_,e⟩:=g.str x z hx;Cc g F e hk (C9 hd) (PV.same B0 q)
theorem Q5 (g:Gnd K G fa mg mb) (hx:G.lookup x=some (.int z)) (hk:BM L.env.scope x=true) (hd:CN x=true):EOk K L (.Name x pos) (AD z):=fun _ _ _ _ _ _ F q=>
 let ⟨_,e⟩:=g.int x z hx;Cc g F e hk (C9 hd) (PV.same A1 q)
noncomputable def Bo (es:List Expr):Prop:=∀ env pos,(backTo pos (starEach es env)).any (·.1)=false
theorem BS:Bo []:=fun _ _=>rfl
theorem BE (h:Aq e) (hs:Bo es):Bo (e::es):=fun env pos=>by
 rw [h es env]
 show (false||(backTo pos (starEach es env)).any (·.1))=false
 rw [hs env pos];rfl
theorem CV:eval (.Call (.Name f pf) es [] pos) env=(do callWith pos (← eval (.Name f pf) env) [] (backTo pos (starEach es env)) []):=rfl
theorem LZ (R:ROk K L.up A) (hn:Aq e) (hl:LOk K L (e::es) as) (F:Fr c L ρ) (q:evs as K.C ρ c.σ Q X)
  (h:∀ (c₁:Cf K.h₀) (Vs:List V) (vals:List Value),Stp AO c c₁→RelL c₁.s.heap c₁.φ Vs vals→Q Vs c₁.σ→P ⟨vals,[]⟩ c₁.s):wpAny K.M A (evalArgs f true (backTo pos (starEach (e::es) L.env)) []) P (PX c X) c.s:=by
 have hl':=KH (.refl c) (hl A c ρ Q X pos R F q) fun c₁ Vs vals s₁ _ r q=>h c₁ Vs vals s₁ r q.2
 rw [hn es L.env] at hl' ⊢
 exact evalArgs_plain hl'
theorem Ng (R:ROk K L.up A) (hn:Aq e) (hl:LOk K L (e::es) as) (F:Fr c L ρ) (q:evs as K.C ρ c.σ Q X)
  (h:∀ (c₁:Cf K.h₀) (Vs:List V) (vals:List Value),Stp AO c c₁→RelL c₁.s.heap c₁.φ Vs vals→Vs.length=(e::es).length→Q Vs c₁.σ→P ⟨vals,[]⟩ c₁.s):wpAny K.M A (evalArgs f true (backTo pos (starEach (e::es) L.env)) []) P (PX c X) c.s:=by
 have hl':=KH (.refl c) (hl A c ρ Q X pos R F q) fun c₁ Vs vals s₁ _ r q=>h c₁ Vs vals s₁ r q.1 q.2
 rw [hn es L.env] at hl' ⊢
 exact evalArgs_plain hl'
theorem Db (hf:(∃ T,f=.type T)∨∃ T,f=.builtin T) (R:ROk K L.up A) (hn:Aq e) (hns:Bo (e::es))
  (hl:LOk K L (e::es) as) (F:Fr c L ρ) (q:evs as K.C ρ c.σ Q X) (h:∀ (c₁:Cf K.h₀) (Vs:List V) (vals:List Value),Stp AO c c₁→RelL c₁.s.heap c₁.φ Vs vals→Q Vs c₁.σ→wpAny K.M A (call f vals) P (PX c X) c₁.s) :
  wpAny K.M A (callWith pos f [] (backTo pos (starEach (e::es) L.env)) []) P (PX c X) c.s:=by
 have key:wpAny K.M A (evalArgs f true (backTo pos (starEach (e::es) L.env)) []) (fun a s₁=>wpAny K.M A (call f ([]++a.pos) a.kw) P (PX c X) s₁) (PX c X) c.s:=LZ R hn hl F q h
 rcases hf with ⟨T,rfl⟩ | ⟨T,rfl⟩
 ·exact PySem.callWith_type (hns _ _) key
 ·exact callWith_builtin (hns _ _) key
variable (K) in
inductive ItAt (A:Around) (c:Cf K.h₀) (k:SrcT) (t:Expr) (Q:List V→(AB→Prop)→AB→Prop):Value→Shared→Prop
 | mk (c₁:Cf K.h₀) (items:List V) (same:AB→Prop) (I:Addr) (fp:List Addr) (St:Nat→Cf K.h₀→Prop):Stp AO c c₁→Q items same c₁.σ→same c₁.σ→Itr K A t I fp items same St→St 0 c₁→(∀ b∈fp,c.s.heap.get? b=none)→(k≠.enum→FE K A I St)→ItAt A c k t Q (.ref I) c₁.s
variable (K L) in
noncomputable def Ff (iter:Expr) (k:SrcT) (as:List Ex) (t:Expr):Prop:=
 ∀ (A:Around) (c:Cf K.h₀) (ρ:List V) (Q:List V→(AB→Prop)→AB→Prop) (X:Ac),ROk K L.up A→Fr c L ρ→evs as K.C ρ c.σ (fun Vs σ₁=>∃ items same,SrcK σ₁ k Vs items same∧Q items same σ₁) X →
  wpAny K.M A (eval iter L.env) (fun x s₁=>wpAny K.M A (pyIter x) (ItAt K A c k t Q) (PX c X) s₁) (PX c X) c.s
theorem A7 {h:Heap} {o:Obj}:∀ b ob,h.get? b=some ob→(h.push o).get? b=some ob:=fun _ _ e=>Heap.get?_push_of_some _ e
theorem Eb {h:Heap} {o o':Obj}:∀ b ob,h.get? b=some ob→((h.push o).push o').get? b=some ob:=fun _ _ e=>Heap.get?_push_of_some _ (Heap.get?_push_of_some _ e)
theorem Ad {h:Heap}:h.get? h.objs.size=none:=BX (Nat.le_refl _)
theorem EO {h:Heap} {o:Obj}:h.get? (h.push o).objs.size=none:=BX (by rw [Heap.size_push];exact Nat.le_succ _)
theorem MZ {iter:Expr} {a:Ex} {t:Expr} (h:EOk K L iter a):Ff K L iter .plain [a] t:=fun A c ρ Q X R F q=>
 seq (.refl c) (h A c ρ _ X R F q) fun c₁ V v s₁ _ r ⟨items,same,sk,q₁⟩=>by
  cases sk with
  | list en=>
   apply Cf.listE en r;intro l its z el g rr hz
   have st:Stp AO c₁ (c₁.keep { c₁.s with heap:=c₁.s.heap.push { cls:=.type "list_iterator", data:=.fields #[.ref l,.int 0 0] } } A7):=Cf.keep_stp ⟨rfl,rfl⟩
   exact wpAny_pyIter_list g.isList (.mk (c₁.keep _ A7) _ _ _ _ _ (s₁.trans st) q₁ en (Nj R.hd (c₁.sim.none₀ Ad)) ⟨en,l,el,⟨_,Heap.get?_push_size _ rfl,rfl,rfl⟩⟩ (one (s₁.gone Ad)) fun _=>MW)
  | @str x ha=>
   apply Ei r;intro u
   have st:Stp AO c₁ (c₁.keep { c₁.s with heap:=c₁.s.heap.push { cls:=.type "str_ascii_iterator", data:=.fields #[.str x u,.int 0 0] } } A7):=Cf.keep_stp ⟨rfl,rfl⟩
   exact wpAny_pyIter_ascii ha (.mk (c₁.keep _ A7) _ _ _ _ _ (s₁.trans st) q₁ trivial (Rc R.hd (c₁.sim.none₀ Ad)) ⟨_,Heap.get?_push_size _ rfl,rfl,rfl⟩ (one (s₁.gone Ad)) fun _=>Nl)
  | @dict n ep kvs en=>
   apply Cf.dictE en r;intro l us el D P _ hs
   have st:Stp AO c₁ (c₁.keep { c₁.s with heap:=c₁.s.heap.push { cls:=.type "dict_keyiterator", data:=.fields #[.ref l,.int 0 0,.int us.length 0,.int ep 0] } } A7):=Cf.keep_stp ⟨rfl,rfl⟩
   exact wpAny_pyIter_dict hs D (.mk (c₁.keep _ A7) _ _ _ _ _ (s₁.trans st) q₁ en (OC R.hd (c₁.sim.none₀ Ad)) ⟨en,l,el,⟨_,Heap.get?_push_size _ rfl,rfl,by rw [← P.len];rfl⟩⟩ (one (s₁.gone Ad)) fun _=>Mu)
theorem Kw:bootBuiltins "range"=some (.type "range"):=by decide +kernel
theorem Gz:bootBuiltins "enumerate"=some (.type "enumerate"):=by decide +kernel
theorem KJ {A:Around} {c c₁:Cf K.h₀} {s a b:Int} {tk:Nat} {t1 t2 t3:Tok} {o:Obj} {t:Expr} {n:Nat} {Q:List V→(AB→Prop)→AB→Prop} {E:Value→Shared→Prop} (hh:A.handled=none) (s₁:Stp AO c c₁) (hsm:Builtin.Range.small a b s=true)
  (hr:IsRange (c₁.s.heap.push o) c₁.s.heap.objs.size a b s t1 t2 t3) (hn:Builtin.Range.rangeSize a b s=n) (q:Q (DP s a n) (fun _=>True) c₁.σ):wpAny K.M A (pyIter (.ref c₁.s.heap.objs.size)) (ItAt K A c .range t Q) E { c₁.s with heap:=c₁.s.heap.push o,toks:=tk }:=by
 refine wpAny_pyIter_range hr hsm ?_
 rw [hn]
 exact .mk (c₁.keep { c₁.s with heap:=(c₁.s.heap.push o).push _,toks:=_ } Eb) _ _ _ _ _ (s₁.trans (Cf.keep_stp ⟨rfl,rfl⟩)) q trivial (M7 (a:=a) (n:=n) hh (c₁.sim.none₀ EO)) ((Heap.get?_push_size _ rfl).trans (by simp)) (one (s₁.gone EO)) fun _=>KR
theorem rsz (a b:Int):(if a<b then b - a else 0)=((b - a).toNat:Int):=by
 split
 ·rename_i h;exact (Int.toNat_of_nonneg (Int.sub_nonneg_of_le (Int.le_of_lt h))).symm
 ·rename_i h;rw [Int.toNat_of_nonpos (Int.sub_nonpos_of_le (Int.not_lt.mp h))];rfl
theorem G1 (b:Int):Builtin.Range.rangeSize 0 b 3=(((b+2) / 3).toNat:Int):=by
 unfold Builtin.Range.rangeSize
 rw [if_pos (by decide)]
 by_cases h:0<b
 ·have e:b+2=(b - 0 - 1)+1*3:=by rw [Int.sub_zero,Int.sub_eq_add_neg,Int.add_assoc];rfl
  rw [if_pos h,e,Int.add_mul_ediv_right _ _ (by decide),Int.toNat_of_nonneg (Int.add_nonneg (Int.ediv_nonneg (by rw [Int.sub_zero];exact Int.sub_nonneg_of_le h) (by decide)) (by decide))]
 ·rw [if_neg h,Int.toNat_of_nonpos (Int.ediv_le_ediv (c:=3) (by decide) (Int.add_le_add_right (Int.not_lt.mp h) 2))];rfl
theorem Jk (hb:-(2 ^ 62)≤b) (hb':b<2 ^ 62):Builtin.Range.small 0 b 3=true:=by
 unfold Builtin.Range.small
 rw [G1]
 simp only [Builtin.Range.rangeFitsLong,Bool.and_eq_true,Bool.or_eq_true,decide_eq_true_eq,beq_iff_eq,show (3:Int) > 0 by decide,if_true]
 omega
theorem MX (g:Gnd K G fa mg mb) (hx:Ae G L.env.scope ("range":Str)=true) (hn:Aq e) (hns:Bo (e::es)) (hl:LOk K L (e::es) as) :
  Ff K L (.Call (.Name ("range":Str) pf) (e::es) [] pos) .range as t:=fun A c ρ Q X R F q=>by
 rw [CV]
 refine wpAny_bind (Bv g F hx (by decide) Kw (Db (.inl ⟨_,rfl⟩) R hn hns hl F q fun c₁ Vs vals s₁ r ⟨items,same,sk,q₁⟩=>?_))
 have h62:((Ag:Nat):Int)<2 ^ 62:=by decide
 cases sk with
 | @range b h1 h2=>
  refine FI r.one fun _ ze1 u ze2=>?_;subst ze1;subst ze2
  exact call_range_1 (KJ R.hd s₁ (small_one (by decide) (by decide) h1 (Int.lt_of_le_of_lt h2 h62)) (IsRange.new _ _ _ _ _ _ _) (by rw [rangeSize_one,rsz,Int.sub_zero]) q₁)
 | @range3 b h1 h2=>
  obtain ⟨v0,vs,rfl,r0,r'⟩:∃ v vs',vals=v::vs'∧Rel c₁.s.heap c₁.φ (.int 0) v∧RelL c₁.s.heap c₁.φ [.int b,.int 3] vs':=by
   cases vals with
   | nil=>exact r.elim
   | cons v vs=>exact ⟨v,vs,rfl,r.1,r.2⟩
  refine Jp r'.two fun v1 v2 ze1 zt2 u' ze3=>AQ zt2 fun u ze4=>?_;subst ze1;subst ze3;subst ze4
  refine AQ r0 fun u0 ze1=>?_;subst ze1
  exact call_range_3 (by decide) (KJ R.hd s₁ (Jk h1 (Int.lt_of_le_of_lt h2 h62)) (IsRange.new _ _ _ _ _ _ _) (G1 _) q₁) (.inl (PyProof.noPylong_of_log2 (by decide +kernel)))
theorem Ov (g:Gnd K G fa mg mb) {e:Expr} {a:Ex} {ts:List Expr} {kt:Nat} {pt pf pos:Pos} (hx:Ae G L.env.scope ("enumerate":Str)=true) (hn:Aq e) (hl:LOk K L [e] [a]) :
  Ff K L (.Call (.Name ("enumerate":Str) pf) [e] [] pos) .enum [a] (.Tuple ts kt pt):=fun A c ρ Q X R F q=>by
 rw [CV]
 refine wpAny_bind (Bv g F hx (by decide) Gz (Db (.inl ⟨_,rfl⟩) R hn (BE hn BS) hl F q fun c₁ Vs vals s₁ r ⟨items,same,sk,q₁⟩=>?_))
 cases sk with
 | enum en=>
  refine AC r.one fun _ ze1 r'=>?_;subst ze1
  apply Cf.listE en r';intro l its z el gl rr hz
  refine call_enumerate_list gl.isList fun h' he hit hsz kk=>wpAny_pyIter_enum he ?_
  have n1:c₁.s.heap.get? (c₁.s.heap.objs.size+1)=none:=BX (Nat.le_succ _)
  exact .mk (c₁.keep { c₁.s with heap:=h' } kk) _ _ _ _ _ (s₁.trans (Cf.keep_stp ⟨rfl,rfl⟩)) q₁ en (Nk R.hd (c₁.sim.none₀ n1) (c₁.sim.none₀ Ad) (Nat.succ_ne_self _)) ⟨en,l,.none,el,he,hit⟩ (two (s₁.gone n1) (s₁.gone Ad)) fun h=>absurd rfl h
theorem QY {pos} (hu:L.up=L.env::L.up.tail) (hs:∀ x,foldedSetIterable iter L.env x=pure x) (ht:CPat L t p) (hi:Ff K L iter k as t) (hb:SsOk K L body body') :
  SOk K L (.For t iter body [] pos) (CH p k as body'):=fun A c ρ Q R F q=>
 wpAny_For (wpAny_mono (hi A c ρ (fun items same σ₁=>Eo (Fh K.C p body') same items ρ σ₁ Q) _ R F q) (fun _ _ y=>wpAny_mono y (fun _ _ z=>z.casesOn fun c₁ _ _ _ _ _ s₁ q₁ _ W st0 hfp _=>codeAny_mono (P3 hu R s₁ hfp W ht hb (F.step s₁) st0 q₁) fun r _ hr=>by
   cases r with
   | ok _=>exact hr
   | error _=>exact PN.came R hu hr) fun _ _ e=>e.toE F) fun _ _ e=>e.toE F) hs
variable (K) in
noncomputable def JR (c:Cf K.h₀) (Q:AN) (X:Ac):Result→Shared→Prop
 | .ok (.ret v),s=>PV c Q v s
 | .ok _,_=>False
 | .error e,s=>PX c X e s
structure RCall (K:Ctx) (up:List Env) (A:Around):Prop where
 hd:A.handled=none
 depth:A.depth+3*K.d<903
 units:A.units+12*K.d<9009
 fr:A.frames=some up
theorem ROk.call (R:ROk K up A):RCall K up A:=⟨R.hd,Nat.lt_succ_of_lt R.depth,Nat.lt_of_lt_of_le R.units (by decide),R.fr⟩
variable (K G) in
noncomputable def GC (fa:Nat→Addr):Prop:=∀ (x:Str) (i:Nat),G.lookup x=some (.fn i)→∀ (A:Around) (up:List Env) (c:Cf K.h₀) (Vs:List V) (vals:List Value) (Q:AN) (X:Ac),RCall K up A→(∀ e∈up,FrameAt c e)→RelL c.s.heap c.φ Vs vals→K.C i Vs c.σ Q X →
 codeAny K.M A (.call (.ref (fa i)) ⟨vals,[]⟩) (JR K c Q X) c.s
theorem IP {vals:List Value} (s₁:Stp AO c c₁) (h:codeAny K.M A (.call (.ref a) ⟨vals,[]⟩) (JR K c₁ Q X) c₁.s):wpAny K.M A (call (.ref a) vals) (PV c Q) (PX c X) c₁.s:=
 wpAny_call (codeAny_mono h fun r _ hr=>match r,hr with
  | .ok (.ret _),hr=>hr.lift s₁
  | .error _,hr=>hr.lift s₁)
theorem RO (g:Gnd K G fa mg mb) (hC:GC K G fa) (hx:G.lookup x=some (.fn i)) (hm:∀ m,x≠AV++"."++m) (hk:BM L.env.scope x=true) (hd:CN x=true) (hn:Aq e) (hl:LOk K L (e::es) as) :
  EOk K L (.Call (.Name x pf) (e::es) [] pos) (AS i as):=fun A c ρ Q X R F q=>by
 rw [CV]
 refine CD (g.isfn x i hx) fun o fd ho hdat=>?_
 refine wpAny_bind (Cc g F (g.fn x i hx hm) hk (C9 hd) (callWith_function (o:=o) (fd:=fd) (LZ R hn hl F q fun c₁ Vs vals s₁ r q₁=>?_)))
 exact ⟨⟨c₁.sim.keep _ _ ho,hdat⟩,IP s₁ (hC x i hx A L.up c₁ Vs vals Q X R.call (F.step s₁).up r q₁)⟩
end
end Mine.Internal
namespace Mine.Internal
open PySem PySem.Calls
noncomputable def Kj:Ty→String
 | .int=>"int" | .bool=>"bool" | .str=>"str" | .tuple=>"tuple"
theorem Of:bootBuiltins "len"=some (.builtin "len"):=by decide +kernel
theorem My:bootBuiltins "list"=some (.type "list"):=by decide +kernel
theorem K2:bootBuiltins "tuple"=some (.type "tuple"):=by decide +kernel
theorem Dq:bootBuiltins "sorted"=some (.builtin "sorted"):=by decide +kernel
theorem Ji:bootBuiltins "str"=some (.type "str"):=by decide +kernel
theorem J9:bootBuiltins "int"=some (.type "int"):=by decide +kernel
theorem NW:bootBuiltins "bool"=some (.type "bool"):=by decide +kernel
theorem OI:bootBuiltins "max"=some (.builtin "max"):=by decide +kernel
theorem Fs:bootBuiltins "isinstance"=some (.builtin "isinstance"):=by decide +kernel
theorem Oz:bootBuiltins "all"=some (.builtin "all"):=by decide +kernel
theorem QC:bootBuiltins "set"=some (.type "set"):=by decide +kernel
section
variable {K:Ctx} {L:Loc} {G:GlT} {fa:Nat→Addr} {mg mb:Str→Option Value}
noncomputable def GI:Pr→Value
 | .len=>.builtin "len" | .list=>.type "list" | .str=>.type "str" | .int=>.type "int" | .max=>.builtin "max" | .all=>.builtin "all" | .isinst _=>.builtin "isinstance"
noncomputable def Kq:Pr→List Value→List Value
 | .isinst t,vs=>vs++[.type (Kj t)]
 | _,vs=>vs
theorem ML {bs:List Bool}:(List.range bs.length).all (fun i=>(bs[i]?).getD true)=bs.all id:=by
 rw [Bool.eq_iff_iff,List.all_eq_true,List.all_eq_true]
 constructor
 ·intro h b hb
  obtain ⟨i,hi,rfl⟩:=List.getElem_of_mem hb
  have:=h i (List.mem_range.mpr hi)
  rwa [List.getElem?_eq_getElem hi] at this
 ·intro h i hi
  rw [List.getElem?_eq_getElem (List.mem_range.mp hi)]
  exact h _ (List.getElem_mem _)
theorem M2 {A:Around} {c:Cf K.h₀} {a:Addr} {items:Array Value} {k:Nat} {bs:List Bool} {Q:AN} {E:Value→Shared→Prop} (hh:A.handled=none) (g:IsL c.s.heap a items k) (rl:RelL c.s.heap c.φ (bs.map .bool) items.toList) (q:Q (.bool (bs.all id)) c.σ) :
  wpAny K.M A (call (.builtin "all") [.ref a]) (PV c Q) E c.s:=by
 have hz:items.size=bs.length:=by rw [rl.size,List.length_map]
 refine call_all_walk (wpAny_pyIter_list g.isList ⟨_,[_,a],[_],items.size,_,_,fun i=>(bs[i]?).getD true,rfl,Walks.list (A:=A.in1) hh c.s.heap.objs.size a (Nat.ne_of_lt (Heap.lt_size g)) items,⟨⟨_,Heap.get?_push_size _ rfl,rfl,rfl⟩,g.isList.push _⟩,fun i v s Q E hP hQ=>?_,fun h' tk hk=>?_⟩)
 ·obtain ⟨V,hV⟩:∃ b,bs[i]?=some b:=by
   have:=(Array.getElem?_eq_some_iff.mp hP).1
   exact ⟨_,List.getElem?_eq_getElem (hz▸this)⟩
  refine AC (rl.get (i:=i) (V:=.bool V) (by rw [List.getElem?_map,hV];rfl)) fun u eu ru=>?_
  rw [Array.getElem?_toList,hP] at eu
  cases eu;cases ru
  dsimp only at hQ
  rw [hV] at hQ
  exact wpAny_truthy_bool hQ
 ·rw [hz,ML]
  exact PV.kept (fun b o e=>hk b o (fun m=>by rw [List.mem_singleton.mp m,Ad] at e;cases e) (Heap.get?_push_of_some _ e)) Bb q
theorem Lf {A:Around} {c:Cf K.h₀} {p:Pr} {Vs:List V} {vals:List Value} {Q:AN} {E:Value→Shared→Prop} (hh:A.handled=none) (r:RelL c.s.heap c.φ Vs vals) (q:PrimK c.σ Q p Vs):wpAny K.M A (call (GI p) (Kq p vals)) (PV c Q) E c.s:=by
 cases q with
 | lenL e q=>
  refine AC r.one fun v ze1 r'=>?_;subst ze1
  apply Cf.listE e r';intro a items k _ g rl z
  exact call_len_list g.isList (rl.size▸Iv z) (by rw [rl.size];exact PV.plain A1 q)
 | lenT hz q=>
  refine ET r.one fun v ze1 a items n ze2 g rl=>?_;subst ze1;subst ze2
  exact PySem.P.len_tuple g (Int.not_le.mpr (rl.size▸Iv (Cd hz))) (by rw [rl.size];exact PV.plain A1 q)
 | lenS hz q=>
  refine FI r.one fun v ze1 t ze2=>?_;subst ze1;subst ze2
  exact PySem.P.len_str (Int.not_le.mpr (Iv (Cd hz))) (PV.plain A1 q)
 | all e q=>
  refine AC r.one fun v ze1 r'=>?_;subst ze1
  apply Cf.listE e r';intro a items k _ g rl z
  exact M2 hh g rl q
 | list e q=>
  refine AC r.one fun v ze1 r'=>?_;subst ze1
  apply Cf.listE e r';intro a items k _ g rl z
  exact PySem.call_list_seq (hsz:=CJ (rl.size▸z)) a (.inl rfl) g rfl rfl fun h' c' hk hD=>PV.list (tk:=c.s.toks) rl z Ad hk hD q
 | str hb q=>
  refine FI r.one fun v ze1 t ze2=>?_;subst ze1;subst ze2
  exact PySem.P.str_of_int (Nat.lt_of_lt_of_le (Fa hb) (by decide)) (PV.plain B0 q)
 | intB q=>refine AC r.one fun v ze1 ze2=>?_;subst ze1;subst ze2;exact call_int_bool (PV.plain A1 q)
 | max q=>
  refine Jp r.two fun v u ze1 zt2 t' ze3=>AQ zt2 fun t ze4=>?_;subst ze1;subst ze3;subst ze4
  exact max_two_ints hh fun h' tk k=>PV.kept k (by split <;> exact A1) q
 | isB q=>refine AC r.one fun v ze1 ze2=>?_;subst ze1;subst ze2;exact IsiPair.bool_bool (PV.same Bb q)
 | isI q=>refine FI r.one fun v ze1 u ze2=>?_;subst ze1;subst ze2;exact IsiPair.int_int (PV.same Bb q)
 | isN q=>refine FI r.one fun v ze1 u ze2=>?_;subst ze1;subst ze2;exact IsiPair.int_bool (PV.plain Bb q)
 | isS q=>refine FI r.one fun v ze1 u ze2=>?_;subst ze1;subst ze2;exact IsiPair.str_str (PV.same Bb q)
 | isT q=>refine ET r.one fun v ze1 a items n ze2 g rl=>?_;subst ze1;subst ze2;exact IsiPair.isTuple_tuple ⟨_,g,rfl,n,rfl⟩ (fun _ _ e=>e) (PV.same Bb q)
theorem Tb (g:Gnd K G fa mg mb) (hp:∀ vs,Kq p vs=vs) (hx:Ae G L.env.scope x=true) (hb:x∈B4) (hv:bootBuiltins x=some (GI p))
  (hf:(∃ T,GI p=.type T)∨∃ T,GI p=.builtin T) (hn:Aq e) (hns:Bo (e::es)) (hl:LOk K L (e::es) as):EOk K L (.Call (.Name x pf) (e::es) [] pos) (Ax p as):=fun A c ρ Q X R F q=>by
 rw [CV]
 exact wpAny_bind (Bv g F hx hb hv (Db hf R hn hns hl F q fun c₁ Vs vals s₁ r q₁=>fin s₁ (hp vals▸Lf R.hd r q₁)))
theorem M6 (g:Gnd K G fa mg mb) (hi:Ae G L.env.scope ("isinstance":Str)=true) (hx:Ae G L.env.scope x=true) (hb:x∈B4) (hv:bootBuiltins x=some (.type (Kj ty)))
  (hn:Aq e) (h:EOk K L e a):EOk K L (.Call (.Name ("isinstance":Str) pf) [e,.Name x pt] [] pos) (Ax (.isinst ty) [a]):=fun A c ρ Q X R F q=>by
 rw [CV]
 refine wpAny_bind (Bv g F hi (by decide) Fs (callWith_builtin (by rw [hn];rfl) ?_))
 have key:wpAny K.M A (spliced (backTo pos (starEach [e,.Name x pt] L.env))) (fun vals s₁=>wpAny K.M A (call (.builtin "isinstance") ([]++vals) []) (PV c Q) (PX c X) s₁) (PX c X) c.s:=
  wpAny_items_cons (seq (.refl c) (h A c ρ _ X R F q) fun c₁ V v s₁ _ r q₁=>wpAny_items_cons (Bv g (F.step s₁) hx hb hv (wpAny_items_nil (fin s₁ (Lf (c:=c₁) (Vs:=[V]) (vals:=[v]) R.hd ⟨r,trivial⟩ q₁))))) (hn _ _)
 rw [hn] at key ⊢
 exact evalArgs_plain key
theorem MQ {α:Type} {l:List α} (h:l.Nodup) {i j:Nat} {a:α} (hi:l[i]?=some a) (hj:l[j]?=some a):i=j:=by
 refine AQ (List.getElem?_eq_some_iff.mp hi) fun hi ei=>?_
 refine AQ (List.getElem?_eq_some_iff.mp hj) fun hj ej=>?_
 rw [List.nodup_iff_pairwise_ne,List.pairwise_iff_getElem] at h
 refine EH (Nat.lt_trichotomy i j) (fun q=>?_) (fun q=>?_) (fun q=>?_)
 ·exact absurd (ei.trans ej.symm) (h i j hi hj q)
 ·exact q
 ·exact absurd (ej.trans ei.symm) (h j i hj hi q)
theorem Cf.setO (ea:c.φ[n]?=some a) (hn0:n≠0) (kk:∀ b ob,b≠a→c.s.heap.get? b=some ob→h'.get? b=some ob) (hr:∀ (_:∀ Vs us,RelL c.s.heap c.φ Vs us→RelL h' c.φ Vs us),RelO K.h₀ h' c.φ o a) :
  ∃ c':Cf K.h₀,c'.s={ c.s with heap:=h',toks:=tk }∧c'.φ=c.φ∧c'.σ=c.σ.set n o∧Stp AO c c':=by
 have ma:a∈c.φ:=List.mem_of_getElem? ea
 have kt:∀ b items n,c.s.heap.get? b=some { cls:=.type "tuple", data:=.seq items n }→h'.get? b=some { cls:=.type "tuple", data:=.seq items n }:=fun b items n e=>kk b _ (fun q=>c.sim.noTup ma items n (q▸e)) e
 have hr:=hr fun Vs us r=>RelL.keep kt (List.prefix_refl _) Vs us r
 have S:Sim K.h₀ h' c.φ (c.σ.set n o):=by
  refine ⟨fun b ob e=>kk b ob (fun q=>?_) (c.sim.keep b ob e),by rw [List.length_set];exact c.sim.len,c.sim.nodup,c.sim.new,fun m ob e=>?_⟩
  ·match n,hn0 with
   | n+1,_=>rw [q,c.sim.new n a ea] at e;cases e
  ·by_cases hm:n=m
   ·subst hm;exact ⟨a,ea,CZ e▸hr⟩
   ·rw [EX hm] at e
    refine AC (c.sim.obj m ob e) fun b eb r=>?_
    exact ⟨b,eb,r.keep (List.prefix_refl _) kt fun ob e=>kk b ob (fun q=>hm (MQ c.sim.nodup ea (q▸eb))) e⟩
 refine ⟨⟨{ c.s with heap:=h',toks:=tk },c.φ,c.σ.set n o,S⟩,rfl,rfl,rfl,⟨⟨rfl,rfl⟩,List.prefix_refl _,fun b ob hb _ e=>⟨ob,kk b ob (fun q=>hb (q▸ma)) e,.refl ob⟩,fun _ m=>.inl m⟩,fun b ob e=>?_⟩
 by_cases hb:b=a
 ·subst hb;exact hr.there.casesOn fun o' e' _ _=>⟨o',e'⟩
 ·exact ⟨ob,kk b ob hb e⟩
theorem MG {V W:Mine.Internal.V} (r:Rel c.s.heap c.φ V v) (r':Rel c.s.heap c.φ W u) (q:AppK c.σ Q W V):wpAny K.M A (call (.builtin "list.append") [v,u]) (PV c Q) E c.s:=by
 cases q with
 | mk en hz hn q=>
  apply Cf.listE en r;intro a items k ea g rl z
  refine wpAny_list_append_plain ⟨k,g⟩ (fun h' hp hs=>?_) (CJ (Nat.le_of_lt (rl.size▸hz)))
  refine AQ hp fun k' e'=>?_
  refine BH (Cf.setO (o:=.list _) (tk:=c.s.toks) ea hn (fun b ob hb e=>(hs.2 b hb).trans e) fun keep=>⟨_,k',e',by rw [Array.toList_push];exact (keep _ _ rl).append (keep [W] [u] ⟨r',trivial⟩),by rw [List.length_append];exact hz⟩) fun c' e1 e2 e3 st=>?_
  exact e1▸.mk c' .none st Ci (e3▸q)
theorem NB (hbase:∀ env,attributeBase o ("append":Str) env (eval o env)=eval o env) (hline:(apos.endLine==pos.line)=true) (hn:Aq e)
  (ho:EOk K L o a) (he:EOk K L e b):EOk K L (.Call (.Attribute o ("append":Str) apos) [e] [] pos) (HA a b):=fun A c ρ Q X R F q=>
 wpAny_Call_append (hbase L.env) (by rw [hn];rfl) hline (by rw [hn];rfl) (seq (.refl c) (ho A c ρ _ X R F q) fun c₁ V v s₁ _ r₁ q₁=>by
  obtain ⟨⟨n,us,rfl,en⟩,q₁⟩:=q₁
  refine Aw (Cf.list en r₁) fun l items k ze1 el gl rr hz=>?_;subst ze1
  exact ⟨l,items,rfl,⟨_,k,gl,rfl,rfl,rfl⟩,seq s₁ (he A c₁ ρ _ X R (F.step s₁) q₁) fun c₂ W u s₂ t₂ r₂ q₂=>fin s₂ (MG (r₁.step t₂) r₂ q₂)⟩)
theorem RelL.ind {P:List V→List Value→Prop} (n:P [] []) (c:∀ {V v Vs vs},Rel h φ V v→RelL h φ Vs vs→P Vs vs→P (V::Vs) (v::vs)) {Vs:List V}:∀ {vs:List Value},RelL h φ Vs vs→P Vs vs:=by
 induction Vs with
 | nil=>intro vs r;cases vs with
  | nil=>exact n
  | cons _ _=>exact r.elim
 | cons V Vs ih=>intro vs r;cases vs with
  | nil=>exact r.elim
  | cons v vs=>exact c r.1 r.2 (ih r.2)
theorem RL (k:Str) (v:V) (kvs:List (Str × V)):(put k v kvs).length≤kvs.length+1:=by
 unfold put
 split
 ·rw [List.length_map];exact Nat.le_succ _
 ·rw [List.length_append];exact Nat.le_refl _
theorem OO {α β:Type} {f:α→Str} {g:β→Str} {k:Str}:∀ {as:List α} {bs:List β},bs.map g=as.map f→(bs.any fun p=>decide (g p=k))=as.any fun p=>decide (f p=k)
 | [],[],_=>rfl
 | [],_::_,e=>nomatch e
 | _::_,[],e=>nomatch e
 | a::as,b::bs,e=>by
  have e:g b::bs.map g=f a::as.map f:=e
  injection e with e1 e2
  rw [List.any_cons,List.any_cons,e1,OO e2]
theorem JS (r:Rel h φ v u):∀ {kvs:List (Str × V)} {us:List (Str × Value)},us.map (·.1)=kvs.map (·.1)→RelL h φ (kvs.map (·.2)) (us.map (·.2)) →
  (us.map fun p=>if p.1=k then (p.1,u) else p).map (·.1)=(kvs.map fun p=>if p.1=k then (p.1,v) else p).map (·.1)∧RelL h φ ((kvs.map fun p=>if p.1=k then (p.1,v) else p).map (·.2)) ((us.map fun p=>if p.1=k then (p.1,u) else p).map (·.2))
 | [],[],_,_=>⟨rfl,trivial⟩
 | [],_::_,e,_=>nomatch e
 | _::_,[],e,_=>nomatch e
 | (x,V)::kvs,(y,w)::us,e,q=>by
  have e:y::us.map (·.1)=x::kvs.map (·.1):=e
  injection e with e1 e2
  subst e1
  obtain ⟨h1,h2⟩:=JS (k:=k) r e2 q.2
  by_cases hk:y=k
  ·simp only [List.map_cons,if_pos hk];exact ⟨congrArg _ h1,r,h2⟩
  ·simp only [List.map_cons,if_neg hk];exact ⟨congrArg _ h1,q.1,h2⟩
theorem RelP.put (P:RelP h φ kvs us) (keep:∀ Vs vs,RelL h φ Vs vs→RelL h' φ Vs vs) (r:Rel h φ v u):RelP h' φ (Mine.Internal.put k v kvs) (stored us k u):=by
 have r':Rel h' φ v u:=(keep [v] [u] ⟨r,trivial⟩).1
 have hl:=keep _ _ P.2
 unfold Mine.Internal.put stored
 rw [OO (k:=k) P.1]
 by_cases ha:kvs.any (fun p=>decide (p.1=k))=true
 ·rw [if_pos ha,if_pos ha];exact JS r' P.1 hl
 ·rw [if_neg ha,if_neg ha]
  exact ⟨by rw [List.map_append,List.map_append,P.1];rfl,by rw [List.map_append,List.map_append];exact hl.append ⟨r',trivial⟩⟩
theorem Mv (x:PyProof.Rows.IntsAre vs ks):ItemsAre (intKind prog w) ks vs:=by
 induction x with
 | nil=>exact .nil
 | cons n t _ ih=>exact .cons (intKind_is _ _ n t) ih
theorem TupK.key (x:TupK h ks a):IsTupleKey (intKind prog w) h ks a:=let ⟨it,n,g,i⟩:=x;⟨_,it,n,g,rfl,rfl,Mv i⟩
theorem F2 (r:Rel h φ (.tup (k.map .int)) v):∃ a,v=.ref a∧TupK h k a:=Af r fun a it n e g rl=>⟨a,e,it,n,g,GZ rl⟩
theorem Cf.tabT {c:Cf K.h₀} {n m:Nat} {f:List Int→Option V} {v:Value} (T:FT c.σ n m f) (r:Rel c.s.heap c.φ (.ref n) v) :
  ∃ a xs,v=.ref a∧c.φ[n]?=some a∧c.s.heap.DictOfH (tkd K.h₀) a xs∧(∀ x∈xs,TupK c.s.heap x.1 x.2.1)∧(∀ k,AttrIs c.s.heap c.φ (f k) ((atKey xs k).map (·.2)))∧xs.length≤m∧(a==sysModules)=false:=by
 cases T with
 | inl e=>
  obtain ⟨a,rfl,ea⟩:=r
  obtain ⟨a',ea',xs,⟨o,es,ep,e1,e2,e3,e4⟩,nd,tk,at_,hl,_,hs⟩:=c.sim.obj n _ e
  cases ea.symm.trans ea'
  exact ⟨a,xs,rfl,ea,⟨o,es,ep,e1,e2,e3,e4,fun y m=>(tk y m).key,nd⟩,tk,at_,hl,hs⟩
 | inr e=>
  obtain ⟨rfl,ep,e⟩:=e
  obtain ⟨a,us,e0,ea,⟨o,es,e1,e2,e3,_,pr,_⟩,P,_,hs⟩:=Cf.dict e r
  cases us with
  | nil=>cases hes:es.toList with
   | nil=>exact ⟨a,[],e0,ea,⟨o,es,ep,e1,e2,e3,hes,nofun,List.nodup_nil⟩,nofun,fun _=>rfl,Nat.zero_le _,hs⟩
   | cons _ _=>rw [hes] at pr;cases pr
  | cons _ _=>exact nomatch P.1
theorem IR {xs:List (List Int × Addr × Value)} {k k':List Int} {a:Addr} {v:Value}:(atKey (storedH xs k a v) k').map (·.2)=if k'=k then some v else (atKey xs k').map (·.2):=by
 unfold storedH
 cases h:atKey xs k with
 | none=>
  rw [Option.isSome_none,if_neg Bool.false_ne_true]
  unfold atKey at h ⊢
  rw [List.find?_append]
  by_cases e:k'=k
  ·rw [if_pos e,e,Option.map_eq_none_iff.mp h,List.find?_cons,decide_eq_true (rfl:k=k)];rfl
  ·rw [if_neg e,List.find?_cons_of_neg (fun z=>e (of_decide_eq_true z).symm),List.find?_nil,Option.or_none]
 | some p=>
  rw [Option.isSome_some,if_pos rfl]
  unfold atKey at h ⊢
  refine AC (Option.map_eq_some_iff.mp h) fun y hy _=>?_
  clear h
  induction xs with
  | nil=>cases hy
  | cons x xs ih=>
   rw [List.map_cons,List.find?_cons,List.find?_cons]
   rw [List.find?_cons] at hy
   have ex:(putAt k v x).1=x.1:=by unfold putAt;split <;> rfl
   rw [ex]
   by_cases h1:x.1=k'
   ·rw [decide_eq_true h1]
    by_cases h2:k'=k
    ·rw [if_pos h2];show some (putAt k v x).2.2=_;rw [putAt,if_pos (h1.trans h2)]
    ·rw [if_neg h2];show some (putAt k v x).2.2=_;rw [putAt,if_neg (h1▸h2)];rfl
   ·rw [decide_eq_false h1]
    by_cases h2:x.1=k
    ·have hk:k'≠k:=fun e=>h1 (h2.trans e.symm)
     rw [if_neg hk]
     refine congrArg (fun o=>(Option.map _ o).map _) ?_
     clear hy ih ex
     induction xs with
     | nil=>rfl
     | cons y ys ih=>
      have ey:(putAt k v y).1=y.1:=by unfold putAt;split <;> rfl
      rw [List.map_cons,List.find?_cons,List.find?_cons,ey]
      by_cases h3:y.1=k'
      ·rw [decide_eq_true h3];show some (putAt k v y)=_;rw [putAt,if_neg (h3▸hk)]
      ·rw [decide_eq_false h3];exact ih
    ·rw [decide_eq_false h2] at hy;exact ih hy
theorem Kg {xs:List (List Int × Addr × Value)} {k:List Int} {a:Addr} {v:Value}:(storedH xs k a v).length≤xs.length+1:=by
 unfold storedH
 split
 ·rw [List.length_map];exact Nat.le_succ _
 ·rw [List.length_append];exact Nat.le_refl _
theorem TJ {A:Around} {c:Cf K.h₀} {o i v:V} {ov iv u:Value} {E:Value→Shared→Prop} {T:AB→Prop} {P:Unit→Shared→Prop} (hu:A.units+1<cLine) (ro:Rel c.s.heap c.φ o ov) (ri:Rel c.s.heap c.φ i iv) (rv:Rel c.s.heap c.φ v u)
  (q:SetK c.σ T v o i) (h:∀ c':Cf K.h₀,Stp AO c c'→T c'.σ→P () c'.s):wpAny K.M A (setItem ov iv u) P E c.s:=by
 cases q with
 | @dict n ep kvs k en hn hz q=>
  apply Cf.dictE en ro;intro a us ea D P _ hs
  apply Ei ri;intro t
  refine wpAny_setItem_pairs (strKind_is _ _ k t) D.dictOf (fun h' D' hb=>?_) (Cy (Nat.le_of_lt (P.len.symm▸hz)))
  refine AQ D'.dictAt fun ep' D'=>?_
  refine BH (Cf.setO (c:=c) (o:=.dict ep' (put k v kvs)) (tk:=c.s.toks+1) ea hn (fun b ob h e=>(hb.2 b h).trans e) fun keep=>⟨_,D',P.put (fun _ _ r=>keep _ _ r) rv,Cd (Nat.le_trans (RL k v kvs) hz),hs⟩) fun c' e1 e2 e3 st=>?_
  exact e1▸h c' st (e3▸q ep')
 | @dictT n m f k T hn hz q=>
  refine Cw (Cf.tabT T ro) fun a xs ze1 ea D tk at_ hl hs=>?_;subst ze1
  refine AC (F2 ri) fun b ze1 kb=>?_;subst ze1
  refine wpAny_setItem_heap (knd:=tkd K.h₀) (k:=k) (tupleKind_room_in1 hu) kb.key D (fun h' D' hb=>?_) (Cy (Nat.le_of_lt (Nat.lt_of_le_of_lt hl hz)))
  have kt:∀ {x:List Int} {y:Addr},TupK c.s.heap x y→TupK h' x y:=fun {x y} ⟨it,z,g,i⟩=>⟨it,z,(hb.2 y fun e=>by subst e;refine CC D fun o es ep e1 e2 e3 _=>?_;rw [g] at e1;cases e1;cases e3).trans g,i⟩
  refine Jo D' fun o es ep e1 e2 e3 e4 _ nd=>?_
  have at2:(∀ Vs us,RelL c.s.heap c.φ Vs us→RelL h' c.φ Vs us)→∀ k',AttrIs h' c.φ (if k'=k then some v else f k') ((atKey (storedH xs k b u) k').map (·.2)):=fun keep k'=>by
   rw [IR]
   by_cases hk:k'=k
   ·rw [if_pos hk,if_pos hk];exact ⟨u,rfl,(keep [v] [u] ⟨rv,trivial⟩).1⟩
   ·rw [if_neg hk,if_neg hk]
    have:=at_ k'
    cases hf:f k' with
    | none=>rw [hf] at this;exact this
    | some V=>rw [hf] at this;refine AC this fun w e r=>?_;exact ⟨w,e,(keep [V] [w] ⟨r,trivial⟩).1⟩
  refine BH (Cf.setO (c:=c) (o:=.dictT (m+1) fun k'=>if k'=k then some v else f k') (tk:=c.s.toks+(tkd K.h₀).draws k) ea hn (fun b ob h e=>(hb.2 b h).trans e) fun keep=>⟨storedH xs k b u,⟨o,es,ep,e1,e2,e3,e4⟩,nd,fun x hx=>(PyProof.Rows.mem_storedH hx).elim (fun ⟨y,hy,h1,h2⟩=>h1▸h2▸kt (tk y hy)) fun ⟨h1,h2⟩=>h1▸h2▸kt kb,at2 keep,Nat.le_trans Kg (Nat.succ_le_succ hl),Cd hz,hs⟩) fun c' e1 e2 e3 st=>?_
  exact e1▸h c' st (e3▸q)
theorem PZ (hs:swapsWith value (some (.Subscript o i pos')) pos.line L.env=pure false) (ho:EOk K L o a) (hi:EOk K L i b) (hv:EOk K L value e):SOk K L (.Assign [.Subscript o i pos'] value pos) (HO a b e):=fun A c ρ Q R F q=>
 wpAny_Assign_Subscript (QD (.refl c) F (hv A c ρ _ _ R F q) fun c₁ _ _ s₁ _ r₁ q₁=>QD s₁ F (ho A c₁ ρ _ _ R (F.step s₁) q₁) fun c₂ _ _ s₂ t₂ r₂ q₂=>QD s₂ F (hi A c₂ ρ _ _ R (F.step s₂) q₂) fun c₃ _ _ s₃ t₃ r₃ q₃=>
  TJ (Nat.lt_of_lt_of_le (Nat.lt_of_le_of_lt (Nat.le_trans (Nat.add_le_add_left (by decide) _) (Nat.le_refl (A.units+100))) R.u100) (by decide)) (r₂.step t₃) r₃ ((r₁.step t₂).step t₃) q₃ fun c₄ s₄ q₄=>.next c₄ ρ (s₃.trans s₄).any (F.step (s₃.trans s₄)) q₄) hs
theorem Jg {h:Heap} {o o':Obj} (k:o'.isFreed=false:=by rfl):((h.push o).push o').get? (h.objs.size+1)=some o':=by rw [← Heap.size_push h o];exact Heap.get?_push_size _ k
theorem RF {i:Int} {n:Nat} (h:i<0):i+n≤n:=by have:=Int.add_le_add_right (Int.le_of_lt h) (n:Int);rwa [Int.zero_add] at this
theorem OX (i n:Nat):((min i n:Nat):Int)=min (i:Int) n:=(Nat.le_total i n).elim (fun h=>by rw [Nat.min_eq_left h,Int.min_eq_left (Int.ofNat_le.mpr h)]) fun h=>by rw [Nat.min_eq_right h,Int.min_eq_right (Int.ofNat_le.mpr h)]
theorem JN (b:BoundK n d o z) (r:Rel h φ (o.getD .none) v):∃ a,IsPart v a∧(match a with | none=>(d:Int) | some i=>max 0 (min (if i<0 then i+n else i) n))=(z:Int):=by
 cases b with
 | no=>exact ⟨none,by cases r;exact .none,rfl⟩
 | @pos i _ _ hj=>
  refine AQ r fun t e=>?_
  refine ⟨some i,e▸.int _ t,?_⟩
  show max 0 (min (if (i:Int)<0 then _ else _) _)=_
  rw [if_neg (Int.not_lt.mpr (Int.natCast_nonneg i)),← OX,Int.max_eq_right (Int.natCast_nonneg _),hj]
theorem FW (hx:BoundK n 0 lo x) (hy:BoundK n n hi y) (rl:Rel h φ (lo.getD .none) vl) (ru:Rel h φ (hi.getD .none) vu) :
  ∃ a b,IsPart vl a∧IsPart vu b∧sliceBounds a b none n=((x:Int),(y:Int),1):=by
 refine AC (JN hx rl) fun a pa ea=>?_
 refine AC (JN hy ru) fun b pb eb=>?_
 refine ⟨a,b,pa,pb,?_⟩
 rw [← ea,← eb]
 cases a <;> cases b <;> rfl
theorem Ho {Vs:List V} (n:Nat) (r:RelL h φ Vs us):RelL h φ (Vs.drop n) (us.drop n):=by
 revert n
 refine RelL.ind (P:=fun Vs us=>∀ n:Nat,RelL h φ (Vs.drop n) (us.drop n)) (fun n=>?_) (fun a b ih n=>?_) r
 ·rw [List.drop_nil,List.drop_nil];exact trivial
 ·cases n with
  | zero=>exact ⟨a,b⟩
  | succ n=>exact ih n
theorem HP {Vs:List V} (n:Nat) (r:RelL h φ Vs us):RelL h φ (Vs.take n) (us.take n):=by
 revert n
 refine RelL.ind (P:=fun Vs us=>∀ n:Nat,RelL h φ (Vs.take n) (us.take n)) (fun n=>?_) (fun a b ih n=>?_) r
 ·rw [List.take_nil,List.take_nil];exact trivial
 ·cases n with
  | zero=>exact trivial
  | succ n=>exact ⟨a,ih n⟩
variable (K L) in
noncomputable def OOk (e:Option Expr) (a:Option Ex):Prop:=
 ∀ (A:Around) (c:Cf K.h₀) (ρ:List V) (Q:Option V→AB→Prop) (X:Ac),ROk K L.up A→Fr c L ρ→evo a K.C ρ c.σ Q X→wpAny K.M A (evalPart e L.env) (PV c fun x σ=>∃ o,x=Option.getD o .none∧Q o σ) (PX c X) c.s
theorem Ph:OOk K L none none:=fun _ c _ _ _ _ _ q=>wpAny_pure (.mk c .none (.refl c) Ci ⟨none,rfl,q⟩)
theorem N5 (h:EOk K L e a):OOk K L (some e) (some a):=fun A c ρ Q X R F q=>by
 rw [evalPart_some]
 exact seq (.refl c) (h A c ρ _ X R F q) fun c₁ V _ s₁ _ r q₁=>.mk c₁ V s₁ r ⟨some V,rfl,q₁⟩
theorem MJ (hm:∀ {A:Around} {E:Value→Shared→Prop} {s:Shared} {o r:Value} {P:Unit→Shared→Prop},P () s→wpAny M A (letTemporaryGo value o r) P E s)
  (h:wpAny M A (eval value env) (fun o s₁=>wpAny M A (eval (.Slice lower upper none p) env) (fun i s₂=>(∃ T id,typeLookup (.type T) "__getitem__"=pure (some (.builtin id))∧s₂.TypeIs o T)∧wpAny M A (getItem o i) Q E s₂) E s₁) E s) :
  wpAny M A (eval (.Subscript value (.Slice lower upper none p) pos) env) Q E s:=by
 rw [eval_Subscript]
 refine wpAny_bind (wpAny_mono h (fun o s₁ h₁=>wpAny_bind (wpAny_holding (wpAny_mono h₁ (fun i s₂ h₂=>wpAny_bind (wpAny_standAt ?_)) fun _ _ x=>x))) fun _ _ x=>x)
 obtain ⟨⟨T,id,hl,hT⟩,h₂⟩:=h₂
 have last:wpAny M A (operate [i,o] (getItem o i)) (fun r s₃=>wpAny M A (letTemporaryGo value o r >>= fun _=>pure r) Q E s₃) E s₂:=wpAny_operating (wpAny_mono h₂ (fun r s₃ h₃=>wpAny_bind (hm (wpAny_pure h₃))) fun _ _ x=>x)
 refine wpAny_bind ?_
 rw [getitemInPython_of_ne hT.not_modules]
 refine wpAny_bind (wpAny_specialOf hT hl ?_)
 first
  | exact wpAny_pure (wpAny_bind last)
  | exact wpAny_bind (wpAny_pure (wpAny_bind last))
  | exact wpAny_bind last
theorem KI (h:BoundK n d o j) (hd:d≤n):j≤n:=by
 cases h with
 | no=>exact hd
 | pos _ e=>exact an3 .le .v0 .v1 (.q .v0 .v2 (.l .v2 .v1 .e)) rfl e (Nat.min_le_right _ _)
theorem Ju:IsPart v o→∃ l,v=partValue l∧l.map (·.1)=o
 | .none=>⟨none,rfl,rfl⟩
 | .int i t=>⟨some (i,t),rfl,rfl⟩
theorem RC {α:Type} {l:List α} {x y:Nat} (h:(cut l x y).length=l.length):cut l x y=l:=((List.drop_sublist _ _).trans (List.take_sublist _ _)).eq_of_length h
theorem Sr {α:Type} {l:List α} {x y:Nat}:(cut l x y).length≤l.length:=by
 unfold cut;rw [List.length_drop,List.length_take];exact Nat.le_trans (Nat.sub_le _ _) (Nat.min_le_right _ _)
theorem PG {α:Type} {l:List α} {x y:Nat} (h:y≤l.length):(cut l x y).length=y - x:=by
 unfold cut;rw [List.length_drop,List.length_take,Nat.min_eq_left h]
theorem G8 {n x y:Nat} (h:sliceBounds a b none n=((x:Int),(y:Int),1)):Builtin.Slice.sliceAdjust a b 1 (n:Int)=((x:Int),(y:Int)):=by
 have key:∀ v:Int,(if v<0 then max (v+n) 0 else min v n)=max 0 (min (if v<0 then v+n else v) n):=fun v=>by
  by_cases hv:v<0
  ·rw [if_pos hv,if_pos hv,Int.min_eq_left (RF hv),Int.max_comm]
  ·rw [if_neg hv,if_neg hv,Int.max_eq_right (Int.le_min.mpr ⟨Int.not_lt.mp hv,Int.natCast_nonneg n⟩)]
 have h1:(sliceBounds a b none n).1=x:=congrArg Prod.fst h
 have h2:(sliceBounds a b none n).2.1=y:=congrArg (fun p=>p.2.1) h
 rw [← h1,← h2]
 refine Prod.ext ?_ ?_
 ·cases a with
  | none=>rfl
  | some v=>exact key v
 ·cases b with
  | none=>rfl
  | some v=>exact key v
theorem HC (x y:Nat):Builtin.Slice.slicePlaces (x:Int) (y:Int) 1=y - x:=by
 unfold Builtin.Slice.slicePlaces
 have h1:(1:Int) > 0:=by exact ari [] .lt .n0 .n1 .e rfl
 simp only [h1,if_true,Int.ediv_one]
 split
 ·rw [Int.sub_add_cancel];exact Int.toNat_sub y x
 ·rename_i h;exact (Nat.sub_eq_zero_of_le (Int.ofNat_le.mp (Int.not_lt.mp h))).symm
section
variable {prog:Program} {w:World} {A:Around} {E:Value→Shared→Prop} {s:Shared}
theorem Hg (p:IsPart v k) (h:Q k s):wpAny (model prog w) A (Builtin.Slice.slicePartIndex v) Q E s:=by
 cases p with
 | none=>exact PyProof.Rows.slicePart_none h
 | int i t=>exact PyProof.Rows.slicePart_int h
theorem FC {n x y:Nat} {Q:Int × Int × Nat→Shared→Prop} (hs:s.heap.IsSliceOf sl vl vu .none) (pl:IsPart vl a) (pu:IsPart vu b) (hb:sliceBounds a b none n=((x:Int),(y:Int),1)) (h:Q ((x:Int),1,y - x) s) :
  wpAny (model prog w) A (Builtin.Slice.sliceApplied (.ref sl) (pure (n:Int))) Q E s:=by
 refine Ab (id hs) fun os hos hcs hds=>?_
 unfold Builtin.Slice.sliceApplied Builtin.Slice.sliceFields
 refine wpAny_bind (wpAny_bind (wpAny_field hos hds (x:=vl) rfl (wpAny_bind (wpAny_field hos hds (x:=vu) rfl (wpAny_bind (wpAny_field hos hds (x:=.none) rfl (wpAny_pure ?_)))))))
 refine wpAny_bind (PyProof.Rows.slicePart_none ?_)
 show wpAny _ _ (if ((1:Int)==0)=true then _ else _) _ _ s
 rw [if_neg (by decide)]
 refine wpAny_bind (Hg pl (wpAny_bind (Hg pu (wpAny_bind (wpAny_pure ?_)))))
 show wpAny _ _ (match Builtin.Slice.sliceAdjust a b 1 (n:Int) with | (lo,hi)=>pure (lo,(1:Int),Builtin.Slice.slicePlaces lo hi 1)) _ _ s
 rw [G8 hb]
 show wpAny _ _ (pure ((x:Int),(1:Int),Builtin.Slice.slicePlaces (x:Int) (y:Int) 1)) _ _ s
 rw [HC x y]
 exact wpAny_pure h
theorem OL (xs:Array Value) (a k:Nat):((List.range k).filterMap fun (j:Nat)=>xs[((a:Int)+(j:Int)*1).toNat]?)=(xs.toList.drop a).take k:=by
 have e:(fun (j:Nat)=>xs[((a:Int)+(j:Int)*1).toNat]?)=fun j=>xs[a+j]?:=by
  funext j
  rw [Int.mul_one,← Int.natCast_add,Int.toNat_natCast]
 rw [e]
 have:=pick_run xs a k
 rw [List.filterMap_map] at this
 exact this
theorem ED {z:Nat} {x y:Nat} {Q:Value→Shared→Prop} (ht:IsT s.heap t items z) (hs:s.heap.IsSliceOf sl vl vu .none) (pl:IsPart vl a) (pu:IsPart vu b) (hb:sliceBounds a b none items.size=((x:Int),(y:Int),1))
  (hlt:y - x<items.size) (hsz:items.size≤sizeLine) (h:Q (.ref s.heap.objs.size) { s with heap:=s.heap.push { cls:=.type "tuple", data:=.seq ((items.toList.drop x).take (y - x)).toArray } }):wpAny (model prog w) A (getItem (.ref t) (.ref sl)) Q E s:=by
 have hdrop:sizeOk (.seq ((items.toList.drop x).take (y - x)).toArray):=by
  show ((items.toList.drop x).take (y - x)).toArray.size≤sizeLine
  rw [List.size_toArray,List.length_take]
  exact Nat.le_trans (Nat.min_le_left _ _) (Nat.le_trans (Nat.le_of_lt hlt) hsz)
 refine Ab (id hs) fun os hos hcs hds=>?_
 have hTs:s.TypeIs (.ref sl) "slice":=⟨os,hos,hcs⟩
 have hT:PyProof.Rows.IsTup s.heap t items:=⟨_,ht,rfl,z,rfl⟩
 unfold getItem
 try with_reducible refine wpAny_holding ?_
 first | refine wpAny_bind (wpAny_pure ?_) | skip
 refine wpAny_bind (wpAny_sequenceKey hT.typeIs (by decide) ?_)
 refine wpAny_bind (wpAny_callSpecial?_slot (name:=Str.ofString "__getitem__") hT.typeIs PyProof.Rows.slot_tuple_getitem
  (wpAny_call_entry PyProof.Rows.slot_tuple_getitem hT.typeIs PyProof.Rows.entry_tuple_getitem ?_ (PyProof.Rows.args_tuple_getitem _ _)))
 show wpAny _ _ (Builtin.Tuple.tupleItemsOf (.ref t) >>= _) _ _ s
 refine wpAny_bind (PyProof.Rows.tupleItemsOf_ hT ?_)
 refine wpAny_bind (wpAny_typeOf hTs ?_)
 rw [if_pos (by decide)]
 refine wpAny_bind (FC hs pl pu hb ?_)
 have hno:¬ (((x:Int)==0&&(1:Int)==1&&(y - x)==items.size)=true):=fun q=>by
  have:=beq_iff_eq.mp (Bool.and_eq_true_iff.mp q).2
  exact am2 (.p .v0 .v1 (.t .v0 .v1 .e)) rfl this hlt
 show wpAny _ _ (if ((x:Int)==0&&(1:Int)==1&&(y - x)==items.size)=true then _ else _) _ _ s
 rw [if_neg hno,OL items x (y - x)]
 first
  | exact wpAny_bind (m:=Builtin.Tuple.tupleExact _) (wpAny_newObj_type (wpAny_pure ⟨_,rfl,wpAny_pure h⟩) hdrop)
  | exact wpAny_bind (m:=Builtin.Tuple.tupleExact _) (wpAny_newObj_type (wpAny_bind (wpAny_pure (wpAny_pure ⟨_,rfl,wpAny_pure h⟩))) hdrop)
  | exact wpAny_bind (wpAny_bind (m:=Builtin.Tuple.tupleExact _) (wpAny_newObj_type (wpAny_pure (wpAny_pure ⟨_,rfl,wpAny_pure h⟩)) hdrop))
  | exact wpAny_bind (wpAny_bind (m:=Builtin.Tuple.tupleExact _) (wpAny_newObj_type (wpAny_pure ⟨_,rfl,wpAny_pure h⟩) hdrop))
end
theorem Og {value:Expr} {lo hi:Option Expr} {a:Ex} {x y:Option Ex} {p pos:Pos} (hv:EOk K L value a) (hl:OOk K L lo x) (hh:OOk K L hi y):EOk K L (.Subscript value (.Slice lo hi none p) pos) (DO a x y):=fun A c ρ Q X R F q=>
 MJ (fun h=>wpAny_letTemporaryGo h) (seq (.refl c) (hv A c ρ _ X R F q) fun c₁ V u s₁ _ r₁ q₁=>wpAny_Slice (seq s₁ (hl A c₁ ρ _ X R (F.step s₁) q₁) fun c₂ V₂ vl s₂ t₂ r₂ ⟨lv,e₂,q₂⟩=>seq s₂ (hh A c₂ ρ _ X R (F.step s₂) q₂) fun c₃ V₃ vu s₃ t₃ r₃ ⟨hv,e₃,q₃⟩=>by
  rw [evalPart_none]
  refine wpAny_pure ?_
  subst e₂ e₃
  have r₁:=(r₁.step t₂).step t₃
  cases q₃ with
  | list en hx hy q=>
   apply Cf.listE en r₁;intro l items k _ g rL z
   rw [← rL.size] at hx hy
   refine A0 (FW hx hy (r₂.step t₃) r₃) fun pa pb p1 p2 hb=>?_
   refine ⟨⟨"list", _,list_getitem_lookup,(g.isList.push _).typeIs⟩,wpAny_getItem_list_slice (g.isList.push _) (Heap.IsSliceOf.new ..) p1 p2 .none (by simp) ?_ (CJ (rL.size▸z))⟩
   rw [Heap.size_push]
   refine PV.lift s₃ (PV.list (tk:=c₃.s.toks) ?_ ?_ (BX (Nat.le_succ _)) Eb Jg q)
   ·show RelL _ _ _ (slicePick items pa pb none).toList
    unfold slicePick
    rw [hb]
    simp only [sliceRange_one,pick_run]
    unfold cut
    rw [List.drop_take]
    exact HP _ (Ho _ rL)
   ·unfold cut;rw [List.length_drop,List.length_take];exact Nat.le_trans (Nat.sub_le _ _) (Nat.le_trans (Nat.min_le_right _ _) z)
  | @tup vs lv hv' x y hz hx hy hc q=>
   refine Af (id r₁) fun T items z ze1 g rL=>?_;subst ze1
   have hl:=rL.size
   rw [← hl] at hx hy hc hz
   refine A0 (FW hx hy (r₂.step t₃) r₃) fun pa pb p1 p2 hb=>?_
   have hy':=KI hy (Nat.le_refl _)
   have hlen:(cut vs x y).length=y - x:=PG (hl▸hy')
   rw [hlen] at hc
   refine ⟨⟨"tuple", _,PyProof.Rows.slot_tuple_getitem.lookup,⟨_,Heap.get?_push_of_some _ g,rfl⟩⟩,ED (z:=z) (Heap.get?_push_of_some _ g) (Heap.IsSliceOf.new ..) p1 p2 hb hc (Cy hz) ?_⟩
   rw [Heap.size_push]
   refine PV.lift s₃ (PV.tup (tk:=c₃.s.toks) (Vs:=cut vs x y) ?_ Eb Jg q)
   show RelL _ _ (cut vs x y) ((items.toList.drop x).take (y - x))
   unfold cut
   rw [List.drop_take]
   exact HP _ (Ho _ rL)
  | @str z lv hv' x y hz hx hy q=>
   apply Ei r₁;intro t
   refine A0 (FW hx hy (r₂.step t₃) r₃) fun pa pb p1 p2 hb=>?_
   refine AC (Ju p1) fun l1 ze1 m1=>?_;subst ze1
   refine AC (Ju p2) fun l2 ze1 m2=>?_;subst ze1
   refine ⟨⟨"str", _,PySem.F.slot_str_getitem.lookup,typeIs_str _ _ _⟩,wpAny_getItem_str_slice (l:=l1) (u:=l2) (st:=none) ⟨_,Heap.get?_push_size _ rfl,rfl,rfl⟩ rfl ?_⟩
   have e:slicePicked z l1 l2 none=(List.range (y - x)).map (x+·):=by
    have:slicePicked z l1 l2 none=sliceRange (sliceBounds pa pb none z.length).1 (sliceBounds pa pb none z.length).2.1 1:=by
     unfold slicePicked
     rw [m1,m2]
     rfl
    rw [this,hb,sliceRange_one]
   have hp:(slicePicked z l1 l2 none).filterMap (z.cps[·]?)=cut z.cps.toList x y:=by
    rw [e,pick_run]
    unfold cut
    rw [List.drop_take]
   have hl:z.length=z.cps.toList.length:=Array.length_toList.symm
   have hy':=KI hy (Nat.le_refl _)
   have hlen:(slicePicked z l1 l2 none).length=(cut z.cps.toList x y).length:=by
    rw [e,List.length_map,List.length_range,PG (hl▸hy')]
   unfold sliceMade
   rw [hp,hlen]
   split
   ·rename_i hc
    have hc:=beq_iff_eq.mp (Bool.and_eq_true_iff.mp hc).2
    rw [RC (hc.trans hl)] at q
    exact PV.lift s₃ (PV.kept (tk:=c₃.s.toks) A7 B0 q)
   ·refine ⟨?_,PV.lift s₃ (PV.kept A7 B0 q)⟩
    show (cut z.cps.toList x y).toArray.size≤sizeLine
    rw [List.size_toArray]
    exact Cy (Nat.le_trans Sr (hl▸hz))))
end
end Mine.Internal
namespace Mine.Internal
open PySem PySem.Calls
set_option genSizeOf false
set_option genInjectivity false
section
variable {K:Ctx} {L:Loc}
theorem Mr (hbase:∀ env,attributeBase o ("extend":Str) env (eval o env)=eval o env) (hline:(apos.endLine==pos.line)=true) (hn:Aq e)
  (ho:EOk K L o a) (he:EOk K L e b):EOk K L (.Call (.Attribute o ("extend":Str) apos) [e] [] pos) (TY a b):=fun A c ρ Q X R F q=>
 wpAny_Call_method1_late (hbase L.env) hline (by rw [hn];rfl) (seq (.refl c) (ho A c ρ _ X R F q) fun c₁ V v s₁ _ r₁ q₁=>by
  obtain ⟨⟨n,us,rfl,en⟩,q₁⟩:=q₁
  refine Aw (Cf.list en r₁) fun l items k ze1 el gl rr hz=>?_;subst ze1
  refine ⟨"list", "list.extend", PySem.F.plainAttrs_list,PySem.F.slot_list_extend,PySem.F.type_list_extend,⟨_,gl,rfl⟩,fun a e=>by cases e;exact ⟨_,gl,rfl⟩,?_⟩
  refine PySem.P.extend_list (seq s₁ (he A c₁ ρ _ X R (F.step s₁) q₁) fun c₂ W u s₂ t₂ r₂ q₂=>?_)
  cases q₂ with
  | mk en em hz hn q=>
   refine Aw (Cf.list en (r₁.step t₂)) fun l' it1 k1 e1 el1 g1 rl1 z1=>?_
   cases e1
   refine Aw (Cf.list em r₂) fun l2 it2 k2 ze1 el2 g2 rl2 z2=>?_;subst ze1
   have hs:it1.size+it2.size≤sizeLine:=by rw [rl1.size,rl2.size];exact CJ hz
   refine ⟨l2,it1,it2,k1,k2,Nat.le_trans (Nat.le_add_right _ _) hs,Nat.le_succ_of_le hs,fun q=>?_,rfl,g1,g2,?_⟩
   ·exact Nat.not_lt.mpr hs (of_decide_eq_true (Bool.and_eq_true_iff.mp q).2)
   refine BH (Cf.setO (c:=c₂) (o:=.list _) (tk:=c₂.s.toks) el1 hn (fun b ob hb e=>((Heap.SameBut.update ..).2 b hb).trans e) fun keep=>⟨_,_,PySem.IsL.update g1 (·++it2),by rw [Array.toList_append];exact (keep _ _ rl1).append (keep _ _ rl2),by rw [List.length_append];exact hz⟩) fun c' e1 e2 e3 st=>?_
   exact PV.lift s₂ (e1▸.mk c' .none st Ci (e3▸q)))
theorem JL:∀ {kvs:List (Str × V)} {us:List (Str × Value)},us.map (·.1)=kvs.map (·.1)→RelL h φ (kvs.map (·.2)) (us.map (·.2)) →
  (without us k).map (·.1)=(del k kvs).map (·.1)∧RelL h φ ((del k kvs).map (·.2)) ((without us k).map (·.2))
 | [],[],_,_=>⟨rfl,trivial⟩
 | [],_::_,e,_=>nomatch e
 | _::_,[],e,_=>nomatch e
 | (x,V)::kvs,(y,w)::us,e,q=>by
  have e:y::us.map (·.1)=x::kvs.map (·.1):=e
  injection e with e1 e2
  subst e1
  obtain ⟨h1,h2⟩:=JL (k:=k) e2 q.2
  unfold without del at *
  by_cases hk:y=k
  ·rw [List.filter_cons_of_neg (by simp [hk]),List.filter_cons_of_neg (by simp [hk])];exact ⟨h1,h2⟩
  ·rw [List.filter_cons_of_pos (by simp [hk]),List.filter_cons_of_pos (by simp [hk])];exact ⟨congrArg _ h1,q.1,h2⟩
theorem SR (hbase:∀ env,attributeBase o ("pop":Str) env (eval o env)=eval o env) (hline:(apos.endLine==pos.line)=true) (hn:Aq e)
  (ho:EOk K L o a) (he:EOk K L e b):EOk K L (.Call (.Attribute o ("pop":Str) apos) [e] [] pos) (Q9 a b):=fun A c ρ Q X R F q=>
 wpAny_Call_method1_late (hbase L.env) hline (by rw [hn];rfl) (seq (.refl c) (ho A c ρ _ X R F q) fun c₁ V v s₁ _ r₁ q₁=>by
  obtain ⟨⟨n,ep,kvs,rfl,en⟩,q₁⟩:=q₁
  refine BR (Cf.dict en r₁) fun l us ze1 el D P z hs=>?_;subst ze1
  refine ⟨"dict", "dict.pop", PySem.F.plainAttrs_dict,PySem.F.slot_dict_pop,PySem.F.type_dict_pop,D.dictOf.typeIs,D.dictOf.mapOf.noDict,?_⟩
  refine method1_meetsIn PySem.F.slot_dict_pop PySem.F.entry_dict_pop (seq s₁ (he A c₁ ρ _ X R (F.step s₁) q₁) fun c₂ W u s₂ t₂ r₂ q₂=>?_)
  cases q₂ with
  | @mk n ep kvs k V en hn hv q=>
   refine BR (Cf.dict en (r₁.step t₂)) fun l' us' e1 el1 D1 P1 z1 hs1=>?_
   cases e1
   refine AQ r₂ fun t ze1=>?_;subst ze1
   refine AC (P1.at.1 V hv) fun v hv' rv=>?_
   refine ⟨D1.dictOf.typeIs,PySem.F.args_dict_pop_2 _ _,_,meets_dict_pop_there (knd:=strKind K.h₀.prog K.h₀.w) (k:=k) l (strKind_is _ _ k t) [] (.inl rfl) rfl,us',v,D1.dictOf,CJ (P1.len.symm▸z1),hv',fun h' D2 hb=>?_⟩
   refine AQ D2.dictAt fun ep' D2=>?_
   refine BH (Cf.setO (c:=c₂) (o:=.dict ep' (del k kvs)) (tk:=c₂.s.toks+1) el1 hn (fun b ob h e=>(hb.2 b h).trans e) fun keep=>⟨_,D2,JL P1.1 (keep _ _ P1.2),Nat.le_trans (List.length_filter_le ..) z1,hs1⟩) fun c' e1 e2 e3 st=>?_
   exact PV.lift s₂ (e1▸.mk c' V st (rv.step st) (e3▸q ep')))
theorem Mc {pos} (hu:L.up=L.env::L.up.tail) (ht:TOk K L test t) (hb:SsOk K L body body'):SOk K L (.While test body [] pos) (IM t body'):=fun A c ρ Q R F q=>by
 refine AQ q fun n q=>?_
 refine wpAny_While (codeAny_mono (R:=fun r s'=>match r with | .ok f=>PF c L Q f s' | .error e=>PN c L Q e s') ?_ fun r _ hr=>by
  cases r with
  | ok _=>exact hr
  | error _=>exact PN.came R hu hr)
 refine codeAny_whileLoop (fun n s'=>∃ c' ρ',c'.s=s'∧Stp L.own c c'∧Fr c' L ρ'∧Gb K.C t body' Q n ρ' c'.σ) ?_ n ⟨c,ρ,rfl,.refl c,F,q⟩
 rintro n s' ⟨c',ρ',rfl,stp,F',q'⟩
 cases n with
 | zero=>exact q'.elim
 | succ n=>
  refine wpAny_mono (ht A c' ρ' _ _ R F' q') (fun b s₂ y=>?_) fun e s₂ x=>(PE.lift stp (x.toE F'):PE c L Q e s₂).note R hu
  cases b with
  | false=>exact y.casesOn fun c₁ s₁ q₁=>wpAny_execs_nil (.next c₁ ρ' (stp.trans s₁.any) (F'.step s₁) q₁)
  | true=>
   refine y.casesOn fun c₁ s₁ q₁=>?_
   refine wpAny_mono (hb A c₁ ρ' _ R (F'.step s₁) q₁) (fun f s₄ y=>?_) fun e s₄ y=>(PE.lift (stp.trans s₁.any) ?_:PE c L Q e s₄).note R hu
   ·have st₁:=stp.trans s₁.any
    exact y.casesOn (fun c₄ ρ₄ s₄ F₄ q₄=>⟨n,Nat.lt_succ_self n,c₄,ρ₄,rfl,st₁.trans s₄,F₄,q₄⟩) fun c₄ ρ₄ V u s₄ F₄ r q₄=>.ret c₄ ρ₄ V u (st₁.trans s₄) F₄ r q₄
   ·exact y.casesOn fun c₄ ρ₄ k a fp fl n hk s₄ F₄ ex h q₄=>.mk c₄ ρ₄ k a fp fl n hk s₄ F₄ ex h q₄
end
end Mine.Internal
namespace Mine.Internal
open PySem PySem.Calls
section
variable {K:Ctx} {L:Loc}
theorem TC (hbase:∀ env,attributeBase o ("get":Str) env (eval o env)=eval o env) (hline:(apos.endLine==pos.line)=true) (hn:Aq e) (hn':Aq f)
  (ho:EOk K L o a) (he:EOk K L e b) (hf:EOk K L f d):EOk K L (.Call (.Attribute o ("get":Str) apos) [e,f] [] pos) (Q3 a b d):=fun A c ρ Q X R F q=>
 wpAny_Call_method2_late (hbase L.env) hline (by rw [hn,hn'];rfl) (seq (.refl c) (ho A c ρ _ X R F q) fun c₁ V v s₁ _ r₁ q₁=>by
  obtain ⟨⟨n,m,g,rfl,T⟩,q₁⟩:=q₁
  refine Cw (Cf.tabT T r₁) fun l xs ze1 el D tk at_ hl hs=>?_;subst ze1
  refine ⟨"dict", "dict.get", PySem.F.plainAttrs_dict,PySem.F.slot_dict_get,PySem.F.type_dict_get,D.typeIs,PyProof.Rows.dictOfH_noDict D,?_⟩
  refine wpAny_dict_get2_heap (knd:=tkd K.h₀) (tupleKind_room_in1 (Nat.lt_of_le_of_lt (Nat.add_le_add_left (by decide) _) R.u100)) hs (seq s₁ (he A c₁ ρ _ X R (F.step s₁) q₁) fun c₂ W u s₂ t₂ r₂ q₂=>seq s₂ (hf A c₂ ρ _ X R (F.step s₂) q₂) fun c₃ Y y s₃ t₃ r₃ q₃=>?_)
  cases q₃ with
  | @mk n m g k T' q=>
   refine Cw (Cf.tabT T' ((r₁.step t₂).step t₃)) fun l' xs' e' el' D' tk' at' hl' hs'=>?_
   cases e'
   refine AC (F2 (r₂.step t₃)) fun b ze1 kb=>?_;subst ze1
   refine ⟨b,k,xs',rfl,kb.key,D',PV.lift s₃ ?_⟩
   have:=at' k
   cases hk:g k with
   | none=>rw [hk] at this q;rw [show (atKey xs' k).map (·.2)=none from this];exact PV.plain r₃ q
   | some V=>rw [hk] at this q;refine AC this fun z e r=>?_;rw [e];exact PV.plain r q)
theorem O2 (hbase:∀ env,attributeBase o ("index":Str) env (eval o env)=eval o env) (hline:(apos.endLine==pos.line)=true) (hn:Aq e)
  (ho:EOk K L o a) (he:EOk K L e b):EOk K L (.Call (.Attribute o ("index":Str) apos) [e] [] pos) (TB a b):=fun A c ρ Q X R F q=>
 wpAny_Call_method1_late (hbase L.env) hline (by rw [hn];rfl) (seq (.refl c) (ho A c ρ _ X R F q) fun c₁ V v s₁ _ r₁ q₁=>by
  obtain ⟨⟨n,us,rfl,en⟩,q₁⟩:=q₁
  refine Aw (Cf.list en r₁) fun l items k ze1 el gl rr hz=>?_;subst ze1
  refine ⟨"list", "list.index", PySem.F.plainAttrs_list,PySem.F.slot_list_index,PySem.F.type_list_index,⟨_,gl,rfl⟩,fun a e=>by cases e;exact ⟨_,gl,rfl⟩,?_⟩
  refine seqMethod1_meets PySem.F.slot_list_index PySem.F.entry_list_index (seq s₁ (he A c₁ ρ _ X R (F.step s₁) q₁) fun c₂ W u s₂ t₂ r₂ q₂=>?_)
  cases q₂ with
  | @mk n j rs k en hj hno q=>
   refine Aw (Cf.list en (r₁.step t₂)) fun l' it1 k1 e1 el1 g1 rl1 z1=>?_
   cases e1
   refine AC (F2 r₂) fun b ze1 kb=>?_;subst ze1
   have key:∀ i r,rs[i]?=some r→∃ y,it1[i]?=some (Value.ref y)∧TupK c₂.s.heap r y:=fun i r hr=>by
    refine AC (rl1.get (i:=i) (by rw [List.getElem?_map,hr];rfl)) fun y ey ry=>?_
    refine AC (F2 ry) fun y ze1 ky=>?_;subst ze1
    exact ⟨y,Array.getElem?_toList▸ey,ky⟩
   have hsz:it1.size=rs.length:=by rw [rl1.size,List.length_map]
   have hjl:=(List.getElem?_eq_some_iff.mp hj).1
   classical
   have he:∀ {i r} (h:i<it1.size),rs[i]?=some r→decide (∃ y,it1[i]=Value.ref y∧TupK c₂.s.heap k y)=decide (r=k):=fun {i r} h hr=>by
    refine AC (key i r hr) fun y ey ky=>?_
    rw [Array.getElem?_eq_getElem h] at ey
    refine decide_eq_decide.mpr ⟨fun ⟨z,ez,kz⟩=>?_,fun e=>⟨y,Option.some.inj ey,e▸ky⟩⟩
    rw [Option.some.inj ey] at ez
    cases ez
    exact (ky.key (prog:=K.h₀.prog) (w:=K.h₀.w)).inj kz.key
   refine ⟨⟨_,g1,rfl⟩,PySem.F.args_list_index_2 _ _,_,SeqAt.list_indexAt l it1 k1 none #[] (.ref b) (fun v=>decide (∃ y,v=Value.ref y∧TupK c₂.s.heap k y)) j (hsz▸hjl) (Int.lt_of_lt_of_le (Int.ofNat_lt.mpr (Nat.lt_of_lt_of_le (hsz▸hjl) (rl1.size▸z1))) (by decide)) ((he (hsz▸hjl) hj).trans (decide_eq_true rfl)) (fun i hi hlt=>?_),g1,fun y hy=>?_,?_⟩
   ·have hr:=List.getElem?_eq_getElem (hsz▸hi)
    exact (he hi hr).trans (decide_eq_false fun e=>hno (List.mem_take_iff_getElem.mpr ⟨i,Nat.lt_min.mpr ⟨hlt,hsz▸hi⟩,e⟩))
   ·obtain ⟨i,hi,rfl⟩:=Array.mem_iff_getElem.mp hy
    have hr:=List.getElem?_eq_getElem (l:=rs) (hsz▸hi)
    refine AC (key i _ hr) fun y ey ky=>?_
    rw [Array.getElem?_eq_getElem hi] at ey
    show SeqAt.EqAt _ _ _ _ (decide _)
    rw [he hi hr,Option.some.inj ey]
    exact fun prog w E Q hQ=>(tupleKind (intKind prog w)).eqBool (tupleKind_room_in1 (knd:=intKind prog w) (Nat.lt_of_le_of_lt (Nat.add_le_add_left (by decide) _) R.u100)) ky.key kb.key hQ
   ·exact PV.lift s₂ (PV.plain A1 q))
end
end Mine.Internal
namespace Mine.Internal
open PySem PySem.Calls
set_option genSizeOf false
set_option genInjectivity false
noncomputable def DC:Nat→List Str→Vs
 | _,[]=>[]
 | n,x::r=>(x,n)::DC (n+1) r
theorem HD:∀ (xs:List Str) (n:Nat) {x:Str} {i:Nat},(DC n xs).lookup x=some i→∃ j,i=n+j∧xs[j]?=some x
 | y::r,n,x,i,h=>by
  rw [DC,List.lookup_cons] at h
  cases e:x==y with
  | true=>rw [e] at h;exact ⟨0,(Option.some.inj h).symm,congrArg some (beq_iff_eq.mp e).symm⟩
  | false=>rw [e] at h;refine AC (HD r (n+1) h) fun j h1 h2=>?_;exact ⟨j+1,h1.trans (by rw [Nat.add_assoc,Nat.add_comm 1]),h2⟩
theorem E0 (h:(DC 0 xs).lookup x=some i):xs[i]?=some x:=by refine AC (HD xs 0 h) fun _ e q=>?_;exact (e.trans (Nat.zero_add _))▸q
theorem Mq (ps:List Str):∀ (vs:List Value) (m:Str→Option Value) {x:Str},x∉ps→bindL k (ps.zip vs) m x=m x:=by
 induction ps with
 | nil=>exact fun _ _ _ _=>rfl
 | cons p ps ih=>intro vs m x h;cases vs with
  | nil=>rfl
  | cons v vs=>
   rw [List.zip_cons_cons,bindL,ih vs _ (fun hh=>h (List.mem_cons_of_mem _ hh))]
   by_cases hk:k p=some .local
   ·rw [if_pos hk];exact if_neg (show ¬ x=p from fun e=>h (e▸List.mem_cons_self))
   ·rw [if_neg hk]
theorem Mk (ps:List Str):∀ (vs:List Value) (m:Str→Option Value) {x:Str},x∉ps→bindC k (ps.zip vs) m x=m x:=by
 induction ps with
 | nil=>exact fun _ _ _ _=>rfl
 | cons p ps ih=>intro vs m x h;cases vs with
  | nil=>rfl
  | cons v vs=>
   rw [List.zip_cons_cons,bindC,ih vs _ (fun hh=>h (List.mem_cons_of_mem _ hh))]
   by_cases hk:k p=some .local
   ·rw [if_pos hk]
   ·rw [if_neg hk];exact if_neg (show ¬ x=p from fun e=>h (e▸List.mem_cons_self))
theorem MY (ps:List Str):∀ (vs:List Value) (m:Str→Option Value) {i:Nat} {x:Str} {v:Value},ps.Nodup→ps[i]?=some x→vs[i]?=some v→k x=some .local→bindL k (ps.zip vs) m x=some v:=by
 induction ps with
 | nil=>intro vs m i x v _ h;exact absurd h.symm (Option.some_ne_none x)
 | cons p ps ih=>intro vs m i x v hnd h h' hk;cases vs with
  | nil=>exact absurd h'.symm (Option.some_ne_none v)
  | cons u vs=>
   rw [List.zip_cons_cons,bindL]
   cases i with
   | zero=>
    rw [← Option.some.inj h,← Option.some.inj h',Mq ps vs _ (List.nodup_cons.mp hnd).1,if_pos (Option.some.inj h▸hk),if_pos rfl]
   | succ i=>exact ih vs _ (List.nodup_cons.mp hnd).2 h h' hk
theorem Mg (ps:List Str):∀ (vs:List Value) (m:Str→Option Value) {i:Nat} {x:Str} {v:Value},ps.Nodup→ps[i]?=some x→vs[i]?=some v→k x≠some .local→bindC k (ps.zip vs) m x=some v:=by
 induction ps with
 | nil=>intro vs m i x v _ h;exact absurd h.symm (Option.some_ne_none x)
 | cons p ps ih=>intro vs m i x v hnd h h' hk;cases vs with
  | nil=>exact absurd h'.symm (Option.some_ne_none v)
  | cons u vs=>
   rw [List.zip_cons_cons,bindC]
   cases i with
   | zero=>
    rw [← Option.some.inj h,← Option.some.inj h',Mk ps vs _ (List.nodup_cons.mp hnd).1,if_neg (Option.some.inj h▸hk),if_pos rfl]
   | succ i=>exact ih vs _ (List.nodup_cons.mp hnd).2 h h' hk
theorem DK:∀ (names:List (Str × NameKind)) (n:Nat) (acc:List (Str × Addr)) {x:Str},(acc.lookup x).isSome=true∨(x,NameKind.cell)∈names→((cellsFrom n names acc).lookup x).isSome=true
 | [],_,_,_,h=>h.elim id fun h=>nomatch h
 | (y,k)::r,n,acc,x,h=>by
  rw [cellsFrom]
  cases hk:k==NameKind.cell with
  | false=>exact DK r n acc (h.imp id fun m=>(List.mem_cons.mp m).resolve_left fun e=>by cases e;cases hk)
  | true=>
   refine DK r (n+1) _ ?_
   rw [List.lookup_cons]
   cases e:x==y with
   | true=>exact .inl rfl
   | false=>exact h.imp id fun m=>(List.mem_cons.mp m).resolve_left fun e'=>by cases e';rw [beq_self_eq_true] at e;cases e
noncomputable def UH (sc:Scope):List Str:=(sc.names.filter fun x=>(x.2==.local||x.2==.cell)&&x.1 != (".0":Str)).map (·.1)
noncomputable def A9 (ps:List Str) (sc:Scope):List Str:=ps++(UH sc).filter fun x=>!ps.contains x
noncomputable def Fi (sc:Scope) (x:Str):Bool:=match sc.names.lookup x with
 | some .local | some .cell=>true
 | _=>false
theorem Cl (h:Fi sc x=true):sc.names.lookup x=some .local∨sc.names.lookup x=some .cell:=by
 unfold Fi at h
 split at h
 ·exact .inl ‹_›
 ·exact .inr ‹_›
 ·cases h
structure DefOk (scope:Scope) (args:List Str):Prop where
 nodup:args.Nodup
 own:∀ x∈A9 args scope,Fi scope x=true
 kind:scope.kind=.function
 co:scope.isCoroutine=false
 gen:scope.isGenerator=false
noncomputable abbrev Ca (args:List Str) (sc:Scope):Vs:=DC 0 (A9 args sc)
theorem J3 {h₀:Bs} {c c':Cf h₀} {ps xs:List Str} {Vs:List V} {vals:List Value} {i k:Nat} {x:Str} {ov:Option Value} (hl:ps.length=Vs.length) (rl:RelL c.s.heap c.φ Vs vals) (hx:(ps++xs)[i]?=some x) (st:WStp AO c c')
  (h:∀ v,ps[i]?=some x→vals[i]?=some v→ov=some v):SlotIs c' (Vs++List.replicate k V.undef) i ov:=fun W hW hne=>by
 have hi:i<Vs.length:=Nat.lt_of_not_le fun h=>hne (by
  rw [List.getElem?_append_right h,List.getElem?_replicate] at hW
  split at hW
  ·exact (Option.some.inj hW).symm
  ·cases hW)
 rw [List.getElem?_append_left hi] at hW
 rw [List.getElem?_append_left (hl▸hi)] at hx
 refine AC (rl.get hW) fun v e r=>?_
 exact ⟨v,h v hx e,r.own st fun _ f=>f.elim⟩
section
variable {K:Ctx}
theorem Kh {c:Cf K.h₀} {s₁:Shared} {fd:FuncData} {a:Addr} {args:List Str} {Vs:List V} {vals:List Value} {k:Nat} (D:DefOk fd.scope args) (hg:fd.globals=mainGlobals) (hb:fd.builtins=builtinsNs) (rl:RelL c.s.heap c.φ Vs vals) (hl:args.length=Vs.length) {up:List Env} (hup:∀ e∈up,FrameAt c e)
  (x:InCallC c.s (callEnvC fd c.s.heap.objs.size a).locals (bindL (callEnvC fd c.s.heap.objs.size a).kindOf (args.zip vals) fun _=>none) (callEnvC fd c.s.heap.objs.size a).cells (bindC (callEnvC fd c.s.heap.objs.size a).kindOf (args.zip vals) fun _=>none) s₁) :
  Fr (c.keep s₁ x.toInCall.keep) ⟨callEnvC fd c.s.heap.objs.size a,Ca args fd.scope,callEnvC fd c.s.heap.objs.size a::up⟩ (Vs++List.replicate k V.undef):=by
 have st:WStp AO c (c.keep s₁ x.toInCall.keep):=by
  refine CD x.done fun h₁ tk ze1 _=>?_;subst ze1
  exact (Cf.keep_stp (c:=c) (k:=x.toInCall.keep) ⟨rfl,rfl⟩).toWStp
 exact {
  fn:=D.kind
  glob:=hg
  blt:=hb
  locNew:=c.sim.none₀ Ad
  locOut:=c.sim.out Ad
  inj:=fun y z i hy hz=>Option.some.inj ((E0 hy).symm.trans (E0 hz))
  ns:=.mk _ x.toInCall.ns fun y i hy hk=>J3 hl rl (E0 hy) st fun v h1 h2=>MY _ _ _ D.nodup h1 h2 hk
  cell:=fun y i hy hk=>by
   have hget:=E0 hy
   have hc:fd.scope.names.lookup y=some .cell:=(Cl (D.own y (List.mem_of_getElem? hget))).resolve_left fun e=>by
    rw [show (callEnvC fd c.s.heap.objs.size a).kindOf y=_ from e] at hk
    refine Or.elim hk (fun q=>?_) (fun q=>?_) <;> cases q
   refine AQ (Option.isSome_iff_exists.mp (DK fd.scope.names (c.s.heap.objs.size+1) [] (.inr (mem_of_lookup hc)))) fun b ec=>?_
   have ec':(callEnvC fd c.s.heap.objs.size a).cells.lookup y=some b:=ec
   have n:c.s.heap.get? b=none:=BX (Nat.le_of_lt (x.above y b (mem_of_lookup ec')))
   exact .mk b _ ec' (c.sim.out n) (c.sim.none₀ n) (x.cell y b ec') (J3 hl rl hget st fun v h1 h2=>Mg _ _ _ D.nodup h1 h2 (by rw [show (callEnvC fd c.s.heap.objs.size a).kindOf y=_ from hc];exact nofun))
  cellInj:=fun y z i j b _ _ h1 h2=>name_of_addr x.apart (mem_of_lookup h1) (mem_of_lookup h2)
  up:=fun e m=>(List.mem_cons.mp m).elim (fun q=>by subst q;exact ⟨(fun q=>nomatch D.kind.symm.trans q),_,_,rfl,c.sim.none₀ Ad,c.sim.out Ad,x.toInCall.ns⟩) fun m=>(hup e m).keep st fun _ _ _ _ f=>f }
theorem Qo (hd:K.d=d) {Vs:List V} {vals:List Value}
  (hp:fd.params=⟨[],args,none,[],[],none,[]⟩) (D:DefOk fd.scope (args.map (·.arg))) (hg:fd.globals=mainGlobals) (hb:fd.builtins=builtinsNs) (hbody:fd.body=.stmts body) (hclo:fd.closure=[]) (hdf:fd.defaults=.none) (hup:∀ e∈up,FrameAt c e) (R:A.handled=none∧A.depth+3*(d+1)<903∧A.units+12*(d+1)<9009∧A.frames=some up) (ho:c.s.heap.get? a=some o) (hdat:o.data=.func fd) (hlim:c.s.heap.NoLimit) (hcd:c.s.heap.CodeRec fd.code fd.qualname) (rl:RelL c.s.heap c.φ Vs vals) (hl:(args.map (·.arg)).length=Vs.length)
  (hB:∀ env,env.scope=fd.scope→env.code=fd.code→env.qual=fd.qualname++".<locals>."→Om K ⟨env,Ca (args.map (·.arg)) fd.scope,env::up⟩ body body') (q:BL body' K.C (Vs++List.replicate k V.undef) c.σ (Fu Q X)):codeAny K.M A (.call (.ref a) ⟨vals,[]⟩) (JR K c Q X) c.s:=by
 refine It R fun hh hdep hun hfr=>?_
 have hroom:A.depth<recursionLimit:=Nat.lt_of_lt_of_le (Nat.lt_of_le_of_lt (Nat.le_add_right _ _) hdep) (by decide)
 refine codeAny_call_cells (binds:=(args.map (·.arg)).zip vals) hroom ho hdat hlim hcd hbody (DZ hp hdf (hl.trans rl.length) D.nodup) hclo (fun y hy=>?_) (fun s₁ x=>?_) D.co D.gen D.kind
 ·exact (Cl (D.own y.1 (List.mem_append_left _ (List.of_mem_zip hy).1))).imp id fun e=>⟨e,DK _ _ _ (.inr (mem_of_lookup e))⟩
 ·have F:=Kh (k:=k) (a:=a) D hg hb rl hl hup x
  have st₀:Stp AO c (c.keep s₁ x.toInCall.keep):=by
   refine CD x.done fun h₁ tk ze1 _=>?_;subst ze1
   exact Cf.keep_stp ⟨rfl,rfl⟩
  have new:∀ b,Loc.own ⟨callEnvC fd c.s.heap.objs.size a,Ca (args.map (·.arg)) fd.scope,callEnvC fd c.s.heap.objs.size a::up⟩ b→c.s.heap.get? b=none:=fun b h=>h.elim (fun e=>e▸Ad) fun h=>A0 h fun y i _ _ ec=>BX (Nat.le_of_lt (x.above y b (mem_of_lookup ec)))
  have R':RFun K (callEnvC fd c.s.heap.objs.size a::up) (A.deeper (callEnvC fd c.s.heap.objs.size a)):=⟨hh,by rw [hd];show A.depth+1+3*d<901;exact an2 .lt (.a (.a .v0 .n1) (.m 3 .v1)) (.n 901) (.t (.a .v0 (.m 3 (.a .v1 .n1))) (.n 903) .e) rfl hdep,by rw [hd];show A.units+3+12*d<9000;exact an2 .lt (.a (.a .v0 .n3) (.m 12 .v1)) (.n 9000) (.t (.a .v0 (.m 12 (.a .v1 .n1))) (.n 9009) .e) rfl hun,by show A.frames.map _=_;rw [hfr];rfl⟩
  refine wpAny_mono (hB _ rfl rfl rfl _ (c.keep s₁ x.toInCall.keep) _ _ R' F q) (fun f s' y=>?_) fun e s' y=>?_
  ·cases y with
   | next c' _ st _ q=>exact .mk c' .none (st₀.transNew st.toWStp new) Ci q
   | ret c' _ V _ st _ r q=>exact .mk c' V (st₀.transNew st.toWStp new) r q
  ·refine Bi (y.at R'.ok rfl) fun c' ρ' k a' fp fl ze1 ze2 z hk q st n=>?_;subst ze1;subst ze2
   exact OJ (P:=fun s=>PX c X (.ref a') s) z fun c'' T e1 e2 st' F' ex hp=>.mk c'' k a' [a',T] (fun b m=>⟨st₀.gone (EW e1 st n hp b m).1,(EW e1 st n hp b m).2⟩) hk ((st₀.transNew st.toWStp new).transNew st' fun b m=>st₀.gone (n b m).1) ex (e2▸q)
end
end Mine.Internal
namespace Mine.Internal
open PySem PySem.Calls
set_option genSizeOf false
set_option genInjectivity false
noncomputable def CK (env:Env):List (Str × NameKind)→List (Str × Addr)→List (Str × Addr)
 | [],acc=>acc
 | (n,k)::r,acc=>if k==.free then CK env r ((n,(env.cells.lookup n).getD 0)::acc) else CK env r acc
theorem EJ:∀ (names:List (Str × NameKind)) (acc:List (Str × Addr)),(∀ y∈names,y.2=.free→∃ a,env.cells.lookup y.1=some a) →
  (forIn names acc fun x cs=>(if x.2==NameKind.free then do let a ← cellOf env x.1;pure (ForInStep.yield ((x.1,a)::cs)) else pure (ForInStep.yield cs):Sem (ForInStep (List (Str × Addr)))))=pure (CK env names acc)
 | [],_,_=>rfl
 | (n,k)::r,acc,hh=>by
  rw [List.forIn_cons,CK]
  dsimp only
  cases hk:k==NameKind.free with
  | false=>exact EJ r acc fun y hy=>hh y (List.mem_cons_of_mem _ hy)
  | true=>
   refine AQ (hh (n,k) List.mem_cons_self (beq_iff_eq.mp hk)) fun a ha=>?_
   rw [if_pos rfl,if_pos rfl,show cellOf env n=pure a by unfold cellOf;rw [ha],ha]
   exact EJ r _ fun y hy=>hh y (List.mem_cons_of_mem _ hy)
theorem KQ (h:∀ y∈sc.names,y.2=.free→∃ a,env.cells.lookup y.1=some a):closureFor sc env=pure (CK env sc.names []):=by
 exact congrArg (fun m:Sem (List (Str × Addr))=>m >>= pure) (EJ sc.names [] h)
theorem GK (env:Env):∀ (names:List (Str × NameKind)) (acc:List (Str × Addr)) (y:Str),(∀ p∈acc,p.2=(env.cells.lookup p.1).getD 0)→(acc.lookup y).isSome=true∨(y,NameKind.free)∈names →
  (CK env names acc).lookup y=some ((env.cells.lookup y).getD 0)
 | [],acc,y,ha,h=>by
  refine AQ (Option.isSome_iff_exists.mp (h.resolve_right fun h=>nomatch h)) fun a hc=>?_
  exact hc.trans (congrArg some (ha (y,a) (mem_of_lookup hc)))
 | (n,k)::r,acc,y,ha,h=>by
  rw [CK]
  cases hk:k==NameKind.free with
  | false=>exact GK env r acc y ha (h.imp id fun m=>(List.mem_cons.mp m).resolve_left fun e=>by cases e;cases hk)
  | true=>
   refine GK env r _ y (fun p hp=>(List.mem_cons.mp hp).elim (fun e=>e▸rfl) (ha p)) ?_
   rw [List.lookup_cons]
   cases e:y==n with
   | true=>exact .inl rfl
   | false=>exact h.imp id fun m=>(List.mem_cons.mp m).resolve_left fun e'=>by cases e';rw [beq_self_eq_true] at e;cases e
theorem D9 (env:Env):∀ (names:List (Str × NameKind)) (acc:List (Str × Addr)) (y:Str),acc.lookup y=none→(y,NameKind.free)∉names→(CK env names acc).lookup y=none
 | [],_,_,h,_=>h
 | (n,k)::r,acc,y,h,hn=>by
  rw [CK]
  cases hk:k==NameKind.free with
  | false=>exact D9 env r acc y h fun m=>hn (List.mem_cons_of_mem _ m)
  | true=>
   refine D9 env r _ y ?_ fun m=>hn (List.mem_cons_of_mem _ m)
   rw [List.lookup_cons,beq_eq_false_iff_ne.mpr fun e=>hn (by rw [e,← beq_iff_eq.mp hk];exact List.mem_cons_self)]
   exact h
theorem Dn {env:Env} {x:Str}:∀ (names:List (Str × NameKind)),
  (names.map fun (n,k)=>if (k==NameKind.free&&env.scope.kind==.function&&env.kindOf n==some .cell) then (n,NameKind.cell) else (n,k)).lookup x =
  (names.lookup x).map fun k=>if (k==NameKind.free&&env.scope.kind==.function&&env.kindOf x==some .cell) then NameKind.cell else k
 | []=>rfl
 | (n,k)::r=>by
  have ih:=Dn (env:=env) (x:=x) r
  show List.lookup x ((if (k==NameKind.free&&env.scope.kind==.function&&env.kindOf n==some .cell)=true then (n,NameKind.cell) else (n,k))::_)=Option.map _ (List.lookup x ((n,k)::r))
  by_cases hc:(k==NameKind.free&&env.scope.kind==.function&&env.kindOf n==some .cell)=true
  ·rw [if_pos hc,List.lookup_cons,List.lookup_cons]
   cases e:x==n with
   | true=>rw [beq_iff_eq.mp e];exact congrArg some (if_pos hc).symm
   | false=>exact ih
  ·rw [if_neg hc,List.lookup_cons,List.lookup_cons]
   cases e:x==n with
   | true=>rw [beq_iff_eq.mp e];exact congrArg some (if_neg hc).symm
   | false=>exact ih
theorem Dl {env:Env} {sc:Scope} {x:Str}:(relabel sc env).names.lookup x=(sc.names.lookup x).map fun k=>if (k==NameKind.free&&env.scope.kind==.function&&env.kindOf x==some .cell) then NameKind.cell else k:=Dn sc.names
theorem IV (h:sc.names.lookup y=some .free):(relabel sc env).names.lookup y=some .cell∨(relabel sc env).names.lookup y=some .free:=by
 rw [Dl,h,Option.map_some]
 split
 ·exact .inl rfl
 ·exact .inr rfl
structure CompSc (L:Loc) (sc:Scope) (vs':Vs) (x:Str) (i:Nat):Prop where
 kind:sc.kind=.function
 cell:∀ y∈sc.names,y.2≠.cell
 names:∀ y∈sc.names,y.2=.local→sc.names.lookup y.1=some .local
 var:sc.names.lookup x=some .local
 once:(x,NameKind.free)∉sc.names
 slot:vs'.lookup x=some i
 free:∀ y∈sc.names,y.2=.free→∃ j,L.vs.lookup y.1=some j∧(L.env.kindOf y.1=some .cell∨L.env.kindOf y.1=some .free)
 vars:∀ y j,vs'.lookup y=some j→(y=x∧j=i)∨(y≠x∧sc.names.lookup y=some .free∧L.vs.lookup y=some j∧j≠i)
noncomputable abbrev BQ (L:Loc) (sc:Scope) (vs':Vs) (C:Addr):Loc:=⟨compEnvC sc (CK L.env sc.names []) C L.env,vs',L.up⟩
section
variable {h₀:Bs} {c c':Cf h₀} {L:Loc} {ρ:List V} {sc:Scope} {vs':Vs} {x:Str} {i:Nat} {C:Addr}
theorem HV (cs:CompSc L sc vs' x i):(BQ L sc vs' C).env.kindOf x=some .local:=lookup_relabel_local cs.var
theorem Ce (cs:CompSc L sc vs' x i) (F:Fr c L ρ) (hf:sc.names.lookup y=some .free) (hv:L.vs.lookup y=some j):CellAt c L ρ y j∧∀ a,L.env.cells.lookup y=some a→(CK L.env sc.names []).lookup y=some a:=by
 refine AC (cs.free (y,.free) (mem_of_lookup hf) rfl) fun j' hv' hk=>?_
 cases hv.symm.trans hv'
 exact ⟨F.cell y j hv hk,fun a e=>by rw [GK L.env sc.names [] y (fun _ h=>nomatch h) (.inr (mem_of_lookup hf)),e];rfl⟩
theorem Ko (cs:CompSc L sc vs' x i) (F:Fr c L ρ) (st:WStp AO c c') (n:c'.s.heap.Ns C m) (hC:c.s.heap.get? C=none) (ho:C∉c'.φ):Fr c' (BQ L sc vs' C) (ρ.set i .undef) where
 fn:=cs.kind
 glob:=F.glob
 blt:=F.blt
 locNew:=c.sim.none₀ hC
 locOut:=ho
 inj y z j hy hz:=by
  rcases cs.vars y j hy with ⟨rfl,rfl⟩ | ⟨h1,_,h2,h3⟩
  ·rcases cs.vars z _ hz with ⟨rfl,_⟩ | ⟨_,_,_,h3⟩
   ·rfl
   ·exact absurd rfl h3
  ·rcases cs.vars z j hz with ⟨rfl,rfl⟩ | ⟨_,_,h4,_⟩
   ·exact absurd rfl h3
   ·exact F.inj y z j h2 h4
 ns:=.mk m n fun y j hy hk=>by
  rcases cs.vars y j hy with ⟨rfl,rfl⟩ | ⟨_,hf,_,_⟩
  ·exact fun V hV hne=>absurd (CZ hV).symm hne
  ·refine Or.elim (IV (env:=L.env) hf) (fun e=>?_) (fun e=>?_) <;> cases e.symm.trans hk
 cell y j hy hk:=by
  rcases cs.vars y j hy with ⟨rfl,rfl⟩ | ⟨_,hf,hv,hj⟩
  ·rw [HV cs] at hk;refine Or.elim hk (fun q=>?_) (fun q=>?_) <;> cases q
  ·obtain ⟨ca,hl⟩:=Ce cs F hf hv
   exact match ca with
   | .mk a ov e1 e2 e3 ic rr=>.mk a ov (hl a e1) (let ⟨_,e,_⟩:=ic;st.out e e2) e3 (st.keepC e2 (fun f=>f) ic) ((rr.own st fun _ f=>f.elim).other (Ne.symm hj))
 cellInj y z j j' a hy hz h1 h2:=by
  have nx:(CK L.env sc.names []).lookup x=none:=D9 L.env sc.names [] x rfl cs.once
  rcases cs.vars y j hy with ⟨rfl,rfl⟩ | ⟨_,hf,hv,_⟩
  ·cases nx.symm.trans h1
  ·rcases cs.vars z j' hz with ⟨rfl,rfl⟩ | ⟨_,hf',hv',_⟩
   ·cases nx.symm.trans h2
   ·obtain ⟨⟨a1,_,e1,_⟩,l1⟩:=Ce cs F hf hv
    obtain ⟨⟨a2,_,e2,_⟩,l2⟩:=Ce cs F hf' hv'
    cases (l1 a1 e1).symm.trans h1
    cases (l2 a2 e2).symm.trans h2
    exact F.cellInj y z j j' _ hv hv' e1 e2
 up e m:=(F.up e m).keep st fun _ _ _ _ f=>f
end
section
variable {K:Ctx} {L:Loc}
variable (K L) in
noncomputable def IN (es:List Expr) (ts:List Tx):Prop:=
 ∀ (A:Around) (c:Cf K.h₀) (ρ:List V) (Q:Bool→AB→Prop),ROk K L.up A→Fr c L ρ→EC ts K.C ρ c.σ Q noX →
  wpAny K.M A (forIn es true fun e r=>if r=true then do let ok ← isTrue e L.env (eval e L.env);pure (ForInStep.yield ok) else pure (ForInStep.yield r)) (PB c Q) (PX c noX) c.s
theorem Jq:∀ (es:List Expr),Q false s →
  wpAny K.M A (forIn es false fun e r=>if r=true then do let ok ← isTrue e env (eval e env);pure (ForInStep.yield ok) else pure (ForInStep.yield r)) Q E s
 | [],h=>wpAny_pure h
 | _::es,h=>by
  rw [List.forIn_cons]
  exact wpAny_bind (wpAny_pure (Jq es h))
theorem Pl:IN K L [] []:=fun _ c _ _ _ _ q=>wpAny_tests_nil (.mk c (.refl c) q)
theorem Mx (h:TOk K L e t) (hs:IN K L es ts):IN K L (e::es) (t::ts):=fun A c ρ Q R F q=>by
 rw [List.forIn_cons]
 refine wpAny_bind (wpAny_bind (Na (.refl c) (h A c ρ _ noX R F q) fun c₁ b s₁ _ q₁=>wpAny_pure ?_))
 cases b with
 | false=>exact Jq es (.mk c₁ s₁ q₁)
 | true=>exact Od s₁ (hs A c₁ ρ Q R (F.step s₁) q₁)
theorem SW {P:Prop} (x:PX c noX e s):P:=absurd x (PX.no fun _ _ f=>f)
end
end Mine.Internal
namespace Mine.Internal
open PySem PySem.Calls
set_option genSizeOf false
set_option genInjectivity false
section
variable {K:Ctx} {L:Loc} {A:Around} {vs':Vs}
theorem Pc {α:Type} {M:Model} {P:Shared→Prop} {E E':Value→Shared→Prop} {s:Shared} {t:Sem α} {Q:α→Shared→Prop} (h:wpAny M A (pure ():Sem Unit) (fun _ s'=>P s') E' s)
  (k:P s→wpAny M A t Q E s):wpAny M A t Q E s:=fun Γ p hΓ=>k (h Γ p hΓ) Γ p hΓ
inductive AccAt (c:Cf K.h₀) (D:Addr) (acc:List V):Prop
 | mk (arr:Array Value) (n:Nat):D∉c.φ→IsL c.s.heap D arr n→RelL c.s.heap c.φ acc arr.toList→AccAt c D acc
theorem AccAt.own {own:Addr→Prop} (st:WStp own c c') (ht:∀ a,own a→A5 c.s.heap a) (hD:¬ own D) (x:AccAt c D acc):AccAt c' D acc:=x.casesOn fun arr n o e r=>.mk arr n (st.out e o) (st.keepE o hD nofun e) (r.own st ht)
theorem AccAt.step (st:Stp AO c c') (x:AccAt c D acc):AccAt c' D acc:=x.own st.toWStp (fun _ f=>f.elim) fun f=>f
theorem AccAt.noIt (x:ItOb c.s.heap D) (y:AccAt c D acc):False:=y.casesOn fun _ _ _ e _=>x.casesOn fun _ _ _ e' d _ _=>nomatch d.symm.trans (congrArg Obj.data (Option.some.inj (e'.symm.trans e)))
theorem AccAt.noNs (n:c.s.heap.Ns D m) (y:AccAt c D acc):False:=y.casesOn fun _ _ _ e _=>DU (CO n) fun _ e' _ _ d=>nomatch d.symm.trans (congrArg Obj.data (Option.some.inj (e'.symm.trans e)))
theorem AccAt.noCell (n:c.s.heap.IsCell D v) (y:AccAt c D acc):False:=y.casesOn fun _ _ _ e _=>AC n fun _ e' d=>nomatch d.symm.trans (congrArg Obj.data (Option.some.inj (e'.symm.trans e)))
theorem AccAt.noTup (y:AccAt c D acc):A5 c.s.heap D:=y.casesOn fun _ _ _ e _=>Mine.Internal.noTup e BO
inductive CompI (c:Cf K.h₀) (Lc:Loc) (ρ:List V) (D:Addr) (St:Nat→Cf K.h₀→Prop) (items:List V) (W:Nat→List V→AB→Prop) (n:Nat):Shared→Prop
 | mk (c':Cf K.h₀) (j:Nat) (acc:List V):j+n=items.length+1→j≤items.length→Stp AO c c'→Fr c' Lc ρ→St j c'→AccAt c' D acc→acc.length≤j→W j acc c'.σ→CompI c Lc ρ D St items W n c'.s
theorem M5 {i:Nat} {same:AB→Prop} {St:Nat→Cf K.h₀→Prop} {Qc:List V→AB→Prop} {E:Value→Shared→Prop}
  (R:ROk K L.up A) (cs:CompSc L scope vs' x i) (hfp:∀ b∈fp,c.s.heap.get? b=none) (hD:c.s.heap.get? D=none) (hC:c.s.heap.get? C=none) (W:Itr K A (.Name x px) I fp items same St) (helt:EOk K (BQ L scope vs' C) elt a) (hts:IN K (BQ L scope vs' C) ifs ts) (hz:items.length≤Ag)
  {n j:Nat} (hn:j+n=items.length+1) (hlt:j<items.length) (stp:Stp AO c c') (F:Fr c' (BQ L scope vs' C) (ρ.set i .undef)) (st:St j c') (ac:AccAt c' D acc) (hal:acc.length≤j)
  (q:DW K.C a i ts ρ items[j] c'.σ fun r σ'=>same σ'∧Ba (DW K.C a i ts ρ) same (items.drop (j+1)) (acc++r.toList) σ' Qc) :
  wpAny K.M A (pyNext (.ref I)) (fun r s₁=>∃ v,r=some v∧wpAny K.M A (assign (.Name x px) (BQ L scope vs' C).env v) (fun _ s₂=>wpAny K.M A (forIn ifs true fun e r=>if r=true then do let ok ← isTrue e (BQ L scope vs' C).env (eval e (BQ L scope vs' C).env);pure (ForInStep.yield ok) else pure (ForInStep.yield r)) (fun ok s₃=>
    if ok=true then wpAny K.M A (eval elt (BQ L scope vs' C).env) (fun y s₄=>wpAny K.M A (call (.builtin "list.append") [.ref D,y]) (fun _ s₅=>∃ m,m<n∧CompI c (BQ L scope vs' C) (ρ.set i .undef) D St items (fun j acc σ=>Ba (DW K.C a i ts ρ) same (items.drop j) acc σ Qc) m s₅) E s₄) E s₃
    else ∃ m,m<n∧CompI c (BQ L scope vs' C) (ρ.set i .undef) D St items (fun j acc σ=>Ba (DW K.C a i ts ρ) same (items.drop j) acc σ Qc) m s₃) E s₂) E s₁) E c'.s:=by
 have mine:=W.mine j c' st
 refine wpAny_mono (W.item j items[j] c' (List.getElem?_eq_getElem hlt) st) (fun r s₁ ⟨v,e,y⟩=>⟨v,e,Pc y fun z=>?_⟩) fun _ _ e=>e.elim
 refine z.casesOn fun c₁ e1 e2 s₁ zp00=>?_
 have rl:=zp00.1
 have st₁:=zp00.2
 have F₁:=F.iter mine s₁
 have mine₁:=W.mine (j+1) c₁ st₁
 have ac₁:=ac.own s₁ (fun b m=>(mine b m).noTup) fun m=>ac.noIt (mine D m)
 have stp₁:=stp.transNew s₁ hfp
 refine wpAny_assign_Name (Dp F₁ cs.slot (HV cs) rl fun c₂ f1 f2 s₂ F₂=>?_)
 rw [List.set_set] at F₂
 have hns:∀ b,b=C→A5 c₁.s.heap b∧∃ m,c₁.s.heap.Ns b m:=fun b e=>F₁.ns.casesOn fun m n _=>e▸⟨Cg n,m,n⟩
 have ac₂:=ac₁.own s₂.toWStp (fun b e=>(hns b e).1) fun e=>(hns D e).2.elim fun _ n=>ac₁.noNs n
 have stp₂:=stp₁.transNew s₂.toWStp fun b e=>e▸hC
 have go:∀ {c₃:Cf K.h₀} {acc':List V},Stp AO c c₃→WStp (fun b=>b=C∨b=D) c₁ c₃→Fr c₃ (BQ L scope vs' C) (ρ.set i items[j])→AccAt c₃ D acc'→acc'.length≤j+1→same c₃.σ∧Ba (DW K.C a i ts ρ) same (items.drop (j+1)) acc' c₃.σ Qc →
   ∃ m,m<n∧CompI c (BQ L scope vs' C) (ρ.set i .undef) D St items (fun j acc σ=>Ba (DW K.C a i ts ρ) same (items.drop j) acc σ Qc) m c₃.s:=fun {c₃ acc'} stp₃ s₃ F₃ ac₃ hl q=>
  ⟨n - 1,by exact an2 .lt .v0 .v1 (.q (.a .v0 .n1) .v1 .e) rfl (Nat.sub_add_cancel (an3 .le .n1 .v0 (.t .v1 .v2 (.p (.a .v1 .v0) (.a .v2 .n1) .e)) rfl hlt hn)),.mk c₃ (j+1) acc' (by exact Nat.le_antisymm (an4 .le (.a (.a .v0 .n1) .v1) (.a .v2 .n1) (.q (.a .v1 .n1) .v3 (.q (.a .v0 .v3) (.a .v2 .n1) .e)) rfl (Nat.sub_add_cancel (an3 .le .n1 .v0 (.t .v1 .v2 (.p (.a .v1 .v0) (.a .v2 .n1) .e)) rfl hlt hn)) hn) (an4 .le (.a .v0 .n1) (.a (.a .v1 .n1) .v2) (.p (.a .v1 .v3) (.a .v0 .n1) (.p (.a .v2 .n1) .v3 .e)) rfl hn (Nat.sub_add_cancel (an3 .le .n1 .v0 (.t .v1 .v2 (.p (.a .v1 .v0) (.a .v2 .n1) .e)) rfl hlt hn)))) hlt stp₃ F₃.undef (W.frame (j+1) c₁ c₃ st₁ s₃.pre q.1 (fun b hb o e=>s₃.keepE ((mine₁ b hb).out c₁.sim) (fun m=>m.elim (fun m=>let ⟨_,n⟩:=(hns b m).2;(mine₁ b hb).notNs n) fun m=>ac₁.noIt (m▸mine₁ b hb)) ((mine₁ b hb).noDict e) e)
   fun V v r=>r.own s₃ fun b m=>m.elim (fun e=>(hns b e).1) fun e=>e▸ac₁.noTup) ac₃ hl q.2⟩
 refine wpAny_mono (hts A c₂ (ρ.set i items[j]) _ R F₂ (by rw [f2,e2];exact q)) (fun ok s₃ y=>?_) fun _ _ e=>SW e
 cases ok with
 | false=>
  exact y.casesOn fun c₃ s₃ q₃=>go (stp₂.trans s₃) ((s₂.wider fun _ e=>.inl e).trans s₃.any).toWStp (F₂.step s₃) (ac₂.step s₃) (Nat.le_succ_of_le hal) (by have q₃:same c₃.σ∧Ba (DW K.C a i ts ρ) same (items.drop (j+1)) (acc++[]) c₃.σ Qc:=q₃;rw [List.append_nil] at q₃;exact q₃)
 | true=>
  refine y.casesOn fun c₃ s₃ q₃=>?_
  refine wpAny_mono (helt A c₃ (ρ.set i items[j]) _ noX R (F₂.step s₃) q₃) (fun u s₄ y=>?_) fun _ _ e=>SW e
  refine y.casesOn fun c₄ V s₄ r₄ q₄=>?_
  have F₄:=(F₂.step s₃).step s₄
  have ac₄:=(ac₂.step s₃).step s₄
  refine ac₄.casesOn fun arr k oD eD rD=>?_
  refine wpAny_list_append_plain ⟨k,eD⟩ (fun h₅ hp hs=>?_) (Cy (by rw [rD.size];exact Nat.le_trans hal (Nat.le_trans (Nat.le_of_lt hlt) hz)))
  refine AQ hp fun k' e'=>?_
  have ho:∀ b,b=D→A5 c₄.s.heap b∧b∉c₄.φ∧K.h₀.get? b=none:=fun b e=>e▸⟨Mine.Internal.noTup eD BO,oD,c.sim.none₀ hD⟩
  have s₅:Stp (·=D) c₄ (c₄.keepOwn { c₄.s with heap:=h₅ } (fun b o hb e=>(hs.2 b hb).trans e) ho):=Cf.keepOwn_stp ⟨rfl,rfl⟩ fun b _ e _=>e▸⟨_,e'⟩
  have F₅:=F₄.keep s₅.toWStp (fun b e=>(ho b e).1) (fun f _ n _ e=>ac₄.noNs (e▸n)) fun b _ ic e=>ac₄.noCell (e▸ic)
  refine go (((stp₂.trans s₃).trans s₄).transNew s₅.toWStp fun b e=>e▸hD) (((s₂.wider fun _ e=>.inl e).trans (s₃.trans s₄).any).trans (s₅.wider fun _ e=>.inr e)).toWStp F₅ (.mk _ k' oD e' ?_) (by rw [List.length_append];exact Nat.succ_le_succ hal) q₄
  rw [Array.toList_push]
  exact (rD.own s₅.toWStp fun b e=>(ho b e).1).append ⟨r₄.own s₅.toWStp fun b e=>(ho b e).1,trivial⟩
inductive Made (c:Cf K.h₀) (Qc:List V→AB→Prop) (D C:Addr):Shared→Prop
 | mk (c':Cf K.h₀) (acc:List V) (m:Str→Option Value):Stp AO c c'→c.s.heap.get? D=none→c.s.heap.get? C=none→C∉c'.φ→c'.s.heap.Ns C m→AccAt c' D acc→acc.length≤Ag→Qc acc c'.σ→Made c Qc D C c'.s
theorem Ht {i:Nat} {same:AB→Prop} {St:Nat→Cf K.h₀→Prop} {Qc:List V→AB→Prop}
  {RR:Value→Addr→Result→Shared→Prop} {E:Value→Shared→Prop}
  (R:ROk K L.up A) (F:Fr c L ρ) (st:Stp AO c c₂) (cs:CompSc L scope vs' x i) (hfp:∀ b∈fp,c.s.heap.get? b=none) (W:Itr K A (.Name x px) I fp items same St) (self:FE K A I St) (st0:St 0 c₂) (hsame:same c₂.σ)
  (helt:∀ C,EOk K (BQ L scope vs' C) elt a) (hts:∀ C,IN K (BQ L scope vs' C) ifs ts) (hz:items.length≤Ag) (q:Ba (DW K.C a i ts ρ) same items [] c₂.σ Qc) (hfin:∀ D C s',Made c Qc D C s'→RR (.ref D) C (.ok .next) s') :
  wpAny K.M A (newList []) (fun acc s₃=>wpAny K.M A (newFunctionEnv scope L.env.globals (CK L.env scope.names []) [] L.env.qual none .none (some L.env)) (fun cenv s₄=>
   codeAny K.M A (.compStart (.ListComp elt [⟨.Name x px,iter,ifs,0⟩] scope pos) 0 (.ref I) acc { cenv with scope:=relabel scope L.env }) (RR acc cenv.locals) s₄) E s₃) E c₂.s:=by
 refine wpAny_newObj_type (wpAny_newFunctionEnv cs.cell (fun _ h=>nomatch h) (fun h₁ hns hsb=>?_) cs.kind)
 have nD:c₂.s.heap.get? c₂.s.heap.objs.size=none:=Ad
 have nC:c₂.s.heap.get? (c₂.s.heap.push { cls:=.type "list", dict:=none,data:=.seq ([]:List Value).toArray }).objs.size=none:=EO
 have below:∀ {b o},(c₂.s.heap.push { cls:=.type "list", dict:=none,data:=.seq ([]:List Value).toArray }).get? b=some o→b≠(c₂.s.heap.push { cls:=.type "list", dict:=none,data:=.seq ([]:List Value).toArray }).objs.size:=fun e=>Nat.ne_of_lt (Heap.lt_size e)
 have old:∀ b o,(c₂.s.heap.push { cls:=.type "list", dict:=none,data:=.seq ([]:List Value).toArray }).get? b=some o→h₁.get? b=some o:=fun b o e=>hsb.extBut b o (below e) (Heap.get?_push_of_some _ e)
 have eD:=old _ _ (Heap.get?_push_size c₂.s.heap (o:={ cls:=.type "list", dict:=none,data:=.seq ([]:List Value).toArray }) rfl)
 generalize (c₂.s.heap.push { cls:=.type "list", dict:=none,data:=.seq ([]:List Value).toArray }).objs.size=C at hns nC ⊢
 have keep:∀ b o,c₂.s.heap.get? b=some o→h₁.get? b=some o:=fun b o e=>old b o (Heap.get?_push_of_some _ e)
 have s₃:Stp AO c₂ (c₂.keep { c₂.s with heap:=h₁,toks:=c₂.s.toks+([]:List (Str × Value)).length } keep):=Cf.keep_stp ⟨rfl,rfl⟩
 have F₃:=Ko cs (F.step st) s₃.toWStp hns nC (c₂.sim.out nC)
 have h0:St 0 (c₂.keep { c₂.s with heap:=h₁,toks:=c₂.s.toks+([]:List (Str × Value)).length } keep):=W.frame 0 c₂ _ st0 (List.prefix_refl _) hsame (fun b _ o e=>keep b o e) fun V v r=>r.step s₃
 have loop:codeAny K.M A (.compLoop (.ListComp elt [⟨.Name x px,iter,ifs,0⟩] scope pos) 0 (.ref I) (.ref c₂.s.heap.objs.size) (BQ L scope vs' C).env) (RR (.ref c₂.s.heap.objs.size) C) { c₂.s with heap:=h₁,toks:=c₂.s.toks+([]:List (Str × Value)).length }:=by
  refine codeAny_compLoop_tests (fun n s'=>CompI c (BQ L scope vs' C) (ρ.set i .undef) c₂.s.heap.objs.size St items (fun j acc σ=>Ba (DW K.C a i ts ρ) same (items.drop j) acc σ Qc) n s') (fun n s' y=>?_) (items.length+1)
   (.mk _ 0 [] (Nat.zero_add _) (Nat.zero_le _) (st.trans s₃) F₃ h0 (.mk #[] _ (c₂.sim.out nD) eD trivial) (Nat.le_refl _) q)
  refine y.casesOn fun c' j acc hn hj stp F' st' ac hal q'=>?_
  refine Or.elim (Nat.lt_or_ge j items.length) (fun hlt=>?_) (fun hge=>?_)
  ·rw [List.drop_eq_getElem_cons hlt] at q'
   refine wpAny_mono (M5 R cs hfp (st.gone nD) (st.gone nC) W (helt C) (hts C) hz hn hlt stp F' st' ac hal q') (fun r s₁ h=>AC h fun v e z=>by subst e;exact z) fun _ _ e=>e
  ·cases Nat.le_antisymm hj hge
   rw [List.drop_length] at q'
   refine wpAny_mono (W.done c' st') (fun r s₁ ⟨e,z⟩=>?_) fun _ _ e=>e.elim
   subst e
   exact z.casesOn fun c₁ e1 e2 s₁ _=>have mine:=W.mine _ c' st';have F₁:=F'.iter mine s₁
    F₁.ns.casesOn fun m n _=>hfin _ C _ (.mk c₁ acc m (stp.transNew s₁ hfp) (st.gone nD) (st.gone nC) F₁.locOut n (ac.own s₁ (fun b m=>(mine b m).noTup) fun m=>ac.noIt (mine _ m)) (Nat.le_trans hal hz) (e2▸q'))
 refine codeAny_compStart_list loop (wpAny_mono (self 0 _ h0) (fun v s₁ ⟨e1,e2⟩=>?_) fun _ _ e=>e.elim)
 subst e1 e2;exact loop
theorem Made.join (st:Stp AO c c') (nD:c.s.heap.get? D=none) (hz:acc.length≤Ag) (x:AccAt c' D acc):∃ c₂:Cf K.h₀,c₂.s=c'.s∧c₂.φ=c'.φ++[D]∧c₂.σ=c'.σ++[.list acc]∧Stp AO c c₂∧Rel c₂.s.heap c₂.φ (.ref c'.σ.length) (.ref D):=
 x.casesOn fun arr n o e r=>⟨⟨c'.s,c'.φ++[D],c'.σ++[.list acc],c'.sim.add (o:=.list acc) o (c.sim.none₀ nD) ⟨arr,n,e,r,Cd hz⟩⟩,rfl,rfl,rfl,
  ⟨⟨st.only,st.pre.trans (List.prefix_append _ _),st.keep,fun a m=>(Be m).elim (st.fresh a) fun e=>.inr (e▸nD)⟩,st.pres⟩,⟨D,rfl,by rw [← c'.sim.len];exact List.getElem?_concat_length⟩⟩
theorem R5 (st:Stp own c c') (n:c'.s.heap.Ns C m) (hC:C∉c'.φ) (nC:c.s.heap.get? C=none) (hs:Heap.SameBut C c'.s.heap h') :
  ∃ c₂:Cf K.h₀,c₂.s={ c'.s with heap:=h' }∧c₂.φ=c'.φ∧c₂.σ=c'.σ∧Stp own c c₂∧WStp (·=C) c' c₂:=
 have ho:∀ a,a=C→A5 c'.s.heap a∧a∉c'.φ∧K.h₀.get? a=none:=fun a e=>e▸⟨Cg n,hC,c.sim.none₀ nC⟩
 have s₂:WStp (·=C) c' (c'.keepOwn { c'.s with heap:=h' } (fun b o hb e=>(hs.2 b hb).trans e) ho):=⟨⟨rfl,rfl⟩,List.prefix_refl _,fun b o _ hb e=>⟨o,(hs.2 b hb).trans e,.refl o⟩,fun _ m=>.inl m⟩
 ⟨c'.keepOwn { c'.s with heap:=h' } (fun b o hb e=>(hs.2 b hb).trans e) ho,rfl,rfl,rfl,st.transNew s₂ fun b e=>e▸nC,s₂⟩
theorem CX (cs:CompSc L scope vs' x i) (F:Fr c L ρ):closureFor scope L.env=pure (CK L.env scope.names []):=
 KQ fun y hy hf=>AC (cs.free y hy hf) fun j hj hk=>(F.cell y.1 j hj hk).casesOn fun a _ e _ _ _ _=>⟨a,e⟩
theorem Lb (cs:CompSc L scope vs' x i) (hs:∀ x,foldedSetIterable iter L.env x=pure x)
  (hsrc:Ff K L iter k src (.Name x px)) (hk:k≠.enum) (helt:∀ C,EOk K (BQ L scope vs' C) elt a) (hts:∀ C,IN K (BQ L scope vs' C) ifs ts) :
  EOk K L (.ListComp elt [⟨.Name x px,iter,ifs,0⟩] scope pos) (BA a i k src ts):=fun A c ρ Q X R F q=>by
 rw [eval_ListComp]
 refine wpAny_comprehension_free (use:=none) rfl hs (CX cs F) cs.kind cs.names (wpAny_mono (hsrc A c ρ (fun items same σ₁=>items.length≤Ag∧Ba (DW K.C a i ts ρ) same items [] σ₁ fun ys σ₂=>Q (.ref σ₂.length) (σ₂++[O.list ys])) X R F q) (fun xv s₁ h₁=>wpAny_mono h₁ (fun it s₂ h₂=>?_) fun _ _ e=>e) fun _ _ e=>e)
 refine h₂.casesOn fun c₁ items same I fp St s₁ zp40 hsm W st0 hfp self=>?_
 have hz:=zp40.1
 have q₁:=zp40.2
 refine Ht (RR:=fun acc C=>compPost K.M A (PX c X) none (PV c Q) acc C) R F s₁ cs hfp W (self hk) st0 hsm helt hts hz q₁ fun D C s' y=>?_
 refine y.casesOn fun c' acc m st nD nC oC n ac hal q'=>?_
 refine ⟨m,n,fun h' hs'=>?_⟩
 refine Bu (Made.join st nD hal ac) fun c₂ e1 e2 e3 s₂ r₂=>?_
 have oC₂:C∉c₂.φ:=e2▸fun mm=>(Be mm).elim oC fun e=>ac.noNs (e▸n)
 refine Bu (R5 s₂ (e1▸n) oC₂ nC (e1▸hs')) fun c₃ f1 f2 f3 s₃ t₃=>?_
 have:=PV.mk (c:=c) (Q:=Q) c₃ _ s₃ (r₂.own t₃ fun b e=>e▸Cg (e1.symm▸n)) (by rw [f3,e3];exact q')
 rw [f1,e1] at this;exact this
theorem O6 (cs:CompSc L scope vs' x i) (hs:∀ x,foldedSetIterable iter L.env x=pure x)
  (hsrc:Ff K L iter k src (.Name x px)) (hk:k≠.enum) (helt:∀ C,EOk K (BQ L scope vs' C) elt a) (hts:∀ C,IN K (BQ L scope vs' C) ifs ts) (hy:L.vs.lookup y=some iy) (hky:L.env.kindOf y=some .local)
  (hsw:swapsWith (.ListComp elt [⟨.Name x px,iter,ifs,0⟩] scope pos) (some (.Name y py)) spos.line L.env=pure true) :
  SOk K L (.Assign [.Name y py] (.ListComp elt [⟨.Name x px,iter,ifs,0⟩] scope pos) spos) (AP (.var iy) (BA a i k src ts)):=fun A c ρ Q R F q=>by
 rw [exec_Assign_Name_used _ _ _ _ hsw]
 refine wpAny_bind (wpAny_standAt (wpAny_bind ?_))
 show wpAny _ A (do let _ ← comprehension (.ListComp elt [⟨.Name x px,iter,ifs,0⟩] scope pos) scope L.env _ (newList []) false (eval iter L.env) (some (assign (.Name y py) L.env))) _ _ c.s
 refine wpAny_bind (wpAny_mono (wpAny_comprehension_free (use:=some (assign (.Name y py) L.env)) (Q:=fun _ s'=>PF c L Q .next s') (E:=PE c L Q) rfl hs (CX cs F) cs.kind cs.names
  (wpAny_mono (hsrc A c ρ (fun items same σ₁=>items.length≤Ag∧Ba (DW K.C a i ts ρ) same items [] σ₁ fun ys σ₂=>Jd (σ₂++[O.list ys]) (fun ρ'=>Q .next ρ' (σ₂++[O.list ys])) ρ (.ref σ₂.length) (.var iy)) (fun k σ=>Q (.exc k) ρ σ) R F q) (fun xv s₁ h₁=>wpAny_mono h₁ (fun it s₂ h₂=>?_) fun _ _ e=>e.toE F) fun _ _ e=>e.toE F)) (fun _ s' hq=>wpAny_pure (wpAny_pure hq)) fun _ _ e=>e)
 refine h₂.casesOn fun c₁ items same I fp St s₁ zp60 hsm W st0 hfp self=>?_
 have hz:=zp60.1
 have q₁:=zp60.2
 refine Ht (RR:=fun acc C=>compPost K.M A (PE c L Q) (some (assign (.Name y py) L.env)) (fun _ s'=>PF c L Q .next s') acc C) R F s₁ cs hfp W (self hk) st0 hsm helt hts hz q₁ fun D C s' y'=>?_
 refine y'.casesOn fun c' acc m st nD nC oC n ac hal q'=>?_
 refine Bu (Made.join st nD hal ac) fun c₂ e1 e2 e3 s₂ r₂=>?_
 have oC₂:C∉c₂.φ:=e2▸fun mm=>(Be mm).elim oC fun e=>ac.noNs (e▸n)
 have n₂:c₂.s.heap.Ns C m:=e1.symm▸n
 have hLe:L.env.locals≠C:=fun e=>F.ns.casesOn fun _ n _=>AC (CO n) fun _ e' _=>HI (((congrArg c.s.heap.get? e).trans nC).symm.trans e')
 show wpAny _ A (assign (.Name y py) L.env (.ref D)) _ _ _
 rw [← e1]
 refine wpAny_assign_Name (Dp (F.step s₂) hy hky r₂ fun c₃ f1 f2 s₃ F₃=>?_)
 have oC₃:C∉c₃.φ:=f1▸oC₂
 have n₃:c₃.s.heap.Ns C m:=s₃.toWStp.keepN oC₂ (fun h=>hLe h.symm) n₂
 refine ⟨m,n₃,fun h' hs'=>?_⟩
 refine Bu (R5 (s₂.any.trans (s₃.wider fun _ e=>.inl e):Stp L.own c c₃) n₃ oC₃ nC hs') fun c₄ g1 g2 g3 s₄ t₄=>?_
 have F₄:=F₃.keep t₄ (fun b e=>e▸Cg n₃) (fun f _ _ hf e=>hf.elim (fun q=>hLe (q.symm.trans e)) fun ⟨e',m',q⟩=>by
  refine C4 (F.up e' m') fun _ f' _ e1 _ _ n'=>?_
  cases q.symm.trans e1
  refine AC (CO n') fun _ e2 _=>?_
  rw [show f=C from e,nC] at e2;cases e2) fun b ov ic e=>DT n₃ ic e
 exact g1▸PF.next c₄ _ s₄ F₄ (by rw [g3,f2,e3];exact q')
end
end Mine.Internal
namespace Mine.Internal
open PySem PySem.Calls
set_option genSizeOf false
set_option genInjectivity false
section
variable {K:Ctx} {L:Loc} {G:GlT} {fa:Nat→Addr} {mg mb:Str→Option Value}
theorem not_modules {h:Heap} {m:Str→Option Value} (n:h.Ns mainGlobals m) {a:Addr} (ha:h.objs.size≤a):(a==sysModules)=false:=
 beq_eq_false_iff_ne.mpr fun e=>Nat.not_lt.mpr (Nat.le_trans ha (Nat.le_of_eq e)) (Nat.lt_of_le_of_lt (by decide) n.lt)
theorem Qg (g:Gnd K G fa mg mb):EOk K L (.Dict [] [] pos) J2:=fun A c ρ Q X R F q=>
 wpAny_Dict_empty (PV.new (tk:=c.s.toks) (o:=.dict 0 []) (fun _ _ e=>Heap.get?_push_of_some _ e) Ad
  ⟨[],⟨_,#[],Heap.get?_push_size _ rfl,⟨rfl,rfl,rfl⟩,rfl,fun _ he=>absurd he (by simp),.nil,List.nodup_nil⟩,⟨rfl,trivial⟩,Nat.zero_le _,not_modules (g.ns.keeps c.sim.keep) (Nat.le_refl _)⟩ q)
theorem Cf.inst {c:Cf K.h₀} {n m:Nat} {C:Addr} {fs:List (Str × V)} {v:Value} (e1:c.σ[n]?=some (.inst C m)) (e2:c.σ[m]?=some (.ns fs)) (r:Rel c.s.heap c.φ (.ref n) v) :
  ∃ a dx mA,v=.ref a∧c.φ[m]?=some dx∧dx≠a∧a∈c.φ∧c.s.heap.Inst a C mA∧(∀ o,c.s.heap.get? a=some o→o.dict=some dx)∧(∀ y,AttrIs c.s.heap c.φ (fs.lookup y) (mA y)):=by
 refine AC r fun a₀ ev ea=>?_
 refine JC (c.sim.obj n _ e1) fun a ea' dx ed ne ob g hc hd hk=>?_
 refine Q1 (c.sim.obj m _ e2) fun dx' ed' mA n1 at'=>?_
 obtain rfl:=Option.some.inj (ed'.symm.trans ed)
 obtain rfl:=Option.some.inj (ea.symm.trans ea')
 exact ⟨a₀,dx',mA,ev,ed,ne,List.mem_of_getElem? ea,⟨ob,g,hc,hd,.inr ⟨dx',hk,ne,n1⟩⟩,fun o e=>Option.some.inj (g.symm.trans e)▸hk,at'⟩
theorem Nb {V:V} (r:Rel h φ V v):handedOut v=pure v:=by
 cases V with
 | undef=>exact r.elim
 | none=>exact r▸rfl
 | bool _=>exact r▸rfl
 | int _=>exact r.elim fun _ r=>r▸rfl
 | str _=>exact r.elim fun _ r=>r▸rfl
 | tup _=>exact Cu r fun _ _ _ r _=>r▸rfl
 | ref _=>exact AC r fun _ r _=>r▸rfl
theorem J7:∀ n∈B9,typeLookup (.type "object") n=pure none:=by
 intro n hn
 rcases List.mem_cons.mp hn with rfl | hn
 ·rw [typeLookup_type,builtinLookup_eq_fast];kernel_rfl
 rcases List.mem_cons.mp hn with rfl | hn
 ·rw [typeLookup_type,builtinLookup_eq_fast];kernel_rfl
 cases List.mem_singleton.mp hn
 rw [typeLookup_type,builtinLookup_eq_fast];kernel_rfl
theorem Gj (h:n∈B9):n∈Ii:=List.mem_cons_of_mem _ (List.mem_cons_of_mem _ (List.mem_cons_of_mem _ h))
theorem ClsG.now {c:Cf K.h₀} {C:Addr} {i:Nat} (x:ClsG K.h₀.heap G fa mg C i):∃ N mN,PyProof.Rows.ClsAt c.s.heap C N mN∧(∀ n∈Ii,mN n=none)∧(∀ m j,G.lookup (AV++"."++m)=some (.fn j)→K8 c.s.heap mN m (fa j))∧K8 c.s.heap mN "__init__" (fa i):=by
 refine BN x.ns fun N mN cl q me ini=>?_
 have k:∀ {m a},K8 K.h₀.heap mN m a→K8 c.s.heap mN m a:=fun ⟨e,o,fd,h1,h2,h3⟩=>⟨e,o,fd,c.sim.keep _ _ h1,h2,h3⟩
 exact ⟨N,mN,cl.keeps c.sim.keep,q,fun m j h=>k (me m j h),k ini⟩
theorem Qa (g:Gnd K G fa mg mb) {C:Addr} {i:Nat} {x nm:Str} {a:Ex} {xp pos:Pos} (hc:G.lookup AV=some (.cls C i)) (hn:nm∈B9) (h:EOk K L (.Name x xp) a):EOk K L (.Attribute (.Name x xp) nm pos) (As C nm a):=fun A c ρ Q X R F q=>
 PyProof.Rows.Attribute_any_ (seq (.refl c) (h A c ρ _ X R F q) fun c₁ V v s₁ _ r q₁=>by
  cases q₁ with
  | @mk n m fs W e1 e2 e3 q=>
   refine DM (Cf.inst e1 e2 r) fun ad dx mA ze1 _ _ _ I _ at'=>?_;subst ze1
   refine BN ((g.cls C i hc).now (c:=c₁)) fun N mN cl hq _ _=>?_
   refine A2 cl.obj fun nm' q' bs sn sub col dd k0 k1 k2 k3 k5 hC=>?_
   have hv:=at' nm
   rw [e3] at hv
   refine AC hv fun v ev rv=>?_
   exact load_attr hC cl.ns (hq _ (by decide)) (hq _ (Gj hn)) (J7 nm hn) I ev (Nb rv) (PV.lift s₁ (PV.plain rv q)))
theorem SC (g:Gnd K G fa mg mb) {A:Around} {c:Cf K.h₀} {C:Addr} {i:Nat} {nm:Str} {V W:Mine.Internal.V} {v u:Value} {T:AB→Prop} {P:Unit→Shared→Prop} {E:Value→Shared→Prop} (hc:G.lookup AV=some (.cls C i)) (hn:nm∈B9) (rv:Rel c.s.heap c.φ V v) (ro:Rel c.s.heap c.φ W u)
  (q:PutK c.σ T C nm V W) (h:∀ c':Cf K.h₀,Stp AO c c'→T c'.σ→P () c'.s):wpAny K.M A (setAttr u nm v) P E c.s:=by
 cases q with
 | @mk n m fs e1 e2 hm hz q=>
  refine DM (Cf.inst e1 e2 ro) fun ad dx mA ze1 ed ne ma I hdx at'=>?_;subst ze1
  refine BN ((g.cls C i hc).now (c:=c)) fun N mN cl hq _ _=>?_
  refine A2 cl.obj fun nm' q' bs sn sub col dd k0 k1 k2 k3 k5 hC=>?_
  have hxC:ad≠C:=fun e=>by
   refine Ab I fun ob g' hc' _=>?_
   rw [e,hC] at g';cases g';cases hc'
  have hw:Within mA (fs.map (·.1)):=fun y hy=>by
   have:=at' y
   cases hl:fs.lookup y with
   | none=>rw [hl] at this;exact absurd this hy
   | some V=>exact List.mem_map.mpr ⟨(y,V),mem_of_lookup hl,rfl⟩
  refine store_attr PySem.F.store_object hC cl.ns (hq _ (by decide)) (hq _ (Gj hn)) (J7 nm hn) hxC I (fun h' tk' I' hk hsame=>?_) hw (by rw [List.length_map];exact Nat.le_trans hz (by decide))
  refine BH (id I) fun ox hx hcx hnc _=>?_
  refine Bu (hsame ox hx) fun o₁ f1 f2 f3 f4 f5=>?_
  have ho:o₁=ox:=by
   obtain ⟨c1,d1,t1,l1⟩:=o₁
   obtain ⟨c2,d2,t2,l2⟩:=ox
   have:=(f5 dx (hdx _ hx)).trans (hdx _ hx).symm
   simp only at f2 f3 f4 this
   rw [f2,f3,f4,this]
  subst ho
  have kk:∀ b o,b≠dx→c.s.heap.get? b=some o→h'.get? b=some o:=fun b o hb e=>by
   by_cases hba:b=ad
   ·subst hba;cases hx.symm.trans e;exact f1
   ·exact hk b o hba (fun o₀ d' e₀ ed'=>by cases hx.symm.trans e₀;cases (hdx _ hx).symm.trans ed';exact hb) e
  obtain ⟨c',e1',e2',e3',st⟩:=Cf.setO (c:=c) (o:=.ns (put nm V fs)) (tk:=tk') ed hm kk fun keep=>by
   refine BH I' fun o' f1' _ _ hd'=>?_
   cases f1.symm.trans f1'
   rcases hd' with ⟨h0,_⟩ | ⟨d',hd',_,n1⟩
   ·cases (hdx _ hx).symm.trans h0
   ·cases (hdx _ hx).symm.trans hd'
    refine ⟨_,n1,fun y=>?_⟩
    rw [put_lookup]
    by_cases hy:y=nm
    ·rw [if_pos hy,if_pos hy];exact ⟨v,rfl,(keep [V] [v] ⟨rv,trivial⟩).1⟩
    ·rw [if_neg hy,if_neg hy]
     have:=at' y
     cases hl:fs.lookup y with
     | none=>rw [hl] at this;exact this
     | some U=>rw [hl] at this;refine AC this fun w ew rw'=>?_;exact ⟨w,ew,(keep [U] [w] ⟨rw',trivial⟩).1⟩
  exact e1'▸h c' st (e3'▸q)
where
 put_lookup {nm:Str} {V:Mine.Internal.V}:∀ {fs:List (Str × Mine.Internal.V)} {y:Str},(put nm V fs).lookup y=if y=nm then some V else fs.lookup y:=by
  intro fs y
  unfold put
  by_cases ha:fs.any (fun p=>decide (p.1=nm))=true
  ·rw [if_pos ha]
   induction fs with
   | nil=>cases ha
   | cons p fs ih=>
    obtain ⟨k,u⟩:=p
    rw [List.map_cons,List.lookup_cons]
    by_cases hk:k=nm
    ·rw [if_pos hk,List.lookup_cons]
     dsimp only
     rw [hk]
     cases hy:y==nm with
     | true=>rw [if_pos (beq_iff_eq.mp hy)]
     | false=>
      rw [if_neg (beq_eq_false_iff_ne.mp hy)]
      dsimp only
      by_cases ha':fs.any (fun p=>decide (p.1=nm))=true
      ·rw [ih ha',if_neg (beq_eq_false_iff_ne.mp hy)]
      ·have:fs.map (fun p=>if p.1=nm then (p.1,V) else p)=fs:=by
        rw [List.map_congr_left (g:=id)]
        ·exact List.map_id fs
        ·intro p hp
         exact if_neg fun e=>ha' (List.any_eq_true.mpr ⟨p,hp,decide_eq_true e⟩)
       rw [this]
    ·rw [if_neg hk,List.lookup_cons]
     have ha':fs.any (fun p=>decide (p.1=nm))=true:=by rw [List.any_cons,decide_eq_false hk,Bool.false_or] at ha;exact ha
     cases hy:y==k with
     | true=>rw [if_neg fun e=>hk ((beq_iff_eq.mp hy).symm.trans e)]
     | false=>dsimp only;exact ih ha'
  ·rw [if_neg ha]
   induction fs with
   | nil=>rw [List.nil_append,List.lookup_cons];cases hy:y==nm with
    | true=>rw [if_pos (beq_iff_eq.mp hy)]
    | false=>rw [if_neg (beq_eq_false_iff_ne.mp hy)]
   | cons p fs ih=>
    obtain ⟨k,u⟩:=p
    have hk:¬ k=nm:=fun e=>ha (by rw [List.any_cons,decide_eq_true e,Bool.true_or])
    have ha':¬ fs.any (fun p=>decide (p.1=nm))=true:=fun e=>ha (by rw [List.any_cons,e,Bool.or_true])
    rw [List.cons_append,List.lookup_cons,List.lookup_cons]
    cases hy:y==k with
    | true=>rw [if_neg fun e=>hk ((beq_iff_eq.mp hy).symm.trans e)]
    | false=>dsimp only;exact ih ha'
theorem Nc (g:Gnd K G fa mg mb) (hc:G.lookup AV=some (.cls C i)) (hn:nm∈B9) (hs:swapsWith value (some (.Attribute o nm pos')) pos.line L.env=pure false) (ho:EOk K L o a) (hv:EOk K L value e) :
  SOk K L (.Assign [.Attribute o nm pos'] value pos) (KK C nm a e):=fun A c ρ Q R F q=>
 plainObj_wpAny_Assign_Attribute (QD (.refl c) F (hv A c ρ _ _ R F q) fun c₁ _ _ s₁ _ r₁ q₁=>QD s₁ F (ho A c₁ ρ _ _ R (F.step s₁) q₁) fun c₂ _ _ s₂ t₂ r₂ q₂=>
  SC g hc hn (r₁.step t₂) r₂ q₂ fun c₃ s₃ q₃=>.next c₃ ρ (s₂.trans s₃).any (F.step (s₂.trans s₃)) q₃) hs
theorem QJ {α β:Type} {M:Model} {A:Around} {P:β→Shared→Prop} {E E':Value→Shared→Prop} {s:Shared} {x:β} {t:Sem α} {Q:α→Shared→Prop} (h:wpAny M A (pure x:Sem β) P E' s) (k:P x s→wpAny M A t Q E s):wpAny M A t Q E s:=fun Γ p hΓ=>k (h Γ p hΓ) Γ p hΓ
theorem NQ (hns:Bo es) (hst:∀ e r,es=e::r→Aq e) (hdat:o.data=.func fd) (ho:K.h₀.get? f=some o) (hl:LOk K L es as) (R:ROk K L.up A) (F:Fr c L ρ) (q:evs as K.C ρ c.σ Q X)
  (h:∀ (c₁:Cf K.h₀) (Vs:List V) (vals:List Value),Stp AO c c₁→RelL c₁.s.heap c₁.φ Vs vals→Q Vs c₁.σ→wpAny K.M A (call (.ref f) (first++vals)) P (PX c X) c₁.s) :
  wpAny K.M A (callWith pos (.ref f) first (backTo pos (starEach es L.env)) []) P (PX c X) c.s:=by
 have key:=KH (P:=fun vals s₁=>(∀ b o,K.h₀.heap.get? b=some o→s₁.heap.get? b=some o)∧wpAny K.M A (call (.ref f) (first++vals)) P (PX c X) s₁) (.refl c) (hl A c ρ Q X pos R F q) fun c₁ Vs vals s₁ _ r q=>⟨c₁.sim.keep,h c₁ Vs vals s₁ r q.2⟩
 cases es with
 | nil=>
  refine QJ (show wpAny K.M A (pure []) _ _ c.s from key) fun key=>PyProof.Rows.callWith_meth0 hdat (c.sim.keep _ _ ho) ?_
  have:=key.2
  rwa [List.append_nil] at this
 | cons e es=>exact PyProof.Rows.callWith_meth hdat ho key (hst e es rfl es L.env)
theorem M9 (hbase:attributeBase o name env (eval o env)=eval o env) (hns:Bo args) (hz:args.length<30) (hline:(apos.endLine==pos.line)=true)
  (h:wpAny M A (eval o env) (fun ov s₁=>∀ pl,wpAny M A (getMethod ov name pl) (fun fx s₂=>wpAny M A (callWith pos fx.1 fx.2 (backTo pos (starEach args env)) []) Q E s₂) E s₁) E s):wpAny M A (eval (.Call (.Attribute o name apos) args [] pos) env) Q E s:=by
 rw [arm_eval_Call,hbase]
 refine wpAny_bind (wpAny_mono h (fun ov s₁ h₁=>wpAny_bind (wpAny_standAt ?_)) fun _ _ e=>e)
 have hpos:methodCallPos true o env apos pos=pure pos:=by unfold methodCallPos;simp [hline]
 have hform:methodCallForm (args.length+([]:List Keyword).length) (backTo pos (starEach args env)) (backToKw pos (keywordEach [] env))=true:=by
  have hn:=hns env pos
  rw [List.any_eq_false] at hn
  unfold methodCallForm
  rw [Bool.and_eq_true_iff,Bool.and_eq_true_iff]
  refine ⟨⟨List.all_eq_true.mpr fun x hx=>?_,rfl⟩,decide_eq_true hz⟩
  rw [Bool.eq_false_iff.mpr (hn x hx)];rfl
 unfold methodCall
 rw [hform]
 exact wpAny_bind (wpAny_holding (wpAny_mono (h₁ _) (fun fx s₂ h₂=>wpAny_bind (wpAny_of_eq hpos h₂)) fun _ _ e=>e))
theorem QK (g:Gnd K G fa mg mb) (hC:GC K G fa) {C:Addr} {i j:Nat} {x nm:Str} {a:Ex} {es:List Expr} {as:List Ex} {xp apos pos:Pos} (hc:G.lookup AV=some (.cls C i)) (hj:G.lookup (AV++"."++nm)=some (.fn j)) (hz:es.length<30) (hline:(apos.endLine==pos.line)=true) (h:EOk K L (.Name x xp) a) (hns:Bo es) (hst:∀ e r,es=e::r→Aq e) (hl:LOk K L es as) :
  EOk K L (.Call (.Attribute (.Name x xp) nm apos) es [] pos) (Au C nm j a as):=fun A c ρ Q X R F q=>
 M9 rfl hns hz hline (seq (.refl c) (h A c ρ _ X R F q) fun c₁ V v s₁ _ r q₁ pl=>by
  obtain ⟨⟨n,m,fs,rfl,e1,e2,e3⟩,q₁⟩:=q₁
  refine DM (Cf.inst e1 e2 r) fun ad dx mA ze1 _ _ _ I _ at'=>?_;subst ze1
  refine BN ((g.cls C i hc).now (c:=c₁)) fun N mN cl hq me _=>?_
  refine A2 cl.obj fun nm' q' bs sn sub col dd k0 k1 k2 k3 k5 hCo=>?_
  refine CG (me nm j hj) fun ef o fd ho hfc hdat=>?_
  have hsh:=at' nm
  rw [e3] at hsh
  refine CD (g.isfn _ j hj) fun o' fd' ho' hdat'=>?_
  refine method_of hCo cl.ns (hq _ (by decide)) (hq _ (by decide)) ef ho hfc (typeLookup_type _ _) I hsh ?_
  refine wpAny_mono (NQ (P:=PV c Q) (c:=c₁) (first:=[.ref ad]) hns hst hdat' ho' hl R (F.step s₁) q₁ fun c₂ Vs vals s₂ r₂ q₂=>?_) (fun _ _ z=>z) fun _ _ z=>z.lift s₁
  exact wpAny_mono (IP s₂ (hC _ j hj A L.up c₂ (.ref n::Vs) (.ref ad::vals) Q X R.call ((F.step s₁).step s₂).up ⟨r.step s₂,r₂⟩ q₂)) (fun _ _ z=>z.lift s₁) fun _ _ z=>z)
theorem Ki (hm:Heap.MadeObj c.s.heap h' x dx C):∃ c':Cf K.h₀,c'.s={ c.s with heap:=h',toks:=tk }∧c'.φ=c.φ++[dx,x]∧c'.σ=c.σ++[.ns [],.inst C c.σ.length]∧Stp AO c c':=by
 refine BH hm.inst fun ob hx hc hd hdict=>?_
 have hne:dx≠x∧h'.Ns1 dx (fun _=>none):=by
  rcases hdict with ⟨h0,_⟩ | ⟨d,h0,h1,h2⟩
  ·cases (hm.dict ob hx).symm.trans h0
  ·cases (hm.dict ob hx).symm.trans h0;exact ⟨h1,h2⟩
 have r1:RelO K.h₀ h' c.φ (.ns []) dx:=⟨_,hne.2,fun _=>rfl⟩
 have nx:x∉(c.add (tk:=tk) hm.keeps hm.newD r1).φ:=fun m=>(Be m).elim (c.sim.out hm.newX) fun e=>hne.1 e.symm
 have S:Sim K.h₀ h' (c.φ++[dx]++[x]) (c.σ++[.ns []]++[.inst C c.σ.length]):=(c.add (tk:=tk) hm.keeps hm.newD r1).sim.add (o:=.inst C c.σ.length) nx (c.sim.none₀ hm.newX) ⟨dx,by rw [← c.sim.len];exact List.getElem?_concat_length,hne.1,ob,hx,hc,hd,hm.dict ob hx⟩
 refine ⟨⟨{ c.s with heap:=h',toks:=tk },c.φ++[dx]++[x],c.σ++[.ns []]++[.inst C c.σ.length],S⟩,rfl,List.append_assoc ..,List.append_assoc ..,⟨⟨rfl,rfl⟩,?_,fun b o _ _ e=>⟨o,hm.keeps b o e,.refl o⟩,fun a m=>?_⟩,fun b o e=>⟨o,hm.keeps b o e⟩⟩
 ·exact (List.prefix_append _ _).trans (List.prefix_append _ _)
 ·rcases Be m with m | rfl
  ·rcases Be m with m | rfl
   ·exact .inl m
   ·exact .inr hm.newD
  ·exact .inr hm.newX
theorem K1 (args:Args):(Code.builtin "type.__call__" args).cUnits≤3:=Nat.le_of_ble_eq_true rfl
theorem TU (g:Gnd K G fa mg mb) (hC:GC K G fa) {C:Addr} {i:Nat} {e:Expr} {es:List Expr} {as:List Ex} {pf pos:Pos} (hc:G.lookup AV=some (.cls C i)) (hi:G.lookup (AV++"."++"__init__")=some (.fn i)) (hk:BM L.env.scope AV=true) (hn:Aq e) (hns:Bo es) (hl:LOk K L (e::es) as) :
  EOk K L (.Call (.Name AV pf) (e::es) [] pos) (Qh C i as):=fun A c ρ Q X R F q=>by
 rw [CV]
 have cg:=g.cls C i hc
 refine BN cg.ns fun N₀ mN₀ cl₀ _ _ _=>?_
 refine wpAny_bind (Cc g F cg.bound hk (by decide) (PyProof.Rows.callWith_cls cl₀ (KH (.refl c) (hl A c ρ _ X pos R F q) fun c₁ Vs vals s₁ _ r ⟨_,q₁⟩=>⟨c₁.sim.keep,?_⟩) (hn _ _) (hns _ _)))
 refine BN (cg.now (c:=c₁)) fun N mN cl hq _ ini=>?_
 refine A2 cl.obj fun nm' q' bs sn sub col dd k0 k1 k2 k3 k5 hCo=>?_
 refine CG ini fun ef o fd ho hfc hdat=>?_
 refine wpAny_call_obj_init PySem.F.objNew hCo cl.ns ef ho hfc fun h' x dx hm=>?_
 refine BH (Ki (tk:=c₁.s.toks) hm) fun c₂ e1 e2 e3 s₂=>?_
 have hx:c₂.φ[c₁.σ.length+1]?=some x:=by rw [e2,List.getElem?_append_right (by rw [c₁.sim.len];exact Nat.le_succ _),c₁.sim.len,Nat.add_sub_cancel_left];rfl
 have Ru:RCall K L.up (A.under (.builtin "type.__call__" ⟨.ref C::vals,[]⟩)):=⟨R.hd,by show A.depth+1+3*K.d<903;have:=R.depth;exact an2 .lt (.a (.a .v0 .n1) (.m 3 .v1)) (.n 903) (.t (.a .v0 (.m 3 .v1)) (.n 902) .e) rfl this,by show A.units+_+12*K.d<9009;have:=R.units;exact Nat.lt_of_le_of_lt (Nat.add_le_add_right (Nat.add_le_add_left (K1 _) _) _) (by exact an2 .lt (.a (.a .v0 .n3) (.m 12 .v1)) (.n 9009) (.t (.a .v0 (.m 12 .v1)) (.n 9006) .e) rfl this),R.fr⟩
 have key:=IP (.refl c₂) (hC _ i hi _ L.up c₂ (.ref (c₁.σ.length+1)::Vs) (.ref x::vals) _ X Ru ((F.step s₁).step s₂).up ⟨⟨x,rfl,hx⟩,r.step s₂⟩ (e3▸q₁))
 rw [e1] at key
 exact wpAny_mono key (fun r' s' z=>by
  cases z with
  | mk c₃ V s₃ rV qV=>
   obtain ⟨rfl,qV⟩:=qV
   cases rV
   exact ⟨rfl,.mk c₃ (.ref (c₁.σ.length+1)) ((s₁.trans s₂).trans s₃) ⟨x,rfl,Bt s₃.pre hx⟩ qV⟩) fun _ _ z=>z.lift (s₁.trans s₂)
theorem ExcCls.keep (x:ExcCls h k mro) (kk:∀ b o,h.get? b=some o→h'.get? b=some o):ExcCls h' k mro:=by
 cases x with
 | mk bm N nm q bs hdct sn sub ab col dd k0 k1 k2 k3 k5 mN e n i t r=>exact .mk bm N nm q bs hdct sn sub ab col dd k0 k1 k2 k3 k5 mN (kk _ _ e) (n.keeps kk) i (t.keeps kk) r
theorem Mh (g:Gnd K G fa mg mb) (hx:G.lookup x=some (.exc k ks)) (hg:BM L.env.scope x=true) (hd:CN x=true) (hn:Aq e) (he:EOk K L e a) :
  SOk K L (.Raise (some (.Call (.Name x np) [e] [] cpos)) none pos) (Cr k a):=fun A c ρ Q R F q=>by
 have xg:=g.exc x k ks hx
 refine AC (xg.kids k xg.mem) fun mro xc _=>?_
 cases xc with
 | mk bm N nm q' bs hdct sn sub ab col dd k0 k1 k2 k3 k5 mN e1 n i t r=>
 refine wpAny_Raise_call_subT (nm:=nm) (q:=q') (C:=k) (N:=N) (bs:=bs) (hdct:=hdct) (sn:=sn) (sub:=sub) (ab:=ab) (col:=col) (dd:=dd) (k0:=k0) (k1:=k1) (k2:=k2) (k3:=k3) (k5:=k5) PySem.F.excBase_ValueError (t.hasType (by decide)) R.hd (BE hn BS _ _) i (Cc g F xg.bound hg (C9 hd) ⟨rfl,?_⟩)
 refine wpAny_mono (Ng (P:=fun a s₂=>∃ c₁:Cf K.h₀,c₁.s=s₂∧Stp AO c c₁∧a.kw=[]∧a.pos.length≤sizeLine∧Q (.exc k) ρ c₁.σ) (Q:=fun _ σ=>Q (.exc k) ρ σ) (as:=[a]) R hn (Dw hn he Eu) F q fun c₁ Vs vals s₁ r hz q=>⟨c₁,rfl,s₁,rfl,?_,q⟩) (fun a s₂ ⟨c₁,e2,s₁,h1,h2,q₁⟩=>?_) fun _ _ z=>z.toE F
 ·rw [show vals.length=1 from r.length.symm.trans hz];decide
 ·subst e2
  refine ⟨h1,h2,c₁.sim.keep _ _ e1,n.keeps c₁.sim.keep,t.keeps c₁.sim.keep,fun h' ex hm=>?_⟩
  refine Ab hm.there fun t' e3 _ _=>?_
  have st:Stp AO c₁ (c₁.keep { c₁.s with heap:=h' } hm.keeps):=Cf.keep_stp ⟨rfl,rfl⟩
  exact .mk (c₁.keep { c₁.s with heap:=h' } hm.keeps) ρ k ex [ex] none (fun b m=>by cases List.mem_singleton.mp m;exact ⟨s₁.gone hm.new,c₁.sim.out hm.new⟩) xg.mem (s₁.trans st).any (F.step (s₁.trans st)) (.new _ _ _ e3 rfl rfl rfl rfl) (.inl rfl) q₁
theorem Kx (hk:ExcCls s.heap k m) (hx:ExcCls s.heap kx mx) (he:s.heap.get? a=some oe) (hc:oe.cls=.ref k) (hq:Q (m.contains (.ref kx)) s) :
  wpAny M A (excMatches (.ref a) (.ref kx)) Q E s:=by
 obtain ⟨h,g,d,t,os⟩:=s
 cases hk with
 | mk bm N nm q bs hdct sn sub ab col dd k0 k1 k2 k3 k5 mN e n i t' r=>
 cases hx with
 | mk bm' N' nm' q' bs' hdct' sn' sub' ab' col' dd' l0 l1 l2 l3 l5 mN' e' n' i' t'' r'=>
 have hcB:(Value.ref kx::bm').contains (.type "BaseException")=true:=by rw [List.contains_cons,t''.hasType (show bmV.contains (.type "BaseException")=true by decide),Bool.or_true]
 have f:=tc_notTuple
 rw [← r] at hq
 unfold excMatches
 repeat (first | (with_reducible refine wpAny_loadPart_at he ?_;rw [hc]) | with_reducible refine wpAny_loadPart_at e' ?_ | (with_reducible refine wpAny_isSubtype_exc e' ?_;rw [hcB]) | with_reducible refine wpAny_isSubtype_exc e ?_ | wp_step)
 cases hb:(Value.ref k::bm).contains (.ref kx) <;> (rw [hb] at hq;wp_walk;exact hq)
noncomputable def PS:Const→Option V
 | .none=>some .none
 | .bool b=>some (.bool b)
 | .str x=>some (.str x)
 | .int i=>some (.int i)
 | _=>none
theorem Ow {A:Around} {env:Env} {c:Cf K.h₀} {cst:Const} {kd:Nat} {p:Pos} {V:V} {E:Value→Shared→Prop} {P:Value→Shared→Prop} (hv:PS cst=some V) (h:∀ v tk,Rel c.s.heap c.φ V v→P v { c.s with toks:=tk }):wpAny K.M A (eval (.Constant cst kd p) env) P E c.s:=by
 unfold PS at hv
 split at hv <;> cases hv
 ·exact wpAny_Constant_none (h _ c.s.toks Ci)
 ·exact wpAny_Constant_bool (h _ c.s.toks Bb)
 ·exact wpAny_Constant_str (h _ _ B0)
 ·exact wpAny_Constant_int (h _ _ A1)
variable (K L) in
noncomputable def HOk (hs:List ExceptHandler) (as:List (List Nat × V × Option Nat)):Prop:=
 ∀ (A:Around) (c₀ c:Cf K.h₀) (ρ:List V) (Q:CU) (a T:Addr) (k:Nat),A.handled=none→AtFr K A L c ρ a k [a,T] none→k∈K.excs→Stp L.own c₀ c→(∀ b∈[a,T],c₀.s.heap.get? b=none∧b∉c.φ)→UA as Q (.exc k) ρ c.σ →
  wpAny K.M A (handleBy (.ref a) L.env hs) (PF c₀ L Q) (PE c₀ L Q) c.s
theorem Rf:HOk K L [] []:=fun A c₀ c ρ Q a T k hh z hk st n q=>by
 refine A0 z.x.traced fun oe vs e d h1=>?_
 refine wpAny_handleBy_nil ?_
 unfold passOn
 refine wpAny_bind (wpAny_field e d h1 ?_)
 rw [if_neg (show ¬ (Value.ref T==Value.none)=true from nofun)]
 exact wpAny_bind (C8 (fl':=L.env.frame) (P:=fun s=>wpAny K.M A (throw (.ref a)) _ _ s) z fun c' T' e1 e2 st' F' ex hp=>wpAny_throw (.mk c' ρ k a [a,T'] L.env.frame (EW e1 st n hp) hk (st.transNew st' fun b m=>(n b m).1) F' ex (.inr rfl) (e2▸q)))
theorem Sy (x:Exc h a k fp fl):∃ oe,h.get? a=some oe∧oe.cls=.ref k:=by
 cases x with
 | new oe _ _ e c=>exact ⟨oe,e,c⟩
 | seen oe _ _ _ _ _ _ e c=>exact ⟨oe,e,c⟩
theorem OE (g:Gnd K G fa mg mb) {x:Str} {kx:Nat} {ks:List Nat} {cst:Const} {kd:Nat} {V:V} {np cp rp pos:Pos} {rest:List ExceptHandler} {as:List (List Nat × Mine.Internal.V × Option Nat)} (hx:G.lookup x=some (.exc kx ks)) (hg:BM L.env.scope x=true) (hd:CN x=true) (hv:PS cst=some V) (hr:HOk K L rest as) :
  HOk K L (.ExceptHandler (some (.Name x np)) none [.Return (some (.Constant cst kd cp)) rp] pos::rest) ((ks,V,none)::as):=fun A c₀ c ρ Q a T k hh z hk st n q=>by
 have xg:=g.exc x kx ks hx
 refine AC (Sy z.x) fun oe he hc=>?_
 refine AC (xg.kids k hk) fun m hm hmc=>?_
 refine AC (xg.kids kx xg.mem) fun mx hmx _=>?_
 refine wpAny_handleBy_cons (codeAny_handlers_test (Cc g z.F xg.bound hg (C9 hd) (Kx (hm.keep c.sim.keep) (hmx.keep c.sim.keep) he hc ?_))) nofun
 rw [hmc]
 replace q:match List.find? (fun h=>h.1.contains k) ((ks,V,none)::as) with
  | some h=>Q (.ret h.2.1) (UJ h.2.2 ρ) c.σ
  | none=>Q (.exc k) ρ c.σ:=q
 rw [List.find?_cons] at q
 cases hb:ks.contains k with
 | false=>rw [hb] at q;exact hr A c₀ c ρ Q a T k hh z hk st n q
 | true=>
  rw [hb] at q
  have z':AtFr K (A.mark (some (.ref a))) L c ρ a k [a,T] none:=⟨z.R,z.hu,z.F,z.x,z.hfl,z.hn⟩
  refine codeAny_handlers_suite (C8 (P:=fun s=>wpAny K.M (A.mark (some (.ref a))) (execs [.Return (some (.Constant cst kd cp)) rp] L.env) _ _ s) z' fun c' T' e1 e2 st' F' ex hp=>?_)
  refine wpAny_execs_cons (wpAny_Return_some (Ow (c:=c') hv fun v tk rv=>?_))
  have s₂:Stp AO c' (c'.toks tk):=Cf.keep_stp ⟨rfl,rfl⟩
  exact .ret (c'.toks tk) ρ V v ((st.transNew st' fun b m=>(n b m).1).trans s₂.any) (F'.step s₂) rv (by show Q _ _ c'.σ;rw [e2];exact q)
theorem QT (hu:L.up=L.env::L.up.tail) (hb:SsOk K L body b) (hh:HOk K L (h::hs) as):SOk K L (.Try body (h::hs) [] [] pos) (Sj b as):=fun A c ρ Q R F q=>
 wpAny_Try_except (wpAny_mono (hb A c ρ _ R F q) (fun f s₁ y=>y.casesOn (fun c₁ ρ₁ s₁ F₁ q₁=>wpAny_execs_nil (.next c₁ ρ₁ s₁ F₁ q₁)) fun c₁ ρ₁ V v s₁ F₁ r q₁=>.ret c₁ ρ₁ V v s₁ F₁ r q₁) fun e s₁ y=>by
  refine Bi (y.at R hu) fun c' ρ' k a fp fl ze1 ze2 z hk q' st n=>?_;subst ze1;subst ze2
  refine L6 (P:=fun s=>wpAny K.M A (setFlight (.ref a) none) _ _ s) z fun c'' T e1 e2 st' F' ex hp=>?_
  have n':=EW e1 st n hp
  have st'':Stp L.own c c'':=st.transNew st' fun b m=>(n b m).1
  have z':AtFr K A L c'' ρ' a k [a,T] L.env.frame:=⟨R.fr,hu,F',ex,.inr rfl,fun b m=>⟨c.sim.none₀ (n' b m).1,(n' b m).2⟩⟩
  refine C8 (fl':=none) (P:=fun s=>wpAny K.M A (handleBy (.ref a) L.env (h::hs)) _ _ s) z' fun c₃ T' f1 f2 st₃ F₃ ex₃ hp₃=>?_
  have n₃:=EW f1 st'' n' hp₃
  exact hh A c c₃ ρ' Q a T' k R.hd ⟨R.fr,hu,F₃,ex₃,.inl rfl,fun b m=>⟨c.sim.none₀ (n₃ b m).1,(n₃ b m).2⟩⟩ hk (st''.transNew st₃ fun b m=>(n' b m).1) n₃ (by rw [f2,e2];exact q'))
end
end Mine.Internal
namespace Mine.Internal
open PySem PySem.Calls
set_option genSizeOf false
set_option genInjectivity false
noncomputable def G5 (sc:Scope) (x:Str):Bool:=match sc.names.lookup x with
 | some .cell | some .free=>true
 | _=>false
theorem NF (h:G5 sc x=true):sc.names.lookup x=some .cell∨sc.names.lookup x=some .free:=by
 unfold G5 at h
 split at h
 ·exact .inl ‹_›
 ·exact .inr ‹_›
 ·cases h
structure Agree (env:Env) (sc:Scope):Prop where
 var:∀ x,Gn env.scope x=Gn sc x
 glob:∀ x,BM env.scope x=BM sc x
 cf:∀ x,G5 sc x=true→G5 env.scope x=true
theorem Agree.of_eq (h:env.scope=sc):Agree env sc:=⟨fun _=>by rw [h],fun _=>by rw [h],fun _ q=>by rw [h];exact q⟩
theorem DN (x:Str):(relabel sc env).names.lookup x=sc.names.lookup x∨(sc.names.lookup x=some .free∧(relabel sc env).names.lookup x=some .cell):=by
 rw [Dl]
 cases h:sc.names.lookup x with
 | none=>exact .inl rfl
 | some k=>
  rw [Option.map_some]
  by_cases hq:(k==NameKind.free&&env.scope.kind==.function&&env.kindOf x==some .cell)=true
  ·rw [if_pos hq]
   exact .inr ⟨congrArg some (beq_iff_eq.mp (Bool.and_eq_true_iff.mp (Bool.and_eq_true_iff.mp hq).1).1),rfl⟩
  ·rw [if_neg hq];exact .inl rfl
theorem Agree.comp:Agree (compEnvC sc cl C env) sc where
 var x:=by show Gn (relabel sc env) x=_;unfold Gn;rcases DN (env:=env) (sc:=sc) x with e | ⟨e,e'⟩ <;> first | (rw [e,e'];rfl) | rw [e]
 glob x:=by show BM (relabel sc env) x=_;unfold BM;rcases DN (env:=env) (sc:=sc) x with e | ⟨e,e'⟩ <;> first | (rw [e,e'];rfl) | rw [e]
 cf x h:=by
  show G5 (relabel sc env) x=true
  unfold G5 at h ⊢
  rcases DN (env:=env) (sc:=sc) x with e | ⟨_,e'⟩
  ·rw [e];exact h
  ·rw [e']
noncomputable def CL (sc:Scope) (vs:Vs) (x:Str) (nx:Nat):Vs:=(x,nx)::sc.names.filterMap fun y=>if y.2==.free then (vs.lookup y.1).map (y.1,·) else none
noncomputable def I1 (sc:Scope) (vs:Vs) (csc:Scope) (x:Str) (nx:Nat):Bool:=
 csc.kind==.function&&csc.names.all (fun y=>y.2 != .cell&&(y.2 != .local||csc.names.lookup y.1==some .local)&&(y.2 != .free||(csc.names.lookup y.1==some .free&&G5 sc y.1&&(vs.lookup y.1).isSome))) &&
  csc.names.lookup x==some .local&&vs.all (fun p=>p.2 != nx)
theorem De {names:List (Str × NameKind)} {vs:Vs} {y:Str} {j:Nat} (h:(names.filterMap fun y=>if y.2==.free then (vs.lookup y.1).map (y.1,·) else none).lookup y=some j):(y,NameKind.free)∈names∧vs.lookup y=some j:=by
 obtain ⟨⟨n,k⟩,hp,e⟩:=List.mem_filterMap.mp (mem_of_lookup h)
 split at e
 ·rename_i hf
  refine AC (Option.map_eq_some_iff.mp e) fun j' hj e=>?_
  cases e
  cases beq_iff_eq.mp hf
  exact ⟨hp,hj⟩
 ·cases e
theorem LR {env:Env} {up:List Env} {sc csc:Scope} {vs:Vs} {x:Str} {nx:Nat} (hcf:∀ y,G5 sc y=true→G5 env.scope y=true) (h:I1 sc vs csc x nx=true):CompSc ⟨env,vs,up⟩ csc (CL csc vs x nx) x nx:=by
 unfold I1 at h
 simp only [Bool.and_eq_true,beq_iff_eq,List.all_eq_true,bne_iff_ne,ne_eq,Bool.or_eq_true,Option.isSome_iff_exists] at h
 obtain ⟨⟨⟨h1,h2⟩,h3⟩,h4⟩:=h
 have hfree:∀ y,(y,NameKind.free)∈csc.names→csc.names.lookup y=some .free∧G5 sc y=true∧∃ j,vs.lookup y=some j:=fun y hy=>by
  have:=(h2 _ hy).2.resolve_left fun n=>n rfl
  exact ⟨this.1.1,this.1.2,this.2⟩
 refine ⟨h1,fun y hy=>(h2 y hy).1.1,fun y hy hl=>(h2 y hy).1.2.resolve_left fun n=>n hl,h3,fun m=>?_,?_,fun y hy hf=>?_,fun y j hj=>?_⟩
 ·cases h3.symm.trans (hfree x m).1
 ·rw [CL,List.lookup_cons,beq_self_eq_true]
 ·obtain ⟨n,k⟩:=y
  cases hf
  refine PM (hfree n hy) fun _ c j hj=>?_
  exact ⟨j,hj,NF (hcf n c)⟩
 ·rw [CL,List.lookup_cons] at hj
  cases e:y==x with
  | true=>rw [e] at hj;exact .inl ⟨beq_iff_eq.mp e,(Option.some.inj hj).symm⟩
  | false=>
   rw [e] at hj
   obtain ⟨m,hv⟩:=De hj
   exact .inr ⟨beq_eq_false_iff_ne.mp e,(hfree y m).1,hv,h4 (y,j) (mem_of_lookup hv)⟩
structure RE where
 v:Ex
 t:Tx
abbrev rv (a:Ex):RE:=⟨a,Bj a⟩
structure EGood (K:Ctx) (L:Loc) (e:Expr) (a:RE):Prop where
 star:Aq e
 slice:F6 e
 ok:EOk K L e a.v
 test:TOk K L e a.t
inductive AllG (K:Ctx) (L:Loc):List Expr→List RE→Prop
 | nil:AllG K L [] []
 | cons {e:Expr} {a:RE} {es:List Expr} {as:List RE}:EGood K L e a→AllG K L es as→AllG K L (e::es) (a::as)
structure Bg (K:Ctx) (G:GlT) (fa:Nat→Addr) (mg mb:Str→Option Value):Prop where
 g:Gnd K G fa mg mb
 hC:GC K G fa
abbrev vals (as:List RE):List Ex:=as.map RE.v
abbrev Jr (as:List RE):List Tx:=as.map RE.t
section
variable {K:Ctx} {L:Loc}
theorem gv (h1:Aq e) (h2:F6 e) (he:∀ env whole,isTrue e env whole=(do let v ← whole;standAt e.pos;holding [v] (truthy v))) (h:EOk K L e a):EGood K L e (rv a):=⟨h1,h2,h,Rg he h⟩
theorem AllG.all (h:AllG K L es as):LOk K L es (vals as)∧AOk K L es (Jr as)∧Bo es∧IN K L es (Jr as):=by
 induction h with
 | nil=>exact ⟨Eu,RB,BS,Pl⟩
 | cons h _ ih=>exact ⟨Dw h.star h.ok ih.1,OP h.test ih.2.1,BE h.star ih.2.2.1,Mx h.test ih.2.2.2⟩
theorem AllG.B (h:AllG K L es as):∀ {e:Expr} {a:RE},EGood K L e a→BOk K L (e::es) (vals (a::as)):=by
 induction h with
 | nil=>exact fun h=>Qx h.ok
 | cons h _ ih=>exact fun h'=>Pm h'.ok (ih h)
theorem AllG.C (h:AllG K L es as):∀ {e:Expr} {a:RE} {ops:List CmpOp},EGood K L e a→ops.length=(e::es).length→COk K L ops (e::es) (vals (a::as)):=by
 induction h with
 | nil=>exact fun {_ _ ops} h hl=>match ops,hl with | [_],_=>Qr h.ok
 | cons h _ ih=>exact fun {_ _ ops} h' hl=>match ops,hl with | _::_::_,hl=>Oa h'.ok (ih h (Nat.succ.inj hl))
end
section
variable {K:Ctx} {G:GlT} {fa:Nat→Addr} {mg mb:Str→Option Value}
variable (K) in
abbrev Good (sc:Scope) (vs:Vs) (e:Expr):Type:={ a:RE // ∀ env up,Agree env sc→EGood K ⟨env,vs,up⟩ e a }
variable (K) in
abbrev Uh (sc:Scope) (vs:Vs) (es:List Expr):Type:={ as:List RE // ∀ env up,Agree env sc→AllG K ⟨env,vs,up⟩ es as }
variable (K) in
abbrev Rdr:=(sc:Scope)→(vs:Vs)→(e:Expr)→Option (Good K sc vs e)
noncomputable def rL {sc:Scope} {vs:Vs} (f:(e:Expr)→Option (Good K sc vs e)):(es:List Expr)→Option (Uh K sc vs es)
 | []=>some ⟨[],fun _ _ _=>.nil⟩
 | e::es=>(f e).bind fun a=>(rL f es).map fun as=>⟨a.1::as.1,fun env up h=>.cons (a.2 env up h) (as.2 env up h)⟩
noncomputable def TT {sc:Scope} {vs:Vs} {k:Nat} {p:Pos}:(c:Const)→Option (Good K sc vs (.Constant c k p))
 | .none=>some ⟨rv B6,fun _ _ _=>gv (fun _ _=>rfl) (fun _ _=>rfl) (fun _ _=>rfl) RW⟩
 | .bool b=>some ⟨rv (BU b),fun _ _ _=>gv (fun _ _=>rfl) (fun _ _=>rfl) (fun _ _=>rfl) Rd⟩
 | .int i=>some ⟨rv (AD i),fun _ _ _=>gv (fun _ _=>rfl) (fun _ _=>rfl) (fun _ _=>rfl) ST⟩
 | .str s=>some ⟨rv (Bc s),fun _ _ _=>gv (fun _ _=>rfl) (fun _ _=>rfl) (fun _ _=>rfl) SY⟩
 | _=>none
noncomputable def MU {α:Type} (o:Option α):Option { a:α // o=some a }:=match o with
 | some a=>some ⟨a,rfl⟩
 | none=>none
noncomputable def N3 (B:Bg K G fa mg mb) (sc:Scope) (vs:Vs) (x:Str) (p:Pos):Option (Good K sc vs (.Name x p)):=
 if hn:CN x=true then
  if hv:Gn sc x=true then (MU (vs.lookup x)).map fun i=>⟨rv (AA i.1),fun _ _ hA=>gv (fun _ _=>rfl) (fun _ _=>rfl) (fun _ _=>rfl) (TX i.2 ((hA.var x).trans hv) hn)⟩
  else if hg:BM sc x=true then (MU (G.lookup x)).bind fun
   | ⟨.str s,e⟩=>some ⟨rv (Bc s),fun _ _ hA=>gv (fun _ _=>rfl) (fun _ _=>rfl) (fun _ _=>rfl) (QO B.g e ((hA.glob x).trans hg) hn)⟩
   | ⟨.int i,e⟩=>some ⟨rv (AD i),fun _ _ hA=>gv (fun _ _=>rfl) (fun _ _=>rfl) (fun _ _=>rfl) (Q5 B.g e ((hA.glob x).trans hg) hn)⟩
   | _=>none
  else none
 else none
noncomputable def rOp:(op:Operator)→Option { o:BOp // cOp o=op }
 | .Add=>some ⟨.add,rfl⟩ | .Sub=>some ⟨.sub,rfl⟩ | .Mult=>some ⟨.mul,rfl⟩ | .FloorDiv=>some ⟨.floordiv,rfl⟩ | .Mod=>some ⟨.mod,rfl⟩ | .Pow=>some ⟨.pow,rfl⟩ | _=>none
theorem Agree.free (hA:Agree env sc) (h:Ae G sc x=true):Ae G env.scope x=true:=by unfold Ae at h ⊢;rw [hA.glob x];exact h
abbrev Qm (K:Ctx) (sc:Scope) (vs:Vs) (t e:Expr):Type:={ r:SrcT × List RE // ∀ env up,Agree env sc→Ff K ⟨env,vs,up⟩ e r.1 (vals r.2) t∧∀ x,foldedSetIterable e env x=pure x }
noncomputable def R1:Expr→Bool
 | .Set ..=>true
 | _=>false
theorem ND (h:R1 e=false) (env:Env) (x:Value):foldedSetIterable e env x=pure x:=by
 cases e <;> first | rfl | cases h
noncomputable def R6:Expr→Bool
 | .Tuple ..=>true
 | _=>false
noncomputable def Nq {sc:Scope} {vs:Vs} (f:(e:Expr)→Option (Good K sc vs e)) (t e:Expr):Option (Qm K sc vs t e):=
 if hs:R1 e=false then (f e).map fun b=>⟨(.plain,[b.1]),fun env up h=>⟨MZ (b.2 env up h).ok,ND hs env⟩⟩ else none
noncomputable def UQ (B:Bg K G fa mg mb) {sc:Scope} {vs:Vs} (f:(e:Expr)→Option (Good K sc vs e)) (pf pos:Pos) (a:Expr):(t:Expr)→Option (Qm K sc vs t (.Call (.Name ("enumerate":Str) pf) [a] [] pos))
 | .Tuple _ _ _=>if hf:Ae G sc ("enumerate":Str)=true then (f a).map fun b=>⟨(.enum,[b.1]),fun env up h=>⟨Ov B.g (h.free hf) (b.2 env up h).star (AllG.cons (b.2 env up h) .nil).all.1,fun _=>rfl⟩⟩ else none
 | _=>none
noncomputable def Tn (B:Bg K G fa mg mb) {sc:Scope} {vs:Vs} (f:(e:Expr)→Option (Good K sc vs e)) (t:Expr) (pf pos:Pos) (a:Expr) (as:List Expr):Option (Qm K sc vs t (.Call (.Name ("range":Str) pf) (a::as) [] pos)):=
 if hf:Ae G sc ("range":Str)=true then (f a).bind fun b=>(rL f as).map fun bs=>⟨(.range,b.1::bs.1),fun env up h=>
  have al:=(AllG.cons (b.2 env up h) (bs.2 env up h)).all
  ⟨MX B.g (h.free hf) (b.2 env up h).star al.2.2.1 al.1,fun _=>rfl⟩⟩ else none
noncomputable def T1 (B:Bg K G fa mg mb) {sc:Scope} {vs:Vs} (f:(e:Expr)→Option (Good K sc vs e)) (t:Expr):(e:Expr)→Option (Qm K sc vs t e)
 | .Call (.Name x pf) (a::as) [] pos=>
  if hr:x=("range":Str) then (Tn B f t pf pos a as).map fun r=>⟨r.1,fun env up h=>by subst hr;exact r.2 env up h⟩
  else if he:x=("enumerate":Str) then (match as with
   | []=>(UQ B f pf pos a t).map fun r=>⟨r.1,fun env up h=>by subst he;exact r.2 env up h⟩
   | _::_=>none)
  else Nq f t (.Call (.Name x pf) (a::as) [] pos)
 | e=>Nq f t e
noncomputable def US (x:Str):Option { p:Pr // x∈B4∧bootBuiltins x=some (GI p)∧(∀ vs,Kq p vs=vs)∧((∃ T,GI p=.type T)∨∃ T,GI p=.builtin T) }:=
 if h:x=("len":Str) then some ⟨.len,by subst h;exact ⟨by decide,Of,fun _=>rfl,.inr ⟨_,rfl⟩⟩⟩
 else if h:x=("list":Str) then some ⟨.list,by subst h;exact ⟨by decide,My,fun _=>rfl,.inl ⟨_,rfl⟩⟩⟩
 else if h:x=("str":Str) then some ⟨.str,by subst h;exact ⟨by decide,Ji,fun _=>rfl,.inl ⟨_,rfl⟩⟩⟩
 else if h:x=("int":Str) then some ⟨.int,by subst h;exact ⟨by decide,J9,fun _=>rfl,.inl ⟨_,rfl⟩⟩⟩
 else if h:x=("all":Str) then some ⟨.all,by subst h;exact ⟨by decide,Oz,fun _=>rfl,.inr ⟨_,rfl⟩⟩⟩
 else if h:x=("max":Str) then some ⟨.max,by subst h;exact ⟨by decide,OI,fun _=>rfl,.inr ⟨_,rfl⟩⟩⟩
 else none
noncomputable def VN (x:Str):Option { t:Ty // x∈B4∧bootBuiltins x=some (.type (Kj t)) }:=
 if h:x=("int":Str) then some ⟨.int,by subst h;exact ⟨by decide,J9⟩⟩
 else if h:x=("bool":Str) then some ⟨.bool,by subst h;exact ⟨by decide,NW⟩⟩
 else if h:x=("str":Str) then some ⟨.str,by subst h;exact ⟨by decide,Ji⟩⟩
 else if h:x=("tuple":Str) then some ⟨.tuple,by subst h;exact ⟨by decide,K2⟩⟩
 else none
structure SortR (K:Ctx) (G:GlT):Prop where
 one:∀ {L:Loc} {e:Expr} {a:Ex} {pf pos:Pos},Ae G L.env.scope ("sorted":Str)=true→Aq e→EOk K L e a→EOk K L (.Call (.Name ("sorted":Str) pf) [e] [] pos) (Ee false a)
 set:∀ {L:Loc} {e:Expr} {a:Ex} {pf pf' pos pos':Pos},Ae G L.env.scope ("sorted":Str)=true→Ae G L.env.scope ("set":Str)=true→Aq e→EOk K L e a →
  EOk K L (.Call (.Name ("sorted":Str) pf) [.Call (.Name ("set":Str) pf') [e] [] pos'] [] pos) (Ee true a)
noncomputable def Us (B:Bg K G fa mg mb) {sc:Scope} {vs:Vs} (f:(e:Expr)→Option (Good K sc vs e)) (pf pos:Pos) (a:Expr):(as:List Expr)→Option (Good K sc vs (.Call (.Name ("isinstance":Str) pf) (a::as) [] pos))
 | [.Name y _]=>if hf:(Ae G sc ("isinstance":Str)&&Ae G sc y)=true then (VN y).bind fun ty=>(f a).map fun b=>⟨rv (Ax (.isinst ty.1) [b.1.v]),fun env up h=>
   have hf:=Bool.and_eq_true_iff.mp hf
   gv (fun _ _=>rfl) (fun _ _=>rfl) (fun _ _=>rfl) (M6 B.g (h.free hf.1) (h.free hf.2) ty.2.1 ty.2.2 (b.2 env up h).star (b.2 env up h).ok)⟩ else none
 | _=>none
noncomputable def Qf (S:SortR K G) {sc:Scope} {vs:Vs} (f:(e:Expr)→Option (Good K sc vs e)) (pf pos:Pos):(as:List Expr)→Option (Good K sc vs (.Call (.Name ("sorted":Str) pf) as [] pos))
 | [.Call (.Name y pf') [e] [] pos']=>if hy:y=("set":Str) then
   if hf:(Ae G sc ("sorted":Str)&&Ae G sc ("set":Str))=true then (f e).map fun b=>⟨rv (Ee true b.1.v),fun env up h=>gv (fun _ _=>rfl) (fun _ _=>rfl) (fun _ _=>rfl) (by
    have hf:=Bool.and_eq_true_iff.mp hf
    subst hy;exact S.set (h.free hf.1) (h.free hf.2) (b.2 env up h).star (b.2 env up h).ok)⟩ else none
  else if hf:Ae G sc ("sorted":Str)=true then (f (.Call (.Name y pf') [e] [] pos')).map fun b=>⟨rv (Ee false b.1.v),fun env up h=>gv (fun _ _=>rfl) (fun _ _=>rfl) (fun _ _=>rfl) (S.one (h.free hf) (b.2 env up h).star (b.2 env up h).ok)⟩ else none
 | [e]=>if hf:Ae G sc ("sorted":Str)=true then (f e).map fun b=>⟨rv (Ee false b.1.v),fun env up h=>gv (fun _ _=>rfl) (fun _ _=>rfl) (fun _ _=>rfl) (S.one (h.free hf) (b.2 env up h).star (b.2 env up h).ok)⟩ else none
 | _=>none
noncomputable def KD (x:Str):Bool:=!x.cps.toList.contains 46
theorem Et (h:KD x=true) (m:Str):x≠AV++"."++m:=fun e=>by
 rw [e] at h
 unfold KD at h
 have:(AV++"."++m:Str).cps.toList=AV.cps.toList++[46]++m.cps.toList:=by
  show ((AV.cps++(⟨#[46]⟩:Str).cps)++m.cps).toList=_
  rw [Array.toList_append,Array.toList_append]
 rw [this,List.contains_iff_mem.mpr (List.mem_append_left _ (List.mem_append_right _ List.mem_cons_self))] at h
 cases h
noncomputable def Q8 (g:Option Gl) (i:Nat):Bool:=match g with
 | some (.fn j)=>j==i
 | _=>false
theorem Lg (h:Q8 g i=true):g=some (.fn i):=by
 unfold Q8 at h
 split at h
 ·rw [beq_iff_eq.mp h]
 ·cases h
noncomputable def Uj (B:Bg K G fa mg mb) (S:SortR K G) {sc:Scope} {vs:Vs} (f:(e:Expr)→Option (Good K sc vs e)) (x:Str) (pf pos:Pos):(as:List Expr)→Option (Good K sc vs (.Call (.Name x pf) as [] pos))
 | []=>none
 | a::as=>
  if hi:x=("isinstance":Str) then (Us B f pf pos a as).map fun r=>⟨r.1,fun env up h=>by subst hi;exact r.2 env up h⟩
  else if hs:x=("sorted":Str) then (Qf S f pf pos (a::as)).map fun r=>⟨r.1,fun env up h=>by subst hs;exact r.2 env up h⟩
  else if hg:(BM sc x&&CN x)=true then (f a).bind fun b=>(rL f as).bind fun bs=>(match hl:G.lookup x with
   | some (.fn i)=>if hd:KD x=true then some ⟨rv (AS i (vals (b.1::bs.1))),fun env up h=>
     have hg:=Bool.and_eq_true_iff.mp hg
     gv (fun _ _=>rfl) (fun _ _=>rfl) (fun _ _=>rfl) (RO B.g B.hC hl (Et hd) ((h.glob x).trans hg.1) hg.2 (b.2 env up h).star (AllG.cons (b.2 env up h) (bs.2 env up h)).all.1)⟩ else none
   | some (.cls C i)=>if hx:x=AV then (if hj:Q8 (G.lookup (AV++"."++"__init__")) i=true then some ⟨rv (Qh C i (vals (b.1::bs.1))),fun env up h=>
     have hg:=Bool.and_eq_true_iff.mp hg
     have al:=(AllG.cons (b.2 env up h) (bs.2 env up h)).all
     gv (fun _ _=>rfl) (fun _ _=>rfl) (fun _ _=>rfl) (by subst hx;exact TU B.g B.hC hl (Lg hj) ((h.glob AV).trans hg.1) (b.2 env up h).star (bs.2 env up h).all.2.2.1 al.1)⟩ else none) else none
   | some _=>none
   | none=>(US x).map fun p=>⟨rv (Ax p.1 (vals (b.1::bs.1))),fun env up h=>
     have al:=(AllG.cons (b.2 env up h) (bs.2 env up h)).all
     gv (fun _ _=>rfl) (fun _ _=>rfl) (fun _ _=>rfl) (Tb B.g p.2.2.2.1 (h.free (by unfold Ae;rw [hl,(Bool.and_eq_true_iff.mp hg).1];rfl)) p.2.1 p.2.2.1 p.2.2.2.2 (b.2 env up h).star al.2.2.1 al.1)⟩)
  else none
end
end Mine.Internal
namespace Mine.Internal
open PySem PySem.Calls
set_option genSizeOf false
set_option genInjectivity false
section
variable {K:Ctx} {G:GlT} {fa:Nat→Addr} {mg mb:Str→Option Value}
structure CompRd (K:Ctx) (L:Loc) (elt:Expr) (x:Str) (px:Pos) (iter:Expr) (ifs:List Expr) (csc:Scope) (vs':Vs) (nx:Nat) (a:Ex) (k:SrcT) (as:List Ex) (ts:List Tx):Prop where
 sc:CompSc L csc vs' x nx
 fold:∀ x,foldedSetIterable iter L.env x=pure x
 src:Ff K L iter k as (.Name x px)
 kind:k≠.enum
 elt:∀ C,EOk K (BQ L csc vs' C) elt a
 ifs:∀ C,IN K (BQ L csc vs' C) ifs ts
structure CompV where
 a:Ex
 k:SrcT
 as:List Ex
 ts:List Tx
noncomputable def RK:(k:SrcT)→Option { _u:Unit // k≠.enum }
 | .plain=>some ⟨(),nofun⟩
 | .range=>some ⟨(),nofun⟩
 | .enum=>none
noncomputable def R3 (B:Bg K G fa mg mb) (nx:Nat) (ff:Rdr K) (sc:Scope) (vs:Vs) (elt:Expr) (x:Str) (px:Pos) (iter:Expr) (ifs:List Expr) (csc:Scope) :
  Option { r:CompV // ∀ env up,Agree env sc→CompRd K ⟨env,vs,up⟩ elt x px iter ifs csc (CL csc vs x nx) nx r.a r.k r.as r.ts }:=
 if hc:I1 sc vs csc x nx=true then (T1 B (ff sc vs) (.Name x px) iter).bind fun s=>(ff csc (CL csc vs x nx) elt).bind fun a=>(rL (ff csc (CL csc vs x nx)) ifs).bind fun ts=>(RK s.1.1).map fun hk=>
  ⟨⟨a.1.v,s.1.1,vals s.1.2,Jr ts.1⟩,fun env up h=>⟨LR h.cf hc,(s.2 env up h).2,(s.2 env up h).1,hk.2,fun _=>(a.2 _ _ Agree.comp).ok,fun _=>(ts.2 _ _ Agree.comp).all.2.2.2⟩⟩ else none
noncomputable def UD {sc:Scope} {vs:Vs} (f:(e:Expr)→Option (Good K sc vs e)):(o:Option Expr)→Option { a:Option Ex // ∀ env up,Agree env sc→OOk K ⟨env,vs,up⟩ o a }
 | none=>some ⟨none,fun _ _ _=>Ph⟩
 | some e=>(f e).map fun a=>⟨some a.1.v,fun env up h=>N5 (a.2 env up h).ok⟩
noncomputable def Ut (B:Bg K G fa mg mb) {sc:Scope} {vs:Vs} (f:(e:Expr)→Option (Good K sc vs e)) (pos:Pos) (a:Expr):(i:Expr)→Option (Good K sc vs (.Subscript a i pos))
 | .Slice lo hi none _=>(f a).bind fun x=>(UD f lo).bind fun y=>(UD f hi).map fun z=>⟨rv (DO x.1.v y.1 z.1),fun env up h=>gv (fun _ _=>rfl) (fun _ _=>rfl) (fun _ _=>rfl) (Og (x.2 env up h).ok (y.2 env up h) (z.2 env up h))⟩
 | i=>(f a).bind fun x=>(f i).map fun y=>⟨rv (AL x.1.v y.1.v),fun env up h=>gv (fun _ _=>rfl) (fun _ _=>rfl) (fun _ _=>rfl) (Sv (y.2 env up h).slice (x.2 env up h).ok (y.2 env up h).ok)⟩
noncomputable def VC {sc:Scope} {vs:Vs} (f:(e:Expr)→Option (Good K sc vs e)) (apos pos:Pos) (o:Expr) (hb:∀ env,attributeBase o ("append":Str) env (eval o env)=eval o env):(as:List Expr)→Option (Good K sc vs (.Call (.Attribute o ("append":Str) apos) as [] pos))
 | [a]=>if hl:(apos.endLine==pos.line)=true then (f o).bind fun x=>(f a).map fun y=>⟨rv (HA x.1.v y.1.v),fun env up h=>gv (fun _ _=>rfl) (fun _ _=>rfl) (fun _ _=>rfl) (NB hb hl (y.2 env up h).star (x.2 env up h).ok (y.2 env up h).ok)⟩ else none
 | _=>none
theorem AllG.star (h:AllG K L es as):∀ e r,es=e::r→Aq e:=fun e r q=>by
 subst q
 cases h with
 | cons h _=>exact h.star
noncomputable def VF:(g:Option Gl)→Option { j:Nat // g=some (.fn j) }
 | some (.fn j)=>some ⟨j,rfl⟩
 | _=>none
noncomputable def O4:(g:Option Gl)→Option { p:Addr × Nat // g=some (.cls p.1 p.2) }
 | some (.cls C i)=>some ⟨(C,i),rfl⟩
 | _=>none
noncomputable def Rz:(g:Option Gl)→Option { p:Nat × List Nat // g=some (.exc p.1 p.2) }
 | some (.exc k ks)=>some ⟨(k,ks),rfl⟩
 | _=>none
noncomputable def UW (B:Bg K G fa mg mb) {sc:Scope} {vs:Vs} (f:(e:Expr)→Option (Good K sc vs e)) (m:Str) (apos pos:Pos) (o:Str) (po:Pos) (as:List Expr):Option (Good K sc vs (.Call (.Attribute (.Name o po) m apos) as [] pos)):=
 (O4 (G.lookup AV)).bind fun c=>(VF (G.lookup (AV++"."++m))).bind fun j=>if hl:(decide (as.length<30)&&(apos.endLine==pos.line))=true then (N3 B sc vs o po).bind fun x=>(rL f as).map fun ys=>
  ⟨rv (Au c.1.1 m j.1 x.1.v (vals ys.1)),fun env up h=>
   have hl:=Bool.and_eq_true_iff.mp hl
   gv (fun _ _=>rfl) (fun _ _=>rfl) (fun _ _=>rfl) (QK B.g B.hC c.2 j.2 (of_decide_eq_true hl.1) hl.2 (x.2 env up h).ok (ys.2 env up h).all.2.2.1 (ys.2 env up h).star (ys.2 env up h).all.1)⟩ else none
noncomputable def Uu {sc:Scope} {vs:Vs} (f:(e:Expr)→Option (Good K sc vs e)) (apos pos:Pos) (o:Expr) (hb:∀ env,attributeBase o ("extend":Str) env (eval o env)=eval o env):(as:List Expr)→Option (Good K sc vs (.Call (.Attribute o ("extend":Str) apos) as [] pos))
 | [a]=>if hl:(apos.endLine==pos.line)=true then (f o).bind fun x=>(f a).map fun y=>⟨rv (TY x.1.v y.1.v),fun env up h=>gv (fun _ _=>rfl) (fun _ _=>rfl) (fun _ _=>rfl) (Mr hb hl (y.2 env up h).star (x.2 env up h).ok (y.2 env up h).ok)⟩ else none
 | _=>none
noncomputable def U0 {sc:Scope} {vs:Vs} (f:(e:Expr)→Option (Good K sc vs e)) (apos pos:Pos) (o:Expr) (hb:∀ env,attributeBase o ("pop":Str) env (eval o env)=eval o env):(as:List Expr)→Option (Good K sc vs (.Call (.Attribute o ("pop":Str) apos) as [] pos))
 | [a]=>if hl:(apos.endLine==pos.line)=true then (f o).bind fun x=>(f a).map fun y=>⟨rv (Q9 x.1.v y.1.v),fun env up h=>gv (fun _ _=>rfl) (fun _ _=>rfl) (fun _ _=>rfl) (SR hb hl (y.2 env up h).star (x.2 env up h).ok (y.2 env up h).ok)⟩ else none
 | _=>none
noncomputable def U6 {sc:Scope} {vs:Vs} (f:(e:Expr)→Option (Good K sc vs e)) (apos pos:Pos) (o:Expr) (hb:∀ env,attributeBase o ("index":Str) env (eval o env)=eval o env):(as:List Expr)→Option (Good K sc vs (.Call (.Attribute o ("index":Str) apos) as [] pos))
 | [a]=>if hl:(apos.endLine==pos.line)=true then (f o).bind fun x=>(f a).map fun y=>⟨rv (TB x.1.v y.1.v),fun env up h=>gv (fun _ _=>rfl) (fun _ _=>rfl) (fun _ _=>rfl) (O2 hb hl (y.2 env up h).star (x.2 env up h).ok (y.2 env up h).ok)⟩ else none
 | _=>none
noncomputable def Ud {sc:Scope} {vs:Vs} (f:(e:Expr)→Option (Good K sc vs e)) (apos pos:Pos) (o:Expr) (hb:∀ env,attributeBase o ("get":Str) env (eval o env)=eval o env):(as:List Expr)→Option (Good K sc vs (.Call (.Attribute o ("get":Str) apos) as [] pos))
 | [a,b]=>if hl:(apos.endLine==pos.line)=true then (f o).bind fun x=>(f a).bind fun y=>(f b).map fun z=>⟨rv (Q3 x.1.v y.1.v z.1.v),fun env up h=>gv (fun _ _=>rfl) (fun _ _=>rfl) (fun _ _=>rfl) (TC hb hl (y.2 env up h).star (z.2 env up h).star (x.2 env up h).ok (y.2 env up h).ok (z.2 env up h).ok)⟩ else none
 | _=>none
noncomputable def rM1 {sc:Scope} {vs:Vs} (f:(e:Expr)→Option (Good K sc vs e)) (m:Str) (apos pos:Pos) (o:Expr) (hb:∀ m env,attributeBase o m env (eval o env)=eval o env) (as:List Expr):Option (Good K sc vs (.Call (.Attribute o m apos) as [] pos)):=
 if hm:m=("append":Str) then (VC f apos pos o (hb _) as).map fun r=>⟨r.1,fun env up h=>by subst hm;exact r.2 env up h⟩
 else if hm:m=("extend":Str) then (Uu f apos pos o (hb _) as).map fun r=>⟨r.1,fun env up h=>by subst hm;exact r.2 env up h⟩
 else if hm:m=("pop":Str) then (U0 f apos pos o (hb _) as).map fun r=>⟨r.1,fun env up h=>by subst hm;exact r.2 env up h⟩
 else if hm:m=("index":Str) then (U6 f apos pos o (hb _) as).map fun r=>⟨r.1,fun env up h=>by subst hm;exact r.2 env up h⟩
 else if hm:m=("get":Str) then (Ud f apos pos o (hb _) as).map fun r=>⟨r.1,fun env up h=>by subst hm;exact r.2 env up h⟩
 else none
noncomputable def VG (m:Str):Bool:=m==("append":Str)||m==("extend":Str)||m==("pop":Str)||m==("index":Str)||m==("get":Str)
noncomputable def Uo (B:Bg K G fa mg mb) {sc:Scope} {vs:Vs} (f:(e:Expr)→Option (Good K sc vs e)) (m:Str) (apos pos:Pos):(o:Expr)→(as:List Expr)→Option (Good K sc vs (.Call (.Attribute o m apos) as [] pos))
 | .Name o po,as=>if VG m=true then rM1 f m apos pos (.Name o po) (fun _ _=>rfl) as else UW B f m apos pos o po as
 | .Subscript o i po,as=>rM1 f m apos pos (.Subscript o i po) (fun _ _=>rfl) as
 | .Attribute o x po,as=>rM1 f m apos pos (.Attribute o x po) (fun _ _=>rfl) as
 | .Call (.Attribute o x pa) bs ks po,as=>rM1 f m apos pos (.Call (.Attribute o x pa) bs ks po) (fun _ _=>rfl) as
 | _,_=>none
noncomputable def VA (B:Bg K G fa mg mb) {sc:Scope} {vs:Vs} (m:Str) (pos:Pos):(o:Expr)→Option (Good K sc vs (.Attribute o m pos))
 | .Name o po=>(O4 (G.lookup AV)).bind fun c=>if hm:m∈B9 then (N3 B sc vs o po).map fun x=>⟨rv (As c.1.1 m x.1.v),fun env up h=>gv (fun _ _=>rfl) (fun _ _=>rfl) (fun _ _=>rfl) (Qa B.g c.2 hm (x.2 env up h).ok)⟩ else none
 | _=>none
noncomputable def UB {sc:Scope} {vs:Vs} (f:(e:Expr)→Option (Good K sc vs e)) (pos:Pos) (op:BoolOp):(es:List Expr)→Option (Good K sc vs (.BoolOp op es pos))
 | []=>none
 | e::es=>(f e).bind fun a=>(rL f es).bind fun as=>(match op with
  | .And=>some ⟨⟨E5 true (vals (a.1::as.1)),EC (Jr (a.1::as.1))⟩,fun env up h=>⟨fun _ _=>rfl,fun _ _=>rfl,Tm ((as.2 env up h).B (a.2 env up h)),RT (AllG.cons (a.2 env up h) (as.2 env up h)).all.2.1⟩⟩
  | .Or=>some ⟨⟨E5 false (vals (a.1::as.1)),tOr (Jr (a.1::as.1))⟩,fun env up h=>⟨fun _ _=>rfl,fun _ _=>rfl,UT ((as.2 env up h).B (a.2 env up h)),SL (AllG.cons (a.2 env up h) (as.2 env up h)).all.2.1⟩⟩)
noncomputable def U8 {sc:Scope} {vs:Vs} (f:(e:Expr)→Option (Good K sc vs e)) (pos:Pos) (l:Expr) (ops:List CmpOp):(es:List Expr)→Option (Good K sc vs (.Compare l ops es pos))
 | []=>none
 | e::es=>if hm:lastMarks ops (e::es)=false then if hl:ops.length=(e::es).length then (f l).bind fun x=>(f e).bind fun a=>(rL f es).map fun as=>
   ⟨⟨xOf (AU x.1.v ops (vals (a.1::as.1))),AU x.1.v ops (vals (a.1::as.1))⟩,fun env up h=>⟨fun _ _=>rfl,fun _ _=>rfl,TA hm (x.2 env up h).ok ((as.2 env up h).C (a.2 env up h) hl),RV hm (x.2 env up h).ok ((as.2 env up h).C (a.2 env up h) hl)⟩⟩ else none else none
noncomputable def rUn {sc:Scope} {vs:Vs} (f:(e:Expr)→Option (Good K sc vs e)) (pos:Pos) (x:Expr):(op:UnaryOp)→Option (Good K sc vs (.UnaryOp op x pos))
 | .USub=>(f x).map fun a=>⟨rv (OZ a.1.v),fun env up h=>gv (fun _ _=>rfl) (fun _ _=>rfl) (fun _ _=>rfl) (Sg (a.2 env up h).ok)⟩
 | .Not=>(f x).map fun (a:Good K sc vs x)=>⟨RE.mk (SH a.1.v) (CY a.1.t),fun env up h=>⟨fun _ _=>rfl,fun _ _=>rfl,So (a.2 env up h).ok,QV (a.2 env up h).test⟩⟩
 | _=>none
noncomputable def rLC (B:Bg K G fa mg mb) (nx:Nat) (ff:Rdr K) (sc:Scope) (vs:Vs) (elt:Expr) (csc:Scope) (pos:Pos):(gs:List Comprehension)→Option (Good K sc vs (.ListComp elt gs csc pos))
 | [⟨.Name x px,iter,ifs,0⟩]=>(R3 B nx ff sc vs elt x px iter ifs csc).map fun r=>⟨rv (BA r.1.a nx r.1.k r.1.as r.1.ts),fun env up h=>have q:=r.2 env up h
   gv (fun _ _=>rfl) (fun _ _=>rfl) (fun _ _=>rfl) (Lb q.sc q.fold q.src q.kind q.elt q.ifs)⟩
 | _=>none
noncomputable def rE (B:Bg K G fa mg mb) (S:SortR K G) (nx:Nat):Nat→Rdr K
 | 0,_,_,_=>none
 | n+1,sc,vs,e=>match e with
  | .Constant c _ _=>TT c
  | .Name x p=>N3 B sc vs x p
  | .BinOp l op r _=>(rOp op).bind fun o=>(rE B S nx n sc vs l).bind fun a=>(rE B S nx n sc vs r).map fun b=>⟨rv (AJ o.1 a.1.v b.1.v),fun env up h=>gv (fun _ _=>rfl) (fun _ _=>rfl) (fun _ _=>rfl) (by obtain ⟨o,ho⟩:=o;subst ho;exact Ss (a.2 env up h).ok (b.2 env up h).ok)⟩
  | .UnaryOp op x p=>rUn (rE B S nx n sc vs) p x op
  | .BoolOp op es p=>UB (rE B S nx n sc vs) p op es
  | .Compare l ops es p=>U8 (rE B S nx n sc vs) p l ops es
  | .Tuple es _ _=>if hz:es.length≤1000 then (rL (rE B S nx n sc vs) es).map fun as=>⟨rv (BF (vals as.1)),fun env up h=>gv (fun _ _=>rfl) (fun _ _=>rfl) (fun _ _=>rfl) (Ta (as.2 env up h).all.1 hz)⟩ else none
  | .List es _=>if hz:es.length≤1000 then (rL (rE B S nx n sc vs) es).map fun as=>⟨rv (A4 (vals as.1)),fun env up h=>gv (fun _ _=>rfl) (fun _ _=>rfl) (fun _ _=>rfl) (Ra (as.2 env up h).all.1 hz)⟩ else none
  | .Subscript a i p=>Ut B (rE B S nx n sc vs) p a i
  | .Call (.Name x pf) as [] p=>Uj B S (rE B S nx n sc vs) x pf p as
  | .Call (.Attribute o m ap) as [] p=>Uo B (rE B S nx n sc vs) m ap p o as
  | .ListComp elt gs csc p=>rLC B nx (rE B S nx n) sc vs elt csc p gs
  | .Attribute o m p=>VA B m p o
  | .Dict [] [] _=>some ⟨rv J2,fun _ _ _=>gv (fun _ _=>rfl) (fun _ _=>rfl) (fun _ _=>rfl) (Qg B.g)⟩
  | _=>none
abbrev Ed (K:Ctx) (sc:Scope) (vs:Vs) (st:Stmt):Type:={ a:Sx // ∀ env up,env.scope=sc→SOk K ⟨env,vs,env::up⟩ st a }
abbrev SS (K:Ctx) (sc:Scope) (vs:Vs) (st:List Stmt):Type:={ a:List Sx // ∀ env up,env.scope=sc→SsOk K ⟨env,vs,env::up⟩ st a }
noncomputable def UP {sc:Scope} {vs:Vs} {st:Stmt}:Ed K sc vs st:=⟨SX,fun _ _ _ _ _ _ _ _ _ q=>q.elim⟩
noncomputable def rSs {sc:Scope} {vs:Vs} (f:(st:Stmt)→Option (Ed K sc vs st)):(sts:List Stmt)→SS K sc vs sts
 | []=>⟨[],fun _ _ _=>PP⟩
 | s::ss=>have a:=(f s).getD UP;have as:=rSs f ss;⟨a.1::as.1,fun env up h=>MR (a.2 env up h) (as.2 env up h)⟩
noncomputable def Nx (sc:Scope) (vs:Vs):(es:List Expr)→Option { is:List Nat // ∀ env up,env.scope=sc→CNames ⟨env,vs,up⟩ es is }
 | []=>some ⟨[],fun _ _ _=>.nil⟩
 | .Name x _::r=>if ho:Fi sc x=true then (MU (vs.lookup x)).bind fun i=>(Nx sc vs r).map fun is=>⟨i.1::is.1,fun env up h=>.cons i.2 (by have:=Cl ho;rw [← h] at this;exact this) (is.2 env up h)⟩ else none
 | _=>none
noncomputable def Tq (sc:Scope) (vs:Vs):(e:Expr)→Option { p:Pat // ∀ env up,env.scope=sc→CPat ⟨env,vs,up⟩ e p∧(assignEach [e] env).map (·.2)=[assign e env] }
 | .Name x _=>if ho:Fi sc x=true then (MU (vs.lookup x)).map fun i=>⟨.var i.1,fun env up h=>⟨.name i.2 (by have:=Cl ho;rw [← h] at this;exact this),rfl⟩⟩ else none
 | .Tuple es _ _=>(Nx sc vs es).map fun is=>⟨.tup is.1,fun env up h=>⟨.tup (is.2 env up h),rfl⟩⟩
 | _=>none
noncomputable def MS:Expr→Bool
 | .ListComp .. | .SetComp .. | .DictComp ..=>true
 | _=>false
theorem C6 (h:MS e=false):OU e:=by
 cases e <;> first | exact fun _ _ _=>rfl | cases h
theorem SP (h:R6 value=false):swappedStores [t] value env=pure none:=by
 unfold swappedStores
 cases t <;> first | rfl | (cases value <;> first | rfl | (exfalso;cases h))
noncomputable def VI {sc:Scope} {vs:Vs} (f:(e:Expr)→Option (Good K sc vs e)) (p:Pos) (value t:Expr):Option (Ed K sc vs (.Assign [t] value p)):=
 if hl:MS value=false then if ht:R6 value=false then (Tq sc vs t).bind fun q=>(f value).map fun a=>⟨AP q.1 a.1.v,fun env up h=>EV (C6 hl _ _ _) (SP ht) (q.2 env (env::up) h).2 (q.2 env (env::up) h).1 (a.2 env (env::up) (.of_eq h)).ok⟩ else none else none
noncomputable def UX {sc:Scope} {vs:Vs} (f:(e:Expr)→Option (Good K sc vs e)) (p:Pos) (value:Expr) (y:Str) (py:Pos):Option (Ed K sc vs (.Assign [.Name y py] value p)):=
 if hl:MS value=false then (Tq sc vs (.Name y py)).bind fun q=>(f value).map fun a=>⟨AP q.1 a.1.v,fun env up h=>EV (C6 hl _ _ _) rfl (q.2 env (env::up) h).2 (q.2 env (env::up) h).1 (a.2 env (env::up) (.of_eq h)).ok⟩ else none
noncomputable def Uc (B:Bg K G fa mg mb) (nx:Nat) (ff:Rdr K) (sc:Scope) (vs:Vs) (p:Pos) (elt:Expr) (csc:Scope) (pc:Pos) (y:Str) (py:Pos):(gs:List Comprehension)→Option (Ed K sc vs (.Assign [.Name y py] (.ListComp elt gs csc pc) p))
 | [⟨.Name x px,iter,ifs,0⟩]=>if ho:Fi sc y=true then (MU (vs.lookup y)).bind fun i=>(R3 B nx ff sc vs elt x px iter ifs csc).map fun r=>⟨AP (.var i.1) (BA r.1.a nx r.1.k r.1.as r.1.ts),fun env up h=>by
   have q:=r.2 env (env::up) (.of_eq h)
   have hk:=Cl ho
   rw [← h] at hk
   obtain ⟨b,hb,hl⟩:∃ b,swapsWith (.ListComp elt [⟨.Name x px,iter,ifs,0⟩] csc pc) (some (.Name y py)) p.line env=pure b∧(b=true→env.kindOf y=some .local):=
    ⟨_,rfl,fun e=>beq_iff_eq.mp (Bool.and_eq_true_iff.mp (Bool.and_eq_true_iff.mp (Bool.and_eq_true_iff.mp e).1).1).2⟩
   cases b with
   | true=>exact O6 q.sc q.fold q.src q.kind q.elt q.ifs i.2 (hl rfl) hb
   | false=>exact EV hb rfl rfl (.name i.2 hk) (Lb q.sc q.fold q.src q.kind q.elt q.ifs)⟩ else none
 | _=>none
noncomputable def UN {sc:Scope} {vs:Vs} (f:(e:Expr)→Option (Good K sc vs e)) (p:Pos) (value o i:Expr) (q:Pos):Option (Ed K sc vs (.Assign [.Subscript o i q] value p)):=
 if hl:MS value=false then (f o).bind fun a=>(f i).bind fun b=>(f value).map fun e=>⟨HO a.1.v b.1.v e.1.v,fun env up h=>PZ (C6 hl _ _ _) (a.2 env (env::up) (.of_eq h)).ok (b.2 env (env::up) (.of_eq h)).ok (e.2 env (env::up) (.of_eq h)).ok⟩ else none
noncomputable def U2 (B:Bg K G fa mg mb) {sc:Scope} {vs:Vs} (f:(e:Expr)→Option (Good K sc vs e)) (p:Pos) (value o:Expr) (m:Str) (q:Pos):Option (Ed K sc vs (.Assign [.Attribute o m q] value p)):=
 if hl:MS value=false then (O4 (G.lookup AV)).bind fun c=>if hm:m∈B9 then (f o).bind fun a=>(f value).map fun e=>⟨KK c.1.1 m a.1.v e.1.v,fun env up h=>Nc B.g c.2 hm (C6 hl _ _ _) (a.2 env (env::up) (.of_eq h)).ok (e.2 env (env::up) (.of_eq h)).ok⟩ else none else none
noncomputable def UC:(c:Const)→Option { v:V // PS c=some v }:=fun c=>MU (PS c)
noncomputable def rHs (B:Bg K G fa mg mb) (sc:Scope) (vs:Vs):(hs:List ExceptHandler)→Option { as:List (List Nat × V × Option Nat) // ∀ env up,env.scope=sc→HOk K ⟨env,vs,env::up⟩ hs as }
 | []=>some ⟨[],fun _ _ _=>Rf⟩
 | .ExceptHandler (some (.Name x _)) none [.Return (some (.Constant c _ _)) _] _::r=>if hg:(BM sc x&&CN x)=true then (Rz (G.lookup x)).bind fun k=>(UC c).bind fun v=>(rHs B sc vs r).map fun as=>⟨(k.1.2,v.1,none)::as.1,fun env up h=>
   have hg:=Bool.and_eq_true_iff.mp hg
   OE B.g k.2 (((Agree.of_eq h).glob x).trans hg.1) hg.2 v.2 (as.2 env up h)⟩ else none
 | _=>none
noncomputable def QL (B:Bg K G fa mg mb) (nx:Nat) (ff:Rdr K) (sc:Scope) (vs:Vs) (p:Pos) (value:Expr):(t:Expr)→Option (Ed K sc vs (.Assign [t] value p))
 | .Name y py=>(match value with
  | .ListComp elt gs csc pc=>Uc B nx ff sc vs p elt csc pc y py gs
  | value=>UX (ff sc vs) p value y py)
 | .Subscript o i q=>UN (ff sc vs) p value o i q
 | .Attribute o m q=>U2 B (ff sc vs) p value o m q
 | t=>VI (ff sc vs) p value t
noncomputable def rS (B:Bg K G fa mg mb) (S:SortR K G) (nx:Nat) (sc:Scope) (vs:Vs) (m:Nat):Nat→(st:Stmt)→Option (Ed K sc vs st)
 | 0,_=>none
 | n+1,st=>match st with
  | .Expr e _=>if hl:MS e=false then (rE B S nx m sc vs e).map fun a=>⟨A8 a.1.v,fun env up h=>OM (C6 hl) (a.2 env (env::up) (.of_eq h)).ok⟩ else none
  | .Return none _=>some ⟨R8,fun _ _ _=>Ps⟩
  | .Return (some e) _=>(rE B S nx m sc vs e).map fun a=>⟨AW a.1.v,fun env up h=>RZ (a.2 env (env::up) (.of_eq h)).ok⟩
  | .Assign [t] value p=>QL B nx (rE B S nx m) sc vs p value t
  | .If test b o _=>(rE B S nx m sc vs test).bind fun a=>have b':=rSs (rS B S nx sc vs m n) b;have o':=rSs (rS B S nx sc vs m n) o;some ⟨sIf a.1.t b'.1 o'.1,fun env up h=>Sn (a.2 env (env::up) (.of_eq h)).test (b'.2 env up h) (o'.2 env up h)⟩
  | .For t iter body [] _=>(Tq sc vs t).bind fun p=>(T1 B (rE B S nx m sc vs) t iter).bind fun s=>have b:=rSs (rS B S nx sc vs m n) body;some ⟨CH p.1 s.1.1 (vals s.1.2) b.1,fun env up h=>QY rfl (s.2 env (env::up) (.of_eq h)).2 (p.2 env (env::up) h).1 (s.2 env (env::up) (.of_eq h)).1 (b.2 env up h)⟩
  | .Raise (some (.Call (.Name x _) [e] [] _)) none _=>if hg:(BM sc x&&CN x)=true then (Rz (G.lookup x)).bind fun k=>(rE B S nx m sc vs e).map fun a=>⟨Cr k.1.1 a.1.v,fun env up h=>
    have hg:=Bool.and_eq_true_iff.mp hg
    Mh B.g k.2 (((Agree.of_eq h).glob x).trans hg.1) hg.2 (a.2 env (env::up) (.of_eq h)).star (a.2 env (env::up) (.of_eq h)).ok⟩ else none
  | .Try body (h::hs) [] [] _=>(rHs B sc vs (h::hs)).map fun a=>have b:=rSs (rS B S nx sc vs m n) body;⟨Sj b.1 a.1,fun env up h=>QT rfl (b.2 env up h) (a.2 env up h)⟩
  | .Pass _=>some ⟨R7,fun _ _ _=>Ol⟩
  | .While test body [] _=>(rE B S nx m sc vs test).bind fun a=>have b:=rSs (rS B S nx sc vs m n) body;some ⟨IM a.1.t b.1,fun env up h=>Mc rfl (a.2 env (env::up) (.of_eq h)).test (b.2 env up h)⟩
  | _=>none
structure FnOk (K:Ctx) (cd:Value) (ql:Str) (params:Arguments) (body:List Stmt) (sc:Scope) (fn:Fn) (args:List Arg):Prop where
 params:params=⟨[],args,none,[],[],none,[]⟩
 len:fn.params=(args.map (·.arg)).length
 ok:DefOk sc (args.map (·.arg))
 body:∀ env up,env.scope=sc→env.code=cd→env.qual=ql→Om K ⟨env,Ca (args.map (·.arg)) sc,env::up⟩ body fn.body
noncomputable def rFn (B:Bg K G fa mg mb) (S:SortR K G) (extra:Nat) (body:List Stmt) (sc:Scope):(params:Arguments)→Option { fn:Fn // ∃ args,∀ cd ql,FnOk K cd ql params body sc fn args }
 | ⟨[],args,none,[],[],none,[]⟩=>
  if hc:(decide ((args.map (·.arg)).Nodup)&&(A9 (args.map (·.arg)) sc).all (Fi sc)&&(sc.kind==.function)&&!sc.isCoroutine&&!sc.isGenerator)=true then
   have b:=rSs (rS B S (A9 (args.map (·.arg)) sc).length sc (Ca (args.map (·.arg)) sc) 40 20) body
   some ⟨⟨(args.map (·.arg)).length,(A9 (args.map (·.arg)) sc).length+extra,b.1⟩,args,by
    simp only [Bool.and_eq_true,decide_eq_true_eq,Bool.not_eq_true',List.all_eq_true,beq_iff_eq] at hc
    exact fun _ _=>⟨rfl,rfl,⟨hc.1.1.1.1,hc.1.1.1.2,hc.1.1.2,hc.1.2,hc.2⟩,fun env up h _ _=>(b.2 env up h).f⟩⟩
  else none
 | _=>none
end
end Mine.Internal
namespace Mine.Internal
open PySem PySem.Calls PyProof.Rows PySem.W
set_option maxRecDepth 100000
noncomputable def Kf (rs:List (List Int)) (i j:Nat):Bool:=Ah (rs.getD i []) (rs.getD j [])
theorem JH (rs:List (List Int)):Weak (Kf rs) where
 irr:=fun i=>Hu _
 asy:=fun i j=>HH _ _
 neg:=fun i j k=>HM _ _ _
theorem QE {lt:Nat→Nat→Bool} {n:Nat} {α:Type} {cmp:Nat→Nat→(Bool→Shared→Prop)→Shared→Prop} {s:Shared} (hc:∀ i j (C:Bool→Shared→Prop),i<n→j<n→C (lt i j) s→cmp i j C s) {Qt:α→Prop} {Q:α→Shared→Prop} (hq:∀ a,Qt a→Q a s) :
  ∀ {t:KasT α},Tr lt n t Qt→t.kasWp cmp Q s
 | .ret a,h=>hq a h
 | .ask i j k,h=>hc i j _ h.1 h.2.1 (QE hc hq (t:=k (lt i j)) h.2.2)
section
variable {prog:Program} {w:World} {A:Around} {E:Value→Shared→Prop} {s:Shared}
theorem Pj {fin:Bool} (a b:List Int) (vs us:List Value) (i:Nat) (ha:IntsAre vs a) (hb:IntsAre us b) (hf:fin=decide (vs.length<us.length)) (q:Q (Ah a b) s):KatLex prog w A true fin Q (vs.zip us) i s:=by
 induction ha generalizing b us i with
 | nil=>
  refine kat_nil ?_
  subst hf
  cases hb with
  | nil=>exact q
  | cons y u hb=>exact q
 | cons x t ha ih=>
  cases hb with
  | nil=>
   refine kat_nil ?_
   subst hf
   exact q
  | cons y u hb=>
   rw [List.zip_cons_cons]
   refine kat_cons (wpAny_eqBool_int ?_)
   rw [Ah] at q
   by_cases e:x=y
   ·rw [if_pos e] at q
    rw [show (x==y)=true from beq_iff_eq.mpr e]
    exact kat_yes (ih _ _ (i+1) hb (hf.trans (decide_eq_decide.mpr Nat.succ_lt_succ_iff)) q)
   ·rw [if_neg e] at q
    rw [show (x==y)=false from beq_eq_false_iff_ne.mpr e]
    refine kat_no ?_
    cases i with
    | zero=>exact oneLt_int q
    | succ i=>exact kat_one _ _ (PyProof.Rows.lt_int q)
noncomputable def RowsAre (h:Heap):List Value→List (List Int)→Prop
 | [],[]=>True
 | v::vs,r::rs=>(∃ a items n,v=.ref a∧h.get? a=some { cls:=.type "tuple", data:=.seq items n }∧IntsAre items.toList r)∧RowsAre h vs rs
 | _,_=>False
theorem RowsAre.keeps (k:∀ b o,o.cls=.type "tuple"→h.get? b=some o→h'.get? b=some o):∀ {vs:List Value} {rs:List (List Int)},RowsAre h vs rs→RowsAre h' vs rs
 | [],[],_=>trivial
 | _::_,_::_,x=>⟨let ⟨a,it,n,e,g,i⟩:=x.1;⟨a,it,n,e,k a _ rfl g,i⟩,x.2.keeps k⟩
 | [],_::_,x=>x.elim
 | _::_,[],x=>x.elim
theorem RowsAre.at':∀ {vs:List Value} {rs:List (List Int)},RowsAre h vs rs→∀ {i:Nat},i<vs.length→∃ a items n,vs.getD i .none=.ref a∧h.get? a=some { cls:=.type "tuple", data:=.seq items n }∧IntsAre items.toList (rs.getD i [])
 | [],[],_,i,hi=>by simp at hi
 | _::_,_::_,x,0,_=>by simpa using x.1
 | _::vs,_::rs,x,i+1,hi=>by
  refine Af (x.2.at' (i:=i) (by simpa using hi)) fun a it n h1 h2 h3=>?_
  exact ⟨a,it,n,by simpa using h1,h2,by simpa using h3⟩
 | [],_::_,x,_,_=>x.elim
 | _::_,[],x,_,_=>x.elim
theorem RowsAre.tups:∀ {vs:List Value} {rs:List (List Int)},RowsAre h vs rs→(∀ r∈rs,r≠[])→∃ fs,KatTups h vs fs∧fs.length=vs.length∧∀ v∈fs,∃ i t,v=Value.int i t
 | [],[],_,_=>⟨[],trivial,rfl,fun v hv=>by cases hv⟩
 | _::_,r::_,x,hne=>by
  obtain ⟨⟨a,it,n,rfl,g,hi⟩,x2⟩:=x
  refine Ab (x2.tups fun r hr=>hne r (List.mem_cons_of_mem _ hr)) fun fs t hl hv=>?_
  have hr:=hne r List.mem_cons_self
  obtain ⟨y,rr,rfl⟩:∃ y rr,r=y::rr:=by
   cases r with
   | nil=>exact absurd rfl hr
   | cons y rr=>exact ⟨y,rr,rfl⟩
  generalize hL:it.toList=L at hi
  cases hi with
  | cons i tk hrest=>
   refine ⟨.int y tk::fs,KatTups.cons g rfl rfl (by rw [← Array.getElem?_toList,hL];rfl) t,by simp [hl],fun v hv'=>?_⟩
   rcases List.mem_cons.mp hv' with rfl | hv'
   ·exact ⟨_,_,rfl⟩
   ·exact hv v hv'
 | [],_::_,x,_=>x.elim
 | _::_,[],x,_=>x.elim
theorem Hn:Looks M h (typeOf (.int i t)) (.type "int"):=fun A Q E s _ q=>wpAny_typeOf (typeIs_int s i t) q
theorem Mm (ho:s.heap.get? a=some (seqObj "list" vs.toArray n)) (hr:RowsAre s.heap vs rs) (hne:∀ r∈rs,r≠[]) (h64:vs.length<64)
  (h:∀ p:List Nat,p.Perm (List.range vs.length)→p.Pairwise (B7 rs)→P (.done (.ret .none)) { s with heap:=sortedHeap s.heap a vs (p.map fun i=>vs.getD i Value.none).toArray }) :
  wpAny (model prog w) A (Builtin.«list.sort» ⟨[.ref a],[]⟩) P E s:=by
 rw [list_sort_plain]
 have hsl:vs.length≤sizeLine:=by rw [sizeLine_eq];exact an1 .le .v0 (.n 16777216) (.t .v0 (.n 64) .e) rfl h64
 refine wpAny_bind (listItems_at ho rfl ?_)
 refine wpAny_bind (listUpdate_at ho rfl ?_ (by rw [List.size_toArray];exact hsl) (Nat.zero_le _))
 obtain ⟨e1,ho1⟩:∃ e1,(s.heap.update a (Obj.mapSeq fun _=>(#[]:Array Value))).get? a=some (seqObj "list" #[] e1):=⟨_,get?_update_seq ho (fun _=>#[])⟩
 refine wpAny_bind (seqEpoch_at ho1 rfl ?_)
 refine wpAny_bind (wpAny_newTuple ?_ (by show vs.length≤_;exact hsl))
 refine wpAny_bind (wpAny_newList ?_ (Nat.zero_le _))
 refine wpAny_holding ?_
 have ho6:(((s.heap.update a (Obj.mapSeq fun _=>(#[]:Array Value))).push (seqObj "tuple" vs.toArray 0)).push (seqObj "list" #[] 0)).get? a=some (seqObj "list" #[] e1):=Heap.get?_push_of_some _ (Heap.get?_push_of_some _ ho1)
 have hr6:RowsAre (((s.heap.update a (Obj.mapSeq fun _=>(#[]:Array Value))).push (seqObj "tuple" vs.toArray 0)).push (seqObj "list" #[] 0)) vs rs:=hr.keeps fun b o hc e=>by
  refine Heap.get?_push_of_some _ (Heap.get?_push_of_some _ ?_)
  refine (Heap.get?_update_ne _ _ _ _ fun hb=>?_).trans e
  rw [hb,ho] at e;cases e;exact absurd hc (by simp [seqObj])
 show wpAny (model prog w) A _ P E { s with heap:=((s.heap.update a (Obj.mapSeq fun _=>(#[]:Array Value))).push (seqObj "tuple" vs.toArray 0)).push (seqObj "list" #[] 0) }
 dsimp only
 have hrange:(List.range vs.length).map (fun i=>vs.getD i Value.none)=vs:=by
  apply List.ext_getElem?
  intro i
  rw [List.getElem?_map]
  by_cases hi:i<vs.length
  ·simp [hi]
  ·simp [hi]
 by_cases h2:vs.toArray.size<2
 ·rw [if_pos h2,if_pos h2]
  refine wpAny_bind (wpAny_pure ?_)
  rw [StateT.run_pure]
  refine wpAny_bind (wpAny_pure ?_)
  dsimp only
  refine wpAny_bind (seqEpoch_at ho6 rfl ?_)
  refine wpAny_bind (listUpdate_at ho6 rfl ?_ (Nat.zero_le _) (by rw [Array.size_map];show (pairsOf vs).size≤_;rw [pairsOf_size,sizeLine_eq];exact an1 .le .v0 (.a (.n 16777216) .n1) (.t .v0 (.n 64) .e) rfl h64))
  simp only [bne_self_eq_false,Bool.false_eq_true,if_false]
  refine wpAny_pure ?_
  have e:(arrOf (SortSt.mk' general' (vs.toArray.zip vs.toArray) #[] 7 none)).map (·.2)=((List.range vs.length).map fun i=>vs.getD i Value.none).toArray:=by
   rw [hrange]
   show (vs.toArray.zip vs.toArray).map (·.2)=vs.toArray
   apply Array.toList_inj.mp
   simp [List.map_snd_zip]
  have hp:=h (List.range vs.length) (List.Perm.refl _) ?_
  ·rw [← e] at hp;exact hp
  ·have hlt:vs.length<2:=by simpa using h2
   match hv:vs.length,hlt with
   | 0,_=>simp
   | 1,_=>simp
 ·rw [if_neg h2,if_neg h2]
  have h2':2≤vs.length:=by simp only [List.size_toArray] at h2;exact an1 .le .n2 .v0 (.o .v0 .n2 .e) rfl h2
  refine Ab (hr6.tups hne) fun fs tup hfl hfi=>?_
  refine wpAny_bind (kat_kind tup (by exact an2 .lt .n0 .v0 (.l .n2 .v1 (.p .v0 .v1 .e)) rfl h2' hfl) (T:=.type "int") (fun v hv=>by refine Am (hfi v hv) fun i t ze1=>?_;subst ze1;exact Hn) rfl ?_)
  refine wpAny_bind (wpAny_mono (kat_run (Q:=fun st' s'=>s'={ s with heap:=((s.heap.update a (Obj.mapSeq fun _=>(#[]:Array Value))).push (seqObj "tuple" vs.toArray 0)).push (seqObj "list" #[] 0) }∧∃ p:Array Nat,arrOf st'=p.map (kas_item (vs.toArray.zip vs.toArray))∧failedOf st'=none∧p.toList.Perm (List.range vs.length)∧p.toList.Pairwise (Bf (Kf rs)))
   (G:=fun p s'=>s'={ s with heap:=((s.heap.update a (Obj.mapSeq fun _=>(#[]:Array Value))).push (seqObj "tuple" vs.toArray 0)).push (seqObj "list" #[] 0) }∧p.toList.Perm (List.range vs.length)∧p.toList.Pairwise (Bf (Kf rs)))
   rfl h2' h64 (fun p st' s' _ a2 a3 a4=>⟨a4.1,p,a2,a3,a4.2.1,a4.2.2⟩) (QE (lt:=Kf rs) (fun i j C hi hj hC=>?_) (fun p hp=>⟨rfl,hp.1,hp.2⟩) (LN (JH rs) (by exact an1 .le .n1 .v0 (.l .n2 .v0 .e) rfl h2')))) ?_ fun _ _ e=>e)
  ·refine Af (hr6.at' hi) fun x ix nx ex gx hx=>?_
   refine Af (hr6.at' hj) fun y iy ny ey gy hy=>?_
   show wpAny _ _ (keyLt' _ (vs.getD i Value.none) (vs.getD j Value.none)) _ _ _
   rw [ex,ey]
   refine kat_lt (b:=true) gx rfl gy rfl (Pj _ _ _ _ 0 hx hy (by simp) hC)
  ·rintro ⟨⟨⟩,st'⟩ s' ⟨rfl,p,har,hf,hp1,hp2⟩
   dsimp only
   have hout:=kat_snds (ks:=vs) rfl har
   have hsz:(List.toArray (p.toList.map fun i=>vs.getD i Value.none)).size=vs.length:=by rw [List.size_toArray,List.length_map,hp1.length_eq,List.length_range]
   refine wpAny_bind (seqEpoch_at ho6 rfl ?_)
   refine wpAny_bind (listUpdate_at ho6 rfl ?_ (Nat.zero_le _) (by rw [hout];exact Nat.le_trans (Nat.le_of_eq hsz) (Nat.le_succ_of_le hsl)))
   rw [hf]
   simp only [bne_self_eq_false,Bool.false_eq_true,if_false]
   rw [hout]
   exact wpAny_pure (h p.toList hp1 hp2)
end
end Mine.Internal
namespace Mine.Internal
open PySem PySem.Calls PyProof.Rows PySem.W
set_option maxRecDepth 100000
theorem FB (x:IntsAre vs xs):RelL h φ (xs.map V.int) vs:=by
 induction x with
 | nil=>exact .nil
 | cons n t _ ih=>exact ⟨⟨t,rfl⟩,ih⟩
theorem Fx:∀ {ns:List Int} {vs:List Value},RelL h φ (ns.map .int) vs→IntsAre vs ns
 | [],[],_=>.nil
 | _::_,_::_,⟨⟨t,e⟩,r⟩=>e▸.cons _ t (Fx r)
theorem NR:∀ {xs:List Str},StrsAre vs xs→RelL h φ (xs.map V.str) vs:=by
 induction vs with
 | nil=>intro xs x;cases x;exact .nil
 | cons v vs ih=>intro xs x;cases x with | cons x t r=>exact ⟨⟨t,rfl⟩,ih r⟩
theorem RM:∀ {vs:List Value},RelL h φ (ns.map .str) vs→StrsAre vs ns:=by
 induction ns with
 | nil=>intro vs r;cases vs with
  | nil=>exact .nil
  | cons _ _=>exact r.elim
 | cons n ns ih=>intro vs r;cases vs with
  | nil=>exact r.elim
  | cons v vs=>obtain ⟨⟨t,rfl⟩,r⟩:=r;exact .cons _ t (ih r)
theorem L7:∀ {vs:List Value},RelL h φ (rs.map fun r=>.tup (r.map .int)) vs→RowsAre h vs rs:=by
 induction rs with
 | nil=>intro vs r;cases vs with
  | nil=>trivial
  | cons _ _=>exact r.elim
 | cons _ rs ih=>intro vs r;cases vs with
  | nil=>exact r.elim
  | cons v vs=>exact ⟨Af r.1 fun x it n e g rl=>⟨x,it,n,e,g,Fx rl⟩,ih r.2⟩
theorem FN {Vs:List V} (r:RelL h φ Vs vs):∀ (p:List Nat),(∀ i∈p,i<Vs.length)→RelL h φ (p.map fun i=>Vs.getD i .none) (p.map fun i=>vs.getD i Value.none)
 | [],_=>.nil
 | i::p,hp=>by
  refine ⟨?_,FN r p fun j hj=>hp j (List.mem_cons_of_mem _ hj)⟩
  have hi:=hp i List.mem_cons_self
  refine AC (r.get (List.getElem?_eq_getElem hi)) fun v e rl=>?_
  show Rel h φ (Vs.getD i V.none) (vs.getD i Value.none)
  rw [List.getD_eq_getElem?_getD,List.getD_eq_getElem?_getD,e,List.getElem?_eq_getElem hi]
  exact rl
theorem PV.listIn {K:Ctx} {c:Cf K.h₀} {Q:AN} {Vs:List V} {items:Array Value} {a:Addr} {h':Heap} {s':Shared} {n:Nat} (r:RelL c.s.heap c.φ Vs items.toList) (hz:Vs.length≤Bl) (ha:c.s.heap.get? a=none) (k:∀ b ob,c.s.heap.get? b=some ob→h'.get? b=some ob)
  (e:h'.get? a=some { cls:=.type "list", data:=.seq items n }) (only:s'.os=c.s.os∧s'.gens=c.s.gens) (q:Q (.ref c.σ.length) (c.σ++[.list Vs])):PV c Q (.ref a) { s' with heap:=h' }:=
 PV.mk ⟨{ s' with heap:=h' },c.φ++[a],c.σ++[.list Vs],(c.keep { s' with heap:=h' } k).sim.add (o:=.list Vs) (c.sim.out ha) (c.sim.none₀ ha) ⟨items,n,e,RelL.keep (PW k) (List.prefix_refl _) _ _ r,hz⟩⟩ (.ref c.σ.length)
  ⟨⟨only,List.prefix_append _ _,fun b o _ _ e=>⟨o,k b o e,.refl o⟩,fun _ m=>(Be m).imp id fun e=>(congrArg c.s.heap.get? e).trans ha⟩,fun b o e=>⟨o,k b o e⟩⟩ ⟨a,rfl,by rw [← c.sim.len];exact List.getElem?_concat_length⟩ q
section
variable {prog:Program} {w:World} {s:Shared} {A:Around} {E:Value→Shared→Prop}
theorem CP:h.get? (h.objs.size+1)=none∧(∃ c,(sortedAll h vs out).get? (h.objs.size+1)=some { cls:=.type "list", data:=.seq out c })∧∀ b o,h.get? b=some o→(sortedAll h vs out).get? b=some o:=by
 have hsz:((h.push (seqObj "list" #[] 0)).update h.objs.size (Obj.mapSeq (·++vs.toArray))).objs.size=h.objs.size+1:=by rw [Heap.size_update,size_push']
 have g0:(((h.push (seqObj "list" #[] 0)).update h.objs.size (Obj.mapSeq (·++vs.toArray))).push (seqObj "list" vs.toArray 0)).get? (h.objs.size+1)=some (seqObj "list" vs.toArray 0):=by rw [← hsz];exact Heap.get?_push_size _ rfl
 obtain ⟨c1,g1⟩:∃ c1,((((h.push (seqObj "list" #[] 0)).update h.objs.size (Obj.mapSeq (·++vs.toArray))).push (seqObj "list" vs.toArray 0)).update (h.objs.size+1) (Obj.mapSeq fun _=>(#[]:Array Value))).get? (h.objs.size+1)=some (seqObj "list" #[] c1):=⟨_,get?_update_seq g0 fun _=>#[]⟩
 have g2:=Heap.get?_push_of_some (seqObj "list" #[] 0) (Heap.get?_push_of_some (seqObj "tuple" vs.toArray 0) g1)
 refine ⟨Heap.get?_none_of_le (Nat.le_succ _),⟨_,get?_update_seq g2 fun _=>out⟩,fun b o e=>?_⟩
 have hb:b<h.objs.size:=Heap.lt_size e
 have h1:b≠h.objs.size:=Nat.ne_of_lt hb
 have h2:b≠h.objs.size+1:=Nat.ne_of_lt (Nat.lt_succ_of_lt hb)
 unfold sortedAll sortedHeap
 rw [Heap.get?_update_ne _ _ _ _ h2]
 refine Heap.get?_push_of_some _ (Heap.get?_push_of_some _ ?_)
 rw [Heap.get?_update_ne _ _ _ _ h2]
 refine Heap.get?_push_of_some _ ?_
 rw [Heap.get?_update_ne _ _ _ _ h1]
 exact Heap.get?_push_of_some _ e
theorem Jf (hl:s.heap.IsList l vs.toArray) (hr:RowsAre s.heap vs rs) (hne:∀ r∈rs,r≠[]) (h64:vs.length<64)
  (h:∀ p:List Nat,p.Perm (List.range vs.length)→p.Pairwise (B7 rs)→P (.ref (s.heap.objs.size+1)) { s with heap:=sortedAll s.heap vs (p.map fun i=>vs.getD i Value.none).toArray }) :
  wpAny (model prog w) A (call (.builtin "sorted") [.ref l]) P E s:=by
 refine Calls.call_function_entry kind_sorted plain_sorted entry_sorted (args_sorted1 _) ?_
 unfold Builtin.«sorted»
 refine wpAny_bind (m:=checkCount "sorted" 1 1 _) (wpAny_pure ?_)
 refine wpAny_bind (collect_list hl ?_ (by rw [sizeLine_eq];exact an1 .le .v0 (.n 16777216) (.t .v0 (.n 64) .e) rfl h64))
 refine wpAny_bind (wpAny_newList ?_ (by rw [sizeLine_eq];exact an1 .le .v0 (.n 16777216) (.t .v0 (.n 64) .e) rfl h64))
 have hsz:((s.heap.push (seqObj "list" #[] 0)).update s.heap.objs.size (Obj.mapSeq (·++vs.toArray))).objs.size=s.heap.objs.size+1:=by
  rw [Heap.size_update,size_push']
 have hoL:(((s.heap.push (seqObj "list" #[] 0)).update s.heap.objs.size (Obj.mapSeq (·++vs.toArray))).push (seqObj "list" vs.toArray 0)).get? (s.heap.objs.size+1)=some (seqObj "list" vs.toArray 0):=by
  rw [← hsz];exact Heap.get?_push_size _ rfl
 have hr':RowsAre (((s.heap.push (seqObj "list" #[] 0)).update s.heap.objs.size (Obj.mapSeq (·++vs.toArray))).push (seqObj "list" vs.toArray 0)) vs rs:=hr.keeps fun b o _ e=>by
  refine Heap.get?_push_of_some _ ?_
  rw [Heap.get?_update_ne _ _ _ _ (Nat.ne_of_lt (Heap.lt_size e))]
  exact Heap.get?_push_of_some _ e
 show wpAny _ _ _ _ _ { s with heap:=((s.heap.push (seqObj "list" #[] 0)).update s.heap.objs.size (Obj.mapSeq (·++vs.toArray))).push (seqObj "list" vs.toArray 0) }
 rw [hsz]
 refine wpAny_bind (wpAny_holding (wpAny_call_entry (s:={ s with heap:=((s.heap.push (seqObj "list" #[] 0)).update s.heap.objs.size (Obj.mapSeq (·++vs.toArray))).push (seqObj "list" vs.toArray 0) }) slot_list_sort ⟨_,hoL,rfl⟩ entry_list_sort
  (Mm (s:={ s with heap:=((s.heap.push (seqObj "list" #[] 0)).update s.heap.objs.size (Obj.mapSeq (·++vs.toArray))).push (seqObj "list" vs.toArray 0) }) hoL hr' hne h64 fun p a1 a2=>⟨_,rfl,?_⟩) (args_list_sort _)))
 exact wpAny_pure ⟨_,rfl,h p a1 a2⟩
end
section
variable {K:Ctx} {L:Loc} {G:GlT} {fa:Nat→Addr} {mg mb:Str→Option Value}
theorem Mb {A:Around} {E:Value→Shared→Prop} {c:Cf K.h₀} {Q:AN} {V:V} {v:Value} (r:Rel c.s.heap c.φ V v) (q:SortK c.σ Q false V):wpAny K.M A (call (.builtin "sorted") [v]) (PV c Q) E c.s:=by
 cases q with
 | @«ints» n ns en hl q=>
  apply Cf.listE en r;intro a items k _ g rl z
  have gl:c.s.heap.IsList a items.toList.toArray:=by rw [Array.toArray_toList];exact g.isList
  have hi:=Fx rl
  refine sorted_ints gl hi (by rw [IntsAre.length hi];exact hl) fun out ns' a1 a2 a3=>?_
  refine Ay (CP (h:=c.s.heap) (vs:=items.toList) (out:=out)) fun f1 zt1 f3=>AQ zt1 fun _ f2=>?_
  exact PV.listIn (s':=c.s) (FB a1) (by rw [List.length_map,a2.length_eq,← List.length_map (f:=V.int)];exact z) f1 f3 f2 ⟨rfl,rfl⟩ (q ns' a2 a3)
 | @rows n rs en hl hne q=>
  apply Cf.listE en r;intro a items k _ g rl z
  have gl:c.s.heap.IsList a items.toList.toArray:=by rw [Array.toArray_toList];exact g.isList
  have hsz:items.toList.length=rs.length:=by rw [← rl.length,List.length_map]
  refine Jf gl (L7 rl) hne (by rw [hsz];exact hl) fun p a1 a2=>?_
  refine Ay (CP (h:=c.s.heap) (vs:=items.toList) (out:=(p.map fun i=>items.toList.getD i Value.none).toArray)) fun f1 zt1 f3=>AQ zt1 fun _ f2=>?_
  rw [hsz] at a1
  have hin:∀ i∈p,i<rs.length:=fun i hi=>List.mem_range.mp (a1.mem_iff.mp hi)
  have hts:(p.map fun i=>rs.getD i []).map (fun r=>V.tup (r.map V.int))=p.map fun i=>(rs.map fun r=>V.tup (r.map V.int)).getD i .none:=by
   rw [List.map_map]
   refine List.map_congr_left fun i hi=>?_
   rw [Function.comp_apply,List.getD_eq_getElem?_getD,List.getD_eq_getElem?_getD,List.getElem?_map,List.getElem?_eq_getElem (hin i hi)];rfl
  have hperm:(p.map fun i=>rs.getD i []).Perm rs:=by
   refine (a1.map fun i=>rs.getD i []).trans (List.Perm.of_eq ?_)
   apply List.ext_getElem (by rw [List.length_map,List.length_range])
   intro i h1 h2
   rw [List.getElem_map,List.getElem_range,List.getD_eq_getElem?_getD,List.getElem?_eq_getElem h2];rfl
  refine PV.listIn (s':=c.s) (Vs:=(p.map fun i=>rs.getD i []).map fun r=>V.tup (r.map V.int)) ?_ ?_ f1 f3 f2 ⟨rfl,rfl⟩ (q _ hperm ?_)
  ·rw [hts];exact FN rl p fun i hi=>by rw [List.length_map];exact hin i hi
  ·rw [List.length_map,hperm.length_eq,← List.length_map (f:=fun r:List Int=>V.tup (r.map V.int))];exact z
  ·rw [List.pairwise_map]
   exact a2.imp fun {i j} hb=>Bf.no (JH rs) (i:=i) (j:=j) hb
 | @«strs» n ss en hl q=>
  apply Cf.listE en r;intro a items k _ g rl z
  have gl:c.s.heap.IsList a items.toList.toArray:=by rw [Array.toArray_toList];exact g.isList
  have hi:=RM rl
  refine sorted_strs gl hi (by rw [← rl.length,List.length_map];exact hl) fun out ss' a1 a2 a3=>?_
  refine Ay (CP (h:=c.s.heap) (vs:=items.toList) (out:=out)) fun f1 zt1 f3=>AQ zt1 fun _ f2=>?_
  exact PV.listIn (s':=c.s) (NR a1) (by rw [List.length_map,a2.length_eq,← List.length_map (f:=V.str)];exact z) f1 f3 f2 ⟨rfl,rfl⟩ (q ss' a2 a3)
theorem Il {A:Around} {E:Value→Shared→Prop} {c:Cf K.h₀} {Q:AN} {ns:List Int} {D:Addr} {ks:List Int} (hh:A.handled=none) (R:SetR K.prog K.w c.s.heap D (B1 K.w) ks) (h64:ks.length<64) (hm:∀ x,x∈ks↔x∈ns)
  (q:∀ ms:List Int,ms.Pairwise (·<·)→(∀ x,x∈ms↔x∈ns)→Q (.ref c.σ.length) (c.σ++[.list (ms.map .int)])):wpAny K.M A (call (.builtin "sorted") [.ref D]) (PV c Q) E c.s:=by
 have hnd:ks.Nodup:=by refine G9 R fun _ _ _ _ _ _ _ _ _ h _=>?_;exact h
 refine Kr hh R h64 fun D' out ms h' s' n a1 a2 a3 f1 f2 f3 ho hg=>?_
 refine PV.listIn (FB a1) (by rw [List.length_map,a2.length_eq];exact Nat.le_trans (Nat.le_of_lt h64) (by decide)) f1 f3 f2 ⟨ho,hg⟩ (q ms ?_ fun x=>(a2.mem_iff).trans (hm x))
 have hn:ms.Nodup:=a2.nodup_iff.mpr hnd
 exact (a3.and hn).imp fun {x y} h=>Int.lt_iff_le_and_ne.mpr h
noncomputable def S8 (P:V→AB→Prop):List V→AB→Prop
 | [v],σ=>P v σ
 | _,_=>False
theorem JY:∀ {vs:List V},S8 P vs σ→∃ v,vs=[v]∧P v σ
 | [v],h=>⟨v,rfl,h⟩
variable (K) in
inductive SetAt (c:Cf K.h₀) (Q:AN):Value→Shared→Prop
 | mk (c₁:Cf K.h₀) (D:Addr) (ks ns:List Int):Stp AO c c₁→SetR K.prog K.w c₁.s.heap D (B1 K.w) ks→ks.length<64→(∀ x,x∈ks↔x∈ns)→(∀ ms:List Int,ms.Pairwise (·<·)→(∀ x,x∈ms↔x∈ns)→Q (.ref c₁.σ.length) (c₁.σ++[.list (ms.map .int)]))→SetAt c Q (.ref D) c₁.s
theorem Rq (g:Gnd K G fa mg mb):SortR K G where
 one {L e a pf pos} hf hn he:=fun A c ρ Q X R F q=>by
  rw [CV]
  refine wpAny_bind (Bv g F hf (by decide) Dq (Db (.inr ⟨_,rfl⟩) R hn (BE hn BS) (Dw hn he Eu) F (Q:=S8 fun v σ=>SortK σ Q false v) q fun c₁ Vs vals s₁ r y=>?_))
  refine AC (JY y) fun V ze1 y=>?_;subst ze1
  refine AC r.one fun v ze1 r'=>?_;subst ze1
  exact fin s₁ (Mb r' y)
 set {L e a pf pf' pos pos'} hf hf' hn he:=fun A c ρ Q X R F q=>by
  rw [CV]
  have hns:Aq (.Call (.Name ("set":Str) pf') [e] [] pos'):=fun _ _=>rfl
  refine wpAny_bind (Bv g F hf (by decide) Dq (callWith_builtin (BE hns BS L.env pos) ?_))
  have inner:wpAny K.M A (eval (.Call (.Name ("set":Str) pf') [e] [] pos') L.env) (SetAt K c Q) (PX c X) c.s:=by
   rw [CV]
   refine wpAny_bind (Bv g F hf' (by decide) QC (Db (.inl ⟨_,rfl⟩) R hn (BE hn BS) (Dw hn he Eu) F (Q:=S8 fun v σ=>SortK σ Q true v) q fun c₁ Vs vals s₁ r y=>?_))
   refine AC (JY y) fun V ze1 y=>?_;subst ze1
   refine AC r.one fun v ze1 r'=>?_;subst ze1
   cases y with
   | @set n ns en hl y'=>
    apply Cf.listE en r';intro l items k _ gl rr z
    have hsz:items.size=ns.length:=by rw [← Array.length_toList,← rr.length,List.length_map]
    refine Ni R.hd gl.isList (Fx rr) (by rw [hsz];exact Nat.lt_of_lt_of_le (Nat.succ_lt_succ hl) (by decide)) fun h' tk ks hS hm hkl kk=>?_
    exact .mk (c₁.keep { c₁.s with heap:=h',toks:=tk } fun b o e=>kk b o (Heap.lt_size e) e) _ ks ns (s₁.trans (Cf.keep_stp ⟨rfl,rfl⟩)) hS (Nat.lt_of_le_of_lt (hsz▸hkl) hl) hm y'
  have hl':wpAny K.M A (spliced (backTo pos (starEach [.Call (.Name ("set":Str) pf') [e] [] pos'] L.env))) (fun vals s₁=>wpAny K.M A (call (.builtin "sorted") ([]++vals) []) (PV c Q) (PX c X) s₁) (PX c X) c.s:=
   wpAny_items_cons (wpAny_mono inner (fun x s₁ y=>y.casesOn fun c₁ D ks ns s₁ hS hkl hm y=>wpAny_items_nil (fin s₁ (Il R.hd hS hkl hm y))) fun _ _ e=>e) (hns [] L.env)
  rw [hns [] L.env] at hl' ⊢
  exact evalArgs_plain hl'
end
end Mine.Internal
namespace Mine.Internal
open PySem PySem.Calls PyProof.Rows PySem.W
set_option maxRecDepth 100000
set_option genSizeOf false
set_option genInjectivity false
theorem LC (vs:List Value):(List.range vs.length).map (fun i=>vs.getD i Value.none)=vs:=by
 apply List.ext_getElem?
 intro i
 rw [List.getElem?_map]
 by_cases hi:i<vs.length
 ·simp [hi]
 ·simp [hi]
section
variable {prog:Program} {w:World} {A:Around} {E:Value→Shared→Prop} {s:Shared}
theorem RU {a kS:Addr} {vs kvs:List Value} {rs:List (List Int)} {e e1:Nat} {P:PySem.Fin→Shared→Prop} (hkS:s.heap.get? kS=some (seqObj "list" kvs.toArray e)) (ha:s.heap.get? a=some (seqObj "list" #[] e1)) (hne:a≠kS) (hl:kvs.length=vs.length)
  (hr:RowsAre s.heap kvs rs) (hnr:∀ r∈rs,r≠[]) (h64:vs.length<64)
  (h:∀ p:List Nat,p.Perm (List.range vs.length)→p.Pairwise (B7 rs)→∀ h' c,h'.get? a=some (seqObj "list" (p.map fun i=>vs.getD i Value.none).toArray c)→(∀ b o,b≠a→b≠kS→s.heap.get? b=some o→h'.get? b=some o)→(∃ o,h'.get? kS=some o)→P (.done (.ret .none)) { s with heap:=h' }) :
  wpAny (model prog w) A (ksk_end a false vs.toArray e1 (.ref kS) kvs.toArray) P E s:=by
 have tail:∀ (st:SortSt) (p:List Nat),(arrOf st).map (·.2)=(p.map fun i=>vs.getD i Value.none).toArray→failedOf st=none→p.Perm (List.range vs.length)→p.Pairwise (B7 rs)→wpAny (model prog w) A (ksk_tail a false e1 (.ref kS) st) P E s:=fun st p hout hf hp1 hp2=>by
  unfold ksk_tail
  dsimp only
  rw [hout]
  have hsz:(p.map fun i=>vs.getD i Value.none).toArray.size=vs.length:=by rw [List.size_toArray,List.length_map,hp1.length_eq,List.length_range]
  obtain ⟨ck,hck⟩:∃ ck,(s.heap.update kS (Obj.mapSeq fun _=>(#[]:Array Value))).get? kS=some (seqObj "list" #[] ck):=⟨_,get?_update_seq hkS fun _=>#[]⟩
  have ha1:(s.heap.update kS (Obj.mapSeq fun _=>(#[]:Array Value))).get? a=some (seqObj "list" #[] e1):=(Heap.get?_update_ne _ _ _ _ hne).trans ha
  obtain ⟨c2,hc2⟩:∃ c2,((s.heap.update kS (Obj.mapSeq fun _=>(#[]:Array Value))).update a (Obj.mapSeq fun _=>(p.map fun i=>vs.getD i Value.none).toArray)).get? a=some (seqObj "list" (p.map fun i=>vs.getD i Value.none).toArray c2):=⟨_,get?_update_seq ha1 fun _=>(p.map fun i=>vs.getD i Value.none).toArray⟩
  refine wpAny_bind (listUpdate_at hkS rfl ?_ (by rw [List.size_toArray,sizeLine_eq];exact an2 .le .v0 (.n 16777216) (.q .v0 .v1 (.t .v1 (.n 64) .e)) rfl hl h64) (Nat.zero_le _))
  refine wpAny_bind (wpAny_letGo ?_)
  refine wpAny_bind (seqEpoch_at ha1 rfl ?_)
  refine wpAny_bind (listUpdate_at ha1 rfl ?_ (Nat.zero_le _) (Nat.le_trans (Nat.le_of_eq hsz) (by rw [sizeLine_eq];exact an1 .le .v0 (.a (.n 16777216) .n1) (.t .v0 (.n 64) .e) rfl h64)))
  rw [hf]
  simp only [bne_self_eq_false,Bool.false_eq_true,if_false]
  refine wpAny_pure (h p hp1 hp2 _ c2 hc2 (fun b o h1 h2 eb=>?_) ⟨_,(Heap.get?_update_ne _ _ _ _ (Ne.symm hne)).trans hck⟩)
  exact (Heap.get?_update_ne _ _ _ _ h1).trans ((Heap.get?_update_ne _ _ _ _ h2).trans eb)
 unfold ksk_end
 dsimp only
 simp only [Bool.false_eq_true,if_false]
 by_cases h2:vs.toArray.size<2
 ·rw [if_pos h2,if_pos h2]
  refine wpAny_bind (wpAny_pure ?_)
  rw [StateT.run_pure]
  refine wpAny_bind (wpAny_pure ?_)
  dsimp only
  refine tail _ (List.range vs.length) ?_ rfl (List.Perm.refl _) ?_
  ·rw [LC]
   show (kvs.toArray.zip vs.toArray).map (·.2)=vs.toArray
   apply Array.toList_inj.mp
   simp [List.map_snd_zip,hl]
  ·have hlt:vs.length<2:=by simpa using h2
   match hv:vs.length,hlt with
   | 0,_=>simp
   | 1,_=>simp
 ·rw [if_neg h2,if_neg h2]
  have h2':2≤vs.length:=by simp only [List.size_toArray] at h2;exact an1 .le .n2 .v0 (.o .v0 .n2 .e) rfl h2
  refine Ab (hr.tups hnr) fun fs tup hfl hfi=>?_
  refine wpAny_bind (kat_kind tup (by exact an3 .lt .n0 .v0 (.l .n2 .v1 (.p .v2 .v1 (.p .v0 .v2 .e))) rfl h2' hl hfl) (T:=.type "int") (fun v hv=>by refine Am (hfi v hv) fun i t ze1=>?_;subst ze1;exact Hn) rfl ?_)
  refine wpAny_bind (wpAny_mono (kat_run (ks:=kvs) (vs:=vs) (Q:=fun st' s'=>s'=s∧∃ p:Array Nat,arrOf st'=p.map (kas_item (kvs.toArray.zip vs.toArray))∧failedOf st'=none∧p.toList.Perm (List.range vs.length)∧p.toList.Pairwise (Bf (Kf rs)))
   (G:=fun p s'=>s'=s∧p.toList.Perm (List.range vs.length)∧p.toList.Pairwise (Bf (Kf rs)))
   hl h2' h64 (fun p st' s' _ a2 a3 a4=>⟨a4.1,p,a2,a3,a4.2.1,a4.2.2⟩) (QE (lt:=Kf rs) (fun i j C hi hj hC=>?_) (fun p hp=>⟨rfl,hp.1,hp.2⟩) (LN (JH rs) (by exact an1 .le .n1 .v0 (.l .n2 .v0 .e) rfl h2')))) ?_ fun _ _ e=>e)
  ·refine Af (hr.at' (i:=i) (by exact an3 .lt .v0 .v1 (.t .v0 .v2 (.p .v1 .v2 .e)) rfl hi hl)) fun x ix nx ex gx hx=>?_
   refine Af (hr.at' (i:=j) (by exact an3 .lt .v0 .v1 (.t .v0 .v2 (.p .v1 .v2 .e)) rfl hj hl)) fun y iy ny ey gy hy=>?_
   show wpAny _ _ (keyLt' _ (kvs.getD i Value.none) (kvs.getD j Value.none)) _ _ _
   rw [ex,ey]
   exact kat_lt (b:=true) gx rfl gy rfl (Pj _ _ _ _ 0 hx hy (by simp) hC)
  ·rintro ⟨⟨⟩,st'⟩ s' ⟨rfl,p,har,hf,hp1,hp2⟩
   exact tail st' p.toList (kat_snds (ks:=kvs) hl har) hf hp1 hp2
end
noncomputable def Outs {h₀:Bs} (c:Cf h₀) (φ₀:List Addr) (kS:Addr) (objs:List (Addr × Obj)):Prop:=φ₀<+:c.φ∧∀ p∈objs,c.s.heap.get? p.1=some p.2∧p.1∉c.φ∧p.1≠kS∧∀ es ep,p.2.data≠.dict es ep
section
variable {K:Ctx} {L:Loc} {A:Around}
theorem Outs.step (x:Outs c φ₀ kS objs) (st:WStp own c c') (ho:∀ b,own b→b=kS):Outs c' φ₀ kS objs:=⟨x.1.trans st.pre,fun p hp=>
 let ⟨h1,h2,h3,h4⟩:=x.2 p hp
 ⟨st.keepE h2 (fun m=>h3 (ho _ m)) h4 h1,st.out h1 h2,h3,h4⟩⟩
theorem JW (h0:K.h₀.get? kS=none)
  (hkey:∀ (c:Cf K.h₀) (V:V) (v:Value) (R:AN),Fr c L ρ→Outs c φ₀ kS objs→Rel c.s.heap c.φ V v→turn V c.σ R→wpAny K.M A (call f [v]) (PV c R) NX c.s)
  (hb:∀ x (s:Shared) (Q':ForInStep PUnit→Shared→Prop),wpAny K.M A (call f [x]) (fun k s'=>∃ kvs e,s'.heap.get? kS=some (seqObj "list" kvs.toArray e)∧kvs.length<64 ∧
   ∀ c,(s'.heap.update kS (Obj.mapSeq (·.push k))).get? kS=some (seqObj "list" (kvs++[k]).toArray c)→Q' (.yield ⟨⟩) { s' with heap:=s'.heap.update kS (Obj.mapSeq (·.push k)) }) NX s→wpAny K.M A (body x ⟨⟩) Q' E s) :
  ∀ (vs:List Value) (Vs:List V) (c:Cf K.h₀) (acc:List V),Fr c L ρ→Outs c φ₀ kS objs→AccAt c kS acc→acc.length+vs.length<64→RelL c.s.heap c.φ Vs vs→HZ turn Vs acc c.σ Qk →
   wpAny K.M A (forIn vs PUnit.unit body) (fun _ s'=>∃ (c':Cf K.h₀) (acc':List V),c'.s=s'∧Stp (·=kS) c c'∧Fr c' L ρ∧Outs c' φ₀ kS objs∧AccAt c' kS acc'∧acc'.length=acc.length+vs.length∧Qk acc' c'.σ) E c.s
 | [],Vs,c,acc,F,O,ac,hl,rv,q=>by
  cases List.length_eq_zero_iff.mp rv.length
  rw [List.forIn_nil]
  exact wpAny_pure ⟨c,acc,rfl,.refl c,F,O,ac,rfl,q⟩
 | v::vs,[],c,acc,F,O,ac,hl,rv,q=>rv.elim
 | v::vs,V::Vs,c,acc,F,O,ac,hl,rv,q=>by
  rw [List.length_cons] at hl
  rw [List.forIn_cons]
  refine wpAny_bind (hb v c.s _ (wpAny_mono (hkey c V v _ F O rv.1 q) (fun u s₁ y=>?_) fun _ _ x=>x))
  refine y.casesOn fun c₁ U s₁ ru q₁=>?_
  have ac₁:=ac.step s₁
  refine ac₁.casesOn fun arr e oD eD rD=>?_
  have hz:arr.toList.length=acc.length:=rD.length.symm
  refine ⟨arr.toList,e,by rw [Array.toArray_toList];exact eD,by exact an3 .lt .v0 (.n 64) (.q .v0 .v1 (.t (.a .v1 (.a .v2 .n1)) (.n 64) .e)) rfl hz hl,fun k hk=>?_⟩
  have ho:∀ b,b=kS→A5 c₁.s.heap b∧b∉c₁.φ∧K.h₀.get? b=none:=fun b e=>e▸⟨Mine.Internal.noTup eD BO,oD,h0⟩
  have kk:∀ b o,¬ b=kS→c₁.s.heap.get? b=some o→(c₁.s.heap.update kS (Obj.mapSeq (·.push u))).get? b=some o:=fun b o h e=>(Heap.get?_update_ne _ _ _ _ h).trans e
  have s₂:Stp (·=kS) c₁ (c₁.keepOwn { c₁.s with heap:=c₁.s.heap.update kS (Obj.mapSeq (·.push u)) } kk ho):=Cf.keepOwn_stp ⟨rfl,rfl⟩ fun b _ e _=>⟨_,(congrArg (Heap.get? (c₁.s.heap.update kS (Obj.mapSeq (·.push u)))) e).trans hk⟩
  have F₂:=(F.step s₁).keep s₂.toWStp (fun b e=>(ho b e).1) (fun f _ n _ e=>ac₁.noNs (e▸n)) fun b _ ic e=>ac₁.noCell (e▸ic)
  have O₂:=(O.step s₁.toWStp fun _ f=>f.elim).step s₂.toWStp fun _ h=>h
  have rk:∀ {Ws us},RelL c₁.s.heap c₁.φ Ws us→RelL (c₁.s.heap.update kS (Obj.mapSeq (·.push u))) c₁.φ Ws us:=fun r=>r.own s₂.toWStp fun b e=>(ho b e).1
  refine wpAny_mono (JW h0 hkey hb vs Vs (c₁.keepOwn { c₁.s with heap:=c₁.s.heap.update kS (Obj.mapSeq (·.push u)) } kk ho) (acc++[U]) F₂ O₂ (.mk _ k oD hk (by rw [List.toList_toArray];exact rk (rD.append ⟨ru,trivial⟩))) (by rw [List.length_append,List.length_singleton];exact an2 .lt (.a (.a .v0 .n1) .v1) (.n 64) (.t (.a .v0 (.a .v1 .n1)) (.n 64) .e) rfl hl) (rk (rv.2.step s₁)) q₁) (fun _ s' y=>?_) fun _ _ x=>x
  refine Cw y fun c' acc' e1 st F' O' ac' hl' q'=>?_
  exact ⟨c',acc',e1,(s₁.any.trans s₂).trans st,F',O',ac',by rw [hl',List.length_append,List.length_singleton,List.length_cons];exact Nat.le_antisymm (an2 .le (.a (.a .v0 .n1) .v1) (.a .v0 (.a .v1 .n1)) .e rfl) (an2 .le (.a .v0 (.a .v1 .n1)) (.a (.a .v0 .n1) .v1) .e rfl),q'⟩
theorem O3 {E:Value→Shared→Prop} {f:Value} {c:Cf K.h₀} {a:Addr} {objs:List (Addr × Obj)} {turn:V→AB→AN→Prop} {ρ:List V} {Vs:List V} {vs:List Value} {n:Nat} {P:PySem.Fin→Shared→Prop} {Q:AN} {c₀:Cf K.h₀}
  (st₀:Stp AO c₀ c) (ha0:c₀.s.heap.get? a=none) (haφ:a∉c.φ) (F:Fr c L ρ) (hO:∀ p∈objs,c.s.heap.get? p.1=some p.2∧p.1∉c.φ∧p.1≠a∧∀ es ep,p.2.data≠.dict es ep) (ha:c.s.heap.get? a=some (seqObj "list" vs.toArray n)) (rv:RelL c.s.heap c.φ Vs vs) (h64:vs.length<64)
  (hkey:∀ (kS:Addr) (t:Cf K.h₀) (V:V) (v:Value) (R:AN),Fr t L ρ→Outs t c.φ kS objs→Rel t.s.heap t.φ V v→turn V t.σ R→wpAny K.M A (call f [v]) (PV t R) NX t.s)
  (q:HZ turn Vs [] c.σ fun ks σ₂=>∃ rs:List (List Int),ks=rs.map (fun r=>.tup (r.map .int))∧(∀ r∈rs,r≠[])∧∀ p:List Nat,p.Perm (List.range Vs.length)→p.Pairwise (B7 rs)→Q (.ref σ₂.length) (σ₂++[.list (p.map fun i=>Vs.getD i .none)]))
  (h:∀ s',PV c₀ Q (.ref a) s'→P (.done (.ret .none)) s'):wpAny K.M A (ksk_tree a f false) P E c.s:=by
 have hlen:Vs.length=vs.length:=rv.length
 have haS:a<c.s.heap.objs.size:=Heap.lt_size ha
 have hsl:vs.length≤sizeLine:=by rw [sizeLine_eq];exact an1 .le .v0 (.n 16777216) (.t .v0 (.n 64) .e) rfl h64
 obtain ⟨e1,ha1⟩:∃ e1,(c.s.heap.update a (Obj.mapSeq fun _=>(#[]:Array Value))).get? a=some (seqObj "list" #[] e1):=⟨_,get?_update_seq ha fun _=>#[]⟩
 have hsz:((c.s.heap.update a (Obj.mapSeq fun _=>(#[]:Array Value))).push (seqObj "tuple" vs.toArray 0)).objs.size=c.s.heap.objs.size+1:=by rw [size_push',Heap.size_update]
 generalize hh₁:((c.s.heap.update a (Obj.mapSeq fun _=>(#[]:Array Value))).push (seqObj "tuple" vs.toArray 0)).push (seqObj "list" #[] 0)=h₁
 have kk:∀ b o,¬ b=a→c.s.heap.get? b=some o→h₁.get? b=some o:=fun b o hb e=>by
  rw [← hh₁]
  exact Heap.get?_push_of_some _ (Heap.get?_push_of_some _ ((Heap.get?_update_ne _ _ _ _ hb).trans e))
 have ga:h₁.get? a=some (seqObj "list" #[] e1):=by rw [← hh₁];exact Heap.get?_push_of_some _ (Heap.get?_push_of_some _ ha1)
 have gk:h₁.get? (c.s.heap.objs.size+1)=some (seqObj "list" ([]:List Value).toArray 0):=by rw [← hh₁,← hsz];exact Heap.get?_push_size _ rfl
 have hka:c.s.heap.objs.size+1≠a:=Nat.ne_of_gt (Nat.lt_succ_of_lt haS)
 have fk:c.s.heap.get? (c.s.heap.objs.size+1)=none:=BX (Nat.le_succ _)
 have ho:∀ b,b=a→A5 c.s.heap b∧b∉c.φ∧K.h₀.get? b=none:=fun b e=>e▸⟨Mine.Internal.noTup ha BO,haφ,c₀.sim.none₀ ha0⟩
 have ac₀:AccAt c a Vs:=.mk _ n haφ ha (by rw [List.toList_toArray];exact rv)
 have s₁:Stp (·=a) c (c.keepOwn { c.s with heap:=h₁ } kk ho):=Cf.keepOwn_stp ⟨rfl,rfl⟩ fun b _ e _=>e▸⟨_,ga⟩
 have F₁:=F.keep s₁.toWStp (fun b e=>(ho b e).1) (fun f _ n _ e=>ac₀.noNs (e▸n)) fun b _ ic e=>ac₀.noCell (e▸ic)
 have rv₁:RelL h₁ c.φ Vs vs:=rv.own s₁.toWStp fun b e=>(ho b e).1
 unfold ksk_tree
 refine wpAny_bind (listItems_at ha rfl ?_)
 refine wpAny_bind (listUpdate_at ha rfl ?_ (by rw [List.size_toArray];exact hsl) (Nat.zero_le _))
 refine wpAny_bind (seqEpoch_at ha1 rfl ?_)
 refine wpAny_bind (wpAny_newTuple ?_ (by show vs.length≤_;exact hsl))
 refine wpAny_bind (wpAny_newList ?_ (Nat.zero_le _))
 refine wpAny_holding ?_
 show wpAny K.M A (ksk_rest a f false vs.toArray e1 (.ref ((c.s.heap.update a (Obj.mapSeq fun _=>(#[]:Array Value))).push (seqObj "tuple" vs.toArray 0)).objs.size)) P E { c.s with heap:=((c.s.heap.update a (Obj.mapSeq fun _=>(#[]:Array Value))).push (seqObj "tuple" vs.toArray 0)).push (seqObj "list" #[] 0) }
 rw [hsz,hh₁]
 unfold ksk_rest
 refine wpAny_bind (wpAny_rule ?_)
 first
  | rw [List.forIn_toArray]
  | (rw [← Array.forIn_toList];simp only [List.toList_toArray])
  | rw [← Array.forIn_toList]
 generalize hkS:c.s.heap.objs.size+1=kS at *
 have hks:∀ b o,c.s.heap.get? b=some o→b≠kS:=fun b o e=>by rw [← hkS];exact Nat.ne_of_lt (Nat.lt_succ_of_lt (Heap.lt_size e))
 have O₁:Outs (c.keepOwn { c.s with heap:=h₁ } kk ho) c.φ kS ((a,seqObj "list" #[] e1)::objs):=⟨List.prefix_refl _,fun p hp=>by
  rcases List.mem_cons.mp hp with rfl | hp
  ·exact ⟨ga,haφ,Ne.symm hka,nofun⟩
  ·refine It (hO p hp) fun o1 o2 o3 o4=>?_
   exact ⟨kk p.1 p.2 o3 o1,o2,hks _ _ o1,o4⟩⟩
 refine wpAny_bind (wpAny_mono (JW (L:=L) (ρ:=ρ) (kS:=kS) (objs:=(a,seqObj "list" #[] e1)::objs) (turn:=turn) (c.sim.none₀ fk) (fun t V v R F O r k=>hkey kS t V v R F ⟨O.1,fun p hp=>O.2 p (List.mem_cons_of_mem _ hp)⟩ r k) (fun x s' Q' hx=>?_) vs Vs (c.keepOwn { c.s with heap:=h₁ } kk ho) [] F₁ O₁ (.mk #[] 0 (c.sim.out fk) gk trivial) (by rw [List.length_nil];exact an1 .lt (.a .n0 .v0) (.n 64) (.t .v0 (.n 64) .e) rfl h64) rv₁ q) (fun _ s' y=>?_) fun _ _ x=>x)
 ·refine wpAny_bind (wpAny_attempt (wpAny_mono hx (fun k s'' hk=>?_) fun _ _ hF=>hF.elim))
  refine A0 hk fun kvs e g hz hQ=>?_
  have ea:kvs.toArray.push k=(kvs++[k]).toArray:=by simp
  obtain ⟨c2,hc2⟩:∃ c2,(s''.heap.update kS (Obj.mapSeq (·.push k))).get? kS=some (seqObj "list" (kvs++[k]).toArray c2):=⟨_,by rw [← ea];exact get?_update_seq g (·.push k)⟩
  try dsimp only
  refine wpAny_bind (listUpdate_at g rfl ?_ (by rw [List.size_toArray,sizeLine_eq];exact an1 .le .v0 (.n 16777216) (.t .v0 (.n 64) .e) rfl hz) (Nat.le_trans (Nat.le_of_eq (Array.size_push ..)) (by rw [List.size_toArray,sizeLine_eq];exact an1 .le (.a .v0 .n1) (.a (.n 16777216) .n1) (.t .v0 (.n 64) .e) rfl hz)))
  exact wpAny_pure (hQ c2 hc2)
 ·refine Gm y fun c' acc' e1' st' F' O' ac' hl' rs hrs hne q'=>?_
  subst e1' hrs
  refine ac'.casesOn fun arr z oK eK rK=>?_
  try dsimp only
  have eK':c'.s.heap.get? kS=some (seqObj "list" arr.toList.toArray z):=by rw [Array.toArray_toList];exact eK
  refine wpAny_bind (listItems_at eK rfl ?_)
  have hl'':arr.toList.length=vs.length:=by rw [← rK.length,hl',List.length_nil,Nat.zero_add]
  have oa:=O'.2 (a,seqObj "list" #[] e1) List.mem_cons_self
  have key:=RU (prog:=K.h₀.prog) (w:=K.h₀.w) (A:=A) (E:=E) (P:=P) eK' oa.1 (Ne.symm hka) hl'' (L7 rK) hne h64 fun p hp1 hp2 h' c2 f1 f2 f3=>h _ ?_
  ·rw [Array.toArray_toList] at key;exact key
  have hoK:∀ b,(b=a∨b=kS)→A5 c'.s.heap b∧b∉c'.φ∧K.h₀.get? b=none:=fun b hb=>by
   rcases hb with rfl | rfl
   ·exact ⟨Mine.Internal.noTup oa.1 BO,oa.2.1,c₀.sim.none₀ ha0⟩
   ·exact ⟨Mine.Internal.noTup eK BO,oK,c.sim.none₀ fk⟩
  have kk':∀ b o,¬ (b=a∨b=kS)→c'.s.heap.get? b=some o→h'.get? b=some o:=fun b o hb e=>f2 b o (fun h=>hb (.inl h)) (fun h=>hb (.inr h)) e
  have s₃:Stp (fun b=>b=a∨b=kS) c' (c'.keepOwn { c'.s with heap:=h' } kk' hoK):=Cf.keepOwn_stp ⟨rfl,rfl⟩ fun b o hb _=>hb.elim (fun e=>e▸⟨_,f1⟩) fun e=>e▸f3
  have stF:Stp AO c₀ (c'.keepOwn { c'.s with heap:=h' } kk' hoK):=((st₀.transNew s₁.toWStp fun b e=>e▸ha0).transNew st'.toWStp fun b e=>e▸st₀.gone fk).transNew s₃.toWStp fun b hb=>hb.elim (fun e=>e▸ha0) fun e=>e▸st₀.gone fk
  have rvF:RelL h' c'.φ Vs vs:=((rv₁.own st'.toWStp fun b e=>e▸Mine.Internal.noTup gk BO:RelL c'.s.heap c'.φ Vs vs)).own s₃.toWStp fun b e=>(hoK b e).1
  rw [← hlen] at hp1
  have hin:∀ i∈p,i<Vs.length:=fun i hi=>List.mem_range.mp (hp1.mem_iff.mp hi)
  refine Bu (Made.join (D:=a) (acc:=p.map fun i=>Vs.getD i .none) stF ha0 (by rw [List.length_map,hp1.length_eq,List.length_range];unfold Ag;exact an2 .le .v0 (.n 1000000) (.q .v0 .v1 (.t .v1 (.n 64) .e)) rfl hlen h64) (.mk (c:=c'.keepOwn { c'.s with heap:=h' } kk' hoK) _ c2 oa.2.1 f1 (by rw [List.toList_toArray];exact FN rvF p hin))) fun c₄ g1 g2 g3 s₄ r₄=>?_
  have:=PV.mk (c:=c₀) (Q:=Q) c₄ _ s₄ r₄ (by rw [g3];exact q' p hp1 hp2)
  rw [g1] at this;exact this
end
end Mine.Internal
namespace Mine.Internal
open PySem PySem.Calls PyProof.Rows PySem.W
set_option maxRecDepth 100000
set_option genSizeOf false
set_option genInjectivity false
structure LamOk (params:Arguments) (scope:Scope) (x:Str) (arg:Arg):Prop where
 plain:params=⟨[],[arg],none,[],[],none,[]⟩
 name:arg.arg=x
 co:scope.isCoroutine=false
 gen:scope.isGenerator=false
noncomputable abbrev OQ (L:Loc) (scope:Scope) (N:Addr) (q:Str) (f:Addr) (cv:Value):Env:=newEnv scope N mainGlobals (CK L.env scope.names []) (q++".<locals>.") (some f) cv none builtinsNs
noncomputable abbrev RN (L:Loc) (scope:Scope) (vs':Vs) (N:Addr) (q:Str) (f:Addr) (cv:Value):Loc:=⟨OQ L scope N q f cv,vs',OQ L scope N q f cv::L.up⟩
section
variable {K:Ctx} {L:Loc} {A:Around} {vs':Vs} {G:GlT} {fa:Nat→Addr} {mg mb:Str→Option Value}
theorem NL {V:V} (cs:CompSc L scope vs' x i) (F:Fr c L ρ) (st:WStp AO c c') (n:c'.s.heap.Ns N m) (hN:c.s.heap.get? N=none) (ho:N∉c'.φ) (hm:m x=some v) (rv:Rel c'.s.heap c'.φ V v) :
  Fr c' (RN L scope vs' N q f cv) (ρ.set i V) where
 fn:=cs.kind
 glob:=rfl
 blt:=rfl
 locNew:=c.sim.none₀ hN
 locOut:=ho
 inj y z j hy hz:=by
  rcases cs.vars y j hy with ⟨rfl,rfl⟩ | ⟨h1,_,h2,h3⟩
  ·rcases cs.vars z _ hz with ⟨rfl,_⟩ | ⟨_,_,_,h3⟩
   ·rfl
   ·exact absurd rfl h3
  ·rcases cs.vars z j hz with ⟨rfl,rfl⟩ | ⟨_,_,h4,_⟩
   ·exact absurd rfl h3
   ·exact F.inj y z j h2 h4
 ns:=.mk m n fun y j hy hk=>by
  rcases cs.vars y j hy with ⟨rfl,rfl⟩ | ⟨_,hf,_,_⟩
  ·exact fun W hW _=>⟨v,hm,CZ hW▸rv⟩
  ·cases (show scope.names.lookup y=some .local from hk).symm.trans hf
 cell y j hy hk:=by
  rcases cs.vars y j hy with ⟨rfl,rfl⟩ | ⟨_,hf,hv,hj⟩
  ·rw [show (RN L scope vs' N q f cv).env.kindOf y=some .local from cs.var] at hk;refine Or.elim hk (fun q=>?_) (fun q=>?_) <;> cases q
  ·obtain ⟨ca,hl⟩:=Ce cs F hf hv
   exact match ca with
   | .mk a ov e1 e2 e3 ic rr=>.mk a ov (hl a e1) (let ⟨_,e,_⟩:=ic;st.out e e2) e3 (st.keepC e2 (fun f=>f) ic) ((rr.own st fun _ f=>f.elim).other (Ne.symm hj))
 cellInj y z j j' a hy hz h1 h2:=by
  have nx:(CK L.env scope.names []).lookup x=none:=D9 L.env scope.names [] x rfl cs.once
  rcases cs.vars y j hy with ⟨rfl,rfl⟩ | ⟨_,hf,hv,_⟩
  ·cases nx.symm.trans h1
  ·rcases cs.vars z j' hz with ⟨rfl,rfl⟩ | ⟨_,hf',hv',_⟩
   ·cases nx.symm.trans h2
   ·obtain ⟨⟨a1,_,e1,_⟩,l1⟩:=Ce cs F hf hv
    obtain ⟨⟨a2,_,e2,_⟩,l2⟩:=Ce cs F hf' hv'
    cases (l1 a1 e1).symm.trans h1
    cases (l2 a2 e2).symm.trans h2
    exact F.cellInj y z j j' _ hv hv' e1 e2
 up e m':=(List.mem_cons.mp m').elim (fun q=>by subst q;exact ⟨(fun q=>nomatch cs.kind.symm.trans q),_,_,rfl,c.sim.none₀ hN,ho,n⟩) fun m'=>(F.up e m').keep st fun _ _ _ _ f=>f
theorem PR (g:Gnd K G fa mg mb) {c:Cf K.h₀} {ρ:List V} {f c':Addr} {qual:Str} {params:Arguments} {body:Expr} {scope:Scope} {pm ctv:Value} {x:Str} {i:Nat} {arg:Arg} {b:Ex} {V:V} {v:Value} {Q:AN}
  (lo:LamOk params scope x arg) (cs:CompSc L scope vs' x i) (hh:A.handled=none) (hd:A.depth+3*K.d<901) (hu:A.units+12*K.d<9003) (hfr:A.frames=some L.up) (F:Fr c L ρ)
  (hf:c.s.heap.get? f=some (kla_obj "<lambda>" qual params body scope (CK L.env scope.names []) pm c' ctv)) (hcd:c.s.heap.CodeRec (.ref c') qual) (r:Rel c.s.heap c.φ V v)
  (hB:∀ N f cv,EOk K (RN L scope vs' N qual f cv) body b) (q:b K.C (ρ.set i V) c.σ Q noX):wpAny K.M A (call (.ref f) [v]) (PV c Q) NX c.s:=by
 have hroom:A.depth<recursionLimit:=Nat.lt_of_lt_of_le (Nat.lt_of_le_of_lt (Nat.le_add_right _ _) hd) (by decide)
 refine wpAny_call (kla_callFunE (fd:=kla_fn "<lambda>" qual params body scope (CK L.env scope.names []) pm (.ref c') ctv) hroom hf rfl lo.co lo.gen rfl hcd ?_)
 have hb:bindArgs (kla_fn "<lambda>" qual params body scope (CK L.env scope.names []) pm (.ref c') ctv) ⟨[v],[]⟩=pure [(x,v)]:=by
  have:=DZ (fd:=kla_fn "<lambda>" qual params body scope (CK L.env scope.names []) pm (.ref c') ctv) (args:=[arg]) (vals:=[v]) lo.plain rfl rfl (by simp)
  rw [this,← lo.name];rfl
 rw [hb]
 refine wpAny_pure (wpAny_newFunctionEnv cs.cell (fun y hy=>by rw [List.mem_singleton.mp hy];exact cs.var) (fun h₁ hns hsb=>⟨(g.nolimit.keeps c.sim.keep).fresh _ hsb,?_⟩) cs.kind)
 have kk:∀ b o,c.s.heap.get? b=some o→h₁.get? b=some o:=fun b o e=>hsb.extBut b o (Nat.ne_of_lt (Heap.lt_size e)) (Heap.get?_push_of_some _ e)
 have st₁:Stp AO c (c.keep { c.s with heap:=h₁,toks:=c.s.toks+[(x,v)].length } kk):=Cf.keep_stp ⟨rfl,rfl⟩
 have F':=NL (q:=qual) (f:=f) (cv:=.ref c') (V:=V) (v:=v) cs F st₁.toWStp hns Ad (c.sim.out Ad) (by show List.lookup x [(x,v)]=_;rw [List.lookup_cons,beq_self_eq_true]) (r.step st₁)
 refine kla_codeExpr (wpAny_mono (hB _ _ _ (A.deeper _) (c.keep { c.s with heap:=h₁,toks:=c.s.toks+[(x,v)].length } kk) (ρ.set i V) Q noX ⟨hh,by show A.depth+1+3*K.d<902;exact an2 .lt (.a (.a .v0 .n1) (.m 3 .v1)) (.n 902) (.t (.a .v0 (.m 3 .v1)) (.n 901) .e) rfl hd,by show A.units+3+12*K.d<9006;exact an2 .lt (.a (.a .v0 .n3) (.m 12 .v1)) (.n 9006) (.t (.a .v0 (.m 12 .v1)) (.n 9003) .e) rfl hu,by show A.frames.map _=_;rw [hfr];rfl⟩ F' q) (fun u s' y=>y.lift st₁) fun _ _ e=>SW e)
inductive LamAt (c:Cf K.h₀) (K':Nat→AB→Prop) (f:Addr) (mk:Addr→Value→Obj) (qual:Str):Shared→Prop
 | mk (c₂:Cf K.h₀) (m:Nat) (c':Addr) (ctv:Value):Stp AO c c₂→K' m c₂.σ→c₂.s.heap.get? f=some (mk c' ctv)→f∉c₂.φ→c₂.φ[m]?=some c'→c₂.σ[m]?=some (.code qual)→LamAt c K' f mk qual c₂.s
theorem OK (g:Gnd K G fa mg mb) {c:Cf K.h₀} {ρ:List V} {cN P:Addr} {qual:Str} {params:Arguments} {body:Expr} {scope:Scope} {x:Str} {i:Nat} {lpos:Pos} {K':Nat→AB→Prop} {Q:Value→Shared→Prop} {E:Value→Shared→Prop}
  (hG:G.lookup ("<lambda>":Str)=some (.tabl cN P)) (hdef:defaultsOf params L.env=([],[])) (cs:CompSc L scope vs' x i) (F:Fr c L ρ) (hcode:L.env.code=.ref cN) (hq:L.env.qual++"<lambda>"=qual) (tw:TabW P qual lpos.line lpos.col c.σ K')
  (h:∀ f s',LamAt c K' f (fun c' ctv=>kla_obj "<lambda>" qual params body scope (CK L.env scope.names []) ((mg "__name__").getD .none) c' ctv) qual s'→Q (.ref f) s'):wpAny K.M A (eval (.Lambda params body scope lpos) L.env) Q E c.s:=by
 refine Ay (g.lam cN P hG) fun hC hb hgP=>?_
 have hb':c.s.heap.BuiltinsAt mg P:=by refine BR hb fun bm ob b1 b2 b3 b4 b5 b6=>?_;exact ⟨bm,ob,b1,b2,b3,b4,c.sim.keep _ _ b5,b6⟩
 refine kla_eval hdef ?_
 rw [hq]
 rcases tw with ⟨e1,k⟩ | ⟨m,e1,e2,k⟩
 ·refine Ab (c.sim.obj 1 _ e1) fun aP ea ze1 gP=>?_;subst ze1
  refine kla_makeFunction (mg:=mg) (CX cs F) F.glob (g.ns.keeps c.sim.keep) hcode (hC.keeps c.sim.keep) gP trivial rfl hgP hb' fun c' ctv h' tk hext hge hlt hrec htb=>h _ _ ?_
  refine GG hrec fun c₂' oc ocv tq e2 hoc hocd hocq=>?_
  cases e2
  have nc:c.s.heap.get? c'=none:=BX hge
  have kk:∀ b o,b≠aP→c.s.heap.get? b=some o→(h'.push (kla_obj "<lambda>" qual params body scope (CK L.env scope.names []) ((mg "__name__").getD .none) c' ctv)).get? b=some o:=fun b o hb e=>Heap.get?_push_of_some _ (hext b o hb e)
  refine BH (Cf.setO (c:=c) (o:=.gone) (tk:=tk) ea (by decide) kk fun _=>⟨_,Heap.get?_push_of_some _ htb⟩) fun ca f1 f2 f3 sa=>?_
  have Sb:Sim K.h₀ ca.s.heap (ca.φ++[c']) (ca.σ++[.code qual]):=ca.sim.add (o:=.code qual) (f2▸c.sim.out nc) (c.sim.none₀ nc) ⟨oc,ocv,tq,by rw [f1];exact Heap.get?_push_of_some _ hoc,hocd,hocq⟩
  have sb:Stp AO c ⟨ca.s,ca.φ++[c'],ca.σ++[.code qual],Sb⟩:=⟨⟨sa.only,sa.pre.trans (List.prefix_append _ _),sa.keep,fun a m=>(Be m).elim (sa.fresh a) fun e=>.inr (e▸nc)⟩,sa.pres⟩
  have hlen:c.φ.length=c.σ.length:=c.sim.len
  obtain ⟨cc,g1,g2,g3,sc⟩:=Cf.setO (c:=⟨ca.s,ca.φ++[c'],ca.σ++[.code qual],Sb⟩) (n:=1) (a:=aP) (o:=.row aP lpos.line lpos.col c.σ.length) (tk:=ca.s.toks) (Bt (List.prefix_append _ _) (f2▸ea)) (by decide) (h':=ca.s.heap) (fun _ _ _ e=>e)
   fun _=>⟨rfl,c',by show (ca.φ++[c'])[c.σ.length]?=_;rw [f2,← hlen];exact List.getElem?_concat_length,by rw [f1];exact Heap.get?_push_of_some _ htb⟩
  have hσ:cc.σ=c.σ.set 1 (.row aP lpos.line lpos.col c.σ.length)++[.code qual]:=by
   rw [g3]
   show (ca.σ++[O.code qual]).set 1 _=_
   rw [f3,List.set_append_left _ _ (by rw [List.length_set];exact (List.getElem?_eq_some_iff.mp e1).1),List.set_set]
  have hs:cc.s={ c.s with heap:=h'.push (kla_obj "<lambda>" qual params body scope (CK L.env scope.names []) ((mg "__name__").getD .none) c' ctv),toks:=tk }:=by rw [g1,f1]
  have:=LamAt.mk (c:=c) (K':=K') (f:=h'.objs.size) (mk:=fun c' ctv=>kla_obj "<lambda>" qual params body scope (CK L.env scope.names []) ((mg "__name__").getD .none) c' ctv) (qual:=qual) cc c.σ.length c' ctv (sb.trans sc) (by rw [hσ];exact k) (by rw [hs];exact Heap.get?_push_size _ rfl)
   (by rw [g2];show _∉ca.φ++[c'];rw [f2];exact fun m=>(Be m).elim (c.sim.out (BX (Nat.le_trans hge (Nat.le_of_lt hlt)))) fun e=>Nat.ne_of_gt hlt e) (by rw [g2];show (ca.φ++[c'])[c.σ.length]?=_;rw [f2,← hlen];exact List.getElem?_concat_length)
   (by rw [hσ,List.getElem?_append_right (by rw [List.length_set];exact Nat.le_refl _),List.length_set,Nat.sub_self];rfl)
  rw [hs] at this;exact this
 ·refine Jx (c.sim.obj 1 _ e1) fun aP ea ze1 c' ec gP=>?_;subst ze1
  refine kla_makeFunctionHit (mg:=mg) (cv:=.ref c') (CX cs F) F.glob (g.ns.keeps c.sim.keep) hcode (hC.keeps c.sim.keep) gP ?_ ?_ hb' fun ctv h' tk hk hsz=>h _ _ ?_
  ·exact trivial
  ·show (if _=true then _ else _)=_
   rw [if_pos (by simp)]
  ·have s₂:Stp AO c (c.keep { c.s with heap:=h'.push { cls:=.type "function", data:=.func (kla_fn "<lambda>" qual params body scope (CK L.env scope.names []) ((mg "__name__").getD .none) (.ref c') ctv) },toks:=tk } fun b o e=>Heap.get?_push_of_some _ (hk b o e)):=Cf.keep_stp ⟨rfl,rfl⟩
   exact .mk (c.keep _ _) m c' ctv s₂ k (Heap.get?_push_size _ rfl) (c.sim.out (BX hsz)) ec e2
end
end Mine.Internal
namespace Mine.Internal
open PySem PySem.Calls PyProof.Rows PySem.W
set_option maxRecDepth 100000
set_option genSizeOf false
set_option genInjectivity false
section
variable {K:Ctx} {L:Loc} {A:Around} {vs':Vs} {G:GlT} {fa:Nat→Addr} {mg mb:Str→Option Value}
theorem M8 (P:RelP h φ kvs us) (hi:ItemsOf (fun i v=>∃ k x,us[i]?=some (k,x)∧(strKind prog w).is k v=true) acc us.length):RelL h φ (kvs.map fun p=>V.str p.1) acc.toList:=by
 have:∀ (ks:List V) (vs:List Value),ks.length=vs.length→(∀ (i:Nat) (V:V) (v:Value),ks[i]?=some V→vs[i]?=some v→Rel h φ V v)→RelL h φ ks vs:=by
  intro ks
  induction ks with
  | nil=>intro vs hl _;cases vs with | nil=>trivial | cons=>cases hl
  | cons k ks ih=>intro vs hl hv;cases vs with
   | nil=>cases hl
   | cons v vs=>exact ⟨hv 0 k v rfl rfl,ih vs (Nat.succ.inj hl) fun i V v h1 h2=>hv (i+1) V v h1 h2⟩
 refine this _ _ (by rw [List.length_map];exact (P.len.symm.trans hi.1.symm).trans Array.length_toList.symm) fun i V v h1 h2=>?_
 refine CD (P.key h1) fun k x e1 ze1=>?_;subst ze1
 rw [Array.getElem?_toList] at h2
 refine CD (hi.2 i v h2) fun k' x' e2 hk=>?_
 cases e1.symm.trans e2
 refine AQ (Value.isStrOf_shape hk) fun t ze1=>?_;subst ze1
 exact B0
theorem TabW.ext {ln col:Int} {K:Nat→AB→Prop} (h:TabW P q ln col σ K):TabW P q ln col σ fun m σ₂=>(∀ n o,n≠1→σ[n]?=some o→σ₂[n]?=some o)∧K m σ₂:=by
 rcases h with ⟨e,k⟩ | ⟨m,e1,e2,k⟩
 ·refine .inl ⟨e,fun n o hn e'=>?_,k⟩
  rw [List.getElem?_append_left (by rw [List.length_set];exact (List.getElem?_eq_some_iff.mp e').1),EX (Ne.symm hn)]
  exact e'
 ·exact .inr ⟨m,e1,e2,fun _ _ _ e=>e,k⟩
theorem LE (g:Gnd K G fa mg mb) {c:Cf K.h₀} {ρ:List V} {cN P:Addr} {qual:Str} {params:Arguments} {e body:Expr} {scope:Scope} {x:Str} {i:Nat} {arg:Arg} {lpos kp pf pos:Pos} {a b:Ex} {Q:AN} {X:Ac}
  (hG:G.lookup ("<lambda>":Str)=some (.tabl cN P)) (hs:Ae G L.env.scope ("sorted":Str)=true) (hn:Aq e) (he:EOk K L e a) (lo:LamOk params scope x arg) (cs:CompSc L scope vs' x i) (hdef:defaultsOf params L.env=([],[])) (hcode:L.env.code=.ref cN) (hq:L.env.qual++"<lambda>"=qual)
  (hB:∀ N f cv,EOk K (RN L scope vs' N qual f cv) body b) (R:RFun K L.up A) (F:Fr c L ρ) (q:Ij P qual lpos.line lpos.col a i b K.C ρ c.σ Q X) :
  wpAny K.M A (eval (.Call (.Name ("sorted":Str) pf) [e] [⟨some "key", .Lambda params body scope lpos,kp⟩] pos) L.env) (PV c Q) (PX c X) c.s:=by
 show wpAny K.M A (do callWith pos (← eval (.Name ("sorted":Str) pf) L.env) [] (backTo pos (starEach [e] L.env)) (backToKw pos (keywordEach [⟨some "key", .Lambda params body scope lpos,kp⟩] L.env))) _ _ c.s
 refine wpAny_bind (Bv g F hs (by decide) Dq ?_)
 refine callWith_kw ?_ (by rw [hn [] L.env];rfl) (BE hn BS L.env pos) rfl rfl
 refine KH (.refl c) (Dw hn he Eu A c ρ (fun vs σ₁=>∃ items,KeySrc σ₁ (vs.headD .none) items∧items.length<64∧TabW P qual lpos.line lpos.col σ₁ fun m σ₂=>HZ (fun y σ R=>σ[m]?=some (.code qual)∧b K.C (ρ.set i y) σ R noX) items [] σ₂ fun ks σ₃=>
   ∃ rs:List (List Int),ks=rs.map (fun r=>.tup (r.map .int))∧(∀ r∈rs,r≠[])∧∀ p:List Nat,p.Perm (List.range items.length)→p.Pairwise (B7 rs)→Q (.ref σ₃.length) (σ₃++[.list (p.map fun i=>items.getD i .none)])) X pos R.ok F (by unfold Ij at q;exact q)) fun c₁ Vs vals s₁ _ rl q₁=>?_
 refine FA q₁ fun hl1 items ks h64 tw=>?_
 refine AQ (List.length_eq_one_iff.mp hl1) fun V ze0=>?_;subst ze0
 refine AC rl.one fun v' ze1 r=>?_;subst ze1
 refine kws_cons (OK (body:=body) (params:=params) g hG hdef cs (F.step s₁) hcode hq tw.ext fun f s' y=>kws_nil ?_)
 refine y.casesOn fun c₂ m c' ctv s₂ zp00 gf fo ec ek=>?_
 have hext:=zp00.1
 have k:=zp00.2
 have r₂:Rel c₂.s.heap c₂.φ V v':=r.step s₂
 obtain ⟨n,ep,kvs,rfl,rfl,en⟩:∃ n ep kvs,V=.ref n∧items=kvs.map (fun p=>.str p.1)∧c₂.σ[n]?=some (.dict ep kvs):=by
  cases ks with
  | @dict n ep kvs hn1 en=>exact ⟨n,ep,kvs,rfl,rfl,hext n _ hn1 en⟩
 refine BR (Cf.dict en r₂) fun d us ze1 ed D Pd hz hsm=>?_;subst ze1
 show wpAny K.M A (call (.builtin "sorted") [.ref d] [(Str.ofString "key", .ref f)]) _ _ c₂.s
 refine call_function_entry_kw kind_sorted plain_sorted entry_sorted (ksk_s1 _ _) ?_
 unfold Builtin.«sorted»
 refine wpAny_bind (m:=checkCount "sorted" 1 1 _) (wpAny_pure ?_)
 refine wpAny_bind (kdu_collect (kdl_dict (knd:=strKind K.h₀.prog K.h₀.w) (kvs:=us) (ep:=ep) hsm) R.hd D (by rw [Pd.len];exact CJ hz) fun h₃ tk acc hk hi=>?_)
 have hl:acc.toList.length<64:=by rw [Array.length_toList,hi.1,Pd.len];rw [List.length_map] at h64;exact h64
 have s₃:Stp AO c₂ (c₂.keep { c₂.s with heap:=h₃,toks:=tk } hk):=Cf.keep_stp ⟨rfl,rfl⟩
 refine wpAny_bind (wpAny_newList ?_ (by rw [sizeLine_eq];exact an1 .le .v0 (.n 16777216) (.t .v0 (.n 64) .e) rfl hl))
 have s₄:Stp AO (c₂.keep { c₂.s with heap:=h₃,toks:=tk } hk) ((c₂.keep { c₂.s with heap:=h₃,toks:=tk } hk).keep { c₂.s with heap:=h₃.push (seqObj "list" acc.toList.toArray 0),toks:=tk } A7):=Cf.keep_stp ⟨rfl,rfl⟩
 have hoL:(h₃.push (seqObj "list" acc.toList.toArray 0)).get? h₃.objs.size=some (seqObj "list" acc.toList.toArray 0):=Heap.get?_push_size _ rfl
 have nD:c₂.s.heap.get? h₃.objs.size=none:=s₃.gone (Ad (h:=h₃))
 have F₄:=(((F.step s₁).step s₂).step s₃).step s₄
 refine wpAny_bind (wpAny_holding (wpAny_call_entry_kw (s:={ c₂.s with heap:=h₃.push (seqObj "list" acc.toList.toArray 0),toks:=tk }) slot_list_sort ⟨_,hoL,rfl⟩ entry_list_sort ?_ (ksk_l1 _ _)))
 rw [ksk_t1]
 refine O3 (L:=L) (ρ:=ρ) (c:=(c₂.keep { c₂.s with heap:=h₃,toks:=tk } hk).keep { c₂.s with heap:=h₃.push (seqObj "list" acc.toList.toArray 0),toks:=tk } A7) (c₀:=c₂) (Vs:=kvs.map fun p=>.str p.1) (turn:=fun y σ R=>σ[m]?=some (.code qual)∧b K.C (ρ.set i y) σ R noX) (Q:=Q)
  (objs:=[(f,kla_obj "<lambda>" qual params body scope (CK L.env scope.names []) ((mg "__name__").getD .none) c' ctv)]) (s₃.trans s₄) nD (c₂.sim.out nD) F₄ (fun p hp=>?_) hoL ((M8 Pd hi).step (s₃.trans s₄)) hl (fun kS t V v Rt Ft O r k=>?_) k fun s' hpv=>⟨_,rfl,wpAny_pure ⟨_,rfl,(hpv.lift (s₁.trans s₂))⟩⟩
 ·cases List.mem_singleton.mp hp
  exact ⟨A7 _ _ (hk _ _ gf),fo,(fun (e:f=h₃.objs.size)=>by rw [e,nD] at gf;cases gf),nofun⟩
 ·have o1:=O.2 _ List.mem_cons_self
  refine ET (t.sim.obj m _ k.1) fun a' ea' o vs tq e1 e2 e3=>?_
  cases (Bt O.1 ec).symm.trans ea'
  have hu:=R.units
  exact PR g lo cs R.hd R.depth (by show A.units+1+1+12*K.d<9003;exact an2 .lt (.a (.a (.a .v0 .n1) .n1) (.m 12 .v1)) (.n 9003) (.t (.a .v0 (.m 12 .v1)) (.n 9000) .e) rfl hu) R.fr Ft o1.1 ⟨c',o,vs,tq,rfl,e1,e2,e3⟩ r hB k.2
end
end Mine.Internal
namespace Mine.Internal
open PySem PySem.Calls
set_option genSizeOf false
set_option genInjectivity false
section
variable {K:Ctx} {G:GlT} {fa:Nat→Addr} {mg mb:Str→Option Value}
noncomputable def LM:Str:="Rack.names.<locals>.<lambda>"
noncomputable def UR:(g:Option Gl)→Option { p:Addr × Addr // g=some (.tabl p.1 p.2) }
 | some (.tabl c P)=>some ⟨(c,P),rfl⟩
 | _=>none
noncomputable def Ts:(p:Arguments)→Option { a:Arg // p=⟨[],[a],none,[],[],none,[]⟩ }
 | ⟨[],[a],none,[],[],none,[]⟩=>some ⟨a,rfl⟩
 | _=>none
noncomputable def I3 (sc:Scope) (args:List Arg):Bool:=decide ((args.map (·.arg)).Nodup)&&(A9 (args.map (·.arg)) sc).all (Fi sc)&&(sc.kind==.function)&&!sc.isCoroutine&&!sc.isGenerator
theorem Kc (h:I3 sc args=true):DefOk sc (args.map (·.arg)):=by
 simp only [I3,Bool.and_eq_true,decide_eq_true_eq,Bool.not_eq_true',List.all_eq_true,beq_iff_eq] at h
 exact ⟨h.1.1.1.1,h.1.1.1.2,h.1.1.2,h.1.2,h.2⟩
abbrev UG (G:GlT) (cd:Value) (ql:Str):Prop:=(∀ c P,G.lookup ("<lambda>":Str)=some (.tabl c P)→cd=.ref c)∧ql++"<lambda>"=LM
abbrev T4 (K:Ctx) (G:GlT) (body:List Stmt) (sc:Scope) (params:Arguments):Type:={ r:Fn × Bool // ∃ args,∀ cd ql,(r.2=true→UG G cd ql)→FnOk K cd ql params body sc r.1 args }
noncomputable def VM (B:Bg K G fa mg mb) (S:SortR K G) (extra:Nat) (sc:Scope) (args:List Arg):(body:List Stmt)→Option (T4 K G body sc ⟨[],args,none,[],[],none,[]⟩)
 | [.Return (some (.Call (.Name f _) [e] [⟨some kn,.Lambda lp lb lsc lpos,_⟩] _)) _]=>
  if hc:(I3 sc args&&Ae G sc ("sorted":Str)&&!lsc.isCoroutine&&!lsc.isGenerator)=true then if hf:f=("sorted":Str)∧kn=("key":Str) then
   (Ts lp).bind fun a=>(UR (G.lookup ("<lambda>":Str))).bind fun t=>
    if ho:I1 sc (Ca (args.map (·.arg)) sc) lsc a.1.arg (A9 (args.map (·.arg)) sc).length=true then
     (rE B S (A9 (args.map (·.arg)) sc).length 40 sc (Ca (args.map (·.arg)) sc) e).bind fun x=>
      (rE B S ((A9 (args.map (·.arg)) sc).length+1) 40 lsc (CL lsc (Ca (args.map (·.arg)) sc) a.1.arg (A9 (args.map (·.arg)) sc).length) lb).map fun y=>
       ⟨(⟨(args.map (·.arg)).length,(A9 (args.map (·.arg)) sc).length+extra,[AW (Ij t.1.2 LM lpos.line lpos.col x.1.v (A9 (args.map (·.arg)) sc).length y.1.v)]⟩,true),args,fun cd ql hk=>by
        have hk:=hk rfl
        have g1:=Bool.and_eq_true_iff.mp hc
        have g2:=Bool.and_eq_true_iff.mp g1.1
        have g3:=Bool.and_eq_true_iff.mp g2.1
        obtain ⟨rfl,rfl⟩:=hf
        refine ⟨rfl,rfl,Kc g3.1,fun env up he hcd hql A c ρ Q R F q=>?_⟩
        have hA:=Agree.of_eq he
        refine wpAny_execs_cons (wpAny_Return_some (wpAny_mono (LE (vs':=CL lsc (Ca (args.map (·.arg)) sc) a.1.arg (A9 (args.map (·.arg)) sc).length) (x:=a.1.arg) (arg:=a.1) (cN:=t.1.1) (Q:=fun v σ=>Q (.ret v) ρ σ) (X:=fun k σ=>Q (.exc k) ρ σ) B.g t.2 (hA.free g3.2) (x.2 env (env::up) hA).star (x.2 env (env::up) hA).ok ⟨a.2,rfl,(Bool.not_eq_true' _).mp g2.2,(Bool.not_eq_true' _).mp g1.2⟩ (LR hA.cf ho) (by rw [a.2];rfl) (hcd.trans (hk.1 _ _ t.2)) (by rw [hql];exact hk.2) (fun N f' cv=>(y.2 _ _ (Agree.of_eq rfl)).ok) R F q) (fun v s z=>?_) fun e s z=>z.toE F))
        cases z with
        | mk c₁ V s₁ r q₁=>exact .ret c₁ ρ V v s₁.any (F.step s₁) r q₁⟩
    else none else none else none
 | _=>none
noncomputable def Ux (B:Bg K G fa mg mb) (S:SortR K G) (extra:Nat) (body:List Stmt) (sc:Scope):(params:Arguments)→Option (T4 K G body sc params)
 | ⟨[],args,none,[],[],none,[]⟩=>match VM B S extra sc args body with
  | some r=>some r
  | none=>(rFn B S extra body sc ⟨[],args,none,[],[],none,[]⟩).map fun r=>⟨(r.1,false),let ⟨a,h⟩:=r.2;⟨a,fun cd ql _=>h cd ql⟩⟩
 | _=>none
end
end Mine.Internal
namespace Mine.Internal
open PySem PySem.Calls PySem.W PyProof.Rows
set_option genSizeOf false
set_option genInjectivity false
structure Lw where
 h₀:Bs
 excs:List Nat
 G:GlT
 fa:Nat→Addr
 mg:Str→Option Value
 mb:Str→Option Value
abbrev Lw.K (l:Lw) (P:List Fn) (d:Nat):Ctx:=⟨l.h₀,callW P d,d,l.excs⟩
structure FunAt (l:Lw) (P:List Fn) (i:Nat) (fn:Fn) (o:Obj) (fd:FuncData) (body:List Stmt):Prop where
 get:l.h₀.get? (l.fa i)=some o
 data:o.data=.func fd
 code:l.h₀.heap.CodeRec fd.code fd.qualname
 glob:fd.globals=mainGlobals
 blt:fd.builtins=builtinsNs
 bod:fd.body=.stmts body
 clo:fd.closure=[]
 dfl:fd.defaults=.none
 ok:∀ d,Bg (l.K P d) l.G l.fa l.mg l.mb→SortR (l.K P d) l.G→∃ args,FnOk (l.K P d) fd.code (fd.qualname++".<locals>.") fd.params body fd.scope fn args
structure LwOk (l:Lw) (P:List Fn):Prop where
 g:∀ d,Gnd (l.K P d) l.G l.fa l.mg l.mb
 so:∀ d,SortR (l.K P d) l.G
 fn:∀ x i fn,l.G.lookup x=some (.fn i)→P[i]?=some fn→∃ o fd body,FunAt l P i fn o fd body
theorem Nd {l:Lw} {P:List Fn} {d:Nat} {c:Cf l.h₀} {Q:AN} {X:Ac}:∀ {r:Result} {s:Shared},JR (l.K P d) c Q X r s→JR (l.K P (d+1)) c Q X r s
 | .ok (.ret _),_,y=>by cases (y:PV _ _ _ _) with | mk c' V st r q=>exact PV.mk (K:=l.K P (d+1)) c' V st r q
 | .ok .next,_,y=>y
 | .ok .brk,_,y=>y
 | .ok .cont,_,y=>y
 | .error _,_,y=>by cases (y:PX _ _ _ _) with | mk c' k a fp n hk st e q=>exact PX.mk (K:=l.K P (d+1)) c' k a fp n hk st e q
theorem Px (h:LwOk l P):∀ d,GC (l.K P d) l.G l.fa
 | 0=>fun _ _ _ _ _ _ _ _ _ _ _ _ _ q=>(OR q).elim
 | d+1=>fun x i hx A up c Vs vals Q X R hup r q=>by
  refine Ab (MI q) fun fn e hl q=>?_
  refine Ec (h.fn x i fn hx e) fun o fd body fa=>?_
  refine AQ (fa.ok d ⟨h.g d,Px h d⟩ (h.so d)) fun args ok=>?_
  refine codeAny_mono (Qo (K:=l.K P d) (c:=c) (Q:=Q) (X:=X) rfl (fd:=fd) (body:=body) ok.params ok.ok fa.glob fa.blt fa.bod fa.clo fa.dfl hup ⟨R.hd,R.depth,R.units,R.fr⟩ (c.sim.keep _ _ fa.get) fa.data ((h.g d).nolimit.keeps c.sim.keep) (fa.code.keeps c.sim.keep) r (ok.len.symm.trans hl.symm)
   (fun env he hc hq=>ok.body env up he hc hq) q) fun _ _ y=>Nd y
end Mine.Internal
namespace Mine.Internal
open PySem PySem.Calls PySem.W PyProof.Rows
set_option genSizeOf false
set_option genInjectivity false
structure FRec where
 name:Str
 params:Arguments
 body:List Stmt
 scope:Scope
noncomputable def S2 (d:DefRec):FRec:=⟨d.name,d.params,d.body,d.scope⟩
noncomputable def SZ (m:MethRec):FRec:=⟨AV++"."++m.name,m.params,m.body,m.scope⟩
noncomputable def C7 (p:Program) (c:ClsRec):List FRec:=(recsOf p).map S2++c.meths.map SZ
structure XRec where
 name:Str
 k:Nat
 kids:List Nat
 mro:List Value
structure Wh where
 C:Addr
 i:Nat
 cN:Addr
 tP:Addr
 xt:List XRec
noncomputable def I7:Nat→List FRec→GlT
 | _,[]=>[]
 | n,d::r=>(d.name,.fn n)::I7 (n+1) r
theorem GM:∀ (ds:List FRec) (n:Nat) {x:Str} {g:Gl},(I7 n ds).lookup x=some g→∃ j d,g=.fn (n+j)∧ds[j]?=some d∧d.name=x
 | y::r,n,x,g,h=>by
  rw [I7,List.lookup_cons] at h
  cases e:x==y.name with
  | true=>rw [e] at h;exact ⟨0,y,(Option.some.inj h).symm,rfl,(beq_iff_eq.mp e).symm⟩
  | false=>rw [e] at h;refine A0 (GM r (n+1) h) fun j d h1 h2 h3=>?_;exact ⟨j+1,d,h1.trans (by rw [Nat.add_assoc,Nat.add_comm 1]),h2,h3⟩
noncomputable def Rx (x:Str):Option PyData→Option (Str × Gl)
 | some (.str z)=>some (x,.str z)
 | some (.int i)=>some (x,.int i)
 | _=>none
noncomputable def Tu (p:Program):GlT:=(litsOf p).filterMap fun x=>Rx x.1 (valOf p x.1)
noncomputable def Dx (p:Program) (c:ClsRec) (wh:Wh):GlT:=I7 0 (C7 p c)++((AV,.cls wh.C wh.i)::("<lambda>", .tabl wh.cN wh.tP)::wh.xt.map fun e=>(e.name,.exc e.k e.kids))++Tu p
theorem EM {α:Type} {x:Str}:∀ (a b:List (Str × α)) {v:α},(a++b).lookup x=some v→a.lookup x=some v∨b.lookup x=some v
 | [],_,_,h=>.inr h
 | (y,w)::a,b,v,h=>by
  rw [List.cons_append,List.lookup_cons] at h
  rw [List.lookup_cons]
  cases e:x==y with
  | true=>rw [e] at h;exact .inl h
  | false=>rw [e] at h;exact EM a b h
theorem NN:∀ {o:Option PyData},Rx x o=some (y,g)→x=y∧((∃ z,g=.str z∧o=some (.str z))∨∃ i,g=.int i∧o=some (.int i))
 | some (.str z),h=>by cases h;exact ⟨rfl,.inl ⟨z,rfl,rfl⟩⟩
 | some (.int z),h=>by cases h;exact ⟨rfl,.inr ⟨z,rfl,rfl⟩⟩
inductive GlIs (p:Program) (c:ClsRec) (wh:Wh) (x:Str):Gl→Prop
 | fn (i:Nat) (d:FRec):(C7 p c)[i]?=some d→d.name=x→GlIs p c wh x (.fn i)
 | cls:x=AV→GlIs p c wh x (.cls wh.C wh.i)
 | lam:GlIs p c wh x (.tabl wh.cN wh.tP)
 | exc (e:XRec):e∈wh.xt→e.name=x→GlIs p c wh x (.exc e.k e.kids)
 | str (z:Str):valOf p x=some (.str z)→GlIs p c wh x (.str z)
 | int (z:Int):valOf p x=some (.int z)→GlIs p c wh x (.int z)
theorem Mn (h:(Dx p c wh).lookup x=some g):GlIs p c wh x g:=by
 refine Or.elim (EM _ _ h) (fun h=>?_) (fun h=>?_)
 ·refine Or.elim (EM _ _ h) (fun h=>?_) (fun h=>?_)
  ·refine A0 (GM _ 0 h) fun j d ze1 h2 h3=>?_;subst ze1
   exact .fn _ d (by rw [Nat.zero_add];exact h2) h3
  ·have h:=mem_of_lookup h
   refine Or.elim (List.mem_cons.mp h) (fun e=>?_) (fun h=>?_)
   ·cases e;exact .cls rfl
   refine Or.elim (List.mem_cons.mp h) (fun e=>?_) (fun h=>?_)
   ·cases e;exact .lam
   refine AC (List.mem_map.mp h) fun e he q=>?_
   cases q;exact .exc e he rfl
 ·refine AC (List.mem_filterMap.mp (mem_of_lookup h)) fun y _ e=>?_
  obtain ⟨rfl,⟨z,rfl,q⟩ | ⟨z,rfl,q⟩⟩:=NN e
  ·exact .str z q
  ·exact .int z q
noncomputable def IA (mg:Str→Option Value) (x:Str):Addr:=match mg x with
 | some (.ref a)=>a
 | _=>0
theorem HN (e:mg x=some (.ref a)):IA mg x=a:=by unfold IA;rw [e]
noncomputable def C1 (mg mN:Str→Option Value) (p:Program) (c:ClsRec) (i:Nat):Addr:=match (recsOf p)[i]? with
 | some d=>IA mg d.name
 | none=>match c.meths[i - (recsOf p).length]? with
  | some m=>IA mN m.name
  | none=>0
theorem N1 (h:(C7 p c)[i]?=some d):(∃ e,(recsOf p)[i]?=some e∧d=S2 e)∨((recsOf p)[i]?=none∧∃ m,c.meths[i - (recsOf p).length]?=some m∧d=SZ m):=by
 unfold C7 at h
 refine Or.elim (Nat.lt_or_ge i (recsOf p).length) (fun hi=>?_) (fun hi=>?_)
 ·rw [List.getElem?_append_left (by rw [List.length_map];exact hi),List.getElem?_map] at h
  refine AC (Option.map_eq_some_iff.mp h) fun e he q=>?_
  exact .inl ⟨e,he,q.symm⟩
 ·rw [List.getElem?_append_right (by rw [List.length_map];exact hi),List.length_map,List.getElem?_map] at h
  refine AC (Option.map_eq_some_iff.mp h) fun m hm q=>?_
  exact .inr ⟨List.getElem?_eq_none hi,m,hm,q.symm⟩
noncomputable def GlF (p:Program) (c:ClsRec) (wh:Wh) (x:Str):Gl→Prop
 | .fn i=>∃ d:FRec,(C7 p c)[i]?=some d∧d.name=x
 | .cls C i=>C=wh.C∧i=wh.i
 | .tabl a b=>a=wh.cN∧b=wh.tP
 | .exc k ks=>∃ e:XRec,e∈wh.xt∧e.name=x∧e.k=k∧e.kids=ks
 | .str z=>valOf p x=some (.str z)
 | .int z=>valOf p x=some (.int z)
theorem CE (h:(Dx p c wh).lookup x=some g):GlF p c wh x g:=by
 cases Mn h with
 | fn i d a b=>exact ⟨d,a,b⟩
 | cls _=>exact ⟨rfl,rfl⟩
 | lam=>exact ⟨rfl,rfl⟩
 | exc e a b=>exact ⟨e,a,b,rfl,rfl⟩
 | str z a=>exact a
 | int z a=>exact a
noncomputable def UV:Value→Bool
 | .str _ _=>true
 | _=>false
noncomputable def S3:Value→Bool
 | .int _ _=>true
 | _=>false
noncomputable def Ry:Value→Bool
 | .bool _=>true
 | _=>false
noncomputable def Uf:Value→Option Addr
 | .ref a=>some a
 | _=>none
noncomputable def Su:Data→Option (Array Value)
 | .fields vs=>some vs
 | _=>none
noncomputable def Te:Data→Option ClassData
 | .cls c=>some c
 | _=>none
noncomputable def Uq:Data→Option FuncData
 | .func f=>some f
 | _=>none
theorem GA {α:Type} {x:α} {P:Prop} (h:(none:Option α)=some x):P:=nomatch h
theorem F0 {P:Prop} (h:false=true):P:=(Bool.false_ne_true h).elim
theorem RX (h:UV v=true):∃ x t,v=.str x t:=by
 cases v with
 | str x t=>exact ⟨x,t,rfl⟩
 | _=>exact F0 h
theorem L1 (h:S3 v=true):∃ x t,v=.int x t:=by
 cases v with
 | int x t=>exact ⟨x,t,rfl⟩
 | _=>exact F0 h
theorem O7 (h:Ry v=true):∃ x,v=.bool x:=by
 cases v with
 | bool x=>exact ⟨x,rfl⟩
 | _=>exact F0 h
theorem Qy (h:Uf v=some a):v=.ref a:=by
 cases v with
 | ref b=>exact congrArg Value.ref (Option.some.inj h)
 | _=>exact GA h
theorem LO (h:Su d=some vs):d=.fields vs:=by
 cases d with
 | fields us=>exact congrArg Data.fields (Option.some.inj h)
 | _=>exact GA h
theorem LG (h:Te d=some c):d=.cls c:=by
 cases d with
 | cls b=>exact congrArg Data.cls (Option.some.inj h)
 | _=>exact GA h
theorem Q7 (h:Uq d=some f):d=.func f:=by
 cases d with
 | func b=>exact congrArg Data.func (Option.some.inj h)
 | _=>exact GA h
theorem Bp {α:Type} {o:Option α} {p:α→Bool} (h:o.any p=true):∃ x,o=some x∧p x=true:=by
 cases o with
 | none=>exact F0 h
 | some x=>exact ⟨x,rfl,h⟩
noncomputable def SJ (h:Heap) (c P:Addr):Bool:=(h.get? c).any fun o=>decide (o.cls=.type "code")&&(Su o.data).any fun vs=>decide (vs[11]?=some (.ref P))&&(UV (vs.getD 18 .none)&&(S3 (vs.getD 7 .none)&&(Ry (vs.getD 9 .none)&&(S3 (vs.getD 10 .none)&&decide (c≠P)))))
noncomputable def Sf (h:Heap) (P:Addr):Bool:=(h.get? P).any fun o=>decide (o.cls=.none)&&(o.dict.isNone&&(decide (o.slots.size=0)&&(Su o.data).any fun vs=>decide (vs.size=0)))
noncomputable def UL (h:Heap) (k:Addr) (mro:List Value):Bool:=(h.get? k).any fun o=>(Te o.data).any fun cd=>decide (cd.mro=mro)
noncomputable def QG (h:Heap) (C cN:Addr):Bool:=(h.get? C).any fun o=>(Te o.data).any fun cd=>h.isNs cd.ns&&((h.nsMap cd.ns "names").bind Uf).any fun f=>(h.get? f).any fun o=>(Uq o.data).any fun fd=>decide (fd.code=.ref cN)
noncomputable def I6 (wh:Wh) (s:Shared):Bool:=decide (s.heap.nsMap mainGlobals AV=some (.ref wh.C))&&(wh.xt.all fun e=>decide (s.heap.nsMap mainGlobals e.name=some (.ref e.k))&&UL s.heap e.k e.mro)&&QG s.heap wh.C wh.cN&&SJ s.heap wh.cN wh.tP&&Sf s.heap wh.tP
structure SeenP (wh:Wh) (mg:Str→Option Value) (h:Heap):Prop where
 cls:mg AV=some (.ref wh.C)
 exc:∀ e∈wh.xt,mg e.name=some (.ref e.k)∧∃ o cd,h.get? e.k=some o∧o.data=.cls cd∧cd.mro=e.mro
 names:∃ oC cd m f o fd,h.get? wh.C=some oC∧oC.data=.cls cd∧h.Ns cd.ns m∧m "names"=some (.ref f)∧h.get? f=some o∧o.data=.func fd∧fd.code=.ref wh.cN
 code:CodeHd h wh.cN wh.tP
 tab:h.get? wh.tP=some (tabObj #[])
theorem seen_of (h:I6 wh s=true):SeenP wh (s.heap.nsMap mainGlobals) s.heap:=by
 unfold I6 at h
 simp only [Bool.and_eq_true,decide_eq_true_eq,List.all_eq_true] at h
 obtain ⟨⟨⟨⟨h1,h2⟩,h3⟩,h4⟩,h5⟩:=h
 refine ⟨h1,fun e he=>⟨(h2 e he).1,?_⟩,?_,?_,?_⟩
 ·refine AC (Bp (h2 e he).2) fun o hg h=>?_
  refine AC (Bp h) fun cd hd h=>?_
  exact ⟨o,cd,hg,LG hd,of_decide_eq_true h⟩
 ·refine AC (Bp h3) fun oC hg h=>?_
  refine AC (Bp h) fun cd hd h=>?_
  have h:=Bool.and_eq_true_iff.mp h
  refine AC (Bp h.2) fun f hf h'=>?_
  refine AC (Option.bind_eq_some_iff.mp hf) fun v hv hr=>?_
  refine AC (Bp h') fun o hfd h'=>?_
  refine AC (Bp h') fun fd he h'=>?_
  exact ⟨oC,cd,_,f,o,fd,hg,LG hd,.of_isNs h.1,hv.trans (congrArg some (Qy hr)),hfd,Q7 he,of_decide_eq_true h'⟩
 ·refine AC (Bp h4) fun o hg h=>?_
  have h:=Bool.and_eq_true_iff.mp h
  refine AC (Bp h.2) fun vs hd h'=>?_
  have h':=Bool.and_eq_true_iff.mp h'
  have b1:=Bool.and_eq_true_iff.mp h'.2
  have b2:=Bool.and_eq_true_iff.mp b1.2
  have b3:=Bool.and_eq_true_iff.mp b2.2
  have b4:=Bool.and_eq_true_iff.mp b3.2
  have k1:=of_decide_eq_true h'.1
  refine Am (RX b1.1) fun _ _ k2=>?_
  refine Am (L1 b2.1) fun _ _ k3=>?_
  refine AQ (O7 b3.1) fun _ k4=>?_
  refine Am (L1 b4.1) fun _ _ k5=>?_
  exact ⟨_,vs,_,_,_,_,_,_,_,hg,of_decide_eq_true h.1,LO hd,k1,by rw [Array.getD_eq_getD_getElem?,k1];rfl,k2,k3,k4,k5,of_decide_eq_true b4.2⟩
 ·refine AC (Bp h5) fun o hg h=>?_
  have h:=Bool.and_eq_true_iff.mp h
  have b1:=Bool.and_eq_true_iff.mp h.2
  have b2:=Bool.and_eq_true_iff.mp b1.2
  refine AC (Bp b2.2) fun vs hd h'=>?_
  rw [hg]
  show some (⟨o.cls,o.dict,o.data,o.slots⟩:Obj)=_
  rw [of_decide_eq_true h.1,Option.isNone_iff_eq_none.mp b1.1,Array.eq_empty_of_size_eq_zero (of_decide_eq_true b2.1),LO hd,Array.eq_empty_of_size_eq_zero (of_decide_eq_true h')]
theorem SeenP.keeps (x:SeenP wh mg h) (k:∀ b o,h.get? b=some o→h'.get? b=some o):SeenP wh mg h' where
 cls:=x.cls
 exc e he:=by refine LJ (x.exc e he) fun a o cd e1 r=>?_;exact ⟨a,o,cd,k _ _ e1,r⟩
 names:=by refine GD x.names fun oC cd m f o fd e1 e2 n e3 e4 r=>?_;exact ⟨oC,cd,m,f,o,fd,k _ _ e1,e2,n.keeps k,e3,k _ _ e4,r⟩
 code:=x.code.keeps k
 tab:=k _ _ x.tab
end Mine.Internal
namespace Mine.Internal
open PySem PySem.Calls PySem.W PyProof.Rows
set_option genSizeOf false
set_option genInjectivity false
section
variable {h:Heap} {P:Addr} (hP:h.get? P=some (tabObj #[]))
include hP
theorem hid (e:h.get? b=some o) (hd:o.data≠.fields #[]):(h.hide P).get? b=some o:=
 (Heap.hide_ne _ fun q=>by rw [q,hP] at e;cases e;exact hd rfl).trans e
theorem FK (x:h.Ns a m):(h.hide P).Ns a m:=by refine Af x fun o es ep e d r=>?_;exact ⟨o,es,ep,hid hP e (by rw [d];nofun),d,r⟩
theorem Ua (x:h.Ns a m):a≠P:=fun q=>by
 refine Af x fun o es ep e d r=>?_
 rw [q,hP] at e;cases e;cases d
theorem Qu (x:h.CodeRec v q):(h.hide P).CodeRec v q:=by
 refine GG x fun c o vs t e g d r=>?_
 refine ⟨c,o,vs,t,e,hid hP g fun z=>?_,d,r⟩
 rw [d] at z;cases z;simp at r
theorem OT (x:OwnTail h bmB bm):OwnTail (h.hide P) bmB bm:=by
 induction x with
 | base=>exact .base
 | own e n i _ ih=>exact .own (hid hP e nofun) (FK hP n) i ih
theorem Qz (x:ClsAt h C N mN):ClsAt (h.hide P) C N mN:=
 by refine A2 x.obj fun nm q bs sn sub col dd k0 k1 k2 k3 k5 e=>?_;exact ⟨⟨nm,q,bs,sn,sub,col,dd,k0,k1,k2,k3,k5,hid hP e nofun⟩,FK hP x.ns⟩
theorem Sq (x:CodeHd h c P):CodeHd (h.hide P) c P:=by
 refine FD x fun o vs file tf flags tg inF text tt e1 e2 e3 e4 r=>?_
 refine ⟨o,vs,file,tf,flags,tg,inF,text,tt,hid hP e1 fun z=>?_,e2,e3,e4,r⟩
 rw [e3] at z;cases z;simp at e4
end
theorem QS (m:Str):(AV++"."++m:Str).cps.toList=(AV.cps.toList++[46])++m.cps.toList:=by
 show ((AV.cps++(⟨#[46]⟩:Str).cps)++m.cps).toList=_
 rw [Array.toList_append,Array.toList_append]
theorem LQ (e:AV++"."++a=AV++"."++b):a=b:=by
 have:=congrArg (fun s:Str=>s.cps.toList) e
 simp only [QS] at this
 have:=Array.toList_inj.mp (List.append_cancel_left this)
 cases a;cases b
 simp only at this
 rw [this]
structure TextOk (p:Program) (loose:List Str) (c:ClsRec) (wh:Wh):Prop where
 mem:c∈plainsOf p loose
 name:c.name=AV
 quiet:Ii.all (c.withCmp.quiet.contains ·)=true
 dots:((recsOf p).all fun d=>KD d.name)=true
 init:Q8 ((Dx p c wh).lookup (AV++"."++"__init__")) wh.i=true
 owns:(wh.xt.all fun e=>(ownsOf p).any fun o=>o.name==e.name&&o.bm==bmV&&o.newId=="ValueError.__new__")=true
 kids:(wh.xt.all fun e=>wh.xt.all fun e'=>e'.mro.contains (.ref e.k)==e.kids.contains e'.k)=true
 blt:(B4.all fun x=>!(startupNames.contains x||loose.contains x||((recsOf p).map (·.name)).contains x||((litsOf p).map (·.1)).contains x||((clssOf p loose).map (·.name)).contains x)||((Dx p c wh).lookup x).isSome)=true
 lit:((litsOf p).all fun x=>((recsOf p).map (·.name)).contains x.1==false)=true
theorem Tw {h:Heap} {a:Addr} {m m':Str→Option Value} (x:h.Ns a m) (y:h.Ns a m'):m=m':=by
 refine CC x fun o es ep e d _ f=>?_
 refine CC y fun o' es' ep' e' d' _ f'=>?_
 cases e.symm.trans e';cases d.symm.trans d'
 funext n;rw [← f,← f']
section
variable {p q:Program} {w:World} {loose:List Str} {mean:ExcName→Option Value} {mg mb:Str→Option Value} {h:Heap} {c:ClsRec} {wh:Wh}
noncomputable abbrev Tz (p q:Program) (w:World) (c:ClsRec) (wh:Wh) (h:Heap) (mg mb mN:Str→Option Value):Lw:=⟨⟨h.hide wh.tP,p,w⟩,wh.xt.map (·.k),Dx q c wh,C1 mg mN q c,mg,mb⟩
theorem Lr (T:Top q loose mean mg mb h) (A:PlainAt h c.withCmp wh.C N mN) (hd:(C7 q c)[i]?=some d) (hn:c.name=AV) :
  ∃ o fd,h.get? (C1 mg mN q c i)=some o∧o.data=.func fd∧h.CodeRec fd.code fd.qualname∧fd.globals=mainGlobals∧fd.builtins=builtinsNs∧fd.body=.stmts d.body∧fd.closure=[]∧fd.defaults=.none∧fd.params=d.params∧fd.scope=d.scope ∧
   ((∃ e,(recsOf q)[i]?=some e∧d=S2 e∧mg e.name=some (.ref (C1 mg mN q c i)))∨∃ m∈c.meths,d=SZ m∧mN m.name=some (.ref (C1 mg mN q c i))∧o.cls=.type "function"∧fd.qualname=AV++"."++m.name):=by
 rcases N1 hd with ⟨e,he,rfl⟩ | ⟨h0,m,hm,rfl⟩
 ·refine Jn (T.fn e (List.mem_of_getElem? he)) fun a o pm cd doc h1 h2 h3 h4=>?_
  have ha:C1 mg mN q c i=a:=by unfold C1;rw [he];exact HN h1
  rw [ha]
  exact ⟨o,_,h2,h3,h4,rfl,rfl,rfl,rfl,rfl,rfl,rfl,.inl ⟨e,he,rfl,h1⟩⟩
 ·refine Iu (A.meths m (List.mem_of_getElem? hm)) fun f o pm cd doc e1 e2 e3 e4 e5=>?_
  have ha:C1 mg mN q c i=f:=by unfold C1;rw [h0];dsimp only;rw [hm];exact HN e1
  rw [ha]
  exact ⟨o,_,e2,e4,e5,rfl,rfl,rfl,rfl,rfl,rfl,rfl,.inr ⟨m,List.mem_of_getElem? hm,rfl,e1,e3,by show c.name++"."++m.name=_;rw [hn]⟩⟩
theorem Nh (T:Top q loose mean mg mb h) (S:SeenP wh mg h) (A:PlainAt h c.withCmp wh.C N mN) (ok:TextOk q loose c wh):Gnd ((Tz p q w c wh h mg mb mN).K P d) (Dx q c wh) (C1 mg mN q c) mg mb where
 ns:=FK S.tab T.g
 nsb:=FK S.tab T.b
 nolimit:=by refine AC T.nolimit fun mc a b=>?_;exact ⟨mc,FK S.tab a,b⟩
 fn x i hx hm:=by
  refine AC (CE hx) fun d hd he=>?_
  ·obtain ⟨o,fd,_,_,_,_,_,_,_,_,_,_,⟨e,_,rfl,h1⟩ | ⟨m,_,rfl,_⟩⟩:=Lr T A hd ok.name
   ·exact he▸h1
   ·exact absurd he.symm (hm m.name)
 isfn x i hx:=by
  refine AC (CE hx) fun d hd he=>?_
  ·refine A0 (Lr T A hd ok.name) fun o fd h1 h2 _=>?_
   exact ⟨o,fd,hid S.tab h1 (by rw [h2];nofun),h2⟩
 str x z hx:=by
  have hv:=CE hx
  refine AC (T.const x _ hv) fun v hv r=>?_;cases r h;exact ⟨_,hv⟩
 int x z hx:=by
  have hv:=CE hx
  refine AC (T.const x _ hv) fun v hv r=>?_;cases r h;exact ⟨_,hv⟩
 blt x hx hn:=by
  have:=List.all_eq_true.mp ok.blt x hx
  rw [hn] at this
  simp only [Option.isSome_none,Bool.or_false,Bool.not_eq_true',Bool.or_eq_false_iff] at this
  obtain ⟨⟨⟨⟨a1,a2⟩,a3⟩,a4⟩,a5⟩:=this
  exact T.free x (fun m=>Bool.eq_false_iff.mp a1 (List.contains_iff_mem.mpr m)) (fun m=>Bool.eq_false_iff.mp a2 (List.contains_iff_mem.mpr m)) (fun m=>Bool.eq_false_iff.mp a3 (List.contains_iff_mem.mpr m)) (fun m=>Bool.eq_false_iff.mp a4 (List.contains_iff_mem.mpr m)) (fun m=>Bool.eq_false_iff.mp a5 (List.contains_iff_mem.mpr m))
 bv:=T.builtins
 cls C i hx:=by
  have key:∀ m j,(Dx q c wh).lookup (AV++"."++m)=some (.fn j)→K8 (h.hide wh.tP) mN m (C1 mg mN q c j):=fun m j hj=>by
   refine AC (CE hj) fun d hd he=>?_
   ·obtain ⟨o,fd,h1,h2,_,_,_,_,_,_,_,_,⟨e,he',rfl,_⟩ | ⟨m',_,rfl,h3,h4,_⟩⟩:=Lr T A hd ok.name
    ·exact absurd he (Et (List.all_eq_true.mp ok.dots e (List.mem_of_getElem? he')) m)
    ·cases LQ he
     exact ⟨h3,o,fd,hid S.tab h1 (by rw [h2];nofun),h4,h2⟩
  obtain ⟨rfl,rfl⟩:=CE hx
  exact ⟨S.cls,N,mN,Qz S.tab A.cls,fun n hn=>A.quiet n (List.contains_iff_mem.mp (List.all_eq_true.mp ok.quiet n hn)),key,key _ _ (Lg ok.init)⟩
 exc x k ks hx:=by
  refine BH (CE hx) fun e he hn zk zs=>?_
  ·subst zk;subst zs
   refine ⟨hn▸(S.exc e he).1,List.mem_map.mpr ⟨e,he,rfl⟩,fun k' hk'=>?_⟩
   refine AC (List.mem_map.mp hk') fun e' he' ze1=>?_;subst ze1
   refine CG (S.exc e' he') fun b1 o cd b2 b3 b4=>?_
   refine AC (List.any_eq_true.mp (List.all_eq_true.mp ok.owns e' he')) fun ow ho hq=>?_
   simp only [Bool.and_eq_true,beq_iff_eq] at hq
   obtain ⟨⟨q1,q2⟩,q3⟩:=hq
   refine AC (T.own ow ho) fun C' O _=>?_
   have O':=O.own
   cases (q1▸O'.bound).symm.trans b1
   refine DB O'.obj fun bm N' nm qn bs hdct sn sub ab col dd k0 k1 k2 k3 k5 mN' hC hN hni TL=>?_
   rw [q3] at hC
   cases hC.symm.trans b2
   cases b3
   refine ⟨e'.mro,.mk bm N' nm qn bs hdct sn sub ab col dd k0 k1 k2 k3 k5 mN' (hid S.tab hC nofun) (FK S.tab hN) hni (OT S.tab (q2▸TL)) b4,?_⟩
   exact beq_iff_eq.mp (List.all_eq_true.mp (List.all_eq_true.mp ok.kids e he) e' he')
 lam cN P' hx:=by
  obtain ⟨rfl,rfl⟩:=CE hx
  ·refine ⟨Sq S.tab S.code,?_,Ua S.tab T.g⟩
   refine BR T.bmain fun bm ob b1 b2 b3 b4 b5 b6=>?_
   refine ⟨bm,ob,b1,b2,fun z=>?_,fun z=>?_,hid S.tab b3 (by rw [b6];nofun),b4,b5,b6⟩
   ·refine Af T.g fun o' es ep e dd _=>?_
    rw [z,e] at b3;cases b3;rw [b6] at dd;cases dd
   ·rw [z,S.tab] at b3;cases b3;cases b6
abbrev Reads (G:GlT) (ds:List FRec) (extra:Nat) (P:List (Fn × Bool)):Prop:=∀ (K:Ctx) (fa:Nat→Addr) (mg mb:Str→Option Value) (B:Bg K G fa mg mb) (S:SortR K G),FJ (fun d:FRec=>(Ux B S extra d.body d.scope d.params).map Subtype.val) ds=some P
theorem Ny {α β:Type} {f:α→Option β} (as:List α):∀ {bs:List β} {i:Nat} {b:β},FJ f as=some bs→bs[i]?=some b→∃ a,as[i]?=some a∧f a=some b:=by
 induction as with
 | nil=>intro bs i b h hb;rw [← Option.some.inj h] at hb;exact absurd hb.symm (Option.some_ne_none b)
 | cons a as ih=>
  intro bs i b h hb
  refine AC (Option.bind_eq_some_iff.mp h) fun y hy h=>?_
  refine AC (Option.map_eq_some_iff.mp h) fun ys hys ze1=>?_
  rw [← ze1] at hb
  cases i with
  | zero=>exact ⟨a,rfl,Option.some.inj hb▸hy⟩
  | succ i=>exact ih hys hb
theorem UK {N:Addr} {mN:Str→Option Value} {P:List (Fn × Bool)} {extra:Nat} (T:Top q loose mean mg mb h) (S:SeenP wh mg h) (A:PlainAt h c.withCmp wh.C N mN) (ok:TextOk q loose c wh) (hP:Reads (Dx q c wh) (C7 q c) extra P)
  (hk:∀ (i:Nat) (r:Fn × Bool),P[i]?=some r→r.2=true→∃ d:FRec,(C7 q c)[i]?=some d∧d.name=AV++"."++"names"):LwOk (Tz p q w c wh h mg mb mN) (P.map (·.1)) where
 g d:=Nh T S A ok
 so d:=Rq (Nh (P:=P.map (·.1)) (d:=d) T S A ok)
 fn x i fn hx hi:=by
  rw [List.getElem?_map] at hi
  refine AC (Option.map_eq_some_iff.mp hi) fun r hr ze1=>?_;subst ze1
  refine AC (CE hx) fun d hd he=>?_
  refine Fq (Lr T A hd ok.name) fun o fd h1 h2 h3 h4 h5 h6 h7 h8 h9 h10 alt=>?_
  refine ⟨o,fd,d.body,hid S.tab h1 (by rw [h2];nofun),h2,Qu S.tab h3,h4,h5,h6,h7,h8,fun n B S'=>?_⟩
  refine AC (Ny _ (hP _ _ _ _ B S') hr) fun d' hd' e=>?_
  cases hd.symm.trans hd'
  refine AC (Option.map_eq_some_iff.mp e) fun z _ e=>?_
  refine AQ (z.2) fun args hz=>?_
  rw [h9,h10]
  refine ⟨args,e▸hz _ _ fun hb=>?_⟩
  refine AC (hk i r hr (e▸hb)) fun d'' hd'' hn=>?_
  cases hd.symm.trans hd''
  rcases alt with ⟨e',he',rfl,_⟩ | ⟨m,_,rfl,hm,_,hq⟩
  ·exact absurd hn (Et (List.all_eq_true.mp ok.dots e' (List.mem_of_getElem? he')) _)
  ·have hmn:m.name="names":=LQ hn
   refine ⟨fun c' P' hl=>?_,by rw [hq,hmn];decide +kernel⟩
   obtain ⟨rfl,rfl⟩:=CE hl
   ·refine Bi S.names fun oC cd m' f o' fd' g1 g2 g3 g4 g5 g6 g7=>?_
    refine A2 A.cls.obj fun nm q' bs sn sub col dd k0 k1 k2 k3 k5 gC=>?_
    cases gC.symm.trans g1
    cases g2
    cases Tw g3 A.cls.ns
    rw [hmn] at hm
    cases hm.symm.trans g4
    cases h1.symm.trans g5
    cases h2.symm.trans g6
    exact g7
end
theorem J5:∀ {vs:List Value} {xs:List Int},WellAll P h vs (ofPys (xs.map PyData.int))→IntsAre vs xs
 | _,[],x=>by rw [List.map_nil,ofPys] at x;cases x;exact .nil
 | _,i::xs,x=>by
  rw [List.map_cons,ofPys,ofPy] at x
  cases x with
  | cons a b=>cases a;exact .cons i _ (J5 b)
theorem well_ints (x:Well P h (.ref l) (ofPy (.list (xs.map PyData.int)))):∃ vs,h.get? l=some { cls:=.type "list", data:=.seq vs.toArray }∧IntsAre vs xs:=by
 rw [ofPy] at x
 cases x with
 | list e a=>exact ⟨_,e,J5 a⟩
section
variable {p q:Program} {w:World} {loose:List Str} {mean:ExcName→Option Value} {mg mb:Str→Option Value} {c:ClsRec} {wh:Wh}
noncomputable def UO {s:Shared} {l:Addr} {vs:List Value} {xs:List Int} {P:Addr} (hl:s.heap.get? l=some { cls:=.type "list", data:=.seq vs.toArray }) (hv:IntsAre vs xs) (hz:xs.length≤63) (hP:s.heap.get? P=some (tabObj #[])):Cf ⟨s.heap.hide P,p,w⟩:=
 ⟨s,[l,P],[.list (xs.map .int),.tab P],fun _ _ e=>Heap.of_hide e,rfl,List.nodup_cons.mpr ⟨(fun m=>by rw [List.mem_singleton.mp m,hP] at hl;cases hl),List.nodup_cons.mpr ⟨List.not_mem_nil,List.nodup_nil⟩⟩,fun n a e=>match n,e with
  | 0,e=>Option.some.inj e▸Heap.hide_self _ _,fun n o e=>match n,e with
  | 0,e=>⟨l,rfl,Option.some.inj e▸⟨vs.toArray,0,hl,FB hv,by rw [List.length_map];exact Nat.le_trans hz (by decide)⟩⟩
  | 1,e=>⟨P,rfl,Option.some.inj e▸⟨rfl,hP⟩⟩⟩
theorem law_go
  (T:Top q loose mean mg mb s₁.heap) (TE:TopE q loose mg s₁.heap) (S:SeenP wh mg s₁.heap) (ok:TextOk q loose c wh) (hP:Reads (Dx q c wh) (C7 q c) extra P) (hk:∀ (i:Nat) (r:Fn × Bool),P[i]?=some r→r.2=true→∃ d:FRec,(C7 q c)[i]?=some d∧d.name=AV++"."++"names")
  (hi:(Dx q c wh).lookup name=some (.fn i)) (hdot:KD name=true) (hd:d≤100) (hmg:mg name=some (.ref a)) (hg:s₁.gens=#[])
  (hl:s₁.heap.get? l=some { cls:=.type "list", data:=.seq vs.toArray }) (hv:IntsAre vs xs) (hz:xs.length≤63)
  (hr:∀ cls,cl.raises args cls=false) (hpost:cl.post args (.bool true) args=true)
  (plain:callW (P.map (·.1)) d i [.ref 0] [.list (xs.map .int),.tab wh.tP] (fun v σ=>v=.bool true∧∃ o,σ[1]?=some o∧(o=.tab wh.tP∨∃ ln col m,o=.row wh.tP ln col m)) (fun _ _=>False)) :
  codeAny (model p w) callerA (.call (.ref a) ⟨[.ref l],[]⟩) (GoodWG cl cw mean args s₁) s₁:=by
 refine Cu (TE c ok.mem) fun C N mN hC A=>?_
 cases (ok.name▸hC).symm.trans S.cls
 have lo:=UK (p:=p) (w:=w) T S A ok hP hk
 have g:=lo.g d
 cases hmg.symm.trans (g.fn name i hi (Et hdot))
 have R:RCall ((Tz p q w c wh s₁.heap mg mb mN).K (P.map (·.1)) d) [] callerA:=⟨rfl,by show 1+claimMargin+3*d<903;unfold claimMargin;exact an1 .lt (.a (.a .n1 (.n 300)) (.m 3 .v0)) (.n 903) (.w 3 (.l .v0 (.n 100) .e)) rfl hd,by show 4+12*d<9009;exact an1 .lt (.a (.n 4) (.m 12 .v0)) (.n 9009) (.w 12 (.l .v0 (.n 100) .e)) rfl hd,rfl⟩
 refine codeAny_mono (Px lo d name i hi callerA [] (UO hl hv hz S.tab) [.ref 0] [.ref l] _ _ R (fun _ m=>(nomatch m)) ⟨⟨l,rfl,rfl⟩,trivial⟩ plain) fun r s' y=>?_
 match r,y with
 | .ok (.ret v),y=>
  obtain ⟨c',V,st,r,rfl,o,ho,hrow⟩:=(y:PV _ _ _ _)
  cases r
  have eP:c'.φ[1]?=some wh.tP:=Bt st.pre rfl
  have hus:∃ us,c'.s.heap.get? wh.tP=some (tabObj us):=by
   refine AC (c'.sim.obj 1 o ho) fun a' ea ra=>?_
   cases eP.symm.trans ea
   rcases hrow with rfl | ⟨ln,col,m,rfl⟩
   ·exact ⟨_,ra.2⟩
   ·refine CM ra fun _ _ _ e=>?_;exact ⟨_,e⟩
  refine AQ hus fun us hus=>?_
  have kp:∀ b o,b≠wh.tP→s₁.heap.get? b=some o→c'.s.heap.get? b=some o:=fun b o hb e=>c'.sim.keep b o ((Heap.hide_ne _ hb).trans e)
  refine ⟨.inl ⟨.bool true,.bool true,[],rfl,hr,.bool true,hpost,fun _=>⟨List.nodup_nil,fun _ h=>nomatch h⟩⟩,⟨fun b o e=>?_,fun b o e=>?_⟩,st.only.1,.of_eq (st.only.2.trans hg)⟩
  ·by_cases hb:b=wh.tP
   ·subst hb
    rw [S.tab] at e;cases e
    exact .inr (.inl ⟨(S.code.tab S.tab).isCodeTable,rfl,#[],us,rfl,by rw [hus];simp⟩)
   ·exact .inl (kp b o hb e)
  ·by_cases hb:b=wh.tP
   ·subst hb;exact ⟨_,hus⟩
   ·exact ⟨o,kp b o hb e⟩
 | .error e,y=>exact (PX.no (fun _ _ f=>f) (y:PX _ _ _ _)).elim
end
end Mine.Internal
namespace Mine.Internal
open PySem PySem.Calls PySem.W PyProof.Rows
noncomputable def T0 (p q:Program) (Xt:Shared→Bool) (N:Nat) (w:World) (os:OsState):=match (boot_heap w.params).isNs mainGlobals with
 | true=>(F1 p w 11 ((boot_heap w.params).nsMap mainGlobals "__annotations__") N ⟨Gh w.params,11,{},Array.mk [],boot_drawn,boot_toks,os⟩ (topStub p)).bind fun s₁=>
   match staticsOk (PySem.W.Fast.tw5923862056798008813 p.main.body) (boot_heap w.params) s₁.abs.heap&&namesBound p s₁.abs.heap&&gensDone s₁.abs&&laidKept (boot_heap w.params) s₁.abs.heap with
   | true=>some (PySem.W.Fast.tw4187177175401517315 q [] (PySem.W.Fast.tw5923862056798008813 p.main.body) Xt true s₁.abs)
   | false=>none
 | false=>none
theorem Tv (e:opening p=plainProg p.main.scope.names) (hN:Nat.ble 600 N=true) (f:∀ s,fenceModules? p s=some s)
  (run:∀ w os,T0 p q Xt N w os=some (openGood q [])):LeftO p q [] Xt (fun _=>()) (fun _=>()) N:=fun w=>by
 obtain ⟨⟨h,gs,d,k,os⟩,e1,e2⟩:=Option.map_eq_some_iff.mp (boot_open e hN f w)
 obtain ⟨rfl,rfl,rfl,rfl⟩:h=boot_heap w.params∧gs=Array.mk []∧d=boot_drawn∧k=boot_toks:=by simpa using e2
 unfold openEnds
 rw [e1]
 have r:=run w os
 unfold T0 at r
 rw [← PySem.W.Fast.te5923862056798008813,← PySem.W.Fast.te4187177175401517315] at r
 show (topFrom treeTable p w N _).map _=_
 unfold topFrom
 cases h1:(boot_heap w.params).isNs mainGlobals with
 | false=>rw [h1] at r;cases r
 | true=>
  rw [h1] at r
  dsimp only at r ⊢
  obtain ⟨s₁,r1,r2⟩:=Option.bind_eq_some_iff.mp r
  have r1:=Go r1
  show ((topRun treeTable p w (boot_heap w.params).objs.size ((boot_heap w.params).nsMap mainGlobals (Str.ofString "__annotations__")) N ⟨boot_heap w.params,Array.mk [],boot_drawn,boot_toks,os⟩ (topStub p)).bind _).map _=_
  have r1':topRun treeTable p w (boot_heap w.params).objs.size ((boot_heap w.params).nsMap mainGlobals (Str.ofString "__annotations__")) N ⟨boot_heap w.params,Array.mk [],boot_drawn,boot_toks,os⟩ (topStub p)=some s₁.abs:=by
   rw [show (⟨boot_heap w.params,Array.mk [],boot_drawn,boot_toks,os⟩:Shared)=SharedT.abs ⟨Gh w.params,11,{},Array.mk [],boot_drawn,boot_toks,os⟩ from congrArg (fun h=>(⟨h,Array.mk [],boot_drawn,boot_toks,os⟩:Shared)) (Jy w.params)]
   exact r1
  rw [r1']
  cases h2:(staticsOk (importedModules p.main.body) (boot_heap w.params) s₁.abs.heap&&namesBound p s₁.abs.heap&&gensDone s₁.abs&&laidKept (boot_heap w.params) s₁.abs.heap) with
  | false=>rw [h2] at r2;cases r2
  | true=>
   rw [h2] at r2
   show ((match (staticsOk (importedModules p.main.body) (boot_heap w.params) s₁.abs.heap&&namesBound p s₁.abs.heap&&gensDone s₁.abs&&laidKept (boot_heap w.params) s₁.abs.heap) with | true=>some s₁.abs | false=>none):Option Shared).map _=_
   rw [h2]
   exact congrArg (fun x=>some (x,())) (Option.some.inj r2)
end Mine.Internal
namespace Mine.Internal
open PySem
set_option genSizeOf false
set_option genInjectivity false
noncomputable def def?:V→Bool
 | .undef=>false
 | _=>true
section
variable {C:CA} {ρ:List V} {σ:AB} {P:AN} {X:Ac} {i:Nat}
end
section
variable {σ:AB} {K:Bool→Prop} {x y:Int} {n:Nat}
theorem H4 {x y:Str} (hx:PyData.strOk x=true) (hy:PyData.strOk y=true) (q:K (x==y)):CmpK σ K .Eq (.str x) (.str y):=.eq (x:=.str x) (y:=.str y) rfl rfl hx hy q
theorem TS {a b:V} {x:PyData} (ha:toD σ 6 a=some x) (hb:toD σ 6 b=some x) (hc:x.canLay0=true) (q:K true):CmpK σ K .Eq a b:=.eq ha hb hc hc (by rw [PySem.SeqAt.eqv_refl x hc];exact q)
theorem K0 {a b:V} {x:PyData} (ha:toD σ 6 a=some x) (hb:toD σ 6 b=some x) (hc:x.canLay0=true) (q:K false):CmpK σ K .NotEq a b:=.ne ha hb hc hc (by rw [PySem.SeqAt.eqv_refl x hc];exact q)
variable {Q:AN}
theorem Co (h:-1000000000000000≤x) (h':x≤1000000000000000):small x=true:=Bool.and_eq_true_iff.mpr ⟨decide_eq_true (Int.le_trans (by decide) h),decide_eq_true (Int.lt_of_le_of_lt h' (by decide))⟩
theorem TI (h:small (OfNat.ofNat k)=true) (q:Q (.int (x*OfNat.ofNat k)) σ):BinK σ Q .mul (.int x) (.int (OfNat.ofNat k)):=.mul (.inr h) q
theorem Hb (h:(-1000000000000000≤x∧x≤1000000000000000)∨(-1000000000000000≤y∧y≤1000000000000000)) (q:Q (.int (x*y)) σ):BinK σ Q .mul (.int x) (.int y):=.mul (h.imp (fun h=>Co h.1 h.2) fun h=>Co h.1 h.2) q
theorem Pf (h:0<y) (q:Q (.int (x % y)) σ):BinK σ Q .mod (.int x) (.int y):=.mod (Int.ne_of_gt h) (Int.fmod_eq_emod_of_nonneg x (Int.le_of_lt h)▸q)
theorem SU (h:decide ((0:Int)<OfNat.ofNat k)=true) (q:Q (.int (x % OfNat.ofNat k)) σ):BinK σ Q .mod (.int x) (.int (OfNat.ofNat k)):=Pf (of_decide_eq_true h) q
theorem Th (h:-1000000000000000≤y∧y≤1000000000000000) (q:Q (.int (x*y)) σ):BinK σ Q .mul (.int x) (.int y):=Hb (.inr h) q
theorem Tf (q:Q (.int 1000000000) σ):BinK σ Q .pow (.int 10) (.int 9):=BinK.pow (n:=9) (by decide) (by decide) q
theorem R4 (h:0<y∧y≤1000000000000000) (q:Q (.int (x / y)) σ):BinK σ Q .floordiv (.int x) (.int y):=
 .div (Int.ne_of_gt h.1) (Co (Int.le_trans (by decide) (Int.le_of_lt h.1)) h.2) (Int.fdiv_eq_ediv_of_nonneg x (Int.le_of_lt h.1)▸q)
theorem Tc (h:(decide ((0:Int)<OfNat.ofNat k)&&decide ((OfNat.ofNat k:Int)≤1000000000000000))=true) (q:Q (.int (x / OfNat.ofNat k)) σ):BinK σ Q .floordiv (.int x) (.int (OfNat.ofNat k)):=
 have h:=Bool.and_eq_true_iff.mp h
 R4 ⟨of_decide_eq_true h.1,of_decide_eq_true h.2⟩ q
theorem L2 (h:0≤k) (h':k.toNat<m):Idx k m k.toNat:=.inl ⟨(Int.toNat_of_nonneg h).symm,h'⟩
theorem Av (e:σ[n]?=some (.list vs)) (h:0≤k) (h':vs[k.toNat]?=some v) (q:Q v σ):SubK σ Q (.ref n) (.int k):=.list e (L2 h (List.getElem?_eq_some_iff.mp h').1) h' q
theorem QR (e:σ[n]?=some (.list vs)) (h:decide (0≤k)=true) (h':vs[k.toNat]?=some v) (q:Q v σ):SubK σ Q (.ref n) (.int k):=Av e (of_decide_eq_true h) h' q
theorem T8 (q:Q (.int (max x y)) σ):PrimK σ Q .max [.int x,.int y]:=.max (by
 by_cases h:y > x
 ·rw [if_pos h];rw [Int.max_eq_right (Int.le_of_lt h)] at q;exact q
 ·rw [if_neg h];rw [Int.max_eq_left (Int.not_lt.mp h)] at q;exact q)
theorem Dz (e:σ[n]?=some (.list vs)) (q:B):isList σ (.ref n)∧B:=⟨⟨n,vs,rfl,e⟩,q⟩
theorem CI (e:σ[n]?=some (.list vs)) (hn:n≠0) (hz:vs.length<1000000) (q:Q .none (σ.set n (.list (vs++[v])))):AppK σ Q v (.ref n):=.mk e (Nat.lt_trans hz (by decide)) hn q
variable {A B:Prop}
theorem Jc (x:b=true→A) (y:b=false→B):brW A B b:=by
 cases b with
 | true=>exact x rfl
 | false=>exact y rfl
theorem AY [Decidable c] (a:c→A) (b:¬ c→B):brW A B (decide c):=Jc (fun h=>a (of_decide_eq_true h)) fun h=>b (of_decide_eq_false h)
theorem OD [Decidable c] (a:¬ c→A) (b:c→B):brW B A (decide c):=AY b a
theorem GO [Decidable c] (a:¬ c→A) (b:c→B):brW A B (!decide c):=by
 by_cases h:c
 ·rw [decide_eq_true h];exact b h
 ·rw [decide_eq_false h];exact a h
end
section
variable {σ:AB} {Q:AN} {K:Bool→Prop}
theorem VL (h:def? v=true) (q:p):dfK p v:=by
 cases v with
 | undef=>cases h
 | _=>exact q
end
theorem Dr (n:Nat) (I:List V→AB→Prop)
  (h:∀ R:List V→AB→Prop,(∀ ρ' σ',I ρ' σ'→R ρ' σ')→BL (l.take n) C ρ σ (TH R Q))
  (rest:∀ ρ' σ',I ρ' σ'→BL (l.drop n) C ρ' σ' Q):BL l C ρ σ Q:=by
 have key:∀ (n:Nat) (l:List Sx) (ρ:List V) (σ:AB),BL (l.take n) C ρ σ (TH (fun ρ' σ'=>BL (l.drop n) C ρ' σ' Q) Q)=BL l C ρ σ Q:=by
  intro n
  induction n with
  | zero=>intro l ρ σ;rfl
  | succ n ih=>
   intro l ρ σ
   cases l with
   | nil=>rfl
   | cons s ss=>
    refine congrArg (s C ρ σ) (funext fun fl=>funext fun ρ₁=>funext fun σ₁=>?_)
    cases fl <;> first | rfl | exact ih ss ρ₁ σ₁
 exact key n l ρ σ▸h _ rest
noncomputable def FO (xs:List Int) (k:Int):Int:=xs.getD k.toNat 0
end Mine.Internal
namespace Mine.Internal
open PySem
section
variable {turn:V→List V→AB→CU→Prop} {same:AB→Prop} {Q:CU}
theorem DA (I:Nat→List V→AB→Prop):∀ (items:List V) (k:Nat) (ρ:List V) (σ:AB),
  (∀ i v ρ σ (R:List V→AB→Prop),items[i]?=some v→I (k+i) ρ σ→(∀ ρ' σ',same σ'→I (k+i+1) ρ' σ'→R ρ' σ')→turn v ρ σ (Df R Q)) →
  (∀ ρ σ,I (k+items.length) ρ σ→Q .next ρ σ)→I k ρ σ→Eo turn same items ρ σ Q
 | [],k,ρ,σ,_,fin,h0=>fin ρ σ h0
 | v::vs,k,ρ,σ,step,fin,h0=>step 0 v ρ σ _ rfl h0 fun ρ' σ' s i=>⟨s,DA I vs (k+1) ρ' σ' (fun j v ρ σ K hv hI h1=>by
   have e:k+1+j=k+(j+1):=by rw [Nat.add_assoc,Nat.add_comm 1]
   rw [e] at hI h1
   exact step (j+1) v ρ σ K hv hI h1) (fun ρ σ h=>fin ρ σ (by rw [List.length_cons,Nat.add_comm vs.length,← Nat.add_assoc];exact h)) i⟩
theorem FX:∀ (n:Nat) (a:Int) (i:Nat) (v:V),(Hw a n)[i]?=some v→v=.int (a+i)∧i<n
 | n+1,a,0,v,h=>⟨by rw [← Option.some.inj h];exact congrArg V.int (Int.add_zero a).symm,Nat.succ_pos n⟩
 | n+1,a,i+1,v,h=>let ⟨h1,h2⟩:=FX n (a+1) i v h;⟨h1.trans (congrArg V.int (by exact Int.le_antisymm (ai3 .le (.a (.a .v0 .n1) .v1) (.a .v0 .v2) (.p .v2 (.a .v1 .n1) .e) rfl (Int.natCast_add _ _)) (ai3 .le (.a .v0 .v1) (.a (.a .v0 .n1) .v2) (.q .v1 (.a .v2 .n1) .e) rfl (Int.natCast_add _ _)))),Nat.succ_lt_succ h2⟩
theorem B8:∀ (n:Nat) (a:Int),(DP s a n).length=n
 | 0,_=>rfl
 | n+1,a=>congrArg (·+1) (B8 n _)
theorem J1:∀ (vs:List V) (a:Int) (i:Nat) (u:V),(Gf a vs)[i]?=some u→∃ v,vs[i]?=some v∧u=.tup [.int (a+i),v]
 | v::vs,a,0,u,h=>⟨v,rfl,by rw [← Option.some.inj h,show a+((0:Nat):Int)=a from Int.add_zero a]⟩
 | v::vs,a,i+1,u,h=>let ⟨w,h1,h2⟩:=J1 vs (a+1) i u h;⟨w,h1,h2.trans (by rw [show a+1+(i:Int)=a+((i+1:Nat):Int) by exact Int.le_antisymm (ai3 .le (.a (.a .v0 .n1) .v1) (.a .v0 .v2) (.p .v2 (.a .v1 .n1) .e) rfl (Int.natCast_add _ _)) (ai3 .le (.a .v0 .v1) (.a (.a .v0 .n1) .v2) (.q .v1 (.a .v2 .n1) .e) rfl (Int.natCast_add _ _))])⟩
theorem Hh:∀ (vs:List V) (a:Int),(Gf a vs).length=vs.length
 | [],_=>rfl
 | _::vs,_=>congrArg (·+1) (Hh vs _)
variable {ρ:List V} {σ:AB}
theorem Lp (hb:-1000000≤b):-(2 ^ 62)≤b:=Int.le_trans (by decide) hb
theorem Hd:∀ (n:Nat) (a:Int) (i:Nat) (v:V),(DP s a n)[i]?=some v→v=.int (a+s*i)∧i<n
 | n+1,a,0,v,h=>⟨(Option.some.inj h).symm.trans (by rw [Int.natCast_zero,Int.mul_zero,Int.add_zero]),Nat.zero_lt_succ _⟩
 | n+1,a,i+1,v,h=>let ⟨h1,h2⟩:=Hd n (a+s) i v h;⟨h1.trans (by rw [Int.natCast_succ,Int.mul_add,Int.mul_one,Int.add_assoc,Int.add_comm s]),Nat.succ_lt_succ h2⟩
theorem OS (I:Nat→List V→AB→Prop) (hb:-1000000≤b∧b≤1000000) (h0:I 0 ρ σ)
  (step:∀ (i:Nat) ρ σ (R:List V→AB→Prop),3*(i:Int)<b→I i ρ σ→(∀ ρ' σ',I (i+1) ρ' σ'→R ρ' σ')→turn (.int (3*i)) ρ σ (Df R Q))
  (fin:∀ ρ' σ',I ((b+2) / 3).toNat ρ' σ'→Q .next ρ' σ'):∃ items same,SrcK σ .range [.int 0,.int b,.int 3] items same∧Eo turn same items ρ σ Q:=
 ⟨_,_,.range3 (Lp hb.1) hb.2,DA I _ 0 ρ σ (fun i v ρ σ K hv hI h1=>by
  obtain ⟨rfl,hi⟩:=Hd _ _ _ _ hv
  rw [Nat.zero_add] at hI h1
  rw [Int.zero_add]
  exact step i ρ σ K (Int.lt_of_add_lt_add_right (b:=2) (Int.lt_of_lt_of_le (show 3*(i:Int)+2<3*((i:Int)+1) by rw [Int.mul_add];exact Int.add_lt_add_left (by decide) _) (Int.le_trans (Int.mul_le_mul_of_nonneg_left (Int.lt_toNat.mp hi) (by decide)) (Int.mul_ediv_self_le (by decide))))) hI fun ρ' σ' h=>h1 ρ' σ' trivial h) (fun ρ σ h=>fin ρ σ (by rw [B8,Nat.zero_add] at h;exact h)) h0⟩
theorem D6 (I:Nat→List V→AB→Prop) (hb:-1000000≤b∧b≤1000000) (h0:I 0 ρ σ)
  (step:∀ (i:Nat) ρ σ (R:List V→AB→Prop),(i:Int)<b→I i ρ σ→(∀ ρ' σ',I (i+1) ρ' σ'→R ρ' σ')→turn (.int i) ρ σ (Df R Q))
  (fin:∀ ρ σ,I b.toNat ρ σ→Q .next ρ σ):∃ items same,SrcK σ .range [.int b] items same∧Eo turn same items ρ σ Q:=
 ⟨_,_,.range (Lp hb.1) hb.2,DA I _ 0 ρ σ (fun i v ρ σ K hv hI h1=>by
  obtain ⟨rfl,hi⟩:=FX _ _ _ _ hv
  rw [Nat.zero_add] at hI h1
  rw [Int.zero_add]
  exact step i ρ σ K (Int.lt_toNat.mp hi) hI fun ρ' σ' h=>h1 ρ' σ' trivial h) (fun ρ σ h=>fin ρ σ (by rw [B8,Nat.zero_add] at h;exact h)) h0⟩
theorem Bn (I:Nat→List V→AB→Prop) (e:σ[n]?=some (.list vs)) (h0:I 0 ρ σ)
  (step:∀ (i:Nat) v ρ σ (R:List V→AB→Prop),vs[i]?=some v→I i ρ σ→(∀ ρ' σ',σ'[n]?=some (.list vs)→I (i+1) ρ' σ'→R ρ' σ')→turn v ρ σ (Df R Q))
  (fin:∀ ρ σ,I vs.length ρ σ→Q .next ρ σ):∃ items same,SrcK σ .plain [.ref n] items same∧Eo turn same items ρ σ Q:=
 ⟨_,_,.list e,DA I _ 0 ρ σ (fun i v ρ σ K hv hI h1=>by rw [Nat.zero_add] at hI h1;exact step i v ρ σ K hv hI h1) (fun ρ σ h=>fin ρ σ (by rw [Nat.zero_add] at h;exact h)) h0⟩
theorem Sc (I:Nat→List V→AB→Prop) (e:σ[n]?=some (.list vs)) (h0:I 0 ρ σ)
  (step:∀ (i:Nat) v ρ σ (R:List V→AB→Prop),vs[i]?=some v→I i ρ σ→(∀ ρ' σ',σ'[n]?=some (.list vs)→I (i+1) ρ' σ'→R ρ' σ')→turn (.tup [.int i,v]) ρ σ (Df R Q))
  (fin:∀ ρ σ,I vs.length ρ σ→Q .next ρ σ):∃ items same,SrcK σ .enum [.ref n] items same∧Eo turn same items ρ σ Q:=
 ⟨_,_,.enum e,DA I _ 0 ρ σ (fun i v ρ σ K hv hI h1=>by
  refine AC (J1 _ _ _ _ hv) fun u hu ze1=>?_;subst ze1
  rw [Nat.zero_add] at hI h1
  rw [Int.zero_add]
  exact step i u ρ σ K hu hI h1) (fun ρ σ h=>fin ρ σ (by rw [Hh,Nat.zero_add] at h;exact h)) h0⟩
end
section
variable {turn:V→AB→(Option V→AB→Prop)→Prop} {same:AB→Prop} {Q:List V→AB→Prop}
theorem Fc (I:Nat→List V→AB→Prop):∀ (items:List V) (k:Nat) (acc:List V) (σ:AB),
  (∀ i v acc σ (K:Option V→AB→Prop),items[i]?=some v→I (k+i) acc σ→(∀ r σ',same σ'→I (k+i+1) (acc++r.toList) σ'→K r σ')→turn v σ K) →
  (∀ acc σ,I (k+items.length) acc σ→Q acc σ)→I k acc σ→Ba turn same items acc σ Q
 | [],k,acc,σ,_,fin,h0=>fin acc σ h0
 | v::vs,k,acc,σ,step,fin,h0=>step 0 v acc σ _ rfl h0 fun r σ' s i=>⟨s,Fc I vs (k+1) _ σ' (fun j v acc σ K hv hI h1=>by
   have e:k+1+j=k+(j+1):=by rw [Nat.add_assoc,Nat.add_comm 1]
   rw [e] at hI h1
   exact step (j+1) v acc σ K hv hI h1) (fun acc σ h=>fin acc σ (by rw [List.length_cons,Nat.add_comm vs.length,← Nat.add_assoc];exact h)) i⟩
theorem D7 {α:Type} {σ:AB} {g:α→V} (f:α→Option V) (hs:same σ):∀ (l:List α) (acc:List V),(∀ x∈l,∀ K:Option V→AB→Prop,K (f x) σ→turn (g x) σ K)→Q (acc++l.filterMap f) σ→Ba turn same (l.map g) acc σ Q
 | [],acc,_,q=>by rw [List.filterMap_nil,List.append_nil] at q;exact q
 | v::vs,acc,h,q=>h v List.mem_cons_self _ ⟨hs,D7 f hs vs _ (fun u hu=>h u (List.mem_cons_of_mem _ hu)) (by
  rw [List.append_assoc]
  cases hv:f v with
  | none=>rw [List.filterMap_cons_none hv] at q;exact q
  | some x=>rw [List.filterMap_cons_some hv] at q;exact q)⟩
variable {σ:AB}
theorem JA {α:Type} {n:Nat} {l:List α} {g:α→V} (f:α→Option V) (e:σ[n]?=some (.list (l.map g))) (hz:l.length≤1000000) (h:∀ x∈l,∀ K:Option V→AB→Prop,K (f x) σ→turn (g x) σ K)
  (q:Q (l.filterMap f) σ):∃ items same,SrcK σ .plain [.ref n] items same∧items.length≤Ag∧Ba turn same items [] σ Q:=
 ⟨_,_,.list e,by rw [List.length_map];exact hz,D7 f e l [] h q⟩
theorem HG:∀ (n:Nat) (a:Nat),Hw a n=(List.range' a n).map fun k:Nat=>V.int k
 | 0,_=>rfl
 | n+1,a=>congrArg (V.int a::·) (HG n (a+1))
theorem Lh (f:Nat→Option V) (hb:-1000000≤b∧b≤1000000) (h:∀ k:Nat,(k:Int)<b→∀ K:Option V→AB→Prop,K (f k) σ→turn (.int k) σ K)
  (q:Q ((List.range b.toNat).filterMap f) σ):∃ items same,SrcK σ .range [.int b] items same∧items.length≤Ag∧Ba turn same items [] σ Q:=
 ⟨_,_,.range (Lp hb.1) hb.2,by rw [B8];exact Int.toNat_le.mpr hb.2,by
  rw [show Hw 0 b.toNat=(List.range b.toNat).map fun k:Nat=>V.int k by rw [List.range_eq_range'];exact HG _ 0]
  exact D7 f trivial _ [] (fun k hk=>h k (Int.lt_toNat.mp (List.mem_range.mp hk))) q⟩
end
theorem AF {σ τ:AB} {n:Nat} {o:O} (h:σ[n]?=some o):(σ++τ)[n]?=some o:=by
 rw [List.getElem?_append_left (List.getElem?_eq_some_iff.mp h).1];exact h
theorem Aa {σ σ':AB} (p:σ<+:σ') {n:Nat} {o:O} (h:σ[n]?=some o):σ'[n]?=some o:=let ⟨_,e⟩:=p;e▸AF h
theorem AH:σ<+:σ++τ:=List.prefix_append _ _
theorem AI:(σ++[o])[σ.length]?=some o:=List.getElem?_concat_length
theorem AG {σ:AB} {n m:Nat} {o x:O} (hn:n≠m) (h:σ[m]?=some o):(σ.set n x)[m]?=some o:=by
 rw [List.getElem?_set_ne hn];exact h
theorem AZ {σ:AB} {n:Nat} {o x:O} (h:σ[n]?=some o):(σ.set n x)[n]?=some x:=by
 rw [List.getElem?_set_self (List.getElem?_eq_some_iff.mp h).1]
theorem Gp {α:Type} {f:V→Option PyData} {g:α→V} {dat:α→PyData}:∀ l:List α,(∀ x∈l,f (g x)=some (dat x))→FJ f (l.map g)=some (l.map dat)
 | [],_=>rfl
 | r::rs,h=>by rw [List.map_cons,FJ,Gp rs fun x hx=>h x (List.mem_cons_of_mem _ hx),h r List.mem_cons_self];rfl
theorem CF {α:Type} {σ:AB} {n m:Nat} {l:List α} {g:α→V} {dat:α→PyData} (e:σ[n]?=some (.list (l.map g))) (h:∀ x∈l,toD σ m (g x)=some (dat x)):toD σ (m+1) (.ref n)=some (.list (l.map dat)):=by
 show PA (toD σ m) σ[n]?=_
 rw [e]
 show Option.map _ (FJ (toD σ m) (l.map g))=_
 rw [Gp l h];rfl
theorem EY {α:Type} {dat:α→PyData}:∀ l:List α,(∀ x∈l,(dat x).canLay0=true)→PyData.canLayAll0 (l.map dat)=true
 | [],_=>rfl
 | r::rs,h=>by rw [List.map_cons,PyData.canLayAll0,EY rs fun x hx=>h x (List.mem_cons_of_mem _ hx),h r List.mem_cons_self];rfl
theorem E6 {α:Type} {l:List α} {dat:α→PyData} (h:∀ x∈l,(dat x).canLay0=true):(PyData.list (l.map dat)).canLay0=true:=by
 rw [PyData.canLay0];exact EY l h
noncomputable def hab (b:Bool):V:=.str (if b then Str.ofString "low" else Str.ofString "left")
noncomputable def VH (b:Bool):PyData:=.str (if b then Str.ofString "low" else Str.ofString "left")
theorem GN:PyData.strOk (Str.ofString "low")=true:=by decide +kernel
theorem Ef:PyData.strOk (Str.ofString "left")=true:=by decide +kernel
theorem OW:(Str.ofString "left"==Str.ofString "low")=false:=by decide +kernel
theorem QB:(Str.ofString "low"==Str.ofString "left")=false:=by decide +kernel
theorem Kv:∀ {b:Bool},K b→CmpK σ K .Eq (hab b) (.str (Str.ofString "low"))
 | true,q=>H4 (x:=Str.ofString "low") GN GN (by rw [beq_self_eq_true];exact q)
 | false,q=>H4 (x:=Str.ofString "left") Ef GN (by rw [OW];exact q)
theorem Ln:∀ {b:Bool},K (!b)→CmpK σ K .Eq (hab b) (.str (Str.ofString "left"))
 | true,q=>H4 (x:=Str.ofString "low") GN Ef (by rw [QB];exact q)
 | false,q=>H4 (x:=Str.ofString "left") Ef Ef (by rw [beq_self_eq_true];exact q)
theorem Qq:∀ {b:Bool},(VH b).canLay0=true
 | true=>GN
 | false=>Ef
end Mine.Internal
namespace Mine.Internal
noncomputable def BD (size b:Int) (r:Int × Int):Int:=if r.1<b+size∧r.2 > b then r.2 else b
noncomputable def CR (size:Int) (rows:List (Int × Int)) (b:Int):Prop:=∀ r∈rows,¬ (r.1<b+size∧r.2 > b)
theorem C5:CR size (done++[r]) c↔CR size done c∧¬ (r.1<c+size∧r.2 > c):=
 ⟨fun h=>⟨fun x hx=>h x (List.mem_append_left _ hx),h r (List.mem_append_right _ List.mem_cons_self)⟩,fun h x hx=>(List.mem_append.mp hx).elim (h.1 x) fun hx=>List.mem_singleton.mp hx▸h.2⟩
theorem Q4 (rest:List (Int × Int)):∀ (done:List (Int × Int)) (b:Int),(done++rest).Pairwise (fun x y=>x.1≤y.1)→CR size done b→(∀ c,0≤c→c<b→¬ CR size done c)→0≤b →
  CR size (done++rest) (rest.foldl (BD size) b)∧0≤rest.foldl (BD size) b∧(∀ c,0≤c→c<rest.foldl (BD size) b→¬ CR size (done++rest) c):=by
 induction rest with
 | nil=>intro done b _ h1 h2 h3;rw [List.append_nil];exact ⟨h1,h3,h2⟩
 | cons r rest ih=>
  intro done b hp h1 h2 h3
  have hle:∀ x∈done,x.1≤r.1:=fun x hx=>(List.pairwise_append.mp hp).2.2 x hx r List.mem_cons_self
  rw [List.append_cons] at hp ⊢
  by_cases hc:r.1<b+size∧r.2 > b
  ·have:=ih (done++[r]) r.2 hp (C5.mpr ⟨fun x hx hn=>h1 x hx ⟨Int.lt_of_le_of_lt (hle x hx) hc.1,Int.lt_trans hc.2 hn.2⟩,fun hn=>Int.lt_irrefl _ hn.2⟩)
    (fun c hc0 hc1 hf=>(Int.lt_or_le c b).elim (fun hcb=>h2 c hc0 hcb (C5.mp hf).1) fun hcb=>(C5.mp hf).2 ⟨Int.lt_of_lt_of_le hc.1 (Int.add_le_add_right hcb size),hc1⟩) (Int.le_trans h3 (Int.le_of_lt hc.2))
   rw [List.foldl_cons,show BD size b r=r.2 from if_pos hc];exact this
  ·have:=ih (done++[r]) b hp (C5.mpr ⟨h1,hc⟩) (fun c hc0 hc1 hf=>h2 c hc0 hc1 (C5.mp hf).1) h3
   rw [List.foldl_cons,show BD size b r=b from if_neg hc];exact this
theorem SV (rest:List (Int × Int)):∀ b:Int,rest.foldl (BD size) b=b∨∃ r∈rest,rest.foldl (BD size) b=r.2:=by
 induction rest with
 | nil=>exact fun b=>.inl rfl
 | cons r rest ih=>
  intro b
  refine Or.elim (ih (BD size b r)) (fun h=>?_) fun h=>.inr (h.elim fun x hx=>⟨x,List.mem_cons_of_mem _ hx.1,hx.2⟩)
  by_cases hc:r.1<b+size∧r.2 > b
  ·exact .inr ⟨r,List.mem_cons_self,h.trans (if_pos hc)⟩
  ·exact .inl (h.trans (if_neg hc))
structure IsGap (size room:Int) (rows:List (Int × Int)) (g:Option Int):Prop where
 some:∀ b,g=some b→0≤b∧b+size≤room∧CR size rows b∧(∀ c,0≤c→CR size rows c→b≤c)∧(b=0∨∃ r∈rows,b=r.2)
 none:g=none→∀ c,0≤c→c+size≤room→¬ CR size rows c
theorem UM {size room:Int} {rows ts:List (Int × Int)} (hp:ts.Perm rows) (hs:ts.Pairwise (fun x y=>x.1≤y.1)) {g:Int} (hg:g=ts.foldl (BD size) 0) :
  IsGap size room rows (if g+size > room then none else some g):=by
 subst hg
 refine Ay (Q4 (size:=size) ts [] 0 hs (fun _ h=>nomatch h) (fun c h h'=>absurd h' (Int.not_lt.mpr h)) (Int.le_refl 0)) fun h1 h2 h3=>?_
 have hf:∀ c,CR size ts c↔CR size rows c:=fun c=>⟨fun h x hx=>h x (hp.mem_iff.mpr hx),fun h x hx=>h x (hp.mem_iff.mp hx)⟩
 by_cases hg:ts.foldl (BD size) 0+size > room
 ·rw [if_pos hg]
  exact ⟨nofun,fun _ c h h' hn=>h3 c h (Int.lt_of_add_lt_add_right (Int.lt_of_le_of_lt h' hg)) ((hf c).mpr hn)⟩
 ·rw [if_neg hg]
  refine ⟨fun b hb=>?_,nofun⟩
  rw [← Option.some.inj hb]
  exact ⟨h2,Int.not_lt.mp hg,(hf _).mp h1,fun c hc hfc=>Int.not_lt.mp fun hlt=>h3 c hc hlt ((hf c).mpr hfc),(SV ts 0).imp id fun h=>h.elim fun r h=>⟨r,hp.mem_iff.mp h.1,h.2⟩⟩
structure Bx where
 p:Int
 s:Int
 pl:Int
 sl:Int
noncomputable def Ar (a b p s:Int) (o:Bx):Prop:=p+a≤o.p∨o.p+o.pl≤p∨s+b≤o.s∨o.s+o.sl≤s
structure Gd (O:List Bx) (P S a b p s:Int):Prop where
 p0:0≤p
 s0:0≤s
 p1:p+a≤P
 s1:s+b≤S
 clear:∀ o∈O,Ar a b p s o
structure IsMin (G:Int→Int→Prop) (p s:Int):Prop where
 good:G p s
 least:∀ p' s',G p' s'→p<p'∨(p=p'∧s≤s')
noncomputable def Ck (G:Int→Int→Prop):Option (Int × Int)→Prop
 | none=>∀ p s,¬ G p s
 | some (p,s)=>IsMin G p s
theorem Ig (hx:Ck G x) (hy:Ck G y):x=y:=by
 cases x with
 | none=>
  cases y with
  | none=>rfl
  | some y=>exact absurd (IsMin.good hy) (hx y.1 y.2)
 | some x=>
  cases y with
  | none=>exact absurd (IsMin.good hx) (hy x.1 x.2)
  | some y=>
   have h:=F5 Int.lt_asymm Int.lt_irrefl (IsMin.least hx _ _ (IsMin.good hy)) (IsMin.least hy _ _ (IsMin.good hx))
   exact congrArg some (Prod.ext h.1 (Int.le_antisymm h.2.1 h.2.2))
theorem N6 {O:List Bx} (g:Gd O P S a b p s):∃ e,e≤p∧(e=0∨(0<e∧∃ o∈O,e=o.p+o.pl))∧Gd O P S a b e s:=by
 have key:∀ (L:List Bx),∃ e,0≤e∧e≤p∧(e=0∨(0<e∧∃ o∈L,e=o.p+o.pl))∧∀ o∈L,o.p+o.pl≤p→o.p+o.pl≤e:=by
  intro L
  induction L with
  | nil=>exact ⟨0,Int.le_refl 0,g.p0,.inl rfl,fun _ h=>nomatch h⟩
  | cons x L ih=>
   refine BH ih fun e h0 h1 h2 h3=>?_
   by_cases hx:x.p+x.pl≤p∧e<x.p+x.pl
   ·exact ⟨x.p+x.pl,Int.le_trans h0 (Int.le_of_lt hx.2),hx.1,.inr ⟨Int.lt_of_le_of_lt h0 hx.2,x,List.mem_cons_self,rfl⟩,List.forall_mem_cons.mpr ⟨fun _=>Int.le_refl _,fun o ho hp=>Int.le_trans (h3 o ho hp) (Int.le_of_lt hx.2)⟩⟩
   ·exact ⟨e,h0,h1,h2.imp id fun h=>⟨h.1,h.2.elim fun o h=>⟨o,List.mem_cons_of_mem _ h.1,h.2⟩⟩,List.forall_mem_cons.mpr ⟨fun hp=>Int.not_lt.mp fun h=>hx ⟨hp,h⟩,h3⟩⟩
 refine BH (key O) fun e h0 h1 h2 h3=>?_
 have a1:=Int.add_le_add_right h1 a
 exact ⟨e,h1,h2,h0,g.s0,Int.le_trans a1 g.p1,g.s1,fun o ho=>(g.clear o ho).imp (Int.le_trans a1) fun h=>h.imp (h3 o ho) id⟩
theorem Ha:Ar a b p s o↔(o.p<p+a→p<o.p+o.pl→¬ (o.s<s+b∧o.s+o.sl > s)):=
 ⟨fun h h1 h2 h3=>Gy h (fun h=>Int.not_lt.mpr h h1) (fun h=>Int.not_lt.mpr h h2) (fun h=>Int.not_lt.mpr h h3.1) (fun h=>Int.not_lt.mpr h h3.2),
  fun h=>(Int.lt_or_le o.p (p+a)).elim (fun h1=>(Int.lt_or_le p (o.p+o.pl)).elim (fun h2=>(Int.lt_or_le o.s (s+b)).elim (fun h3=>.inr (.inr (.inr (Int.not_lt.mp fun h4=>h h1 h2 ⟨h3,h4⟩)))) fun h=>.inr (.inr (.inl h))) fun h=>.inr (.inl h)) .inl⟩
noncomputable def Kl (a p:Int) (O:List Bx):List Bx:=O.filter fun o=>decide (o.p<p+a)&&decide (p<o.p+o.pl)
noncomputable def CB (O:List Bx):List (Int × Int):=O.map fun o=>(o.s,o.s+o.sl)
theorem FS {O:List Bx}:CR b (CB (Kl a p O)) s↔∀ o∈O,Ar a b p s o:=
 ⟨fun h o ho=>Ha.mpr fun h1 h2=>h (o.s,o.s+o.sl) (List.mem_map.mpr ⟨o,List.mem_filter.mpr ⟨ho,Bool.and_eq_true_iff.mpr ⟨decide_eq_true h1,decide_eq_true h2⟩⟩,rfl⟩),
  fun h r hr=>AC (List.mem_map.mp hr) fun o ho e=>by
   have hb:=Bool.and_eq_true_iff.mp (List.mem_filter.mp ho).2
   rw [← e];exact Ha.mp (h o (List.mem_filter.mp ho).1) (of_decide_eq_true hb.1) (of_decide_eq_true hb.2)⟩
inductive Search (O:List Bx) (P S a b:Int):List Int→Option (Int × Int)→Prop
 | nil:Search O P S a b [] none
 | hit {p s:Int} {ms:List Int}:IsGap b S (CB (Kl a p O)) (some s)→p+a≤P→Search O P S a b (p::ms) (some (p,s))
 | miss {p:Int} {ms:List Int} {g:Option Int} {r:Option (Int × Int)}:IsGap b S (CB (Kl a p O)) g→(g=none∨¬ p+a≤P)→Search O P S a b ms r→Search O P S a b (p::ms) r
noncomputable def UE (O:List Bx) (P S a b:Int) (ms:List Int):Option (Int × Int)→Prop
 | none=>∀ e∈ms,∀ s',¬ Gd O P S a b e s'
 | some (p,s)=>p∈ms∧Gd O P S a b p s∧(s=0∨∃ o∈O,s=o.s+o.sl)∧∀ e∈ms,∀ s',Gd O P S a b e s'→p<e∨(p=e∧s≤s')
theorem Hx {O:List Bx} (h:Search O P S a b ms r) (hs:ms.Pairwise (·<·)) (h0:∀ m∈ms,0≤m):UE O P S a b ms r:=by
 induction h with
 | nil=>exact fun _ h=>nomatch h
 | @hit p s ms g hp=>
  refine Eg (g.some s rfl) fun g0 g1 g2 g3 g4=>?_
  exact ⟨List.mem_cons_self,⟨h0 p List.mem_cons_self,g0,hp,g1,FS.mp g2⟩,g4.imp id fun h=>AC h fun r hr h=>AC (List.mem_map.mp hr) fun o ho e=>⟨o,(List.mem_filter.mp ho).1,h.trans (congrArg Prod.snd e).symm⟩,
   List.forall_mem_cons.mpr ⟨fun s' gd=>.inr ⟨rfl,g3 s' gd.s0 (FS.mpr gd.clear)⟩,fun e he s' _=>.inl ((List.pairwise_cons.mp hs).1 e he)⟩⟩
 | @miss p ms g r hg hn _ ih=>
  have hno:∀ s',¬ Gd O P S a b p s':=fun s' gd=>hn.elim (fun hn=>hg.none hn s' gd.s0 gd.s1 (FS.mpr gd.clear)) fun hn=>hn gd.p1
  have ih:=ih (List.pairwise_cons.mp hs).2 fun m hm=>h0 m (List.mem_cons_of_mem _ hm)
  cases r with
  | none=>exact List.forall_mem_cons.mpr ⟨hno,ih⟩
  | some x=>exact ⟨List.mem_cons_of_mem _ ih.1,ih.2.1,ih.2.2.1,List.forall_mem_cons.mpr ⟨fun s' gd=>absurd gd (hno s'),ih.2.2.2⟩⟩
noncomputable def DD (O:List Bx) (a P:Int):List Int:=0::(O.map fun o=>o.p+o.pl).filter fun e=>decide (0<e)&&decide (e≤P - a)
noncomputable def Dv (O:List Bx):Option (Int × Int)→Prop
 | none=>True
 | some (p,s)=>(p=0∨∃ o∈O,p=o.p+o.pl)∧(s=0∨∃ o∈O,s=o.s+o.sl)
theorem CW {O:List Bx} (h:Search O P S a b ms r) (hs:ms.Pairwise (·<·)) (hm:∀ x,x∈ms↔x∈DD O a P):Ck (Gd O P S a b) r∧Dv O r:=by
 have hmem:∀ x,x∈DD O a P↔x=0∨(0<x∧x≤P - a∧∃ o∈O,x=o.p+o.pl):=by
  exact fun x=>List.mem_cons.trans (or_congr Iff.rfl ⟨fun h=>by
   have a:=List.mem_filter.mp h
   have b:=Bool.and_eq_true_iff.mp a.2
   exact (List.mem_map.mp a.1).elim fun o ho=>⟨of_decide_eq_true b.1,of_decide_eq_true b.2,o,ho.1,ho.2.symm⟩,fun h=>
   List.mem_filter.mpr ⟨List.mem_map.mpr (h.2.2.elim fun o ho=>⟨o,ho.1,ho.2.symm⟩),Bool.and_eq_true_iff.mpr ⟨decide_eq_true h.1,decide_eq_true h.2.1⟩⟩⟩)
 have h0:∀ m∈ms,0≤m:=fun m hm'=>((hmem m).mp ((hm m).mp hm')).elim (fun h=>Int.le_of_eq h.symm) fun h=>Int.le_of_lt h.1
 have h1:=Hx h hs h0
 have hd:∀ p s,Gd O P S a b p s→∃ e∈ms,e≤p∧Gd O P S a b e s:=fun p s g=>Ab (N6 g) fun e e1 e2 e3=>
  ⟨e,(hm e).mpr ((hmem e).mpr (e2.imp id fun h=>⟨h.1,Int.le_sub_right_of_add_le e3.p1,h.2⟩)),e1,e3⟩
 cases r with
 | none=>exact ⟨fun p s g=>Ab (hd p s g) fun e he _ ge=>h1 e he s ge,trivial⟩
 | some r=>
  refine ⟨⟨h1.2.1,fun p' s' g=>Ab (hd p' s' g) fun e he hle ge=>?_⟩,((hmem _).mp ((hm _).mp h1.1)).imp id fun h=>h.2.2,h1.2.2.1⟩
  have:=h1.2.2.2 e he s' ge
  exact (Int.lt_or_eq_of_le hle).elim (fun h=>.inl (this.elim (fun z=>Int.lt_trans z h) fun z=>z.1.symm▸h)) fun h=>h▸this
noncomputable def Bx.by (o:Bx) (m n:Int):Bx:=⟨o.p*m,o.s*n,o.pl*m,o.sl*n⟩
theorem Cn {x y m:Int} (hm:0<m):x*m≤y*m↔x≤y:=⟨fun h=>Int.le_of_mul_le_mul_right h hm,fun h=>Int.mul_le_mul_of_nonneg_right h (Int.le_of_lt hm)⟩
theorem KG {a b p s m n:Int} (hm:0<m) (hn:0<n):Ar (a*m) (b*n) (p*m) (s*n) (o.by m n)↔Ar a b p s o:=by
 unfold Ar Bx.by
 dsimp only
 rw [← Int.add_mul,← Int.add_mul,← Int.add_mul,← Int.add_mul,Cn hm,Cn hm,Cn hn,Cn hn]
theorem Ly {O:List Bx} {P S a b p s m n:Int} (hm:0<m) (hn:0<n):Gd (O.map (·.by m n)) (P*m) (S*n) (a*m) (b*n) (p*m) (s*n)↔Gd O P S a b p s:=by
 have z:∀ {x k:Int},0<k→(0≤x*k↔0≤x):=fun {x k} hk=>by have:=Cn (x:=0) (y:=x) hk;rwa [Int.zero_mul] at this
 constructor
 ·intro g
  refine ⟨(z hm).mp g.p0,(z hn).mp g.s0,(Cn hm).mp (by rw [Int.add_mul];exact g.p1),(Cn hn).mp (by rw [Int.add_mul];exact g.s1),fun o ho=>(KG hm hn).mp (g.clear _ (List.mem_map.mpr ⟨o,ho,rfl⟩))⟩
 ·intro g
  refine ⟨(z hm).mpr g.p0,(z hn).mpr g.s0,by rw [← Int.add_mul];exact (Cn hm).mpr g.p1,by rw [← Int.add_mul];exact (Cn hn).mpr g.s1,fun o ho=>?_⟩
  refine AC (List.mem_map.mp ho) fun o ho' ze1=>?_;subst ze1
  exact (KG hm hn).mpr (g.clear o ho')
noncomputable def byO (m n:Int):Option (Int × Int)→Option (Int × Int)
 | none=>none
 | some (p,s)=>some (p*m,s*n)
theorem Ob {O:List Bx} {m n p:Int} {f:Bx→Int} {k:Int} (hf:∀ o:Bx,f (o.by m n)=f o*k) (h:p=0∨∃ o∈O.map (·.by m n),p=f o):∃ p',p=p'*k:=
 h.elim (fun h=>⟨0,h.trans (Int.zero_mul _).symm⟩) fun h=>AC h fun o ho h=>AC (List.mem_map.mp ho) fun o' _ e=>⟨f o',h.trans (e▸hf o')⟩
theorem J0 {O:List Bx} {P S a b m n:Int} (hm:0<m) (hn:0<n) (h:Ck (Gd (O.map (·.by m n)) (P*m) (S*n) (a*m) (b*n)) r) (he:Dv (O.map (·.by m n)) r) (hd:Ck (Gd O P S a b) d):r=byO m n d:=by
 have key:∃ r',r=byO m n r':=by
  cases r with
  | none=>exact ⟨none,rfl⟩
  | some r=>exact (Ob (f:=fun o=>o.p+o.pl) (fun o=>(Int.add_mul _ _ _).symm) he.1).elim fun p hp=>(Ob (f:=fun o=>o.s+o.sl) (fun o=>(Int.add_mul _ _ _).symm) he.2).elim fun s hs=>⟨some (p,s),congrArg some (Prod.ext hp hs)⟩
 refine AQ key fun r' ze1=>?_;subst ze1
 refine congrArg (byO m n) (Ig ?_ hd)
 cases r' with
 | none=>exact fun p s g=>h _ _ ((Ly hm hn).mpr g)
 | some r=>exact ⟨(Ly hm hn).mp (IsMin.good h),fun p' s' g=>(IsMin.least h _ _ ((Ly hm hn).mpr g)).imp (fun h=>Int.lt_of_mul_lt_mul_right h (Int.le_of_lt hm)) fun h=>⟨Int.eq_of_mul_eq_mul_right (Int.ne_of_gt hm) h.1,(Cn hn).mp h.2⟩⟩
end Mine.Internal
namespace Mine.Internal
noncomputable def Gs (x y:Int × Int):Prop:=x.1<y.1∨(x.1=y.1∧x.2≤y.2)
theorem MK (h:¬ Gs x y):Gs y x:=by unfold Gs at *;exact Classical.or_iff_not_imp_left.mpr fun z0=>⟨Int.le_antisymm (ai2 .le .v0 .v1 (.o .v1 .v0 .e) rfl (not_or.mp h).1) (ai2 .le .v0 .v1 (.o .v1 .v0 .e) rfl z0),Or.elim (Classical.not_and_iff_not_or_not.mp (not_or.mp h).2) (fun z1=>Or.elim (Int.lt_or_gt_of_ne z1) (fun z2=>(aj2 (.t .v0 .v1 (.o .v0 .v1 .e)) rfl z2 (not_or.mp h).1).elim) (fun z2=>(aj2 (.t .v0 .v1 (.o .v0 .v1 .e)) rfl z2 z0).elim)) (fun z1=>ai2 .le .v0 .v1 (.m .v1 .v0 .e) rfl z1)⟩
noncomputable def Bh (G:Int→Int→Prop) (L:List (Int × Int)) (d:Option (Int × Int)):Prop:=Ck (fun p s=>G p s∧(p,s)∈L) d
theorem Jw:Bh G [] none:=fun _ _ h=>by cases h.2
theorem JB (h:Bh G L none) (hy:G y.1 y.2):Bh G (L++[y]) (some y):=by
 refine ⟨⟨hy,by simp⟩,fun p s g=>?_⟩
 refine Or.elim (List.mem_append.mp g.2) (fun m=>?_) (fun m=>?_)
 ·exact absurd ⟨g.1,m⟩ (h p s)
 ·have:=List.mem_singleton.mp m;subst this;exact .inr ⟨rfl,Int.le_refl _⟩
theorem I8 (h:Bh G L d) (hy:¬ G y.1 y.2):Bh G (L++[y]) d:=by
 have e:∀ p s,(G p s∧(p,s)∈L++[y])→G p s∧(p,s)∈L:=fun p s g=>by
  refine Or.elim (List.mem_append.mp g.2) (fun m=>?_) (fun m=>?_)
  ·exact ⟨g.1,m⟩
  ·have:=List.mem_singleton.mp m;subst this;exact absurd g.1 hy
 match d,h with
 | none,h=>exact fun p s g=>h p s (e p s g)
 | some (p,s),h=>exact ⟨⟨h.good.1,by simp [h.good.2]⟩,fun p' s' g=>h.least p' s' (e p' s' g)⟩
theorem JE (h:Bh G L (some x)) (hy:Gs x y):Bh G (L++[y]) (some x):=by
 refine ⟨⟨h.good.1,by simp [h.good.2]⟩,fun p s g=>?_⟩
 refine Or.elim (List.mem_append.mp g.2) (fun m=>?_) (fun m=>?_)
 ·exact h.least p s ⟨g.1,m⟩
 ·have:=List.mem_singleton.mp m;subst this;exact hy
theorem IJ (h:Bh G L (some x)) (hg:G y.1 y.2) (hy:Gs y x):Bh G (L++[y]) (some y):=by
 refine ⟨⟨hg,by simp⟩,fun p s g=>?_⟩
 refine Or.elim (List.mem_append.mp g.2) (fun m=>?_) (fun m=>?_)
 ·have:=h.least p s ⟨g.1,m⟩
  unfold Gs at hy;exact Classical.or_iff_not_imp_left.mpr fun z0=>⟨Or.elim this (fun z1=>Or.elim hy (fun z2=>Int.le_antisymm (ai3 .le .v0 .v1 (.t .v0 .v2 (.t .v2 .v1 .e)) rfl z2 z1) (ai2 .le .v0 .v1 (.o .v1 .v0 .e) rfl z0)) (fun z2=>Int.le_antisymm (ai3 .le .v0 .v1 (.q .v0 .v2 (.t .v2 .v1 .e)) rfl z2.1 z1) (ai2 .le .v0 .v1 (.o .v1 .v0 .e) rfl z0))) (fun z1=>Or.elim hy (fun z2=>Int.le_antisymm (ai3 .le .v0 .v1 (.t .v0 .v2 (.q .v2 .v1 .e)) rfl z2 z1.1) (ai2 .le .v0 .v1 (.o .v1 .v0 .e) rfl z0)) (fun z2=>Int.le_antisymm (ai3 .le .v0 .v1 (.q .v0 .v2 (.q .v2 .v1 .e)) rfl z2.1 z1.1) (ai2 .le .v0 .v1 (.o .v1 .v0 .e) rfl z0))),Or.elim this (fun z1=>Or.elim hy (fun z2=>(aj3 (.t .v0 .v1 (.o .v0 .v2 (.t .v1 .v2 .e))) rfl z2 z0 z1).elim) (fun z2=>(aj3 (.q .v0 .v1 (.o .v0 .v2 (.t .v1 .v2 .e))) rfl z2.1 z0 z1).elim)) (fun z1=>Or.elim hy (fun z2=>(aj3 (.t .v0 .v1 (.o .v0 .v2 (.q .v1 .v2 .e))) rfl z2 z0 z1.1).elim) (fun z2=>ai3 .le .v0 .v1 (.l .v0 .v2 (.l .v2 .v1 .e)) rfl z2.2 z1.2))⟩
 ·have:=List.mem_singleton.mp m;subst this;exact .inr ⟨rfl,Int.le_refl _⟩
noncomputable def N7 (S P:Int):List (Int × Int):=(List.range (S*P).toNat).map fun (k:Nat)=>((k:Int) / S,(k:Int) % S)
theorem M0 (h0:0≤p) (h1:p<P) (h2:0≤s) (h3:s<S):(p,s)∈N7 S P:=by
 have hn:0≤p*S:=Int.mul_nonneg h0 (by exact ai2 .le .n0 .v0 (.t .v1 .v0 (.l .n0 .v1 .e)) rfl h3 h2)
 have hle:(p+1)*S≤P*S:=Int.mul_le_mul_of_nonneg_right (by exact ai2 .le (.a .v0 .n1) .v1 (.t .v0 .v1 .e) rfl h1) (by exact ai2 .le .n0 .v0 (.t .v1 .v0 (.l .n0 .v1 .e)) rfl h3 h2)
 rw [Int.add_mul,Int.mul_comm P S] at hle
 have hq:p*S+s<S*P:=Int.lt_of_lt_of_le (Int.add_lt_add_left (by rw [Int.one_mul];exact h3) _) hle
 have hp:=Int.lt_of_le_of_lt (Int.add_nonneg hn h2) hq
 refine List.mem_map.mpr ⟨(p*S+s).toNat,List.mem_range.mpr ((Int.toNat_lt_toNat hp).mpr hq),?_⟩
 have e:(((p*S+s).toNat:Nat):Int)=s+p*S:=by exact Int.le_antisymm (ai3 .le .v0 (.a .v1 .v2) (.q .v0 (.a .v2 .v1) .e) rfl (Int.toNat_of_nonneg (ai2 .le .n0 (.a .v0 .v1) (.l .n0 .v1 (.l .n0 .v0 .e)) rfl h2 hn))) (ai3 .le (.a .v0 .v1) .v2 (.p .v2 (.a .v1 .v0) .e) rfl (Int.toNat_of_nonneg (ai2 .le .n0 (.a .v0 .v1) (.l .n0 .v1 (.l .n0 .v0 .e)) rfl h2 hn)))
 rw [e,Int.add_mul_ediv_right _ _ (by exact fun z0=>aj2 (.q .v0 .n0 (.t .v1 .v0 (.l .n0 .v1 .e))) rfl z0 h3 h2),Int.add_mul_emod_self_right,Int.ediv_eq_zero_of_lt h2 h3,Int.emod_eq_of_lt h2 h3,Int.zero_add]
theorem KL {O:List Bx} (ha:0<a) (hb:0<b):∃ d,Ck (Gd O P S a b) d:=by
 have hdec:∀ p s,Gd O P S a b p s∨¬ Gd O P S a b p s:=fun _ _=>Classical.em _
 have key:∀ L:List (Int × Int),∃ d,Bh (Gd O P S a b) L d:=by
  intro L
  have:∀ (L' L:List (Int × Int)),(∃ d,Bh (Gd O P S a b) L d)→∃ d,Bh (Gd O P S a b) (L++L') d:=by
   intro L'
   induction L' with
   | nil=>intro L h;simpa using h
   | cons y L' ih=>
    intro L ⟨d,h⟩
    rw [show L++y::L'=(L++[y])++L' by simp]
    refine ih _ ?_
    refine Or.elim (hdec y.1 y.2) (fun hy=>?_) (fun hy=>?_)
    ·match d,h with
     | none,h=>exact ⟨_,JB h hy⟩
     | some x,h=>
      by_cases hx:Gs x y
      ·exact ⟨_,JE h hx⟩
      ·exact ⟨_,IJ h hy (MK hx)⟩
    ·exact ⟨_,I8 h hy⟩
  simpa using this L [] ⟨none,Jw⟩
 refine AQ (key (N7 S P)) fun d h=>?_
 refine ⟨d,?_⟩
 have hm:∀ p s,Gd O P S a b p s→(p,s)∈N7 S P:=fun p s g=>M0 g.p0 (by have:=g.p1;exact ai3 .lt .v0 .v1 (.l (.a .v0 .v2) .v1 (.t .n0 .v2 .e)) rfl this ha) g.s0 (by have:=g.s1;exact ai3 .lt .v0 .v1 (.l (.a .v0 .v2) .v1 (.t .n0 .v2 .e)) rfl this hb)
 match d,h with
 | none,h=>exact fun p s g=>h p s ⟨g,hm p s g⟩
 | some (p,s),h=>exact ⟨h.good.1,fun p' s' g=>h.least p' s' ⟨g,hm p' s' g⟩⟩
end Mine.Internal
namespace Mine.Internal
open PySem
noncomputable def Os:Option Int→V
 | none=>.none
 | some b=>.int b
noncomputable def NI (r:Int × Int):V:=.tup [.int r.1,.int r.2]
noncomputable def Dk:Option (Int × Int)→V
 | none=>.none
 | some (p,s)=>.tup [.int p,.int s]
noncomputable def Rw:Option (Int × Int)→V
 | none=>.none
 | some (p,s)=>.tup [.int s,.int p]
structure Ot where
 l:Int
 u:Int
 w:Int
 h:Int
noncomputable def Ot.v (o:Ot):V:=.tup [.int o.l,.int o.u,.int o.w,.int o.h]
noncomputable def Ot.dat (o:Ot):PyData:=.tuple [.int o.l,.int o.u,.int o.w,.int o.h]
noncomputable def Ot.low (o:Ot):Bx:=⟨o.u,o.l,o.h,o.w⟩
noncomputable def Ot.lef (o:Ot):Bx:=⟨o.l,o.u,o.w,o.h⟩
noncomputable def Du:Option (Int × Int)→Option (Int × Int)
 | none=>none
 | some (p,s)=>some (s,p)
theorem Fp:∀ r,Du (Du r)=r
 | none=>rfl
 | some _=>rfl
theorem O9:∀ {r},Rw r=Dk (Du r)
 | none=>rfl
 | some _=>rfl
noncomputable def FG (os:List Ot) (W H w h:Int):Bool→Option (Int × Int)→Prop
 | true,r=>Ck (Gd (os.map Ot.low) H W h w) r∧Dv (os.map Ot.low) r
 | false,r=>Ck (Gd (os.map Ot.lef) W H w h) (Du r)∧Dv (os.map Ot.lef) (Du r)
theorem List.mem_map_get {α β:Type} {f:α→β} {l:List α} {i:Nat} {y:β} (h:(l.map f)[i]?=some y):∃ x,l[i]?=some x∧y=f x:=by
 rw [List.getElem?_map] at h
 refine AC (Option.map_eq_some_iff.mp h) fun x hx e=>?_
 exact ⟨x,hx,e.symm⟩
theorem F3 {α:Type} {l:List α} {i:Nat} {x:α} (h:l[i]?=some x):l.drop i=x::l.drop (i+1):=by
 refine AQ (List.getElem?_eq_some_iff.mp h) fun hi ze1=>?_;subst ze1
 exact List.drop_eq_getElem_cons hi
theorem Bw {α β:Type} {f:α→Bool} {g:α→β}:∀ l:List α,l.filterMap (fun x=>if f x=true then some (g x) else none)=(l.filter f).map g
 | []=>rfl
 | x::l=>by
  cases h:f x with
  | true=>rw [List.filter_cons_of_pos h,List.filterMap_cons_some (by rw [h];rfl),Bw l];rfl
  | false=>rw [List.filter_cons_of_neg (by rw [h];exact Bool.false_ne_true),List.filterMap_cons_none (by rw [h];rfl),Bw l]
theorem BK {α β:Type} {f:α→β}:∀ l:List α,l.filterMap (fun x=>some (f x))=l.map f
 | []=>rfl
 | x::l=>congrArg (f x::·) (BK l)
section
variable {turn:V→AB→(Option V→AB→Prop)→Prop} {Q:List V→AB→Prop} {σ:AB}
theorem JM {α β:Type} {n:Nat} {l:List α} {g:α→V} (f:α→β) (k:β→V) (e:σ[n]?=some (.list (l.map g))) (hz:l.length≤1000000) (h:∀ x∈l,∀ K:Option V→AB→Prop,K (some (k (f x))) σ→turn (g x) σ K)
  (q:Q ((l.map f).map k) σ):∃ items same,SrcK σ .plain [.ref n] items same∧items.length≤Ag∧Ba turn same items [] σ Q:=
 JA (fun x=>some (k (f x))) e hz h (by rw [BK];rw [List.map_map] at q;exact q)
theorem E7 {α:Type} {n:Nat} {l:List α} {g:α→V} (p:α→Bool) (e:σ[n]?=some (.list (l.map g))) (hz:l.length≤1000000) (h:∀ x∈l,∀ K:Option V→AB→Prop,(p x=true→K (some (g x)) σ)→(p x=false→K none σ)→turn (g x) σ K)
  (q:Q ((l.filter p).map g) σ):∃ items same,SrcK σ .plain [.ref n] items same∧items.length≤Ag∧Ba turn same items [] σ Q:=
 JA (fun x=>if p x=true then some (g x) else none) e hz (fun x hx K hK=>h x hx K (fun e=>by rw [if_pos e] at hK;exact hK) fun e=>by rw [if_neg (Bool.eq_false_iff.mp e)] at hK;exact hK) (by rw [Bw];exact q)
end
theorem Ka {turn:V→AB→(Option V→AB→Prop)→Prop} {Q:List V→AB→Prop} {σ:AB} {β:Type} {b:Int} (f:Nat→β) (k:β→V) (hb:-1000000≤b∧b≤1000000) (h:∀ i:Nat,(i:Int)<b→∀ K:Option V→AB→Prop,K (some (k (f i))) σ→turn (.int i) σ K)
  (q:Q (((List.range b.toNat).map f).map k) σ):∃ items same,SrcK σ .range [.int b] items same∧items.length≤Ag∧Ba turn same items [] σ Q:=
 Lh (fun i=>some (k (f i))) hb h (by rw [BK];rw [List.map_map] at q;exact q)
theorem Kt (e:σ[n]?=some (.list [.str (Str.ofString "low"),.str (Str.ofString "left")])) (h:0≤k∧k<2) (q:∀ b,Q (hab b) σ):SubK σ Q (.ref n) (.int k):=by
 rcases (by exact Classical.or_iff_not_imp_left.mpr fun z0=>Or.elim (Int.lt_or_gt_of_ne z0) (fun z1=>Int.le_antisymm (ai1 .le .v0 .n1 (.t .v0 .n0 .e) rfl z1) (ai1 .le .n1 .v0 (.w 2 (.l .n0 .v0 (.t .v0 .n0 .e))) rfl h.1 z1)) (fun z1=>Int.le_antisymm (ai1 .le .v0 .n1 (.t .v0 .n2 .e) rfl h.2) (ai1 .le .n1 .v0 (.t .n0 .v0 .e) rfl z1)):k=0∨k=1) with rfl | rfl
 ·exact Av e (by decide) rfl (q true)
 ·exact Av e (by decide) rfl (q false)
theorem BY {α:Type} {l:List α} {i:Nat} {y:α} (hy:l[i]?=some y):l.take (i+1)=l.take i++[y]:=by rw [List.take_add_one,hy];rfl
theorem Np {x y:Int × Int} (h:Ah [y.1,y.2] [x.1,x.2]=false):x.1≤y.1:=by
 unfold Ah at h
 by_cases e:y.1=x.1
 ·exact Int.le_of_eq e.symm
 ·rw [if_neg e] at h;exact Int.not_lt.mp (of_decide_eq_false h)
theorem NP (hp:ts.Perm (rows.map fun r=>[r.1,r.2])) (hs:ts.Pairwise fun a b=>Ah b a=false):∃ rs:List (Int × Int),ts=(rs.map fun r=>[r.1,r.2])∧rs.Perm rows∧rs.Pairwise fun x y=>x.1≤y.1:=by
 have e:ts=(ts.map fun l=>(l.getD 0 0,l.getD 1 0)).map fun r:Int × Int=>[r.1,r.2]:=by
  rw [List.map_map]
  refine (List.map_id ts).symm.trans (List.map_congr_left fun l hl=>?_)
  refine AC (List.mem_map.mp (hp.mem_iff.mp hl)) fun r _ ze1=>?_;subst ze1;rfl
 refine ⟨_,e,?_,?_⟩
 ·have:=hp.map fun l=>(l.getD 0 0,l.getD 1 0)
  rw [List.map_map] at this
  exact this.trans (List.Perm.of_eq (List.map_id rows))
 ·rw [e,List.pairwise_map] at hs
  exact hs.imp Np
end Mine.Internal
namespace Mine.Internal
open PySem
abbrev Pl3:=Int × Int × Bool
noncomputable def DR:Option (Int × Int)→Option (Int × Int)→Option Pl3
 | none,none=>none
 | some x,none=>some (x.1,x.2,false)
 | none,some y=>some (y.1,y.2,true)
 | some x,some y=>if y.1<x.1∨(y.1=x.1∧y.2<x.2) then some (y.1,y.2,true) else some (x.1,x.2,false)
structure Two (O:List Bx) (P S a b:Int) (turns:Bool) (d:Option Pl3):Prop where
 ex:∃ d1 d2,Ck (Gd O P S a b) d1∧(turns=true→Ck (Gd O P S b a) d2)∧(turns=false→d2=none)∧d=DR d1 d2
structure TwoE (O:List Bx) (P S a b:Int) (turns:Bool) (d:Option Pl3):Prop where
 ex:∃ d1 d2,Ck (Gd O P S a b) d1∧Dv O d1∧(turns=true→Ck (Gd O P S b a) d2∧Dv O d2)∧(turns=false→d2=none)∧d=DR d1 d2
noncomputable def by3 (m:Int):Option Pl3→Option Pl3
 | none=>none
 | some (p,s,t)=>some (p*m,s*m,t)
theorem Gc {x y m:Int} (hm:0<m):x*m<y*m↔x<y:=by
 rw [← Int.not_le,← Int.not_le,Cn hm]
theorem Pw {x y m:Int} (hm:0<m):x*m=y*m↔x=y:=⟨fun h=>Int.eq_of_mul_eq_mul_right (Int.ne_of_gt hm) h,fun h=>h▸rfl⟩
theorem Qw {m:Int} (hm:0<m):∀ d1 d2,DR (byO m m d1) (byO m m d2)=by3 m (DR d1 d2)
 | none,none=>rfl
 | some _,none=>rfl
 | none,some _=>rfl
 | some x,some y=>by
  unfold DR byO
  dsimp only
  by_cases h:y.1<x.1∨(y.1=x.1∧y.2<x.2)
  ·rw [if_pos h,if_pos (h.imp (Gc hm).mpr fun h=>⟨h.1▸rfl,(Gc hm).mpr h.2⟩)];rfl
  ·rw [if_neg h,if_neg fun h'=>h (h'.imp (Gc hm).mp fun h=>⟨(Pw hm).mp h.1,(Gc hm).mp h.2⟩)];rfl
theorem Pt {O:List Bx} (hm:0<m) (h:TwoE (O.map (·.by m m)) (P*m) (S*m) (a*m) (b*m) turns r) (h':Two O P S a b turns d):r=by3 m d:=by
 refine Mi h.ex fun r1 r2 f1 o1 f2 f3 ze1=>?_;subst ze1
 refine BN h'.ex fun d1 d2 g1 g2 g3 ze1=>?_;subst ze1
 rw [← Qw hm,J0 hm hm f1 o1 g1]
 cases turns with
 | true=>rw [J0 hm hm (f2 rfl).1 (f2 rfl).2 (g2 rfl)]
 | false=>rw [f3 rfl,g3 rfl];rfl
section
variable {O:List Bx} {P S a b:Int} {turns:Bool}
end
structure Sh where
 W:Int
 H:Int
 b:Bool
noncomputable def Sh.v (s:Sh):V:=.tup [.int s.W,.int s.H,hab s.b]
noncomputable def Sh.by (m:Int) (s:Sh):Sh:=⟨s.W*m,s.H*m,s.b⟩
noncomputable def Ot.by (m:Int) (o:Ot):Ot:=⟨o.l*m,o.u*m,o.w*m,o.h*m⟩
noncomputable def EG:Option Pl3→Option Pl3
 | none=>none
 | some (p,s,t)=>some (s,p,t)
noncomputable def OnL (w h:Int) (turns:Bool) (sh:Sh) (os:List Ot) (r:Option Pl3):Prop:=match sh.b with
 | true=>Two (os.map Ot.low) sh.H sh.W h w turns r
 | false=>Two (os.map Ot.lef) sh.W sh.H w h turns (EG r)
noncomputable def OnP (w h:Int) (turns:Bool) (sh:Sh) (os:List Ot) (r:Option Pl3):Prop:=match sh.b with
 | true=>TwoE (os.map Ot.low) sh.H sh.W h w turns r
 | false=>TwoE (os.map Ot.lef) sh.W sh.H w h turns (EG r)
theorem Pk (h:EG r=by3 m (EG d)):r=by3 m d:=by
 have e1:EG (EG r)=r:=by cases r <;> rfl
 have e2:EG (by3 m (EG d))=by3 m d:=by cases d <;> rfl
 exact e1.symm.trans ((congrArg EG h).trans e2)
theorem Oo {w h m:Int} {turns:Bool} {sh:Sh} {os:List Ot} {r d:Option Pl3} (hm:0<m) (x:OnP (w*m) (h*m) turns (sh.by m) (os.map (Ot.by m)) r) (y:OnL w h turns sh os d):r=by3 m d:=by
 obtain ⟨W,H,b⟩:=sh
 cases b with
 | true=>
  have e:(os.map (Ot.by m)).map Ot.low=(os.map Ot.low).map (·.by m m):=by rw [List.map_map,List.map_map];rfl
  have x:TwoE ((os.map (Ot.by m)).map Ot.low) _ _ _ _ _ _:=x
  rw [e] at x
  exact Pt hm x y
 | false=>
  have e:(os.map (Ot.by m)).map Ot.lef=(os.map Ot.lef).map (·.by m m):=by rw [List.map_map,List.map_map];rfl
  have x:TwoE ((os.map (Ot.by m)).map Ot.lef) _ _ _ _ _ _:=x
  rw [e] at x
  exact Pk (Pt hm x y)
noncomputable def NO:Bool→Int × Int→Int × Int→Prop
 | true,y,x=>y.1<x.1∨(y.1=x.1∧y.2<x.2)
 | false,y,x=>y.2<x.2∨(y.2=x.2∧y.1<x.1)
inductive Best (b:Bool):Option (Int × Int)→Option (Int × Int)→Option Pl3→Prop
 | no:Best b none none none
 | up {x:Int × Int}:Best b (some x) none (some (x.1,x.2,false))
 | turned {y:Int × Int}:Best b none (some y) (some (y.1,y.2,true))
 | less {x y:Int × Int}:NO b y x→Best b (some x) (some y) (some (y.1,y.2,true))
 | more {x y:Int × Int}:¬ NO b y x→Best b (some x) (some y) (some (x.1,x.2,false))
theorem Best.low {r1 r2:Option (Int × Int)} (h:Best true r1 r2 r):r=DR r1 r2:=by
 cases h with
 | less h=>exact (if_pos h).symm
 | more h=>exact (if_neg h).symm
 | _=>rfl
theorem Best.left {r1 r2:Option (Int × Int)} (h:Best false r1 r2 r):EG r=DR (Du r1) (Du r2):=by
 cases h with
 | less h=>exact (if_pos h).symm
 | more h=>exact (if_neg h).symm
 | _=>rfl
theorem ES {w h:Int} {turns:Bool} {sh:Sh} {os:List Ot} {r1 r2:Option (Int × Int)} {r:Option Pl3} (f1:FG os sh.W sh.H w h sh.b r1) (f2:turns=true→FG os sh.W sh.H h w sh.b r2) (f3:turns=false→r2=none) (hb:Best sh.b r1 r2 r):OnP w h turns sh os r:=by
 obtain ⟨W,H,b⟩:=sh
 cases b with
 | true=>exact ⟨r1,r2,f1.1,f1.2,fun e=>⟨(f2 e).1,(f2 e).2⟩,f3,hb.low⟩
 | false=>exact ⟨Du r1,Du r2,f1.1,f1.2,fun e=>⟨(f2 e).1,(f2 e).2⟩,fun e=>congrArg Du (f3 e),hb.left⟩
noncomputable def GU (b:Bool) (n:Int) (x:Int × Int) (t:Bool):List Int:=if b then [n,x.1,x.2,b2i t] else [n,x.2,x.1,b2i t]
theorem LL:Ah [n,a,b,1] [n,c,d,0]=true↔a<c∨(a=c∧b<d):=by
 rw [show Ah [n,a,b,1] [n,c,d,0]=if a=c then (if b=d then false else decide (b<d)) else decide (a<c) from if_pos rfl]
 by_cases h:a=c
 ·rw [if_pos h]
  by_cases h':b=d
  ·rw [if_pos h']
   exact ⟨nofun,fun e=>(e.elim (fun z=>Int.ne_of_lt z h) fun z=>Int.ne_of_lt z.2 h').elim⟩
  ·rw [if_neg h',decide_eq_true_iff];exact ⟨fun z=>.inr ⟨h,z⟩,fun z=>z.elim (fun z=>absurd h (Int.ne_of_lt z)) And.right⟩
 ·rw [if_neg h,decide_eq_true_iff];exact ⟨.inl,fun z=>z.elim id fun z=>absurd z.1 h⟩
theorem Js:∀ {b:Bool},Ah (GU b n y true) (GU b n x false)=true↔NO b y x
 | true=>LL
 | false=>LL
abbrev Pl4:=Int × Int × Int × Bool
inductive FP (On:Sh→List Ot→Option Pl3→Prop):Nat→List (Sh × List Ot)→Option Pl4→Prop
 | nil {n:Nat}:FP On n [] none
 | hit {n:Nat} {sh:Sh} {os:List Ot} {l:List (Sh × List Ot)} {p:Pl3}:On sh os (some p)→FP On n ((sh,os)::l) (some ((n:Int),p.1,p.2.1,p.2.2))
 | miss {n:Nat} {sh:Sh} {os:List Ot} {l:List (Sh × List Ot)} {r:Option Pl4}:On sh os none→FP On (n+1) l r→FP On n ((sh,os)::l) r
noncomputable def by4 (m:Int):Option Pl4→Option Pl4
 | none=>none
 | some (n,p,s,t)=>some (n,p*m,s*m,t)
theorem FP.cons_inv (h:FP On n (x::l) r):(∃ p,On x.1 x.2 (some p)∧r=some ((n:Int),p.1,p.2.1,p.2.2))∨(On x.1 x.2 none∧FP On (n+1) l r):=by
 cases h with
 | hit o=>exact .inl ⟨_,o,rfl⟩
 | miss o h=>exact .inr ⟨o,h⟩
theorem UZ {w h m:Int} {turns:Bool} (hm:0<m) {n:Nat} {l:List (Sh × List Ot)} {r d:Option Pl4} (hr:FP (OnP (w*m) (h*m) turns) n (l.map fun x=>(x.1.by m,x.2.map (Ot.by m))) r) (hd:FP (OnL w h turns) n l d):r=by4 m d:=by
 induction hd with
 | nil=>cases hr;rfl
 | hit o=>exact hr.cons_inv.elim (fun h=>h.elim fun p h=>h.2.trans (Option.some.inj (Oo hm h.1 o)▸rfl)) fun h=>nomatch Oo hm h.1 o
 | miss o _ ih=>exact hr.cons_inv.elim (fun h=>h.elim fun p h=>nomatch Oo hm h.1 o) fun h=>ih h.2
noncomputable def QX:Option Pl4→V
 | none=>.none
 | some (n,u,l,t)=>.tup [.int n,.int u,.int l,.bool t]
noncomputable def SA (n:Nat):Option Pl3→V
 | none=>.none
 | some (u,l,t)=>.tup [.int n,.int u,.int l,.bool t]
noncomputable def FZ (σ:AB) (ks:List Nat) (oss:List (List Ot)):Prop:=ks.length=oss.length∧∀ (i:Nat) k os,ks[i]?=some k→oss[i]?=some os→σ[k]?=some (.list (os.map Ot.v))
noncomputable def Kp (σ σ':AB):Prop:=∀ (x:Nat) (o:O),σ[x]?=some o→σ'[x]?=some o
theorem Tj (I:Nat→List V→AB→Prop) (hb:-1000000≤b∧b≤1000000) (h0:I 0 [] σ)
  (step:∀ (i:Nat) acc σ (K:Option V→AB→Prop),(i:Int)<b→I i acc σ→(∀ v σ',I (i+1) (acc++[v]) σ'→K (some v) σ')→turn (.int i) σ K)
  (fin:∀ acc σ',I b.toNat acc σ'→Q acc σ'):∃ items same,SrcK σ .range [.int b] items same∧items.length≤Ag∧Ba turn same items [] σ Q:=
 ⟨_,_,.range (Lp hb.1) hb.2,by rw [B8];exact Int.toNat_le.mpr hb.2,Fc I _ 0 [] σ (fun i v acc σ K hv hI h1=>by
  obtain ⟨rfl,hi⟩:=FX _ _ _ _ hv
  rw [Nat.zero_add] at hI h1
  rw [Int.zero_add]
  exact step i acc σ K (Int.lt_toNat.mp hi) hI fun v σ' h=>h1 (some v) σ' trivial h) (fun acc σ h=>fin acc σ (by rw [B8,Nat.zero_add] at h;exact h)) h0⟩
theorem PT (I:Nat→List V→AB→Prop) (e:σ[n]?=some (.list vs)) (hz:vs.length≤1000000) (h0:I 0 [] σ)
  (step:∀ (i:Nat) v acc σ (K:Option V→AB→Prop),vs[i]?=some v→I i acc σ→(∀ v σ',σ'[n]?=some (.list vs)→I (i+1) (acc++[v]) σ'→K (some v) σ')→turn v σ K)
  (fin:∀ acc σ',I vs.length acc σ'→Q acc σ'):∃ items same,SrcK σ .plain [.ref n] items same∧items.length≤Ag∧Ba turn same items [] σ Q:=
 ⟨_,_,.list e,hz,Fc I _ 0 [] σ (fun i v acc σ K hv hI h1=>by
  rw [Nat.zero_add] at hI h1
  exact step i v acc σ K hv hI fun v σ' h h'=>h1 (some v) σ' h h') (fun acc σ h=>fin acc σ (by rw [Nat.zero_add] at h;exact h)) h0⟩
end Mine.Internal
namespace Mine.Internal
open PySem
set_option genSizeOf false
set_option genInjectivity false
section
variable {C:CA} {ρ:List V} {σ:AB} {Q:CU} {P:AN} {X:Ac} {e a b:Ex} {es:List Ex} {ss:List Sx} {c:Addr} {x:Str} {k:Nat} {hs:List (List Nat × V × Option Nat)}
end
section
variable {σ:AB} {K:Bool→Prop} {x y:Str}
end
noncomputable def Ea (S B P:Nat):List (Str × V):=[("shelves", .ref S),("boxes", .ref B),("places", .ref P)]
structure RackAt (C:Addr) (σ:AB) (r S B P:Nat):Prop where
 ex:∃ m,σ[r]?=some (.inst C m)∧σ[m]?=some (.ns (Ea S B P))
theorem RI:(Ea S B P).lookup ("shelves":Str)=some (.ref S):=rfl
theorem QM:(Ea S B P).lookup ("boxes":Str)=some (.ref B):=rfl
theorem Rh:(Ea S B P).lookup ("places":Str)=some (.ref P):=rfl
noncomputable def K7 (x:Str):Bool:=!(x=="shelves")&&!(x=="boxes")&&!(x=="places")
theorem Qb (h:K7 x=true):(Ea S B P).lookup x=none:=by
 unfold K7 at h
 simp only [Bool.and_eq_true,Bool.not_eq_true'] at h
 unfold Ea
 rw [List.lookup_cons,h.1.1,List.lookup_cons,h.1.2,List.lookup_cons,h.2];rfl
section
variable {C:Addr} {σ:AB} {r S B P:Nat} {Q:AN} {A:Prop} {x:Str}
theorem VE (R:RackAt C σ r S B P) (q:Q (.ref S) σ):AttrK σ Q C "shelves" (.ref r):=let ⟨_,h1,h2⟩:=R.ex;.mk h1 h2 RI q
theorem VJ (R:RackAt C σ r S B P) (q:Q (.ref B) σ):AttrK σ Q C "boxes" (.ref r):=let ⟨_,h1,h2⟩:=R.ex;.mk h1 h2 QM q
theorem VB (R:RackAt C σ r S B P) (q:Q (.ref P) σ):AttrK σ Q C "places" (.ref r):=let ⟨_,h1,h2⟩:=R.ex;.mk h1 h2 Rh q
theorem SF (R:RackAt C σ r S B P) (h:K7 x=true) (q:A):Ou σ C x (.ref r)∧A:=let ⟨m,h1,h2⟩:=R.ex;⟨⟨r,m,_,rfl,h1,h2,Qb h⟩,q⟩
end
theorem At (p:σ<+:σ'):Kp σ σ':=fun _ _ h=>Aa p h
theorem Kp.trans (h:Kp σ σ') (h':Kp σ' σ''):Kp σ σ'':=fun x o e=>h' x o (h x o e)
theorem RackAt.keeps (R:RackAt C σ r S B P) (k:Kp σ σ'):RackAt C σ' r S B P:=let ⟨m,h1,h2⟩:=R.ex;⟨m,k _ _ h1,k _ _ h2⟩
theorem To (R:RackAt C σ r S B P):RackAt C (σ++τ) r S B P:=R.keeps (At AH)
structure En where
 name:Str
 w:Int
 h:Int
 t:Bool
 n:Nat
 u:Int
 l:Int
 r:Bool
noncomputable def En.box (e:En):V:=.tup [.str e.name,.int e.w,.int e.h,.bool e.t]
noncomputable def En.pl (e:En):V:=.tup [.int e.n,.int e.u,.int e.l,.bool e.r]
noncomputable def En.ot (e:En):Ot:=if e.r=true then ⟨e.l,e.u,e.h,e.w⟩ else ⟨e.l,e.u,e.w,e.h⟩
noncomputable def B3 (es:List En):List (Str × V):=es.map fun e=>(e.name,e.box)
noncomputable def BZ (es:List En):List (Str × V):=es.map fun e=>(e.name,e.pl)
structure Rk (C:Addr) (σ:AB) (r:Nat) (shs:List Sh) (es:List En) (S B P epB epP:Nat):Prop where
 at_:RackAt C σ r S B P
 sh:σ[S]?=some (.list (shs.map Sh.v))
 bx:σ[B]?=some (.dict epB (B3 es))
 pl:σ[P]?=some (.dict epP (BZ es))
section
variable {C:Addr} {σ σ':AB} {r S B P epB epP:Nat} {shs:List Sh} {es:List En}
theorem Rk.keeps (R:Rk C σ r shs es S B P epB epP) (k:Kp σ σ'):Rk C σ' r shs es S B P epB epP:=⟨R.at_.keeps k,k _ _ R.sh,k _ _ R.bx,k _ _ R.pl⟩
end
theorem BI {f:En→V} {es:List En} {e:En} (hn:(es.map (·.name)).Nodup) (hm:e∈es):(es.map fun e=>(e.name,f e)).lookup e.name=some (f e):=by
 induction es with
 | nil=>cases hm
 | cons x xs ih=>
  rw [List.map_cons,List.lookup_cons]
  rw [List.map_cons] at hn
  have hn:=List.nodup_cons.mp hn
  rcases List.mem_cons.mp hm with rfl | hm
  ·rw [beq_self_eq_true]
  ·have hne:(e.name==x.name)=false:=beq_eq_false_iff_ne.mpr fun q=>hn.1 (q▸List.mem_map.mpr ⟨e,hm,rfl⟩)
   rw [hne]
   exact ih hn.2 hm
theorem Iz {f:En→V} {es:List En} {k:Str}:((es.map fun e=>(e.name,f e)).any fun p=>decide (p.1=k))=decide (k∈es.map (·.name)):=by
 rw [List.any_map]
 rw [Bool.eq_iff_iff,List.any_eq_true,decide_eq_true_iff,List.mem_map]
 exact ⟨fun ⟨e,h,q⟩=>⟨e,h,of_decide_eq_true q⟩,fun ⟨e,h,q⟩=>⟨e,h,decide_eq_true q⟩⟩
noncomputable def CT (skip:Option Str) (x:Str):Bool:=!(skip==some x)
noncomputable def Ak (es:List En) (skip:Option Str) (i:Nat):List Ot:=(es.filter fun e=>decide (e.n=i)&&CT skip e.name).map En.ot
noncomputable def AT (n:Nat) (es:List En) (skip:Option Str):List (List Ot):=(List.range n).map (Ak es skip)
noncomputable def PY:Option Str→V
 | none=>.none
 | some s=>.str s
theorem Aj:(AT n es skip).length=n:=by rw [AT,List.length_map,List.length_range]
theorem BV (h:i<n):(AT n es skip)[i]?=some (Ak es skip i):=by
 rw [AT,List.getElem?_map,List.getElem?_range h];rfl
theorem Hp:Ak (es++[e]) skip i=if (decide (e.n=i)&&CT skip e.name)=true then Ak es skip i++[e.ot] else Ak es skip i:=by
 unfold Ak
 rw [List.filter_append,List.map_append]
 by_cases h:(decide (e.n=i)&&CT skip e.name)=true
 ·rw [if_pos h,List.filter_cons_of_pos (p:=fun e:En=>decide (e.n=i)&&CT skip e.name) h];rfl
 ·rw [if_neg h,List.filter_cons_of_neg (p:=fun e:En=>decide (e.n=i)&&CT skip e.name) h];exact List.append_nil _
theorem GQ (hk:CT skip e.name=true):AT n (es++[e]) skip=(AT n es skip).set e.n (Ak es skip e.n++[e.ot]):=by
 apply List.ext_getElem?
 intro i
 refine Or.elim (Nat.lt_or_ge i n) (fun hi=>?_) (fun hi=>?_)
 ·rw [BV hi,Hp,hk,Bool.and_true]
  by_cases h:e.n=i
  ·rw [h,List.getElem?_set_self (by rw [Aj];exact hi),if_pos (decide_eq_true rfl)]
  ·rw [List.getElem?_set_ne h,BV hi,if_neg (by rw [decide_eq_true_iff];exact h)]
 ·rw [List.getElem?_eq_none (by rw [Aj];exact hi),List.getElem?_eq_none (by rw [List.length_set,Aj];exact hi)]
theorem KN (hk:CT skip e.name=false):AT n (es++[e]) skip=AT n es skip:=by
 unfold AT
 exact List.map_congr_left fun i _=>by rw [Hp,hk,Bool.and_false];rfl
theorem Gi:AT n [] skip=List.replicate n []:=by
 exact List.eq_replicate_iff.mpr ⟨Aj,fun b hb=>by refine AC (List.mem_map.mp hb) fun i _ ze1=>?_;subst ze1;rfl⟩
noncomputable def DY (os:List Ot):O:=.list (os.map Ot.v)
theorem Iy {σ:AB} {L T:List O} {i:Nat} {o:O} (h:L[i]?=some o):(σ++L++T)[σ.length+i]?=some o:=by
 have hi:=(List.getElem?_eq_some_iff.mp h).1
 rw [List.append_assoc,List.getElem?_append_right (Nat.le_add_right _ _),Nat.add_sub_cancel_left,List.getElem?_append_left hi];exact h
theorem F9 {σ:AB} {L T:List O} {i:Nat} {o:O} (h:i<L.length):(σ++L++T).set (σ.length+i) o=σ++L.set i o++T:=by
 rw [List.append_assoc,List.set_append_right _ _ (Nat.le_add_right _ _),Nat.add_sub_cancel_left,List.set_append_left _ _ h,List.append_assoc]
theorem E1 (h:L.length=n):(σ++L++[o])[σ.length+n]?=some o:=by
 rw [← h,← List.length_append];exact AI
theorem Gu {σ:AB} {oss:List (List Ot)} {T:List O} {n:Nat} (h:oss.length=n):FZ (σ++oss.map DY++T) (List.range' σ.length n) oss:=by
 refine ⟨by rw [List.length_range',h],fun i k os h1 h2=>?_⟩
 have hi:i<n:=h▸(List.getElem?_eq_some_iff.mp h2).1
 rw [List.getElem?_range' hi,Nat.one_mul] at h1
 cases h1
 exact Iy (by rw [List.getElem?_map,h2];rfl)
noncomputable def Cv:List Nat:=(Str.ofString "abcdefghijklmnopqrstuvwxyz0123456789").cps.toList
noncomputable def Ap (x:Str):Bool:=decide (0<x.length)&&(decide (x.length≤12)&&x.cps.toList.all fun c=>decide (c∈Cv))
theorem Rv (f:Nat→V) (hx:x.cps.all (·<128)=true) (hl:x.length≤1000) (h:∀ c∈x.cps.toList,∀ K:Option V→AB→Prop,K (some (f c)) σ→turn (.str (EL c)) σ K)
  (q:Q (x.cps.toList.map f) σ):∃ items same,SrcK σ .plain [.str x] items same∧items.length≤Ag∧Ba turn same items [] σ Q:=
 ⟨_,_,.str hx,by rw [List.length_map];exact Nat.le_trans hl (by decide),D7 (g:=fun c=>.str (EL c)) (fun c=>some (f c)) trivial _ [] h (by rw [BK];exact q)⟩
end Mine.Internal
namespace Mine.Internal
open PySem
set_option genSizeOf false
set_option genInjectivity false
structure Shx where
 W:Int
 H:Int
 s:Str
noncomputable def Shx.v (x:Shx):V:=.tup [.int x.W,.int x.H,.str x.s]
noncomputable def Sh.x (s:Sh):Shx:=⟨s.W,s.H,if s.b then Str.ofString "low" else Str.ofString "left"⟩
structure Shx.Good (x:Shx):Prop where
 w:1≤x.W∧x.W≤1000000
 h:1≤x.H∧x.H≤1000000
 s:x.s=Str.ofString "low"∨x.s=Str.ofString "left"
structure Fit (xs:List Shx):Prop where
 n:1≤xs.length∧xs.length≤9
 all:∀ x∈xs,x.Good
theorem F7:PyData.eqv (.str x) (.str y)=(x==y):=rfl
theorem N2 (hs:PyData.strOk s=true) (q:(s=Str.ofString "low"∨s=Str.ofString "left")→K false) (q':¬ (s=Str.ofString "low"∨s=Str.ofString "left")→K true):CmpK σ K .NotIn (.str s) (.tup [.str (Str.ofString "low"),.str (Str.ofString "left")]):=by
 refine .ninT (x:=.str s) (ys:=[.str (Str.ofString "low"),.str (Str.ofString "left")]) rfl rfl hs (by decide +kernel) ?_
 rw [List.any_cons,List.any_cons,List.any_nil,F7,F7,Bool.or_false]
 by_cases h:s=Str.ofString "low"∨s=Str.ofString "left"
 ·rw [show ((Str.ofString "low"==s)||(Str.ofString "left"==s))=true from Bool.or_eq_true_iff.mpr (h.imp (fun e=>beq_iff_eq.mpr e.symm) fun e=>beq_iff_eq.mpr e.symm)]
  exact q h
 ·rw [show ((Str.ofString "low"==s)||(Str.ofString "left"==s))=false from Bool.or_eq_false_iff.mpr ⟨beq_eq_false_iff_ne.mpr fun e=>h (.inl e.symm),beq_eq_false_iff_ne.mpr fun e=>h (.inr e.symm)⟩]
  exact q' h
theorem Tl:put "shelves" v []=[(("shelves":Str),v)]:=rfl
theorem Sp:put "boxes" v [(("shelves":Str),u)]=[(("shelves":Str),u),(("boxes":Str),v)]:=rfl
theorem Tg:put "places" v [(("shelves":Str),u),(("boxes":Str),w)]=[(("shelves":Str),u),(("boxes":Str),w),(("places":Str),v)]:=rfl
noncomputable def KpB (m:Nat) (σ σ':AB):Prop:=∀ (x:Nat) (o:O),x≠m→σ[x]?=some o→σ'[x]?=some o
end Mine.Internal
namespace Mine.Internal
open PySem
set_option genSizeOf false
set_option genInjectivity false
theorem PQ (I:Nat→List V→AB→Prop) (e:σ[n]?=some (.dict ep kvs)) (h0:I 0 ρ σ)
  (step:∀ (i:Nat) (p:Str × V) ρ σ (R:List V→AB→Prop),kvs[i]?=some p→I i ρ σ→(∀ ρ' σ',σ'[n]?=some (.dict ep kvs)→I (i+1) ρ' σ'→R ρ' σ')→turn (.str p.1) ρ σ (Df R Q))
  (fin:∀ ρ σ,I kvs.length ρ σ→Q .next ρ σ):∃ items same,SrcK σ .plain [.ref n] items same∧Eo turn same items ρ σ Q:=
 ⟨_,_,.dict e,DA I _ 0 ρ σ (fun i v ρ σ K hv hI h1=>by
  rw [Nat.zero_add] at hI h1
  refine AC (List.mem_map_get hv) fun p hp ze1=>?_;subst ze1
  exact step i p ρ σ K hp hI h1) (fun ρ σ h=>fin ρ σ (by rw [Nat.zero_add,List.length_map] at h;exact h)) h0⟩
theorem Qj (hx:PyData.strOk x=true) (hs:∀ s,skip=some s→PyData.strOk s=true) (q:K (CT skip x)):PC σ K .NotEq (.str x) (PY skip):=by
 cases skip with
 | none=>exact .ne (x:=.str x) (y:=.none) rfl rfl hx rfl q
 | some s=>exact .ne (x:=.str x) (y:=.str s) rfl rfl hx (hs s rfl) (by
  have e:CT (some s) x=!(PyData.eqv (.str x) (.str s)):=by
   rw [F7]
   show (!(s==x))=!(x==s)
   rw [Bool.beq_comm]
  rw [e] at q;exact q)
theorem QF:∀ {skip:Option Str},def? (PY skip)=true
 | none=>rfl
 | some _=>rfl
abbrev Ao (k:Int):Prop:=1≤k∧k≤1000000
theorem Re (h:(l.any fun p=>decide (p.1=k))=false):put k v l=l++[(k,v)]:=by
 unfold put;rw [if_neg (by rw [h];exact Bool.false_ne_true)]
theorem Ld {f:En→V} (h:e.name∉es.map (·.name)):put e.name (f e) (es.map fun e=>(e.name,f e))=(es++[e]).map fun e=>(e.name,f e):=by
 rw [Re (by rw [Iz];exact decide_eq_false h),List.map_append];rfl
noncomputable def stood (σ:AB) (B P ep1 ep2:Nat) (es:List En):AB:=(σ.set B (.dict ep1 (B3 es))).set P (.dict ep2 (BZ es))
theorem Rk.stood (R:Rk C σ r shs es S B P epB epP) (h:B≠P) (ep1 ep2:Nat):Rk C (stood σ B P ep1 ep2 es') r shs es' S B P ep1 ep2:=by
 have kp:∀ (x:Nat) (o:O),σ[x]?=some o→(∀ ep kvs,o≠.dict ep kvs)→(Mine.Internal.stood σ B P ep1 ep2 es')[x]?=some o:=fun x o e hd=>
  AG (fun z=>by rw [← z,R.pl] at e;cases e;exact hd _ _ rfl) (AG (fun z=>by rw [← z,R.bx] at e;cases e;exact hd _ _ rfl) e)
 refine AC R.at_.ex fun m h1 h2=>?_
 exact ⟨⟨m,kp _ _ h1 nofun,kp _ _ h2 nofun⟩,kp _ _ R.sh nofun,AG h.symm (AZ R.bx),AZ (AG h R.pl)⟩
theorem QW (h:FP On n l r):∀ p:Pl4,r=some p→∃ k:Nat,p.1=k∧n≤k∧k<n+l.length:=by
 induction h with
 | nil=>intro p e;cases e
 | @hit n sh os l q _=>intro p e;cases e;exact ⟨n,rfl,Nat.le_refl _,Nat.lt_add_of_pos_right (Nat.zero_lt_succ _)⟩
 | @miss n sh os l r _ _ ih=>intro p e;refine Ab (ih p e) fun k e1 h1 h2=>?_;exact ⟨k,e1,Nat.le_of_succ_le h1,Nat.lt_of_lt_of_eq h2 (Nat.succ_add_eq_add_succ n l.length)⟩
theorem Km (h:FP On n l (some p)):∃ k:Nat,p.1=k∧n≤k∧k<n+l.length:=QW h p rfl
structure Esok (shs:List Sh) (es:List En):Prop where
 nodup:(es.map (·.name)).Nodup
 num:∀ e∈es,e.n<shs.length
 str:∀ e∈es,PyData.strOk e.name=true
 len:es.length<63
end Mine.Internal
namespace Mine.Internal
open PySem
set_option genSizeOf false
set_option genInjectivity false
noncomputable def En.key (shs:List Sh) (e:En):List Int:=GU ((shs.getD e.n ⟨0,0,false⟩).b) e.n (e.u,e.l) e.r
noncomputable def Dd (left:Int) (n:Nat):List En→Int
 | []=>left
 | e::es=>Dd (if e.n=n then left - e.w*e.h else left) n es
theorem EZ:∀ (es:List En) (left:Int),Dd left n (es++[e])=if e.n=n then Dd left n es - e.w*e.h else Dd left n es
 | [],left=>rfl
 | x::es,left=>EZ es _
theorem HT {α:Type} {turn:V→AB→AN→Prop} {g:α→V} {σ:AB} (f:α→V) {Q:List V→AB→Prop}:∀ (l:List α) (acc:List V),(∀ x∈l,∀ K:AN,K (f x) σ→turn (g x) σ K)→Q (acc++l.map f) σ→HZ turn (l.map g) acc σ Q
 | [],acc,_,q=>by rw [List.map_nil,List.append_nil] at q;exact q
 | x::l,acc,h,q=>h x List.mem_cons_self _ (HT f l _ (fun y hy=>h y (List.mem_cons_of_mem _ hy)) (by rw [List.append_assoc];exact q))
inductive TabAt (T:Addr) (σ:AB) (ln col:Int) (q:Str):Prop
 | tab:σ[1]?=some (.tab T)→TabAt T σ ln col q
 | row (m:Nat):σ[1]?=some (.row T ln col m)→σ[m]?=some (.code q)→TabAt T σ ln col q
theorem TabAt.w (t:TabAt T σ ln col q) (h:∀ m σ',KpB 1 σ σ'→σ'[m]?=some (.code q)→σ'[1]?=some (.row T ln col m)→K m σ'):TabW T q ln col σ K:=by
 cases t with
 | tab e=>exact .inl ⟨e,h _ _ (fun x o hx hh=>AF (AG hx.symm hh)) (by
   rw [List.getElem?_append_right (by rw [List.length_set];exact Nat.le_refl _),List.length_set,Nat.sub_self];rfl) (AF (AZ e))⟩
 | row m e e'=>exact .inr ⟨m,e,e',h m σ (fun _ _ _ hh=>hh) e' e⟩
theorem Rk.keepsB (R:Rk C σ r shs es S B P epB epP) (t:TabAt T σ ln col q) (k:KpB 1 σ σ'):Rk C σ' r shs es S B P epB epP:=by
 have kp:∀ (x:Nat) (o:O),(∀ T ln col m,o≠.tab T∧o≠.row T ln col m)→σ[x]?=some o→σ'[x]?=some o:=fun x o hd e=>k x o (fun z=>by
  subst z
  cases t with
  | tab e'=>rw [e'] at e;cases e;exact (hd T 0 0 0).1 rfl
  | row m e' _=>rw [e'] at e;cases e;exact (hd T ln col m).2 rfl) e
 refine AC R.at_.ex fun m h1 h2=>?_
 exact ⟨⟨m,kp _ _ (fun _ _ _ _=>⟨nofun,nofun⟩) h1,kp _ _ (fun _ _ _ _=>⟨nofun,nofun⟩) h2⟩,kp _ _ (fun _ _ _ _=>⟨nofun,nofun⟩) R.sh,kp _ _ (fun _ _ _ _=>⟨nofun,nofun⟩) R.bx,kp _ _ (fun _ _ _ _=>⟨nofun,nofun⟩) R.pl⟩
theorem Rk.pl_ne (R:Rk C σ r shs es S B P epB epP) (t:TabAt T σ ln col q):P≠1:=fun z=>by
 have:=R.pl
 rw [z] at this
 cases t with
 | tab e'=>rw [e'] at this;cases this
 | row m e' _=>rw [e'] at this;cases this
theorem S9 {shs:List Sh} {e:En}:e.key shs≠[]:=by unfold En.key GU;split <;> exact List.cons_ne_nil _ _
end Mine.Internal
namespace Mine.Internal
set_option genSizeOf false
set_option genInjectivity false
structure Qp where
 n:Nat
 p:Int
 s:Int
 r:Bool
noncomputable def Qp.le (x y:Qp):Prop:=x.n<y.n∨(x.n=y.n∧(x.p<y.p∨(x.p=y.p∧(x.s<y.s∨(x.s=y.s∧(x.r=true→y.r=true))))))
theorem Qp.ext {x y:Qp} (h1:x.n=y.n) (h2:x.p=y.p) (h3:x.s=y.s) (h4:x.r=y.r):x=y:=congr (congr (congr (congrArg Qp.mk h1) h2) h3) h4
theorem Qp.le_refl (x:Qp):x.le x:=.inr ⟨rfl,.inr ⟨rfl,.inr ⟨rfl,id⟩⟩⟩
theorem Qp.le_trans {x y z:Qp} (h:x.le y) (h':y.le z):x.le z:=
 GE Nat.lt_trans (GE Int.lt_trans (GE Int.lt_trans fun h g z=>g (h z))) h h'
theorem Qp.le_antisymm {x y:Qp} (h:x.le y) (h':y.le x):x=y:=by
 have a:=F5 Nat.lt_asymm Nat.lt_irrefl h h'
 have b:=F5 Int.lt_asymm Int.lt_irrefl a.2.1 a.2.2
 have c:=F5 Int.lt_asymm Int.lt_irrefl b.2.1 b.2.2
 exact Qp.ext a.1 b.1 c.1 (Bool.eq_iff_iff.mpr ⟨c.2.1,c.2.2⟩)
theorem Qp.le_np {x y:Qp} (h:x.le y):x.n<y.n∨(x.n=y.n∧x.p≤y.p):=by
 rcases h with h | ⟨h1,h | ⟨h2,_⟩⟩
 ·exact .inl h
 ·exact .inr ⟨h1,Int.le_of_lt h⟩
 ·exact .inr ⟨h1,Int.le_of_eq h2⟩
theorem Qp.between {x y z:Qp} (h:x.le y) (h':y.le z) (e:z.n=x.n∧z.p=x.p):y.n=x.n∧y.p=x.p:=by
 have a:=Qp.le_np h
 have b:=Qp.le_np h'
 clear h h'
 exact ⟨Or.elim b (fun z0=>Or.elim a (fun z1=>Nat.le_antisymm (an3 .le .v0 .v1 (.t .v0 .v2 (.q .v2 .v1 .e)) rfl z0 e.1) (an2 .le .v0 .v1 (.t .v0 .v1 .e) rfl z1)) (fun z1=>Nat.le_antisymm (an2 .le .v0 .v1 (.p .v1 .v0 .e) rfl z1.1) (an2 .le .v0 .v1 (.q .v0 .v1 .e) rfl z1.1))) (fun z0=>Nat.le_antisymm (an3 .le .v0 .v1 (.q .v0 .v2 (.q .v2 .v1 .e)) rfl z0.1 e.1) (an3 .le .v0 .v1 (.p .v2 .v0 (.p .v1 .v2 .e)) rfl e.1 z0.1)),Or.elim b (fun z0=>Or.elim a (fun z1=>(am3 (.t .v0 .v1 (.t .v1 .v2 (.q .v2 .v0 .e))) rfl z1 z0 e.1).elim) (fun z1=>(am3 (.q .v0 .v1 (.t .v1 .v2 (.q .v2 .v0 .e))) rfl z1.1 z0 e.1).elim)) (fun z0=>Or.elim a (fun z1=>(am3 (.t .v0 .v1 (.q .v1 .v2 (.q .v2 .v0 .e))) rfl z1 z0.1 e.1).elim) (fun z1=>Int.le_antisymm (ai3 .le .v0 .v1 (.l .v0 .v2 (.q .v2 .v1 .e)) rfl z0.2 e.2) (ai2 .le .v0 .v1 (.l .v0 .v1 .e) rfl z1.2)))⟩
theorem Qp.le_s {x y:Qp} (h:x.le y) (e:y.n=x.n∧y.p=x.p):x.s≤y.s:=by
 rcases h with h | ⟨_,h | ⟨_,h | ⟨h,_⟩⟩⟩
 ·exact absurd e.1.symm (Nat.ne_of_lt h)
 ·exact absurd e.2.symm (Int.ne_of_lt h)
 ·exact Int.le_of_lt h
 ·exact Int.le_of_eq h
abbrev Cfg:=Nat→Qp
section
variable (A B:Nat→Nat→Bool→Int) (Ins:Nat→Qp→Prop) (N:Nat)
noncomputable def Apart (i j:Nat) (x y:Qp):Prop:=x.n≠y.n∨x.p+A i x.n x.r≤y.p∨y.p+A j y.n y.r≤x.p∨x.s+B i x.n x.r≤y.s∨y.s+B j y.n y.r≤x.s
structure Sound (X:Cfg):Prop where
 ins:∀ i,i<N→Ins i (X i)
 apart:∀ i j,i<N→j<N→i≠j→Apart A B i j (X i) (X j)
structure Step (i:Nat) (X Y:Cfg):Prop where
 lt:i<N
 other:∀ j,j≠i→Y j=X j
 ins:Ins i (Y i)
 free:∀ j,j<N→j≠i→Apart A B i j (Y i) (X j)
 least:∀ q,Ins i q→(∀ j,j<N→j≠i→Apart A B i j q (X j))→(Y i).le q
inductive Steps:List Nat→Cfg→Cfg→Prop
 | nil {X:Cfg}:Steps [] X X
 | cons {i:Nat} {is:List Nat} {X Y Z:Cfg}:Step A B Ins N i X Y→Steps is Y Z→Steps (i::is) X Z
end
section
variable {A B:Nat→Nat→Bool→Int} {Ins:Nat→Qp→Prop} {N:Nat}
theorem Apart.symm (h:Apart A B i j x y):Apart A B j i y x:=by
 refine P0 h (fun h=>?_) (fun h=>?_) (fun h=>?_) (fun h=>?_) (fun h=>?_)
 ·exact .inl h.symm
 ·exact .inr (.inr (.inl h))
 ·exact .inr (.inl h)
 ·exact .inr (.inr (.inr (.inr h)))
 ·exact .inr (.inr (.inr (.inl h)))
theorem Step.sound (h:Step A B Ins N i X Y) (s:Sound A B Ins N X):Sound A B Ins N Y where
 ins j hj:=by
  by_cases e:j=i
  ·rw [e];exact h.ins
  ·rw [h.other j e];exact s.ins j hj
 apart j k hj hk hjk:=by
  by_cases e:j=i
  ·subst e
   rw [h.other k hjk.symm];exact h.free k hk hjk.symm
  ·by_cases e':k=i
   ·subst e'
    rw [h.other j hjk];exact (h.free j hj hjk).symm
   ·rw [h.other j e,h.other k e'];exact s.apart j k hj hk hjk
theorem Step.le (h:Step A B Ins N i X Y) (s:Sound A B Ins N X) (j:Nat):(Y j).le (X j):=by
 by_cases e:j=i
 ·subst e
  exact h.least _ (s.ins j h.lt) fun k hk hkj=>s.apart j k h.lt hk hkj.symm
 ·rw [h.other j e];exact Qp.le_refl _
theorem Steps.sound (h:Steps A B Ins N is X Y) (s:Sound A B Ins N X):Sound A B Ins N Y:=by
 induction h with
 | nil=>exact s
 | cons h _ ih=>exact ih (h.sound s)
theorem Steps.le (h:Steps A B Ins N is X Y) (s:Sound A B Ins N X) (j:Nat):(Y j).le (X j):=by
 induction h with
 | nil=>exact Qp.le_refl _
 | cons h _ ih=>exact Qp.le_trans (ih (h.sound s)) (h.le s j)
theorem NE (hA:∀ i n r,0<A i n r) (hB:∀ i n r,0<B i n r) (s:Sound A B Ins N F) (L:List Nat) (hN:∀ i∈L,i<N) (hp:L.Pairwise (fun x y=>(F y).s≤(F x).s)) (h0:L≠[]) :
  ∃ c∈L,∀ d∈L,d≠c→(F d).n=(F c).n→¬ ((F d).s<(F c).s+B c (F c).n (F c).r∧(F d).p<(F c).p+A c (F c).n (F c).r):=by
 induction L with
 | nil=>exact absurd rfl h0
 | cons m L ih=>
  by_cases hl:L=[]
  ·subst hl;exact ⟨m,List.mem_cons_self,fun d hd hne=>absurd (List.mem_singleton.mp hd) hne⟩
  have hp':=List.pairwise_cons.mp hp
  refine AC (ih (fun i hi=>hN i (List.mem_cons_of_mem _ hi)) hp'.2 hl) fun c hc hmin=>?_
  have hcm:=hp'.1 c hc
  by_cases hcm':m≠c∧(F m).n=(F c).n∧(F m).s<(F c).s+B c (F c).n (F c).r∧(F m).p<(F c).p+A c (F c).n (F c).r
  ·refine It hcm' fun hne hn h1 h2=>?_
   have ap:=s.apart c m (hN c (List.mem_cons_of_mem _ hc)) (hN m List.mem_cons_self) hne.symm
   have hBm:=hB m (F m).n (F m).r
   have hAm:=hA m (F m).n (F m).r
   have hAc:=hA c (F c).n (F c).r
   have hv:(F m).p+A m (F m).n (F m).r≤(F c).p:=by
    refine P0 ap (fun h=>?_) (fun h=>?_) (fun h=>?_) (fun h=>?_) (fun h=>?_)
    ·exact absurd hn.symm h
    ·exact (aj3 (.l (.a .v0 .v1) .v2 (.t .v2 (.a .v0 .v1) .e)) rfl h h2).elim
    ·exact h
    ·exact (aj3 (.l (.a .v0 .v1) .v2 (.t .v2 (.a .v0 .v1) .e)) rfl h h1).elim
    ·exact (aj3 (.l (.a .v0 .v1) .v2 (.l .v2 .v0 (.t .n0 .v1 .e))) rfl h hcm hBm).elim
   refine ⟨m,List.mem_cons_self,fun d hd hdm hdn hh=>?_⟩
   have hd':=(List.mem_cons.mp hd).resolve_left hdm
   by_cases hdc:d=c
   ·subst hdc;exact aj3 (.l (.a .v0 .v1) .v2 (.t .v2 (.a .v0 .v1) .e)) rfl hv hh.2
   ·have h3:=hp'.1 d hd'
    exact hmin d hd' hdc (hdn.trans hn) ⟨by exact ai4 .lt .v0 (.a .v1 .v2) (.t .v3 (.a .v1 .v2) (.l .v0 .v3 .e)) rfl h1 h3,by exact ai5 .lt .v0 (.a .v1 .v2) (.t .v0 (.a .v3 .v4) (.l (.a .v3 .v4) .v1 (.t .n0 .v2 .e))) rfl hh.2 hv hAc⟩
  ·refine ⟨c,List.mem_cons_of_mem _ hc,fun d hd hdc hdn hh=>?_⟩
   refine Or.elim (List.mem_cons.mp hd) (fun e=>?_) (fun hd'=>?_)
   ·subst e;exact hcm' ⟨hdc,hdn,hh⟩
   ·exact hmin d hd' hdc hdn hh
theorem Steps.done {F:Cfg} {c:Nat} {S:Nat→Prop} (hc:c<N) (sF:Sound A B Ins N F) (hS:∀ d,d<N→d≠c→S d→(F d).n=(F c).n→¬ ((F d).s<(F c).s+B c (F c).n (F c).r∧(F d).p<(F c).p+A c (F c).n (F c).r)) {is:List Nat} {X Y:Cfg} (h:Steps A B Ins N is X Y) (sX:Sound A B Ins N X)
  (hFY:∀ j,(F j).le (Y j)) (hprim:∀ j,j<N→(X j).n=(F j).n∧(X j).p=(F j).p) (hX:∀ j,j<N→¬ S j→X j=F j) (hA:∀ i n r,0<A i n r) (hin:c∈is):Y c=F c:=by
 induction h with
 | nil=>cases hin
 | @cons i is X Z Y st rest ih=>
  have sZ:=st.sound sX
  have hle:∀ j,(F j).le (Z j):=fun j=>Qp.le_trans (hFY j) (rest.le sZ j)
  have hp':∀ j,j<N→(Z j).n=(F j).n∧(Z j).p=(F j).p:=fun j hj=>Qp.between (hle j) (st.le sX j) (hprim j hj)
  have hX':∀ j,j<N→¬ S j→Z j=F j:=fun j hj hs=>by
   have h2:=st.le sX j
   rw [hX j hj hs] at h2
   exact Qp.le_antisymm h2 (hle j)
  by_cases e:c=i
  ·subst e
   have hfree:∀ j,j<N→j≠c→Apart A B c j (F c) (X j):=fun j hj hjc=>by
    by_cases hs:S j
    ·by_cases hn:(X j).n=(F c).n
     ·have hp:=hprim j hj
      have hle':=Qp.le_trans (hle j) (st.le sX j)
      have key:=hS j hj hjc hs (hp.1▸hn)
      have hs':(F j).s≤(X j).s:=Qp.le_s hle' hp
      by_cases h1:(F c).s+B c (F c).n (F c).r≤(X j).s
      ·exact .inr (.inr (.inr (.inl h1)))
      ·refine .inr (.inl ?_)
       rw [hp.2]
       refine Or.elim (Int.lt_or_le (F j).p ((F c).p+A c (F c).n (F c).r)) (fun h2=>?_) (fun h2=>?_)
       ·exact absurd ⟨by exact ai4 .lt .v0 (.a .v1 .v2) (.l .v0 .v3 (.m (.a .v1 .v2) .v3 .e)) rfl hs' h1,h2⟩ key
       ·exact h2
     ·exact .inl fun z=>hn z.symm
    ·rw [hX j hj hs];exact sF.apart c j hc hj hjc.symm
   have h1:=st.least (F c) (sF.ins c hc) hfree
   have e:Z c=F c:=Qp.le_antisymm h1 (hle c)
   have h2:=rest.le sZ c
   rw [e] at h2
   exact Qp.le_antisymm h2 (hFY c)
  ·exact ih sZ hFY hp' hX' ((List.mem_cons.mp hin).resolve_left e)
end
theorem M3 {α:Type} {p q:α→Bool} {l:List α} (h1:∀ x∈l,p x=true→q x=true) (h2:∃ x∈l,q x=true∧p x=false):l.countP p<l.countP q:=by
 refine Ab h2 fun x hx hq hp=>?_
 refine (List.append_of_mem hx).elim fun s h=>h.elim fun t e=>?_
 subst e
 rw [List.countP_append,List.countP_append,List.countP_cons_of_neg (fun z=>nomatch hp.symm.trans z),List.countP_cons_of_pos hq]
 exact Nat.add_lt_add_of_le_of_lt (List.countP_mono_left fun y hy=>h1 y (List.mem_append_left _ hy)) (Nat.lt_succ_of_le (List.countP_mono_left fun y hy=>h1 y (List.mem_append_right _ (List.mem_cons_of_mem _ hy))))
noncomputable def DS (f:Nat→Nat):Nat→Nat
 | 0=>0
 | n+1=>DS f n+f n
theorem L8 (h:∀ i,i<n→f i≤g i):DS f n≤DS g n:=by
 induction n with
 | zero=>exact Nat.le_refl _
 | succ n ih=>exact Nat.add_le_add (ih fun i hi=>h i (Nat.lt_succ_of_lt hi)) (h n (Nat.lt_succ_self n))
theorem QP (h:∀ i,i<n→f i≤g i) (e:DS g n≤DS f n) (i:Nat) (hi:i<n):f i=g i:=by
 induction n with
 | zero=>exact absurd hi (Nat.not_lt_zero _)
 | succ n ih=>
  have h2:=h n (Nat.lt_succ_self n)
  refine Or.elim (Nat.lt_succ_iff_lt_or_eq.mp hi) (fun hl=>?_) (fun hl=>?_)
  ·exact ih (fun i hi=>h i (Nat.lt_succ_of_lt hi)) (Nat.le_of_add_le_add_right (Nat.le_trans e (Nat.add_le_add_left h2 _))) hl
  ·rw [hl];exact Nat.le_antisymm h2 (Nat.le_of_add_le_add_left (Nat.le_trans e (Nat.add_le_add_right (L8 fun i hi=>h i (Nat.lt_succ_of_lt hi)) _)))
theorem Kn (h:∀ i,i<n→f i≤b):DS f n≤n*b:=by
 induction n with
 | zero=>exact Nat.zero_le _
 | succ n ih=>rw [Nat.succ_mul];exact Nat.add_le_add (ih fun i hi=>h i (Nat.lt_succ_of_lt hi)) (h n (Nat.lt_succ_self n))
section
variable {A B:Nat→Nat→Bool→Int} {Ins:Nat→Qp→Prop} {N:Nat}
open Classical in
noncomputable def Lv (N:Nat) (F X:Cfg):Nat:=(List.range N).countP fun i=>decide (X i≠F i)
structure Round (A B:Nat→Nat→Bool→Int) (Ins:Nat→Qp→Prop) (N:Nat) (X Y:Cfg):Prop where
 ex:∃ is,Steps A B Ins N is X Y∧∀ i,i<N→i∈is
theorem Round.sound (h:Round A B Ins N X Y) (s:Sound A B Ins N X):Sound A B Ins N Y:=h.ex.elim fun _ h=>h.1.sound s
theorem Round.le (h:Round A B Ins N X Y) (s:Sound A B Ins N X) (j:Nat):(Y j).le (X j):=h.ex.elim fun _ h=>h.1.le s j
theorem Round.fewer (hA:∀ i n r,0<A i n r) (hB:∀ i n r,0<B i n r) (h:Round A B Ins N X Y) (sF:Sound A B Ins N F) (sX:Sound A B Ins N X) (hFY:∀ j,(F j).le (Y j)) (hprim:∀ j,j<N→(X j).n=(F j).n∧(X j).p=(F j).p)
  (ho:∃ i,i<N∧X i≠F i):Lv N F Y<Lv N F X:=by
 classical
 refine AC h.ex fun is st hall=>?_
 have hYX:=st.le sX
 let L:=((List.range N).filter fun i=>decide (X i≠F i)).mergeSort fun x y=>decide ((F y).s≤(F x).s)
 have hmem:∀ i,i∈L↔i<N∧X i≠F i:=fun i=>by
  rw [List.mem_mergeSort,List.mem_filter,List.mem_range,decide_eq_true_iff]
 have hsort:L.Pairwise fun x y=>(F y).s≤(F x).s:=by
  have:=List.pairwise_mergeSort (le:=fun x y=>decide ((F y).s≤(F x).s)) (by intro a b c;simp only [decide_eq_true_eq];exact fun z0=>fun z1=>ai3 .le .v0 .v1 (.l .v0 .v2 (.l .v2 .v1 .e)) rfl z1 z0) (by intro a b;simp only [Bool.or_eq_true,decide_eq_true_eq];exact Classical.or_iff_not_imp_left.mpr fun z0=>ai2 .le .v0 .v1 (.m .v1 .v0 .e) rfl z0) ((List.range N).filter fun i=>decide (X i≠F i))
  exact this.imp fun h=>of_decide_eq_true h
 refine AC ho fun i0 h0 h0'=>?_
 refine AC (NE hA hB sF L (fun i hi=>((hmem i).mp hi).1) hsort (List.ne_nil_of_mem ((hmem i0).mpr ⟨h0,h0'⟩))) fun c hc hmin=>?_
 obtain ⟨hcN,hcX⟩:=(hmem c).mp hc
 have hY:Y c=F c:=st.done (S:=fun d=>X d≠F d) hcN sF (fun d hd hdc hs=>hmin d ((hmem d).mpr ⟨hd,hs⟩) hdc) sX hFY hprim (fun j _ hs=>Classical.not_not.mp hs) hA (hall c hcN)
 refine M3 (fun x hx hp=>?_) ⟨c,List.mem_range.mpr hcN,decide_eq_true hcX,decide_eq_false (not_not_intro hY)⟩
 rw [decide_eq_true_iff] at hp ⊢
 intro e
 have h1:=hYX x
 rw [e] at h1
 exact hp (Qp.le_antisymm h1 (hFY x))
variable {Yk:Nat→Cfg} {M:Nat}
theorem D5 (h0:Sound A B Ins N (Yk 0)) (hr:∀ k,k<M→Round A B Ins N (Yk k) (Yk (k+1))):∀ k,k≤M→Sound A B Ins N (Yk k)
 | 0,_=>h0
 | k+1,h=>(hr k h).sound (D5 h0 hr k (Nat.le_of_succ_le h))
theorem GX (h0:Sound A B Ins N (Yk 0)) (hr:∀ k,k<M→Round A B Ins N (Yk k) (Yk (k+1))):∀ d,j+d≤M→∀ i,(Yk (j+d) i).le (Yk j i)
 | 0,_,_=>Qp.le_refl _
 | d+1,h,i=>Qp.le_trans ((hr (j+d) h).le (D5 h0 hr _ (Nat.le_of_succ_le h)) i) (GX h0 hr d (Nat.le_of_succ_le h) i)
theorem Kk (hA:∀ i n r,0<A i n r) (hB:∀ i n r,0<B i n r) (h0:Sound A B Ins N (Yk 0)) (hr:∀ k,k<M→Round A B Ins N (Yk k) (Yk (k+1))∧∃ i,i<N∧Yk (k+1) i≠Yk k i) {j e:Nat} (hj:j+e≤M)
  (hprim:∀ i,i<N→(Yk j i).n=(Yk (j+e) i).n∧(Yk j i).p=(Yk (j+e) i).p):e≤N:=by
 have hr':∀ k,k<M→Round A B Ins N (Yk k) (Yk (k+1)):=fun k hk=>(hr k hk).1
 have sd:=D5 h0 hr'
 have key:∀ d,d≤e→Lv N (Yk (j+e)) (Yk (j+d))+d≤N:=by
  intro d
  induction d with
  | zero=>
   intro _
   refine Nat.le_trans (List.countP_le_length) ?_
   rw [List.length_range];exact Nat.le_refl _
  | succ d ih=>
   intro hd
   have ih:=ih (Nat.le_of_succ_le hd)
   have hlt:j+d<M:=Nat.lt_of_lt_of_le (Nat.add_lt_add_left hd j) hj
   have hle1:∀ i,(Yk (j+e) i).le (Yk (j+d+1) i):=fun i=>by
    have e':j+d+1+(e - (d+1))=j+e:=(Nat.add_assoc j (d+1) _).trans (congrArg (j+·) (Nat.add_sub_cancel' hd))
    have:=GX h0 hr' (j:=j+d+1) (e - (d+1)) (Nat.le_trans (Nat.le_of_eq e') hj) i
    rw [e'] at this;exact this
   have hle2:=fun i=>GX h0 hr' (j:=j) d (Nat.le_of_lt hlt) i
   have hle3:∀ i,(Yk (j+e) i).le (Yk (j+d) i):=fun i=>Qp.le_trans (hle1 i) ((hr' (j+d) hlt).le (sd _ (Nat.le_of_lt hlt)) i)
   have hp:∀ i,i<N→(Yk (j+d) i).n=(Yk (j+e) i).n∧(Yk (j+d) i).p=(Yk (j+e) i).p:=fun i hi=>by
    exact Qp.between (hle3 i) (hle2 i) (hprim i hi)
   have hne:∃ i,i<N∧Yk (j+d) i≠Yk (j+e) i:=by
    refine AC ((hr (j+d) hlt).2) fun i hi hn=>?_
    refine ⟨i,hi,fun z=>hn ?_⟩
    have h1:=(hr' (j+d) hlt).le (sd _ (Nat.le_of_lt hlt)) i
    have h2:=hle1 i
    rw [z] at h1
    rw [z];exact Qp.le_antisymm h1 h2
   have:=(hr (j+d) hlt).1.fewer hA hB (sd (j+e) hj) (sd _ (Nat.le_of_lt hlt)) hle1 hp hne
   show Lv N (Yk (j+e)) (Yk (j+d+1))+(d+1)≤N
   exact an4 .le (.a .v0 (.a .v1 .n1)) .v2 (.t .v0 .v3 (.l (.a .v3 .v1) .v2 .e)) rfl this ih
 have:=key e (Nat.le_refl _)
 exact an3 .le .v0 .v1 (.l (.a .v2 .v0) .v1 .e) rfl this
theorem IG (hA:∀ i n r,0<A i n r) (hB:∀ i n r,0<B i n r) (h0:Sound A B Ins N (Yk 0)) (hr:∀ k,k<M→Round A B Ins N (Yk k) (Yk (k+1))∧∃ i,i<N∧Yk (k+1) i≠Yk k i) (idx:Qp→Nat)
  (hi:∀ i x y,Ins i x→Ins i y→x.le y→idx x≤idx y∧(idx x=idx y→x.n=y.n∧x.p=y.p)):∀ j,j≤M→j+DS (fun i=>idx (Yk j i)) N*(N+1)≤DS (fun i=>idx (Yk 0 i)) N*(N+1)+N:=by
 have hr':∀ k,k<M→Round A B Ins N (Yk k) (Yk (k+1)):=fun k hk=>(hr k hk).1
 have sd:=D5 h0 hr'
 have mono:∀ a d,a+d≤M→∀ i,i<N→idx (Yk (a+d) i)≤idx (Yk a i):=fun a d h i hN=>(hi i _ _ ((sd _ h).ins i hN) ((sd _ (Nat.le_of_add_right_le h)).ins i hN) (GX h0 hr' d h i)).1
 have same:∀ a d,a+d≤M→DS (fun i=>idx (Yk a i)) N≤DS (fun i=>idx (Yk (a+d) i)) N→d≤N:=fun a d h hs=>
  Kk hA hB h0 hr h fun i hN=>by
   have e:=QP (fun i hN=>mono a d h i hN) hs i hN
   have:=(hi i _ _ ((sd _ h).ins i hN) ((sd _ (Nat.le_of_add_right_le h)).ins i hN) (GX h0 hr' d h i)).2 e
   exact ⟨this.1.symm,this.2.symm⟩
 have go:∀ n j,j≤n→j≤M→j+DS (fun i=>idx (Yk j i)) N*(N+1)≤DS (fun i=>idx (Yk 0 i)) N*(N+1)+N:=by
  intro n
  induction n with
  | zero=>intro j hj _;cases Nat.le_zero.mp hj;exact an2 .le (.a .n0 .v0) (.a .v0 .v1) .e rfl
  | succ n ih=>
   intro j hj hM
   refine Or.elim (Nat.lt_or_ge N j) (fun hl=>?_) (fun hl=>?_)
   ·have hc:j - (N+1)+(N+1)=j:=Nat.sub_add_cancel hl
    have hlt:DS (fun i=>idx (Yk j i)) N<DS (fun i=>idx (Yk (j - (N+1)) i)) N:=by
     refine Nat.lt_of_not_le fun h=>?_
     have:=same (j - (N+1)) (N+1) (hc.symm▸hM) (hc.symm▸h)
     exact am1 (.l (.a .v0 .n1) .v0 .e) rfl this
    have h1:=ih (j - (N+1)) (by exact an4 .le .v0 .v1 (.q (.a .v0 (.a .v2 .n1)) .v3 (.l .v3 (.a .v1 .n1) .e)) rfl hc hj) (by exact an4 .le .v0 .v1 (.q (.a .v0 (.a .v2 .n1)) .v3 (.l .v3 .v1 .e)) rfl hc hM)
    have h2:(DS (fun i=>idx (Yk j i)) N+1)*(N+1)≤DS (fun i=>idx (Yk (j - (N+1)) i)) N*(N+1):=Nat.mul_le_mul_right _ hlt
    rw [Nat.add_mul,Nat.one_mul] at h2
    exact an6 .le (.a .v0 .v1) (.a .v2 .v3) (.l (.a .v1 (.a .v3 .n1)) .v4 (.l (.a .v5 .v4) (.a .v2 .v3) (.p (.a .v5 (.a .v3 .n1)) .v0 .e))) rfl h2 h1 hc
   ·have h1:DS (fun i=>idx (Yk j i)) N≤DS (fun i=>idx (Yk 0 i)) N:=L8 fun i hN=>by
     have:=mono 0 j (by exact an2 .le (.a .n0 .v0) .v1 (.l .v0 .v1 .e) rfl hM) i hN
     rw [Nat.zero_add] at this;exact this
    have:=Nat.mul_le_mul_right (N+1) h1
    exact an4 .le (.a .v0 .v1) (.a .v2 .v3) (.l .v1 .v2 (.l .v0 .v3 .e)) rfl this hl
 exact fun j hj=>go j j (Nat.le_refl _) hj
end
end Mine.Internal
namespace Mine.Internal
open PySem
set_option genSizeOf false
set_option genInjectivity false
noncomputable def hbt (ss:List Sh) (n:Nat):Bool:=(ss.getD n ⟨0,0,false⟩).b
theorem K9 (h:ss[n]?=some sh):hbt ss n=sh.b:=by unfold hbt;rw [List.getD_eq_getElem?_getD,h];rfl
noncomputable def exA (b r:Bool) (w h:Int):Int:=if b=r then w else h
noncomputable def exB (b r:Bool) (w h:Int):Int:=if b=r then h else w
noncomputable def En.qp (ss:List Sh) (e:En):Qp:=⟨e.n,if hbt ss e.n=true then e.u else e.l,if hbt ss e.n=true then e.l else e.u,e.r⟩
abbrev Dm:=Int × Int × Bool
noncomputable def En.dm (e:En):Dm:=(e.w,e.h,e.t)
noncomputable def HB (D:List Dm) (i:Nat):Dm:=D.getD i (1,1,false)
noncomputable def EA (ss:List Sh) (D:List Dm) (i n:Nat) (r:Bool):Int:=exA (hbt ss n) r (HB D i).1 (HB D i).2.1
noncomputable def EB (ss:List Sh) (D:List Dm) (i n:Nat) (r:Bool):Int:=exB (hbt ss n) r (HB D i).1 (HB D i).2.1
noncomputable def shP (sh:Sh):Int:=if sh.b=true then sh.H else sh.W
noncomputable def shS (sh:Sh):Int:=if sh.b=true then sh.W else sh.H
structure InSh (ss:List Sh) (D:Dm) (q:Qp) (sh:Sh):Prop where
 at_:ss[q.n]?=some sh
 turn:q.r=true→D.2.2=true
 p0:0≤q.p
 s0:0≤q.s
 p1:q.p+exA sh.b q.r D.1 D.2.1≤shP sh
 s1:q.s+exB sh.b q.r D.1 D.2.1≤shS sh
noncomputable def Hv (ss:List Sh) (D:List Dm) (i:Nat) (q:Qp):Prop:=∃ sh,InSh ss (HB D i) q sh
noncomputable def dfl:En:=⟨"", 1,1,false,0,0,0,false⟩
noncomputable def cfg (ss:List Sh) (hs:List En):Cfg:=fun i=>(hs.getD i dfl).qp ss
noncomputable def dms (hs:List En):List Dm:=hs.map En.dm
structure Snd (ss:List Sh) (hs:List En):Prop where
 ins:∀ e∈hs,∃ sh,InSh ss e.dm (e.qp ss) sh
 apart:hs.Pairwise fun a b=>a.n=b.n→Ar a.ot.h a.ot.w a.ot.u a.ot.l b.ot.low
 sz:∀ e∈hs,0<e.w∧0<e.h
theorem D3 (hw:0<w) (hh:0<h):0<exA b r w h:=by unfold exA;split <;> assumption
theorem Eh (hw:0<w) (hh:0<h):0<exB b r w h:=by unfold exB;split <;> assumption
theorem CQ (h:hs[i]?=some e):HB (dms hs) i=e.dm:=by
 unfold HB dms;rw [List.getD_eq_getElem?_getD,List.getElem?_map,h];rfl
theorem BB (h:hs[i]?=some e):cfg ss hs i=e.qp ss:=by
 unfold cfg;rw [List.getD_eq_getElem?_getD,h];rfl
theorem DG (h:∀ e∈hs,0<e.w∧0<e.h) (i:Nat):0<(HB (dms hs) i).1∧0<(HB (dms hs) i).2.1:=by
 unfold HB dms
 rw [List.getD_eq_getElem?_getD,List.getElem?_map]
 cases e:hs[i]? with
 | none=>exact ⟨by decide,by decide⟩
 | some x=>exact h x (List.mem_of_getElem? e)
theorem Dg {e:En} {b:Bool} (hb:b=true):exA b e.r e.w e.h=e.ot.h∧exB b e.r e.w e.h=e.ot.w:=by
 subst hb;unfold exA exB En.ot;cases e.r <;> exact ⟨rfl,rfl⟩
theorem Dt {e:En} {b:Bool} (hb:b=false):exA b e.r e.w e.h=e.ot.w∧exB b e.r e.w e.h=e.ot.h:=by
 subst hb;unfold exA exB En.ot;cases e.r <;> exact ⟨rfl,rfl⟩
theorem Cq {e:En}:e.ot.u=e.u∧e.ot.l=e.l:=by unfold En.ot;cases e.r <;> exact ⟨rfl,rfl⟩
theorem G0:(A∨B∨C∨D)↔(C∨D∨A∨B):=⟨fun h=>Gy h (fun h=>.inr (.inr (.inl h))) (fun h=>.inr (.inr (.inr h))) .inl fun h=>.inr (.inl h),fun h=>Gy h (fun h=>.inr (.inr (.inl h))) (fun h=>.inr (.inr (.inr h))) .inl fun h=>.inr (.inl h)⟩
theorem Hs {ss:List Sh} {a b:En} {A B A' B':Int} (hA:A=exA (hbt ss a.n) a.r a.w a.h) (hB:B=exB (hbt ss a.n) a.r a.w a.h) (hA':A'=exA (hbt ss b.n) b.r b.w b.h) (hB':B'=exB (hbt ss b.n) b.r b.w b.h) :
  ((a.qp ss).n≠(b.qp ss).n∨(a.qp ss).p+A≤(b.qp ss).p∨(b.qp ss).p+A'≤(a.qp ss).p∨(a.qp ss).s+B≤(b.qp ss).s∨(b.qp ss).s+B'≤(a.qp ss).s)↔(a.n=b.n→Ar a.ot.h a.ot.w a.ot.u a.ot.l b.ot.low):=by
 subst hA hB hA' hB'
 by_cases hn:a.n=b.n
 ·have hq:(a.qp ss).n=(b.qp ss).n:=hn
  have h1:(∀ P:Prop,(a.n=b.n→P)↔P):=fun P=>⟨fun h=>h hn,fun h _=>h⟩
  rw [h1]
  unfold Ar Ot.low
  rw [(Cq (e:=a)).1,(Cq (e:=a)).2,(Cq (e:=b)).1,(Cq (e:=b)).2]
  cases hb:hbt ss a.n with
  | true=>
   have hb':hbt ss b.n=true:=hn▸hb
   rw [hb',(Dg (e:=a) rfl).1,(Dg (e:=a) rfl).2,(Dg (e:=b) rfl).1,(Dg (e:=b) rfl).2]
   unfold En.qp;rw [hb,hb']
   exact ⟨fun h=>h.resolve_left (not_not_intro hn),.inr⟩
  | false=>
   have hb':hbt ss b.n=false:=hn▸hb
   rw [hb',(Dt (e:=a) rfl).1,(Dt (e:=a) rfl).2,(Dt (e:=b) rfl).1,(Dt (e:=b) rfl).2]
   unfold En.qp;rw [hb,hb']
   exact ⟨fun h=>G0.mp (h.resolve_left (not_not_intro hn)),fun h=>.inr (G0.mp h)⟩
 ·exact ⟨fun _ h=>absurd h hn,fun _=>.inl hn⟩
theorem EU {a b:En} (h:a.n=b.n→Ar a.ot.h a.ot.w a.ot.u a.ot.l b.ot.low) (e:b.n=a.n):Ar b.ot.h b.ot.w b.ot.u b.ot.l a.ot.low:=
 Gy (h e.symm) (fun h=>.inr (.inl h)) .inl (fun h=>.inr (.inr (.inr h))) fun h=>.inr (.inr (.inl h))
abbrev LH (ss:List Sh) (D:List Dm) (N:Nat) (X:Cfg):Prop:=Sound (EA ss D) (EB ss D) (Hv ss D) N X
theorem Jm {ss:List Sh} {hs:List En} {i j:Nat} {a b:En} (ha:hs[i]?=some a) (hb:hs[j]?=some b):Apart (EA ss (dms hs)) (EB ss (dms hs)) i j (cfg ss hs i) (cfg ss hs j)↔(a.n=b.n→Ar a.ot.h a.ot.w a.ot.u a.ot.l b.ot.low):=by
 rw [BB ha,BB hb]
 unfold Apart
 exact Hs (by unfold EA;rw [CQ ha];rfl) (by unfold EB;rw [CQ ha];rfl) (by unfold EA;rw [CQ hb];rfl) (by unfold EB;rw [CQ hb];rfl)
theorem Snd.sound {ss:List Sh} {hs:List En} (h:Snd ss hs):LH ss (dms hs) hs.length (cfg ss hs) where
 ins i hi:=by
  have e:=List.getElem?_eq_getElem hi
  refine AQ (h.ins _ (List.mem_of_getElem? e)) fun sh h=>?_
  rw [BB e]
  exact ⟨sh,by rw [CQ e];exact h⟩
 apart i j hi hj hij:=by
  have ei:=List.getElem?_eq_getElem hi
  have ej:=List.getElem?_eq_getElem hj
  rw [Jm ei ej]
  have hp:=List.pairwise_iff_getElem.mp h.apart
  refine Or.elim (Nat.lt_or_ge i j) (fun hl=>?_) (fun hl=>?_)
  ·exact hp i j hi hj hl
  ·exact EU (hp j i hj hi (Nat.lt_of_le_of_ne hl hij.symm))
theorem Sound.snd (h:LH ss (dms hs) hs.length (cfg ss hs)) (hz:∀ e∈hs,0<e.w∧0<e.h):Snd ss hs where
 ins e he:=by
  refine AQ (List.mem_iff_getElem?.mp he) fun i hi=>?_
  refine AQ (h.ins i (List.getElem?_eq_some_iff.mp hi).1) fun sh h=>?_
  rw [BB hi,CQ hi] at h
  exact ⟨sh,h⟩
 apart:=List.pairwise_iff_getElem.mpr fun i j hi hj hl=>(Jm (List.getElem?_eq_getElem hi) (List.getElem?_eq_getElem hj)).mp (h.apart i j hi hj (Nat.ne_of_lt hl))
 sz:=hz
noncomputable def exT (r:Bool) (a b:Int):Int:=if r=true then b else a
theorem PU {p p' s s':Int} {R:Prop} (h:p<p'∨(p=p'∧s≤s')) (hr:R):p<p'∨(p=p'∧(s<s'∨(s=s'∧R))):=h.imp id fun h=>⟨h.1,(Int.lt_or_eq_of_le h.2).imp id fun e=>⟨e,hr⟩⟩
theorem Uy {p p' s s':Int} {R:Prop} (h:p<p'∨(p=p'∧s<s')):p<p'∨(p=p'∧(s<s'∨(s=s'∧R))):=h.imp id fun h=>⟨h.1,.inl h.2⟩
theorem RQ {x y u v:Int} (n:¬ (y<x∨(y=x∧v<u))):x<y∨(x=y∧u≤v):=
 (Int.lt_or_le x y).elim .inl fun h=>(fun e:x=y=>.inr ⟨e,Int.not_lt.mp fun z=>n (.inr ⟨e.symm,z⟩)⟩) (Int.le_antisymm (Int.not_lt.mp fun z=>n (.inl z)) h)
noncomputable def Un (O:List Bx) (P S a b:Int) (t:Bool):Option Pl3→Prop
 | none=>∀ p' s' r',(r'=true→t=true)→¬ Gd O P S (exT r' a b) (exT r' b a) p' s'
 | some (p,s,r)=>(r=true→t=true)∧Gd O P S (exT r a b) (exT r b a) p s ∧
  ∀ p' s' r',(r'=true→t=true)→Gd O P S (exT r' a b) (exT r' b a) p' s'→p<p'∨(p=p'∧(s<s'∨(s=s'∧(r=true→r'=true))))
theorem E3 {C:Bool→Prop} (h0:C false) (h1:C true):∀ r,C r:=Bool.rec h0 h1
theorem Pn {O:List Bx} {P S a b:Int} {t:Bool} (h:Two O P S a b t d):Un O P S a b t d:=by
 refine BN h.ex fun d1 d2 f1 f2 f3 e=>?_
 subst e
 cases d2 with
 | none=>
  cases d1 with
  | none=>exact fun p' s'=>E3 (fun _=>f1 p' s') fun hr=>f2 (hr rfl) p' s'
  | some x=>exact ⟨nofun,IsMin.good f1,fun p' s'=>E3 (fun _ g=>PU (IsMin.least f1 p' s' g) nofun) fun hr g=>absurd g (f2 (hr rfl) p' s')⟩
 | some y=>
  have ht:t=true:=by
   cases t with
   | true=>rfl
   | false=>exact nomatch f3 rfl
  have f2:=f2 ht
  cases d1 with
  | none=>exact ⟨fun _=>ht,IsMin.good f2,fun p' s'=>E3 (fun _ g=>absurd g (f1 p' s')) fun _ g=>PU (IsMin.least f2 p' s' g) fun _=>rfl⟩
  | some x=>
   by_cases hlt:y.1<x.1∨(y.1=x.1∧y.2<x.2)
   ·rw [show DR (some x) (some y)=some (y.1,y.2,true) from if_pos hlt]
    exact ⟨fun _=>ht,IsMin.good f2,fun p' s'=>E3 (fun _ g=>Uy (GE Int.lt_trans Int.lt_of_lt_of_le hlt (IsMin.least f1 p' s' g))) fun _ g=>PU (IsMin.least f2 p' s' g) fun _=>rfl⟩
   ·rw [show DR (some x) (some y)=some (x.1,x.2,false) from if_neg hlt]
    exact ⟨nofun,IsMin.good f1,fun p' s'=>E3 (fun _ g=>PU (IsMin.least f1 p' s' g) nofun) fun _ g=>PU (GE Int.lt_trans Int.le_trans (RQ hlt) (IsMin.least f2 p' s' g)) nofun⟩
theorem S6 {O:List Bx} (ha:0<a) (hb:0<b):∃ d,Two O P S a b t d:=by
 refine AQ (KL (O:=O) (P:=P) (S:=S) ha hb) fun d1 f1=>?_
 refine AQ (KL (O:=O) (P:=P) (S:=S) hb ha) fun d2 f2=>?_
 cases t with
 | true=>exact ⟨_,d1,d2,f1,fun _=>f2,nofun,rfl⟩
 | false=>exact ⟨_,d1,none,f1,nofun,fun _=>rfl,rfl⟩
noncomputable def Hc (b:Bool) (os:List Ot):List Bx:=if b=true then os.map Ot.low else os.map Ot.lef
noncomputable def DX (b:Bool):Pl3→Pl3
 | (u,l,r)=>if b=true then (u,l,r) else (l,u,r)
theorem IY {w h:Int} {t:Bool} {sh:Sh} {os:List Ot} {r:Option Pl3}:OnL w h t sh os r↔Two (Hc sh.b os) (shP sh) (shS sh) (exA sh.b false w h) (exB sh.b false w h) t (r.map (DX sh.b)):=by
 obtain ⟨W,H,b⟩:=sh
 cases b with
 | true=>cases r with
  | none=>exact Iff.rfl
  | some x=>exact Iff.rfl
 | false=>cases r with
  | none=>exact Iff.rfl
  | some x=>exact Iff.rfl
theorem La:exT r (exA b false w h) (exB b false w h)=exA b r w h∧exT r (exB b false w h) (exA b false w h)=exB b r w h:=by
 unfold exT exA exB;cases b <;> cases r <;> exact ⟨rfl,rfl⟩
theorem Sk {w h:Int} {t:Bool} {sh:Sh} {os:List Ot} (hw:0<w) (hh:0<h):∃ r,OnL w h t sh os r:=by
 refine AQ (S6 (O:=Hc sh.b os) (P:=shP sh) (S:=shS sh) (t:=t) (D3 (b:=sh.b) (r:=false) hw hh) (Eh (b:=sh.b) (r:=false) hw hh)) fun d hd=>?_
 refine ⟨d.map (DX sh.b),IY.mpr ?_⟩
 have:∀ x:Pl3,DX sh.b (DX sh.b x)=x:=fun ⟨u,l,r⟩=>by unfold DX;cases sh.b <;> rfl
 rw [Option.map_map]
 have e:(DX sh.b ∘ DX sh.b)=id:=funext this
 rw [e,Option.map_id];exact hd
theorem Lu {w h:Int} {t:Bool} (hw:0<w) (hh:0<h):∀ (l:List (Sh × List Ot)) (n:Nat),∃ r,FP (OnL w h t) n l r
 | [],_=>⟨_,.nil⟩
 | (sh,os)::l,n=>by
  refine AQ (Sk (t:=t) (sh:=sh) (os:=os) hw hh) fun r hr=>?_
  cases r with
  | some p=>exact ⟨_,.hit hr⟩
  | none=>
   refine AQ (Lu (t:=t) hw hh l (n+1)) fun r' h'=>?_
   exact ⟨r',.miss hr h'⟩
theorem Sz (h:FP On n l r) :
  (r=none∧∀ x∈l,On x.1 x.2 none)∨(∃ k x p,l[k]?=some x∧On x.1 x.2 (some p)∧r=some (((n+k:Nat):Int),p.1,p.2.1,p.2.2)∧∀ j y,j<k→l[j]?=some y→On y.1 y.2 none):=by
 induction h with
 | nil=>exact .inl ⟨rfl,fun x h=>nomatch h⟩
 | @hit n sh os l p o=>exact .inr ⟨0,(sh,os),p,rfl,o,rfl,fun j y hj=>absurd hj (Nat.not_lt_zero j)⟩
 | @miss n sh os l r o _ ih=>
  refine ih.elim (fun h=>.inl ⟨h.1,List.forall_mem_cons.mpr ⟨o,h.2⟩⟩) fun h=>CC h fun k x p h1 h2 h3 h4=>?_
  refine .inr ⟨k+1,x,p,h1,h2,h3.trans (by rw [Nat.succ_add_eq_add_succ]),fun j y hj hy=>?_⟩
  cases j with
  | zero=>exact Option.some.inj hy▸o
  | succ j=>exact h4 j y (Nat.lt_of_succ_lt_succ hj) hy
theorem MT {b:Bool} {os:List Ot} {P:Bx→Prop}:(∀ o∈Hc b os,P o)↔∀ o∈os,P (if b=true then o.low else o.lef):=by
 cases b with
 | true=>exact List.forall_mem_map
 | false=>exact List.forall_mem_map
noncomputable def En.to (e:En) (n:Nat) (u l:Int) (r:Bool):En:={ e with n:=n,u:=u,l:=l,r:=r }
noncomputable def BG (ss:List Sh) (e:En) (q:Qp):En:=e.to q.n (if hbt ss q.n=true then q.p else q.s) (if hbt ss q.n=true then q.s else q.p) q.r
theorem Da:(BG ss e q).qp ss=q:=by
 unfold BG En.to En.qp
 cases h:hbt ss q.n <;> simp [h]
theorem OF {ss:List Sh} {hs:List En} {skip:Option Str} {e:En} {sh:Sh} (hsh:ss[e.n]?=some sh):Gd (Hc sh.b (Ak hs skip e.n)) (shP sh) (shS sh) (exA sh.b e.r e.w e.h) (exB sh.b e.r e.w e.h) (e.qp ss).p (e.qp ss).s ↔
  (0≤(e.qp ss).p∧0≤(e.qp ss).s∧(e.qp ss).p+exA sh.b e.r e.w e.h≤shP sh∧(e.qp ss).s+exB sh.b e.r e.w e.h≤shS sh)∧∀ x∈hs,x.n=e.n→CT skip x.name=true→Ar e.ot.h e.ot.w e.ot.u e.ot.l x.ot.low:=by
 have hb:=K9 hsh
 have key:(∀ o∈Hc sh.b (Ak hs skip e.n),Ar (exA sh.b e.r e.w e.h) (exB sh.b e.r e.w e.h) (e.qp ss).p (e.qp ss).s o)↔∀ x∈hs,x.n=e.n→CT skip x.name=true→Ar e.ot.h e.ot.w e.ot.u e.ot.l x.ot.low:=by
  rw [MT]
  have h1:∀ x:En,x.n=e.n→(Ar (exA sh.b e.r e.w e.h) (exB sh.b e.r e.w e.h) (e.qp ss).p (e.qp ss).s (if sh.b=true then x.ot.low else x.ot.lef)↔Ar e.ot.h e.ot.w e.ot.u e.ot.l x.ot.low):=fun x hn=>by
   unfold En.qp
   rw [hb]
   cases hbb:sh.b with
   | true=>
    rw [(Dg (e:=e) rfl).1,(Dg (e:=e) rfl).2,(Cq (e:=e)).1,(Cq (e:=e)).2]
    exact Iff.rfl
   | false=>
    rw [(Dt (e:=e) rfl).1,(Dt (e:=e) rfl).2,(Cq (e:=e)).1,(Cq (e:=e)).2]
    exact G0
  refine ⟨fun h x hx hn hk=>(h1 x hn).mp (h x.ot (List.mem_map.mpr ⟨x,List.mem_filter.mpr ⟨hx,by rw [decide_eq_true hn,hk];rfl⟩,rfl⟩)),fun h o ho=>?_⟩
  refine AC (List.mem_map.mp ho) fun x hx ze1=>?_;subst ze1
  obtain ⟨hx,hp⟩:=List.mem_filter.mp hx
  have hp:=Bool.and_eq_true_iff.mp hp
  exact (h1 x (of_decide_eq_true hp.1)).mpr (h x hx (of_decide_eq_true hp.1) hp.2)
 exact ⟨fun g=>⟨⟨g.p0,g.s0,g.p1,g.s1⟩,key.mp g.clear⟩,fun g=>⟨g.1.1,g.1.2.1,g.1.2.2.1,g.1.2.2.2,key.mpr g.2⟩⟩
structure Ok (ss:List Sh) (hs:List En) (skip:Option Str) (e:En):Prop where
 ins:∃ sh,InSh ss e.dm (e.qp ss) sh
 clear:∀ x∈hs,x.n=e.n→CT skip x.name=true→Ar e.ot.h e.ot.w e.ot.u e.ot.l x.ot.low
theorem TW {ss:List Sh} {hs:List En} {skip:Option Str} {k:Nat} {x:Sh × List Ot} (h:(ss.zip (AT ss.length hs skip))[k]?=some x):ss[k]?=some x.1∧x.2=Ak hs skip k:=by
 rw [List.getElem?_zip_eq_some] at h
 obtain ⟨h1,h2⟩:=h
 rw [BV (List.getElem?_eq_some_iff.mp h1).1] at h2
 exact ⟨h1,(Option.some.inj h2).symm⟩
theorem Pi {ss:List Sh} {hs:List En} {skip:Option Str} {k:Nat} {sh:Sh} (h:ss[k]?=some sh):(ss.zip (AT ss.length hs skip))[k]?=some (sh,Ak hs skip k):=by
 rw [List.getElem?_zip_eq_some]
 exact ⟨h,BV (List.getElem?_eq_some_iff.mp h).1⟩
theorem Qd:(if b=true then (DX b p).1 else (DX b p).2.1)=p.1∧(if b=true then (DX b p).2.1 else (DX b p).1)=p.2.1∧(DX b p).2.2=p.2.2:=by
 cases b <;> exact ⟨rfl,rfl,rfl⟩
theorem El {ss:List Sh} {hs:List En} {skip:Option Str} {e:En} {r:Option Pl4} (F:FP (OnL e.w e.h e.t) 0 (ss.zip (AT ss.length hs skip)) r) :
  (r=none∧∀ q:Qp,¬ Ok ss hs skip (BG ss e q))∨(∃ q:Qp,r=some ((q.n:Int),(BG ss e q).u,(BG ss e q).l,q.r)∧Ok ss hs skip (BG ss e q)∧∀ q':Qp,Ok ss hs skip (BG ss e q')→q.le q'):=by
 have gd:∀ {q:Qp} {sh},ss[q.n]?=some sh→Ok ss hs skip (BG ss e q)→(q.r=true→e.t=true)∧Gd (Hc sh.b (Ak hs skip q.n)) (shP sh) (shS sh) (exT q.r (exA sh.b false e.w e.h) (exB sh.b false e.w e.h)) (exT q.r (exB sh.b false e.w e.h) (exA sh.b false e.w e.h)) q.p q.s:=fun {q sh} hsh ok=>by
  refine AQ ok.ins fun sh' i=>?_
  have g:=OF (ss:=ss) (hs:=hs) (skip:=skip) (e:=BG ss e q) hsh
  rw [Da] at i g
  rw [La.1,La.2]
  have i:InSh ss (BG ss e q).dm q sh:=Option.some.inj (i.at_.symm.trans hsh)▸i
  exact ⟨i.turn,g.mpr ⟨⟨i.p0,i.s0,i.p1,i.s1⟩,ok.clear⟩⟩
 have nog:∀ (q:Qp) sh,ss[q.n]?=some sh→OnL e.w e.h e.t sh (Ak hs skip q.n) none→¬ Ok ss hs skip (BG ss e q):=fun q sh hsh o ok=>Pn (IY.mp o) q.p q.s q.r (gd hsh ok).1 (gd hsh ok).2
 have hin:∀ {q:Qp},Ok ss hs skip (BG ss e q)→∃ sh,ss[q.n]?=some sh:=fun {q} ok=>AQ ok.ins fun sh i=>by rw [Da] at i;exact ⟨sh,i.at_⟩
 refine (Sz F).elim (fun h=>.inl ⟨h.1,fun q ok=>(hin ok).elim fun sh i=>nog q sh i (h.2 _ (List.mem_of_getElem? (Pi i))) ok⟩) fun h=>.inr (CC h fun k x p h1 h2 h3 h4=>?_)
 refine (TW h1).elim fun hs1 hs2=>?_
 have T:=Pn (IY.mp h2)
 have hbk:hbt ss k=x.1.b:=K9 hs1
 have un:=Qd (b:=x.1.b) (p:=p)
 have qe:(k:Int)=((0+k:Nat):Int):=by rw [Nat.zero_add]
 rw [hs2] at T
 have g:=OF (ss:=ss) (hs:=hs) (skip:=skip) (e:=BG ss e ⟨k,(DX x.1.b p).1,(DX x.1.b p).2.1,(DX x.1.b p).2.2⟩) hs1
 have T2:=T.2.1
 rw [La.1,La.2] at T2
 rw [Da] at g
 refine ⟨⟨k,(DX x.1.b p).1,(DX x.1.b p).2.1,(DX x.1.b p).2.2⟩,?_,⟨⟨x.1,?_⟩,(g.mp T2).2⟩,fun q' ok=>?_⟩
 ·rw [h3,← qe]
  unfold BG En.to
  dsimp only
  rw [hbk,un.1,un.2.1,un.2.2]
 ·rw [Da];exact ⟨hs1,T.1,T2.p0,T2.s0,T2.p1,T2.s1⟩
 ·refine (hin ok).elim fun sh' i=>?_
  refine EH (Nat.lt_trichotomy q'.n k) (fun hlt=>?_) (fun heq=>?_) .inl
  ·exact absurd ok (nog q' sh' i (h4 q'.n _ hlt (Pi i)))
  ·have g':=gd (heq.symm▸hs1) ok
   rw [heq] at g'
   exact .inr ⟨heq.symm,T.2.2 q'.p q'.s q'.r g'.1 g'.2⟩
end Mine.Internal
namespace Mine.Internal
open PySem
set_option genSizeOf false
set_option genInjectivity false
structure FirstOf (ss:List Sh) (hs:List En) (e e':En):Prop where
 to:e'=e.to e'.n e'.u e'.l e'.r
 fp:FP (OnL e.w e.h e.t) 0 (ss.zip (AT ss.length hs (some e.name))) (some ((e'.n:Int),e'.u,e'.l,e'.r))
theorem FL:BG ss e (e.qp ss)=e:=by
 unfold BG En.to En.qp
 cases hbt ss e.n <;> rfl
theorem FR {α:Type} {l:List α} {i:Nat} {x y:α} (h:l[i]?=some x):(l.set i y)[i]?=some y:=List.getElem?_set_self (List.getElem?_eq_some_iff.mp h).1
theorem Rm (h:j≠i):cfg ss (hs.set i e) j=cfg ss hs j:=by
 unfold cfg;rw [List.getD_eq_getElem?_getD,List.getD_eq_getElem?_getD,List.getElem?_set_ne h.symm]
theorem Ej {α:Type} {l:List α} {i:Nat} {x:α} (h:l[i]?=some x):l.set i x=l:=by
 refine AQ (List.getElem?_eq_some_iff.mp h) fun hi ze1=>?_;subst ze1
 exact List.set_getElem_self hi
theorem LS (h:hs[i]?=some e) (hd:e'.dm=e.dm):dms (hs.set i e')=dms hs:=by
 unfold dms
 rw [List.map_set,hd]
 exact Ej (by rw [List.getElem?_map,h];rfl)
theorem HK {hs:List En} {i:Nat} {e e':En} (h:hs[i]?=some e) (hd:e'.name=e.name):(hs.set i e').map (·.name)=hs.map (·.name):=by
 rw [List.map_set,hd]
 exact Ej (by rw [List.getElem?_map,h];rfl)
theorem Lo {hs:List En} {i j:Nat} {a b:En} (hn:(hs.map (·.name)).Nodup) (ha:hs[i]?=some a) (hb:hs[j]?=some b) (h:j≠i):b.name≠a.name:=fun e=>by
 refine h ((List.getElem?_inj (by rw [List.length_map];exact (List.getElem?_eq_some_iff.mp hb).1) hn).mp ?_)
 rw [List.getElem?_map,List.getElem?_map,ha,hb]
 exact congrArg some e
theorem Ev:CT (some x) y=true↔y≠x:=by
 unfold CT
 rw [Bool.not_eq_true',beq_eq_false_iff_ne]
 exact ⟨fun h e=>h (congrArg some e.symm),fun h e=>h (Option.some.inj e).symm⟩
abbrev No (ss:List Sh) (D:List Dm) (N i:Nat) (X Y:Cfg):Prop:=Step (EA ss D) (EB ss D) (Hv ss D) N i X Y
abbrev Rj (ss:List Sh) (D:List Dm) (N:Nat) (is:List Nat) (X Y:Cfg):Prop:=Steps (EA ss D) (EB ss D) (Hv ss D) N is X Y
theorem GF {ss:List Sh} {hs:List En} {i:Nat} {e:En} {q:Qp} (hn:(hs.map (·.name)).Nodup) (hi:hs[i]?=some e):(∀ x∈hs,x.n=(BG ss e q).n→CT (some e.name) x.name=true→Ar (BG ss e q).ot.h (BG ss e q).ot.w (BG ss e q).ot.u (BG ss e q).ot.l x.ot.low) ↔
  ∀ j,j<hs.length→j≠i→Apart (EA ss (dms hs)) (EB ss (dms hs)) i j q (cfg ss hs j):=by
 have key:∀ j x,hs[j]?=some x→(Apart (EA ss (dms hs)) (EB ss (dms hs)) i j q (cfg ss hs j)↔((BG ss e q).n=x.n→Ar (BG ss e q).ot.h (BG ss e q).ot.w (BG ss e q).ot.u (BG ss e q).ot.l x.ot.low)):=fun j x hx=>by
  have:=Hs (ss:=ss) (a:=BG ss e q) (b:=x) (A:=EA ss (dms hs) i q.n q.r) (B:=EB ss (dms hs) i q.n q.r) (A':=EA ss (dms hs) j x.n x.r) (B':=EB ss (dms hs) j x.n x.r) (by unfold EA;rw [CQ hi];rfl) (by unfold EB;rw [CQ hi];rfl) (by unfold EA;rw [CQ hx];rfl) (by unfold EB;rw [CQ hx];rfl)
  rw [Da] at this
  rw [BB hx];exact this
 refine ⟨fun h j hj hji=>?_,fun h x hx hxn hk=>?_⟩
 ·have hx:=List.getElem?_eq_getElem hj
  exact (key j _ hx).mpr fun hxn=>h _ (List.mem_of_getElem? hx) hxn.symm (Ev.mpr (Lo hn hi hx hji))
 ·refine AQ (List.mem_iff_getElem?.mp hx) fun j hj=>?_
  refine (key j x hj).mp (h j (List.getElem?_eq_some_iff.mp hj).1 fun z=>Ev.mp hk ?_) hxn.symm
  subst z
  rw [hi] at hj;cases hj;rfl
theorem HL (s:Snd ss hs) (hn:(hs.map (·.name)).Nodup) (hi:hs[i]?=some e) (F:FP (OnL e.w e.h e.t) 0 (ss.zip (AT ss.length hs (some e.name))) r) :
  ∃ e',r=some ((e'.n:Int),e'.u,e'.l,e'.r)∧FirstOf ss hs e e'∧No ss (dms hs) hs.length i (cfg ss hs) (cfg ss (hs.set i e')):=by
 have hlt:=(List.getElem?_eq_some_iff.mp hi).1
 have so:=s.sound
 rcases El F with ⟨e1,h⟩ | ⟨q,e1,ok,least⟩
 ·exfalso
  refine h (e.qp ss) ⟨?_,(GF hn hi).mpr fun j hj hji=>?_⟩
  ·rw [FL];exact s.ins e (List.mem_of_getElem? hi)
  ·have:=so.apart i j hlt hj hji.symm
   rw [BB hi] at this;exact this
 ·refine ⟨BG ss e q,e1,⟨rfl,e1▸F⟩,⟨hlt,fun j hj=>Rm hj,?_,fun j hj hji=>?_,fun q' hin hfree=>?_⟩⟩
  ·rw [BB (FR hi),Da]
   refine AQ ok.ins fun sh h=>?_
   rw [Da] at h
   exact ⟨sh,by rw [CQ hi];exact h⟩
  ·rw [BB (FR hi),Da]
   exact (GF hn hi).mp ok.clear j hj hji
  ·rw [BB (FR hi),Da]
   refine AQ hin fun sh h=>?_
   rw [CQ hi] at h
   exact least q' ⟨⟨sh,by rw [Da];exact h⟩,(GF hn hi).mpr hfree⟩
inductive Rnd (ss:List Sh):List Nat→List En→List (En × En)→List En→Prop
 | nil {hs:List En}:Rnd ss [] hs [] hs
 | stay {i:Nat} {is:List Nat} {hs hs':List En} {e:En} {mv:List (En × En)}:hs[i]?=some e→FirstOf ss hs e e→Rnd ss is hs mv hs'→Rnd ss (i::is) hs mv hs'
 | move {i:Nat} {is:List Nat} {hs hs':List En} {e e':En} {mv:List (En × En)}:hs[i]?=some e→FirstOf ss hs e e'→e'.qp ss≠e.qp ss→Rnd ss is (hs.set i e') mv hs'→Rnd ss (i::is) hs ((e,e')::mv) hs'
theorem Rnd.append (h:Rnd ss is hs mv hs') (h':Rnd ss js hs' mv' hs''):Rnd ss (is++js) hs (mv++mv') hs'':=by
 induction h with
 | nil=>exact h'
 | stay a b _ ih=>exact .stay a b (ih h')
 | move a b c _ ih=>exact .move a b c (ih h')
theorem FirstOf.dm (h:FirstOf ss hs e e'):e'.dm=e.dm∧e'.name=e.name:=by rw [h.to];exact ⟨rfl,rfl⟩
theorem Rnd.same {ss:List Sh} {is:List Nat} {hs hs':List En} {mv:List (En × En)} (h:Rnd ss is hs mv hs'):dms hs'=dms hs∧hs'.map (·.name)=hs.map (·.name)∧mv.length≤is.length∧(mv=[]→hs'=hs∧∀ i∈is,∃ e,hs[i]?=some e∧FirstOf ss hs e e):=by
 induction h with
 | nil=>exact ⟨rfl,rfl,Nat.le_refl _,fun _=>⟨rfl,fun _ h=>nomatch h⟩⟩
 | stay a b _ ih=>exact ⟨ih.1,ih.2.1,Nat.le_succ_of_le ih.2.2.1,fun hm=>⟨(ih.2.2.2 hm).1,fun j hj=>(List.mem_cons.mp hj).elim (fun z=>z▸⟨_,a,b⟩) ((ih.2.2.2 hm).2 j)⟩⟩
 | move a b c _ ih=>exact ⟨ih.1.trans (LS a b.dm.1),ih.2.1.trans (HK a b.dm.2),Nat.succ_le_succ ih.2.2.1,fun hm=>nomatch hm⟩
theorem D0 (h:dms hs'=dms hs):hs'.length=hs.length:=by
 have:=congrArg List.length h
 unfold dms at this
 rwa [List.length_map,List.length_map] at this
theorem Sl (h:dms hs'=dms hs) (hz:∀ e∈hs,0<e.w∧0<e.h):∀ e∈hs',0<e.w∧0<e.h:=fun e he=>by
 have:e.dm∈dms hs':=List.mem_map.mpr ⟨e,he,rfl⟩
 rw [h] at this
 refine AC (List.mem_map.mp this) fun x hx e1=>?_
 have:=hz x hx
 have e2:x.w=e.w∧x.h=e.h:=⟨congrArg (·.1) e1,congrArg (fun d:Dm=>d.2.1) e1⟩
 rw [e2.1,e2.2] at this;exact this
theorem Gr (s:Snd ss hs) (hn:(hs.map (·.name)).Nodup) (hi:hs[i]?=some e) (F:FirstOf ss hs e e'):No ss (dms hs) hs.length i (cfg ss hs) (cfg ss (hs.set i e')):=by
 refine Ab (HL s hn hi F.fp) fun e'' h1 h2 h3=>?_
 have:e'=e'':=by
  rw [F.to,h2.to]
  have h1:=Option.some.inj h1
  rw [Prod.mk.injEq,Prod.mk.injEq,Prod.mk.injEq] at h1
  rw [Int.ofNat.inj h1.1,h1.2.1,h1.2.2.1,h1.2.2.2]
 rw [this];exact h3
theorem Rnd.steps {ss:List Sh} {is:List Nat} {hs hs':List En} {mv:List (En × En)} (h:Rnd ss is hs mv hs') (s:Snd ss hs) (hn:(hs.map (·.name)).Nodup):Rj ss (dms hs) hs.length is (cfg ss hs) (cfg ss hs')∧Snd ss hs'∧(mv≠[]→∃ i,i<hs.length∧cfg ss hs' i≠cfg ss hs i):=by
 induction h with
 | nil=>exact ⟨.nil,s,fun h=>absurd rfl h⟩
 | @stay i is hs hs' e mv a b _ ih=>
  refine Ay (ih s hn) fun h1 h2 h3=>?_
  refine ⟨.cons ?_ h1,h2,h3⟩
  have:=Gr s hn a b
  rw [Ej a] at this;exact this
 | @move i is hs hs' e e' mv a b c rest ih=>
  have st:=Gr s hn a b
  have hd:=LS a b.dm.1
  have hl:(hs.set i e').length=hs.length:=List.length_set ..
  have s':Snd ss (hs.set i e'):=Sound.snd (by rw [hd,hl];exact st.sound s.sound) (Sl hd s.sz)
  refine Ay (ih s' (by rw [HK a b.dm.2];exact hn)) fun h1 h2 h3=>?_
  rw [hd,hl] at h1
  refine ⟨.cons st h1,h2,fun _=>⟨i,st.lt,fun z=>c ?_⟩⟩
  have l1:=h1.le (st.sound s.sound) i
  rw [z] at l1
  have l2:=st.le s.sound i
  have:=Qp.le_antisymm l2 l1
  rw [BB (FR a),BB a] at this;exact this
inductive Rnds (ss:List Sh) (hs:List En):Nat→List (En × En)→List En→Prop
 | nil:Rnds ss hs 0 [] hs
 | next {k:Nat} {mv mv':List (En × En)} {hs' hs'':List En} {p:List Nat}:Rnds ss hs k mv hs'→p.Perm (List.range hs'.length)→p.Pairwise (B7 (hs'.map (En.key ss)))→Rnd ss p hs' mv' hs''→mv'≠[]→Rnds ss hs (k+1) (mv++mv') hs''
theorem Rnds.same (h:Rnds ss hs k mv hs'):dms hs'=dms hs∧hs'.map (·.name)=hs.map (·.name)∧mv.length≤k*hs.length:=by
 induction h with
 | nil=>exact ⟨rfl,rfl,by simp⟩
 | @next k mv mv' hs' hs'' p _ hp _ hr _ ih=>
  have:=hr.same
  refine ⟨this.1.trans ih.1,this.2.1.trans ih.2.1,?_⟩
  have h1:=this.2.2.1
  rw [hp.length_eq,List.length_range,D0 ih.1] at h1
  rw [List.length_append,Nat.succ_mul]
  exact Nat.add_le_add ih.2.2 h1
theorem Rnds.seq (h:Rnds ss hs k mv hs') (s:Snd ss hs) (hn:(hs.map (·.name)).Nodup):Snd ss hs'∧∃ Y:Nat→Cfg,Y 0=cfg ss hs∧Y k=cfg ss hs' ∧
  ∀ j,j<k→Round (EA ss (dms hs)) (EB ss (dms hs)) (Hv ss (dms hs)) hs.length (Y j) (Y (j+1))∧∃ i,i<hs.length∧Y (j+1) i≠Y j i:=by
 induction h with
 | nil=>exact ⟨s,fun _=>cfg ss hs,rfl,rfl,fun j hj=>absurd hj (Nat.not_lt_zero j)⟩
 | @next k mv mv' hs' hs'' p h hp _ hr hm ih=>
  refine FA ih fun s' Y y0 yk yr=>?_
  have hsame:=h.same
  refine Ay (hr.steps s' (by rw [hsame.2.1];exact hn)) fun h1 h2 h3=>?_
  have hl:=D0 hsame.1
  rw [hsame.1,hl] at h1
  rw [hl] at h3 hp
  have hY:∃ Y':Nat→Cfg,(∀ j,j≤k→Y' j=Y j)∧Y' (k+1)=cfg ss hs'':=⟨fun j=>if j≤k then Y j else cfg ss hs'',fun j h=>if_pos h,if_neg (Nat.not_succ_le_self k)⟩
  refine AC hY fun Y' y1 y2=>⟨h2,Y',(y1 0 (Nat.zero_le k)).trans y0,y2,fun j hj=>?_⟩
  refine Or.elim (Nat.lt_succ_iff_lt_or_eq.mp hj) (fun hlt=>?_) (fun e=>?_)
  ·rw [y1 j (Nat.le_of_lt hlt),y1 (j+1) hlt];exact yr j hlt
  ·rw [e,y1 k (Nat.le_refl k),y2,yk]
   exact ⟨⟨p,h1,fun i hi=>hp.mem_iff.mpr (List.mem_range.mpr hi)⟩,h3 hm⟩
noncomputable def Cz (N L K:Nat):Nat:=N*(L*K)*(N+1)+N
theorem Rnds.bound {k:Nat} {K:Nat} (h:Rnds ss hs k mv hs') (s:Snd ss hs) (hn:(hs.map (·.name)).Nodup) (hK:∀ sh∈ss,shP sh≤K):k≤Cz hs.length ss.length K:=by
 refine FA (h.seq s hn) fun _ Y y0 _ yr=>?_
 have hz:=DG s.sz
 have low:∀ i x,Hv ss (dms hs) i x→x.n<ss.length∧0≤x.p∧x.p.toNat<K:=fun i x h=>h.elim fun sh h=>
  ⟨(List.getElem?_eq_some_iff.mp h.at_).1,h.p0,(Int.toNat_lt h.p0).mpr (Int.lt_of_lt_of_le (Int.lt_add_of_pos_right _ (D3 (hz i).1 (hz i).2)) (Int.le_trans h.p1 (hK sh (List.mem_of_getElem? h.at_))))⟩
 have so:Sound (EA ss (dms hs)) (EB ss (dms hs)) (Hv ss (dms hs)) hs.length (Y 0):=y0▸s.sound
 have:=IG (M:=k) (Yk:=Y) (fun i n r=>D3 (hz i).1 (hz i).2) (fun i n r=>Eh (hz i).1 (hz i).2) so yr (fun q=>q.n*K+q.p.toNat) (fun i x y hx hy hxy=>by
  have h1:=low i x hx
  have h2:=low i y hy
  refine (Qp.le_np hxy).elim (fun hlt=>?_) fun heq=>?_
  ·have:(x.n+1)*K≤y.n*K:=Nat.mul_le_mul_right K hlt
   rw [Nat.succ_mul] at this
   have lt:=Nat.lt_of_lt_of_le (Nat.add_lt_add_left h1.2.2 _) (Nat.le_trans this (Nat.le_add_right _ y.p.toNat))
   exact ⟨Nat.le_of_lt lt,fun e=>absurd e (Nat.ne_of_lt lt)⟩
  ·rw [heq.1]
   exact ⟨Nat.add_le_add_left (Int.toNat_le_toNat heq.2) _,fun e=>⟨rfl,(Int.toNat_of_nonneg h1.2.1).symm.trans ((congrArg Nat.cast (Nat.add_left_cancel e)).trans (Int.toNat_of_nonneg h2.2.1))⟩⟩) k (Nat.le_refl _)
 have h0:DS (fun i=>(Y 0 i).n*K+(Y 0 i).p.toNat) hs.length≤hs.length*(ss.length*K):=Kn fun i hi=>by
  have h1:=low i _ (so.ins i hi)
  have:((Y 0 i).n+1)*K≤ss.length*K:=Nat.mul_le_mul_right K h1.1
  rw [Nat.succ_mul] at this
  exact Nat.le_trans (Nat.add_le_add_left (Nat.le_of_lt h1.2.2) _) this
 have h2:=Nat.mul_le_mul_right (hs.length+1) h0
 unfold Cz
 exact an5 .le .v0 (.a .v1 .v2) (.l (.a .v0 .v3) (.a .v4 .v2) (.l .v4 .v1 .e)) rfl this h2
end Mine.Internal
namespace Mine.Internal
open PySem
set_option genSizeOf false
set_option genInjectivity false
noncomputable def En.by (m:Int) (e:En):En:=⟨e.name,e.w*m,e.h*m,e.t,e.n,e.u*m,e.l*m,e.r⟩
theorem En.by_ot {m:Int} {e:En}:(e.by m).ot=e.ot.by m:=by unfold En.ot En.by Ot.by;cases e.r <;> rfl
theorem A3 {m:Int} {hs:List En}:(hs.map (En.by m)).map (·.name)=hs.map (·.name):=by rw [List.map_map];rfl
theorem KM {m:Int} {hs:List En} {skip:Option Str} {i:Nat}:Ak (hs.map (En.by m)) skip i=(Ak hs skip i).map (Ot.by m):=by
 unfold Ak
 rw [List.filter_map,List.map_map,List.map_map]
 exact List.map_congr_left fun e _=>En.by_ot
theorem S1 {m:Int} {ss:List Sh} {hs:List En} {skip:Option Str}:(ss.map (Sh.by m)).zip (AT (ss.map (Sh.by m)).length (hs.map (En.by m)) skip)=(ss.zip (AT ss.length hs skip)).map fun x=>(x.1.by m,x.2.map (Ot.by m)):=by
 have e:AT (ss.map (Sh.by m)).length (hs.map (En.by m)) skip=(AT ss.length hs skip).map (List.map (Ot.by m)):=by
  unfold AT
  rw [List.length_map,List.map_map]
  exact List.map_congr_left fun i _=>KM
 rw [e,List.zip_map]
 exact List.map_congr_left fun ⟨_,_⟩ _=>rfl
theorem FU {m:Int} {ss:List Sh} {hs:List En} {skip:Option Str} {w h:Int} {t:Bool} {r d:Option Pl4} (hm:0<m) (F:FP (OnP (w*m) (h*m) t) 0 ((ss.map (Sh.by m)).zip (AT (ss.map (Sh.by m)).length (hs.map (En.by m)) skip)) r)
  (G:FP (OnL w h t) 0 (ss.zip (AT ss.length hs skip)) d):r=by4 m d:=by
 rw [S1] at F
 exact UZ hm F G
theorem TN:((ss.map (Sh.by m)).getD n ⟨0,0,false⟩).b=hbt ss n:=by
 unfold hbt
 rw [List.getD_eq_getElem?_getD,List.getD_eq_getElem?_getD,List.getElem?_map]
 cases ss[n]? <;> rfl
noncomputable def NK (q:Qp):List Int:=[(q.n:Int),q.p,q.s,b2i q.r]
theorem Do {ss:List Sh} {e:En}:e.key ss=NK (e.qp ss):=by
 unfold En.key GU NK En.qp
 show (if hbt ss e.n=true then _ else _)=_
 cases hbt ss e.n <;> rfl
theorem Ox {m:Int} {ss:List Sh} {e:En}:(e.by m).key (ss.map (Sh.by m))=[((e.qp ss).n:Int),(e.qp ss).p*m,(e.qp ss).s*m,b2i e.r]:=by
 unfold En.key GU En.qp En.by
 rw [TN]
 dsimp only
 cases hbt ss e.n <;> rfl
theorem TG:b2i a<b2i b↔a=false∧b=true:=by cases a <;> cases b <;> decide
theorem F4:Ah [n,p,s,b2i r] [n',p',s',b2i r']=true↔n<n'∨(n=n'∧(p<p'∨(p=p'∧(s<s'∨(s=s'∧(r=false∧r'=true)))))):=by
 unfold Ah
 by_cases h:n=n'
 ·rw [if_pos h]
  unfold Ah
  by_cases h':p=p'
  ·rw [if_pos h']
   unfold Ah
   by_cases h'':s=s'
   ·rw [if_pos h'']
    unfold Ah
    by_cases h3:b2i r=b2i r'
    ·rw [if_pos h3]
     refine ⟨(fun e=>nomatch e),fun e=>?_⟩
     have e:=e.resolve_left (by exact ai2 .nlt .v0 .v1 (.p .v0 .v1 .e) rfl h)
     have e:=e.2.resolve_left (by exact ai2 .nlt .v0 .v1 (.p .v0 .v1 .e) rfl h')
     have e:=e.2.resolve_left (by exact ai2 .nlt .v0 .v1 (.p .v0 .v1 .e) rfl h'')
     rw [e.2.1,e.2.2] at h3;cases h3
    ·rw [if_neg h3,decide_eq_true_iff,TG]
     exact ⟨fun e=>.inr ⟨h,.inr ⟨h',.inr ⟨h'',e⟩⟩⟩,fun e=>(((e.resolve_left (by exact ai2 .nlt .v0 .v1 (.p .v0 .v1 .e) rfl h)).2.resolve_left (by exact ai2 .nlt .v0 .v1 (.p .v0 .v1 .e) rfl h')).2.resolve_left (by exact ai2 .nlt .v0 .v1 (.p .v0 .v1 .e) rfl h'')).2⟩
   ·rw [if_neg h'',decide_eq_true_iff]
    exact ⟨fun e=>.inr ⟨h,.inr ⟨h',.inl e⟩⟩,fun e=>(((e.resolve_left (by exact ai2 .nlt .v0 .v1 (.p .v0 .v1 .e) rfl h)).2.resolve_left (by exact ai2 .nlt .v0 .v1 (.p .v0 .v1 .e) rfl h')).2).resolve_right fun z=>h'' z.1⟩
  ·rw [if_neg h',decide_eq_true_iff]
   exact ⟨fun e=>.inr ⟨h,.inl e⟩,fun e=>(e.resolve_left (by exact ai2 .nlt .v0 .v1 (.p .v0 .v1 .e) rfl h)).2.resolve_right fun z=>h' z.1⟩
 ·rw [if_neg h,decide_eq_true_iff]
  exact ⟨fun e=>.inl e,fun e=>e.resolve_right fun z=>h z.1⟩
theorem Qp.total (x y:Qp):x.le y∨y.le x:=by
 unfold Qp.le
 refine EH (Nat.lt_trichotomy x.n y.n) (fun h=>?_) (fun h=>?_) (fun h=>?_)
 ·exact .inl (.inl h)
 ·refine EH (Int.lt_trichotomy x.p y.p) (fun h1=>?_) (fun h1=>?_) (fun h1=>?_)
  ·exact .inl (.inr ⟨h,.inl h1⟩)
  ·refine EH (Int.lt_trichotomy x.s y.s) (fun h2=>?_) (fun h2=>?_) (fun h2=>?_)
   ·exact .inl (.inr ⟨h,.inr ⟨h1,.inl h2⟩⟩)
   ·cases hx:x.r with
    | false=>exact .inl (.inr ⟨h,.inr ⟨h1,.inr ⟨h2,nofun⟩⟩⟩)
    | true=>exact .inr (.inr ⟨h.symm,.inr ⟨h1.symm,.inr ⟨h2.symm,fun _=>rfl⟩⟩⟩)
   ·exact .inr (.inr ⟨h.symm,.inr ⟨h1.symm,.inl h2⟩⟩)
  ·exact .inr (.inr ⟨h.symm,.inl h1⟩)
 ·exact .inr (.inl h)
theorem Fw:Ah (NK x) (NK y)=true↔x.le y∧x≠y:=by
 unfold NK
 rw [F4]
 constructor
 ·intro h
  refine ⟨?_,fun e=>?_⟩
  ·unfold Qp.le
   rcases h with h | ⟨h1,h | ⟨h2,h | ⟨h3,h4,h5⟩⟩⟩
   ·exact .inl (Int.ofNat_lt.mp h)
   ·exact .inr ⟨Int.ofNat.inj h1,.inl h⟩
   ·exact .inr ⟨Int.ofNat.inj h1,.inr ⟨h2,.inl h⟩⟩
   ·exact .inr ⟨Int.ofNat.inj h1,.inr ⟨h2,.inr ⟨h3,fun _=>h5⟩⟩⟩
  ·subst e
   rcases h with h | ⟨h1,h | ⟨h2,h | ⟨h3,h4,h5⟩⟩⟩
   ·exact aj1 (.t .v0 .v0 .e) rfl h
   ·exact aj1 (.t .v0 .v0 .e) rfl h
   ·exact aj1 (.t .v0 .v0 .e) rfl h
   ·rw [h4] at h5;cases h5
 ·rintro ⟨h,hne⟩
  unfold Qp.le at h
  rcases h with h | ⟨h1,h | ⟨h2,h | ⟨h3,h4⟩⟩⟩
  ·exact .inl (by exact ai2 .lt .v0 .v1 (.t .v0 .v1 .e) rfl (Int.ofNat_lt.mpr h))
  ·exact .inr ⟨congrArg Int.ofNat h1,.inl h⟩
  ·exact .inr ⟨congrArg Int.ofNat h1,.inr ⟨h2,.inl h⟩⟩
  ·refine .inr ⟨congrArg Int.ofNat h1,.inr ⟨h2,.inr ⟨h3,?_⟩⟩⟩
   cases hx:x.r with
   | true=>exact absurd (Qp.ext h1 h2 h3 (hx.trans (h4 hx).symm)) hne
   | false=>
    cases hy:y.r with
    | false=>exact absurd (Qp.ext h1 h2 h3 (hx.trans hy.symm)) hne
    | true=>exact ⟨rfl,rfl⟩
theorem Pv {m:Int} {ss:List Sh} {e e':En} (hm:0<m):Ah ((e'.by m).key (ss.map (Sh.by m))) ((e.by m).key (ss.map (Sh.by m)))=Ah (e'.key ss) (e.key ss):=by
 rw [Bool.eq_iff_iff,Ox,Ox,Do,Do]
 unfold NK
 have h1:=fun x y:Int=>Gc (x:=x) (y:=y) hm
 have h2:=fun x y:Int=>Pw (x:=x) (y:=y) hm
 have e1:(e'.qp ss).r=e'.r:=rfl
 have e2:(e.qp ss).r=e.r:=rfl
 rw [F4,F4,h1,h1,h2,h2,e1,e2]
theorem Jz {m:Int} {ss:List Sh} {hs:List En} {p:List Nat} (hm:0<m) (hp:∀ i∈p,i<hs.length) (h:p.Pairwise (B7 ((hs.map (En.by m)).map (En.key (ss.map (Sh.by m)))))):p.Pairwise (B7 (hs.map (En.key ss))):=by
 refine List.Pairwise.imp_of_mem (fun {a b} ha hb h=>?_) h
 have key:∀ i,i<hs.length→∃ e:En,(hs.map (En.key ss)).getD i []=e.key ss∧((hs.map (En.by m)).map (En.key (ss.map (Sh.by m)))).getD i []=(e.by m).key (ss.map (Sh.by m)):=fun i hi=>by
  refine ⟨hs[i],?_,?_⟩
  ·rw [List.getD_eq_getElem?_getD,List.getElem?_map,List.getElem?_eq_getElem hi];rfl
  ·rw [List.getD_eq_getElem?_getD,List.getElem?_map,List.getElem?_map,List.getElem?_eq_getElem hi];rfl
 refine AC (key a (hp a ha)) fun x x1 x2=>?_
 refine AC (key b (hp b hb)) fun y y1 y2=>?_
 unfold B7 at h ⊢
 rw [x2,y2,Pv hm,Pv hm] at h
 rw [x1,y1];exact h
theorem Esok.by {m:Int} {ss:List Sh} {hs:List En} (E:Esok ss hs):Esok (ss.map (Sh.by m)) (hs.map (En.by m)) where
 nodup:=by rw [A3];exact E.nodup
 num e he:=by refine AC (List.mem_map.mp he) fun x hx ze1=>?_;subst ze1;rw [List.length_map];exact E.num x hx
 str e he:=by refine AC (List.mem_map.mp he) fun x hx ze1=>?_;subst ze1;exact E.str x hx
 len:=by rw [List.length_map];exact E.len
theorem Q6 {f:En→V} {es:List En} {i:Nat} {e e':En} (hn:(es.map (·.name)).Nodup) (hi:es[i]?=some e) (he:e'.name=e.name):put e.name (f e') (es.map fun e=>(e.name,f e))=(es.set i e').map fun e=>(e.name,f e):=by
 unfold put
 rw [if_pos (by rw [Iz];exact decide_eq_true (List.mem_map.mpr ⟨e,List.mem_of_getElem? hi,rfl⟩)),List.map_map]
 apply List.ext_getElem?
 intro j
 rw [List.getElem?_map,List.getElem?_map]
 by_cases hj:j=i
 ·subst hj
  rw [hi,FR hi]
  show some (if e.name=e.name then (e.name,f e') else _)=some (e'.name,f e')
  rw [if_pos rfl,he]
 ·rw [List.getElem?_set_ne (Ne.symm hj)]
  cases hx:es[j]? with
  | none=>rfl
  | some x=>
   show some (if x.name=e.name then (x.name,f e') else (x.name,f x))=some (x.name,f x)
   rw [if_neg (Lo hn hi hx hj)]
theorem LU {f:En→V} {es:List En} {x:Str}:del x (es.map fun e=>(e.name,f e))=(es.filter fun e=>decide (e.name≠x)).map fun e=>(e.name,f e):=by
 unfold del
 rw [List.filter_map];rfl
noncomputable def KpR (B P:Nat) (σ σ':AB):Prop:=∀ (x:Nat) (o:O),x≠1→x≠B→x≠P→σ[x]?=some o→σ'[x]?=some o
theorem KpR.refl:KpR B P σ σ:=fun _ _ _ _ _ h=>h
theorem KpR.trans (h:KpR B P σ σ') (h':KpR B P σ' σ''):KpR B P σ σ'':=fun x o h1 h2 h3 e=>h' x o h1 h2 h3 (h x o h1 h2 h3 e)
theorem KpR.pre (h:σ<+:σ'):KpR B P σ σ':=fun _ _ _ _ _ e=>Aa h e
theorem KpR.kpB (h:KpB 1 σ σ'):KpR B P σ σ':=fun x o h1 _ _ e=>h x o h1 e
theorem KpR.setP:KpR B P σ (σ.set P o):=fun _ _ _ _ h3 e=>AG (Ne.symm h3) e
theorem TabAt.set {T:Addr} {σ:AB} {ln col:Int} {q:Str} {n:Nat} {o o':O} (t:TabAt T σ ln col q) (e:σ[n]?=some o) (h:∀ T ln col m,o≠.tab T∧o≠.row T ln col m) (hc:∀ q,o≠.code q):TabAt T (σ.set n o') ln col q:=by
 cases t with
 | tab e1=>exact .tab (AG (fun z=>by subst z;rw [e1] at e;cases e;exact (h T 0 0 0).1 rfl) e1)
 | row m e1 e2=>exact .row m (AG (fun z=>by subst z;rw [e1] at e;cases e;exact (h T ln col m).2 rfl) e1) (AG (fun z=>by subst z;rw [e2] at e;cases e;exact hc q rfl) e2)
theorem TabAt.pre (t:TabAt T σ ln col q) (p:σ<+:σ'):TabAt T σ' ln col q:=by
 cases t with
 | tab e1=>exact .tab (Aa p e1)
 | row m e1 e2=>exact .row m (Aa p e1) (Aa p e2)
theorem Rk.setO (R:Rk C σ r shs es S B P epB epP) (e:σ[n]?=some (.list vs)) (hn:n≠S):Rk C (σ.set n o) r shs es S B P epB epP:=by
 have kp:∀ (x:Nat) (ob:O),σ[x]?=some ob→(∀ vs,ob≠.list vs)→(σ.set n o)[x]?=some ob:=fun x ob h hd=>AG (fun z=>by subst z;rw [e] at h;cases h;exact hd _ rfl) h
 refine AC R.at_.ex fun m h1 h2=>?_
 exact ⟨⟨m,kp _ _ h1 nofun,kp _ _ h2 nofun⟩,AG hn R.sh,kp _ _ R.bx nofun,kp _ _ R.pl nofun⟩
theorem Rk.setP (R:Rk C σ r shs es S B P epB epP) (hBP:B≠P) (hb:B3 es'=B3 es):Rk C (σ.set P (.dict ep (BZ es'))) r shs es' S B P epB ep:=by
 have kp:∀ (x:Nat) (ob:O),σ[x]?=some ob→(∀ ep vs,ob≠.dict ep vs)→(σ.set P (.dict ep (BZ es')))[x]?=some ob:=fun x ob h hd=>AG (fun z=>by subst z;rw [R.pl] at h;cases h;exact hd _ _ rfl) h
 refine AC R.at_.ex fun m h1 h2=>?_
 exact ⟨⟨m,kp _ _ h1 nofun,kp _ _ h2 nofun⟩,kp _ _ R.sh nofun,hb▸AG hBP.symm R.bx,AZ R.pl⟩
noncomputable def mvV (m:Int) (x:En × En):V:=.tup [.str x.1.name,(x.1.by m).pl,(x.2.by m).pl]
theorem Oh {m:Int} {hs:List En} {i:Nat} {e e':En} (hi:hs[i]?=some e) (hd:e'.dm=e.dm) (hn:e'.name=e.name):B3 ((hs.set i e').map (En.by m))=B3 (hs.map (En.by m)):=by
 unfold B3
 rw [List.map_map,List.map_map,List.map_set]
 refine Ej ?_
 rw [List.getElem?_map,hi]
 have h1:e'.w=e.w:=congrArg (·.1) hd
 have h2:e'.h=e.h:=congrArg (fun d:Dm=>d.2.1) hd
 have h3:e'.t=e.t:=congrArg (fun d:Dm=>d.2.2) hd
 show some (e.name,En.box (e.by m))=some (e'.name,En.box (e'.by m))
 unfold En.box En.by
 rw [hn,h1,h2,h3]
theorem QZ (n:Nat) (q:Gb C t ss Q n ρ σ):IM t ss C ρ σ Q:=⟨n,q⟩
theorem Gg (I:Nat→List V→AB→Prop) (M:Nat) (bound:∀ k ρ σ,I k ρ σ→k≤M)
  (turn:∀ k ρ σ (R:List V→AB→Prop),I k ρ σ→(∀ ρ' σ',I (k+1) ρ' σ'→R ρ' σ')→t C ρ σ (fun b σ₁=>brW (BL ss C ρ σ₁ (Df R Q)) (Q .next ρ σ₁) b) (fun c σ₁=>Q (.exc c) ρ σ₁)):∀ (n k:Nat) ρ σ,k+n=M+1→I k ρ σ→Gb C t ss Q n ρ σ
 | 0,k,ρ,σ,hk,h=>by have:=bound k ρ σ h;exact (am2 (.l .v0 .v1 (.p (.a .v0 .n0) (.a .v1 .n1) .e)) rfl this hk).elim
 | n+1,k,ρ,σ,hk,h=>turn k ρ σ _ h fun ρ' σ' h'=>Gg I M bound turn n (k+1) ρ' σ' (by exact Nat.le_antisymm (an3 .le (.a (.a .v0 .n1) .v1) (.a .v2 .n1) (.q (.a .v0 (.a .v1 .n1)) (.a .v2 .n1) .e) rfl hk) (an3 .le (.a .v0 .n1) (.a (.a .v1 .n1) .v2) (.p (.a .v1 (.a .v2 .n1)) (.a .v0 .n1) .e) rfl hk)) h'
theorem Po {σ:AB} {n ep:Nat} {kvs:List (Str × V)} {A:Prop} (e:σ[n]?=some (.dict ep kvs)) (q:A):(∃ m ep kvs,V.ref n=.ref m∧σ[m]?=some (.dict ep kvs))∧A:=⟨⟨n,ep,kvs,rfl,e⟩,q⟩
end Mine.Internal
namespace Mine.Internal
open PySem
set_option genSizeOf false
set_option genInjectivity false
noncomputable def Bm (l:List Nat):Str:=⟨l.toArray⟩
theorem Fd:(Bm l).length=l.length:=by
 show l.toArray.size=_
 exact List.size_toArray ..
theorem DF {x y:Str}:(x++y).cps.toList=x.cps.toList++y.cps.toList:=by
 show (x.cps++y.cps).toList=_
 exact Array.toList_append
theorem Bd {x:Str}:x.length=x.cps.toList.length:=by
 show x.cps.size=_
 exact Array.length_toList.symm
theorem KC {x:Str}:x.cps.all (·<128)=true↔∀ c∈x.cps.toList,c<128:=by
 rw [← Array.all_toList,List.all_eq_true]
 exact ⟨fun h c hc=>of_decide_eq_true (h c hc),fun h c hc=>decide_eq_true (h c hc)⟩
theorem MA {α:Type} {l:List α} {a b:Nat} {x:α} (h:x∈cut l a b):x∈l:=List.mem_of_mem_take (List.mem_of_mem_drop h)
theorem RD {α:Type} {l:List α} {a b:Nat}:(cut l a b).length≤l.length:=by
 unfold cut
 rw [List.length_drop,List.length_take];exact an3 .le .v0 .v1 (.l .v0 .v2 (.l .v2 .v1 .e)) rfl (Nat.sub_le _ _) (Nat.min_le_right _ _)
theorem Em (h:0≤k) (h':k≤1000000):BoundK n d (some (.int k)) (min k.toNat n):=by
 have:=BoundK.pos (n:=n) (d:=d) (i:=k.toNat) (j:=min k.toNat n) (Co (Int.le_trans (by decide) (Int.natCast_nonneg _)) (Int.le_trans (Int.toNat_of_nonneg h▸h') (by decide))) rfl
 rwa [Int.toNat_of_nonneg h] at this
theorem Ub (h:0≤k) (hk:k<1000000) (e:s.cps[k.toNat]?=some c) (q:Q (.str (EL c)) σ):SubK σ Q (.str s) (.int k):=
 .str (Co (Int.le_trans (by decide) h) (Int.le_trans (Int.le_of_lt hk) (by decide))) (L2 h (by
  have:=(Array.getElem?_eq_some_iff.mp e).1
  exact this)) e q
theorem UF (hs:s.length≤1000) (h:0≤k) (hk:k≤1000000) (q:Q (.str (Bm (cut s.cps.toList 0 (min k.toNat s.length)))) σ):SliceK σ Q (.str s) none (some (.int k)):=
 .str (Nat.le_trans hs (by decide)) .no (Em h hk) q
theorem Ug (hs:s.length≤1000) (h:0≤k) (hk:k≤1000000) (q:Q (.str (Bm (cut s.cps.toList (min k.toNat s.length) s.length))) σ):SliceK σ Q (.str s) (some (.int k)) none:=
 .str (Nat.le_trans hs (by decide)) (Em h hk) .no q
theorem QN {α β:Type} {f:α→β} {l:List α} {a b:Nat}:cut (l.map f) a b=(cut l a b).map f:=by
 unfold cut;rw [← List.map_take,← List.map_drop]
section
variable {σ:AB} {Q:AN} {n:Nat} {vs:List V} {k:Int}
theorem OH (e:σ[n]?=some (.list vs)) (h:0≤k) (hk:k≤1000000) (q:Q (.ref σ.length) (σ++[.list (cut vs 0 (min k.toNat vs.length))])):SliceK σ Q (.ref n) none (some (.int k)):=.list e .no (Em h hk) q
end
theorem UI {s:Sh}:PyData.strOk s.x.s=true:=Qq (b:=s.b)
end Mine.Internal
namespace Mine.Internal
open PySem
set_option genSizeOf false
set_option genInjectivity false
end Mine.Internal
namespace Mine.Internal
open PySem
noncomputable def Cm (shs:List Sh) (es:List En) (skip:Option Str) (e:En):Prop:=∃ sh,shs[e.n]?=some sh∧(e.r=true→e.t=true)∧Gd ((Ak es skip e.n).map Ot.low) sh.H sh.W e.ot.h e.ot.w e.ot.u e.ot.l
end Mine.Internal
namespace Mine.Internal
open PySem
set_option genSizeOf false
set_option genInjectivity false
noncomputable def En.one (e:En):V:=.tup [.str e.name,.int e.w,.int e.h,.bool e.t,e.pl]
noncomputable def En.boxD (e:En):PyData:=.tuple [.str e.name,.int e.w,.int e.h,.bool e.t]
theorem LV {e:En} (h:PyData.strOk e.name=true):e.boxD.canLay0=true:=by
 unfold En.boxD
 simp only [PyData.canLay0,PyData.canLayAll0,h,Bool.and_self]
theorem SM {o:Ot}:o.dat.canLay0=true:=rfl
section
variable {σ:AB} {K:Bool→Prop} {e:En}
theorem Oq (h:PyData.strOk e.name=true) (q:K false):CmpK σ K .NotEq e.box e.box:=K0 (x:=e.boxD) rfl rfl (LV h) q
theorem Gk (hx:PyData.strOk x=true) (hy:PyData.strOk y=true) (q:x≠y→K true) (q':x=y→K false):CmpK σ K .NotEq (.str x) (.str y):=.ne (x:=.str x) (y:=.str y) rfl rfl hx hy (by
 rw [F7]
 by_cases h:x=y
 ·rw [beq_iff_eq.mpr h];exact q' h
 ·rw [beq_eq_false_iff_ne.mpr h];exact q h)
end
theorem Qi (q:Q (.tup [b,c,d]) σ):SliceK σ Q (.tup [a,b,c,d]) (some (.int 1)) none:=
 .tup (x:=1) (y:=4) (show 4≤Ag by decide) (BoundK.pos (i:=1) (by decide) rfl) .no (by show 3<4;decide) q
structure GoodName (x:Str):Prop where
 low:x.cps.all (·<128)=true
 len:x.length≤1000
 good:Ap x=true
 str:PyData.strOk x=true
theorem KW (h:x.cps.all (·<128)=true):PyData.strOk x=true:=by
 show x.cps.all (·<0x110000)=true
 rw [← Array.all_toList,List.all_eq_true]
 exact fun c hc=>decide_eq_true (Nat.lt_of_lt_of_le (KC.mp h c hc) (by decide))
theorem NV:∀ c∈Cv,c<128:=by decide +kernel
theorem Pz (hw:∀ c∈w,c∈Cv) (hl:w.length≤11) (hk:k≤w.length) (hc:c∈Cv):GoodName (Bm (cut w 0 k)++EL c++Bm (cut w k w.length)):=by
 have e:(Bm (cut w 0 k)++EL c++Bm (cut w k w.length)).cps.toList=cut w 0 k++[c]++cut w k w.length:=by rw [DF,DF];rfl
 have hall:∀ x∈cut w 0 k++[c]++cut w k w.length,x∈Cv:=fun x hx=>by
  refine Or.elim (List.mem_append.mp hx) (fun h=>?_) (fun h=>?_)
  ·refine Or.elim (List.mem_append.mp h) (fun h=>?_) (fun h=>?_)
   ·exact hw x (MA h)
   ·exact List.mem_singleton.mp h▸hc
  ·exact hw x (MA h)
 have hlen:(cut w 0 k++[c]++cut w k w.length).length=w.length+1:=by
  unfold cut
  rw [List.length_append,List.length_append,List.length_drop,List.length_take,List.length_drop,List.length_take,List.length_singleton,Nat.min_eq_left hk,Nat.min_self,Nat.sub_zero,Nat.add_right_comm,Nat.add_sub_cancel' hk]
 have hlow:(Bm (cut w 0 k)++EL c++Bm (cut w k w.length)).cps.all (·<128)=true:=KC.mpr fun x hx=>NV x (hall x (e▸hx))
 refine ⟨hlow,?_,?_,?_⟩
 ·rw [Bd,e,hlen];exact an1 .le (.a .v0 .n1) (.n 1000) (.l .v0 (.n 11) .e) rfl hl
 ·unfold Ap
  rw [Bd,e,hlen]
  simp only [Bool.and_eq_true,decide_eq_true_eq,List.all_eq_true]
  exact ⟨by exact an1 .lt .n0 (.a .v0 .n1) .e rfl,by exact an1 .le (.a .v0 .n1) (.n 12) (.l .v0 (.n 11) .e) rfl hl,fun x hx=>hall x hx⟩
 ·exact KW hlow
noncomputable def Fy:List Nat:=(Str.ofString "abcdxyz0189mno").cps.toList
theorem O1:Fy.Nodup∧Fy.length=14∧∀ c∈Fy,c∈Cv:=by decide +kernel
structure Names14 (ns:List Str):Prop where
 len:ns.length=14
 nodup:ns.Nodup
 good:∀ x∈ns,GoodName x
theorem MF (hw:∀ c∈w,c∈Cv) (hl:w.length≤11) (hk:k≤w.length):Names14 (Fy.map fun c=>Bm (cut w 0 k)++EL c++Bm (cut w k w.length)):=by
 refine ⟨by rw [List.length_map];exact O1.2.1,?_,fun x hx=>?_⟩
 ·refine List.pairwise_map.mpr (List.Pairwise.imp (fun {a b} h e=>h ?_) O1.1)
  have e1:=congrArg (fun s:Str=>s.cps.toList) e
  simp only [DF] at e1
  have e2:=List.append_cancel_right e1
  have e3:=List.append_cancel_left e2
  exact List.head_eq_of_cons_eq (show [a]=[b] from e3)
 ·refine AC (List.mem_map.mp hx) fun c hc ze1=>?_;subst ze1
  exact Pz hw hl hk (O1.2.2 c hc)
theorem PD (h:j<36):∃ c,(Str.ofString "abcdefghijklmnopqrstuvwxyz0123456789").cps[j]?=some c∧c∈Cv:=by
 have hl:Cv.length=36:=by decide +kernel
 have e:(Str.ofString "abcdefghijklmnopqrstuvwxyz0123456789").cps[j]?=Cv[j]?:=Array.getElem?_toList.symm
 rw [e,List.getElem?_eq_getElem (hl▸h)]
 exact ⟨_,rfl,List.getElem_mem _⟩
structure ShB (w h:Int) (s:Sh):Prop where
 w:1≤s.W∧s.W≤w
 h:1≤s.H∧s.H≤h
end Mine.Internal
namespace Mine.Internal
open PySem
set_option genSizeOf false
set_option genInjectivity false
section
variable {ss:List Sh} {hs:List En} {skip:Option Str} {e:En} {m:Int}
theorem Io:Cm ss hs skip e↔Ok ss hs skip e:=by
 have hu:=Cq (e:=e)
 have key:∀ sh,ss[e.n]?=some sh→((0≤e.ot.u∧0≤e.ot.l∧e.ot.u+e.ot.h≤sh.H∧e.ot.l+e.ot.w≤sh.W)↔(0≤(e.qp ss).p∧0≤(e.qp ss).s∧(e.qp ss).p+exA sh.b e.r e.w e.h≤shP sh∧(e.qp ss).s+exB sh.b e.r e.w e.h≤shS sh)):=fun sh hsh=>by
  unfold En.qp shP shS
  rw [K9 hsh,hu.1,hu.2]
  cases hb:sh.b with
  | true=>rw [(Dg (e:=e) rfl).1,(Dg (e:=e) rfl).2];simp only [if_true]
  | false=>rw [(Dt (e:=e) rfl).1,(Dt (e:=e) rfl).2];simp only [Bool.false_eq_true,if_false];exact ⟨fun h=>⟨h.2.1,h.1,h.2.2.2,h.2.2.1⟩,fun h=>⟨h.2.1,h.1,h.2.2.2,h.2.2.1⟩⟩
 constructor
 ·rintro ⟨sh,hsh,ht,g⟩
  have h:=(key sh hsh).mp ⟨g.p0,g.s0,g.p1,g.s1⟩
  exact ⟨⟨sh,hsh,ht,h.1,h.2.1,h.2.2.1,h.2.2.2⟩,fun x hx hn hk=>g.clear _ (List.mem_map.mpr ⟨x.ot,List.mem_map.mpr ⟨x,List.mem_filter.mpr ⟨hx,by rw [decide_eq_true hn,hk];rfl⟩,rfl⟩,rfl⟩)⟩
 ·rintro ⟨⟨sh,i⟩,cl⟩
  have h:=(key sh i.at_).mpr ⟨i.p0,i.s0,i.p1,i.s1⟩
  refine ⟨sh,i.at_,i.turn,h.1,h.2.1,h.2.2.1,h.2.2.2,fun o ho=>?_⟩
  refine AC (List.mem_map.mp ho) fun y hy ze1=>?_;subst ze1
  refine AC (List.mem_map.mp hy) fun x hx ze1=>?_;subst ze1
  obtain ⟨hx,hp⟩:=List.mem_filter.mp hx
  have hp:=Bool.and_eq_true_iff.mp hp
  exact cl x hx (of_decide_eq_true hp.1) hp.2
theorem P8 (hm:0<m):Cm (ss.map (Sh.by m)) (hs.map (En.by m)) skip (e.by m)↔Cm ss hs skip e:=by
 have key:∀ sh:Sh,(Gd ((Ak (hs.map (En.by m)) skip e.n).map Ot.low) (sh.by m).H (sh.by m).W (e.by m).ot.h (e.by m).ot.w (e.by m).ot.u (e.by m).ot.l↔Gd ((Ak hs skip e.n).map Ot.low) sh.H sh.W e.ot.h e.ot.w e.ot.u e.ot.l):=fun sh=>by
  have e1:(Ak (hs.map (En.by m)) skip e.n).map Ot.low=((Ak hs skip e.n).map Ot.low).map (·.by m m):=by
   rw [KM,List.map_map,List.map_map];rfl
  rw [e1,En.by_ot]
  exact Ly hm hm
 constructor
 ·rintro ⟨sh,hsh,ht,g⟩
  have hsh:(ss.map (Sh.by m))[e.n]?=some sh:=hsh
  rw [List.getElem?_map] at hsh
  refine AC (Option.map_eq_some_iff.mp hsh) fun s hs1 ze1=>?_;subst ze1
  exact ⟨s,hs1,ht,(key s).mp g⟩
 ·rintro ⟨sh,hsh,ht,g⟩
  exact ⟨sh.by m,by show (ss.map (Sh.by m))[e.n]?=_;rw [List.getElem?_map,hsh];rfl,ht,(key sh).mpr g⟩
theorem MP (h:x∉hs.map (·.name)):Ak hs (some x) i=Ak hs none i:=by
 unfold Ak
 refine congrArg (List.map En.ot) (List.filter_congr fun y hy=>?_)
 have hk:CT (some x) y.name=true:=Ev.mpr fun z=>h (by rw [← z];exact List.mem_map.mpr ⟨y,hy,rfl⟩)
 rw [hk];rfl
theorem Nn (h:x∉hs.map (·.name)):AT n hs (some x)=AT n hs none:=by
 unfold AT;exact List.map_congr_left fun i _=>MP h
theorem Snd.add (s:Snd ss hs) (h:Ok ss hs none e) (hz:0<e.w∧0<e.h):Snd ss (hs++[e]) where
 ins x hx:=(List.mem_append.mp hx).elim (s.ins x) fun z=>List.mem_singleton.mp z▸h.ins
 apart:=List.pairwise_append.mpr ⟨s.apart,List.pairwise_singleton ..,fun a ha b hb=>by
  cases List.mem_singleton.mp hb
  exact EU fun z=>h.clear a ha z.symm rfl⟩
 sz x hx:=(List.mem_append.mp hx).elim (s.sz x) fun z=>List.mem_singleton.mp z▸hz
theorem Snd.filter (s:Snd ss hs):Snd ss (hs.filter p):=⟨fun e he=>s.ins e (List.mem_filter.mp he).1,s.apart.filter p,fun e he=>s.sz e (List.mem_filter.mp he).1⟩
theorem Esok.add (E:Esok ss hs) (hn:e.name∉hs.map (·.name)) (hs1:PyData.strOk e.name=true) (hlt:e.n<ss.length) (hl:hs.length<62):Esok ss (hs++[e]) where
 nodup:=by
  rw [List.map_append]
  exact List.nodup_append.mpr ⟨E.nodup,List.pairwise_singleton ..,fun a ha b hb z=>by
   cases List.mem_singleton.mp hb
   have z:a=e.name:=z
   exact hn (by rw [← z];exact ha)⟩
 num x hx:=(List.mem_append.mp hx).elim (E.num x) fun z=>List.mem_singleton.mp z▸hlt
 str x hx:=(List.mem_append.mp hx).elim (E.str x) fun z=>List.mem_singleton.mp z▸hs1
 len:=by rw [List.length_append,List.length_singleton];exact an1 .lt (.a .v0 .n1) (.n 63) (.t .v0 (.n 62) .e) rfl hl
theorem Esok.filter (E:Esok ss hs):Esok ss (hs.filter p) where
 nodup:=(List.filter_sublist.map _).nodup E.nodup
 num x hx:=E.num x (List.mem_filter.mp hx).1
 str x hx:=E.str x (List.mem_filter.mp hx).1
 len:=Nat.lt_of_le_of_lt (List.length_filter_le ..) E.len
theorem Hj:(hs.map (En.by m)).filter (fun y=>decide (y.name≠x))=(hs.filter fun y=>decide (y.name≠x)).map (En.by m):=by
 rw [List.filter_map];rfl
end
end Mine.Internal
namespace Mine.Internal
open PySem
set_option genSizeOf false
set_option genInjectivity false
section
variable {m:Int} {ss:List Sh} {ns:List Str} {B P:Nat}
end
theorem D4 {α:Type} [DecidableEq α]:∀ {l l':List α},l.Nodup→(∀ x∈l,x∈l')→l.length≤l'.length
 | [],_,_,_=>Nat.zero_le _
 | x::l,l',hn,hs=>by
  have hn':=List.nodup_cons.mp hn
  have hx:=hs x List.mem_cons_self
  have h1:=D4 (l:=l) (l':=l'.erase x) hn'.2 fun y hy=>(List.mem_erase_of_ne (show y≠x from fun z=>hn'.1 (by rw [← z];exact hy))).mpr (hs y (List.mem_cons_of_mem _ hy))
  have h2:=List.length_erase_of_mem hx
  have h3:=List.length_pos_of_mem hx
  rw [List.length_cons];exact an4 .le (.a .v0 .n1) .v1 (.l .v0 .v2 (.q .v2 .v3 (.q (.a .v3 .n1) .v1 .e))) rfl h1 h2 (Nat.sub_add_cancel (an1 .le .n1 .v0 (.t .n0 .v0 .e) rfl h3))
theorem Az (R:Rk C σ r shs es S B P epB epP) (t:TabAt T σ ln col kq) (e:σ[x]?=some (.list vs)):x≠1∧x≠B∧x≠P:=by
 refine ⟨fun z=>?_,fun z=>?_,fun z=>?_⟩
 ·subst z
  cases t with
  | tab h=>rw [h] at e;cases e
  | row m h _=>rw [h] at e;cases e
 ·subst z;rw [R.bx] at e;cases e
 ·subst z;rw [R.pl] at e;cases e
section
variable {hs:List En} {e:En} {x:Str}
theorem JT (h:x∉hs.map (·.name)):(hs.filter fun y=>decide (y.name≠x))=hs:=
 List.filter_eq_self.mpr fun z hz=>decide_eq_true fun q=>h (by rw [← q];exact List.mem_map.mpr ⟨z,hz,rfl⟩)
end
end Mine.Internal
namespace Mine.Internal
open PySem
set_option genSizeOf false
set_option genInjectivity false
theorem Ke {i j:Nat} (s:Snd ss hs) (hx:hs[i]?=some x) (hy:hs[j]?=some y) (hij:i≠j) (h:Ah (y.key ss) (x.key ss)=false):Ah (x.key ss) (y.key ss)=true:=by
 rw [Do,Do] at h ⊢
 rw [Fw]
 have hne:x.qp ss≠y.qp ss:=fun e=>by
  have ap:=s.sound.apart i j (List.getElem?_eq_some_iff.mp hx).1 (List.getElem?_eq_some_iff.mp hy).1 hij
  rw [BB hx,BB hy,e] at ap
  have h1:=D3 (b:=hbt ss (y.qp ss).n) (r:=(y.qp ss).r) (DG s.sz i).1 (DG s.sz i).2
  have h2:=Eh (b:=hbt ss (y.qp ss).n) (r:=(y.qp ss).r) (DG s.sz i).1 (DG s.sz i).2
  have h3:=D3 (b:=hbt ss (y.qp ss).n) (r:=(y.qp ss).r) (DG s.sz j).1 (DG s.sz j).2
  have h4:=Eh (b:=hbt ss (y.qp ss).n) (r:=(y.qp ss).r) (DG s.sz j).1 (DG s.sz j).2
  refine P0 ap (fun h=>?_) (fun h=>?_) (fun h=>?_) (fun h=>?_) (fun h=>?_)
  ·exact h rfl
  ·unfold EA at h;exact aj2 (.l (.a .v0 .v1) .v0 (.t .n0 .v1 .e)) rfl h h1
  ·unfold EA at h;exact aj2 (.l (.a .v0 .v1) .v0 (.t .n0 .v1 .e)) rfl h h3
  ·unfold EB at h;exact aj2 (.l (.a .v0 .v1) .v0 (.t .n0 .v1 .e)) rfl h h2
  ·unfold EB at h;exact aj2 (.l (.a .v0 .v1) .v0 (.t .n0 .v1 .e)) rfl h h4
 refine ⟨?_,hne⟩
 refine Or.elim (Qp.total (x.qp ss) (y.qp ss)) (fun h1=>?_) (fun h1=>?_)
 ·exact h1
 ·have:=Fw.mpr ⟨h1,hne.symm⟩
  rw [this] at h;cases h
end Mine.Internal
namespace Mine.Internal
open PySem
noncomputable def Ep (x y:Int × Int):Prop:=x.1<y.1∨(x.1=y.1∧x.2<y.2)
noncomputable def pairsOf (us ls:List Int):List (Int × Int):=us.flatMap fun u=>ls.map fun l=>(u,l)
noncomputable def psK (b:Bool) (x:Int × Int):Int × Int:=if b=true then x else (x.2,x.1)
section
variable {w h:Int} {t:Bool} {sh:Sh} {os:List Ot}
theorem Fz:psK b (psK b x)=x:=by cases b <;> rfl
end
section
variable {w h:Int} {t:Bool} {ss:List Sh} {hs:List En} {skip:Option Str} {r:Option Pl4}
end
end Mine.Internal
namespace Mine.Internal
open PySem
theorem Snd.ok_take (s:Snd ss hs) (hi:hs[i]?=some e):Ok ss (hs.take i) none e where
 ins:=s.ins e (List.mem_of_getElem? hi)
 clear x hx hn _:=by
  have h:=s.apart
  rw [← List.take_append_drop i hs,F3 hi] at h
  exact EU ((List.pairwise_append.mp h).2.2 x hx e List.mem_cons_self) hn.symm
noncomputable def KF (left:Int) (os:List Ot):Int:=os.foldl (fun a o=>a - o.w*o.h) left
theorem Lq {e:En}:e.ot.w*e.ot.h=e.w*e.h:=by
 unfold En.ot
 cases e.r
 ·rfl
 ·exact Int.mul_comm _ _
theorem NA {k:Nat} {es:List En}:∀ (left:Int),KF left (Ak es none k)=Dd left k es:=by
 induction es with
 | nil=>exact fun _=>rfl
 | cons e es ih=>
  intro left
  show _=Dd (if e.n=k then left - e.w*e.h else left) k es
  rw [← ih]
  unfold Ak
  by_cases h:e.n=k
  ·rw [if_pos h,List.filter_cons_of_pos (by rw [decide_eq_true h];rfl),← Lq];rfl
  ·rw [if_neg h,List.filter_cons_of_neg (by rw [decide_eq_false h];exact Bool.false_ne_true)]
theorem NS {left:Int} {os:List Ot} {i:Nat} {o:Ot} (h:os[i]?=some o):KF left (os.take (i+1))=KF left (os.take i) - o.w*o.h:=by
 unfold KF
 rw [BY h,List.foldl_append];rfl
noncomputable def leS (a b:Str):Prop:=¬ b.cps.toList<a.cps.toList
theorem Me (h:leS a b) (h':leS b c):leS a c:=fun z=>by
 unfold leS at h h'
 rw [List.not_lt] at h h'
 exact absurd (List.le_trans h h') (List.not_le.mpr z)
theorem PH (h:leS a b) (h':leS b a):a=b:=by
 unfold leS at h h'
 rw [List.not_lt] at h h'
 have e:=List.le_antisymm h h'
 have:=Array.toList_inj.mp e
 cases a;cases b
 exact congrArg Str.mk this
theorem JQ:∀ {p:Str},PyProof.Rows.risingS p l=true→(p::l).Pairwise leS:=by
 induction l with
 | nil=>exact fun _=>List.pairwise_singleton _ _
 | cons x l ih=>
  intro p h
  have h:=Bool.and_eq_true_iff.mp h
  have t:=ih h.2
  have hx:leS p x:=fun z=>by
   have h1:=h.1
   rw [PyProof.Rows.ltCps_eq,decide_eq_true z] at h1
   cases h1
  exact List.pairwise_cons.mpr ⟨fun y hy=>(List.mem_cons.mp hy).elim (fun e=>e▸hx) fun hy=>Me hx ((List.pairwise_cons.mp t).1 y hy),t⟩
theorem Fk (h:PyProof.Rows.sortedS l=true):l.Pairwise leS:=by
 cases l with
 | nil=>exact .nil
 | cons x l=>exact JQ h
theorem Md (h:PyProof.Rows.sortedS l=true) (h':PyProof.Rows.sortedS l'=true) (p:l.Perm l'):l=l':=
 List.Perm.eq_of_pairwise (fun _ _ _ _ h1 h2=>PH h1 h2) (Fk h) (Fk h') p
theorem Lm {ns:List Str} {p:List Nat} (hp:p.Perm (List.range ns.length)):(p.map fun i=>ns.getD i "").Perm ns:=by
 refine (hp.map fun i=>ns.getD i "").trans (List.Perm.of_eq ?_)
 apply List.ext_getElem (by rw [List.length_map,List.length_range])
 intro i h1 h2
 rw [List.getElem_map,List.getElem_range,List.getD_eq_getElem?_getD,List.getElem?_eq_getElem h2];rfl
end Mine.Internal
namespace Mine.Internal
open PySem
abbrev sh8 (b:Bool):List Sh:=[⟨8,8,b⟩]
theorem Lz:BG ss e ((e.to n u l r).qp ss)=e.to n u l r:=by
 unfold BG En.to En.qp
 dsimp only
 cases hbt ss n <;> rfl
noncomputable def dom (u l:Int):Nat:=(4*u+l / 2).toNat
noncomputable def Kd (e:En):List Nat:=dom e.u e.l::if e.w=2 then [dom (e.u+e.ot.h - 1) (e.l+e.ot.w - 1)] else []
structure Small (e:En):Prop where
 h:e.h=1
 w:e.w=1∨e.w=2
theorem Small.ot (s:Small e):(e.w=1∧e.ot.w=1∧e.ot.h=1)∨(e.w=2∧e.ot.w=2∧e.ot.h=1)∨(e.w=2∧e.ot.w=1∧e.ot.h=2):=by
 have h:=s.h
 unfold En.ot
 cases e.r with
 | true=>exact s.w.elim (fun w=>.inl ⟨w,h,w⟩) fun w=>.inr (.inr ⟨w,h,w⟩)
 | false=>exact s.w.elim (fun w=>.inl ⟨w,w,h⟩) fun w=>.inr (.inl ⟨w,w,h⟩)
theorem O0 {hs:List En}:(hs.flatMap Kd).length=hs.length+(hs.filter fun e=>decide (e.w=2)).length:=by
 induction hs with
 | nil=>rfl
 | cons e hs ih=>
  rw [List.flatMap_cons,List.length_append,ih,List.length_cons]
  unfold Kd
  by_cases h:e.w=2
  ·rw [if_pos h,List.filter_cons_of_pos (p:=fun e:En=>decide (e.w=2)) (decide_eq_true h)];show 2+_=_+1+(_+1);exact Nat.le_antisymm (an2 .le (.a .n2 (.a .v0 .v1)) (.a (.a .v0 .n1) (.a .v1 .n1)) .e rfl) (an2 .le (.a (.a .v0 .n1) (.a .v1 .n1)) (.a .n2 (.a .v0 .v1)) .e rfl)
  ·rw [if_neg h,List.filter_cons_of_neg (p:=fun e:En=>decide (e.w=2)) (fun z=>h (of_decide_eq_true z))];show 1+_=_;exact Nat.le_antisymm (an2 .le (.a .n1 (.a .v0 .v1)) (.a (.a .v0 .n1) .v1) .e rfl) (an2 .le (.a (.a .v0 .n1) .v1) (.a .n1 (.a .v0 .v1)) .e rfl)
theorem N8 {hs:List En} (h:hs.length+(hs.filter fun e=>decide (e.w=2)).length<32):∃ d,d<32∧∀ e∈hs,d∉Kd e:=Classical.byContradiction fun z=>by
 have:32≤(hs.flatMap Kd).length:=by
  have:=D4 (l:=List.range 32) (l':=hs.flatMap Kd) List.nodup_range fun d hd=>Classical.byContradiction fun n=>z ⟨d,List.mem_range.mp hd,fun e he hm=>n (List.mem_flatMap.mpr ⟨e,he,hm⟩)⟩
  rwa [List.length_range] at this
 rw [O0] at this
 exact Nat.lt_irrefl _ (Nat.lt_of_lt_of_le h this)
theorem S4 (ha:a=u) (hc:2*j≤c) (hc':c<2*j+2) (h0:0≤a) (h1:0≤c):(dom a c:Int)=4*u+j:=by
 have e:c / 2=j:=Int.ediv_eq_iff_of_pos (by decide) |>.mpr ⟨Int.mul_comm 2 j▸hc,Int.mul_comm 2 j▸hc'⟩
 rw [dom,Int.toNat_of_nonneg (Int.add_nonneg (Int.mul_nonneg (by decide) h0) (Int.ediv_nonneg h1 (by decide))),e,ha]
theorem MN {d:Nat} {w u j:Int} (s:Small e) (hw:w≤2) (hd':(d:Int)=4*u+j) (hu:0≤e.u) (hl:0≤e.l) (hd:d∉Kd e):Ar 1 w u (2*j) e.ot.low:=by
 have d1:d≠dom e.u e.l:=fun z=>hd (z▸List.mem_cons_self)
 have d2:e.w=2→d≠dom (e.u+e.ot.h - 1) (e.l+e.ot.w - 1):=fun h z=>hd (by unfold Kd;rw [if_pos h,z];exact List.mem_cons_of_mem _ List.mem_cons_self)
 have hit:∀ {a c:Int},d≠dom a c→a=u→2*j≤c→c<2*j+2→0≤a→0≤c→False:=fun hn h1 h2 h3 h4 h5=>hn (Int.ofNat.inj (hd'.trans (S4 h1 h2 h3 h4 h5).symm))
 refine Classical.byContradiction fun z=>?_
 have z:¬ (u+1≤e.ot.u∨e.ot.u+e.ot.h≤u∨2*j+w≤e.ot.l∨e.ot.l+e.ot.w≤2*j):=z
 rw [Cq.1,Cq.2] at z
 have z1:¬ u+1≤e.u:=fun h=>z (.inl h)
 have z2:¬ e.u+e.ot.h≤u:=fun h=>z (.inr (.inl h))
 have z3:¬ 2*j+w≤e.l:=fun h=>z (.inr (.inr (.inl h)))
 have z4:¬ e.l+e.ot.w≤2*j:=fun h=>z (.inr (.inr (.inr h)))
 clear z hd
 refine EH s.ot (fun zt1=>Ay zt1 fun h0 h1 h2=>?_) (fun zt2=>Ay zt2 fun h0 h1 h2=>?_) (fun zt3=>Ay zt3 fun h0 h1 h2=>?_)
 ·rw [h2] at z2
  rw [h1] at z4
  exact hit d1 (by exact Int.le_antisymm (ai2 .le .v0 .v1 (.m (.a .v1 .n1) .v0 .e) rfl z1) (ai2 .le .v0 .v1 (.m (.a .v1 .n1) .v0 .e) rfl z2)) (by exact ai2 .le (.m 2 .v0) .v1 (.m (.a .v1 .n1) (.m 2 .v0) .e) rfl z4) (by exact ai3 .lt .v0 (.a (.m 2 .v1) .n2) (.m (.a (.m 2 .v1) .v2) .v0 (.l .v2 .n2 .e)) rfl z3 hw) hu hl
 ·have d2:=d2 h0
  rw [h1,h2] at d2
  rw [h2] at z2
  rw [h1] at z4
  by_cases hc:2*j≤e.l
  ·exact hit d1 (by exact Int.le_antisymm (ai2 .le .v0 .v1 (.m (.a .v1 .n1) .v0 .e) rfl z1) (ai2 .le .v0 .v1 (.m (.a .v1 .n1) .v0 .e) rfl z2)) hc (by exact ai3 .lt .v0 (.a (.m 2 .v1) .n2) (.m (.a (.m 2 .v1) .v2) .v0 (.l .v2 .n2 .e)) rfl z3 hw) hu hl
  ·exact hit d2 (by exact Int.le_antisymm (ai2 .le (.s (.a .v0 .n1) .n1) .v1 (.m (.a .v1 .n1) .v0 .e) rfl z1) (ai2 .le .v0 (.s (.a .v1 .n1) .n1) (.m (.a .v1 .n1) .v0 .e) rfl z2)) (by exact ai2 .le (.m 2 .v0) (.s (.a .v1 .n2) .n1) (.m (.a .v1 .n2) (.m 2 .v0) .e) rfl z4) (by exact ai2 .lt (.s (.a .v0 .n2) .n1) (.a (.m 2 .v1) .n2) (.m (.m 2 .v1) .v0 .e) rfl hc) (by exact ai1 .le .n0 (.s (.a .v0 .n1) .n1) (.l .n0 .v0 .e) rfl hu) (by exact ai1 .le .n0 (.s (.a .v0 .n2) .n1) (.l .n0 .v0 .e) rfl hl)
 ·have d2:=d2 h0
  rw [h1,h2] at d2
  rw [h2] at z2
  rw [h1] at z4
  by_cases hc:u≤e.u
  ·exact hit d1 (by exact Int.le_antisymm (ai2 .le .v0 .v1 (.m (.a .v1 .n1) .v0 .e) rfl z1) (ai2 .le .v0 .v1 (.l .v0 .v1 .e) rfl hc)) (by exact ai2 .le (.m 2 .v0) .v1 (.m (.a .v1 .n1) (.m 2 .v0) .e) rfl z4) (by exact ai3 .lt .v0 (.a (.m 2 .v1) .n2) (.m (.a (.m 2 .v1) .v2) .v0 (.l .v2 .n2 .e)) rfl z3 hw) hu hl
  ·exact hit d2 (by exact Int.le_antisymm (ai2 .le (.s (.a .v0 .n2) .n1) .v1 (.m .v1 .v0 .e) rfl hc) (ai2 .le .v0 (.s (.a .v1 .n2) .n1) (.m (.a .v1 .n2) .v0 .e) rfl z2)) (by exact ai2 .le (.m 2 .v0) (.s (.a .v1 .n1) .n1) (.m (.a .v1 .n1) (.m 2 .v0) .e) rfl z4) (by exact ai3 .lt (.s (.a .v0 .n1) .n1) (.a (.m 2 .v1) .n2) (.m (.a (.m 2 .v1) .v2) .v0 (.l .v2 .n2 .e)) rfl z3 hw) (by exact ai1 .le .n0 (.s (.a .v0 .n2) .n1) (.l .n0 .v0 .e) rfl hu) (by exact ai1 .le .n0 (.s (.a .v0 .n1) .n1) (.l .n0 .v0 .e) rfl hl)
theorem Snd.pos {ss:List Sh} {hs:List En} {x:En} (s:Snd ss hs) (hx:x∈hs):0≤x.u∧0≤x.l:=by
 refine AQ (s.ins x hx) fun sh h=>?_
 have h1:=h.p0
 have h2:=h.s0
 unfold En.qp at h1 h2
 dsimp only at h1 h2
 cases hb:hbt ss x.n with
 | true=>rw [hb] at h1 h2;exact ⟨h1,h2⟩
 | false=>rw [hb] at h1 h2;exact ⟨h2,h1⟩
theorem UU {b:Bool} {hs:List En} {e:En} (s:Snd (sh8 b) hs) (sm:∀ x∈hs,Small x) (he:Small e) (h:hs.length+(hs.filter fun e=>decide (e.w=2)).length<32):∃ q:Qp,Ok (sh8 b) hs none (BG (sh8 b) e q):=by
 refine AC (N8 h) fun d hd hc=>?_
 have e4:=(Int.mul_ediv_add_emod (d:Int) 4).symm
 have j0:=Int.emod_nonneg (d:Int) (b:=4) (by decide)
 have j1:=Int.emod_lt_of_pos (d:Int) (b:=4) (by decide)
 have hd:(d:Int)<32:=Int.ofNat_lt.mpr hd
 have u0:=Int.ediv_nonneg (Int.natCast_nonneg d) (b:=4) (by decide)
 generalize (d:Int) / 4=u at *
 generalize (d:Int) % 4=j at *
 refine ⟨(e.to 0 u (2*j) false).qp (sh8 b),?_⟩
 rw [Lz]
 refine Io.mp ⟨⟨8,8,b⟩,rfl,nofun,?_⟩
 have eo:(e.to 0 u (2*j) false).ot=⟨2*j,u,e.w,e.h⟩:=rfl
 have hw:e.w≤2:=he.w.elim (fun z=>z▸(by decide)) fun z=>z▸Int.le_refl _
 rw [eo,he.h]
 refine ⟨u0,(by exact ai1 .le .n0 (.m 2 .v0) (.w 2 (.l .n0 .v0 .e)) rfl j0:0≤2*j),Int.add_one_le_of_lt (Int.lt_of_mul_lt_mul_left (a:=4) (Int.lt_of_le_of_lt (Int.le_add_of_nonneg_right j0) (e4▸hd)) (by decide)),(by exact ai2 .le (.a (.m 2 .v0) .v1) (.n 8) (.l .v1 .n2 (.w 2 (.t .v0 (.n 4) .e))) rfl hw j1:2*j+e.w≤8),fun o ho=>?_⟩
 refine AC (List.mem_map.mp ho) fun o' ho' ze1=>?_;subst ze1
 refine AC (List.mem_map.mp ho') fun x hx ze1=>?_;subst ze1
 have hx:=(List.mem_filter.mp hx).1
 exact MN (sm x hx) hw e4 (s.pos hx).1 (s.pos hx).2 (hc x hx)
theorem U1:hbt (sh8 b) 0=b:=rfl
theorem Snd.n0 (s:Snd (sh8 b) hs) (hx:x∈hs):x.n=0:=by
 refine AQ (s.ins x hx) fun sh h=>?_
 have:=(List.getElem?_eq_some_iff.mp h.at_).1
 exact Nat.lt_one_iff.mp this
theorem qp8 {b:Bool} {x:En} (h:x.n=0):((x.qp (sh8 b)).p,(x.qp (sh8 b)).s)=psK b (x.u,x.l):=by
 unfold En.qp psK
 rw [h,U1]
 cases b <;> rfl
theorem G2 (ha:0<a) (hb:0<b) (ha':0<a') (hb':0<b'):¬ Ar a b p s ⟨p,s,a',b'⟩:=fun z=>
 Gy z (fun z=>Int.not_lt.mpr z (Int.lt_add_of_pos_right _ ha)) (fun z=>Int.not_lt.mpr z (Int.lt_add_of_pos_right _ ha')) (fun z=>Int.not_lt.mpr z (Int.lt_add_of_pos_right _ hb)) fun z=>Int.not_lt.mpr z (Int.lt_add_of_pos_right _ hb')
theorem Ql {b:Bool} {hs:List En} {i j:Nat} {x y:En} (s:Snd (sh8 b) hs) (hx:hs[i]?=some x) (hy:hs[j]?=some y) (hij:i≠j) (h:Ah (x.key (sh8 b)) (y.key (sh8 b))=true):Ep (psK b (x.u,x.l)) (psK b (y.u,y.l)):=by
 have nx:=s.n0 (List.mem_of_getElem? hx)
 have ny:=s.n0 (List.mem_of_getElem? hy)
 rw [Do,Do] at h
 have h:=F4.mp h
 rw [← qp8 nx,← qp8 ny]
 have en:((x.qp (sh8 b)).n:Int)=(y.qp (sh8 b)).n:=by show (x.n:Int)=y.n;rw [nx,ny]
 rcases h with h | ⟨_,h | ⟨h1,h | ⟨h2,h3⟩⟩⟩
 ·exact absurd en (Int.ne_of_lt h)
 ·exact .inl h
 ·exact .inr ⟨h1,h⟩
 ·exfalso
  have e2:psK b (x.u,x.l)=psK b (y.u,y.l):=by rw [← qp8 nx,← qp8 ny,h1,h2]
  have e3:(x.u,x.l)=(y.u,y.l):=by rw [← Fz (b:=b) (x:=(x.u,x.l)),e2,Fz]
  injection e3 with eu el
  have zx:=s.sz x (List.mem_of_getElem? hx)
  have zy:=s.sz y (List.mem_of_getElem? hy)
  have ap:Ar x.ot.h x.ot.w x.ot.u x.ot.l y.ot.low∨Ar y.ot.h y.ot.w y.ot.u y.ot.l x.ot.low:=by
   have:=List.pairwise_iff_getElem.mp s.apart
   refine AQ (List.getElem?_eq_some_iff.mp hx) fun hi ei=>?_
   refine AQ (List.getElem?_eq_some_iff.mp hy) fun hj ej=>?_
   refine Or.elim (Nat.lt_or_gt_of_ne hij) (fun z=>?_) (fun z=>?_)
   ·have:=this i j hi hj z;rw [ei,ej] at this;exact .inl (this (nx.trans ny.symm))
   ·have:=this j i hj hi z;rw [ei,ej] at this;exact .inr (this (ny.trans nx.symm))
  have hp:∀ {e:En},0<e.w∧0<e.h→0<e.ot.w∧0<e.ot.h:=fun {e} h=>by unfold En.ot;cases e.r <;> first | exact h | exact ⟨h.2,h.1⟩
  have px:=hp zx
  have py:=hp zy
  unfold Ot.low at ap
  rw [Cq.1,Cq.2,Cq.1,Cq.2,← eu,← el] at ap
  exact ap.elim (G2 px.2 px.1 py.2 py.1) (G2 py.2 py.1 px.2 px.1)
end Mine.Internal
namespace Mine.Internal
open PySem
noncomputable def Al (e:En):List (List Int):=(List.range (e.ot.w*e.ot.h).toNat).map fun k:Nat=>[e.u+(k:Int) / e.ot.w,e.l+(k:Int) % e.ot.w]
theorem LD {e:En} (h:0<e.w∧0<e.h):0<e.ot.w∧0<e.ot.h:=by unfold En.ot;cases e.r <;> first | exact h | exact ⟨h.2,h.1⟩
structure Cell (e:En) (a b:Int):Prop where
 u:e.u≤a
 u':a<e.u+e.ot.h
 l:e.l≤b
 l':b<e.l+e.ot.w
theorem HF (hp:0<e.ot.w∧0<e.ot.h):[a,b]∈Al e↔Cell e a b:=by
 constructor
 ·intro h
  refine AC (List.mem_map.mp h) fun k hk e1=>?_
  injection e1 with e1 e2
  injection e2 with e2 _
  have hk:=List.mem_range.mp hk
  have hk':(k:Int)<e.ot.w*e.ot.h:=by
   have:=Int.toNat_of_nonneg (Int.le_of_lt (Int.mul_pos hp.1 hp.2))
   rw [← this];exact Int.ofNat_lt.mpr hk
  have h1:=Int.ediv_nonneg (Int.natCast_nonneg k) (Int.le_of_lt hp.1)
  have h2:(k:Int) / e.ot.w<e.ot.h:=Int.ediv_lt_of_lt_mul hp.1 (Int.mul_comm e.ot.w e.ot.h▸hk')
  have h3:=Int.emod_nonneg (k:Int) (Int.ne_of_gt hp.1)
  have h4:=Int.emod_lt_of_pos (k:Int) hp.1
  exact ⟨e1▸Int.le_add_of_nonneg_right h1,e1▸Int.add_lt_add_left h2 _,e2▸Int.le_add_of_nonneg_right h3,e2▸Int.add_lt_add_left h4 _⟩
 ·intro c
  have h1:0≤a - e.u:=Int.sub_nonneg_of_le c.u
  have h2:0≤b - e.l:=Int.sub_nonneg_of_le c.l
  have h3:b - e.l<e.ot.w:=Int.sub_left_lt_of_lt_add c.l'
  have h4:a - e.u+1≤e.ot.h:=Int.add_one_le_of_lt (Int.sub_left_lt_of_lt_add c.u')
  have h5:(a - e.u)*e.ot.w+(b - e.l)<e.ot.w*e.ot.h:=by
   have:=Int.mul_le_mul_of_nonneg_right h4 (Int.le_of_lt hp.1)
   rw [Int.add_mul,Int.one_mul,Int.mul_comm e.ot.h] at this
   exact Int.lt_of_lt_of_le (Int.add_lt_add_left h3 _) this
  have h6:0≤(a - e.u)*e.ot.w+(b - e.l):=Int.add_nonneg (Int.mul_nonneg h1 (Int.le_of_lt hp.1)) h2
  refine List.mem_map.mpr ⟨((a - e.u)*e.ot.w+(b - e.l)).toNat,List.mem_range.mpr ((Int.toNat_lt_toNat (Int.mul_pos hp.1 hp.2)).mpr h5),?_⟩
  rw [Int.toNat_of_nonneg h6,Int.add_comm _ (b - e.l),Int.add_mul_ediv_right _ _ (Int.ne_of_gt hp.1),Int.ediv_eq_zero_of_lt h2 h3,Int.zero_add,Int.add_mul_emod_self_right,Int.emod_eq_of_lt h2 h3,Int.add_comm e.u,Int.sub_add_cancel,Int.add_comm e.l,Int.sub_add_cancel]
theorem FH (s:Small e):(Al e).length=e.w.toNat:=by
 unfold Al
 rw [List.length_map,List.length_range,Lq,s.h,Int.mul_one]
theorem KS (s:Small e):(Al e)[0]?=some [e.u,e.l]:=by
 unfold Al
 refine EH s.ot (fun zt1=>Ay zt1 fun _ h1 h2=>?_) (fun zt2=>Ay zt2 fun _ h1 h2=>?_) (fun zt3=>Ay zt3 fun _ h1 h2=>?_) <;> rw [h1,h2] <;> exact congrArg some (by show [e.u+(0:Int) / _,e.l+(0:Int) % _]=_;rw [Int.zero_ediv,Int.zero_emod,Int.add_zero,Int.add_zero])
theorem Snd.over (s:Snd (sh8 b) hs) (hx:x∈hs) (hy:y∈hs) (cx:Cell x u l) (cy:Cell y u l):x.name=y.name:=by
 obtain ⟨i,hi,rfl⟩:=List.mem_iff_getElem.mp hx
 obtain ⟨j,hj,rfl⟩:=List.mem_iff_getElem.mp hy
 have ap:=List.pairwise_iff_getElem.mp s.apart
 have nx:=s.n0 hx
 have ny:=s.n0 hy
 have no:∀ {x y:En},Cell x u l→Cell y u l→¬ Ar x.ot.h x.ot.w x.ot.u x.ot.l y.ot.low:=fun {x y} cx cy z=>by
  unfold Ar Ot.low at z
  rw [Cq.1,Cq.2,Cq.1,Cq.2] at z
  exact Gy z (fun z=>Int.not_lt.mpr (Int.le_trans z cy.u) cx.u') (fun z=>Int.not_lt.mpr (Int.le_trans z cx.u) cy.u') (fun z=>Int.not_lt.mpr (Int.le_trans z cy.l) cx.l') fun z=>Int.not_lt.mpr (Int.le_trans z cx.l) cy.l'
 refine EH (Nat.lt_trichotomy i j) (fun h=>?_) (fun h=>?_) (fun h=>?_)
 ·exact absurd (ap i j hi hj h (nx.trans ny.symm)) (no cx cy)
 ·subst h;rfl
 ·exact absurd (ap j i hj hi h (ny.trans nx.symm)) (no cy cx)
theorem ON {b:Bool} {u l:Int} {f:List Int→Option V} (s:Snd (sh8 b) hs) (sm:∀ x∈hs,Small x) (he:e∈hs) (fo:FirstOf (sh8 b) hs e e) (F:∀ x∈hs,∀ c∈Al x,∃ y∈hs,c∈Al y∧f c=some (.str y.name))
  (hu:0≤u∧u<8) (hl:0≤l) (hlt:Ep (psK b (u,l)) (psK b (e.u,e.l))) (h1:l≤7∧(f [u,l]).getD (.str e.name)=.str e.name) (h2:e.w=2→l+1≤7∧(f [u,l+1]).getD (.str e.name)=.str e.name):False:=by
 have se:=sm e he
 have ne:=s.n0 he
 have ok:Ok (sh8 b) hs (some e.name) (e.to 0 u l false):=by
  refine Io.mp ⟨⟨8,8,b⟩,rfl,nofun,?_⟩
  have eo:(e.to 0 u l false).ot=⟨l,u,e.w,e.h⟩:=rfl
  rw [eo,se.h]
  refine ⟨hu.1,hl,Int.add_one_le_of_lt hu.2,?_,fun o ho=>?_⟩
  ·show l+e.w≤8
   refine Or.elim se.w (fun w=>?_) (fun w=>?_)
   ·rw [w];exact Int.add_le_add_right h1.1 1
   ·rw [w];have:=Int.add_le_add_right (h2 w).1 1;rwa [Int.add_assoc] at this
  refine AC (List.mem_map.mp ho) fun o' ho' ze1=>?_;subst ze1
  refine AC (List.mem_map.mp ho') fun x hx ze1=>?_;subst ze1
  have hk:=(List.mem_filter.mp hx).2
  have hx:=(List.mem_filter.mp hx).1
  have hne:x.name≠e.name:=Ev.mp (Bool.and_eq_true_iff.mp hk).2
  have no:∀ {a c:Int},Cell x a c→(f [a,c]).getD (.str e.name)=.str e.name→False:=fun {a c} cx hf=>by
   refine Ab (F x hx _ ((HF (LD (s.sz x hx))).mpr cx)) fun y hy hc e1=>?_
   rw [e1] at hf
   have e2:y.name=e.name:=by injection hf
   exact hne ((s.over hx hy cx ((HF (LD (s.sz y hy))).mp hc)).trans e2)
  refine Classical.byContradiction fun z=>?_
  unfold Ar Ot.low at z
  dsimp only at z
  rw [Cq.1,Cq.2] at z
  have hpx:=LD (s.sz x hx)
  refine Or.elim se.w (fun w=>?_) (fun w=>?_) <;> rw [w] at z
  ·exact no (a:=u) (c:=l) ⟨by exact ai2 .le .v0 .v1 (.m (.a .v1 .n1) .v0 .e) rfl (not_or.mp z).1,by exact ai3 .lt .v0 (.a .v1 .v2) (.m (.a .v1 .v2) .v0 .e) rfl (not_or.mp (not_or.mp z).2).1,by exact ai2 .le .v0 .v1 (.m (.a .v1 .n1) .v0 .e) rfl (not_or.mp (not_or.mp (not_or.mp z).2).2).1,by exact ai3 .lt .v0 (.a .v1 .v2) (.m (.a .v1 .v2) .v0 .e) rfl (not_or.mp (not_or.mp (not_or.mp z).2).2).2⟩ h1.2
  ·by_cases hc:x.l≤l
   ·exact no (a:=u) (c:=l) ⟨by exact ai2 .le .v0 .v1 (.m (.a .v1 .n1) .v0 .e) rfl (not_or.mp z).1,by exact ai3 .lt .v0 (.a .v1 .v2) (.m (.a .v1 .v2) .v0 .e) rfl (not_or.mp (not_or.mp z).2).1,by exact ai2 .le .v0 .v1 (.l .v0 .v1 .e) rfl hc,by exact ai3 .lt .v0 (.a .v1 .v2) (.m (.a .v1 .v2) .v0 .e) rfl (not_or.mp (not_or.mp (not_or.mp z).2).2).2⟩ h1.2
   ·exact no (a:=u) (c:=l+1) ⟨by exact ai2 .le .v0 .v1 (.m (.a .v1 .n1) .v0 .e) rfl (not_or.mp z).1,by exact ai3 .lt .v0 (.a .v1 .v2) (.m (.a .v1 .v2) .v0 .e) rfl (not_or.mp (not_or.mp z).2).1,by exact ai2 .le .v0 (.a .v1 .n1) (.m (.a .v1 .n2) .v0 .e) rfl (not_or.mp (not_or.mp (not_or.mp z).2).2).1,by exact ai3 .lt (.a .v0 .n1) (.a .v1 .v2) (.m .v1 .v0 (.t .n0 .v2 .e)) rfl hc hpx.1⟩ (h2 w).2
 refine Or.elim (El fo.fp) (fun h=>?_) (fun zt1=>Ab zt1 fun q e1 _ le=>?_)
 ·exact Oe h.1
 ·have e2:=Option.some.inj e1
  have eq:e=BG (sh8 b) e q:=by
   have:e=e.to e.n e.u e.l e.r:=rfl
   refine this.trans ?_
   rw [Int.ofNat.inj (congrArg (·.1) e2),show e.u=_ from congrArg (·.2.1) e2,show e.l=_ from congrArg (·.2.2.1) e2,show e.r=_ from congrArg (·.2.2.2) e2];rfl
  have hle:=le ((e.to 0 u l false).qp (sh8 b)) (by rw [Lz];exact ok)
  rw [← Da (ss:=sh8 b) (e:=e) (q:=q),← eq] at hle
  have h3:=qp8 (b:=b) (x:=e.to 0 u l false) rfl
  have h4:=qp8 (b:=b) ne
  rw [show psK b (u,l)=psK b ((e.to 0 u l false).u,(e.to 0 u l false).l) from rfl,← h3,← h4] at hlt
  have h5:(e.qp (sh8 b)).n=0:=ne
  have h6:((e.to 0 u l false).qp (sh8 b)).n=0:=rfl
  refine hle.elim (fun z=>by rw [h5,h6] at z;exact Nat.lt_irrefl _ z) fun z=>?_
  have z:=z.2
  refine hlt.elim (fun w=>z.elim (fun z=>Int.lt_asymm w z) fun z=>Int.ne_of_gt w z.1) fun w=>z.elim (fun z=>Int.ne_of_gt z w.1) fun z=>z.2.elim (fun z=>Int.lt_asymm w.2 z) fun z=>Int.ne_of_gt w.2 z.1
noncomputable def Bk (b:Bool):List (List Int):=(List.range 64).map fun k:Nat=>if b=true then [(k:Int) / 8,(k:Int) % 8] else [(k:Int) % 8,(k:Int) / 8]
theorem KY {b:Bool} {i:Nat} (h:i<64):∃ u l,(Bk b)[i]?=some [u,l]∧psK b (u,l)=((i:Int) / 8,(i:Int) % 8)∧(0≤u∧u<8)∧0≤l:=by
 have e:(Bk b)[i]?=some (if b=true then [(i:Int) / 8,(i:Int) % 8] else [(i:Int) % 8,(i:Int) / 8]):=by rw [Bk,List.getElem?_map,List.getElem?_range h];rfl
 cases b with
 | true=>exact ⟨_,_,e,rfl,⟨Int.ediv_nonneg (Int.natCast_nonneg i) (by decide),Int.ediv_lt_of_lt_mul (by decide) (Int.ofNat_lt.mpr h)⟩,Int.emod_nonneg _ (by decide)⟩
 | false=>exact ⟨_,_,e,rfl,⟨Int.emod_nonneg _ (by decide),Int.emod_lt_of_pos _ (by decide)⟩,Int.ediv_nonneg (Int.natCast_nonneg i) (by decide)⟩
theorem RG {b:Bool} (s:Snd (sh8 b) hs) (he:e∈hs):∃ j,j<64∧(Bk b)[j]?=some [e.u,e.l]∧[e.u,e.l]∉(Bk b).take j∧psK b (e.u,e.l)=((j:Int) / 8,(j:Int) % 8):=by
 have ne:=s.n0 he
 refine AQ (s.ins e he) fun sh h=>?_
 have hsh:sh=⟨8,8,b⟩:=by
  have:=h.at_
  rw [show (e.qp (sh8 b)).n=0 from ne] at this
  exact (Option.some.inj this).symm
 have q8:=qp8 (b:=b) ne
 have h1:=h.p0
 have h2:=h.s0
 have h3:=h.p1
 have h4:=h.s1
 have zA:=D3 (b:=sh.b) (r:=(e.qp (sh8 b)).r) (s.sz e he).1 (s.sz e he).2
 have zB:=Eh (b:=sh.b) (r:=(e.qp (sh8 b)).r) (s.sz e he).1 (s.sz e he).2
 have hP:shP sh=8:=by rw [hsh];unfold shP;cases b <;> rfl
 have hS:shS sh=8:=by rw [hsh];unfold shS;cases b <;> rfl
 rw [hP] at h3
 rw [hS] at h4
 have h3:(e.qp (sh8 b)).p<8:=Int.lt_of_lt_of_le (Int.lt_add_of_pos_right _ zA) h3
 have h4:(e.qp (sh8 b)).s<8:=Int.lt_of_lt_of_le (Int.lt_add_of_pos_right _ zB) h4
 generalize (e.qp (sh8 b)).p=p at *
 generalize (e.qp (sh8 b)).s=t at *
 have hn:0≤8*p+t:=Int.add_nonneg (Int.mul_nonneg (by decide) h1) h2
 have hj:(8*p+t).toNat<64:=(Int.toNat_lt hn).mpr (by exact ai2 .lt (.a (.m 8 .v0) .v1) (.n 64) (.w 8 (.t .v0 (.n 8) (.t .v1 (.n 8) .e))) rfl h3 h4)
 have e8:(((8*p+t).toNat:Int) / 8,((8*p+t).toNat:Int) % 8)=(p,t):=by
  rw [Int.toNat_of_nonneg hn,Int.add_comm,Int.add_mul_ediv_left _ _ (by decide),Int.ediv_eq_zero_of_lt h2 h4,Int.zero_add,Int.add_mul_emod_self_left,Int.emod_eq_of_lt h2 h4]
 refine ⟨(8*p+t).toNat,hj,?_,fun hm=>?_,by rw [e8,q8]⟩
 ·refine A0 (KY (b:=b) hj) fun u l e1 e2 _=>?_
  rw [e8,q8] at e2
  have:(u,l)=(e.u,e.l):=by rw [← Fz (b:=b) (x:=(u,l)),e2,Fz]
  injection this with eu el
  rw [e1,eu,el]
 ·obtain ⟨i,hi,e1⟩:=List.mem_take_iff_getElem.mp hm
  have hi':i<64:=Nat.lt_trans (Nat.lt_of_lt_of_le hi (Nat.min_le_left _ _)) hj
  refine A0 (KY (b:=b) hi') fun u l e2 e3 _=>?_
  have e4:(Bk b)[i]?=some [e.u,e.l]:=by rw [List.getElem?_eq_getElem (Nat.lt_of_lt_of_le hi (Nat.min_le_right _ _)),e1]
  have e5:=Option.some.inj (e2.symm.trans e4)
  injection e5 with eu e5
  injection e5 with el _
  rw [eu,el,← q8] at e3
  injection e3 with x1 x2
  have:=Nat.lt_of_lt_of_le hi (Nat.min_le_left _ _)
  have e9:=Int.mul_ediv_add_emod (i:Int) 8
  rw [← x1,← x2] at e9
  rw [e9,Int.toNat_natCast] at this
  exact Nat.lt_irrefl _ this
theorem TV {b:Bool} {i j:Nat} {x y:Int × Int} (hx:psK b x=((i:Int) / 8,(i:Int) % 8)) (hy:psK b y=((j:Int) / 8,(j:Int) % 8)) (h:i<j):Ep (psK b x) (psK b y):=by
 rw [hx,hy]
 refine (Int.lt_or_eq_of_le (Int.ediv_le_ediv (c:=8) (by decide) (Int.ofNat_le.mpr (Nat.le_of_lt h)))).imp id fun e=>⟨e,?_⟩
 have e1:=Int.mul_ediv_add_emod (i:Int) 8
 have e2:=Int.mul_ediv_add_emod (j:Int) 8
 have h:(i:Int)<j:=Int.ofNat_lt.mpr h
 rw [← e1,← e2,show (i:Int) / 8=j / 8 from e] at h
 exact Int.lt_of_add_lt_add_left h
end Mine.Internal
namespace Mine.Internal
open PySem
noncomputable def bn (k:Nat):Str:=Str.ofString "b"++Str.ofString (toString (k:Int))
theorem Nw:((List.range 30).all fun k=>Ap (bn k)&&(bn k).cps.all (·<128)&&decide ((bn k).length≤12)&&PyData.strOk (bn k))=true∧((List.range 30).map bn).Nodup:=by decide +kernel
theorem II (h:k<30):GoodName (bn k):=by
 have:=List.all_eq_true.mp Nw.1 k (List.mem_range.mpr h)
 simp only [Bool.and_eq_true,decide_eq_true_eq] at this
 exact ⟨this.1.1.2,Nat.le_trans this.1.2 (by decide),this.1.1.1,this.2⟩
theorem KT (hi:i<30) (hj:j<30) (h:bn i=bn j):i=j:=by
 have hn:=List.pairwise_iff_getElem.mp Nw.2
 have g:∀ k,(hk:k<30)→((List.range 30).map bn)[k]'(by rw [List.length_map,List.length_range];exact hk)=bn k:=fun k hk=>by rw [List.getElem_map,List.getElem_range]
 refine EH (Nat.lt_trichotomy i j) (fun z=>?_) (fun z=>?_) (fun z=>?_)
 ·exact absurd ((g i hi).trans (h.trans (g j hj).symm)) (hn i j _ _ z)
 ·exact z
 ·exact absurd ((g j hj).trans (h.symm.trans (g i hi).symm)) (hn j i _ _ z)
structure Crowd (cc i:Nat) (hs:List En):Prop where
 len:hs.length=i
 is:∀ j e,hs[j]?=some e→e.name=bn j∧e.w=(if j=cc then 2 else 1)∧e.h=1
theorem Crowd.small (c:Crowd cc i hs):∀ e∈hs,Small e:=fun e he=>by
 obtain ⟨j,hj,rfl⟩:=List.mem_iff_getElem.mp he
 have:=c.is j _ (List.getElem?_eq_getElem hj)
 refine ⟨this.2.2,?_⟩
 rw [this.2.1]
 by_cases h:j=cc
 ·rw [if_pos h];exact .inr rfl
 ·rw [if_neg h];exact .inl rfl
theorem Crowd.one (c:Crowd cc i hs) (hn:(hs.map (·.name)).Nodup):(hs.filter fun e=>decide (e.w=2)).length≤1:=by
 have:=D4 (l:=(hs.filter fun e=>decide (e.w=2)).map (·.name)) (l':=[bn cc]) (hn.sublist (List.filter_sublist.map _)) fun x hx=>by
  refine AC (List.mem_map.mp hx) fun e he ze1=>?_;subst ze1
  have he:=List.mem_filter.mp he
  have h2:=of_decide_eq_true he.2
  obtain ⟨j,hj,e1⟩:=List.mem_iff_getElem.mp he.1
  have:=c.is j e (by rw [List.getElem?_eq_getElem hj,e1])
  by_cases h:j=cc
  ·rw [this.1,h];exact List.mem_singleton.mpr rfl
  ·rw [this.2.1,if_neg h] at h2;exact absurd h2 (by decide)
 rwa [List.length_map] at this
theorem Crowd.new (c:Crowd cc i hs) (hi:i<30):bn i∉hs.map (·.name):=fun z=>by
 refine AC (List.mem_map.mp z) fun e he e1=>?_
 obtain ⟨j,hj,rfl⟩:=List.mem_iff_getElem.mp he
 have:=c.is j _ (List.getElem?_eq_getElem hj)
 have hj':j<i:=c.len▸hj
 exact Nat.lt_irrefl _ (KT (Nat.lt_trans hj' hi) hi (this.1.symm.trans e1)▸hj')
theorem Crowd.add (c:Crowd cc i hs) (h:e.name=bn i∧e.w=(if i=cc then 2 else 1)∧e.h=1):Crowd cc (i+1) (hs++[e]) where
 len:=by rw [List.length_append,c.len];rfl
 is j x hx:=by
  refine Or.elim (Nat.lt_or_ge j hs.length) (fun z=>?_) (fun z=>?_)
  ·rw [List.getElem?_append_left z] at hx;exact c.is j x hx
  ·rw [List.getElem?_append_right z] at hx
   have e1:=List.mem_singleton.mp (List.mem_of_getElem? hx)
   have h2:=(List.getElem?_eq_some_iff.mp hx).1
   have:j=i:=by rw [← c.len];exact Nat.le_antisymm (Nat.le_of_sub_eq_zero (Nat.lt_one_iff.mp h2)) z
   rw [e1,this];exact h
noncomputable def B2 (i:Nat):List Str:=(List.range i).map fun j=>bn (3*j)
theorem Gq {i:Nat} {hs:List En}:(hs.filter fun e=>decide (e.name∉B2 i)).filter (fun y=>decide (y.name≠bn (3*i)))=hs.filter fun e=>decide (e.name∉B2 (i+1)):=by
 rw [List.filter_filter]
 refine List.filter_congr fun e _=>?_
 rw [← Bool.decide_and]
 refine decide_eq_decide.mpr ?_
 unfold B2
 rw [List.range_succ,List.map_append,List.mem_append]
 exact ⟨fun h z=>z.elim h.2 fun z=>h.1 (List.mem_singleton.mp z),fun h=>⟨fun z=>h (.inr (List.mem_singleton.mpr z)),fun z=>h (.inl z)⟩⟩
theorem NH (hn:n≤30) (hk:k<n):bn k∈B2 ((n+2) / 3)↔k % 3=0:=by
 constructor
 ·intro h
  refine AC (List.mem_map.mp h) fun j hj e=>?_
  have hj:=List.mem_range.mp hj
  have h3:3*j+3≤n+2:=Nat.le_trans (Nat.mul_le_mul_left 3 hj) (Nat.mul_div_le _ _)
  have:=KT (Nat.lt_of_lt_of_le (by exact an2 .lt (.m 3 .v0) .v1 (.l (.a (.m 3 .v0) .n3) (.a .v1 .n2) .e) rfl h3:3*j<n) hn) (Nat.lt_of_lt_of_le hk hn) e
  rw [← this];exact Nat.mul_mod_right 3 j
 ·intro h
  refine List.mem_map.mpr ⟨k / 3,List.mem_range.mpr ?_,congrArg bn (Nat.mul_div_cancel' (Nat.dvd_of_mod_eq_zero h))⟩
  have:(k+3) / 3≤(n+2) / 3:=Nat.div_le_div_right (Nat.succ_le_succ (Nat.succ_le_succ hk))
  rwa [Nat.add_div_right _ (by decide)] at this
theorem Crowd.rest {cc n:Nat} {hs:List En} {α:Type} {g:En→α} (c:Crowd cc n hs) (hn:n≤30):((List.range n).filterMap fun k=>if 0<k % 3 then some (g (hs.getD k dfl)) else none)=(hs.filter fun e=>decide (e.name∉B2 ((n+2) / 3))).map g:=by
 have e1:hs=(List.range n).map fun k=>hs.getD k dfl:=by
  apply List.ext_getElem (by rw [List.length_map,List.length_range,c.len])
  intro i h1 h2
  rw [List.getElem_map,List.getElem_range,List.getD_eq_getElem?_getD,List.getElem?_eq_getElem h1];rfl
 have e2:(hs.filter fun e=>decide (e.name∉B2 ((n+2) / 3)))=((List.range n).filter fun k=>decide (0<k % 3)).map fun k=>hs.getD k dfl:=by
  conv=>lhs;rw [e1]
  rw [List.filter_map]
  congr 1
  refine List.filter_congr fun k hk=>?_
  have hk:=List.mem_range.mp hk
  have hk':k<hs.length:=c.len.symm▸hk
  have:=(c.is k _ (List.getElem?_eq_getElem hk')).1
  refine decide_eq_decide.mpr ?_
  have e3:(hs.getD k dfl).name=bn k:=by rw [List.getD_eq_getElem?_getD,List.getElem?_eq_getElem hk'];exact this
  show (hs.getD k dfl).name∉_↔_
  rw [e3,NH hn hk]
  exact Nat.pos_iff_ne_zero.symm
 rw [e2,List.map_map]
 have:=Bw (f:=fun k=>decide (0<k % 3)) (g:=fun k=>g (hs.getD k dfl)) (List.range n)
 simp only [decide_eq_true_eq] at this
 exact this
theorem SO (hm:0<m) (h:Ep (psK b (u,l)) (psK b (u',l'))):Ep (psK b (u*m,l*m)) (psK b (u'*m,l'*m)):=by
 cases b with
 | true=>exact h.imp (Int.mul_lt_mul_of_pos_right · hm) fun z=>⟨congrArg (·*m) z.1,Int.mul_lt_mul_of_pos_right z.2 hm⟩
 | false=>exact h.imp (Int.mul_lt_mul_of_pos_right · hm) fun z=>⟨congrArg (·*m) z.1,Int.mul_lt_mul_of_pos_right z.2 hm⟩
theorem Sw {b:Bool} {hs:List En} {p:List Nat} {m:Int} {i j pi pj:Nat} {x y:En} (s:Snd (sh8 b) hs) (hp:p.Perm (List.range hs.length)) (ho:p.Pairwise (B7 (hs.map (En.key (sh8 b))))) (hm:0<m) (hij:i<j) (hi:p[i]?=some pi) (hj:p[j]?=some pj) (hx:hs[pi]?=some x) (hy:hs[pj]?=some y) :
  Ep (psK b (x.u*m,x.l*m)) (psK b (y.u*m,y.l*m)):=by
 have hne:pi≠pj:=fun z=>by
  have hn:p.Nodup:=hp.nodup_iff.mpr List.nodup_range
  refine AQ (List.getElem?_eq_some_iff.mp hi) fun h1 e1=>?_
  refine AQ (List.getElem?_eq_some_iff.mp hj) fun h2 e2=>?_
  exact List.pairwise_iff_getElem.mp hn i j h1 h2 hij (e1.trans (z.trans e2.symm))
 have ha:B7 (hs.map (En.key (sh8 b))) pi pj:=by
  refine AQ (List.getElem?_eq_some_iff.mp hi) fun h1 e1=>?_
  refine AQ (List.getElem?_eq_some_iff.mp hj) fun h2 e2=>?_
  have:=List.pairwise_iff_getElem.mp ho i j h1 h2 hij
  rwa [e1,e2] at this
 have k1:(hs.map (En.key (sh8 b))).getD pi []=x.key (sh8 b):=by rw [List.getD_eq_getElem?_getD,List.getElem?_map,hx];rfl
 have k2:(hs.map (En.key (sh8 b))).getD pj []=y.key (sh8 b):=by rw [List.getD_eq_getElem?_getD,List.getElem?_map,hy];rfl
 unfold B7 at ha
 rw [k1,k2] at ha
 exact SO hm (Ql s hx hy hne (ha.elim id fun z=>Ke s hx hy hne z.1))
end Mine.Internal
namespace Mine.Internal
open PySem
noncomputable def C0:Str:="Rack.names.<locals>.<lambda>"
noncomputable def L0:Fn:=⟨2,8,[
  AP (.tup [2,3,4,5]) (AA 1),
  AP (.var 6) (AD 0),
  sIf (Bj (AA 5)) [AP (.var 6) (AD 1)] [],
  sIf (AU (AL (AL (AA 0) (AA 2)) (AD 2)) [.Eq] [(Bc (Str.ofString "low"))]) [AW (BF [(AA 2),(AA 3),(AA 4),(AA 6)])] [],
  AW (BF [(AA 2),(AA 4),(AA 3),(AA 6)])]⟩
noncomputable def Hl:Fn:=⟨3,4,[
  AW (xOf (AU (AS 0 [(AA 0),(AA 1)]) [.Lt] [(AS 0 [(AA 0),(AA 2)])]))]⟩
noncomputable def LY:Fn:=⟨3,7,[
  AP (.var 3) (AD 0),
  CH (.tup [4,5]) .plain [(Ee false (AA 0))] [sIf (EC [(AU (AA 4) [.Lt] [(AJ .add (AA 3) (AA 1))]),(AU (AA 5) [.Gt] [(AA 3)])]) [AP (.var 3) (AA 5)] []],
  sIf (AU (AJ .add (AA 3) (AA 1)) [.Gt] [(AA 2)]) [AW B6] [],
  AW (AA 3)]⟩
noncomputable def L4:Fn:=⟨3,4,[
  AW (Ee true (AJ .add (A4 [(AD 0)]) (BA (AA 3) 3 .plain [(AA 0)] [(AU (AD 0) [.Lt,.LtE] [(AA 3),(AJ .sub (AA 2) (AA 1))])])))]⟩
noncomputable def Lj:Fn:=⟨5,9,[
  CH (.var 5) .plain [(AS 3 [(BA (AJ .add (AL (AA 8) (AD 1)) (AL (AA 8) (AD 3))) 8 .plain [(AA 0)] []),(AA 4),(AA 2)])] [AP (.var 6) (BA (AA 8) 8 .plain [(AA 0)] [(EC [(AU (AL (AA 8) (AD 1)) [.Lt] [(AJ .add (AA 5) (AA 4))]),(AU (AA 5) [.Lt] [(AJ .add (AL (AA 8) (AD 1)) (AL (AA 8) (AD 3)))])])]),AP (.var 7) (AS 2 [(BA (BF [(AL (AA 8) (AD 0)),(AJ .add (AL (AA 8) (AD 0)) (AL (AA 8) (AD 2)))]) 8 .plain [(AA 6)] []),(AA 3),(AA 1)]),sIf (EC [(AU (AA 7) [.IsNot] [B6]),(AU (AJ .add (AA 5) (AA 4)) [.LtE] [(AA 2)])]) [AW (BF [(AA 5),(AA 7)])] []],
  AW B6]⟩
noncomputable def Lx:Fn:=⟨5,9,[
  CH (.var 5) .plain [(AS 3 [(BA (AJ .add (AL (AA 8) (AD 0)) (AL (AA 8) (AD 2))) 8 .plain [(AA 0)] []),(AA 3),(AA 1)])] [AP (.var 6) (BA (AA 8) 8 .plain [(AA 0)] [(EC [(AU (AL (AA 8) (AD 0)) [.Lt] [(AJ .add (AA 5) (AA 3))]),(AU (AA 5) [.Lt] [(AJ .add (AL (AA 8) (AD 0)) (AL (AA 8) (AD 2)))])])]),AP (.var 7) (AS 2 [(BA (BF [(AL (AA 8) (AD 1)),(AJ .add (AL (AA 8) (AD 1)) (AL (AA 8) (AD 3)))]) 8 .plain [(AA 6)] []),(AA 4),(AA 2)]),sIf (EC [(AU (AA 7) [.IsNot] [B6]),(AU (AJ .add (AA 5) (AA 3)) [.LtE] [(AA 1)])]) [AW (BF [(AA 7),(AA 5)])] []],
  AW B6]⟩
noncomputable def Ls:Fn:=⟨4,8,[
  AP (.tup [4,5,6]) (AA 1),
  sIf (AU (AA 6) [.Eq] [(Bc (Str.ofString "low"))]) [AW (AS 4 [(AA 0),(AA 4),(AA 5),(AA 2),(AA 3)])] [],
  AW (AS 5 [(AA 0),(AA 4),(AA 5),(AA 2),(AA 3)])]⟩
noncomputable def LT:Fn:=⟨6,10,[
  AP (.var 6) B6,
  AP (.var 7) (AS 6 [(AA 2),(AL (AA 0) (AA 1)),(AA 3),(AA 4)]),
  sIf (AU (AA 7) [.IsNot] [B6]) [AP (.var 6) (BF [(AA 1),(AL (AA 7) (AD 0)),(AL (AA 7) (AD 1)),(BU false)])] [],
  sIf (CY (Bj (AA 5))) [AW (AA 6)] [],
  AP (.var 7) (AS 6 [(AA 2),(AL (AA 0) (AA 1)),(AA 4),(AA 3)]),
  sIf (AU (AA 7) [.IsNot] [B6]) [AP (.var 8) (BF [(AA 1),(AL (AA 7) (AD 0)),(AL (AA 7) (AD 1)),(BU true)]),sIf (tOr [(AU (AA 6) [.Is] [B6]),(Bj (AS 1 [(AA 0),(AA 8),(AA 6)]))]) [AP (.var 6) (AA 8)] []] [],
  AW (AA 6)]⟩
noncomputable def MB:Fn:=⟨5,8,[
  CH (.var 5) .range [(Ax .len [(AA 0)])] [AP (.var 6) (AS 7 [(AA 0),(AA 5),(AL (AA 1) (AA 5)),(AA 2),(AA 3),(AA 4)]),sIf (AU (AA 6) [.IsNot] [B6]) [AW (AA 6)] []],
  AW B6]⟩
noncomputable def Le:Fn:=⟨2,11,[
  AP (.tup [2,3,4,5]) (AA 0),
  AP (.tup [6,7,8,9]) (AA 1),
  sIf (tOr [(AU (AJ .add (AA 2) (AA 4)) [.LtE] [(AA 6)]),(AU (AJ .add (AA 6) (AA 8)) [.LtE] [(AA 2)])]) [AW (BU false)] [],
  AW (E5 true [(xOf (AU (AA 3) [.Lt] [(AJ .add (AA 7) (AA 9))])),(xOf (AU (AA 7) [.Lt] [(AJ .add (AA 3) (AA 5))]))])]⟩
noncomputable def IB:Fn:=⟨3,8,[
  AP (.tup [3,4,5,6]) (AA 0),
  AW (E5 true [(xOf (AU (AA 3) [.GtE] [(AD 0)])),(xOf (AU (AA 4) [.GtE] [(AD 0)])),(xOf (AU (AJ .add (AA 3) (AA 5)) [.LtE] [(AA 1)])),(xOf (AU (AJ .add (AA 4) (AA 6)) [.LtE] [(AA 2)]))])]⟩
noncomputable def Iw:Fn:=⟨2,5,[
  CH (.tup [2,3]) .enum [(AA 0)] [sIf (Bj (AS 9 [(AA 3),(AA 1)])) [AW (AA 2)] []],
  AW B6]⟩
noncomputable def IK:Fn:=⟨4,5,[
  AW (E5 true [(AS 10 [(AA 1),(AA 2),(AA 3)]),(xOf (AU (AS 11 [(AA 0),(AA 1)]) [.Is] [B6]))])]⟩
noncomputable def IE:Fn:=⟨1,2,[
  AW (xOf (AU (AD 1) [.LtE,.LtE] [(AA 0),(AD 1000000)]))]⟩
noncomputable def IW:Fn:=⟨1,2,[
  AW (E5 true [(Ax (.isinst .str) [(AA 0)]),(xOf (AU (AD 0) [.Lt,.LtE] [(Ax .len [(AA 0)]),(AD 12)])),(Ax .all [(BA (xOf (AU (AA 1) [.In] [(Bc (Str.ofString "abcdefghijklmnopqrstuvwxyz0123456789"))])) 1 .plain [(AA 0)] [])])])]⟩
noncomputable def IZ:Fn:=⟨2,3,[
  sIf (Bj (AL (AA 1) (AD 3))) [AW (BF [(AL (AA 1) (AD 2)),(AL (AA 1) (AD 1)),(AL (AA 0) (AD 2)),(AL (AA 0) (AD 1))])] [],
  AW (BF [(AL (AA 1) (AD 2)),(AL (AA 1) (AD 1)),(AL (AA 0) (AD 1)),(AL (AA 0) (AD 2))])]⟩
noncomputable def IF:Fn:=⟨1,2,[
  sIf (AU (AJ .mod (AA 0) (AD 3)) [.Eq] [(AD 0)]) [AW (AD 1)] [],
  AW (AJ .add (AD 1) (AJ .mod (AJ .floordiv (AA 0) (AD 3)) (AD 120000)))]⟩
noncomputable def JJ:Fn:=⟨2,3,[
  sIf (AU (AA 1) [.Lt] [(Ax .len [(AA 0)])]) [AW (AL (AA 0) (AA 1))] [],
  AW (AD 0)]⟩
noncomputable def H7:Fn:=⟨1,2,[
  AW (E5 true [(Ax (.isinst .int) [(AA 0)]),(SH (Ax (.isinst .bool) [(AA 0)]))])]⟩
noncomputable def I0:Fn:=⟨3,4,[
  sIf (AU (Ax .len [(AA 0)]) [.Gt] [(AD 63)]) [AW (AA 2)] [],
  AW (AA 1)]⟩
noncomputable def FY:Fn:=⟨3,4,[
  AW (E5 false [(xOf (AU (AJ .add (AL (AA 0) (AA 2)) (AL (AA 0) (AJ .add (AA 2) (AD 2)))) [.LtE] [(AL (AA 1) (AA 2))])),(xOf (AU (AJ .add (AL (AA 1) (AA 2)) (AL (AA 1) (AJ .add (AA 2) (AD 2)))) [.LtE] [(AL (AA 0) (AA 2))]))])]⟩
noncomputable def IQ:Fn:=⟨4,6,[
  sIf (tOr [(AU (AL (AA 1) (AD 0)) [.Lt] [(AD 0)]),(AU (AL (AA 1) (AD 1)) [.Lt] [(AD 0)]),(AU (AJ .add (AL (AA 1) (AD 0)) (AL (AA 1) (AD 2))) [.Gt] [(AA 2)]),(AU (AJ .add (AL (AA 1) (AD 1)) (AL (AA 1) (AD 3))) [.Gt] [(AA 3)])]) [AW (BU false)] [],
  CH (.var 4) .plain [(AA 0)] [sIf (EC [(CY (Bj (AS 20 [(AA 1),(AA 4),(AD 0)]))),(CY (Bj (AS 20 [(AA 1),(AA 4),(AD 1)])))]) [AW (BU false)] []],
  AW (BU true)]⟩
noncomputable def JF:Fn:=⟨1,3,[
  AP (.var 1) (AL (AA 0) (AD 4)),
  sIf (Bj (AL (AA 1) (AD 3))) [AW (BF [(AL (AA 1) (AD 2)),(AL (AA 1) (AD 1)),(AL (AA 0) (AD 2)),(AL (AA 0) (AD 1))])] [],
  AW (BF [(AL (AA 1) (AD 2)),(AL (AA 1) (AD 1)),(AL (AA 0) (AD 1)),(AL (AA 0) (AD 2))])]⟩
noncomputable def P9:Fn:=⟨3,4,[
  AW (BA (AS 22 [(AA 3)]) 3 .plain [(AA 0)] [(EC [(AU (AL (AL (AA 3) (AD 4)) (AD 0)) [.Eq] [(AA 1)]),(AU (AL (AA 3) (AD 0)) [.NotEq] [(AA 2)])])])]⟩
noncomputable def H9:Fn:=⟨1,5,[
  AP (.var 2) (BA (BF [(AD 1),(AD 1),(Bc (Str.ofString "low"))]) 4 .range [(Ax .max [(AD 0),(AJ .sub (AJ .mod (AJ .floordiv (AS 17 [(AA 0),(AD 1)]) (AD 3)) (AD 14)) (AD 7))])] []),
  CH (.var 1) .range [(AJ .add (AD 1) (AJ .mod (AS 17 [(AA 0),(AD 1)]) (AD 3)))] [AP (.var 3) (AJ .mod (AJ .add (AJ .mul (AS 17 [(AA 0),(AJ .add (AD 2) (AA 1))]) (AD 48271)) (AD 11)) (AD 2147483647)),A8 (HA (AA 2) (BF [(AJ .add (AD 1) (AJ .mod (AA 3) (AD 8))),(AJ .add (AD 1) (AJ .mod (AJ .floordiv (AA 3) (AD 8)) (AD 6))),(AL (A4 [(Bc (Str.ofString "low")),(Bc (Str.ofString "left"))]) (AJ .mod (AJ .floordiv (AA 3) (AD 48)) (AD 2)))]))],
  AW (AA 2)]⟩
noncomputable def Id:Fn:=⟨2,3,[
  AW (BA (BF [(AJ .mul (AL (AA 2) (AD 0)) (AA 1)),(AJ .mul (AL (AA 2) (AD 1)) (AA 1)),(AL (AA 2) (AD 2))]) 2 .plain [(AA 0)] [])]⟩
noncomputable def Pe:Fn:=⟨2,3,[
  AW (BF [(AL (AA 0) (AD 0)),(AJ .mul (AL (AA 0) (AD 1)) (AA 1)),(AJ .mul (AL (AA 0) (AD 2)) (AA 1)),(AL (AA 0) (AD 3))])]⟩
noncomputable def Ih:Fn:=⟨1,6,[
  AP (.var 1) (Bc (Str.ofString "abcdefghijklmnopqrstuvwxyz0123456789")),
  AP (.var 2) (Bc (Str.ofString "")),
  AP (.var 3) (AJ .mod (AJ .floordiv (AA 0) (AD 12)) (AD 12)),
  CH (.var 4) .range [(AJ .mod (AA 0) (AD 12))] [AP (.var 0) (AJ .mod (AJ .add (AJ .mul (AA 0) (AD 48271)) (AD 11)) (AD 2147483647)),AP (.var 2) (AJ .add (AA 2) (AL (AA 1) (AJ .mod (AA 0) (AD 36))))],
  AW (BA (AJ .add (AJ .add (DO (AA 2) none (some (AA 3))) (AA 5)) (DO (AA 2) (some (AA 3)) none)) 5 .plain [(Bc (Str.ofString "abcdxyz0189mno"))] [])]⟩
noncomputable def JI:Fn:=⟨4,5,[
  Sj [sIf (AU (AA 3) [.Eq] [(AD 0)]) [A8 (Au 304 "settle" 52 (AA 0) [])] [sIf (AU (AA 3) [.Eq] [(AD 1)]) [A8 (Au 304 "take_out" 45 (AA 0) [(AL (AA 1) (AD 0))])] [sIf (AU (AA 3) [.Lt] [(AD 6)]) [A8 (Au 304 "put_at" 43 (AA 0) [(AL (AA 1) (AD 0)),(AL (AA 1) (AD 1)),(AL (AA 1) (AD 2)),(AL (AA 1) (AD 3)),(AA 2)])] [A8 (Au 304 "put" 42 (AA 0) [(AL (AA 1) (AD 0)),(AL (AA 1) (AD 1)),(AL (AA 1) (AD 2)),(AL (AA 1) (AD 3))])]]]] [([61],.bool false,none),([73],.bool false,none),([85],.bool false,none)],
  AW (BU true)]⟩
noncomputable def IU:Fn:=⟨2,4,[
  AP (.var 0) (AJ .mod (AJ .add (AJ .add (AJ .mul (AA 0) (AD 48271)) (AJ .mul (AD 11) (AA 1))) (AD 5)) (AD 2147483647)),
  AP (.var 2) (AJ .mod (AJ .mul (AA 0) (AD 69621)) (AD 2147483647)),
  AW (BF [(AJ .add (AD 1) (AJ .mod (AA 0) (AD 1000))),(AJ .add (AD 1) (AJ .mod (AA 2) (AD 1000))),(AL (A4 [(Bc (Str.ofString "low")),(Bc (Str.ofString "left"))]) (AJ .mod (AJ .floordiv (AA 0) (AD 1000)) (AD 2)))])]⟩
noncomputable def I9:Fn:=⟨3,10,[
  AP (.var 3) (AL (AL (AA 1) (AJ .mod (AA 2) (Ax .len [(AA 1)]))) (AD 0)),
  AP (.var 4) (AL (Au 304 "where" 46 (AA 0) [(AA 3)]) (AD 0)),
  AP (.tup [5,6,7,8]) (Au 304 "outline" 48 (AA 0) [(AA 3)]),
  AP (.var 2) (AJ .floordiv (AA 2) (AD 14)),
  sIf (AU (AJ .mod (AA 2) (AD 2)) [.Eq] [(AD 0)]) [AW (BF [(AA 4),(AJ .sub (AJ .add (AA 6) (AJ .mod (AJ .floordiv (AA 2) (AD 2)) (AD 3))) (AD 1)),(AJ .sub (AJ .add (AA 5) (AA 7)) (AJ .mod (AJ .floordiv (AA 2) (AD 6)) (AD 2))),(xOf (AU (AJ .mod (AJ .floordiv (AA 2) (AD 12)) (AD 2)) [.Eq] [(AD 1)]))])] [],
  AW (BF [(AA 4),(AJ .sub (AJ .add (AA 6) (AA 8)) (AJ .mod (AJ .floordiv (AA 2) (AD 6)) (AD 2))),(AJ .sub (AJ .add (AA 5) (AJ .mod (AJ .floordiv (AA 2) (AD 2)) (AD 3))) (AD 1)),(xOf (AU (AJ .mod (AJ .floordiv (AA 2) (AD 12)) (AD 2)) [.Eq] [(AD 1)]))])]⟩
noncomputable def C3:Fn:=⟨6,14,[
  AP (.var 2) (AJ .mod (AJ .add (AJ .mul (AA 2) (AD 48271)) (AD 11)) (AD 2147483647)),
  AP (.var 6) (AL (AA 3) (AJ .mod (AJ .mod (AJ .mul (AA 2) (AD 69621)) (AD 2147483647)) (AD 14))),
  AP (.var 7) (BF [(AA 6),(AJ .mul (AJ .add (AD 1) (AJ .mod (AJ .floordiv (AA 2) (AD 8)) (AD 3))) (AA 4)),(AJ .mul (AJ .add (AD 1) (AJ .mod (AJ .floordiv (AA 2) (AD 24)) (AD 3))) (AA 4)),(xOf (AU (AJ .mod (AJ .floordiv (AA 2) (AD 72)) (AD 2)) [.Eq] [(AD 1)]))]),
  AP (.var 8) (AJ .mod (AJ .floordiv (AA 2) (AD 144)) (AD 9)),
  AP (.var 9) (AJ .floordiv (AA 2) (AD 1296)),
  AP (.var 10) (BF [(AJ .mod (AA 9) (AD 9)),(AJ .mul (AJ .sub (AJ .mod (AJ .floordiv (AA 9) (AD 9)) (AD 8)) (AD 1)) (AA 4)),(AJ .mul (AJ .sub (AJ .mod (AJ .floordiv (AA 9) (AD 72)) (AD 10)) (AD 1)) (AA 4)),(xOf (AU (AJ .mod (AJ .floordiv (AA 9) (AD 720)) (AD 2)) [.Eq] [(AD 1)]))]),
  sIf (AU (AJ .mod (AJ .floordiv (AA 9) (AD 1440)) (AD 3)) [.Gt] [(AD 0)]) [AP (.var 10) (AJ .add (BF [(AJ .sub (Ax .len [(As 304 "shelves" (AA 0))]) (AD 1))]) (DO (AA 10) (some (AD 1)) none))] [],
  sIf (Bj (AA 5)) [AP (.var 7) (BF [(AA 6),(AJ .add (AD 1) (AJ .mod (AJ .mod (AJ .mul (AA 2) (AD 69621)) (AD 2147483647)) (AD 300))),(AJ .add (AD 1) (AJ .mod (AJ .mod (AJ .mul (AA 2) (AD 16807)) (AD 2147483647)) (AD 300))),(AL (AA 7) (AD 3))]),sIf (EC [(AU (AA 1) [.NotEq] [(A4 [])]),(AU (AJ .mod (AA 9) (AD 4)) [.Gt] [(AD 0)])]) [AP (.var 10) (AS 30 [(AA 0),(AA 1),(AJ .floordiv (AA 9) (AD 4))])] []] [],
  AP (.var 11) (AS 28 [(AA 0),(AA 7),(AA 10),(AA 8)]),
  AP (.var 12) (BA (AA 13) 13 .plain [(AA 1)] [(AU (AL (AA 13) (AD 0)) [.NotEq] [(AL (AA 7) (AD 0))])]),
  sIf (tOr [(AU (AA 8) [.Eq] [(AD 0)]),(CY (Bj (AA 11)))]) [AW (AA 1)] [],
  sIf (AU (AA 8) [.Eq] [(AD 1)]) [AW (AA 12)] [],
  AW (AJ .add (AA 12) (A4 [(AA 7)]))]⟩
noncomputable def IT:Fn:=⟨1,2,[
  sIf (tOr [(CY (Bj (Ax (.isinst .tuple) [(AA 0)]))),(AU (Ax .len [(AA 0)]) [.NotEq] [(AD 4)]),(CY (Bj (Ax (.isinst .bool) [(AL (AA 0) (AD 3))])))]) [AW (BU false)] [],
  AW (E5 true [(AS 18 [(AL (AA 0) (AD 0))]),(AS 18 [(AL (AA 0) (AD 1))]),(AS 18 [(AL (AA 0) (AD 2))])])]⟩
noncomputable def DJ:Fn:=⟨3,12,[
  AP (.var 3) (Au 304 "names" 49 (AA 0) []),
  sIf (AU (Ee false (AA 3)) [.NotEq] [(Ee false (BA (AL (AA 11) (AD 0)) 11 .plain [(AA 2)] []))]) [AW (BU false)] [],
  AP (.var 6) (BA (A4 []) 11 .plain [(AA 1)] []),
  CH (.var 4) .plain [(AA 2)] [AP (.var 7) (Au 304 "where" 46 (AA 0) [(AL (AA 4) (AD 0))]),sIf (tOr [(AU (Au 304 "box" 47 (AA 0) [(AL (AA 4) (AD 0))]) [.NotEq] [(AA 4)]),(CY (Bj (AS 32 [(AA 7)]))),(AU (AL (AA 7) (AD 0)) [.Lt] [(AD 0)]),(AU (AL (AA 7) (AD 0)) [.GtE] [(Ax .len [(AA 1)])])]) [AW (BU false)] [],AP (.var 8) (AS 22 [(AJ .add (AA 4) (BF [(AA 7)]))]),AP (.var 5) (AL (AA 1) (AL (AA 7) (AD 0))),sIf (tOr [(EC [(Bj (AL (AA 7) (AD 3))),(CY (Bj (AL (AA 4) (AD 3))))]),(AU (Au 304 "outline" 48 (AA 0) [(AL (AA 4) (AD 0))]) [.NotEq] [(AA 8)])]) [AW (BU false)] [],sIf (CY (Bj (AS 21 [(AL (AA 6) (AL (AA 7) (AD 0))),(AA 8),(AL (AA 5) (AD 0)),(AL (AA 5) (AD 1))]))) [AW (BU false)] [],A8 (HA (AL (AA 6) (AL (AA 7) (AD 0))) (AA 8))],
  CH (.var 9) .range [(Ax .len [(AA 1)])] [AP (.var 10) (AJ .mul (AL (AL (AA 1) (AA 9)) (AD 0)) (AL (AL (AA 1) (AA 9)) (AD 1))),CH (.var 8) .plain [(AL (AA 6) (AA 9))] [AP (.var 10) (AJ .sub (AA 10) (AJ .mul (AL (AA 8) (AD 2)) (AL (AA 8) (AD 3))))],sIf (tOr [(CY (Bj (AS 18 [(Au 304 "free" 50 (AA 0) [(AA 9)])]))),(AU (Au 304 "free" 50 (AA 0) [(AA 9)]) [.NotEq] [(AA 10)])]) [AW (BU false)] []],
  AW (BU true)]⟩
noncomputable def JK:Fn:=⟨3,10,[
  AP (.tup [3,4,5,6]) (Au 304 "outline" 48 (AA 0) [(AA 1)]),
  AP (.var 7) (A4 []),
  CH (.var 8) .range [(AJ .mul (AJ .floordiv (AA 5) (AA 2)) (AJ .floordiv (AA 6) (AA 2)))] [A8 (HA (AA 7) (BF [(AJ .add (AJ .floordiv (AA 4) (AA 2)) (AJ .floordiv (AA 8) (AJ .floordiv (AA 5) (AA 2)))),(AJ .add (AJ .floordiv (AA 3) (AA 2)) (AJ .mod (AA 8) (AJ .floordiv (AA 5) (AA 2))))]))],
  AW (AA 7)]⟩
noncomputable def Dc:Fn:=⟨4,12,[
  AP (.var 4) J2,
  CH (.var 5) .plain [(AA 2)] [CH (.var 6) .plain [(AS 34 [(AA 0),(AL (AA 5) (AD 0)),(AA 3)])] [HO (AA 4) (AA 6) (AL (AA 5) (AD 0))]],
  AP (.var 7) (BA (BF [(AJ .floordiv (AA 11) (AD 8)),(AJ .mod (AA 11) (AD 8))]) 11 .range [(AD 64)] []),
  sIf (AU (AL (AA 1) (AD 2)) [.Eq] [(Bc (Str.ofString "left"))]) [AP (.var 7) (BA (BF [(AJ .mod (AA 11) (AD 8)),(AJ .floordiv (AA 11) (AD 8))]) 11 .range [(AD 64)] [])] [],
  CH (.var 5) .plain [(AA 2)] [AP (.var 8) (AS 34 [(AA 0),(AL (AA 5) (AD 0)),(AA 3)]),CH (.var 9) .plain [(DO (AA 7) none (some (TB (AA 7) (AL (AA 8) (AD 0)))))] [AP (.var 10) (DO (A4 [(AA 9),(BF [(AL (AA 9) (AD 0)),(AJ .add (AL (AA 9) (AD 1)) (AD 1))])]) none (some (Ax .len [(AA 8)]))),sIf (AU (BA (AA 11) 11 .plain [(AA 10)] [(tOr [(AU (AL (AA 11) (AD 1)) [.Gt] [(AD 7)]),(AU (Q3 (AA 4) (AA 11) (AL (AA 5) (AD 0))) [.NotEq] [(AL (AA 5) (AD 0))])])]) [.Eq] [(A4 [])]) [AW (BU false)] []]],
  AW (BU true)]⟩
noncomputable def By:Fn:=⟨2,14,[
  AP (.var 2) (BF [(AJ .mul (AD 8) (AA 1)),(AJ .mul (AD 8) (AA 1)),(AL (A4 [(Bc (Str.ofString "low")),(Bc (Str.ofString "left"))]) (AJ .mod (AA 0) (AD 2)))]),
  AP (.var 3) (AJ .add (AD 22) (AJ .mod (AJ .floordiv (AA 0) (AD 2)) (AD 9))),
  AP (.var 4) (Qh 304 38 [(A4 [(AA 2)])]),
  AP (.var 5) (A4 []),
  CH (.var 6) .range [(AA 3)] [AP (.var 7) (BF [(AJ .add (Bc (Str.ofString "b")) (Ax .str [(AA 6)])),(AJ .mul (AJ .add (AD 1) (Ax .int [(xOf (AU (AA 6) [.Eq] [(AJ .mod (AJ .floordiv (AA 0) (AD 18)) (AA 3))]))])) (AA 1)),(AA 1),(xOf (AU (AJ .mod (AA 6) (AD 2)) [.Eq] [(AD 0)]))]),A8 (Au 304 "put" 42 (AA 4) [(AL (AA 7) (AD 0)),(AL (AA 7) (AD 1)),(AL (AA 7) (AD 2)),(AL (AA 7) (AD 3))]),A8 (HA (AA 5) (AA 7))],
  AP (.var 8) (BF [(AD 0),(OZ (AD 1)),(OZ (AD 1)),(BU false)]),
  CH (.var 9) .plain [(Au 304 "names" 49 (AA 4) [])] [AP (.var 10) (Au 304 "where" 46 (AA 4) [(AA 9)]),AP (.var 11) (A4 [(AL (AA 10) (AD 1)),(AL (AA 10) (AD 2))]),AP (.var 12) (A4 [(AL (AA 8) (AD 1)),(AL (AA 8) (AD 2))]),sIf (AU (AL (AA 2) (AD 2)) [.Eq] [(Bc (Str.ofString "left"))]) [AP (.var 11) (A4 [(AL (AA 10) (AD 2)),(AL (AA 10) (AD 1))]),AP (.var 12) (A4 [(AL (AA 8) (AD 2)),(AL (AA 8) (AD 1))])] [],sIf (tOr [(AU (AL (AA 11) (AD 0)) [.Lt] [(AL (AA 12) (AD 0))]),(EC [(AU (AL (AA 11) (AD 0)) [.Eq] [(AL (AA 12) (AD 0))]),(AU (AL (AA 11) (AD 1)) [.LtE] [(AL (AA 12) (AD 1))])])]) [AW (BU false)] [],AP (.var 8) (AA 10)],
  sIf (CY (Bj (AS 33 [(AA 4),(A4 [(AA 2)]),(AA 5)]))) [AW (BU false)] [],
  CH (.var 6) .range [(AD 0),(AA 3),(AD 3)] [A8 (Au 304 "take_out" 45 (AA 4) [(AJ .add (Bc (Str.ofString "b")) (Ax .str [(AA 6)]))])],
  A8 (Au 304 "settle" 52 (AA 4) []),
  AP (.var 12) (BA (AL (AA 5) (AA 13)) 13 .range [(AA 3)] [(AU (AJ .mod (AA 13) (AD 3)) [.Gt] [(AD 0)])]),
  AW (E5 true [(AS 33 [(AA 4),(A4 [(AA 2)]),(AA 12)]),(AS 35 [(AA 4),(AA 2),(AA 12),(AA 1)])])]⟩
noncomputable def DQ:Fn:=⟨1,11,[
  AP (.var 1) (AS 16 [(AS 17 [(AA 0),(AD 0)])]),
  sIf (AU (AJ .mod (AJ .floordiv (AS 17 [(AA 0),(AD 1)]) (AD 42)) (AD 8)) [.Eq] [(AD 3)]) [AW (AS 36 [(AJ .mod (AS 17 [(AA 0),(AD 2)]) (AJ .pow (AD 10) (AD 9))),(AA 1)])] [],
  AP (.var 2) (xOf (AU (AJ .mod (AJ .floordiv (AS 17 [(AA 0),(AD 1)]) (AD 42)) (AD 4)) [.Eq] [(AD 1)])),
  AP (.var 3) (AS 25 [(AS 24 [(AA 0)]),(AA 1)]),
  sIf (Bj (AA 2)) [AP (.var 1) (AD 1),AP (.var 3) (BA (AS 29 [(AS 17 [(AA 0),(AJ .add (AD 2) (AA 10))]),(AA 10)]) 10 .range [(AJ .add (AD 1) (AJ .mod (AS 17 [(AA 0),(AD 1)]) (AD 3)))] [])] [],
  AP (.var 4) (AS 27 [(AS 17 [(AA 0),(AD 5)])]),
  AP (.var 5) (Qh 304 38 [(Ax .list [(AA 3)])]),
  AP (.var 6) (A4 []),
  AP (.var 7) (A4 []),
  AP (.var 8) (A4 []),
  CH (.var 9) .plain [(DO (AA 0) (some (AD 6)) (some (AJ .add (AD 6) (AS 19 [(AA 0),(AD 14),(AD 60)]))))] [A8 (HA (AA 7) (Au 304 "names" 49 (AA 5) [])),A8 (HA (AA 8) (Ax .list [(AL (AA 7) (OZ (AD 1)))])),AP (.var 6) (AS 31 [(AA 5),(AA 6),(AA 9),(AA 4),(AA 1),(AA 2)]),sIf (CY (Bj (AS 33 [(AA 5),(AA 3),(AA 6)]))) [AW (BU false)] []],
  AW (E5 true [(xOf (AU (AA 7) [.Eq] [(AA 8)])),(AS 33 [(AA 5),(AA 3),(AA 6)])])]⟩
noncomputable def Hy:Fn:=⟨2,6,[
  sIf (CY (AU (AD 1) [.LtE,.LtE] [(Ax .len [(AA 1)]),(AD 9)])) [Cr 37 (Bc (Str.ofString "no shelves, or too many"))] [],
  CH (.tup [2,3,4]) .plain [(AA 1)] [sIf (tOr [(CY (Bj (AS 13 [(AA 2)]))),(CY (Bj (AS 13 [(AA 3)]))),(AU (AA 4) [.NotIn] [(BF [(Bc (Str.ofString "low")),(Bc (Str.ofString "left"))])])]) [Cr 37 (Bc (Str.ofString "no shelf"))] []],
  KK 304 "shelves" (AA 0) (Ax .list [(AA 1)]),
  KK 304 "boxes" (AA 0) J2,
  KK 304 "places" (AA 0) J2]⟩
noncomputable def Ie:Fn:=⟨2,6,[
  AP (.var 2) (BA (A4 []) 5 .plain [(As 304 "shelves" (AA 0))] []),
  CH (.var 3) .plain [(As 304 "places" (AA 0))] [sIf (AU (AA 3) [.NotEq] [(AA 1)]) [AP (.var 4) (AL (As 304 "places" (AA 0)) (AA 3)),A8 (HA (AL (AA 2) (AL (AA 4) (AD 0))) (AS 15 [(AL (As 304 "boxes" (AA 0)) (AA 3)),(AA 4)]))] []],
  AW (AA 2)]⟩
noncomputable def H1:Fn:=⟨4,5,[
  sIf (tOr [(CY (Bj (AS 14 [(AA 1)]))),(CY (Bj (AS 13 [(AA 2)]))),(CY (Bj (AS 13 [(AA 3)])))]) [Cr 49 (Bc (Str.ofString "no box"))] [],
  sIf (AU (AA 1) [.In] [(As 304 "boxes" (AA 0))]) [Cr 61 (Bc (Str.ofString "the name stands there"))] []]⟩
noncomputable def I2:Fn:=⟨3,4,[
  HO (As 304 "boxes" (AA 0)) (AL (AA 1) (AD 0)) (AA 1),
  HO (As 304 "places" (AA 0)) (AL (AA 1) (AD 0)) (AA 2)]⟩
noncomputable def IC:Fn:=⟨5,7,[
  A8 (Au 304 "need_new" 40 (AA 0) [(AA 1),(AA 2),(AA 3)]),
  AP (.var 5) (AS 8 [(As 304 "shelves" (AA 0)),(Au 304 "rows_without" 39 (AA 0) [B6]),(AA 2),(AA 3),(AA 4)]),
  sIf (AU (AA 5) [.Is] [B6]) [Cr 73 (Bc (Str.ofString "no place for it"))] [],
  A8 (Au 304 "stand" 41 (AA 0) [(BF [(AA 1),(AA 2),(AA 3),(AA 4)]),(AA 5)]),
  AW (AA 5)]⟩
noncomputable def IH:Fn:=⟨6,13,[
  A8 (Au 304 "need_new" 40 (AA 0) [(AA 1),(AA 2),(AA 3)]),
  AP (.tup [6,7,8,9]) (AA 5),
  sIf (tOr [(CY (AU (AD 0) [.LtE,.Lt] [(AA 6),(Ax .len [(As 304 "shelves" (AA 0))])])),(EC [(Bj (AA 9)),(CY (Bj (AA 4)))])]) [Cr 73 (Bc (Str.ofString "no such place for it"))] [],
  AP (.var 10) (BF [(AA 1),(AA 2),(AA 3),(AA 4)]),
  AP (.var 11) (AL (As 304 "shelves" (AA 0)) (AA 6)),
  sIf (CY (Bj (AS 12 [(AL (Au 304 "rows_without" 39 (AA 0) [B6]) (AA 6)),(AS 15 [(AA 10),(AA 5)]),(AL (AA 11) (AD 0)),(AL (AA 11) (AD 1))]))) [Cr 73 (Bc (Str.ofString "it does not fit there"))] [],
  A8 (Au 304 "stand" 41 (AA 0) [(AA 10),(AA 5)])]⟩
noncomputable def Ia:Fn:=⟨2,3,[
  sIf (AU (AA 1) [.NotIn] [(As 304 "boxes" (AA 0))]) [Cr 85 (Bc (Str.ofString "no box of that name"))] []]⟩
noncomputable def FQ:Fn:=⟨2,3,[
  A8 (Au 304 "need" 44 (AA 0) [(AA 1)]),
  A8 (Q9 (As 304 "boxes" (AA 0)) (AA 1)),
  AW (Q9 (As 304 "places" (AA 0)) (AA 1))]⟩
noncomputable def H6:Fn:=⟨2,3,[
  A8 (Au 304 "need" 44 (AA 0) [(AA 1)]),
  AW (AL (As 304 "places" (AA 0)) (AA 1))]⟩
noncomputable def JG:Fn:=⟨2,3,[
  A8 (Au 304 "need" 44 (AA 0) [(AA 1)]),
  AW (AL (As 304 "boxes" (AA 0)) (AA 1))]⟩
noncomputable def H3:Fn:=⟨2,3,[
  A8 (Au 304 "need" 44 (AA 0) [(AA 1)]),
  AW (AS 15 [(AL (As 304 "boxes" (AA 0)) (AA 1)),(AL (As 304 "places" (AA 0)) (AA 1))])]⟩
noncomputable def JD:Fn:=⟨1,2,[
  AW (Ij 275 C0 176 39 (As 304 "places" (AA 0)) 1 (AS 0 [(As 304 "shelves" (AA 0)),(AL (As 304 "places" (AA 0)) (AA 1))]))]⟩
noncomputable def H2:Fn:=⟨2,5,[
  sIf (CY (AU (AD 0) [.LtE,.Lt] [(AA 1),(Ax .len [(As 304 "shelves" (AA 0))])])) [Cr 37 (Bc (Str.ofString "no shelf of that number"))] [],
  AP (.var 2) (AJ .mul (AL (AL (As 304 "shelves" (AA 0)) (AA 1)) (AD 0)) (AL (AL (As 304 "shelves" (AA 0)) (AA 1)) (AD 1))),
  CH (.var 3) .plain [(As 304 "places" (AA 0))] [sIf (AU (AL (AL (As 304 "places" (AA 0)) (AA 3)) (AD 0)) [.Eq] [(AA 1)]) [AP (.var 2) (AJ .sub (AA 2) (AJ .mul (AL (AL (As 304 "boxes" (AA 0)) (AA 3)) (AD 1)) (AL (AL (As 304 "boxes" (AA 0)) (AA 3)) (AD 2))))] []],
  AW (AA 2)]⟩
noncomputable def Ib:Fn:=⟨1,7,[
  AP (.var 1) (A4 []),
  CH (.var 2) .plain [(Au 304 "names" 49 (AA 0) [])] [AP (.var 3) (AL (As 304 "places" (AA 0)) (AA 2)),AP (.var 4) (AL (As 304 "boxes" (AA 0)) (AA 2)),AP (.var 5) (AS 8 [(As 304 "shelves" (AA 0)),(Au 304 "rows_without" 39 (AA 0) [(AA 2)]),(AL (AA 4) (AD 1)),(AL (AA 4) (AD 2)),(AL (AA 4) (AD 3))]),sIf (Bj (AS 1 [(As 304 "shelves" (AA 0)),(AA 5),(AA 3)])) [HO (As 304 "places" (AA 0)) (AA 2) (AA 5),A8 (HA (AA 1) (BF [(AA 2),(AA 3),(AA 5)]))] []],
  AW (AA 1)]⟩
noncomputable def Iq:Fn:=⟨1,4,[
  AP (.var 1) (A4 []),
  AP (.var 2) (Au 304 "gone_round" 51 (AA 0) []),
  IM (AU (Ax .len [(AA 2)]) [.Gt] [(AD 0)]) [A8 (TY (AA 1) (AA 2)),AP (.var 2) (Au 304 "gone_round" 51 (AA 0) [])],
  AW (AA 1)]⟩
noncomputable def P10:List Fn:=[L0,Hl,LY,L4,Lj,Lx,Ls,LT,MB,Le,IB,Iw,IK,IE,IW,IZ,IF,JJ,H7,I0,FY,IQ,JF,P9,H9,Id,Pe,Ih,JI,IU,I9,C3,IT,DJ,JK,Dc,By,DQ,Hy,Ie,H1,I2,IC,IH,Ia,FQ,H6,JG,H3,JD,H2,Ib,Iq]
noncomputable def PB10:List (Fn × Bool):=[(L0,false),(Hl,false),(LY,false),(L4,false),(Lj,false),(Lx,false),(Ls,false),(LT,false),(MB,false),(Le,false),(IB,false),(Iw,false),(IK,false),(IE,false),(IW,false),(IZ,false),(IF,false),(JJ,false),(H7,false),(I0,false),(FY,false),(IQ,false),(JF,false),(P9,false),(H9,false),(Id,false),(Pe,false),(Ih,false),(JI,false),(IU,false),(I9,false),(C3,false),(IT,false),(DJ,false),(JK,false),(Dc,false),(By,false),(DQ,false),(Hy,false),(Ie,false),(H1,false),(I2,false),(IC,false),(IH,false),(Ia,false),(FQ,false),(H6,false),(JG,false),(H3,false),(JD,true),(H2,false),(Ib,false),(Iq,false)]
end Mine.Internal
namespace Mine.Internal
open PySem PySem.Calls PySem.W PyProof.Rows
noncomputable def q10:Program:=view PySem.Challenge.pw_uf030015_10 [1,2,3,4,5,6,8,9,10,11,12,13,14,15,16,17,18,20,21,22,23,25,26,27,28,29,30,31,32,34,35,36,37,38,39,40,41,42,43,44,45,46,47,48,49,50,51,52,53,54,55]
noncomputable def c10:ClsRec:=match clsOf? q10 "Rack" with
 | some c=>c
 | none=>⟨"", none,[],[],0,[]⟩
noncomputable def N0 (k:Nat):List Value:=.ref k::.ref 24::[.type "ValueError", .type "Exception", .type "BaseException", .type "object"]
noncomputable def wh10:Wh:=⟨304,38,279,275,[⟨"ShelfError", 24,[24,37,49,61,73,85],[.ref 24,.type "ValueError", .type "Exception", .type "BaseException", .type "object"]⟩,
 ⟨"NoShelf", 37,[37],N0 37⟩,⟨"NoBox", 49,[49],N0 49⟩,⟨"Twice", 61,[61],N0 61⟩,⟨"NoRoom", 73,[73],N0 73⟩,⟨"Unknown", 85,[85],N0 85⟩]⟩
set_option maxRecDepth 100000 in
theorem reads10:Reads (Dx q10 c10 wh10) (C7 q10 c10) 1 PB10:=by
 intro K fa mg mb B S
 kernel_rfl
set_option maxRecDepth 100000 in
theorem text10:TextOk q10 [] c10 wh10 where
 mem:=by
  have e:(plainsOf q10 [])=[c10]:=by kernel_rfl
  rw [e];exact List.mem_singleton.mpr rfl
 name:=by kernel_rfl
 quiet:=by kernel_rfl
 dots:=by kernel_rfl
 init:=by kernel_rfl
 owns:=by kernel_rfl
 kids:=by kernel_rfl
 blt:=by kernel_rfl
 lit:=by kernel_rfl
theorem hk10:∀ (i:Nat) (r:Fn × Bool),PB10[i]?=some r→r.2=true→∃ d:FRec,(C7 q10 c10)[i]?=some d∧d.name=AV++"."++"names":=by
 intro i r h hr
 have key:∀ i,i<53→i≠49→(PB10[i]?.map Prod.snd)=some false:=by decide
 have hlt:i<53:=(List.getElem?_eq_some_iff.mp h).1
 by_cases e:i=49
 ·subst e
  have e:((C7 q10 c10).map (·.name))[49]?=some (AV++"."++"names"):=by kernel_rfl
  rw [List.getElem?_map] at e
  exact Option.map_eq_some_iff.mp e
 ·have:=key i hlt e
  rw [h] at this
  cases (show some r.2=some false from this).symm.trans (congrArg some hr)
end Mine.Internal
namespace Mine.Internal
open PySem
set_option maxHeartbeats 2000000
local macro_rules | `(tactic| wtm_at "mine rfl") => `(tactic| with_unfolding_all rfl)
local macro_rules | `(tactic| wtm_at "mine ref") => `(tactic| first | assumption | with_unfolding_all rfl | exact AI | (refine AF ?_; wtm_at "mine ref"))
local macro_rules | `(tactic| wtm_at "mine rk") => `(tactic| first | assumption | exact Rk.at_ (by assumption) | (apply To; wtm_at "mine rk"))
local macro_rules | `(tactic| wtm_at "mine s") => `(tactic| first
  | (refine (?_ : AttrK _ _ _ _ _); with_reducible first | refine VE (by wtm_at "mine rk") ?_ | refine VJ (by wtm_at "mine rk") ?_ | refine VB (by wtm_at "mine rk") ?_)
  | (refine (?_ : _ ∧ _); with_reducible first | refine SF (by wtm_at "mine rk") (by decide +kernel) ?_ | refine Dz (by wtm_at "mine ref") ?_)
  | (refine (?_ : BinK _ _ _ _ _); with_reducible first | (refine TI ?_ ?_; · wtm_at "mine rfl") | (refine Th ?_ ?_; · assumption) | (refine SU ?_ ?_; · wtm_at "mine rfl") | (refine Pf ?_ ?_; · assumption) | (refine Tc ?_ ?_; · wtm_at "mine rfl") | (refine R4 ?_ ?_; · assumption) | refine BinK.addT (List.cons_ne_nil _ _) (List.cons_ne_nil _ _) (Nat.le_of_ble_eq_true rfl) ?_)
  | (refine (?_ : PrimK _ _ _ _); with_reducible first | refine PrimK.lenL (by wtm_at "mine ref") ?_ | refine PrimK.lenT (Nat.le_of_ble_eq_true rfl) ?_ | refine T8 ?_ | refine PrimK.list (by wtm_at "mine ref") ?_ | refine PrimK.intB ?_)
  | (refine (?_ : CmpK _ _ _ _ _); with_reducible first | refine cm_eqSt (by decide +kernel) ?_ | refine cm_eqSf (by decide +kernel) ?_)
  | (refine (?_ : SubK _ _ _ _); with_reducible refine QR (by wtm_at "mine ref") (by wtm_at "mine rfl") (by wtm_at "mine rfl") ?_))
local macro_rules | `(tactic| wtm_at "mine") => `(tactic| repeat wtm_at "mine s")
section
variable {d:Nat} {σ:AB} {Q:AN} {X:Ac}
theorem R9 (e:σ[n]?=some (.list (rows.map NI))) (hz:rows.length<64) (q:∀ g σ',σ<+:σ'→IsGap size room rows g→Q (Os g) σ'):callW P10 (d+1) 2 [.ref n,.int size,.int room] σ Q X:=by
 refine AM (fn:=LY) rfl rfl ?_
 dsimp only [LY]
 refine SortK.rows (rs:=rows.map fun r=>[r.1,r.2]) (by rw [e,List.map_map];rfl) (by rw [List.length_map];exact hz) (fun r hr=>?_) fun ts hp hs=>?_
 ·obtain ⟨x,_,rfl⟩:=List.mem_map.mp hr;exact List.cons_ne_nil _ _
 obtain ⟨rs,rfl,hp,hs⟩:=NP hp hs
 rw [List.map_map]
 refine Bn (vs:=rs.map NI) (fun i ρ' σ'=>σ'=σ++[.list (rs.map NI)]∧∃ a b,ρ'=[.ref n,.int size,.int room,.int ((rs.take i).foldl (BD size) 0),a,b,.undef]) AI ⟨rfl,_,_,rfl⟩ (fun i v ρ' σ' R hv hI hR=>?_) fun ρ' σ' hI=>?_
 ·obtain ⟨rfl,a,b,rfl⟩:=hI
  obtain ⟨r,hr,rfl⟩:=List.mem_map_get hv
  have hn:(rs.take (i+1)).foldl (BD size) 0=if r.1<(rs.take i).foldl (BD size) 0+size∧r.2 > (rs.take i).foldl (BD size) 0 then r.2 else (rs.take i).foldl (BD size) 0:=by
   rw [List.take_add_one,hr,List.foldl_append];rfl
  dsimp only [NI]
  refine AY (fun h1=>?_) fun h1=>?_
  ·refine AY (fun h2=>?_) fun h2=>?_
   ·exact hR _ _ AI ⟨rfl,_,_,by rw [hn,if_pos ⟨h1,h2⟩];rfl⟩
   ·exact hR _ _ AI ⟨rfl,_,_,by rw [hn,if_neg fun h=>h2 h.2];rfl⟩
  ·exact hR _ _ AI ⟨rfl,_,_,by rw [hn,if_neg fun h=>h1 h.1];rfl⟩
 ·obtain ⟨rfl,a,b,rfl⟩:=hI
  rw [List.length_map,List.take_length]
  have hg:=UM (size:=size) (room:=room) hp hs rfl
  refine AY (fun h=>?_) fun h=>?_
  ·rw [if_pos h] at hg
   exact q _ _ AH hg
  ·rw [if_neg h] at hg
   exact q _ _ AH hg
theorem Jt {n:Nat} {es:List Int} {size room:Int} (e:σ[n]?=some (.list (es.map .int))) (hz:es.length<63)
  (q:∀ (ms:List Int) k σ',σ<+:σ'→ms.Pairwise (·<·)→(∀ x,x∈ms↔x∈0::es.filter fun e=>decide (0<e)&&decide (e≤room - size))→σ'[k]?=some (.list (ms.map .int))→Q (.ref k) σ'):callW P10 (d+1) 3 [.ref n,.int size,.int room] σ Q X:=by
 refine AM (fn:=L4) rfl rfl ?_
 dsimp only [L4]
 refine E7 (g:=.int) (fun e=>decide (0<e)&&decide (e≤room - size)) (AF e) (Nat.le_trans (Nat.le_of_lt hz) (by decide)) (fun x hx K hK hK'=>?_) ?_
 ·refine AY (fun h1=>?_) fun h1=>?_
  ·refine AY (fun h2=>?_) fun h2=>?_
   ·exact hK (by rw [decide_eq_true h1,decide_eq_true h2];rfl)
   ·exact hK' (by rw [decide_eq_false h2,Bool.and_false])
  ·exact hK' (by rw [decide_eq_false h1];rfl)
 ·refine BinK.addL (AF AI) AI ?_ ?_
  ·rw [List.length_map]
   exact Nat.le_trans (Nat.add_le_add_left (List.length_filter_le _ _) _) (Nat.le_trans (Nat.add_le_add_left (Nat.le_of_lt hz) _) (by decide))
  ·refine SortK.set (ns:=0::es.filter fun e=>decide (0<e)&&decide (e≤room - size)) AI ?_ fun ms h1 h2=>?_
   ·exact Nat.lt_of_le_of_lt (Nat.succ_le_succ (List.length_filter_le _ _)) (Nat.succ_lt_succ hz)
   ·exact q ms _ _ (AH.trans (AH.trans (AH.trans AH))) h1 h2 AI
theorem PO {n:Nat} {os:List Ot} {W H w h:Int} (e:σ[n]?=some (.list (os.map Ot.v))) (hz:os.length<63)
  (q:∀ r σ',σ<+:σ'→Ck (Gd (os.map Ot.low) H W h w) r→Dv (os.map Ot.low) r→Q (Dk r) σ'):callW P10 (d+2) 4 [.ref n,.int W,.int H,.int w,.int h] σ Q X:=by
 refine AM (fn:=Lj) rfl rfl ?_
 dsimp only [Lj]
 refine JM (g:=Ot.v) (fun o=>o.u+o.h) .int e (Nat.le_trans (Nat.le_of_lt hz) (by decide)) (fun x hx K hK=>?_) ?_
 ·dsimp only [Ot.v]
  exact hK
 refine Jt AI (by rw [List.length_map];exact hz) fun ms k σ₁ p₁ h1 h2 e1=>?_
 have p₁:=AH.trans p₁
 refine Bn (fun i ρ' σ'=>σ₁<+:σ'∧(∃ a b c,ρ'=[.ref n,.int W,.int H,.int w,.int h,a,b,c,.undef])∧∀ r,Search (os.map Ot.low) H W h w (ms.drop i) r→Search (os.map Ot.low) H W h w ms r) e1 ⟨List.prefix_refl _,⟨_,_,_,rfl⟩,fun r h=>h⟩ (fun i v ρ' σ' R hv hI hR=>?_) fun ρ' σ' hI=>?_
 ·refine Ay hI fun p₂ zt1 hS=>Ec zt1 fun a b c ze2=>?_;subst ze2
  refine AC (List.mem_map_get hv) fun p hp ze1=>?_;subst ze1
  have hd:ms.drop i=p::ms.drop (i+1):=F3 hp
  rw [hd] at hS
  refine E7 (g:=Ot.v) (fun o=>decide (o.u<p+h)&&decide (p<o.u+o.h)) (Aa (p₁.trans p₂) e) (Nat.le_trans (Nat.le_of_lt hz) (by decide)) (fun x hx K hK hK'=>?_) ?_
  ·dsimp only [Ot.v]
   refine AY (fun h1=>?_) fun h1=>?_
   ·refine AY (fun h2=>?_) fun h2=>?_
    ·exact hK (by rw [decide_eq_true h1,decide_eq_true h2];rfl)
    ·exact hK' (by rw [decide_eq_false h2,Bool.and_false])
   ·exact hK' (by rw [decide_eq_false h1];rfl)
  refine JM (g:=Ot.v) (fun o=>(o.l,o.l+o.w)) NI AI (Nat.le_trans (List.length_filter_le _ _) (Nat.le_trans (Nat.le_of_lt hz) (by decide))) (fun x hx K hK=>?_) ?_
  ·dsimp only [Ot.v]
   exact hK
  have hband:(os.filter fun o=>decide (o.u<p+h)&&decide (p<o.u+o.h)).map (fun o=>(o.l,o.l+o.w))=CB (Kl h p (os.map Ot.low)):=by
   unfold CB Kl
   rw [List.filter_map,List.map_map];rfl
  rw [hband]
  refine R9 AI (by rw [← hband,List.length_map];exact Nat.lt_of_le_of_lt (List.length_filter_le _ _) (Nat.lt_succ_of_lt hz)) fun g σ₃ p₃ hg=>?_
  have p₃:=AH.trans (AH.trans p₃)
  cases g with
  | none=>
   dsimp only [Os]
   exact hR _ _ (Aa (p₂.trans p₃) e1) ⟨p₂.trans p₃,⟨_,_,_,rfl⟩,fun r h=>hS r (.miss hg (.inl rfl) h)⟩
  | some s=>
   dsimp only [Os]
   refine AY (fun h3=>?_) fun h3=>?_
   ·obtain ⟨f1,f2⟩:=CW (hS _ (.hit hg h3)) h1 fun x=>by rw [h2,DD,List.map_map];rfl
    exact q _ _ ((p₁.trans p₂).trans p₃) f1 f2
   ·exact hR _ _ (Aa (p₂.trans p₃) e1) ⟨p₂.trans p₃,⟨_,_,_,rfl⟩,fun r h=>hS r (.miss hg (.inr h3) h)⟩
 ·refine Ay hI fun p₂ zt1 hS=>Ec zt1 fun a b c ze2=>?_;subst ze2
  rw [List.length_map,List.drop_length] at hS
  obtain ⟨f1,f2⟩:=CW (hS _ .nil) h1 fun x=>by rw [h2,DD,List.map_map];rfl
  exact q _ _ (p₁.trans p₂) f1 f2
theorem Ku {n:Nat} {os:List Ot} {W H w h:Int} (e:σ[n]?=some (.list (os.map Ot.v))) (hz:os.length<63)
  (q:∀ r σ',σ<+:σ'→Ck (Gd (os.map Ot.lef) W H w h) r→Dv (os.map Ot.lef) r→Q (Rw r) σ'):callW P10 (d+2) 5 [.ref n,.int W,.int H,.int w,.int h] σ Q X:=by
 refine AM (fn:=Lx) rfl rfl ?_
 dsimp only [Lx]
 refine JM (g:=Ot.v) (fun o=>o.l+o.w) .int e (Nat.le_trans (Nat.le_of_lt hz) (by decide)) (fun x hx K hK=>?_) ?_
 ·dsimp only [Ot.v]
  exact hK
 refine Jt AI (by rw [List.length_map];exact hz) fun ms k σ₁ p₁ h1 h2 e1=>?_
 have p₁:=AH.trans p₁
 refine Bn (fun i ρ' σ'=>σ₁<+:σ'∧(∃ a b c,ρ'=[.ref n,.int W,.int H,.int w,.int h,a,b,c,.undef])∧∀ r,Search (os.map Ot.lef) W H w h (ms.drop i) r→Search (os.map Ot.lef) W H w h ms r) e1 ⟨List.prefix_refl _,⟨_,_,_,rfl⟩,fun r h=>h⟩ (fun i v ρ' σ' R hv hI hR=>?_) fun ρ' σ' hI=>?_
 ·refine Ay hI fun p₂ zt1 hS=>Ec zt1 fun a b c ze2=>?_;subst ze2
  refine AC (List.mem_map_get hv) fun p hp ze1=>?_;subst ze1
  have hd:ms.drop i=p::ms.drop (i+1):=F3 hp
  rw [hd] at hS
  refine E7 (g:=Ot.v) (fun o=>decide (o.l<p+w)&&decide (p<o.l+o.w)) (Aa (p₁.trans p₂) e) (Nat.le_trans (Nat.le_of_lt hz) (by decide)) (fun x hx K hK hK'=>?_) ?_
  ·dsimp only [Ot.v]
   refine AY (fun h1=>?_) fun h1=>?_
   ·refine AY (fun h2=>?_) fun h2=>?_
    ·exact hK (by rw [decide_eq_true h1,decide_eq_true h2];rfl)
    ·exact hK' (by rw [decide_eq_false h2,Bool.and_false])
   ·exact hK' (by rw [decide_eq_false h1];rfl)
  refine JM (g:=Ot.v) (fun o=>(o.u,o.u+o.h)) NI AI (Nat.le_trans (List.length_filter_le _ _) (Nat.le_trans (Nat.le_of_lt hz) (by decide))) (fun x hx K hK=>?_) ?_
  ·dsimp only [Ot.v]
   exact hK
  have hband:(os.filter fun o=>decide (o.l<p+w)&&decide (p<o.l+o.w)).map (fun o=>(o.u,o.u+o.h))=CB (Kl w p (os.map Ot.lef)):=by
   unfold CB Kl
   rw [List.filter_map,List.map_map];rfl
  rw [hband]
  refine R9 AI (by rw [← hband,List.length_map];exact Nat.lt_of_le_of_lt (List.length_filter_le _ _) (Nat.lt_succ_of_lt hz)) fun g σ₃ p₃ hg=>?_
  have p₃:=AH.trans (AH.trans p₃)
  cases g with
  | none=>
   dsimp only [Os]
   exact hR _ _ (Aa (p₂.trans p₃) e1) ⟨p₂.trans p₃,⟨_,_,_,rfl⟩,fun r h=>hS r (.miss hg (.inl rfl) h)⟩
  | some s=>
   dsimp only [Os]
   refine AY (fun h3=>?_) fun h3=>?_
   ·obtain ⟨f1,f2⟩:=CW (hS _ (.hit hg h3)) h1 fun x=>by rw [h2,DD,List.map_map];rfl
    exact q _ _ ((p₁.trans p₂).trans p₃) f1 f2
   ·exact hR _ _ (Aa (p₂.trans p₃) e1) ⟨p₂.trans p₃,⟨_,_,_,rfl⟩,fun r h=>hS r (.miss hg (.inr h3) h)⟩
 ·refine Ay hI fun p₂ zt1 hS=>Ec zt1 fun a b c ze2=>?_;subst ze2
  rw [List.length_map,List.drop_length] at hS
  obtain ⟨f1,f2⟩:=CW (hS _ .nil) h1 fun x=>by rw [h2,DD,List.map_map];rfl
  exact q _ _ (p₁.trans p₂) f1 f2
theorem KV {n:Nat} {os:List Ot} {W H w h:Int} (b:Bool) (e:σ[n]?=some (.list (os.map Ot.v))) (hz:os.length<63) (q:∀ r σ',σ<+:σ'→FG os W H w h b r→Q (Dk r) σ'):callW P10 (d+3) 6 [.ref n,.tup [.int W,.int H,hab b],.int w,.int h] σ Q X:=by
 refine AM (fn:=Ls) rfl rfl ?_
 dsimp only [Ls]
 refine Kv ?_
 cases b with
 | true=>
  exact PO e hz fun r σ' p h1 h2=>q r σ' p ⟨h1,h2⟩
 | false=>
  refine Ku e hz fun r σ' p h1 h2=>?_
  rw [O9]
  exact q (Du r) σ' p ⟨by rw [Fp];exact h1,by rw [Fp];exact h2⟩
end
section
variable {d:Nat} {σ:AB} {Q:AN} {X:Ac}
theorem IO {n i:Nat} {shs:List Sh} {sh:Sh} {x:Int × Int} {t:Bool} (e:σ[n]?=some (.list (shs.map Sh.v))) (hi:shs[i]?=some sh) (q:Q (.tup ((GU sh.b i x t).map .int)) σ):callW P10 (d+1) 0 [.ref n,.tup [.int i,.int x.1,.int x.2,.bool t]] σ Q X:=by
 refine AM (fn:=L0) rfl rfl ?_
 dsimp only [L0]
 have hv:(shs.map Sh.v)[(i:Int).toNat]?=some sh.v:=by rw [Int.toNat_natCast,List.getElem?_map,hi];rfl
 obtain ⟨W,H,b⟩:=sh
 cases t with
 | true=>
  refine Av e (Int.natCast_nonneg i) hv ?_
  dsimp only [Sh.v]
  refine Kv ?_
  cases b with
  | true=>exact q
  | false=>exact q
 | false=>
  refine Av e (Int.natCast_nonneg i) hv ?_
  dsimp only [Sh.v]
  refine Kv ?_
  cases b with
  | true=>exact q
  | false=>exact q
theorem Ri {n i:Nat} {shs:List Sh} {sh:Sh} {x y:Int × Int} (e:σ[n]?=some (.list (shs.map Sh.v))) (hi:shs[i]?=some sh) (q:NO sh.b y x→Q (.bool true) σ) (q':¬ NO sh.b y x→Q (.bool false) σ) :
  callW P10 (d+2) 1 [.ref n,.tup [.int i,.int y.1,.int y.2,.bool true],.tup [.int i,.int x.1,.int x.2,.bool false]] σ Q X:=by
 refine AM (fn:=Hl) rfl rfl ?_
 dsimp only [Hl]
 refine IO e hi ?_
 refine IO e hi ?_
 refine CmpK.ltT ?_
 by_cases h:NO sh.b y x
 ·rw [Js.mpr h];exact q h
 ·rw [Bool.eq_false_iff.mpr fun z=>h (Js.mp z)];exact q' h
theorem Mj {n i k:Nat} {shs:List Sh} {sh:Sh} {os:List Ot} {w h:Int} {turns:Bool} (e:σ[n]?=some (.list (shs.map Sh.v))) (hi:shs[i]?=some sh) (ek:σ[k]?=some (.list (os.map Ot.v))) (hz:os.length<63)
  (q:∀ r σ',σ<+:σ'→OnP w h turns sh os r→Q (SA i r) σ'):callW P10 (d+4) 7 [.ref n,.int i,.ref k,.int w,.int h,.bool turns] σ Q X:=by
 refine AM (fn:=LT) rfl rfl ?_
 dsimp only [LT]
 have hv:(shs.map Sh.v)[(i:Int).toNat]?=some sh.v:=by rw [Int.toNat_natCast,List.getElem?_map,hi];rfl
 refine Av e (Int.natCast_nonneg i) hv ?_
 refine KV sh.b ek hz fun r1 σ₁ p₁ f1=>?_
 have e1:=Aa p₁ e
 have ek1:=Aa p₁ ek
 cases turns with
 | false=>
  cases r1 with
  | none=>
   dsimp only [Dk]
   exact q none _ p₁ (ES f1 (fun e=>(nomatch e)) (fun _=>rfl) .no)
  | some x=>
   dsimp only [Dk]
   exact q (some (x.1,x.2,false)) _ p₁ (ES f1 (fun e=>(nomatch e)) (fun _=>rfl) .up)
 | true=>
  cases r1 with
  | none=>
   dsimp only [Dk]
   refine Av e1 (Int.natCast_nonneg i) hv ?_
   refine KV sh.b ek1 hz fun r2 σ₂ p₂ f2=>?_
   cases r2 with
   | none=>
    dsimp only [Dk]
    exact q none _ (p₁.trans p₂) (ES f1 (fun _=>f2) (fun e=>(nomatch e)) .no)
   | some y=>
    dsimp only [Dk]
    exact q (some (y.1,y.2,true)) _ (p₁.trans p₂) (ES f1 (fun _=>f2) (fun e=>(nomatch e)) .turned)
  | some x=>
   dsimp only [Dk]
   refine Av e1 (Int.natCast_nonneg i) hv ?_
   refine KV sh.b ek1 hz fun r2 σ₂ p₂ f2=>?_
   cases r2 with
   | none=>
    dsimp only [Dk]
    exact q (some (x.1,x.2,false)) _ (p₁.trans p₂) (ES f1 (fun _=>f2) (fun e=>(nomatch e)) .up)
   | some y=>
    dsimp only [Dk]
    refine Ri (x:=x) (y:=y) (Aa p₂ e1) hi (fun hl=>?_) fun hl=>?_
    ·exact q (some (y.1,y.2,true)) _ (p₁.trans p₂) (ES f1 (fun _=>f2) (fun e=>(nomatch e)) (.less hl))
    ·exact q (some (x.1,x.2,false)) _ (p₁.trans p₂) (ES f1 (fun _=>f2) (fun e=>(nomatch e)) (.more hl))
end
section
variable {d:Nat} {σ:AB} {Q:AN} {X:Ac}
theorem Ew {n m:Nat} {shs:List Sh} {ks:List Nat} {oss:List (List Ot)} {w h:Int} {turns:Bool} (e:σ[n]?=some (.list (shs.map Sh.v))) (em:σ[m]?=some (.list (ks.map .ref))) (A:FZ σ ks oss) (hl:shs.length=oss.length) (hs:shs.length≤1000) (hz:∀ os∈oss,os.length<63)
  (q:∀ r σ',σ<+:σ'→FP (OnP w h turns) 0 (shs.zip oss) r→Q (QX r) σ'):callW P10 (d+5) 8 [.ref n,.ref m,.int w,.int h,.bool turns] σ Q X:=by
 refine AM (fn:=MB) rfl rfl ?_
 dsimp only [MB]
 wtm_at "mine"
 rw [List.length_map]
 refine D6 (fun i ρ' σ'=>σ<+:σ'∧(∃ a c,ρ'=[.ref n,.ref m,.int w,.int h,.bool turns,a,c,.undef])∧∀ r,FP (OnP w h turns) i ((shs.zip oss).drop i) r→FP (OnP w h turns) 0 (shs.zip oss) r) (by exact ⟨ai1 .le (.g (.n 1000000)) .v0 (.l .n0 .v0 .e) rfl (Int.natCast_nonneg _),ai1 .le .v0 (.n 1000000) (.l .v0 (.n 1000) .e) rfl (Int.ofNat_le.mpr hs)⟩) ⟨List.prefix_refl _,⟨_,_,rfl⟩,fun r h=>h⟩ (fun i ρ' σ' R hi hI hR=>?_) fun ρ' σ' hI=>?_
 ·refine Ay hI fun p₁ zt1 hF=>Am zt1 fun a c ze2=>?_;subst ze2
  have i1:i<shs.length:=Int.ofNat_lt.mp hi
  have i2:i<oss.length:=by exact an3 .lt .v0 .v1 (.t .v0 .v2 (.q .v2 .v1 .e)) rfl i1 hl
  have i3:i<ks.length:=A.1▸i2
  have hk:=List.getElem?_eq_getElem i3
  have ho:=List.getElem?_eq_getElem i2
  have hd:(shs.zip oss).drop i=(shs[i],oss[i])::(shs.zip oss).drop (i+1):=F3 (List.getElem?_zip_eq_some.mpr ⟨List.getElem?_eq_getElem i1,ho⟩)
  rw [hd] at hF
  refine Av (v:=.ref ks[i]) (Aa p₁ em) (Int.natCast_nonneg i) (by rw [Int.toNat_natCast,List.getElem?_map,hk];rfl) ?_
  refine Mj (Aa p₁ e) (List.getElem?_eq_getElem i1) (Aa p₁ (A.2 i _ _ hk ho)) (hz _ (List.mem_of_getElem? ho)) fun r σ₂ p₂ on=>?_
  cases r with
  | none=>
   dsimp only [SA]
   exact hR _ _ ⟨p₁.trans p₂,⟨_,_,rfl⟩,fun r h=>hF r (.miss on h)⟩
  | some x=>
   dsimp only [SA]
   exact q (some (_,_,_,_)) _ (p₁.trans p₂) (hF _ (.hit on))
 ·refine Ay hI fun p₁ zt1 hF=>Am zt1 fun a c ze2=>?_;subst ze2
  rw [Int.toNat_natCast,List.drop_of_length_le (by rw [List.length_zip];exact Nat.min_le_left _ _)] at hF
  exact q none _ p₁ (hF _ .nil)
end
set_option maxHeartbeats 2000000
section
variable {d:Nat} {σ:AB} {Q:AN} {X:Ac}
theorem Ic (q:1≤k∧k≤1000000→Q (.bool true) σ) (q':¬ (1≤k∧k≤1000000)→Q (.bool false) σ):callW P10 (d+1) 13 [.int k] σ Q X:=by
 refine AM (fn:=IE) rfl rfl ?_
 dsimp only [IE]
 refine AY (fun h=>?_) fun h=>?_
 ·by_cases h':k≤1000000
  ·refine (?_:Q (.bool _) _);rw [decide_eq_true h'];exact q ⟨h,h'⟩
  ·refine (?_:Q (.bool _) _);rw [decide_eq_false h'];exact q' fun z=>h' z.2
 ·exact q' fun z=>h z.1
theorem TR (hx:x.cps.all (·<128)=true) (hl:x.length≤1000) (q:Ap x=true→∀ σ',σ<+:σ'→Q (.bool true) σ') (q':Ap x=false→∀ σ',σ<+:σ'→Q (.bool false) σ'):callW P10 (d+1) 14 [.str x] σ Q X:=by
 refine AM (fn:=IW) rfl rfl ?_
 dsimp only [IW]
 unfold Ap at q q'
 refine PrimK.isS ?_
 refine PrimK.lenS (Nat.le_trans hl (by decide)) ?_
 refine AY (fun h1=>?_) fun h1=>?_
 ·refine AY (fun h2=>?_) fun h2=>?_
  ·refine Rv (fun c=>.bool (decide (c∈Cv))) hx hl (fun c hc K hK=>?_) ?_
   ·refine CmpK.inS ?_
    exact hK
   ·refine PrimK.all (bs:=x.cps.toList.map fun c=>decide (c∈Cv)) (by rw [List.map_map];exact AI) ?_
    refine (?_:Q (.bool _) _)
    rw [List.all_map]
    cases hb:x.cps.toList.all (id ∘ fun c=>decide (c∈Cv)) with
    | true=>exact q (by rw [decide_eq_true (Int.ofNat_lt.mp h1:0<x.length),decide_eq_true (Int.ofNat_le.mp h2:x.length≤12)];exact hb) _ AH
    | false=>exact q' (by rw [decide_eq_true (Int.ofNat_lt.mp h1:0<x.length),decide_eq_true (Int.ofNat_le.mp h2:x.length≤12)];exact hb) _ AH
  ·refine (?_:Q (.bool _) _)
   rw [decide_eq_false h2]
   exact q' (by rw [decide_eq_true (Int.ofNat_lt.mp h1:0<x.length),decide_eq_false (fun z=>h2 (Int.ofNat_le.mpr z):¬ x.length≤12)];rfl) _ (List.prefix_refl _)
 ·exact q' (by rw [decide_eq_false (fun z=>h1 (Int.ofNat_lt.mpr z):¬ 0<x.length)];rfl) _ (List.prefix_refl _)
theorem FF {e:En} (q:Q e.ot.v σ):callW P10 (d+1) 15 [e.box,e.pl] σ Q X:=by
 refine AM (fn:=IZ) rfl rfl ?_
 dsimp only [IZ,En.box,En.pl]
 unfold En.ot at q
 refine Jc (fun h=>?_) fun h=>?_
 ·rw [if_pos h] at q
  exact q
 ·rw [if_neg (by rw [h];exact Bool.false_ne_true)] at q
  exact q
theorem Tt (e:σ[n]?=some (.list (xs.map Shx.v))) (hs:∀ x∈xs,PyData.strOk x.s=true) (er:σ[r]?=some (.inst 304 m)) (em:σ[m]?=some (.ns [])) (hm:m≠0) (hz:xs.length≤1000)
  (q:Fit xs→∀ σ' S B P,KpB m σ σ'→σ'[m]?=some (.ns (Ea S B P))→σ'[S]?=some (.list (xs.map Shx.v))→σ'[B]?=some (.dict 0 [])→σ'[P]?=some (.dict 0 [])→B≠P→σ.length≤S→σ.length≤B→σ.length≤P→Q .none σ') (q':¬ Fit xs→X 37 σ):callW P10 (d+2) 38 [.ref r,.ref n] σ Q X:=by
 refine AM (fn:=Hy) rfl rfl ?_
 dsimp only [Hy]
 have no:¬ (1≤xs.length∧xs.length≤9)→X 37 σ:=fun h=>q' fun z=>h z.n
 wtm_at "mine"
 rw [List.length_map]
 refine AY (fun h1=>?_) fun h1=>?_
 ·refine GO (fun h2=>?_) fun h2=>?_
  ·exact no fun z=>by exact aj1 (.m .v0 (.n 9) (.l .v0 (.n 9) .e)) rfl h2 (Int.ofNat_le.mpr z.2)
  refine Bn (fun i ρ' σ'=>σ'=σ∧(∃ a b c,ρ'=[.ref r,.ref n,a,b,c,.undef])∧∀ x∈xs.take i,x.Good) e ⟨rfl,⟨_,_,_,rfl⟩,fun x hx=>by rw [List.take_zero] at hx;cases hx⟩ (fun i v ρ' σ' R hv hI hR=>?_) fun ρ' σ' hI=>?_
  ·refine Ay hI fun ze1 zt2 hg=>Ec zt2 fun a b c ze3=>?_;subst ze1;subst ze3
   refine AC (List.mem_map_get hv) fun x hx ze1=>?_;subst ze1
   have hmem:=List.mem_of_getElem? hx
   dsimp only [Shx.v]
   refine Ic (fun hw=>?_) fun hw=>?_
   ·refine Ic (fun hh=>?_) fun hh=>?_
    ·refine N2 (hs x hmem) (fun hc=>?_) fun hc=>?_
     ·refine hR _ _ e ⟨rfl,⟨_,_,_,rfl⟩,fun y hy=>?_⟩
      rw [BY hx] at hy
      exact (List.mem_append.mp hy).elim (hg y) fun m=>List.mem_singleton.mp m▸⟨hw,hh,hc⟩
     ·exact q' fun z=>hc (z.all x hmem).s
    ·exact q' fun z=>hh (z.all x hmem).h
   ·exact q' fun z=>hw (z.all x hmem).w
  ·refine Ay hI fun ze1 zt2 hg=>Ec zt2 fun a b c ze3=>?_;subst ze1;subst ze3
   rw [List.length_map,List.take_length] at hg
   have hlt:∀ {x:Nat} {o:O},σ'[x]?=some o→x<σ'.length:=fun h=>(List.getElem?_eq_some_iff.mp h).1
   have hm':=hlt em
   have hne:m≠r:=fun z=>by rw [z,er] at em;cases em
   wtm_at "mine"
   refine PutK.mk (AF er) (AF em) hm (by decide) ?_
   rw [Tl]
   refine PutK.mk (AF (AG hne (AF er))) (AF (AZ (AF em))) hm (Nat.le_of_ble_eq_true rfl) ?_
   rw [Sp]
   refine PutK.mk (AF (AG hne (AF (AG hne (AF er))))) (AF (AZ (AF (AZ (AF em))))) hm (Nat.le_of_ble_eq_true rfl) ?_
   rw [Tg]
   have l2:∀ {τ:AB} {o u:O},((τ++[o]).set m u).length=τ.length+1:=fun {τ o u}=>by rw [List.length_set,List.length_append];rfl
   refine q ⟨⟨Int.ofNat_le.mp h1,Int.ofNat_le.mp h2⟩,hg⟩ _ _ _ _ (fun x o hx h=>AG (Ne.symm hx) (AF (AG (Ne.symm hx) (AF (AG (Ne.symm hx) (AF h)))))) (AZ (AF (AZ (AF (AZ (AF em)))))) ?_ ?_ ?_ ?_ ?_ ?_ ?_
   ·exact AG (by exact fun z0=>am2 (.p .v0 .v1 (.t .v0 .v1 .e)) rfl z0 hm') (AF (AG (by exact fun z0=>am2 (.p .v0 .v1 (.t .v0 .v1 .e)) rfl z0 hm') (AF (AG (by exact fun z0=>am2 (.p .v0 .v1 (.t .v0 .v1 .e)) rfl z0 hm') AI))))
   ·exact AG (by rw [l2];exact fun z0=>am2 (.p .v0 (.a .v1 .n1) (.t .v0 .v1 .e)) rfl z0 hm') (AF (AG (by rw [l2];exact fun z0=>am2 (.p .v0 (.a .v1 .n1) (.t .v0 .v1 .e)) rfl z0 hm') AI))
   ·exact AG (by rw [l2,l2];exact fun z0=>am2 (.p .v0 (.a (.a .v1 .n1) .n1) (.t .v0 .v1 .e)) rfl z0 hm') AI
   ·simp only [List.length_set,List.length_append,List.length_singleton];exact fun z0=>am1 (.p (.a .v0 .n1) (.a (.a .v0 .n1) .n1) .e) rfl z0
   ·exact Nat.le_refl _
   ·rw [l2];exact an1 .le .v0 (.a .v0 .n1) .e rfl
   ·rw [l2,l2];exact an1 .le .v0 (.a (.a .v0 .n1) .n1) .e rfl
 ·exact no fun z=>by exact aj1 (.m .n1 .v0 (.l .n1 .v0 .e)) rfl h1 (Int.ofNat_le.mpr z.1)
end
set_option maxHeartbeats 2000000
section
variable {d:Nat} {σ:AB} {Q:AN} {X:Ac} {r S B P epB epP:Nat} {shs:List Sh} {es:List En}
theorem IL (R:Rk 304 σ r shs es S B P epB epP) (hs:shs.length≤1000) (E:Esok shs es) (hk:∀ s,skip=some s→PyData.strOk s=true) (h0:0<σ.length)
  (q:∀ kr ks σ',σ<+:σ'→σ'[kr]?=some (.list (ks.map .ref))→FZ σ' ks (AT shs.length es skip)→Q (.ref kr) σ'):callW P10 (d+2) 39 [.ref r,PY skip] σ Q X:=by
 refine AM (fn:=Ie) rfl rfl ?_
 dsimp only [Ie]
 wtm_at "mine"
 refine PT (fun i acc σ'=>σ'=σ++List.replicate i (.list [])∧acc=(List.range' σ.length i).map .ref) R.sh (by rw [List.length_map];exact an1 .le .v0 (.n 1000000) (.l .v0 (.n 1000) .e) rfl hs) ⟨(List.append_nil σ).symm,rfl⟩ (fun i v acc σ' K hv hI hK=>?_) fun acc σ' hI=>?_
 ·obtain ⟨rfl,rfl⟩:=hI
  refine hK _ _ (AF (AF R.sh)) ⟨?_,?_⟩
  ·rw [List.replicate_succ',List.append_assoc]
  ·rw [List.range'_concat,List.map_append,List.length_append,List.length_replicate,Nat.one_mul];rfl
 obtain ⟨rfl,rfl⟩:=hI
 rw [List.length_map]
 have e0:List.replicate shs.length (O.list [])=(AT shs.length (es.take 0) skip).map DY:=by rw [List.take_zero,Gi,List.map_replicate];rfl
 rw [e0]
 wtm_at "mine"
 have el:∀ j,((AT shs.length (es.take j) skip).map DY).length=shs.length:=fun j=>by rw [List.length_map,Aj]
 have eL:(σ++(AT shs.length (es.take 0) skip).map DY).length=σ.length+shs.length:=by rw [List.length_append,el]
 rw [eL]
 refine PQ (fun j ρ' σ'=>σ'=σ++(AT shs.length (es.take j) skip).map DY++[.list ((List.range' σ.length shs.length).map .ref)]∧∃ a b,ρ'=[.ref r,PY skip,.ref (σ.length+shs.length),a,b,.undef]) (AF (AF R.pl)) ⟨rfl,_,_,rfl⟩ (fun j p ρ' σ' R' hp hI hR=>?_) fun ρ' σ' hI=>?_
 ·obtain ⟨rfl,a,b,rfl⟩:=hI
  refine AC (List.mem_map_get hp) fun x hx ze1=>?_;subst ze1
  have hm:=List.mem_of_getElem? hx
  have hn:=E.num x hm
  have Rn:Rk 304 (σ++(AT shs.length (es.take j) skip).map DY++[.list ((List.range' σ.length shs.length).map .ref)]) r shs es S B P epB epP:=R.keeps (At (AH.trans AH))
  refine VL (v:=PY skip) QF ?_
  refine Qj (E.str x hm) hk ?_
  refine Jc (fun h=>?_) fun h=>?_
  ·wtm_at "mine"
   refine SubK.dict Rn.pl (BI E.nodup hm) ?_
   dsimp only [En.pl]
   refine Av (v:=.ref (σ.length+x.n)) (E1 (el j)) (Int.natCast_nonneg _) (by rw [Int.toNat_natCast,List.getElem?_map,List.getElem?_range' hn,Nat.one_mul];rfl) ?_
   have eg:(σ++(AT shs.length (es.take j) skip).map DY++[.list ((List.range' σ.length shs.length).map .ref)])[σ.length+x.n]?=some (.list ((Ak (es.take j) skip x.n).map Ot.v)):=Iy (by rw [List.getElem?_map,BV hn];rfl)
   refine Dz eg ?_
   wtm_at "mine"
   refine SubK.dict Rn.bx (BI E.nodup hm) ?_
   refine FF ?_
   refine CI eg (by exact fun z0=>am2 (.q (.a .v0 .v1) .n0 (.t .n0 .v0 .e)) rfl z0 h0) ?_ ?_
   ·have:(Ak (es.take j) skip x.n).length≤es.length:=by
     unfold Ak;rw [List.length_map];exact Nat.le_trans (List.length_filter_le _ _) (by rw [List.length_take];exact Nat.min_le_right _ _)
    rw [List.length_map];exact Nat.lt_of_le_of_lt this (Nat.lt_trans E.len (by decide))
   refine hR _ _ ?_ ⟨?_,_,_,rfl⟩
   ·rw [F9 (by rw [el];exact hn)];exact AF (AF R.pl)
   ·rw [F9 (by rw [el];exact hn),BY hx,GQ h,List.map_set,show DY (Ak (es.take j) skip x.n++[x.ot])=.list ((Ak (es.take j) skip x.n).map Ot.v++[x.ot.v]) by rw [DY,List.map_append];rfl]
  ·exact hR _ _ Rn.pl ⟨by rw [BY hx,KN h],_,_,rfl⟩
 ·obtain ⟨rfl,a,b,rfl⟩:=hI
  have e1:es.take (BZ es).length=es:=by rw [BZ,List.length_map,List.take_length]
  refine q (σ.length+shs.length) (List.range' σ.length shs.length) _ ?_ ?_ ?_
  ·rw [List.append_assoc];exact AH
  ·exact E1 (el _)
  ·rw [e1];exact Gu Aj
end
set_option maxHeartbeats 2000000
section
variable {d:Nat} {σ:AB} {Q:AN} {X:Ac} {r S B P epB epP:Nat} {shs:List Sh} {es:List En}
theorem HE (R:Rk 304 σ r shs es S B P epB epP) (hx:x.cps.all (·<128)=true) (hl:x.length≤1000)
  (q:Ap x=true→Ao w→Ao h→x∉es.map (·.name)→∀ σ',σ<+:σ'→Q .none σ')
  (q1:¬ (Ap x=true∧Ao w∧Ao h)→∀ σ',σ<+:σ'→X 49 σ')
  (q2:Ap x=true→Ao w→Ao h→x∈es.map (·.name)→∀ σ',σ<+:σ'→X 61 σ'):callW P10 (d+2) 40 [.ref r,.str x,.int w,.int h] σ Q X:=by
 refine AM (fn:=H1) rfl rfl ?_
 dsimp only [H1]
 refine TR hx hl (fun hg σ₁ p=>?_) fun hg σ₁ p=>?_
 ·have R₁:=R.keeps (At p)
  refine Ic (fun hw=>?_) fun hw=>?_
  ·refine Ic (fun hh=>?_) fun hh=>?_
   ·wtm_at "mine"
    refine CmpK.inD R₁.bx ?_
    rw [B3,Iz]
    refine AY (fun hm=>?_) fun hm=>?_
    ·exact q2 hg hw hh hm _ p
    ·exact q hg hw hh hm _ p
   ·exact q1 (fun z=>hh z.2.2) _ p
  ·exact q1 (fun z=>hw z.2.1) _ p
 ·exact q1 (fun z=>by rw [z.1] at hg;cases hg) _ p
theorem LW (R:Rk 304 σ r shs es S B P epB epP) (hn:e.name∉es.map (·.name)) (hB:B≠0) (hP:P≠0) (hz:es.length<63) (hBP:B≠P) (q:∀ ep1 ep2,Q .none (stood σ B P ep1 ep2 (es++[e]))):callW P10 (d+1) 41 [.ref r,e.box,e.pl] σ Q X:=by
 refine AM (fn:=I2) rfl rfl ?_
 dsimp only [I2]
 wtm_at "mine"
 refine SetK.dict R.bx hB (by rw [B3,List.length_map];exact Nat.lt_trans hz (by decide)) fun ep1=>?_
 have eb:=Ld (f:=En.box) hn
 have ep:=Ld (f:=En.pl) hn
 unfold B3
 rw [eb]
 have R₁:RackAt 304 (σ.set B (.dict ep1 ((es++[e]).map fun e=>(e.name,e.box)))) r S B P:=by
  refine AC R.at_.ex fun m h1 h2=>?_
  exact ⟨m,AG (fun z=>by rw [← z,R.bx] at h1;cases h1) h1,AG (fun z=>by rw [← z,R.bx] at h2;cases h2) h2⟩
 wtm_at "mine"
 refine SetK.dict (AG hBP R.pl) hP (by rw [BZ,List.length_map];exact Nat.lt_trans hz (by decide)) fun ep2=>?_
 unfold BZ
 rw [ep]
 exact q ep1 ep2
theorem GL (R:Rk 304 σ r shs es S B P epB epP) (q:x∈es.map (·.name)→Q .none σ) (q':x∉es.map (·.name)→X 85 σ):callW P10 (d+1) 44 [.ref r,.str x] σ Q X:=by
 refine AM (fn:=Ia) rfl rfl ?_
 dsimp only [Ia]
 wtm_at "mine"
 refine CmpK.ninD R.bx ?_
 rw [B3,Iz]
 refine GO (fun hm=>?_) fun hm=>?_
 ·exact q' hm
 ·exact q hm
theorem I4 (R:Rk 304 σ r shs es S B P epB epP) (hn:(es.map (·.name)).Nodup) (hm:e∈es) (q:Q e.pl σ):callW P10 (d+2) 46 [.ref r,.str e.name] σ Q X:=by
 refine AM (fn:=H6) rfl rfl ?_
 dsimp only [H6]
 wtm_at "mine"
 refine GL R (fun _=>?_) fun z=>absurd (List.mem_map.mpr ⟨e,hm,rfl⟩) z
 wtm_at "mine"
 refine SubK.dict R.pl (BI hn hm) ?_
 exact q
theorem Ur (R:Rk 304 σ r shs es S B P epB epP) (hn:(es.map (·.name)).Nodup) (hm:e∈es) (q:Q e.box σ):callW P10 (d+2) 47 [.ref r,.str e.name] σ Q X:=by
 refine AM (fn:=JG) rfl rfl ?_
 dsimp only [JG]
 wtm_at "mine"
 refine GL R (fun _=>?_) fun z=>absurd (List.mem_map.mpr ⟨e,hm,rfl⟩) z
 wtm_at "mine"
 refine SubK.dict R.bx (BI hn hm) ?_
 exact q
theorem FM (R:Rk 304 σ r shs es S B P epB epP) (hn:(es.map (·.name)).Nodup) (hm:e∈es) (q:Q e.ot.v σ):callW P10 (d+2) 48 [.ref r,.str e.name] σ Q X:=by
 refine AM (fn:=H3) rfl rfl ?_
 dsimp only [H3]
 wtm_at "mine"
 refine GL R (fun _=>?_) fun z=>absurd (List.mem_map.mpr ⟨e,hm,rfl⟩) z
 wtm_at "mine"
 refine SubK.dict R.bx (BI hn hm) ?_
 wtm_at "mine"
 refine SubK.dict R.pl (BI hn hm) ?_
 refine FF ?_
 exact q
end
set_option maxHeartbeats 2000000
section
variable {d:Nat} {σ:AB} {Q:AN} {X:Ac} {r S B P epB epP:Nat} {shs:List Sh} {es:List En}
theorem NG {o x:Ot} (q:Ar x.h x.w x.u x.l o.low→Q (.bool false) σ) (q':¬ Ar x.h x.w x.u x.l o.low→Q (.bool true) σ):callW P10 (d+1) 9 [o.v,x.v] σ Q X:=by
 refine AM (fn:=Le) rfl rfl ?_
 dsimp only [Le,Ot.v]
 unfold Ar Ot.low at q q'
 dsimp only at q q'
 refine AY (fun h1=>?_) fun h1=>?_
 ·exact q (.inr (.inr (.inr h1)))
 ·refine AY (fun h2=>?_) fun h2=>?_
  ·exact q (.inr (.inr (.inl h2)))
  ·refine AY (fun h3=>?_) fun h3=>?_
   ·by_cases h4:x.u<o.u+o.h
    ·refine (?_:Q (.bool _) _);rw [decide_eq_true h4];exact q' fun z=>z.elim (fun z=>Int.not_le.mpr h3 z) fun z=>z.elim (fun z=>Int.not_le.mpr h4 z) fun z=>z.elim h2 h1
    ·refine (?_:Q (.bool _) _);rw [decide_eq_false h4];exact q (by exact .inr (.inl (ai3 .le (.a .v0 .v1) .v2 (.o .v2 (.a .v0 .v1) .e) rfl h4)))
   ·refine (?_:Q (.bool _) _);rw [decide_eq_false h3];exact q (by exact .inl (ai3 .le (.a .v0 .v1) .v2 (.o .v2 (.a .v0 .v1) .e) rfl h3))
theorem SQ {n:Nat} {os:List Ot} {o:Ot} {W H:Int} (e:σ[n]?=some (.list (os.map Ot.v))) (q:Gd (os.map Ot.low) H W o.h o.w o.u o.l→Q (.bool true) σ) (q':¬ Gd (os.map Ot.low) H W o.h o.w o.u o.l→Q (.bool false) σ):callW P10 (d+3) 12 [.ref n,o.v,.int W,.int H] σ Q X:=by
 have hin:∀ {Q':AN},((0≤o.l∧0≤o.u∧o.l+o.w≤W∧o.u+o.h≤H)→Q' (.bool true) σ)→(¬ (0≤o.l∧0≤o.u∧o.l+o.w≤W∧o.u+o.h≤H)→Q' (.bool false) σ)→callW P10 (d+2) 10 [o.v,.int W,.int H] σ Q' X:=by
  intro Q' q q'
  refine AM (fn:=IB) rfl rfl ?_
  dsimp only [IB,Ot.v]
  refine AY (fun h1=>?_) fun h1=>?_
  ·refine AY (fun h2=>?_) fun h2=>?_
   ·refine AY (fun h3=>?_) fun h3=>?_
    ·by_cases h4:o.u+o.h≤H
     ·refine (?_:Q' (.bool _) _);rw [decide_eq_true h4];exact q ⟨h1,h2,h3,h4⟩
     ·refine (?_:Q' (.bool _) _);rw [decide_eq_false h4];exact q' fun z=>h4 z.2.2.2
    ·refine (?_:Q' (.bool _) _);rw [decide_eq_false h3];exact q' fun z=>h3 z.2.2.1
   ·refine (?_:Q' (.bool _) _);rw [decide_eq_false h2];exact q' fun z=>h2 z.2.1
  ·refine (?_:Q' (.bool _) _);rw [decide_eq_false h1];exact q' fun z=>h1 z.1
 have hhit:∀ {Q':AN},((∀ x∈os,Ar o.h o.w o.u o.l x.low)→Q' .none σ)→(∀ i:Nat,¬ (∀ x∈os,Ar o.h o.w o.u o.l x.low)→Q' (.int i) σ)→callW P10 (d+2) 11 [.ref n,o.v] σ Q' X:=by
  intro Q' q q'
  refine AM (fn:=Iw) rfl rfl ?_
  dsimp only [Iw]
  refine Sc (fun i ρ' σ'=>σ'=σ∧(∃ a b,ρ'=[.ref n,o.v,a,b,.undef])∧∀ x∈os.take i,Ar o.h o.w o.u o.l x.low) e ⟨rfl,⟨_,_,rfl⟩,fun x hx=>by rw [List.take_zero] at hx;cases hx⟩ (fun i v ρ' σ' R hv hI hR=>?_) fun ρ' σ' hI=>?_
  ·refine Ay hI fun ze1 zt2 hc=>Am zt2 fun a b ze3=>?_;subst ze1;subst ze3
   refine AC (List.mem_map_get hv) fun x hx ze1=>?_;subst ze1
   refine NG (fun h=>?_) fun h=>?_
   ·refine hR _ _ e ⟨rfl,⟨_,_,rfl⟩,fun y hy=>?_⟩
    rw [BY hx] at hy
    exact (List.mem_append.mp hy).elim (hc y) fun m=>List.mem_singleton.mp m▸h
   ·exact q' i fun z=>h (z x (List.mem_of_getElem? hx))
  ·refine Ay hI fun ze1 zt2 hc=>Am zt2 fun a b ze3=>?_;subst ze1;subst ze3
   rw [List.length_map,List.take_length] at hc
   exact q hc
 refine AM (fn:=IK) rfl rfl ?_
 dsimp only [IK]
 refine hin (fun h=>?_) fun h=>?_
 ·refine hhit (fun h'=>?_) fun i h'=>?_
  ·exact q ⟨h.2.1,h.1,h.2.2.2,h.2.2.1,fun x hx=>by refine AC (List.mem_map.mp hx) fun y hy ze1=>?_;subst ze1;exact h' y hy⟩
  ·exact q' fun g=>h' fun x hx=>g.clear x.low (List.mem_map.mpr ⟨x,hx,rfl⟩)
 ·exact q' fun g=>h ⟨g.s0,g.p0,g.s1,g.p1⟩
theorem Ul (R:Rk 304 σ r shs es S B P epB epP) (hx:x.cps.all (·<128)=true) (hl:x.length≤1000) (hs:shs.length≤1000) (E:Esok shs es) (hB:B≠0) (hP:P≠0) (hBP:B≠P)
  (q:Ap x=true→Ao w→Ao h→x∉es.map (·.name)→∀ (e:En) σ' ep1 ep2,e.name=x→e.w=w→e.h=h→e.t=t→e.n<shs.length→σ<+:σ'→FP (OnP w h t) 0 (shs.zip (AT shs.length es none)) (some (e.n,e.u,e.l,e.r))→Q e.pl (stood σ' B P ep1 ep2 (es++[e])))
  (q1:¬ (Ap x=true∧Ao w∧Ao h)→∀ σ',σ<+:σ'→X 49 σ')
  (q2:Ap x=true→Ao w→Ao h→x∈es.map (·.name)→∀ σ',σ<+:σ'→X 61 σ')
  (q3:Ap x=true→Ao w→Ao h→x∉es.map (·.name)→FP (OnP w h t) 0 (shs.zip (AT shs.length es none)) none→∀ σ',σ<+:σ'→X 73 σ'):callW P10 (d+6) 42 [.ref r,.str x,.int w,.int h,.bool t] σ Q X:=by
 refine AM (fn:=IC) rfl rfl ?_
 dsimp only [IC]
 wtm_at "mine"
 refine HE R hx hl (fun g1 g2 g3 g4 σ₁ p₁=>?_) q1 q2
 have R₁:=R.keeps (At p₁)
 have h0:0<σ₁.length:=by have:=(List.getElem?_eq_some_iff.mp R₁.sh).1;exact an2 .lt .n0 .v0 (.t .v1 .v0 .e) rfl this
 wtm_at "mine"
 refine IL (skip:=none) R₁ hs E nofun h0 fun kr ks σ₂ p₂ ek A=>?_
 have R₂:=R₁.keeps (At p₂)
 refine Ew R₂.sh ek A Aj.symm hs (fun os ho=>?_) fun rr σ₃ p₃ F=>?_
 ·refine AC (List.mem_map.mp ho) fun i hi ze1=>?_;subst ze1
  unfold Ak
  rw [List.length_map]
  exact Nat.lt_of_le_of_lt (List.length_filter_le _ _) E.len
 have R₃:=R₂.keeps (At p₃)
 have pa:=(p₁.trans p₂).trans p₃
 cases rr with
 | none=>
  dsimp only [QX]
  exact q3 g1 g2 g3 g4 F _ pa
 | some p=>
  obtain ⟨n,u,l,tr⟩:=p
  refine Ab (Km F) fun k ek' hk0 hk=>?_
  dsimp only at ek'
  subst ek'
  dsimp only [QX]
  wtm_at "mine"
  have hkl:k<shs.length:=by rw [List.length_zip,Aj,Nat.min_self] at hk;exact an2 .lt .v0 .v1 (.t .v0 (.a .n0 .v1) .e) rfl hk
  refine LW (e:=⟨x,w,h,t,k,u,l,tr⟩) R₃ g4 hB hP E.len hBP fun ep1 ep2=>?_
  exact q g1 g2 g3 g4 ⟨x,w,h,t,k,u,l,tr⟩ _ ep1 ep2 rfl rfl rfl rfl hkl pa F
end
set_option maxHeartbeats 2000000
section
variable {d:Nat} {σ:AB} {Q:AN} {X:Ac} {r S B P epB epP:Nat} {shs:List Sh} {es:List En}
theorem QI {w h n u l:Int} {t tr:Bool} (R:Rk 304 σ r shs es S B P epB epP) (hx:x.cps.all (·<128)=true) (hl:x.length≤1000) (hs:shs.length≤1000) (E:Esok shs es) (hB:B≠0) (hP:P≠0) (hBP:B≠P)
  (q:Ap x=true→Ao w→Ao h→x∉es.map (·.name)→∀ (k:Nat) σ' ep1 ep2,n=k→Cm shs es none ⟨x,w,h,t,k,u,l,tr⟩→σ<+:σ'→Q .none (stood σ' B P ep1 ep2 (es++[⟨x,w,h,t,k,u,l,tr⟩])))
  (q1:¬ (Ap x=true∧Ao w∧Ao h)→∀ σ',σ<+:σ'→X 49 σ')
  (q2:Ap x=true→Ao w→Ao h→x∈es.map (·.name)→∀ σ',σ<+:σ'→X 61 σ')
  (q3:Ap x=true→Ao w→Ao h→x∉es.map (·.name)→(∀ k:Nat,n=k→¬ Cm shs es none ⟨x,w,h,t,k,u,l,tr⟩)→∀ σ',σ<+:σ'→X 73 σ') :
  callW P10 (d+4) 43 [.ref r,.str x,.int w,.int h,.bool t,.tup [.int n,.int u,.int l,.bool tr]] σ Q X:=by
 refine AM (fn:=IH) rfl rfl ?_
 dsimp only [IH]
 refine Dr 3 (fun ρ' σ₁=>(Ap x=true∧Ao w∧Ao h∧x∉es.map (·.name))∧σ<+:σ₁∧(∃ k:Nat,n=k∧k<shs.length)∧(tr=true→t=true)∧ρ'=[.ref r,.str x,.int w,.int h,.bool t,.tup [.int n,.int u,.int l,.bool tr],.int n,.int u,.int l,.bool tr,.undef,.undef,.undef]) (fun R' hR'=>?_) fun ρ' σ₁ hI=>?_
 ·dsimp only [List.take]
  wtm_at "mine"
  refine HE R hx hl (fun g1 g2 g3 g4 σ₁ p₁=>?_) q1 q2
  have R₁:=R.keeps (At p₁)
  have q3':=q3 g1 g2 g3 g4
  have hout:(∀ k:Nat,n=k→¬ k<shs.length)→X 73 σ₁:=fun hh=>q3' (fun k ek ⟨sh,hsh,_⟩=>hh k ek (List.getElem?_eq_some_iff.mp hsh).1) _ p₁
  refine AY (fun h1=>?_) fun h1=>?_
  ·wtm_at "mine"
   refine PrimK.lenL R₁.sh ?_
   rw [List.length_map]
   refine GO (fun h2=>?_) fun h2=>?_
   ·exact hout fun k ek hk=>h2 (by exact ai3 .lt .v0 .v1 (.q .v0 .v2 (.t .v2 .v1 .e)) rfl ek (Int.ofNat_lt.mpr hk))
   ·have hk:∃ k:Nat,n=k∧k<shs.length:=⟨n.toNat,by exact Int.le_antisymm (ai2 .le .v0 .v1 (.p .v1 .v0 .e) rfl (Int.toNat_of_nonneg (ai1 .le .n0 .v0 (.l .n0 .v0 .e) rfl h1))) (ai2 .le .v0 .v1 (.q .v0 .v1 .e) rfl (Int.toNat_of_nonneg (ai1 .le .n0 .v0 (.l .n0 .v0 .e) rfl h1))),by omega⟩
    cases tr with
    | true=>
     cases t with
     | true=>exact hR' _ _ ⟨⟨g1,g2,g3,g4⟩,p₁,hk,fun _=>rfl,rfl⟩
     | false=>exact q3' (fun k ek ⟨sh,hsh,ht,_⟩=>Bool.false_ne_true (ht rfl)) _ p₁
    | false=>exact hR' _ _ ⟨⟨g1,g2,g3,g4⟩,p₁,hk,nofun,rfl⟩
  ·exact hout fun k ek hk=>h1 (by exact ai2 .le .n0 .v0 (.p .v0 .v1 (.l .n0 .v1 .e)) rfl ek (Int.natCast_nonneg _))
 ·refine Eg hI fun zt1 p₁ zt2 ht ze3=>It zt1 fun g1 g2 g3 g4=>AC zt2 fun k ze4 hk=>?_;subst ze3;subst ze4
  have q3':=q3 g1 g2 g3 g4
  have R₁:=R.keeps (At p₁)
  have h0:0<σ₁.length:=by have:=(List.getElem?_eq_some_iff.mp R₁.sh).1;exact an2 .lt .n0 .v0 (.t .v1 .v0 .e) rfl this
  dsimp only [List.drop]
  wtm_at "mine"
  refine Av (v:=(shs[k]).v) R₁.sh (Int.natCast_nonneg k) (by rw [Int.toNat_natCast,List.getElem?_map,List.getElem?_eq_getElem hk];rfl) ?_
  wtm_at "mine"
  refine IL (skip:=none) R₁ hs E nofun h0 fun kr ks σ₂ p₂ ek A=>?_
  have R₂:=R₁.keeps (At p₂)
  have hkk:ks[k]?=some (ks[k]'(by rw [A.1,Aj];exact hk)):=List.getElem?_eq_getElem _
  have er:=A.2 k _ _ hkk (BV hk)
  refine Av (v:=.ref (ks[k]'(by rw [A.1,Aj];exact hk))) ek (Int.natCast_nonneg k) (by rw [Int.toNat_natCast,List.getElem?_map,hkk];rfl) ?_
  refine FF (e:=⟨x,w,h,t,k,u,l,tr⟩) ?_
  dsimp only [Sh.v]
  refine SQ er (fun g=>?_) fun g=>?_
  ·wtm_at "mine"
   refine LW (e:=⟨x,w,h,t,k,u,l,tr⟩) R₂ g4 hB hP E.len hBP fun ep1 ep2=>?_
   exact q g1 g2 g3 g4 k _ ep1 ep2 rfl ⟨shs[k],List.getElem?_eq_getElem hk,ht,g⟩ (p₁.trans p₂)
  ·refine q3' (fun k' ek' ⟨sh,hsh,_,g'⟩=>?_) _ (p₁.trans p₂)
   have:k'=k:=by omega
   subst this
   dsimp only at hsh g'
   rw [List.getElem?_eq_getElem hk] at hsh
   cases hsh
   exact g g'
theorem Ti (h:Ao k):-1000000000000000≤k∧k≤1000000000000000:=⟨Int.le_trans (by decide) h.1,Int.le_trans h.2 (by decide)⟩
theorem OB (R:Rk 304 σ r shs es S B P epB epP) (E:Esok shs es) (hk:shs[k]?=some sh) (hw:Ao sh.W) (he:∀ e∈es,Ao e.w) (q:Q (.int (Dd (sh.W*sh.H) k es)) σ):callW P10 (d+1) 50 [.ref r,.int k] σ Q X:=by
 refine AM (fn:=H2) rfl rfl ?_
 dsimp only [H2]
 have hl:=(List.getElem?_eq_some_iff.mp hk).1
 have hv:(shs.map Sh.v)[(k:Int).toNat]?=some sh.v:=by rw [Int.toNat_natCast,List.getElem?_map,hk];rfl
 wtm_at "mine"
 refine PrimK.lenL R.sh ?_
 rw [List.length_map]
 refine GO (fun h=>absurd (show (k:Int)<shs.length by exact ai2 .lt .v0 .v1 (.t .v0 .v1 .e) rfl (Int.ofNat_lt.mpr hl)) h) fun _=>?_
 wtm_at "mine"
 refine Av R.sh (Int.natCast_nonneg k) hv ?_
 dsimp only [Sh.v]
 wtm_at "mine"
 refine Av R.sh (Int.natCast_nonneg k) hv ?_
 dsimp only [Sh.v]
 refine Hb (.inl (Ti hw)) ?_
 wtm_at "mine"
 refine PQ (fun j ρ' σ'=>σ'=σ∧∃ a,ρ'=[.ref r,.int k,.int (Dd (sh.W*sh.H) k (es.take j)),a,.undef]) R.pl ⟨rfl,_,rfl⟩ (fun j p ρ' σ' R' hp hI hR=>?_) fun ρ' σ' hI=>?_
 ·obtain ⟨rfl,a,rfl⟩:=hI
  refine AC (List.mem_map_get hp) fun x hx ze1=>?_;subst ze1
  have hm:=List.mem_of_getElem? hx
  have hsz:=he x hm
  wtm_at "mine"
  refine SubK.dict R.pl (BI E.nodup hm) ?_
  dsimp only [En.pl]
  refine AY (fun h=>?_) fun h=>?_
  ·wtm_at "mine"
   refine SubK.dict R.bx (BI E.nodup hm) ?_
   dsimp only [En.box]
   wtm_at "mine"
   refine SubK.dict R.bx (BI E.nodup hm) ?_
   dsimp only [En.box]
   refine Hb (.inl (Ti hsz)) ?_
   exact hR _ _ R.pl ⟨rfl,_,by rw [BY hx,EZ,if_pos (Int.ofNat.inj h)];rfl⟩
  ·exact hR _ _ R.pl ⟨rfl,_,by rw [BY hx,EZ,if_neg fun z=>h (congrArg Int.ofNat z)];rfl⟩
 ·obtain ⟨rfl,a,rfl⟩:=hI
  rw [show es.take (BZ es).length=es by rw [BZ,List.length_map,List.take_length]]
  exact q
theorem E4 (R:Rk 304 σ r shs es S B P epB epP) (E:Esok shs es) (t:TabAt 275 σ 176 39 C0)
  (q:∀ (p:List Nat) m σ',KpB 1 σ σ'→TabAt 275 σ' 176 39 C0→p.Perm (List.range es.length)→p.Pairwise (B7 (es.map (En.key shs)))→σ'[m]?=some (.list (p.map fun i=>.str ((es.map (·.name)).getD i "")))→σ.length≤m→Q (.ref m) σ'):callW P10 (d+2) 49 [.ref r] σ Q X:=by
 refine AM (fn:=JD) rfl rfl ?_
 dsimp only [JD]
 wtm_at "mine"
 have ei:(BZ es).map (fun p=>V.str p.1)=es.map fun e=>V.str e.name:=by rw [BZ,List.map_map];rfl
 refine ⟨_,.dict (R.pl_ne t) R.pl,by rw [List.length_map,BZ,List.length_map];exact Nat.lt_succ_of_lt E.len,t.w fun m σ' kp em e1=>?_⟩
 have R':=R.keepsB t kp
 rw [ei]
 refine HT (g:=fun e:En=>V.str e.name) (fun e=>.tup ((e.key shs).map .int)) es [] (fun e hm K hK=>⟨em,?_⟩) ?_
 ·wtm_at "mine"
  refine SubK.dict R'.pl (BI E.nodup hm) ?_
  have hn:=E.num e hm
  refine IO (x:=(e.u,e.l)) (sh:=shs[e.n]) R'.sh (List.getElem?_eq_getElem hn) ?_
  unfold En.key at hK
  rw [List.getD_eq_getElem?_getD,List.getElem?_eq_getElem hn] at hK
  exact hK
 ·refine ⟨es.map (En.key shs),by rw [List.map_map];rfl,fun r hr=>by refine AC (List.mem_map.mp hr) fun e _ ze1=>?_;subst ze1;exact S9,fun p hp ho=>?_⟩
  rw [List.length_map] at hp
  have hlen:σ.length≤σ'.length:=Nat.le_of_not_lt fun z=>by
   have h1:=(List.getElem?_eq_some_iff.mp e1).1
   have hx:=List.getElem?_eq_getElem (l:=σ) (i:=σ'.length) z
   have:=(List.getElem?_eq_some_iff.mp (kp _ _ (by exact fun z0=>am1 (.q .v0 .n1 (.t .n1 .v0 .e)) rfl z0 h1) hx)).1
   exact Nat.lt_irrefl _ this
  refine q p _ _ (fun x o hx h=>AF (kp x o hx h)) (.row m (AF e1) (AF em)) hp ho ?_ hlen
  rw [AI]
  refine congrArg (fun l=>some (O.list l)) (List.map_congr_left fun i hi=>?_)
  have hi':i<es.length:=List.mem_range.mp (hp.mem_iff.mp hi)
  rw [List.getD_eq_getElem?_getD,List.getD_eq_getElem?_getD,List.getElem?_map,List.getElem?_map,List.getElem?_eq_getElem hi'];rfl
end
set_option maxHeartbeats 2000000
section
variable {d:Nat} {σ:AB} {Q:AN} {X:Ac} {r S B P epB epP:Nat} {shs ss:List Sh} {es hs:List En} {m:Int}
theorem N4 {n:Nat} {a b:En} (e:σ[n]?=some (.list (shs.map Sh.v))) (ha:a.n<shs.length) (hb:b.n<shs.length) (q:Q (.bool (Ah (a.key shs) (b.key shs))) σ):callW P10 (d+2) 1 [.ref n,a.pl,b.pl] σ Q X:=by
 have key:∀ x:En,x.n<shs.length→∀ {Q:AN},Q (.tup ((x.key shs).map .int)) σ→callW P10 (d+1) 0 [.ref n,x.pl] σ Q X:=fun x hx {Q} q=>by
  refine IO (x:=(x.u,x.l)) (sh:=shs[x.n]) e (List.getElem?_eq_getElem hx) ?_
  unfold En.key at q
  rw [List.getD_eq_getElem?_getD,List.getElem?_eq_getElem hx] at q
  exact q
 refine AM (fn:=Hl) rfl rfl ?_
 dsimp only [Hl]
 refine key a ha ?_
 refine key b hb ?_
 refine CmpK.ltT ?_
 exact q
theorem HX (R:Rk 304 σ r shs es S B P epB epP) (hn:(es.map (·.name)).Nodup) (hm:e∈es) (hB:B≠0) (hP:P≠0) (hBP:B≠P) (q:∀ ep1 ep2,Q e.pl (stood σ B P ep1 ep2 (es.filter fun x=>decide (x.name≠e.name)))):callW P10 (d+2) 45 [.ref r,.str e.name] σ Q X:=by
 refine AM (fn:=FQ) rfl rfl ?_
 dsimp only [FQ]
 wtm_at "mine"
 refine GL R (fun _=>?_) fun z=>absurd (List.mem_map.mpr ⟨e,hm,rfl⟩) z
 wtm_at "mine"
 refine Po R.bx ?_
 refine PopK.mk R.bx hB (BI hn hm) fun ep1=>?_
 have R₁:RackAt 304 (σ.set B (.dict ep1 (del e.name (B3 es)))) r S B P:=by
  refine AC R.at_.ex fun m h1 h2=>?_
  exact ⟨m,AG (fun z=>by rw [← z,R.bx] at h1;cases h1) h1,AG (fun z=>by rw [← z,R.bx] at h2;cases h2) h2⟩
 have pl₁:(σ.set B (.dict ep1 (del e.name (B3 es))))[P]?=some (.dict epP (BZ es)):=AG hBP R.pl
 wtm_at "mine"
 refine Po pl₁ ?_
 refine PopK.mk pl₁ hP (BI hn hm) fun ep2=>?_
 have:=q ep1 ep2
 unfold stood at this
 unfold B3 BZ at this ⊢
 rw [LU,LU]
 exact this
inductive GR10 (σ:AB) (r:Nat) (ss:List Sh) (m:Int) (hs:List En) (S B P epB:Nat) (p:List Nat) (mN j:Nat):List V→AB→Prop
 | mk (mv:List (En × En)) (hs':List En) (epP':Nat) (a b c e:V) (σ':AB):Rnd ss (p.take j) hs mv hs'→KpR B P σ σ'→TabAt 275 σ' 176 39 C0→Rk 304 σ' r (ss.map (Sh.by m)) (hs'.map (En.by m)) S B P epB epP'→σ'[σ.length]?=some (.list (mv.map (mvV m)))→σ'[mN]?=some (.list (p.map fun i=>V.str (((hs.map (En.by m)).map (·.name)).getD i "")))→0<σ'.length →
  GR10 σ r ss m hs S B P epB p mN j [.ref r,.ref σ.length,a,b,c,e,.undef] σ'
inductive SR10 (σ:AB) (r:Nat) (ss:List Sh) (m:Int) (hs:List En) (S B P epB j:Nat):List V→AB→Prop
 | mk (mv0:List (En × En)) (hs1:List En) (p:List Nat) (mv':List (En × En)) (hs2:List En) (epP' a:Nat) (σ':AB):Rnds ss hs j mv0 hs1→p.Perm (List.range hs1.length)→p.Pairwise (B7 (hs1.map (En.key ss)))→Rnd ss p hs1 mv' hs2→KpR B P σ σ'→TabAt 275 σ' 176 39 C0→Rk 304 σ' r (ss.map (Sh.by m)) (hs2.map (En.by m)) S B P epB epP' →
  σ'[σ.length]?=some (.list (mv0.map (mvV m)))→σ'[a]?=some (.list (mv'.map (mvV m)))→a≠σ.length→SR10 σ r ss m hs S B P epB j [.ref r,.ref σ.length,.ref a,.undef] σ'
theorem Fo (R:Rk 304 σ r (ss.map (Sh.by m)) (hs.map (En.by m)) S B P epB epP) (hm:0<m) (hP:P≠0) (hBP:B≠P) (hsl:ss.length≤1000) (E:Esok ss hs) (s:Snd ss hs) (t:TabAt 275 σ 176 39 C0)
  (q:∀ p mv hs' k σ' epP',p.Perm (List.range hs.length)→p.Pairwise (B7 (hs.map (En.key ss)))→Rnd ss p hs mv hs'→KpR B P σ σ'→TabAt 275 σ' 176 39 C0→Rk 304 σ' r (ss.map (Sh.by m)) (hs'.map (En.by m)) S B P epB epP'→σ'[k]?=some (.list (mv.map (mvV m)))→σ.length≤k→k≠S→Q (.ref k) σ') :
  callW P10 (d+6) 51 [.ref r] σ Q X:=by
 refine AM (fn:=Ib) rfl rfl ?_
 dsimp only [Ib]
 have hS:S<σ.length:=(List.getElem?_eq_some_iff.mp R.sh).1
 have hr1:1<σ.length:=by
  cases t with
  | tab e=>exact (List.getElem?_eq_some_iff.mp e).1
  | row m e _=>exact (List.getElem?_eq_some_iff.mp e).1
 have R₀:=R.keeps (At (AH (τ:=[O.list []])))
 wtm_at "mine"
 refine E4 R₀ E.by (t.pre AH) fun p mN σ₁ kp₁ t₁ hp ho eN hmN=>?_
 have R₁:=R₀.keepsB (t.pre AH) kp₁
 rw [List.length_map] at hp
 have hpl:∀ i∈p,i<hs.length:=fun i hi=>List.mem_range.mp (hp.mem_iff.mp hi)
 have ho':=Jz hm hpl ho
 have ek:σ₁[σ.length]?=some (.list []):=kp₁ _ _ (by exact fun z0=>am1 (.q .v0 .n1 (.t .n1 .v0 .e)) rfl z0 hr1) AI
 refine Bn (GR10 σ r ss m hs S B P epB p mN) eN (.mk [] hs epP _ _ _ _ _ .nil ((KpR.pre AH).trans (.kpB kp₁)) t₁ R₁ ek eN (Nat.zero_lt_of_lt (List.getElem?_eq_some_iff.mp eN).1)) (fun j v ρ' σ' R' hv hI hR=>?_) fun ρ' σ' hI=>?_
 ·cases hI with | mk mv hs' epP' a b c x σ' rn kp tt Rr em en h0=>
  refine AC (List.mem_map_get hv) fun i hi ze1=>?_;subst ze1
  have hil:=hpl i (List.mem_of_getElem? hi)
  have same:=rn.same
  have hl':=D0 same.1
  have hn':(hs'.map (·.name)).Nodup:=same.2.1▸E.nodup
  refine Ay (rn.steps s E.nodup) fun _ s' _=>?_
  have hi':i<hs'.length:=hl'.symm▸hil
  have ei:hs'[i]?=some hs'[i]:=List.getElem?_eq_getElem hi'
  generalize hs'[i]=e at ei
  have enm:((hs.map (En.by m)).map (·.name)).getD i ("":Str)=(e.by m).name:=by
   rw [A3,← same.2.1,List.getD_eq_getElem?_getD,List.getElem?_map,ei];rfl
  rw [enm]
  have hmem:e.by m∈hs'.map (En.by m):=List.mem_map.mpr ⟨e,List.mem_of_getElem? ei,rfl⟩
  have hnb:((hs'.map (En.by m)).map (·.name)).Nodup:=by rw [A3];exact hn'
  have E':Esok ss hs':=⟨hn',fun x hx=>by refine AQ (s'.ins x hx) fun sh h=>?_;exact (List.getElem?_eq_some_iff.mp h.at_).1,fun x hx=>by
    have:x.name∈hs.map (·.name):=same.2.1▸List.mem_map.mpr ⟨x,hx,rfl⟩
    refine AC (List.mem_map.mp this) fun y hy e1=>?_
    exact e1▸E.str y hy,hl'.symm▸E.len⟩
  have hstr:=E'.str e (List.mem_of_getElem? ei)
  wtm_at "mine"
  refine SubK.dict Rr.pl (BI hnb hmem) ?_
  wtm_at "mine"
  refine SubK.dict Rr.bx (BI hnb hmem) ?_
  wtm_at "mine"
  refine IL (skip:=some e.name) Rr (by rw [List.length_map];exact hsl) E'.by (fun z hz=>by cases hz;exact hstr) h0 fun kr ks σ₂ p₂ ek₂ A₂=>?_
  have R₂:=Rr.keeps (At p₂)
  dsimp only [En.box]
  refine Ew R₂.sh ek₂ A₂ (by rw [Aj]) (by rw [List.length_map];exact hsl) (fun os ho=>?_) fun rr σ₃ p₃ F=>?_
  ·unfold AT at ho
   refine AC (List.mem_map.mp ho) fun z _ ze1=>?_;subst ze1
   unfold Ak
   rw [List.length_map]
   refine Nat.lt_of_le_of_lt (List.length_filter_le ..) ?_
   rw [List.length_map,hl'];exact E.len
  have R₃:=R₂.keeps (At p₃)
  have hz:=s'.sz e (List.mem_of_getElem? ei)
  refine AQ (Lu (t:=e.t) hz.1 hz.2 (ss.zip (AT ss.length hs' (some e.name))) 0) fun dd hdd=>?_
  have hr:=FU hm F hdd
  refine Ab (HL s' hn' ei hdd) fun e' hd fo st=>?_
  subst hd
  subst hr
  have hlt':e'.n<(ss.map (Sh.by m)).length:=by
   refine Ab (Km hdd) fun k h1 _ h3=>?_
   have h1:(e'.n:Int)=k:=h1
   rw [List.length_map]
   exact Int.ofNat.inj h1▸Nat.lt_of_lt_of_le h3 (by rw [Nat.zero_add,List.length_zip];exact Nat.min_le_left ..)
  have hlt:e.n<(ss.map (Sh.by m)).length:=by rw [List.length_map];exact E'.num e (List.mem_of_getElem? ei)
  have kp₃:KpR B P σ' σ₃:=.pre (p₂.trans p₃)
  have em₃:=Aa (p₂.trans p₃) em
  have en₃:=Aa (p₂.trans p₃) en
  have t₃:=tt.pre (p₂.trans p₃)
  have h0₃:0<σ₃.length:=Nat.zero_lt_of_lt (List.getElem?_eq_some_iff.mp em₃).1
  have pt:p.take (j+1)=p.take j++[i]:=BY hi
  have epl:QX (by4 m (some ((e'.n:Int),e'.u,e'.l,e'.r)))=(e'.by m).pl:=rfl
  rw [epl]
  wtm_at "mine"
  refine N4 (a:=e'.by m) (b:=e.by m) R₃.sh hlt' hlt ?_
  rw [Pv hm,Do,Do]
  have hle:(e'.qp ss).le (e.qp ss):=by
   have:=st.le s'.sound i
   rw [BB (FR ei),BB ei] at this;exact this
  refine Jc (fun h=>?_) fun h=>?_
  ·have hne:=(Fw.mp h).2
   wtm_at "mine"
   refine SetK.dict R₃.pl hP (by rw [BZ,List.length_map,List.length_map,hl'];exact Nat.lt_trans E.len (by decide)) fun ep=>?_
   have ekv:put (e.by m).name (e'.by m).pl (BZ (hs'.map (En.by m)))=BZ ((hs'.set i e').map (En.by m)):=by
    unfold BZ
    have:=Q6 (f:=En.pl) (es:=hs'.map (En.by m)) (i:=i) (e:=e.by m) (e':=e'.by m) hnb (by rw [List.getElem?_map,ei];rfl) (show (e'.by m).name=(e.by m).name from fo.dm.2)
    refine this.trans (congrArg (List.map fun e:En=>(e.name,e.pl)) ?_)
    rw [List.map_set]
   rw [ekv]
   have R₄:=R₃.setP (ep:=ep) hBP (Oh (m:=m) ei fo.dm.1 fo.dm.2)
   have em₄:(σ₃.set P (.dict ep (BZ ((hs'.set i e').map (En.by m)))))[σ.length]?=some (.list (mv.map (mvV m))):=AG (fun z=>by have:=R₃.pl;rw [z,em₃] at this;cases this) em₃
   have en₄:(σ₃.set P (.dict ep (BZ ((hs'.set i e').map (En.by m)))))[mN]?=some (.list (p.map fun i=>V.str (((hs.map (En.by m)).map (·.name)).getD i ""))):=AG (fun z=>by have:=R₃.pl;rw [z,en₃] at this;cases this) en₃
   have t₄:TabAt 275 (σ₃.set P (.dict ep (BZ ((hs'.set i e').map (En.by m))))) 176 39 C0:=t₃.set R₃.pl (fun _ _ _ _=>⟨nofun,nofun⟩) nofun
   have hmvl:mv.length≤j:=Nat.le_trans same.2.2.1 (by rw [List.length_take];exact Nat.min_le_left ..)
   have hjl:j<63:=by
    have:=(List.getElem?_eq_some_iff.mp hi).1
    rw [hp.length_eq,List.length_range] at this
    exact Nat.lt_trans this E.len
   have hNm:mN≠σ.length:=by rw [List.length_append] at hmN;exact Nat.ne_of_gt hmN
   wtm_at "mine"
   refine CI em₄ (by exact fun z0=>am1 (.q .v0 .n0 (.t .n1 .v0 .e)) rfl z0 hr1) (by rw [List.length_map];exact Nat.lt_trans (Nat.lt_of_le_of_lt hmvl hjl) (by decide)) ?_
   refine hR _ _ (AG hNm.symm en₄) (.mk (mv++[(e,e')]) (hs'.set i e') ep _ _ _ _ _ (pt▸rn.append (.move ei fo hne .nil)) ?_ ?_ (R₄.setO em₄ (Nat.ne_of_gt hS)) ?_ (AG hNm.symm en₄) (by rw [List.length_set,List.length_set];exact h0₃))
   ·exact fun x o h1 h2 h3 hx=>AG (fun z=>by have:=(List.getElem?_eq_some_iff.mp hx).1;exact am2 (.t .v0 .v1 (.q .v1 .v0 .e)) rfl this z) (KpR.setP (B:=B) x o h1 h2 h3 ((kp.trans kp₃) x o h1 h2 h3 hx))
   ·exact t₄.set em₄ (fun _ _ _ _=>⟨nofun,nofun⟩) nofun
   ·rw [AZ em₄,List.map_append];rfl
  ·have heq:e'.qp ss=e.qp ss:=by
    refine Classical.byContradiction fun hne=>?_
    rw [Fw.mpr ⟨hle,hne⟩] at h;cases h
   have hee:e'=e:=by
    have h1:=FL (ss:=ss) (e:=e')
    have h3:BG ss e' (e.qp ss)=BG ss e (e.qp ss):=(congrArg (fun x=>BG ss x (e.qp ss)) fo.to).trans rfl
    rw [heq,h3,FL] at h1
    exact h1.symm
   subst hee
   exact hR _ _ en₃ (.mk mv hs' epP' _ _ _ _ _ (pt▸(by have:=rn.append (.stay ei fo .nil);rw [List.append_nil] at this;exact this)) (kp.trans kp₃) t₃ R₃ em₃ en₃ h0₃)
 ·cases hI with | mk mv hs' epP' a b c x σ' rn kp tt Rr em en h0=>
  rw [List.length_map,List.take_length] at rn
  exact q p mv hs' _ _ epP' hp ho' rn kp tt Rr em (Nat.le_refl _) (by exact fun z0=>am2 (.q .v0 .v1 (.t .v1 .v0 .e)) rfl z0 hS)
theorem PK {K:Nat} (R:Rk 304 σ r (ss.map (Sh.by m)) (hs.map (En.by m)) S B P epB epP) (hm:0<m) (hP:P≠0) (hBP:B≠P) (hsl:ss.length≤1000) (E:Esok ss hs) (s:Snd ss hs) (t:TabAt 275 σ 176 39 C0) (hK:∀ sh∈ss,shP sh≤K) (hbig:Cz hs.length ss.length K*hs.length≤16000000)
  (q:∀ k mv hs' a σ' epP',Rnds ss hs k mv hs'→Snd ss hs'→(∀ e∈hs',FirstOf ss hs' e e)→(∃ p:List Nat,p.Perm (List.range hs'.length)∧p.Pairwise (B7 (hs'.map (En.key ss)))∧Rnd ss p hs' [] hs')→KpR B P σ σ'→TabAt 275 σ' 176 39 C0→Rk 304 σ' r (ss.map (Sh.by m)) (hs'.map (En.by m)) S B P epB epP'→σ'[a]?=some (.list (mv.map (mvV m)))→σ.length≤a→Q (.ref a) σ') :
  callW P10 (d+7) 52 [.ref r] σ Q X:=by
 refine AM (fn:=Iq) rfl rfl ?_
 dsimp only [Iq]
 have hr1:1<σ.length:=by
  cases t with
  | tab e=>exact (List.getElem?_eq_some_iff.mp e).1
  | row m e _=>exact (List.getElem?_eq_some_iff.mp e).1
 have hS:S<σ.length:=(List.getElem?_eq_some_iff.mp R.sh).1
 have R₀:=R.keeps (At (AH (τ:=[O.list []])))
 wtm_at "mine"
 refine Fo R₀ hm hP hBP hsl E s (t.pre AH) fun p mv hs₁ k σ₁ epP₁ hp ho rn kp t₁ R₁ ek hk hkS=>?_
 refine QZ (Cz hs.length ss.length K+1) ?_
 refine Gg (M:=Cz hs.length ss.length K) (SR10 σ r ss m hs S B P epB) (fun j ρ' σ' h=>?_) (fun j ρ' σ' R' hI hR=>?_) (Cz hs.length ss.length K+1) 0 _ _ (Nat.zero_add _) (.mk [] hs p mv hs₁ epP₁ k _ .nil hp ho rn ((KpR.pre AH).trans kp) t₁ R₁ (kp _ _ (Nat.ne_of_gt hr1) (Nat.ne_of_gt (List.getElem?_eq_some_iff.mp R.bx).1) (Nat.ne_of_gt (List.getElem?_eq_some_iff.mp R.pl).1) AI) ek (by rw [List.length_append] at hk;exact Nat.ne_of_gt hk))
 ·cases h with | mk mv0 hs1 p mv' hs2 epP' a σ' h=>
  exact h.bound s E.nodup hK
 ·cases hI with | mk mv0 hs1 p mv' hs2 epP' a σ' h hp ho rn kp tt Rr ef em ha=>
  have same:=h.same
  have same2:=rn.same
  obtain ⟨s1,_⟩:=h.seq s E.nodup
  have hn1:(hs1.map (·.name)).Nodup:=same.2.1▸E.nodup
  obtain ⟨_,s2,_⟩:=rn.steps s1 hn1
  wtm_at "mine"
  rw [List.length_map]
  refine AY (fun hpos=>?_) fun hpos=>?_
  ·have hne:mv'≠[]:=fun z=>by subst z;exact absurd hpos (by decide)
   have h':=Rnds.next h hp ho rn hne
   have hb:=h'.bound s E.nodup hK
   have hlen:=h'.same.2.2
   have hmul:=Nat.mul_le_mul_right hs.length hb
   have hn2:(hs2.map (·.name)).Nodup:=h'.same.2.1▸E.nodup
   have hl2:=D0 h'.same.1
   have E2:Esok ss hs2:=⟨hn2,fun x hx=>by obtain ⟨sh,h⟩:=s2.ins x hx;exact (List.getElem?_eq_some_iff.mp h.at_).1,fun x hx=>by
    have:x.name∈hs.map (·.name):=h'.same.2.1▸List.mem_map.mpr ⟨x,hx,rfl⟩
    obtain ⟨y,hy,e1⟩:=List.mem_map.mp this
    exact e1▸E.str y hy,hl2.symm▸E.len⟩
   wtm_at "mine"
   refine ExtK.mk ef em (by rw [List.length_map,List.length_map,← List.length_append];exact Nat.le_trans hlen (Nat.le_trans hmul hbig)) (by exact fun z0=>am2 (.q .v0 .n0 (.t .v1 .v0 .e)) rfl z0 hS) ?_
   have hSf:σ.length≠S:=by exact fun z0=>am2 (.q .v0 .v1 (.t .v1 .v0 .e)) rfl z0 hS
   have R₃:=Rr.setO (o:=.list (mv0.map (mvV m)++mv'.map (mvV m))) ef hSf
   have t₃:TabAt 275 (σ'.set σ.length (.list (mv0.map (mvV m)++mv'.map (mvV m)))) 176 39 C0:=tt.set ef (fun _ _ _ _=>⟨nofun,nofun⟩) nofun
   wtm_at "mine"
   refine Fo R₃ hm hP hBP hsl E2 s2 t₃ fun p3 mv3 hs3 k3 σ3 epP3 hp3 ho3 rn3 kp3 tt3 Rr3 ek3 hk3 hkS3=>?_
   have hlt:σ.length<(σ'.set σ.length (.list (mv0.map (mvV m)++mv'.map (mvV m)))).length:=by rw [List.length_set];exact (List.getElem?_eq_some_iff.mp ef).1
   have hBl:B≠σ.length:=fun z=>by have:=Rr.bx;rw [z,ef] at this;cases this
   have hPl:P≠σ.length:=fun z=>by have:=Rr.pl;rw [z,ef] at this;cases this
   refine hR _ _ (.mk (mv0++mv') hs2 p3 mv3 hs3 epP3 k3 _ h' hp3 ho3 rn3 (fun x o h1 h2 h3 hx=>kp3 x o h1 h2 h3 (AG (Nat.ne_of_gt (List.getElem?_eq_some_iff.mp hx).1) (kp x o h1 h2 h3 hx))) tt3 Rr3 (kp3 _ _ (Nat.ne_of_gt hr1) hBl.symm hPl.symm ?_) ek3 (Nat.ne_of_gt (Nat.lt_of_lt_of_le hlt hk3)))
   rw [AZ ef,List.map_append]
  ·have hne:mv'=[]:=by
    cases mv' with
    | nil=>rfl
    | cons x l=>exact absurd (by rw [List.length_cons];exact ai2 .lt .n0 .v0 (.p .v0 (.a .v1 .n1) (.l .n0 .v1 .e)) rfl (Int.natCast_add _ _) (Int.natCast_nonneg _)) hpos
   obtain ⟨e1,fo⟩:=same2.2.2.2 hne
   subst e1
   refine q j mv0 hs2 _ _ epP' h s2 (fun e he=>?_) ⟨p,hp,ho,hne▸rn⟩ kp tt Rr ef (Nat.le_refl _)
   obtain ⟨i,hi⟩:=List.mem_iff_getElem?.mp he
   obtain ⟨e2,h2,h3⟩:=fo i (hp.mem_iff.mpr (List.mem_range.mpr (List.getElem?_eq_some_iff.mp hi).1))
   rw [hi] at h2
   cases h2;exact h3
end
set_option maxHeartbeats 2000000
section
variable {d:Nat} {σ:AB} {Q:AN} {X:Ac}
theorem Cj (h:σ[0]?=some (.list (xs.map .int))) (hk:0≤k) (q:Q (.int (FO xs k)) σ):callW P10 (d+1) 17 [.ref 0,.int k] σ Q X:=by
 refine AM (fn:=JJ) rfl rfl ?_
 dsimp only [JJ]
 unfold FO at q
 wtm_at "mine"
 rw [List.length_map]
 refine AY (fun hl=>?_) fun hl=>?_
 ·have h9:=(Int.toNat_lt hk).mpr hl
  rw [List.getD_eq_getElem?_getD,List.getElem?_eq_getElem h9] at q
  refine Av h hk (v:=.int xs[k.toNat]) ?_ ?_
  ·rw [List.getElem?_map,List.getElem?_eq_getElem h9];rfl
  ·exact q
 ·rw [List.getD_eq_getElem?_getD,List.getElem?_eq_none ((Int.le_toNat hk).mpr (Int.not_lt.mp hl))] at q
  exact q
theorem F8 (q:Q (.bool true) σ):callW P10 (d+1) 18 [.int k] σ Q X:=by
 refine AM (fn:=H7) rfl rfl ?_
 dsimp only [H7]
 refine PrimK.isI ?_
 refine PrimK.isN ?_
 exact q
theorem MM {o x:Ot} (q:o.l+o.w≤x.l∨x.l+x.w≤o.l→Q (.bool true) σ) (q':¬ (o.l+o.w≤x.l∨x.l+x.w≤o.l)→Q (.bool false) σ):callW P10 (d+1) 20 [o.v,x.v,.int 0] σ Q X:=by
 refine AM (fn:=FY) rfl rfl ?_
 dsimp only [FY,Ot.v]
 refine OD (fun h=>?_) fun h=>?_
 ·by_cases h':x.l+x.w≤o.l
  ·refine (?_:Q (.bool _) _);rw [decide_eq_true h'];exact q (.inr h')
  ·refine (?_:Q (.bool _) _);rw [decide_eq_false h'];exact q' fun z=>z.elim h h'
 ·refine (?_:Q (.bool _) _);rw [decide_eq_true h];exact q (.inl h)
theorem Mf {o x:Ot} (q:o.u+o.h≤x.u∨x.u+x.h≤o.u→Q (.bool true) σ) (q':¬ (o.u+o.h≤x.u∨x.u+x.h≤o.u)→Q (.bool false) σ):callW P10 (d+1) 20 [o.v,x.v,.int 1] σ Q X:=by
 refine AM (fn:=FY) rfl rfl ?_
 dsimp only [FY,Ot.v]
 refine OD (fun h=>?_) fun h=>?_
 ·by_cases h':x.u+x.h≤o.u
  ·refine (?_:Q (.bool _) _);rw [decide_eq_true h'];exact q (.inr h')
  ·refine (?_:Q (.bool _) _);rw [decide_eq_false h'];exact q' fun z=>z.elim h h'
 ·refine (?_:Q (.bool _) _);rw [decide_eq_true h];exact q (.inl h)
theorem TZ {n:Nat} {os:List Ot} {o:Ot} {W H:Int} (e:σ[n]?=some (.list (os.map Ot.v))) (q:Gd (os.map Ot.low) H W o.h o.w o.u o.l→Q (.bool true) σ) (q':¬ Gd (os.map Ot.low) H W o.h o.w o.u o.l→Q (.bool false) σ):callW P10 (d+2) 21 [.ref n,o.v,.int W,.int H] σ Q X:=by
 refine AM (fn:=IQ) rfl rfl ?_
 dsimp only [IQ,Ot.v]
 refine AY (fun h1=>?_) fun h1=>?_
 ·exact q' fun g=>absurd g.s0 (Int.not_le.mpr h1)
 refine AY (fun h2=>?_) fun h2=>?_
 ·exact q' fun g=>absurd g.p0 (Int.not_le.mpr h2)
 refine AY (fun h3=>?_) fun h3=>?_
 ·exact q' fun g=>absurd g.s1 (Int.not_le.mpr h3)
 refine AY (fun h4=>?_) fun h4=>?_
 ·exact q' fun g=>absurd g.p1 (Int.not_le.mpr h4)
 refine Bn (fun i ρ' σ'=>σ'=σ∧(∃ a,ρ'=[.ref n,o.v,.int W,.int H,a,.undef])∧∀ x∈os.take i,Ar o.h o.w o.u o.l x.low) e ⟨rfl,⟨_,rfl⟩,fun x hx=>by rw [List.take_zero] at hx;cases hx⟩ (fun i v ρ' σ' R hv hI hR=>?_) fun ρ' σ' hI=>?_
 ·refine Ay hI fun ze1 zt2 hc=>AQ zt2 fun a ze3=>?_;subst ze1;subst ze3
  refine AC (List.mem_map_get hv) fun x hx ze1=>?_;subst ze1
  have hn:Ar o.h o.w o.u o.l x.low→∀ y∈os.take (i+1),Ar o.h o.w o.u o.l y.low:=fun h y hy=>by
   rw [BY hx] at hy
   exact (List.mem_append.mp hy).elim (hc y) fun m=>List.mem_singleton.mp m▸h
  refine MM (fun h5=>?_) fun h5=>?_
  ·exact hR _ _ e ⟨rfl,⟨_,rfl⟩,hn (h5.elim (fun h=>.inr (.inr (.inl h))) fun h=>.inr (.inr (.inr h)))⟩
  refine Mf (fun h6=>?_) fun h6=>?_
  ·exact hR _ _ e ⟨rfl,⟨_,rfl⟩,hn (h6.elim .inl fun h=>.inr (.inl h))⟩
  refine q' fun g=>?_
  refine Gy (g.clear x.low (List.mem_map.mpr ⟨x,List.mem_of_getElem? hx,rfl⟩)) (fun h=>?_) (fun h=>?_) (fun h=>?_) (fun h=>?_)
  ·exact h6 (.inl h)
  ·exact h6 (.inr h)
  ·exact h5 (.inl h)
  ·exact h5 (.inr h)
 ·refine Ay hI fun ze1 zt2 hc=>AQ zt2 fun a ze3=>?_;subst ze1;subst ze3
  rw [List.length_map,List.take_length] at hc
  exact q ⟨Int.not_lt.mp h2,Int.not_lt.mp h1,Int.not_lt.mp h4,Int.not_lt.mp h3,fun y hy=>by refine AC (List.mem_map.mp hy) fun x hx ze1=>?_;subst ze1;exact hc x hx⟩
end
section
variable {d:Nat} {σ:AB} {Q:AN} {X:Ac} {m:Int} {hs:List En} {ss:List Sh}
theorem TK {xs:List Int} {a b:Int} (h:σ[0]?=some (.list (xs.map .int))) (q:∀ k,k=a∨k=b→Q (.int k) σ):callW P10 (d+1) 19 [.ref 0,.int a,.int b] σ Q X:=by
 refine AM (fn:=I0) rfl rfl ?_
 dsimp only [I0]
 wtm_at "mine"
 refine AY (fun _=>?_) fun _=>?_
 ·exact q b (.inr rfl)
 ·exact q a (.inl rfl)
theorem K3 {e:En} (q:Q e.ot.v σ):callW P10 (d+1) 22 [e.one] σ Q X:=by
 refine AM (fn:=JF) rfl rfl ?_
 dsimp only [JF,En.one,En.pl]
 unfold En.ot at q
 cases hr:e.r with
 | true=>rw [hr] at q;exact q
 | false=>rw [hr] at q;exact q
theorem RH (e:σ[n]?=some (.list (ss.map Sh.v))) (hl:ss.length≤1000) (hm:1≤m∧m≤1000000) (q:Q (.ref σ.length) (σ++[.list ((ss.map (Sh.by m)).map Sh.v)])):callW P10 (d+1) 25 [.ref n,.int m] σ Q X:=by
 have hM:=Ti hm
 refine AM (fn:=Id) rfl rfl ?_
 dsimp only [Id]
 refine JM (Sh.by m) Sh.v e (by exact an1 .le .v0 (.n 1000000) (.l .v0 (.n 1000) .e) rfl hl) (fun s hs K hK=>?_) ?_
 ·dsimp only [Sh.v]
  wtm_at "mine"
  exact hK
 ·exact q
theorem SE {e:En} (q:Q (.bool true) σ):callW P10 (d+2) 32 [e.pl] σ Q X:=by
 refine AM (fn:=IT) rfl rfl ?_
 dsimp only [IT,En.pl]
 refine PrimK.isT ?_
 wtm_at "mine"
 refine PrimK.isB ?_
 refine F8 ?_
 refine F8 ?_
 refine F8 ?_
 exact q
theorem JP (q:∀ ns,Names14 ns→Q (.ref σ.length) (σ++[.list (ns.map .str)])):callW P10 (d+1) 27 [.int c] σ Q X:=by
 refine AM (fn:=Ih) rfl rfl ?_
 dsimp only [Ih]
 wtm_at "mine"
 refine D6 (fun i ρ' σ'=>σ'=σ∧∃ (w:List Nat) (c':Int) (a:V),(∀ c∈w,c∈Cv)∧w.length=i∧ρ'=[.int c',.str (Str.ofString "abcdefghijklmnopqrstuvwxyz0123456789"),.str (Bm w),.int (c / 12 % 12),a,.undef]) (by exact ⟨ai1 .le (.g (.n 1000000)) .v0 (.l .n0 .v0 .e) rfl (Int.emod_nonneg _ (by decide)),ai1 .le .v0 (.n 1000000) (.t .v0 (.n 12) .e) rfl (Int.emod_lt_of_pos _ (by decide))⟩) ⟨rfl,[],_,_,(fun _ h=>nomatch h),rfl,rfl⟩ (fun i ρ' σ' R hi hI hR=>?_) fun ρ' σ' hI=>?_
 ·obtain ⟨rfl,w,c',a,hw,hl,rfl⟩:=hI
  wtm_at "mine"
  refine AC (PD (j:=(((c'*48271+11) % 2147483647) % 36).toNat) ((Int.toNat_lt' (by decide)).mpr (Int.emod_lt_of_pos _ (by decide)))) fun b eb hb=>?_
  refine Ub (c:=b) (by exact ai1 .le .n0 .v0 (.l .n0 .v0 .e) rfl (Int.emod_nonneg _ (by decide))) (by exact ai1 .lt .v0 (.n 1000000) (.t .v0 (.n 36) .e) rfl (Int.emod_lt_of_pos _ (by decide))) eb ?_
  refine BinK.addS ?_ ?_
  ·rw [Fd,hl]
   show i+1≤Ag
   exact Nat.le_trans (Int.ofNat_lt.mp (Int.lt_trans hi (Int.emod_lt_of_pos c (by decide))):i<12) (by decide)
  have epc:Bm w++EL b=Bm (w++[b]):=congrArg Str.mk (by show w.toArray++#[b]=(w++[b]).toArray;simp)
  rw [epc]
  exact hR _ _ ⟨rfl,w++[b],_,_,fun x hx=>(List.mem_append.mp hx).elim (hw x) fun z=>List.mem_singleton.mp z▸hb,by rw [List.length_append,hl];rfl,rfl⟩
 ·obtain ⟨rfl,w,c',a,hw,hl,rfl⟩:=hI
  have hl11:w.length≤11:=by rw [hl];exact Int.toNat_le.mpr (Int.lt_add_one_iff.mp (Int.emod_lt_of_pos _ (by decide):_<(11:Int)+1))
  have ew:(Bm w).cps.toList=w:=rfl
  have elen:(Bm w).length=w.length:=Fd
  refine Rv (fun s=>.str (Bm (cut w 0 (min (c / 12 % 12).toNat w.length))++EL s++Bm (cut w (min (c / 12 % 12).toNat w.length) w.length))) (by decide +kernel) (by decide +kernel) (fun s hs K hK=>?_) ?_
  ·have l1:∀ a b,(Bm (cut w a b)).length≤11:=fun a b=>by rw [Fd];exact Nat.le_trans RD hl11
   refine UF (by rw [elen];exact an1 .le .v0 (.n 1000) (.l .v0 (.n 11) .e) rfl hl11) (by exact ai1 .le .n0 .v0 (.l .n0 .v0 .e) rfl (Int.emod_nonneg _ (by decide))) (by exact ai1 .le .v0 (.n 1000000) (.t .v0 (.n 12) .e) rfl (Int.emod_lt_of_pos _ (by decide))) ?_
   refine BinK.addS (Nat.le_trans (Nat.add_le_add_right (l1 _ _) 1) (by decide)) ?_
   refine Ug (by rw [elen];exact an1 .le .v0 (.n 1000) (.l .v0 (.n 11) .e) rfl hl11) (by exact ai1 .le .n0 .v0 (.l .n0 .v0 .e) rfl (Int.emod_nonneg _ (by decide))) (by exact ai1 .le .v0 (.n 1000000) (.t .v0 (.n 12) .e) rfl (Int.emod_lt_of_pos _ (by decide))) ?_
   rw [elen]
   have l2:∀ a b,(Bm (cut w a b)++EL s).length≤12:=fun a b=>by
    rw [Bd,DF,List.length_append]
    have:=l1 a b
    rw [Bd] at this
    exact Nat.add_le_add_right this 1
   refine BinK.addS (Nat.le_trans (Nat.add_le_add (l2 _ _) (l1 _ _)) (by decide)) ?_
   exact hK
  ·have:=q _ (MF hw hl11 (Nat.min_le_right (c / 12 % 12).toNat w.length))
   rw [List.map_map] at this
   exact this
end
set_option maxHeartbeats 2000000
section
variable {d:Nat} {σ:AB} {Q:AN} {X:Ac} {m:Int} {hs:List En} {ss:List Sh}
theorem RP (q:∀ m,1≤m∧m≤120000→Q (.int m) σ):callW P10 (d+1) 16 [.int c] σ Q X:=by
 refine AM (fn:=IF) rfl rfl ?_
 dsimp only [IF]
 wtm_at "mine"
 refine AY (fun _=>?_) fun _=>?_
 ·exact q 1 (by exact ⟨ari [] .le .n1 .n1 .e rfl,ari [] .le .n1 (.n 120000) .e rfl⟩)
 ·wtm_at "mine"; exact q _ (by exact ⟨ai1 .le .n1 (.a .n1 .v0) (.l .n0 .v0 .e) rfl (Int.emod_nonneg _ (by decide)),ai1 .le (.a .n1 .v0) (.n 120000) (.t .v0 (.n 120000) .e) rfl (Int.emod_lt_of_pos _ (by decide))⟩)
theorem K6 {xs:List Int} (e:σ[0]?=some (.list (xs.map .int))) (q:∀ (ss:List Sh) (k:Nat) (σ':AB),KpB σ.length σ σ'→σ'[k]?=some (.list (ss.map Sh.v))→σ.length≤k→1≤ss.length→ss.length≤9→(∀ s∈ss,ShB 8 6 s)→Q (.ref k) σ'):callW P10 (d+2) 24 [.ref 0] σ Q X:=by
 refine AM (fn:=H9) rfl rfl ?_
 dsimp only [H9]
 refine Cj e (by decide) ?_
 wtm_at "mine"
 have hmx:max 0 (FO xs 1 / 3 % 14 - 7)≤6:=Int.max_le.mpr ⟨by decide,Int.sub_le_sub_right (Int.lt_add_one_iff.mp (Int.emod_lt_of_pos _ (by decide):_<(13:Int)+1)) 7⟩
 have h4:1+FO xs 1 % 3<4:=Int.add_lt_add_left (Int.emod_lt_of_pos _ (by decide)) 1
 refine Ka (fun _=>(⟨1,1,true⟩:Sh)) Sh.v ⟨Int.le_trans (by decide) (Int.le_max_left _ _),Int.le_trans hmx (by decide)⟩ (fun i hi K hK=>?_) ?_
 ·exact hK
 have hk0:σ.length≠0:=Nat.ne_of_gt (List.getElem?_eq_some_iff.mp e).1
 generalize hss:(List.range _).map (fun _=>(⟨1,1,true⟩:Sh))=ss₀
 have hl₀:ss₀.length≤6:=by rw [← hss,List.length_map,List.length_range];exact Int.toNat_le.mpr hmx
 have ok₀:∀ s∈ss₀,ShB 8 6 s:=fun s hs=>by
  rw [← hss] at hs
  refine AC (List.mem_map.mp hs) fun _ _ ze1=>?_;subst ze1
  exact ⟨by decide,by decide⟩
 refine Cj (AF e) (by decide) ?_
 wtm_at "mine"
 refine D6 (fun i ρ' σ'=>KpB σ.length σ σ'∧∃ (ss:List Sh) (a c:V),ρ'=[.ref 0,a,.ref σ.length,c,.undef]∧i≤ss.length∧ss.length≤6+i∧(∀ s∈ss,ShB 8 6 s)∧σ'[σ.length]?=some (.list (ss.map Sh.v))) (by exact ⟨ai1 .le (.g (.n 1000000)) (.a .n1 .v0) (.l .n0 .v0 .e) rfl (Int.emod_nonneg _ (by decide)),ai1 .le (.a .n1 .v0) (.n 1000000) (.t .v0 .n3 .e) rfl (Int.emod_lt_of_pos _ (by decide))⟩) ⟨fun x o hx h=>AF h,ss₀,_,_,rfl,Nat.zero_le _,by exact an1 .le .v0 (.a (.n 6) .n0) (.l .v0 (.n 6) .e) rfl hl₀,ok₀,AI⟩ (fun i ρ' σ' R hi hI hR=>?_) fun ρ' σ' hI=>?_
 ·refine Dh hI fun kp ss a c ze1 hi' hl ok ek=>?_;subst ze1
  have e0:=kp 0 _ (Ne.symm hk0) e
  refine Cj e0 (by exact ai1 .le .n0 (.a .n2 .v0) (.l .n0 .v0 .e) rfl (Int.natCast_nonneg _)) ?_
  wtm_at "mine"
  generalize (FO xs (2+(i:Int))*48271+11) % 2147483647=dr
  refine Kt AI (by exact ⟨ai1 .le .n0 .v0 (.l .n0 .v0 .e) rfl (Int.emod_nonneg _ (by decide)),ai1 .lt .v0 .n2 (.t .v0 .n2 .e) rfl (Int.emod_lt_of_pos _ (by decide))⟩) fun b=>?_
  refine CI (AF ek) hk0 (by rw [List.length_map];exact Nat.lt_of_le_of_lt hl (Nat.lt_trans (Nat.add_lt_add_left (Int.ofNat_lt.mp (Int.lt_trans hi h4):i<4) 6) (by decide))) ?_
  refine hR _ _ ⟨fun x o hx h=>AG (Ne.symm hx) (AF (kp x o hx h)),ss++[⟨1+dr % 8,1+dr / 8 % 6,b⟩],_,_,rfl,by rw [List.length_append];exact Nat.succ_le_succ hi',by rw [List.length_append];exact Nat.succ_le_succ hl,fun s hs=>(List.mem_append.mp hs).elim (ok s) fun z=>List.mem_singleton.mp z▸⟨by dsimp only;exact ⟨ai1 .le .n1 (.a .n1 .v0) (.l .n0 .v0 .e) rfl (Int.emod_nonneg _ (by decide)),ai1 .le (.a .n1 .v0) (.n 8) (.t .v0 (.n 8) .e) rfl (Int.emod_lt_of_pos _ (by decide))⟩,by dsimp only;exact ⟨ai1 .le .n1 (.a .n1 .v0) (.l .n0 .v0 .e) rfl (Int.emod_nonneg _ (by decide)),ai1 .le (.a .n1 .v0) (.n 6) (.t .v0 (.n 6) .e) rfl (Int.emod_lt_of_pos _ (by decide))⟩⟩,by rw [List.map_append];exact AZ (AF ek)⟩
 ·refine Dh hI fun kp ss a c ze1 hi' hl ok ek=>?_;subst ze1
  exact q ss _ _ kp ek (Nat.le_refl _) (Nat.le_trans (Int.lt_toNat.mpr (Int.lt_of_lt_of_le (by decide) (Int.le_add_of_nonneg_right (Int.emod_nonneg _ (by decide))))) hi') (Nat.le_trans hl (Nat.add_le_add_left (Int.toNat_le.mpr (Int.lt_add_one_iff.mp h4)) 6)) ok
end
set_option maxHeartbeats 2000000
section
variable {d:Nat} {σ:AB} {Q:AN} {X:Ac} {m:Int} {hs:List En} {ss:List Sh}
theorem Tp (q:∀ (sh:Sh) σ',σ<+:σ'→ShB 1000 1000 sh→Q sh.v σ'):callW P10 (d+1) 29 [.int c,.int k] σ Q X:=by
 refine AM (fn:=IU) rfl rfl ?_
 dsimp only [IU]
 wtm_at "mine"
 refine Hb (.inl (by decide)) ?_
 wtm_at "mine"
 generalize (c*48271+11*k+5) % 2147483647=x
 generalize x*69621 % 2147483647=y
 refine Kt AI ⟨Int.emod_nonneg _ (by decide),Int.emod_lt_of_pos _ (by decide)⟩ fun b=>?_
 refine q ⟨1+x % 1000,1+y % 1000,b⟩ _ AH ⟨⟨?_,?_⟩,?_,?_⟩
 ·exact ai1 .le .n1 (.a .n1 .v0) (.l .n0 .v0 .e) rfl (Int.emod_nonneg _ (by decide))
 ·exact ai1 .le (.a .n1 .v0) (.n 1000) (.t .v0 (.n 1000) .e) rfl (Int.emod_lt_of_pos _ (by decide))
 ·exact ai1 .le .n1 (.a .n1 .v0) (.l .n0 .v0 .e) rfl (Int.emod_nonneg _ (by decide))
 ·exact ai1 .le (.a .n1 .v0) (.n 1000) (.t .v0 (.n 1000) .e) rfl (Int.emod_lt_of_pos _ (by decide))
end
set_option maxHeartbeats 2000000
section
variable {d:Nat} {σ:AB} {Q:AN} {X:Ac} {r S B P epB epP n k:Nat} {shs:List Sh} {es:List En}
theorem Mp (R:Rk 304 σ r shs es S B P epB epP) (E:Esok shs es) (t:TabAt 275 σ 176 39 C0) (et:σ[k]?=some (.list (es.map En.box)))
  (q:∀ m σ',KpB 1 σ σ'→TabAt 275 σ' 176 39 C0→Pq .next [.ref r,.ref n,.ref k,.ref m,.undef,.undef,.undef,.undef,.undef,.undef,.undef,.undef] σ') :
  BL (DJ.body.take 2) (callW P10 (d+2)) [.ref r,.ref n,.ref k,.undef,.undef,.undef,.undef,.undef,.undef,.undef,.undef,.undef] σ Pq:=by
 dsimp only [DJ,List.take]
 wtm_at "mine"
 refine E4 R E t fun p m' σ₁ kp t₁ hp ho e1 hlen=>?_
 have et₁:=kp k _ (Az R t et).1 et
 have hl:es.length<64:=Nat.lt_succ_of_lt E.len
 have pp:(p.map fun i=>(es.map (·.name)).getD i ("":Str)).Perm (es.map (·.name)):=Lm (by rw [List.length_map];exact hp)
 refine SortK.strs (ss:=p.map fun i=>(es.map (·.name)).getD i ("":Str)) (by rw [e1,List.map_map];rfl) (by rw [pp.length_eq,List.length_map];exact hl) fun ts hts sts=>?_
 refine JA (fun e:En=>some (.str e.name)) (AF et₁) (Nat.le_trans (Nat.le_of_lt hl) (by decide)) (fun e he K hK=>?_) ?_
 ·exact hK
 rw [BK]
 refine SortK.strs (ss:=es.map (·.name)) (by rw [List.map_map];exact AI) (by rw [List.length_map];exact hl) fun us hus sus=>?_
 have e:ts=us:=Md sts sus (hts.trans (pp.trans hus.symm))
 subst e
 refine K0 (x:=.list (ts.map .str)) (CF (m:=5) (AF (AF AI)) fun _ _=>rfl) (CF (m:=5) AI fun _ _=>rfl) (E6 fun x hx=>?_) ?_
 ·refine AC (List.mem_map.mp (hus.mem_iff.mp hx)) fun y hy ze1=>?_;subst ze1
  exact E.str y hy
 ·exact q _ _ (fun x o hx h=>AF (AF (AF (kp x o hx h)))) (((t₁.pre AH).pre AH).pre AH)
theorem NM (R:Rk 304 σ r shs es S B P epB epP) (E:Esok shs es) (h0:0<σ.length) (hs:shs.length≤1000) (ok:∀ i e,es[i]?=some e→Cm shs (es.take i) none e)
  (en:σ[n]?=some (.list (shs.map Sh.v))) (et:σ[k]?=some (.list (es.map En.box)))
  (q:∀ a4 a5 a7 a8 kr ks σ',σ<+:σ'→σ'[kr]?=some (.list (ks.map .ref))→FZ σ' ks (AT shs.length es none)→Pq .next [.ref r,.ref n,.ref k,a3,a4,a5,.ref kr,a7,a8,.undef,.undef,.undef] σ') :
  BL ((DJ.body.drop 2).take 2) (callW P10 (d+2)) [.ref r,.ref n,.ref k,a3,.undef,.undef,.undef,.undef,.undef,.undef,.undef,.undef] σ Pq:=by
 dsimp only [DJ,List.take,List.drop]
 refine PT (fun i acc σ'=>σ'=σ++List.replicate i (.list [])∧acc=(List.range' σ.length i).map .ref) en (by rw [List.length_map];exact Nat.le_trans hs (by decide)) ⟨(List.append_nil σ).symm,rfl⟩ (fun i v acc σ' K hv hI hK=>?_) fun acc σ' hI=>?_
 ·obtain ⟨rfl,rfl⟩:=hI
  refine hK _ _ (AF (AF en)) ⟨?_,?_⟩
  ·rw [List.replicate_succ',List.append_assoc]
  ·rw [List.range'_concat,List.map_append,List.length_append,List.length_replicate,Nat.one_mul];rfl
 obtain ⟨rfl,rfl⟩:=hI
 rw [List.length_map]
 have e0:List.replicate shs.length (O.list [])=(AT shs.length (es.take 0) none).map DY:=by rw [List.take_zero,Gi,List.map_replicate];rfl
 rw [e0]
 wtm_at "mine"
 have el:∀ j,((AT shs.length (es.take j) none).map DY).length=shs.length:=fun j=>by rw [List.length_map,Aj]
 have eL:(σ++(AT shs.length (es.take 0) none).map DY).length=σ.length+shs.length:=by rw [List.length_append,el]
 rw [eL]
 refine Bn (fun j ρ' σ'=>σ'=σ++(AT shs.length (es.take j) none).map DY++[.list ((List.range' σ.length shs.length).map .ref)]∧∃ a4 a5 a7 a8,ρ'=[.ref r,.ref n,.ref k,a3,a4,a5,.ref (σ.length+shs.length),a7,a8,.undef,.undef,.undef]) (AF (AF et)) ⟨rfl,_,_,_,_,rfl⟩ (fun j p ρ' σ' R' hp hI hR=>?_) fun ρ' σ' hI=>?_
 ·refine Ey hI fun ze1 a4 a5 a7 a8 ze2=>?_;subst ze1;subst ze2
  refine AC (List.mem_map_get hp) fun x hx ze1=>?_;subst ze1
  have hm:=List.mem_of_getElem? hx
  have hn:=E.num x hm
  refine Ab (ok j x hx) fun sh hsh htr gd=>?_
  have Rn:Rk 304 (σ++(AT shs.length (es.take j) none).map DY++[.list ((List.range' σ.length shs.length).map .ref)]) r shs es S B P epB epP:=R.keeps (At (AH.trans AH))
  have enn:=AF (τ:=[.list ((List.range' σ.length shs.length).map .ref)]) (AF (τ:=(AT shs.length (es.take j) none).map DY) en)
  have hv:(shs.map Sh.v)[(x.n:Int).toNat]?=some sh.v:=by rw [Int.toNat_natCast,List.getElem?_map,hsh];rfl
  have eg:(σ++(AT shs.length (es.take j) none).map DY++[.list ((List.range' σ.length shs.length).map .ref)])[σ.length+x.n]?=some (.list ((Ak (es.take j) none x.n).map Ot.v)):=Iy (by rw [List.getElem?_map,BV hn];rfl)
  have er:((List.range' σ.length shs.length).map V.ref)[(x.n:Int).toNat]?=some (.ref (σ.length+x.n)):=by rw [Int.toNat_natCast,List.getElem?_map,List.getElem?_range' hn,Nat.one_mul];rfl
  wtm_at "mine"
  refine I4 Rn E.nodup hm ?_
  wtm_at "mine"
  refine Ur Rn E.nodup hm ?_
  refine Oq (E.str x hm) ?_
  refine SE ?_
  dsimp only [En.pl]
  refine PrimK.lenL enn ?_
  rw [List.length_map]
  refine AY (fun h=>?_) fun _=>?_
  ·exact absurd (Int.ofNat_lt.mpr hn) (Int.not_lt.mpr h)
  dsimp only [En.box]
  wtm_at "mine"
  refine K3 (e:=x) ?_
  refine Av enn (Int.natCast_nonneg _) hv ?_
  have hO:∀ {A B:Prop},B→brW (brW A B (!x.t)) B x.r:=fun {A B} hk=>by
   cases hr:x.r with
   | false=>exact hk
   | true=>rw [htr hr];exact hk
  refine hO ?_
  wtm_at "mine"
  refine FM Rn E.nodup hm ?_
  refine K0 (x:=x.ot.dat) rfl rfl SM ?_
  dsimp only [Sh.v]
  refine Av (v:=.ref (σ.length+x.n)) (E1 (el j)) (Int.natCast_nonneg _) er ?_
  refine TZ eg (fun _=>?_) fun h=>absurd gd h
  refine Av (v:=.ref (σ.length+x.n)) (E1 (el j)) (Int.natCast_nonneg _) er ?_
  refine Dz eg ?_
  refine CI eg (by exact fun z0=>am2 (.q (.a .v0 .v1) .n0 (.t .n0 .v0 .e)) rfl z0 h0) ?_ ?_
  ·have:(Ak (es.take j) none x.n).length≤es.length:=by
    unfold Ak;rw [List.length_map];exact Nat.le_trans (List.length_filter_le _ _) (by rw [List.length_take];exact Nat.min_le_right _ _)
   rw [List.length_map];exact Nat.lt_of_le_of_lt this (Nat.lt_trans E.len (by decide))
  refine hR _ _ ?_ ⟨?_,_,_,_,_,rfl⟩
  ·rw [F9 (by rw [el];exact hn)];exact AF (AF et)
  ·rw [F9 (by rw [el];exact hn),BY hx,GQ rfl,List.map_set,show DY (Ak (es.take j) none x.n++[x.ot])=.list ((Ak (es.take j) none x.n).map Ot.v++[x.ot.v]) by rw [DY,List.map_append];rfl]
 ·refine Ey hI fun ze1 a4 a5 a7 a8 ze2=>?_;subst ze1;subst ze2
  have e1:es.take (es.map En.box).length=es:=by rw [List.length_map,List.take_length]
  refine q _ _ _ _ (σ.length+shs.length) (List.range' σ.length shs.length) _ ?_ ?_ ?_
  ·rw [List.append_assoc];exact AH
  ·exact E1 (el _)
  ·rw [e1];exact Gu Aj
theorem M4 (R:Rk 304 σ r shs es S B P epB epP) (E:Esok shs es) (hs:shs.length≤1000) (hW:∀ s∈shs,Ao s.W) (he:∀ e∈es,Ao e.w)
  (en:σ[n]?=some (.list (shs.map Sh.v))) (er:σ[kr]?=some (.list (ks.map .ref))) (A:FZ σ ks (AT shs.length es none)) (q:Q (.bool true) σ) :
  BL (DJ.body.drop 4) (callW P10 (d+2)) [.ref r,.ref n,.ref k,a3,a4,a5,.ref kr,a7,a8,.undef,.undef,.undef] σ (Fu Q X):=by
 dsimp only [DJ,List.drop]
 refine PrimK.lenL en ?_
 rw [List.length_map]
 refine D6 (fun i ρ' σ₂=>σ₂=σ∧∃ a8 a9 a10,ρ'=[.ref r,.ref n,.ref k,a3,a4,a5,.ref kr,a7,a8,a9,a10,.undef]) (by exact ⟨ai1 .le (.g (.n 1000000)) .v0 (.l .n0 .v0 .e) rfl (Int.natCast_nonneg _),ai1 .le .v0 (.n 1000000) (.l .v0 (.n 1000) .e) rfl (Int.ofNat_le.mpr hs)⟩) ⟨rfl,_,_,_,rfl⟩ (fun i ρ' σ₂ R' hi hI hR=>?_) fun ρ' σ₂ hI=>?_
 ·refine Ll hI fun ze1 a8 a9 a10 ze2=>?_;subst ze1;subst ze2
  have hi':i<shs.length:=Int.ofNat_lt.mp hi
  have hsh:=List.getElem?_eq_getElem hi'
  have hW':=hW _ (List.getElem_mem hi')
  generalize shs[i]=sh at hsh hW'
  have hv:(shs.map Sh.v)[(i:Int).toNat]?=some sh.v:=by rw [Int.toNat_natCast,List.getElem?_map,hsh];rfl
  have hki:i<ks.length:=by rw [A.1,Aj];exact hi'
  have ekr:(ks.map V.ref)[(i:Int).toNat]?=some (.ref ks[i]):=by rw [Int.toNat_natCast,List.getElem?_map,List.getElem?_eq_getElem hki];rfl
  have erow:=A.2 i ks[i] _ (List.getElem?_eq_getElem hki) (BV hi')
  refine Av en (Int.natCast_nonneg i) hv ?_
  dsimp only [Sh.v]
  refine Av en (Int.natCast_nonneg i) hv ?_
  dsimp only [Sh.v]
  refine Hb (.inl ⟨Int.le_trans (by decide) hW'.1,Int.le_trans hW'.2 (by decide)⟩) ?_
  refine Av er (Int.natCast_nonneg i) ekr ?_
  refine Bn (fun j ρ' σ₃=>σ₃=σ₂∧∃ a8,ρ'=[.ref r,.ref n,.ref k,a3,a4,a5,.ref kr,a7,a8,.int i,.int (KF (sh.W*sh.H) ((Ak es none i).take j)),.undef]) erow ⟨rfl,_,rfl⟩ (fun j v ρ' σ₃ R'' hv' hI hR'=>?_) fun ρ' σ₃ hI=>?_
  ·refine HS hI fun ze1 a8 ze2=>?_;subst ze1;subst ze2
   refine AC (List.mem_map_get hv') fun o ho ze1=>?_;subst ze1
   have hw:Ao o.w∨Ao o.h:=by
    refine AC (List.mem_map.mp (List.mem_of_getElem? ho)) fun e hm ze1=>?_;subst ze1
    have:=he e (List.mem_filter.mp hm).1
    unfold En.ot
    cases e.r
    ·exact .inl this
    ·exact .inr this
   dsimp only [Ot.v]
   refine Hb (hw.imp (fun h=>⟨Int.le_trans (by decide) h.1,Int.le_trans h.2 (by decide)⟩) fun h=>⟨Int.le_trans (by decide) h.1,Int.le_trans h.2 (by decide)⟩) ?_
   exact hR' _ _ erow ⟨rfl,_,by rw [NS ho];rfl⟩
  ·refine HS hI fun ze1 a8 ze2=>?_;subst ze1;subst ze2
   rw [List.length_map,List.take_length,NA]
   wtm_at "mine"
   refine OB R E hsh hW' he ?_
   refine F8 ?_
   wtm_at "mine"
   refine OB R E hsh hW' he ?_
   refine GO (fun h=>absurd rfl h) fun _=>?_
   exact hR _ _ ⟨rfl,_,_,_,rfl⟩
 ·refine Ll hI fun ze1 a8 a9 a10 ze2=>?_;subst ze1;subst ze2
  exact q
theorem Er (R:Rk 304 σ r (ss.map (Sh.by m)) (hs.map (En.by m)) S B P epB epP) (E:Esok ss hs) (s:Snd ss hs) (t:TabAt 275 σ 176 39 C0) (hm:0<m) (hl:ss.length≤1000) (hW:∀ s∈ss,Ao (s.W*m)) (hz:∀ e∈hs,Ao (e.w*m))
  (en:σ[n]?=some (.list ((ss.map (Sh.by m)).map Sh.v))) (et:σ[k]?=some (.list ((hs.map (En.by m)).map En.box))) (q:∀ σ',KpB 1 σ σ'→TabAt 275 σ' 176 39 C0→Q (.bool true) σ'):callW P10 (d+3) 33 [.ref r,.ref n,.ref k] σ Q X:=by
 refine AM (fn:=DJ) rfl rfl ?_
 have hl':(ss.map (Sh.by m)).length≤1000:=by rw [List.length_map];exact hl
 refine Dr 2 (fun ρ' σ'=>KpB 1 σ σ'∧TabAt 275 σ' 176 39 C0∧∃ a,ρ'=[.ref r,.ref n,.ref k,.ref a,.undef,.undef,.undef,.undef,.undef,.undef,.undef,.undef]) (fun R' hR'=>?_) fun ρ' σ₁ hI=>?_
 ·exact Mp R E.by t et fun a σ' kp t'=>hR' _ _ ⟨kp,t',a,rfl⟩
 refine PM hI fun kp t₁ a ze1=>?_;subst ze1
 have R₁:=R.keepsB t kp
 have en₁:=kp n _ (Az R t en).1 en
 have et₁:=kp k _ (Az R t et).1 et
 have h0:0<σ₁.length:=Nat.lt_of_le_of_lt (Nat.zero_le _) (List.getElem?_eq_some_iff.mp et₁).1
 refine Dr 2 (fun ρ' σ'=>σ₁<+:σ'∧∃ a4 a5 a7 a8 kr ks,σ'[kr]?=some (.list (ks.map .ref))∧FZ σ' ks (AT (ss.map (Sh.by m)).length (hs.map (En.by m)) none)∧ρ'=[.ref r,.ref n,.ref k,.ref a,a4,a5,.ref kr,a7,a8,.undef,.undef,.undef]) (fun R' hR'=>?_) fun ρ' σ₂ hI=>?_
 ·refine NM R₁ E.by h0 hl' (fun i e hi=>?_) en₁ et₁ fun a4 a5 a7 a8 kr ks σ' p ek A=>hR' _ _ ⟨p,a4,a5,a7,a8,kr,ks,ek,A,rfl⟩
  rw [List.getElem?_map] at hi
  refine AC (Option.map_eq_some_iff.mp hi) fun x hx ze1=>?_;subst ze1
  rw [← List.map_take]
  exact (P8 hm).mpr (Io.mpr (s.ok_take hx))
 refine Ik hI fun p a4 a5 a7 a8 kr ks ek A ze1=>?_;subst ze1
 exact M4 (R₁.keeps (At p)) E.by hl' (fun s hs'=>by refine AC (List.mem_map.mp hs') fun x hx ze1=>?_;subst ze1;exact hW x hx) (fun e he=>by refine AC (List.mem_map.mp he) fun x hx ze1=>?_;subst ze1;exact hz x hx) (Aa p en₁) ek A (q σ₂ (fun x o hx h=>Aa p (kp x o hx h)) (t₁.pre p))
end
set_option maxHeartbeats 2000000
section
variable {d:Nat} {σ σ':AB} {Q:AN} {X:Ac} {m:Int} {K:Nat} {hs:List En} {ss:List Sh} {ns:List Str} {n k r S B P epB epP:Nat} {e:En}
structure LX (m:Int) (ss:List Sh) (ns:List Str) (r S B P:Nat) (hs:List En) (σ:AB):Prop where
 rk:∃ epB epP,Rk 304 σ r (ss.map (Sh.by m)) (hs.map (En.by m)) S B P epB epP
 tab:TabAt 275 σ 176 39 C0
 E:Esok ss hs
 s:Snd ss hs
 mem:∀ e∈hs,e.name∈ns
 sz:∀ e∈hs,Ao (e.w*m)∧Ao (e.h*m)
structure LK (m:Int) (ss:List Sh) (ns:List Str) (B P K:Nat):Prop where
 hm:1≤m∧m≤1000000
 len:1≤ss.length∧ss.length≤9
 sh:∀ s∈ss,Ao (s.W*m)∧Ao (s.H*m)
 k:∀ s∈ss,shP s≤K
 big:Cz ns.length ss.length K*ns.length≤16000000
 n30:ns.length≤30
 good:∀ x∈ns,GoodName x
 b0:B≠0
 p0:P≠0
 bp:B≠P
noncomputable abbrev bxs (m:Int) (hs:List En):List V:=(hs.map (En.by m)).map En.box
theorem LX.pre (L:LX m ss ns r S B P hs σ) (p:σ<+:σ'):LX m ss ns r S B P hs σ':=⟨Am L.rk fun x y h=>⟨x,y,h.keeps (At p)⟩,L.tab.pre p,L.E,L.s,L.mem,L.sz⟩
theorem LX.kpB (L:LX m ss ns r S B P hs σ) (kp:KpB 1 σ σ') (t:TabAt 275 σ' 176 39 C0):LX m ss ns r S B P hs σ':=⟨Am L.rk fun x y h=>⟨x,y,h.keepsB L.tab kp⟩,t,L.E,L.s,L.mem,L.sz⟩
theorem LX.n30 (L:LX m ss ns r S B P hs σ):hs.length≤ns.length:=by
 have:=D4 L.E.nodup (l':=ns) fun x hx=>by refine AC (List.mem_map.mp hx) fun e he ze1=>?_;subst ze1;exact L.mem e he
 rw [List.length_map] at this;exact this
theorem Ek (R:Rk C σ r shs es S B P epB epP):KpR B P σ (stood σ B P ep1 ep2 es'):=fun _ _ _ h2 h3 h=>AG (Ne.symm h3) (AG (Ne.symm h2) h)
theorem Hf (R:Rk 304 σ r shs es S B P epB epP) (t:TabAt 275 σ 176 39 C0):TabAt 275 (stood σ B P ep1 ep2 es') 176 39 C0:=by
 have kp:∀ (x:Nat) (o:O),σ[x]?=some o→(∀ ep kvs,o≠.dict ep kvs)→(stood σ B P ep1 ep2 es')[x]?=some o:=fun x o h hd=>
  AG (fun z=>by rw [← z,R.pl] at h;cases h;exact hd _ _ rfl) (AG (fun z=>by rw [← z,R.bx] at h;cases h;exact hd _ _ rfl) h)
 cases t with
 | tab h=>exact .tab (kp _ _ h nofun)
 | row m h h'=>exact .row m (kp _ _ h nofun) (kp _ _ h' nofun)
theorem LX.put (L:LX m ss ns r S B P hs σ) (c:LK m ss ns B P K) (hn:e.name∉hs.map (·.name)) (hx:e.name∈ns) (ok:Ok ss hs none e) (hz:0<e.w∧0<e.h) (hz':Ao (e.w*m)∧Ao (e.h*m)):LX m ss ns r S B P (hs++[e]) (stood σ B P ep1 ep2 ((hs++[e]).map (En.by m))):=by
 refine Am L.rk fun epB epP R=>?_
 exact ⟨⟨ep1,ep2,R.stood c.bp ep1 ep2⟩,Hf R L.tab,L.E.add hn (c.good _ hx).str (by refine AQ ok.ins fun sh h=>?_;exact (List.getElem?_eq_some_iff.mp h.at_).1) (Nat.lt_of_le_of_lt (Nat.le_trans L.n30 c.n30) (by decide)),L.s.add ok hz,fun y hy=>(List.mem_append.mp hy).elim (L.mem y) fun z=>List.mem_singleton.mp z▸hx,fun y hy=>(List.mem_append.mp hy).elim (L.sz y) fun z=>List.mem_singleton.mp z▸hz'⟩
theorem LX.take (L:LX m ss ns r S B P hs σ) (bp:B≠P):LX m ss ns r S B P (hs.filter fun y=>decide (y.name≠x)) (stood σ B P ep1 ep2 ((hs.filter fun y=>decide (y.name≠x)).map (En.by m))):=by
 refine Am L.rk fun epB epP R=>?_
 exact ⟨⟨ep1,ep2,R.stood bp ep1 ep2⟩,Hf R L.tab,L.E.filter,L.s.filter,fun y hy=>L.mem y (List.mem_filter.mp hy).1,fun y hy=>L.sz y (List.mem_filter.mp hy).1⟩
theorem Gx (h:N≤N') (h':L≤L'):Cz N L K*N≤Cz N' L' K*N':=by
 unfold Cz
 exact Nat.mul_le_mul (Nat.add_le_add (Nat.mul_le_mul (Nat.mul_le_mul h (Nat.mul_le_mul_right K h')) (Nat.succ_le_succ h)) h) h
theorem Rs {b e:En} (h:e=b.to e.n e.u e.l e.r):e.name=b.name∧e.w=b.w∧e.h=b.h∧e.t=b.t:=by rw [h];exact ⟨rfl,rfl,rfl,rfl⟩
theorem T9 {ss:List Sh} {hs:List En} {b e:En} (hn:b.name∉hs.map (·.name)) (he:e=b.to e.n e.u e.l e.r) (F:FP (OnL b.w b.h b.t) 0 (ss.zip (AT ss.length hs (some b.name))) (some ((e.n:Int),e.u,e.l,e.r))):Ok ss hs none e:=by
 refine (El F).elim (fun h=>Oe h.1) fun h=>Ab h fun qq e1 ok _=>?_
 have e2:=Option.some.inj e1
 have:e=BG ss b qq:=by
  rw [he,Int.ofNat.inj (congrArg (·.1) e2),show e.u=_ from congrArg (·.2.1) e2,show e.l=_ from congrArg (·.2.2.1) e2,show e.r=_ from congrArg (·.2.2.2) e2];rfl
 rw [← this] at ok
 exact ⟨ok.ins,fun x hx hxn _=>ok.clear x hx hxn (Ev.mpr fun z=>hn (z▸List.mem_map.mpr ⟨x,hx,rfl⟩))⟩
theorem He (L:LX m ss ns r S B P hs σ) (c:LK m ss ns B P K) (q:∀ hs' a σ',LX m ss ns r S B P hs' σ'→KpR B P σ σ'→dms hs'=dms hs→hs'.map (·.name)=hs.map (·.name)→(∀ e∈hs',FirstOf ss hs' e e)→Q (.ref a) σ'):callW P10 (d+7) 52 [.ref r] σ Q X:=by
 refine Am L.rk fun epB epP R=>?_
 refine PK R c.hm.1 c.p0 c.bp (Nat.le_trans c.len.2 (by decide)) L.E L.s L.tab c.k (Nat.le_trans (Gx L.n30 (Nat.le_refl _)) c.big) fun j mv hs' a σ' epP' rs s' fo _ kp t' R' ea ha=>?_
 have same:=rs.same
 have nm:∀ x∈hs',∃ y∈hs,y.name=x.name:=fun x hx=>List.mem_map.mp (show x.name∈hs.map (·.name) from same.2.1▸List.mem_map.mpr ⟨x,hx,rfl⟩)
 refine q hs' a σ' ⟨⟨_,_,R'⟩,t',⟨same.2.1▸L.E.nodup,fun x hx=>by refine AQ (s'.ins x hx) fun sh h=>?_;exact (List.getElem?_eq_some_iff.mp h.at_).1,fun x hx=>?_,(D0 same.1).symm▸L.E.len⟩,s',fun x hx=>?_,fun x hx=>?_⟩ kp same.1 same.2.1 fo
 ·refine AC (nm x hx) fun y hy e1=>?_;exact e1▸L.E.str y hy
 ·refine AC (nm x hx) fun y hy e1=>?_;exact e1▸L.mem y hy
 ·have:x.dm∈dms hs':=List.mem_map.mpr ⟨x,hx,rfl⟩
  rw [same.1] at this
  refine AC (List.mem_map.mp this) fun y hy e1=>?_
  have e2:y.w=x.w∧y.h=x.h:=⟨congrArg (·.1) e1,congrArg (fun d:Dm=>d.2.1) e1⟩
  have:=L.sz y hy
  rw [e2.1,e2.2] at this;exact this
theorem Pg (L:LX m ss ns r S B P hs σ) (c:LK m ss ns B P K) (hx:e.name∈ns) (hz:0<e.w∧0<e.h) (hz':Ao (e.w*m)∧Ao (e.h*m))
  (q:∀ e' σ',e'=e.to e'.n e'.u e'.l e'.r→e.name∉hs.map (·.name)→Ok ss hs none e'→LX m ss ns r S B P (hs++[e']) σ'→KpR B P σ σ'→Q (e'.by m).pl σ') (q2:e.name∈hs.map (·.name)→∀ σ',σ<+:σ'→X 61 σ') (q3:e.name∉hs.map (·.name)→(∀ q:Qp,¬ Ok ss hs none (BG ss e q))→∀ σ',σ<+:σ'→X 73 σ') :
  callW P10 (d+6) 42 [.ref r,.str e.name,.int (e.w*m),.int (e.h*m),.bool e.t] σ Q X:=by
 refine Am L.rk fun epB epP R=>?_
 have hg:=c.good _ hx
 refine Ul R hg.low hg.len (by rw [List.length_map];exact Nat.le_trans c.len.2 (by decide)) L.E.by c.b0 c.p0 c.bp (fun _ _ _ hn e₁ σ' ep1 ep2 h1 h2 h3 h4 h5 p F=>?_) (fun h=>absurd ⟨hg.good,hz'⟩ h) (fun _ _ _ hn σ' p=>?_) fun _ _ _ hn F σ' p=>?_
 ·rw [A3] at hn
  refine AQ (Lu (t:=e.t) hz.1 hz.2 (ss.zip (AT ss.length hs (some e.name))) 0) fun dd G=>?_
  have G':=G
  rw [Nn hn] at G'
  have hr:=FU c.hm.1 F G'
  cases dd with
  | none=>exact Oe hr
  | some x=>
   refine Ab (Km G) fun kk hk _ _=>?_
   have hx':x=((kk:Int),x.2.1,x.2.2.1,x.2.2.2):=Prod.ext hk rfl
   have hr:=Option.some.inj hr
   have e1:e₁=(e.to kk x.2.1 x.2.2.1 x.2.2.2).by m:=congr (congr (congr (congr (congr (congr (congr (congrArg En.mk h1) h2) h3) h4) (Int.ofNat.inj ((congrArg (·.1) hr).trans hk))) (congrArg (·.2.1) hr)) (congrArg (·.2.2.1) hr)) (congrArg (·.2.2.2) hr)
   rw [e1]
   have ok:=T9 hn (e:=e.to kk x.2.1 x.2.2.1 x.2.2.2) rfl (hx'▸G)
   have:=q (e.to kk x.2.1 x.2.2.1 x.2.2.2) _ rfl hn ok ((L.pre p).put (ep1:=ep1) (ep2:=ep2) (e:=e.to kk x.2.1 x.2.2.1 x.2.2.2) c hn hx ok hz hz') ((KpR.pre p).trans (Ek (R.keeps (At p))))
   rw [List.map_append] at this
   exact this
 ·rw [A3] at hn;exact q2 hn σ' p
 ·rw [A3] at hn
  refine q3 hn (fun qq ok=>?_) σ' p
  refine AQ (Lu (t:=e.t) hz.1 hz.2 (ss.zip (AT ss.length hs none)) 0) fun dd G=>?_
  have hr:=FU c.hm.1 F G
  cases dd with
  | some x=>exact HI hr
  | none=>exact (El G).elim (fun h=>h.2 qq ok) fun h=>AC h fun _ e1 _=>HI e1
end
set_option maxHeartbeats 2000000
section
variable {d:Nat} {σ σ':AB} {Q:AN} {X:Ac} {m:Int} {K:Nat} {hs:List En} {ss:List Sh} {ns:List Str} {n k r S B P epB epP:Nat} {e:En}
theorem Jv:∀ {hs:List En},dms hs'=dms hs→hs'.map (·.name)=hs.map (·.name)→bxs m hs'=bxs m hs:=by
 induction hs' with
 | nil=>intro hs h _;cases hs with
  | nil=>rfl
  | cons _ _=>cases h
 | cons x xs ih=>intro hs h h';cases hs with
  | nil=>cases h
  | cons y ys=>
   have h:=List.cons.inj h
   have h':=List.cons.inj h'
   have hd:(x.w,x.h,x.t)=(y.w,y.h,y.t):=h.1
   injection hd with e1 e2
   injection e2 with e2 e3
   show (x.by m).box::bxs m xs=(y.by m).box::bxs m ys
   rw [ih h.2 h'.2]
   refine congrArg (·::bxs m ys) ?_
   show V.tup [.str x.name,.int (x.w*m),.int (x.h*m),.bool x.t]=V.tup [.str y.name,.int (y.w*m),.int (y.h*m),.bool y.t]
   rw [e1,e2,e3,show x.name=y.name from h'.1]
theorem L3 (h:e'=e.to e'.n e'.u e'.l e'.r) (hn:e.name∉hs.map (·.name)):bxs m (hs++[e'])=bxs m (hs.filter fun y=>decide (y.name≠e.name))++[(e.by m).box]:=by
 rw [JT hn,bxs,List.map_append,List.map_append,h];rfl
theorem TM (L:LX m ss ns r S B P hs σ) (c:LK m ss ns B P K) (hx:e.name∈ns) (hz:0<e.w∧0<e.h) (hz':Ao (e.w*m)∧Ao (e.h*m))
  (q:∀ b hs' σ',LX m ss ns r S B P hs' σ'→KpR B P σ σ'→((way=0∨b=false)→bxs m hs'=bxs m hs)→(way=1→b=true→bxs m hs'=bxs m (hs.filter fun y=>decide (y.name≠e.name))) →
   (way≠0→way≠1→b=true→bxs m hs'=bxs m (hs.filter fun y=>decide (y.name≠e.name))++[(e.by m).box])→Q (.bool b) σ') :
  callW P10 (d+8) 28 [.ref r,(e.by m).box,.tup [.int num,.int (u*m),.int (l*m),.bool tr],.int way] σ Q X:=by
 refine AM (fn:=JI) rfl rfl ?_
 dsimp only [JI,En.box,En.by]
 refine Am L.rk fun epB epP R=>?_
 have no:∀ σ',σ<+:σ'→Q (.bool false) σ':=fun σ' p=>q false hs σ' (L.pre p) (.pre p) (fun _=>rfl) nofun nofun
 have hg:=c.good _ hx
 refine AY (fun h0=>?_) fun h0=>?_
 ·wtm_at "mine"
  refine He L c fun hs' a σ' L' kp h1 h2 _=>?_
  exact q true hs' σ' L' kp (fun _=>Jv h1 h2) (fun h=>absurd (h0.symm.trans h) (by decide)) fun h=>absurd h0 h
 refine AY (fun h1=>?_) fun h1=>?_
 ·wtm_at "mine"
  by_cases hm:e.name∈hs.map (·.name)
  ·refine AC (List.mem_map.mp hm) fun y hy e1=>?_
   rw [← e1]
   refine HX (e:=y.by m) R (by rw [A3];exact L.E.nodup) (List.mem_map.mpr ⟨y,hy,rfl⟩) c.b0 c.p0 c.bp fun ep1 ep2=>?_
   rw [show (y.by m).name=y.name from rfl,Hj]
   exact q true _ _ (L.take c.bp) (Ek R) (fun h=>h.elim (fun h=>absurd h h0) nofun) (fun _ _=>by rw [e1]) fun _ h=>absurd h1 h
  ·refine AM (fn:=FQ) rfl rfl ?_
   dsimp only [FQ]
   wtm_at "mine"
   refine GL R (fun z=>absurd (A3▸z) hm) fun _=>?_
   exact no _ (List.prefix_refl _)
 refine AY (fun h2=>?_) fun h2=>?_
 ·wtm_at "mine"
  refine QI R hg.low hg.len (by rw [List.length_map];exact Nat.le_trans c.len.2 (by decide)) L.E.by c.b0 c.p0 c.bp (fun _ _ _ hn kk σ' ep1 ep2 hk hc p=>?_) (fun h=>absurd ⟨hg.good,hz'⟩ h) (fun _ _ _ hn σ' p=>?_) fun _ _ _ hn hc σ' p=>?_
  ·rw [A3] at hn
   have hc':Cm ss hs none (e.to kk u l tr):=(P8 (e:=e.to kk u l tr) c.hm.1).mp hc
   have:=q true (hs++[e.to kk u l tr]) _ ((L.pre p).put (ep1:=ep1) (ep2:=ep2) (e:=e.to kk u l tr) c hn hx (Io.mp hc') hz hz') ((KpR.pre p).trans (Ek (R.keeps (At p)))) (fun h=>h.elim (fun h=>absurd h h0) nofun) (fun h=>absurd h h1) fun _ _ _=>L3 (e':=e.to kk u l tr) rfl hn
   rw [List.map_append] at this
   exact this
  ·exact no _ p
  ·exact no _ p
 ·wtm_at "mine"
  refine Pg L c hx hz hz' (fun e' σ' he hn ok L' kp=>?_) (fun _ σ' p=>?_) fun _ _ σ' p=>?_
  ·exact q true _ σ' L' kp (fun h=>h.elim (fun h=>absurd h h0) nofun) (fun h=>absurd h h1) fun _ _ _=>L3 he hn
  ·exact no _ p
  ·exact no _ p
theorem TD (L:LX m ss ns r S B P hs σ) (ek:σ[k]?=some (.list (bxs m hs))) (hne:hs≠[]) (q:∀ (num u l:Int) (tr:Bool),Q (.tup [.int num,.int u,.int l,.bool tr]) σ):callW P10 (d+3) 30 [.ref r,.ref k,.int more] σ Q X:=by
 refine AM (fn:=I9) rfl rfl ?_
 dsimp only [I9]
 refine Am L.rk fun epB epP R=>?_
 have hl:0<hs.length:=List.length_pos_iff.mpr hne
 refine PrimK.lenL ek ?_
 rw [List.length_map,List.length_map]
 refine Pf (Int.ofNat_lt.mpr hl) ?_
 have hi:(more % (hs.length:Int)).toNat<hs.length:=(Int.toNat_lt (Int.emod_nonneg _ (Int.ne_of_gt (Int.ofNat_lt.mpr hl)))).mpr (Int.emod_lt_of_pos _ (Int.ofNat_lt.mpr hl))
 have hx:=List.getElem?_eq_getElem hi
 have hxm:=List.mem_of_getElem? hx
 generalize hs[(more % (hs.length:Int)).toNat]=x at hx hxm
 refine Av (v:=(x.by m).box) ek (Int.emod_nonneg _ (Int.ne_of_gt (Int.ofNat_lt.mpr hl))) (by rw [List.getElem?_map,List.getElem?_map,hx];rfl) ?_
 have hnd:((hs.map (En.by m)).map (·.name)).Nodup:=by rw [A3];exact L.E.nodup
 have hmm:x.by m∈hs.map (En.by m):=List.mem_map.mpr ⟨x,hxm,rfl⟩
 dsimp only [En.box]
 wtm_at "mine"
 refine I4 R hnd hmm ?_
 dsimp only [En.pl]
 wtm_at "mine"
 refine FM R hnd hmm ?_
 dsimp only [Ot.v]
 wtm_at "mine"
 refine AY (fun _=>?_) fun _=>?_
 ·wtm_at "mine"
  exact q _ _ _ _
 ·wtm_at "mine"
  exact q _ _ _ _
end
set_option maxHeartbeats 2000000
section
variable {d:Nat} {σ σ':AB} {Q:AN} {X:Ac} {m:Int} {K:Nat} {hs:List En} {ss:List Sh} {ns:List Str} {n k a r S B P epB epP:Nat} {e:En}
theorem md3 (k:Int) (hk:0<k):1≤1+c % k∧1+c % k≤k:=⟨Int.le_add_of_nonneg_right (Int.emod_nonneg _ (Int.ne_of_gt hk)),Int.add_comm _ 1▸Int.add_one_le_of_lt (Int.emod_lt_of_pos _ hk)⟩
theorem KX (e:σ[k]?=some (.list (bxs m hs))) (e':σ[j]?=some (.list [])) (hstr:∀ x∈hs,PyData.strOk x.name=true) (q:hs≠[]→T true) (q':hs=[]→T false):CmpK σ T .NotEq (.ref k) (.ref j):=by
 refine .ne (x:=.list ((hs.map (En.by m)).map En.boxD)) (CF (m:=5) e fun _ _=>rfl) (CF (m:=5) (l:=([]:List En)) (g:=En.box) (dat:=En.boxD) e' fun _ _=>rfl) (E6 fun x hx=>?_) rfl ?_
 ·refine AC (List.mem_map.mp hx) fun y hy ze1=>?_;subst ze1
  exact LV (hstr y hy)
 ·cases hs with
  | nil=>exact q' rfl
  | cons x l=>exact q (List.cons_ne_nil _ _)
theorem sz3 (hy:1≤y∧y≤3) (hm:1≤m∧m≤120000):0<y∧Ao (y*m):=⟨hy.1,Int.mul_pos hy.1 hm.1,Int.le_trans (Int.mul_le_mul hy.2 hm.2 (Int.le_of_lt hm.1) (by decide)) (by decide)⟩
theorem LX.len (L':LX m ss ns r S B P hs' σ') (kp:KpR B P σ σ'):σ.length≤σ'.length:=Nat.le_of_not_lt fun z=>by
 refine Am L'.rk fun epB epP R=>?_
 have nx:∀ {x:Nat} {o:O},σ'[x]?=some o→σ'.length≠x:=fun h e=>Nat.lt_irrefl _ (e▸(List.getElem?_eq_some_iff.mp h).1)
 have n1:σ'.length≠1:=by
  cases L'.tab with
  | tab h=>exact nx h
  | row _ h _=>exact nx h
 exact nx (kp _ _ n1 (nx R.bx) (nx R.pl) (List.getElem?_eq_getElem z)) rfl
theorem MH (hd:dfK True pl) (L:LX m ss ns r S B P hs σ) (L':LX m ss ns r S B P hs' σ') (kp:KpR B P σ σ') (hx:PyData.strOk e.name=true) (ek:σ[k]?=some (.list (bxs m hs)))
  (h1:(way=0∨b=false)→bxs m hs'=bxs m hs) (h2:way=1→b=true→bxs m hs'=bxs m (hs.filter fun y=>decide (y.name≠e.name))) (h3:way≠0→way≠1→b=true→bxs m hs'=bxs m (hs.filter fun y=>decide (y.name≠e.name))++[(e.by m).box])
  (q:∀ hs' k' σ',LX m ss ns r S B P hs' σ'→KpR B P σ σ'→σ'[k']?=some (.list (bxs m hs'))→(k'=k∨σ.length≤k')→Q (.ref k') σ') :
  BL (C3.body.drop 9) (callW P10 (d+8)) [.ref r,.ref k,.int c',.ref a,.int m,.bool far,.str e.name,(e.by m).box,.int way,.int more,pl,.bool b,.undef,.undef] σ' (Fu Q X):=by
 refine Am L.rk fun epB epP R=>?_
 dsimp only [C3,List.drop,En.box,En.by]
 have ne:=Az R L.tab ek
 have hlen:=L'.len kp
 have ek':=kp _ _ ne.1 ne.2.1 ne.2.2 ek
 have hl:hs.length≤1000000:=Nat.le_trans (Nat.le_of_lt L.E.len) (by decide)
 have ek2:σ'[k]?=some (.list (hs.map fun e=>(e.by m).box)):=by rw [ek',bxs,List.map_map];rfl
 refine JA (fun y:En=>if decide (y.name≠e.name)=true then some (y.by m).box else none) ek2 hl (fun y hy K hK=>?_) ?_
 ·dsimp only [En.box,En.by] at hK ⊢
  refine Gk (L.E.str y hy) hx (fun h=>?_) fun h=>?_
  ·rw [decide_eq_true h] at hK;exact hK
  ·rw [decide_eq_false fun z=>z h] at hK;exact hK
 rw [Bw (f:=fun y:En=>decide (y.name≠e.name)) (g:=fun y:En=>(y.by m).box)]
 have eB:(hs.filter fun y=>decide (y.name≠e.name)).map (fun y:En=>(y.by m).box)=bxs m (hs.filter fun y=>decide (y.name≠e.name)):=by rw [bxs,List.map_map];rfl
 rw [eB]
 have L₂:=L'.pre (σ':=σ'++[.list (bxs m (hs.filter fun y=>decide (y.name≠e.name)))]) AH
 have kp₂:=kp.trans (KpR.pre (AH (σ:=σ') (τ:=[.list (bxs m (hs.filter fun y=>decide (y.name≠e.name)))])))
 refine AY (fun h0=>?_) fun h0=>?_
 ·exact q hs' k _ L₂ kp₂ (by rw [AF ek',h1 (.inl h0)]) (.inl rfl)
 cases b with
 | false=>exact q hs' k _ L₂ kp₂ (by rw [AF ek',h1 (.inr rfl)]) (.inl rfl)
 | true=>
  refine AY (fun h4=>?_) fun h4=>?_
  ·exact q hs' _ _ L₂ kp₂ (by rw [AI,h2 h4 rfl]) (.inr hlen)
  ·refine BinK.addL (AF AI) AI (by rw [List.length_map,List.length_map];exact Nat.le_trans (Nat.succ_le_succ (Nat.le_trans (List.length_filter_le _ _) (Nat.le_of_lt L.E.len))) (by decide)) ?_
   exact q hs' _ _ ((L₂.pre AH).pre AH) ((kp₂.trans (KpR.pre AH)).trans (KpR.pre AH)) (AI.trans (congrArg (fun l=>some (O.list l)) (h3 h0 h4 rfl).symm)) (.inr (Nat.le_trans hlen (by rw [List.length_append,List.length_append];exact Nat.le_trans (Nat.le_add_right _ _) (Nat.le_add_right _ _))))
theorem J4 (L:LX m ss ns r S B P hs σ) (cK:LK m ss ns B P K) (hx:e.name∈ns) (hz:0<e.w∧0<e.h) (hz':Ao (e.w*m)∧Ao (e.h*m)) (ek:σ[k]?=some (.list (bxs m hs)))
  (q:∀ hs' k' σ',LX m ss ns r S B P hs' σ'→KpR B P σ σ'→σ'[k']?=some (.list (bxs m hs'))→(k'=k∨σ.length≤k')→Q (.ref k') σ') :
  BL (C3.body.drop 8) (callW P10 (d+8)) [.ref r,.ref k,.int c',.ref a,.int m,.bool far,.str e.name,(e.by m).box,.int way,.int more,.tup [.int num,.int (u*m),.int (l*m),.bool tr],.undef,.undef,.undef] σ (Fu Q X):=by
 dsimp only [C3,List.drop]
 exact TM L cK hx hz hz' fun b hs' σ' L' kp h1 h2 h3=>MH trivial L L' kp (cK.good _ hx).str ek h1 h2 h3 q
theorem Sm (L:LX m ss ns r S B P hs σ) (cK:LK m ss ns B P K) (hm:m≤120000) (hf:far=true→m=1) (h14:ns.length=14) (ek:σ[k]?=some (.list (bxs m hs))) (ea:σ[a]?=some (.list (ns.map .str)))
  (q:∀ hs' k' σ',LX m ss ns r S B P hs' σ'→KpR B P σ σ'→σ'[k']?=some (.list (bxs m hs'))→(k'=k∨σ.length≤k')→Q (.ref k') σ'):callW P10 (d+9) 31 [.ref r,.ref k,.int c,.ref a,.int m,.bool far] σ Q X:=by
 refine AM (fn:=C3) rfl rfl ?_
 have hm':1≤m∧m≤120000:=⟨cK.hm.1,hm⟩
 refine Dr 7 (fun ρ' σ'=>σ'=σ∧∃ (c' w h way more num u l:Int) (x:Str) (t tr:Bool),x∈ns∧(1≤w∧w≤3)∧(1≤h∧h≤3)∧ρ'=[.ref r,.ref k,.int c',.ref a,.int m,.bool far,.str x,.tup [.str x,.int (w*m),.int (h*m),.bool t],.int way,.int more,.tup [.int num,.int (u*m),.int (l*m),.bool tr],.undef,.undef,.undef]) (fun R' hR'=>?_) fun ρ' σ' hI=>?_
 ·dsimp only [C3,List.take]
  wtm_at "mine"
  generalize (c*48271+11) % 2147483647=c'
  have hi:(c'*69621 % 2147483647 % 14).toNat<ns.length:=by rw [h14];exact (Int.toNat_lt (Int.emod_nonneg _ (by decide))).mpr (Int.emod_lt_of_pos _ (by decide))
  have hix:=List.getElem?_eq_getElem hi
  have hx:=List.mem_of_getElem? hix
  generalize ns[(c'*69621 % 2147483647 % 14).toNat]=x at hix hx
  refine Av (v:=.str x) ea (Int.emod_nonneg _ (by decide)) (by rw [List.getElem?_map,hix];rfl) ?_
  have hM:-1000000000000000≤m∧m≤1000000000000000:=⟨Int.le_trans (by decide) hm'.1,Int.le_trans hm (by decide)⟩
  wtm_at "mine"
  refine Am L.rk fun epB epP R=>?_
  refine AY (fun _=>?_) fun _=>?_
  ·wtm_at "mine"
   refine PrimK.lenL R.sh ?_
   refine Qi ?_
   wtm_at "mine"
   exact hR' _ _ ⟨rfl,c',_,_,_,_,_,_,_,x,_,_,hx,md3 3 (by decide),md3 3 (by decide),rfl⟩
  ·exact hR' _ _ ⟨rfl,c',_,_,_,_,_,_,_,x,_,_,hx,md3 3 (by decide),md3 3 (by decide),rfl⟩
 refine EQ hI fun ze1 c' w h way more num u l x t tr hx hw hh ze2=>?_;subst ze1;subst ze2
 dsimp only [C3,List.drop]
 refine Jc (fun hf'=>?_) fun _=>?_
 ·cases hf hf'
  have go:∀ (w h num u l:Int) (tr:Bool) (σ₂:AB),σ'<+:σ₂→(1≤w∧w≤300)→(1≤h∧h≤300)→BL (C3.body.drop 8) (callW P10 (d+8)) [.ref r,.ref k,.int c',.ref a,.int 1,.bool far,.str x,.tup [.str x,.int w,.int h,.bool t],.int way,.int more,.tup [.int num,.int u,.int l,.bool tr],.undef,.undef,.undef] σ₂ (Fu Q X):=fun w h num u l tr σ₂ p hw hh=>by
   have:=J4 (d:=d) (Q:=Q) (X:=X) (a:=a) (c':=c') (way:=way) (more:=more) (num:=num) (u:=u) (l:=l) (tr:=tr) (far:=far) (e:=⟨x,w,h,t,0,0,0,false⟩) (L.pre p) cK hx ⟨hw.1,hh.1⟩ (by rw [Int.mul_one,Int.mul_one];exact ⟨⟨hw.1,Int.le_trans hw.2 (by decide)⟩,hh.1,Int.le_trans hh.2 (by decide)⟩) (Aa p ek) fun hs' k' σ' L' kp e' hk=>q hs' k' σ' L' ((KpR.pre p).trans kp) e' (hk.imp id (Nat.le_trans (p.length_le)))
   rw [show (En.by 1 ⟨x,w,h,t,0,0,0,false⟩).box=.tup [.str x,.int (w*1),.int (h*1),.bool t] from rfl,Int.mul_one,Int.mul_one,Int.mul_one,Int.mul_one] at this
   exact this
  wtm_at "mine"
  refine KX (AF ek) AI L.E.str (fun hne=>?_) fun _=>?_
  ·wtm_at "mine"
   refine AY (fun _=>?_) fun _=>?_
   ·wtm_at "mine"
    refine TD (L.pre AH) (AF ek) hne fun num u l tr=>?_
    exact go _ _ num u l tr _ AH (md3 300 (by decide)) (md3 300 (by decide))
   ·exact go _ _ num (u*1) (l*1) tr _ AH (md3 300 (by decide)) (md3 300 (by decide))
  ·exact go _ _ num (u*1) (l*1) tr _ AH (md3 300 (by decide)) (md3 300 (by decide))
 ·exact J4 (e:=⟨x,w,h,t,0,0,0,false⟩) L cK hx ⟨hw.1,hh.1⟩ ⟨(sz3 hw hm').2,(sz3 hh hm').2⟩ ek q
end
set_option maxHeartbeats 2000000
section
variable {d:Nat} {σ σ':AB} {Q:AN} {X:Ac} {m:Int} {K:Nat} {hs:List En} {ss:List Sh} {ns:List Str} {n k a r S B P p7 p8 base:Nat} {e:En}
abbrev r1 (zs:List (Nat × Nat × List Str)):List V:=zs.map fun z=>V.ref z.1
abbrev r2 (zs:List (Nat × Nat × List Str)):List V:=zs.map fun z=>V.ref z.2.1
theorem TF:r1 (zs++[z])=r1 zs++[V.ref z.1]:=List.map_append
theorem SG:r2 (zs++[z])=r2 zs++[V.ref z.2.1]:=List.map_append
structure Cp (base p7 p8:Nat) (zs:List (Nat × Nat × List Str)) (σ:AB):Prop where
 l7:σ[p7]?=some (.list (r1 zs))
 l8:σ[p8]?=some (.list (r2 zs))
 one:∀ z∈zs,σ[z.1]?=some (.list (z.2.2.map .str))∧base≤z.1
 two:∀ z∈zs,σ[z.2.1]?=some (.list (z.2.2.map .str))∧base≤z.2.1
 str:∀ z∈zs,∀ x∈z.2.2,PyData.strOk x=true
theorem Cp.kp (c:Cp base p7 p8 zs σ) (h:∀ (x:Nat) (vs:List V),σ[x]?=some (O.list vs)→σ'[x]?=some (O.list vs)):Cp base p7 p8 zs σ':=
 ⟨h _ _ c.l7,h _ _ c.l8,fun z hz=>⟨h _ _ (c.one z hz).1,(c.one z hz).2⟩,fun z hz=>⟨h _ _ (c.two z hz).1,(c.two z hz).2⟩,c.str⟩
theorem Cp.eq (c:Cp base p7 p8 zs σ) (q:T true):CmpK σ T .Eq (.ref p7) (.ref p8):=
 TS (x:=.list (zs.map fun z=>.list (z.2.2.map .str))) (CF (m:=5) c.l7 fun z hz=>CF (m:=4) (c.one z hz).1 fun _ _=>rfl) (CF (m:=5) c.l8 fun z hz=>CF (m:=4) (c.two z hz).1 fun _ _=>rfl) (E6 fun z hz=>E6 (dat:=PyData.str) fun x hx=>c.str z hz x hx) q
theorem Cp.add (c:Cp base p7 p8 zs σ) (h7:p7<base) (h8:p8<base) (h78:p7≠p8) (e1:σ[k1]?=some (.list (xs.map .str))) (hk:base≤k1) (hb:base≤σ.length) (hx:∀ x∈xs,PyData.strOk x=true) :
  Cp base p7 p8 (zs++[(k1,(σ.set p7 (O.list (r1 zs++[V.ref k1]))).length,xs)]) (((σ.set p7 (O.list (r1 zs++[V.ref k1])))++[O.list (xs.map V.str)]).set p8 (O.list (r2 zs++[V.ref (σ.set p7 (O.list (r1 zs++[V.ref k1]))).length]))):=by
 have n7:∀ {x:Nat},base≤x→p7≠x:=fun h z=>Nat.lt_irrefl _ (Nat.lt_of_lt_of_le (z▸h7) h)
 have n8:∀ {x:Nat},base≤x→p8≠x:=fun h z=>Nat.lt_irrefl _ (Nat.lt_of_lt_of_le (z▸h8) h)
 have up:∀ {x:Nat} {o:O},base≤x→σ[x]?=some o→(((σ.set p7 (O.list (r1 zs++[V.ref k1])))++[O.list (xs.map V.str)]).set p8 (O.list (r2 zs++[V.ref (σ.set p7 (O.list (r1 zs++[V.ref k1]))).length])))[x]?=some o:=fun h e=>AG (n8 h) (AF (AG (n7 h) e))
 have hl:(σ.set p7 (O.list (r1 zs++[V.ref k1]))).length=σ.length:=List.length_set
 refine ⟨?_,?_,fun z hz=>?_,fun z hz=>?_,fun z hz=>?_⟩
 ·exact (AG (Ne.symm h78) (AF (AZ c.l7))).trans (congrArg (fun l=>some (O.list l)) (TF (z:=(k1,_,xs))).symm)
 ·exact (AZ (AF (AG h78 c.l8))).trans (congrArg (fun l=>some (O.list l)) (SG (z:=(k1,_,xs))).symm)
 ·refine (List.mem_append.mp hz).elim (fun h=>⟨up (c.one z h).2 (c.one z h).1,(c.one z h).2⟩) fun h=>?_
  cases List.mem_singleton.mp h;exact ⟨up hk e1,hk⟩
 ·refine (List.mem_append.mp hz).elim (fun h=>⟨up (c.two z h).2 (c.two z h).1,(c.two z h).2⟩) fun h=>?_
  cases List.mem_singleton.mp h;exact ⟨AG (n8 (hl▸hb)) AI,hl▸hb⟩
 ·refine (List.mem_append.mp hz).elim (fun h=>c.str z h) fun h=>?_
  cases List.mem_singleton.mp h;exact hx
theorem TabAt.ex (t:TabAt T σ ln col q):∃ o,σ[1]?=some o∧(o=.tab T∨∃ ln col m,o=.row T ln col m):=by
 cases t with
 | tab h=>exact ⟨_,h,.inl rfl⟩
 | row m h _=>exact ⟨_,h,.inr ⟨_,_,m,rfl⟩⟩
theorem LX.setL (L:LX m ss ns r S B P hs σ) (e:σ[j]?=some (.list vs)) (hj:j≠S):LX m ss ns r S B P hs (σ.set j (.list ws)):=
 ⟨Am L.rk fun x y h=>⟨x,y,h.setO e hj⟩,L.tab.set e (fun _ _ _ _=>⟨nofun,nofun⟩) nofun,L.E,L.s,L.mem,L.sz⟩
abbrev GH:AN:=fun v σ=>v=.bool true∧∃ o,σ[1]?=some o∧(o=.tab 275∨∃ ln col m,o=.row 275 ln col m)
theorem Qv {far:Bool} {xs:List Int} (L:LX m ss ns r S B P [] σ) (cK:LK m ss ns B P K) (hm:m≤120000) (hf:far=true→m=1) (h14:ns.length=14) (e0:σ[0]?=some (.list (xs.map .int))) (en:σ[n]?=some (.list ((ss.map (Sh.by m)).map Sh.v))) (ea:σ[a]?=some (.list (ns.map .str))) :
  BL (DQ.body.drop 7) (callW P10 (d+10)) [.ref 0,.int m,.bool far,.ref n,.ref a,.ref r,.undef,.undef,.undef,.undef,.undef] σ (Fu GH X):=by
 refine (?_:BL (DQ.body.drop 10) (callW P10 (d+10)) [.ref 0,.int m,.bool far,.ref n,.ref a,.ref r,.ref σ.length,.ref (σ++[O.list []]).length,.ref (σ++[O.list []]++[O.list []]).length,.undef,.undef] (σ++[O.list []]++[O.list []]++[O.list []]) (Fu GH X))
 have lo7:∀ {x:Nat} {o:O},σ[x]?=some o→x<(σ++[O.list []]).length:=fun h=>by rw [List.length_append];exact Nat.lt_succ_of_lt (List.getElem?_eq_some_iff.mp h).1
 have hS7:S<(σ++[O.list []]).length:=Am L.rk fun _ _ R=>lo7 R.sh
 have hn7:=lo7 en
 have ha7:=lo7 ea
 have L₀:LX m ss ns r S B P [] (σ++[.list []]++[.list []]++[.list []]):=((L.pre AH).pre AH).pre AH
 have e0':=AF (τ:=[O.list []]) (AF (τ:=[O.list []]) (AF (τ:=[O.list []]) e0))
 have en':=AF (τ:=[O.list []]) (AF (τ:=[O.list []]) (AF (τ:=[O.list []]) en))
 have ea':=AF (τ:=[O.list []]) (AF (τ:=[O.list []]) (AF (τ:=[O.list []]) ea))
 have c6:(σ++[O.list []]++[.list []]++[.list []])[σ.length]?=some (.list []):=AF (AF AI)
 have c7:(σ++[O.list []]++[.list []]++[.list []])[(σ++[O.list []]).length]?=some (.list []):=AF AI
 have c8:(σ++[O.list []]++[.list []]++[.list []])[(σ++[O.list []]++[O.list []]).length]?=some (.list []):=AI
 have h78:(σ++[O.list []]).length<(σ++[O.list []]++[O.list []]).length:=by rw [List.length_append (as:=σ++[O.list []])];exact Nat.lt_succ_self _
 have h8:(σ++[O.list []]++[O.list []]).length<(σ++[O.list []]++[O.list []]++[O.list []]).length:=by rw [List.length_append (as:=σ++[O.list []]++[O.list []])];exact Nat.lt_succ_self _
 have h07:(σ++[O.list []]).length≠0:=by rw [List.length_append];exact Nat.succ_ne_zero _
 have hk7:(σ++[O.list []]).length≠σ.length:=by rw [List.length_append];exact Nat.succ_ne_self _
 have hk8:(σ++[O.list []]++[O.list []]).length≠σ.length:=by rw [List.length_append,List.length_append];exact Nat.ne_of_gt (Nat.lt_succ_of_lt (Nat.lt_succ_self _))
 clear lo7
 generalize (σ++[O.list []]++[O.list []]).length=p8 at *
 generalize (σ++[O.list []]).length=p7 at *
 generalize σ.length=k0 at *
 generalize σ++[O.list []]++[O.list []]++[O.list []]=σ₁ at *
 have C₀:Cp σ₁.length p7 p8 [] σ₁:=⟨c7,c8,BP,BP,BP⟩
 dsimp only [DQ,List.drop]
 refine TK e0' fun rm hrm=>?_
 have hrm':0≤6+rm∧6+rm≤1000:=by rcases hrm with rfl | rfl <;> decide
 refine SliceK.list e0' (Em (k:=6) (by decide) (by decide)) (Em (k:=6+rm) hrm'.1 (Int.le_trans hrm'.2 (by decide))) ?_
 rw [QN]
 have hcs:(cut xs (min (6:Int).toNat (xs.map V.int).length) (min (6+rm).toNat (xs.map V.int).length)).length≤1000:=by
  unfold cut
  rw [List.length_drop,List.length_take]
  exact Nat.le_trans (Nat.sub_le _ _) (Nat.le_trans (Nat.min_le_left _ _) (Nat.le_trans (Nat.min_le_left _ _) (Int.toNat_le.mpr hrm'.2)))
 generalize cut xs _ _=cs at hcs ⊢
 have ecs:=AI (σ:=σ₁) (o:=.list (cs.map .int))
 refine Bn (fun i ρ' σ'=>∃ hs kt zs a9,LX m ss ns r S B P hs σ'∧σ'[kt]?=some (.list (bxs m hs))∧Cp σ₁.length p7 p8 zs σ'∧zs.length=i∧σ₁.length≤σ'.length∧σ'[σ₁.length]?=some (.list (cs.map .int))∧σ'[n]?=some (.list ((ss.map (Sh.by m)).map Sh.v))∧σ'[a]?=some (.list (ns.map .str))∧p7≠kt∧p8≠kt∧ρ'=[.ref 0,.int m,.bool far,.ref n,.ref a,.ref r,.ref kt,.ref p7,.ref p8,a9,.undef]) ecs ?_ (fun i v ρ' σ' R' hv hI hR=>?_) fun ρ' σ' hI=>?_
 ·exact ⟨[],k0,[],_,L₀.pre AH,AF c6,C₀.kp fun x vs h=>AF h,rfl,by rw [List.length_append];exact Nat.le_add_right _ _,ecs,AF en',AF ea',hk7,hk8,rfl⟩
 ·refine Cs hI fun hs kt zs a9 L' ek C' hz hb ecs' en'' ea'' h7 h8' ze1=>?_;subst ze1
  refine AC (List.mem_map_get hv) fun c _ ze1=>?_;subst ze1
  refine Am L'.rk fun epB epP R=>?_
  refine Dz C'.l7 ?_
  wtm_at "mine"
  refine E4 R L'.E.by L'.tab fun p k1 σ₂ kp₂ t₂ hp ho e1 hk1=>?_
  have up:∀ (x:Nat) (vs:List V),σ'[x]?=some (O.list vs)→σ₂[x]?=some (O.list vs):=fun x vs h=>kp₂ x _ (Az R L'.tab h).1 h
  have C₂:=C'.kp up
  have L₂:=L'.kpB kp₂ t₂
  have hlen:σ'.length≤σ₂.length:=L₂.len (KpR.kpB kp₂)
  have pp:(p.map fun i=>((hs.map (En.by m)).map (·.name)).getD i ("":Str)).Perm ((hs.map (En.by m)).map (·.name)):=Lm (by rw [List.length_map];exact hp)
  have hstr:∀ x∈(p.map fun i=>((hs.map (En.by m)).map (·.name)).getD i ("":Str)),PyData.strOk x=true:=fun x hx=>by
   refine AC (List.mem_map.mp (pp.mem_iff.mp hx)) fun y hy ze1=>?_;subst ze1
   exact L'.E.by.str y hy
  have e1':σ₂[k1]?=some (.list ((p.map fun i=>((hs.map (En.by m)).map (·.name)).getD i ("":Str)).map .str)):=e1.trans (congrArg (fun l=>some (O.list l)) (List.map_map (g:=V.str)).symm)
  generalize (p.map fun i=>((hs.map (En.by m)).map (·.name)).getD i ("":Str))=xs' at e1' hstr
  have hz1:zs.length<1000000:=by rw [hz];exact Nat.lt_of_lt_of_le (List.length_map V.int▸(List.getElem?_eq_some_iff.mp hv).1) (Nat.le_trans hcs (by decide))
  have h7b:p7<σ₁.length:=Nat.lt_trans h78 h8
  have hS8:p8≠S:=Nat.ne_of_gt (Nat.lt_trans hS7 h78)
  have e1s:=AG (x:=O.list (r1 zs++[V.ref k1])) (fun z=>Nat.lt_irrefl _ (Nat.lt_of_lt_of_le (z▸h7b) (Nat.le_trans hb hk1)):p7≠k1) e1'
  have l7s:(List.set σ₂ p7 (.list (r1 zs++[V.ref k1])))[p7]?=some (.list (r1 zs++[V.ref k1])):=AZ C₂.l7
  have l8s:(List.set σ₂ p7 (.list (r1 zs++[V.ref k1])))[p8]?=some (.list (r2 zs)):=AG (Nat.ne_of_lt h78) C₂.l8
  refine CI C₂.l7 h07 (by rw [List.length_map];exact hz1) ?_
  refine Dz l8s ?_
  refine SubK.list (j:=zs.length) (v:=.ref k1) l7s (.inr ⟨by rw [List.length_append,List.length_map];exact (Int.add_comm _ _).trans (Int.add_neg_cancel_right (zs.length:Int) 1),by decide⟩) (by rw [List.getElem?_append_right (by rw [List.length_map];exact Nat.le_refl _),List.length_map,Nat.sub_self];rfl) ?_
  refine PrimK.list e1s ?_
  refine CI (AF l8s) (Nat.ne_of_gt (Nat.lt_of_le_of_lt (Nat.zero_le _) h78)) (by rw [List.length_map];exact hz1) ?_
  have C₃:=C₂.add h7b h8 (Nat.ne_of_lt h78) e1' (Nat.le_trans hb hk1) (Nat.le_trans hb hlen) hstr
  have L₃:=((L₂.setL (ws:=r1 zs++[V.ref k1]) C₂.l7 (Nat.ne_of_gt hS7)).pre (AH (τ:=[O.list (xs'.map .str)]))).setL (ws:=r2 zs++[V.ref (List.set σ₂ p7 (O.list (r1 zs++[V.ref k1]))).length]) (AF l8s) hS8
  have up3:∀ {x:Nat} {o:O},p7≠x→p8≠x→σ₂[x]?=some o→(((List.set σ₂ p7 (O.list (r1 zs++[V.ref k1])))++[O.list (xs'.map V.str)]).set p8 (O.list (r2 zs++[V.ref (List.set σ₂ p7 (O.list (r1 zs++[V.ref k1]))).length])))[x]?=some o:=fun h h' e=>AG h' (AF (AG h e))
  have ek₃:=up3 h7 h8' (up _ _ ek)
  have en₃:=up3 (Nat.ne_of_gt hn7) (Nat.ne_of_gt (Nat.lt_trans hn7 h78)) (up _ _ en'')
  have ea₃:=up3 (Nat.ne_of_gt ha7) (Nat.ne_of_gt (Nat.lt_trans ha7 h78)) (up _ _ ea'')
  have hl₃:σ'.length≤(((List.set σ₂ p7 (O.list (r1 zs++[V.ref k1])))++[O.list (xs'.map V.str)]).set p8 (O.list (r2 zs++[V.ref (List.set σ₂ p7 (O.list (r1 zs++[V.ref k1]))).length]))).length:=by rw [List.length_set,List.length_append,List.length_set];exact Nat.le_trans hlen (Nat.le_add_right _ _)
  have ecs₃:σ'[σ₁.length]?=some (.list (cs.map .int))→(((List.set σ₂ p7 (O.list (r1 zs++[V.ref k1])))++[O.list (xs'.map V.str)]).set p8 (O.list (r2 zs++[V.ref (List.set σ₂ p7 (O.list (r1 zs++[V.ref k1]))).length])))[σ₁.length]?=some (.list (cs.map .int)):=fun h=>up3 (Nat.ne_of_lt h7b) (Nat.ne_of_lt h8) (up _ _ h)
  generalize (((List.set σ₂ p7 (O.list (r1 zs++[V.ref k1])))++[O.list (xs'.map V.str)]).set p8 (O.list (r2 zs++[V.ref (List.set σ₂ p7 (O.list (r1 zs++[V.ref k1]))).length])))=σ₃ at *
  generalize (List.set σ₂ p7 (O.list (r1 zs++[V.ref k1]))).length=k2 at *
  refine Sm L₃ cK hm hf h14 ek₃ ea₃ fun hs₄ k₄ σ₄ L₄ kp₄ ek₄ hk₄=>?_
  refine Am L₃.rk fun _ _ R₃=>?_
  have up4:∀ (x:Nat) (vs:List V),σ₃[x]?=some (O.list vs)→σ₄[x]?=some (O.list vs):=fun x vs h=>kp₄ x _ (Az R₃ L₃.tab h).1 (Az R₃ L₃.tab h).2.1 (Az R₃ L₃.tab h).2.2 h
  refine Am L₄.rk fun _ _ R₄=>?_
  refine Er R₄ L₄.E L₄.s L₄.tab cK.hm.1 (Nat.le_trans cK.len.2 (by decide)) (fun s hs=>(cK.sh s hs).1) (fun e he=>(L₄.sz e he).1) (up4 _ _ en₃) ek₄ fun σ₅ kp₅ t₅=>?_
  have up5:∀ (x:Nat) (vs:List V),σ₄[x]?=some (O.list vs)→σ₅[x]?=some (O.list vs):=fun x vs h=>kp₅ x _ (Az R₄ L₄.tab h).1 h
  have L₅:=L₄.kpB kp₅ t₅
  have hk:p7≠k₄∧p8≠k₄:=hk₄.elim (fun z=>z▸⟨h7,h8'⟩) fun z=>⟨Nat.ne_of_lt (Nat.lt_of_lt_of_le h7b (Nat.le_trans hb (Nat.le_trans hl₃ z))),Nat.ne_of_lt (Nat.lt_of_lt_of_le h8 (Nat.le_trans hb (Nat.le_trans hl₃ z)))⟩
  refine hR _ _ (up5 _ _ (up4 _ _ (ecs₃ ecs'))) ⟨hs₄,k₄,_,_,L₅,up5 _ _ ek₄,(C₃.kp up4).kp up5,by rw [List.length_append,hz];rfl,Nat.le_trans hb (Nat.le_trans hl₃ (Nat.le_trans (L₄.len kp₄) (L₅.len (KpR.kpB kp₅)))),up5 _ _ (up4 _ _ (ecs₃ ecs')),up5 _ _ (up4 _ _ en₃),up5 _ _ (up4 _ _ ea₃),hk.1,hk.2,rfl⟩
 ·refine Cs hI fun hs kt zs a9 L' ek C' hz hb ecs' en'' ea'' h7 h8' ze1=>?_;subst ze1
  refine C'.eq ?_
  refine Am L'.rk fun epB epP R=>?_
  refine Er R L'.E L'.s L'.tab cK.hm.1 (Nat.le_trans cK.len.2 (by decide)) (fun s hs=>(cK.sh s hs).1) (fun e he=>(L'.sz e he).1) en'' ek fun σ₃ kp₃ t₃=>?_
  exact ⟨rfl,t₃.ex⟩
end
set_option maxHeartbeats 2000000
section
variable {d:Nat} {σ σ':AB} {Q:AN} {X:Ac} {m:Int} {K:Nat} {hs:List En} {ss:List Sh} {ns:List Str} {n k r S B P epB epP:Nat} {e:En} {b:Bool}
noncomputable def B5 (r:List Int):V:=.tup (r.map .int)
theorem DI (hm:1≤m):x*m / m=x:=Int.mul_ediv_cancel _ (Int.ne_of_gt hm)
theorem LP (R:Rk 304 σ r (ss.map (Sh.by m)) (hs.map (En.by m)) S B P epB epP) (hn:(hs.map (·.name)).Nodup) (he:e∈hs) (s:Small e) (hm:1≤m∧m≤1000000) (h0:0<σ.length) (q:Q (.ref σ.length) (σ++[.list ((Al e).map B5)])):callW P10 (d+3) 34 [.ref r,.str e.name,.int m] σ Q X:=by
 refine AM (fn:=JK) rfl rfl ?_
 dsimp only [JK]
 wtm_at "mine"
 refine FM (e:=e.by m) R (by rw [A3];exact hn) (List.mem_map.mpr ⟨e,he,rfl⟩) ?_
 rw [En.by_ot]
 have hz:(1≤e.ot.w∧e.ot.w≤2)∧1≤e.ot.h∧e.ot.h≤2:=by
  refine EH s.ot (fun zt1=>Ay zt1 fun _ h1 h2=>?_) (fun zt2=>Ay zt2 fun _ h1 h2=>?_) (fun zt3=>Ay zt3 fun _ h1 h2=>?_) <;> rw [h1,h2] <;> decide
 have hD:0<m∧m≤1000000000000000:=⟨hm.1,Int.le_trans hm.2 (by decide)⟩
 have hW:0<e.ot.w*m / m∧e.ot.w*m / m≤1000000000000000:=by rw [DI hm.1];exact ⟨hz.1.1,Int.le_trans hz.1.2 (by decide)⟩
 have hW':=hW.1
 have hH:-1000000000000000≤e.ot.h*m / m∧e.ot.h*m / m≤1000000000000000:=by rw [DI hm.1];exact ⟨Int.le_trans (by decide) hz.2.1,Int.le_trans hz.2.2 (by decide)⟩
 dsimp only [Ot.by,Ot.v]
 rw [Cq.1,Cq.2]
 wtm_at "mine"
 have hb:e.ot.w*m / m*(e.ot.h*m / m)=e.ot.w*e.ot.h:=by rw [DI hm.1,DI hm.1]
 rw [hb]
 have hub:e.ot.w*e.ot.h≤4:=Int.mul_le_mul hz.1.2 hz.2.2 (Int.le_trans (by decide) hz.2.1) (by decide)
 have hlb:0≤e.ot.w*e.ot.h:=Int.mul_nonneg (Int.le_trans (by decide) hz.1.1) (Int.le_trans (by decide) hz.2.1)
 have hlen:(Al e).length=(e.ot.w*e.ot.h).toNat:=by rw [Al,List.length_map,List.length_range]
 refine D6 (fun i ρ' σ'=>σ'=σ++[.list (((Al e).take i).map B5)]∧∃ a8,ρ'=[.ref r,.str e.name,.int m,.int (e.l*m),.int (e.u*m),.int (e.ot.w*m),.int (e.ot.h*m),.ref σ.length,a8,.undef]) ⟨Int.le_trans (by decide) hlb,Int.le_trans hub (by decide)⟩ ⟨rfl,_,rfl⟩ (fun i ρ' σ' R' hi hI hR=>?_) fun ρ' σ' hI=>?_
 ·refine HS hI fun ze1 a8 ze2=>?_;subst ze1;subst ze2
  have hi':i<(Al e).length:=hlen▸Int.lt_toNat.mpr hi
  refine Dz AI ?_
  wtm_at "mine"
  refine CI AI (Nat.ne_of_gt h0) (by rw [List.length_map,List.length_take];exact Nat.lt_of_le_of_lt (Nat.min_le_left _ _) (Nat.lt_of_lt_of_le (Int.lt_toNat.mpr hi) (Nat.le_trans (Int.toNat_le.mpr hub) (by decide)))) ?_
  refine hR _ _ ⟨?_,_,rfl⟩
  have ei:(Al e)[i]?=some [e.u+(i:Int) / e.ot.w,e.l+(i:Int) % e.ot.w]:=by
   unfold Al at hi' ⊢
   rw [List.getElem?_map,List.getElem?_range (by rwa [List.length_map,List.length_range] at hi')];rfl
  rw [BY ei,List.map_append,List.set_append_right _ _ (Nat.le_refl _),Nat.sub_self,DI hm.1,DI hm.1,DI hm.1]
  rfl
 ·refine HS hI fun ze1 a8 ze2=>?_;subst ze1;subst ze2
  rw [← hlen,List.take_length]
  exact q
end
set_option maxHeartbeats 2000000
section
variable {d:Nat} {σ σ':AB} {Q:AN} {X:Ac} {m:Int} {K:Nat} {hs:List En} {ss:List Sh} {ns:List Str} {n k r S B P epB epP:Nat} {e:En} {b:Bool}
structure Tk (hs cs:List En) (us:List (List Int)) (f:List Int→Option V):Prop where
 all:∀ c,(c∈us∨∃ x∈cs,c∈Al x)→∃ y∈hs,c∈Al y∧f c=some (.str y.name)
 str:∀ c v,f c=some v→∃ y∈hs,v=.str y.name
theorem Oi (L:LX m ss ns r S B P hs σ) (sm:∀ x∈hs,Small x) (hm:1≤m∧m≤1000000) (ek:σ[k]?=some (.list (bxs m hs)))
  (q:∀ N f σ' a5 a6,Kp σ σ'→FT σ' σ.length N f→Tk hs hs [] f→Pq .next [.ref r,shv,.ref k,.int m,.ref σ.length,a5,a6,.undef,.undef,.undef,.undef,.undef] σ') :
  BL (Dc.body.take 2) (callW P10 (d+3)) [.ref r,shv,.ref k,.int m,.undef,.undef,.undef,.undef,.undef,.undef,.undef,.undef] σ Pq:=by
 dsimp only [Dc,List.take]
 refine Am L.rk fun epB epP R=>?_
 have h0:0<σ.length:=Nat.lt_of_le_of_lt (Nat.zero_le _) (List.getElem?_eq_some_iff.mp ek).1
 have nk:∀ {x:Nat} {o:O},σ[x]?=some o→σ.length≠x:=fun h z=>Nat.lt_irrefl _ (z▸(List.getElem?_eq_some_iff.mp h).1)
 have ek2:σ[k]?=some (.list (hs.map fun e=>(e.by m).box)):=by rw [ek,bxs,List.map_map];rfl
 refine Bn (fun i ρ' σ'=>Kp σ σ'∧∃ N f a5 a6,FT σ' σ.length N f∧N≤2*i∧Tk hs (hs.take i) [] f∧ρ'=[.ref r,shv,.ref k,.int m,.ref σ.length,a5,a6,.undef,.undef,.undef,.undef,.undef]) (AF ek2) ⟨At AH,0,fun _=>none,_,_,.inr ⟨rfl,0,AI⟩,Nat.le_refl _,⟨fun c h=>?_,nofun⟩,rfl⟩ (fun i v ρ' σ' R' hv hI hR=>?_) fun ρ' σ' hI=>?_
 ·refine Or.elim h (fun h=>?_) (fun zt1=>AC zt1 fun x hx _=>?_)
  ·cases h
  ·rw [List.take_zero] at hx;cases hx
 ·refine Fm hI fun kp N f a5 a6 T hN F ze1=>?_;subst ze1
  refine AC (List.mem_map_get hv) fun e he ze1=>?_;subst ze1
  have hem:=List.mem_of_getElem? he
  have hi:i<hs.length:=(List.getElem?_eq_some_iff.mp he).1
  have h0':0<σ'.length:=Nat.lt_of_le_of_lt (Nat.zero_le _) (List.getElem?_eq_some_iff.mp (kp _ _ ek)).1
  dsimp only [En.box,En.by]
  refine LP (R.keeps kp) L.E.nodup hem (sm e hem) hm h0' ?_
  have hd:∀ {N f},FT σ' σ.length N f→σ.length<σ'.length:=fun T=>by
   refine Or.elim T (fun h=>?_) (fun zt1=>HS zt1 fun _ ep h=>?_) <;> exact (List.getElem?_eq_some_iff.mp h).1
  have hlt:=hd T
  have tabApp:FT (σ'++[.list ((Al e).map B5)]) σ.length N f:=T.imp AF fun h=>⟨h.1,h.2.elim fun ep h=>⟨ep,AF h⟩⟩
  refine Bn (fun j ρ' σ''=>Kp σ σ''∧σ''[σ'.length]?=some (.list ((Al e).map B5))∧∃ N f a6,FT σ'' σ.length N f∧N≤2*i+j∧Tk hs (hs.take i) ((Al e).take j) f∧ρ'=[.ref r,shv,.ref k,.int m,.ref σ.length,(e.by m).box,a6,.undef,.undef,.undef,.undef,.undef]) AI ⟨kp.trans (At AH),AI,N,f,a6,tabApp,hN,F,rfl⟩ (fun j v ρ' σ'' R'' hv' hI hR'=>?_) fun ρ' σ'' hI=>?_
  ·refine Fj hI fun kp' eu N f a6 T hN F ze1=>?_;subst ze1
   refine AC (List.mem_map_get hv') fun c hc ze1=>?_;subst ze1
   have hcm:=List.mem_of_getElem? hc
   have hul:(Al e).length≤2:=by
    rw [FH (sm e hem)]
    refine Or.elim ((sm e hem).w) (fun w=>?_) (fun w=>?_) <;> rw [w] <;> decide
   have hj:j<2:=Nat.lt_of_lt_of_le (List.getElem?_eq_some_iff.mp hc).1 hul
   refine SetK.dictT (k:=c) T (Nat.ne_of_gt h0) (Nat.lt_of_le_of_lt hN (Nat.lt_of_lt_of_le (Nat.add_lt_add_left hj _) (Nat.le_trans (Nat.add_le_add_right (Nat.mul_le_mul_left 2 (Nat.le_of_lt (Nat.lt_trans hi L.E.len))) 2) (by decide)))) ?_
   refine hR' _ _ (AG (Nat.ne_of_lt hlt) eu) ⟨fun x o h=>AG (nk h) (kp' x o h),AG (Nat.ne_of_lt hlt) eu,N+1,fun k'=>if k'=c then some (V.str e.name) else f k',_,.inl ?_,Nat.succ_le_succ hN,⟨fun c' h=>?_,fun c' v h=>?_⟩,rfl⟩
   ·refine Or.elim T (fun h=>?_) (fun zt1=>HS zt1 fun _ ep h=>?_) <;> exact AZ h
   ·by_cases hcc:c'=c
    ·rw [if_pos hcc];exact ⟨e,hem,hcc▸hcm,rfl⟩
    ·rw [if_neg hcc]
     refine F.all c' (h.imp (fun h=>?_) id)
     rw [BY hc] at h
     exact (List.mem_append.mp h).elim id fun z=>absurd (List.mem_singleton.mp z) hcc
   ·by_cases hcc:c'=c
    ·rw [if_pos hcc] at h;exact ⟨e,hem,(Option.some.inj h).symm⟩
    ·rw [if_neg hcc] at h;exact F.str c' v h
  ·refine Fj hI fun kp' eu N f a6 T hN F ze1=>?_;subst ze1
   have hul:(Al e).length≤2:=by
    rw [FH (sm e hem)]
    refine Or.elim ((sm e hem).w) (fun w=>?_) (fun w=>?_) <;> rw [w] <;> decide
   rw [List.length_map] at hN F
   rw [List.take_length] at F
   refine hR _ _ (kp' _ _ ek2) ⟨kp',N,f,_,_,T,Nat.le_trans hN (Nat.add_le_add_left hul _),⟨fun c h=>?_,F.str⟩,rfl⟩
   refine Or.elim h (fun h=>?_) (fun zt1=>AC zt1 fun x hx hcx=>?_)
   ·cases h
   ·rw [BY he] at hx
    exact F.all c ((List.mem_append.mp hx).elim (fun z=>.inr ⟨x,z,hcx⟩) fun z=>.inl (List.mem_singleton.mp z▸hcx))
 ·refine Fm hI fun kp N f a5 a6 T hN F ze1=>?_;subst ze1
  rw [List.length_map,List.take_length] at F
  exact q N f σ' a5 a6 kp T F
theorem Q0 (e:σ[k]?=some (.list (l.map B5))) (e':σ[j]?=some (.list [])) (hl:l≠[]) (q:T false):CmpK σ T .Eq (.ref k) (.ref j):=by
 have hr:∀ {n:Nat} (r:List Int),toD σ (n+2) (B5 r)=some (.tuple (r.map PyData.int)):=fun {n} r=>by
  show ((FJ (toD σ (n+1)) (r.map V.int)).map PyData.tuple)=_
  rw [Gp (dat:=PyData.int) r fun _ _=>rfl];rfl
 have hc:∀ r:List Int,(PyData.tuple (r.map PyData.int)).canLay0=true:=fun r=>by
  have:=EY (dat:=PyData.int) r fun _ _=>rfl
  exact this
 refine .eq (x:=.list (l.map fun r=>PyData.tuple (r.map PyData.int))) (y:=.list []) (CF (m:=5) e fun r _=>hr r) (CF (m:=5) (l:=([]:List Int)) (g:=V.int) (dat:=PyData.int) e' fun _ _=>rfl) (E6 fun r _=>hc r) rfl ?_
 cases l with
 | nil=>exact absurd rfl hl
 | cons _ _=>exact q
theorem O8 (N:Nat) (f:List Int→Option V) (q:∀ ko σ',σ<+:σ'→σ'[ko]?=some (.list ((Bk b).map B5))→Pq .next [.ref r,(Sh.by m ⟨8,8,b⟩).v,.ref k,.int m,.ref kd,a5,a6,.ref ko,.undef,.undef,.undef,.undef] σ') :
  BL ((Dc.body.drop 2).take 2) (callW P10 (d+3)) [.ref r,(Sh.by m ⟨8,8,b⟩).v,.ref k,.int m,.ref kd,a5,a6,.undef,.undef,.undef,.undef,.undef] σ Pq:=by
 dsimp only [Dc,List.take,List.drop,Sh.v,Sh.by]
 refine Ka (fun i:Nat=>[(i:Int) / 8,(i:Int) % 8]) B5 (by decide) (fun i hi K hK=>?_) ?_
 ·wtm_at "mine"; exact hK
 refine Ln ?_
 cases b with
 | true=>exact q _ _ AH AI
 | false=>
  refine Ka (fun i:Nat=>[(i:Int) % 8,(i:Int) / 8]) B5 (by decide) (fun i hi K hK=>?_) ?_
  ·wtm_at "mine"; exact hK
  exact q _ _ (AH.trans AH) AI
end
set_option maxHeartbeats 2000000
section
variable {d:Nat} {σ σ':AB} {Q:AN} {X:Ac} {m:Int} {K:Nat} {hs:List En} {ss:List Sh} {ns:List Str} {n k r S B P epB epP:Nat} {e:En} {b:Bool}
theorem ID (T:FT σ n N f) (p:σ<+:σ'):FT σ' n N f:=T.imp (Aa p) fun h=>⟨h.1,h.2.elim fun ep h=>⟨ep,Aa p h⟩⟩
theorem P6 (s:Snd (sh8 b) hs) (str:∀ e∈hs,PyData.strOk e.name=true) (sm:∀ x∈hs,Small x) (he:e∈hs) (fo:FirstOf (sh8 b) hs e e) (T:FT σ kd N f) (F:Tk hs hs [] f) (eu:σ[ku]?=some (.list ((Al e).map B5)))
  (hu:0≤u∧u<8) (hl:0≤l) (hlt:Ep (psK b (u,l)) (psK b (e.u,e.l))) (q:∀ a10 σ',σ<+:σ'→Rp [.ref r,shv,.ref k,.int m,.ref kd,(e.by m).box,a6,.ref ko,.ref ku,B5 [u,l],a10,.undef] σ') :
  Fh (callW P10 (d+3)) (.var 9) [AP (.var 10) (DO (A4 [(AA 9),(BF [(AL (AA 9) (AD 0)),(AJ .add (AL (AA 9) (AD 1)) (AD 1))])]) none (some (Ax .len [(AA 8)]))),sIf (AU (BA (AA 11) 11 .plain [(AA 10)] [(tOr [(AU (AL (AA 11) (AD 1)) [.Gt] [(AD 7)]),(AU (Q3 (AA 4) (AA 11) (AL (AA 5) (AD 0))) [.NotEq] [(AL (AA 5) (AD 0))])])]) [.Eq] [(A4 [])]) [AW (BU false)] []]
   (B5 [u,l]) [.ref r,shv,.ref k,.int m,.ref kd,(e.by m).box,a6,.ref ko,.ref ku,a10',a10,.undef] σ (Df Rp Pq):=by
 classical
 have hul:(Al e).length=1∧e.w=1∨(Al e).length=2∧e.w=2:=by
  rw [FH (sm e he)]
  refine Or.elim ((sm e he).w) (fun w=>?_) (fun w=>?_)
  ·rw [w];exact .inl ⟨rfl,rfl⟩
  ·rw [w];exact .inr ⟨rfl,rfl⟩
 have ebs:∃ bs:List (List Int),cut [B5 [u,l],B5 [u,l+1]] 0 (min ((Al e).length:Int).toNat 2)=bs.map B5∧(∀ c∈bs,∃ x,c=[u,x])∧[u,l]∈bs∧(e.w=2→[u,l+1]∈bs)∧bs.length≤2:=by
  rcases hul with ⟨h1,h2⟩ | ⟨h1,h2⟩
  ·rw [h1];exact ⟨[[u,l]],rfl,fun c hc=>⟨l,List.mem_singleton.mp hc⟩,List.mem_cons_self,fun z=>absurd (h2.symm.trans z) (by decide),Nat.le_succ 1⟩
  ·rw [h1];exact ⟨[[u,l],[u,l+1]],rfl,fun c hc=>(List.mem_cons.mp hc).elim (fun z=>⟨l,z⟩) fun z=>⟨l+1,List.mem_singleton.mp z⟩,List.mem_cons_self,fun _=>List.mem_cons_of_mem _ List.mem_cons_self,Nat.le_refl _⟩
 refine Bu ebs fun bs ebs hbs hb1 hb2 hbl=>?_
 dsimp only [B5,List.map,En.box,En.by] at ebs ⊢
 refine PrimK.lenL (AF eu) ?_
 rw [List.length_map]
 refine OH AI (Int.natCast_nonneg _) (by refine Or.elim hul (fun h=>?_) (fun h=>?_) <;> rw [h.1] <;> decide) ?_
 rw [show (min ((Al e).length:Int).toNat [V.tup [V.int u,V.int l],V.tup [V.int u,V.int (l+1)]].length)=min ((Al e).length:Int).toNat 2 from rfl,ebs]
 refine E7 (g:=B5) (fun c:List Int=>decide (7<c.getD 1 0∨(f c).getD (.str e.name)≠.str e.name)) AI (Nat.le_trans hbl (by decide)) (fun c hc K h1 h2=>?_) ?_
 ·refine AQ (hbs c hc) fun x ze1=>?_;subst ze1
  have h1':(7<x∨(f [u,x]).getD (.str e.name)≠.str e.name)→K (some (B5 [u,x])) _:=fun h=>h1 (decide_eq_true h)
  have h2':¬ (7<x∨(f [u,x]).getD (.str e.name)≠.str e.name)→K none _:=fun h=>h2 (decide_eq_false h)
  dsimp only [B5,List.map] at h1' ⊢
  refine AY (fun h=>?_) fun h=>?_
  ·exact h1' (.inl h)
  ·have T':=ID T (AH.trans (AH (σ:=σ++[O.list [V.tup [V.int u,V.int l],V.tup [V.int u,V.int (l+1)]]]) (τ:=[O.list (bs.map B5)])))
   refine ⟨⟨kd,N,f,rfl,T'⟩,?_⟩
   refine GetK.mk (k:=[u,x]) T' ?_
   cases hf:f [u,x] with
   | none=>
    rw [hf] at h2'
    exact Gk (str e he) (str e he) (fun z=>absurd rfl z) fun _=>h2' fun z=>z.elim (fun z=>h z) fun z=>z rfl
   | some v=>
    refine AC (F.str _ _ hf) fun y hy ze1=>?_;subst ze1
    rw [hf] at h1' h2'
    exact Gk (str y hy) (str e he) (fun z=>h1' (.inr fun w=>z (by injection w))) fun z=>h2' fun w=>w.elim (fun w=>h w) fun w=>w (congrArg V.str z)
 refine Q0 (AF AI) AI (fun z=>?_) ?_
 ·have no:∀ x,[u,x]∈bs→x≤7∧(f [u,x]).getD (.str e.name)=.str e.name:=fun x hx=>by
   have:=List.filter_eq_nil_iff.mp z _ hx
   rw [decide_eq_true_iff] at this
   exact ⟨Int.not_lt.mp fun w=>this (.inl w),Classical.byContradiction fun w=>this (.inr w)⟩
  exact ON s sm he fo (fun x hx c hc=>F.all c (.inr ⟨x,hx,hc⟩)) hu hl hlt (no l hb1) fun w=>no (l+1) (hb2 w)
 ·exact q _ _ (((AH.trans AH).trans AH).trans AH)
theorem ME (L:LX m (sh8 b) ns r S B P hs σ) (sm:∀ x∈hs,Small x) (fo:∀ e∈hs,FirstOf (sh8 b) hs e e) (hm:1≤m∧m≤1000000) (ek:σ[k]?=some (.list (bxs m hs))) (q:∀ σ',Kp σ σ'→Q (.bool true) σ') :
  callW P10 (d+4) 35 [.ref r,(Sh.by m ⟨8,8,b⟩).v,.ref k,.int m] σ Q X:=by
 refine AM (fn:=Dc) rfl rfl ?_
 refine Dr 2 (fun ρ' σ'=>Kp σ σ'∧∃ N f a5 a6,FT σ' σ.length N f∧Tk hs hs [] f∧ρ'=[.ref r,(Sh.by m ⟨8,8,b⟩).v,.ref k,.int m,.ref σ.length,a5,a6,.undef,.undef,.undef,.undef,.undef]) (fun R' hR'=>?_) fun ρ' σ₁ hI=>?_
 ·exact Oi L sm hm ek fun N f σ' a5 a6 kp T F=>hR' _ _ ⟨kp,N,f,a5,a6,T,F,rfl⟩
 refine KO hI fun kp₁ N f a5 a6 T₁ F ze1=>?_;subst ze1
 refine Dr 2 (fun ρ' σ'=>σ₁<+:σ'∧∃ ko,σ'[ko]?=some (.list ((Bk b).map B5))∧ρ'=[.ref r,(Sh.by m ⟨8,8,b⟩).v,.ref k,.int m,.ref σ.length,a5,a6,.ref ko,.undef,.undef,.undef,.undef]) (fun R' hR'=>?_) fun ρ' σ₂ hI=>?_
 ·exact O8 N f fun ko σ' p e=>hR' _ _ ⟨p,ko,e,rfl⟩
 refine CM hI fun p₂ ko eo ze1=>?_;subst ze1
 refine Am L.rk fun epB epP R=>?_
 have R₂:=(R.keeps kp₁).keeps (At p₂)
 have ek2:σ₂[k]?=some (.list (hs.map fun e=>(e.by m).box)):=by rw [Aa p₂ (kp₁ _ _ ek),bxs,List.map_map];rfl
 have T₂:=ID T₁ p₂
 dsimp only [Dc,List.drop]
 refine Bn (fun i ρ' σ'=>σ₂<+:σ'∧∃ a5 a8 a9 a10,ρ'=[.ref r,(Sh.by m ⟨8,8,b⟩).v,.ref k,.int m,.ref σ.length,a5,a6,.ref ko,a8,a9,a10,.undef]) ek2 ⟨List.prefix_refl _,_,_,_,_,rfl⟩ (fun i v ρ' σ' R' hv hI hR=>?_) fun ρ' σ' hI=>?_
 ·refine Ey hI fun p a5 a8 a9 a10 ze1=>?_;subst ze1
  refine AC (List.mem_map_get hv) fun e he ze1=>?_;subst ze1
  have hem:=List.mem_of_getElem? he
  have eo':=Aa p eo
  have h0':0<σ'.length:=Nat.lt_of_le_of_lt (Nat.zero_le _) (List.getElem?_eq_some_iff.mp eo').1
  refine BH (RG L.s hem) fun j hj ej hno ps=>?_
  have oa:=AF (τ:=[O.list ((Al e).map B5)]) eo'
  refine LP (e:=e) (R₂.keeps (At p)) L.E.nodup hem (sm e hem) hm h0' ?_
  refine Dz oa ?_
  refine Av (v:=B5 [e.u,e.l]) (k:=0) AI (by decide) (by rw [List.getElem?_map,show (0:Int).toNat=0 from rfl,KS (sm e hem)];rfl) ?_
  refine IdxK.mk (rs:=Bk b) (k:=[e.u,e.l]) oa ej hno ?_
  refine OH oa (Int.natCast_nonneg j) (Int.le_trans (Int.ofNat_le.mpr (Nat.le_of_lt hj)) (by decide)) ?_
  have ec:cut ((Bk b).map B5) 0 (min (j:Int).toNat ((Bk b).map B5).length)=((Bk b).take j).map B5:=by
   rw [List.length_map,show (Bk b).length=64 by rw [Bk,List.length_map,List.length_range],Int.toNat_natCast,Nat.min_eq_left (Nat.le_of_lt hj),cut,List.map_take];rfl
  rw [ec]
  refine Bn (fun j' ρ' σ''=>σ'++[.list ((Al e).map B5)]++[.list (((Bk b).take j).map B5)]<+:σ''∧∃ a9 a10,ρ'=[.ref r,(Sh.by m ⟨8,8,b⟩).v,.ref k,.int m,.ref σ.length,(e.by m).box,a6,.ref ko,.ref σ'.length,a9,a10,.undef]) AI ⟨List.prefix_refl _,_,_,rfl⟩ (fun j' v ρ' σ'' R'' hv' hI hR'=>?_) fun ρ' σ'' hI=>?_
  ·refine N9 hI fun p' a9 a10 ze1=>?_;subst ze1
   refine AC (List.mem_map_get hv') fun c hc ze1=>?_;subst ze1
   have hj':j'<j:=by
    have:=(List.getElem?_eq_some_iff.mp hc).1
    rw [List.length_take] at this;exact Nat.lt_of_lt_of_le this (Nat.min_le_left _ _)
   rw [List.getElem?_take_of_lt hj'] at hc
   refine BN (KY (b:=b) (Nat.lt_trans hj' hj)) fun u l e1 e2 hu hl=>?_
   cases e1.symm.trans hc
   refine P6 L.s L.E.str sm hem (fo e hem) (ID T₂ (p.trans ((AH.trans AH).trans p'))) F (Aa p' (AF AI)) hu hl (TV e2 ps hj') fun a10 σ₃ p₃=>?_
   exact hR' _ _ (Aa (p'.trans p₃) AI) ⟨p'.trans p₃,_,_,rfl⟩
  ·refine N9 hI fun p' a9 a10 ze1=>?_;subst ze1
   exact hR _ _ (Aa (p.trans ((AH.trans AH).trans p')) ek2) ⟨p.trans ((AH.trans AH).trans p'),_,_,_,_,rfl⟩
 ·refine Ey hI fun p a5 a8 a9 a10 ze1=>?_;subst ze1
  exact q _ fun x o h=>Aa p (Aa p₂ (kp₁ x o h))
end
set_option maxHeartbeats 2000000
section
variable {d:Nat} {σ σ':AB} {Q:AN} {X:Ac} {m:Int} {K:Nat} {hs:List En} {ss:List Sh} {ns:List Str} {n k r S B P epB epP:Nat} {e:En} {b:Bool}
theorem HJ (e:σ[n]?=some (.list (shs.map Sh.v))) (hl:1≤shs.length∧shs.length≤9) (hs:∀ s∈shs,Ao s.W∧Ao s.H) (q:∀ σ' S B P,Kp σ σ'→Rk 304 σ' (σ.length+1) shs [] S B P 0 0→B≠P→σ.length≤S→σ.length≤B→σ.length≤P→Q .none σ') :
  callW P10 (d+2) 38 [.ref (σ.length+1),.ref n] (σ++[.ns [],.inst 304 σ.length]) Q X:=by
 have ex:shs.map Sh.v=(shs.map Sh.x).map Shx.v:=by rw [List.map_map];rfl
 have h0:0<σ.length:=by have:=(List.getElem?_eq_some_iff.mp e).1;exact an2 .lt .n0 .v0 (.t .v1 .v0 .e) rfl this
 have em:(σ++[O.ns [],O.inst 304 σ.length])[σ.length]?=some (.ns []):=by rw [List.getElem?_append_right (Nat.le_refl _),Nat.sub_self];rfl
 have er:(σ++[O.ns [],O.inst 304 σ.length])[σ.length+1]?=some (.inst 304 σ.length):=by rw [List.getElem?_append_right (Nat.le_add_right _ _),Nat.add_sub_cancel_left];rfl
 have fit:Fit (shs.map Sh.x):=⟨by rw [List.length_map];exact hl,fun x hx=>by
  refine AC (List.mem_map.mp hx) fun s hs' ze1=>?_;subst ze1
  exact ⟨(hs s hs').1,(hs s hs').2,by unfold Sh.x;cases s.b;exact .inr rfl;exact .inl rfl⟩⟩
 rw [ex] at e
 refine Tt (AF e) (fun x hx=>by refine AC (List.mem_map.mp hx) fun s _ ze1=>?_;subst ze1;exact UI) er em (by exact fun z0=>am1 (.q .v0 .n0 (.t .n0 .v0 .e)) rfl z0 h0) (by rw [List.length_map];exact an1 .le .v0 (.n 1000) (.l .v0 (.n 9) .e) rfl hl.2) (fun _ σ' S B P kp eN eS eB eP hBP hS hB hP=>?_) fun z=>absurd fit z
 rw [← ex] at eS
 rw [List.length_append] at hS hB hP
 exact q σ' S B P (fun x o h=>kp x o (Nat.ne_of_lt (List.getElem?_eq_some_iff.mp h).1) (AF h)) ⟨⟨σ.length,kp _ _ (by exact fun z0=>am1 (.q (.a .v0 .n1) .v0 .e) rfl z0) er,eN⟩,eS,eB,eP⟩ hBP (by exact an3 .le .v0 .v1 (.l (.a .v0 .v2) .v1 .e) rfl hS) (by exact an3 .le .v0 .v1 (.l (.a .v0 .v2) .v1 .e) rfl hB) (by exact an3 .le .v0 .v1 (.l (.a .v0 .v2) .v1 .e) rfl hP)
noncomputable abbrev nsC (n:Nat):List Str:=(List.range n).map bn
theorem LK.crowd (hm:1≤m∧m≤120000) (h30:many≤30) (hB:B≠0) (hP:P≠0) (hBP:B≠P):LK m (sh8 b) (nsC many) B P 8 where
 hm:=⟨hm.1,Int.le_trans hm.2 (by decide)⟩
 len:=(by decide:1≤1∧1≤9)
 sh s hs:=by
  cases List.mem_singleton.mp hs
  have:Ao (8*m):=⟨Int.le_trans hm.1 (Int.le_trans (Int.le_of_eq (Int.one_mul m).symm) (Int.mul_le_mul_of_nonneg_right (by decide) (Int.le_trans (by decide) hm.1))),Int.le_trans (Int.mul_le_mul_of_nonneg_left hm.2 (by decide)) (by decide)⟩
  exact ⟨this,this⟩
 k s hs:=by cases List.mem_singleton.mp hs;unfold shP;cases b <;> decide
 big:=by
  have hl:(nsC many).length≤30:=by rw [List.length_map,List.length_range];exact h30
  exact Nat.le_trans (Gx hl (Nat.le_refl _)) (by show Cz 30 1 8*30≤16000000;decide)
 n30:=by rw [List.length_map,List.length_range];exact h30
 good x hx:=by
  refine AC (List.mem_map.mp hx) fun j hj ze1=>?_;subst ze1
  exact II (Nat.lt_of_lt_of_le (List.mem_range.mp hj) h30)
 b0:=hB
 p0:=hP
 bp:=hBP
structure CS (m:Int) (b:Bool) (many cc i r S B P k:Nat) (hs:List En) (σ:AB):Prop where
 L:LX m (sh8 b) (nsC many) r S B P hs σ
 c:Crowd cc i hs
 ek:σ[k]?=some (.list (bxs m hs))
theorem RA (hw:w=e.w*m) (hh:h=e.h*m) (L:LX m ss ns r S B P hs σ) (c:LK m ss ns B P K) (hx:e.name∈ns) (hz:0<e.w∧0<e.h) (hz':Ao (e.w*m)∧Ao (e.h*m)) (h1:e.name∉hs.map (·.name)) (h2:∃ q:Qp,Ok ss hs none (BG ss e q))
  (q:∀ e' σ',e'=e.to e'.n e'.u e'.l e'.r→LX m ss ns r S B P (hs++[e']) σ'→KpR B P σ σ'→Q (e'.by m).pl σ'):callW P10 (d+6) 42 [.ref r,.str e.name,.int w,.int h,.bool e.t] σ Q X:=by
 rw [hw,hh]
 exact Pg L c hx hz hz' (fun e' σ' he _ _ L' kp=>q e' σ' he L' kp) (fun z=>absurd z h1) fun _ z=>h2.elim fun qq ok=>absurd ok (z qq)
theorem Nz (hm:1≤m∧m≤120000) (t:σ[1]?=some (.tab 275))
  (q:∀ (b:Bool) (many cc r S B P k:Nat) hs σ' a6 a7,22≤many→many≤30→LK m (sh8 b) (nsC many) B P 8→k≠S→k≠0→CS m b many cc many r S B P k hs σ'→Pq .next [.int c,.int m,(Sh.by m ⟨8,8,b⟩).v,.int many,.ref r,.ref k,a6,a7,.undef,.undef,.undef,.undef,.undef,.undef] σ') :
  BL (By.body.take 5) (callW P10 (d+6)) [.int c,.int m,.undef,.undef,.undef,.undef,.undef,.undef,.undef,.undef,.undef,.undef,.undef,.undef] σ Pq:=by
 dsimp only [By,List.take]
 have hM:-1000000000000000≤m∧m≤1000000000000000:=⟨Int.le_trans (by decide) hm.1,Int.le_trans hm.2 (by decide)⟩
 wtm_at "mine"
 refine Kt AI ⟨Int.emod_nonneg _ (by decide),Int.emod_lt_of_pos _ (by decide)⟩ fun b=>?_
 wtm_at "mine"
 obtain ⟨many,em,h22,h30⟩:∃ many:Nat,22+c / 2 % 9=(many:Int)∧22≤many∧many≤30:=by
  have h1:=Int.emod_nonneg (c / 2) (b:=9) (by decide)
  have h2:=Int.emod_lt_of_pos (c / 2) (b:=9) (by decide)
  exact ⟨(22+c / 2 % 9).toNat,(Int.toNat_of_nonneg (Int.add_nonneg (by decide) h1)).symm,(Int.le_toNat (Int.add_nonneg (by decide) h1)).mpr (Int.le_add_of_nonneg_right h1),Int.toNat_le.mpr (Int.add_le_add_left (Int.le_of_lt_add_one (show c / 2 % 9<8+1 from h2)) 22)⟩
 refine (?_:BL ((By.body.drop 2).take 3) (callW P10 (d+6)) [.int c,.int m,.tup [.int (8*m),.int (8*m),hab b],.int (22+c / 2 % 9),.undef,.undef,.undef,.undef,.undef,.undef,.undef,.undef,.undef,.undef] _ Pq)
 rw [em]
 have t₁:=AF (τ:=[O.list [V.str (Str.ofString "low"),V.str (Str.ofString "left")]]) t
 generalize σ++[O.list [V.str (Str.ofString "low"),V.str (Str.ofString "left")]]=σ₁ at *
 dsimp only [By,List.take,List.drop]
 have t₂:=AF (τ:=[O.list [V.tup [V.int (8*m),V.int (8*m),hab b]]]) t₁
 have e₂:(σ₁++[O.list [V.tup [V.int (8*m),V.int (8*m),hab b]]])[σ₁.length]?=some (.list (((sh8 b).map (Sh.by m)).map Sh.v)):=AI
 have hh1:=(List.getElem?_eq_some_iff.mp t₂).1
 have c0:=LK.crowd (b:=b) (B:=2) (P:=1) hm h30 (by decide) (by decide) (by decide)
 refine HJ (shs:=(sh8 b).map (Sh.by m)) e₂ (by rw [List.length_map];exact c0.len) (fun s hs=>AC (List.mem_map.mp hs) fun y hy ze=>ze▸c0.sh y hy) fun σ₃ S B P kp₃ R₃ hBP hS hB hP=>⟨rfl,?_⟩
 have cK:=LK.crowd (b:=b) hm h30 (Nat.ne_of_gt (Nat.lt_of_lt_of_le (Nat.zero_lt_of_lt hh1) hB)) (Nat.ne_of_gt (Nat.lt_of_lt_of_le (Nat.zero_lt_of_lt hh1) hP)) hBP
 generalize (σ₁++[O.list [V.tup [V.int (8*m),V.int (8*m),hab b]]]).length+1=r at *
 have L₀:LX m (sh8 b) (nsC many) r S B P [] (σ₃++[.list []]):=⟨⟨0,0,R₃.keeps (At AH)⟩,.tab (AF (kp₃ _ _ t₂)),⟨List.nodup_nil,BP,BP,by decide⟩,⟨BP,List.Pairwise.nil,BP⟩,BP,BP⟩
 have hkS:σ₃.length≠S:=Nat.ne_of_gt (List.getElem?_eq_some_iff.mp R₃.sh).1
 have hk0:σ₃.length≠0:=Nat.ne_of_gt (Nat.lt_of_le_of_lt (Nat.zero_le _) (List.getElem?_eq_some_iff.mp R₃.sh).1)
 have hmany:(0:Int)<(many:Int):=Int.ofNat_lt.mpr (Nat.lt_of_lt_of_le (by decide) h22)
 have hdr:0≤c / 18 % (many:Int):=Int.emod_nonneg _ (Int.ne_of_gt hmany)
 refine D6 (fun i ρ' σ'=>∃ hs a6 a7,CS m b many (c / 18 % (many:Int)).toNat i r S B P σ₃.length hs σ'∧ρ'=[.int c,.int m,.tup [.int (8*m),.int (8*m),hab b],.int many,.ref r,.ref σ₃.length,a6,a7,.undef,.undef,.undef,.undef,.undef,.undef]) ⟨Int.le_trans (by decide) (Int.le_of_lt hmany),Int.le_trans (Int.ofNat_le.mpr h30) (by decide)⟩ ⟨[],_,_,⟨L₀,⟨rfl,nofun⟩,AI⟩,rfl⟩ (fun i ρ' σ' R' hi hI hR=>?_) fun ρ' σ' hI=>?_
 ·refine Cu hI fun hs a6 a7 C ze1=>?_;subst ze1
  refine Am C.L.rk fun _ _ R=>?_
  have hi':i<many:=Int.ofNat_lt.mp hi
  have hi30:i<30:=Nat.lt_of_lt_of_le hi' h30
  refine PrimK.str (Co (Int.le_trans (by decide) (Int.natCast_nonneg i)) (Int.le_trans (Int.ofNat_le.mpr (Nat.le_of_lt hi30)) (by decide))) ?_
  have hlen:(Str.ofString "b").length+(Str.ofString (toString (i:Int))).length≤Ag:=by
   have:=(II hi30).len
   rw [bn,Bd,DF,List.length_append,← Bd,← Bd] at this
   exact Nat.le_trans this (by decide)
  refine BinK.addS hlen ?_
  wtm_at "mine"
  have ew:1+b2i (decide ((i:Int)=c / 18 % (many:Int)))=if i=(c / 18 % (many:Int)).toNat then 2 else 1:=by
   by_cases h:(i:Int)=c / 18 % (many:Int)
   ·rw [decide_eq_true h,if_pos (by rw [← h];rfl)];rfl
   ·rw [decide_eq_false h,if_neg fun z=>h (by rw [z];exact Int.toNat_of_nonneg hdr)];rfl
  wtm_at "mine"
  generalize 1+b2i (decide ((i:Int)=c / 18 % (many:Int)))=w at ew ⊢
  have hw:w=1∨w=2:=by
   rw [ew];by_cases h:i=(c / 18 % (many:Int)).toNat
   ·rw [if_pos h];exact .inr rfl
   ·rw [if_neg h];exact .inl rfl
  have w3:1≤w∧w≤3:=by refine Or.elim hw (fun h=>?_) (fun h=>?_) <;> rw [h] <;> decide
  refine RA (e:=⟨bn i,w,1,decide ((i:Int) % 2=0),0,0,0,false⟩) rfl (Int.one_mul m).symm C.L cK (List.mem_map.mpr ⟨i,List.mem_range.mpr hi',rfl⟩) ⟨w3.1,Int.one_pos⟩ ⟨(sz3 w3 hm).2,(sz3 (y:=1) (by decide) hm).2⟩ (C.c.new hi30) (UU C.L.s C.c.small ⟨rfl,hw⟩ (by rw [C.c.len];exact Nat.lt_of_le_of_lt (Nat.add_le_add (Nat.le_of_lt_succ hi30) (C.c.one C.L.E.nodup)) (by decide))) fun e' σ₄ he L₄ kp₄=>?_
  have nk:=Az R C.L.tab C.ek
  have ek₄:=kp₄ _ _ nk.1 nk.2.1 nk.2.2 C.ek
  have tn:=Rs he
  refine Dz ek₄ ?_
  refine CI ek₄ hk0 (by rw [List.length_map,List.length_map,C.c.len];exact Nat.lt_trans hi30 (by decide)) ?_
  refine hR _ _ ⟨hs++[e'],_,_,⟨L₄.setL ek₄ hkS,C.c.add ⟨tn.1,tn.2.1.trans ew,tn.2.2.1⟩,?_⟩,rfl⟩
  have eb:(e'.by m).box=.tup [.str (bn i),.int (w*m),.int m,.bool (decide ((i:Int) % 2=0))]:=by
   show V.tup [.str e'.name,.int (e'.w*m),.int (e'.h*m),.bool e'.t]=_
   rw [tn.1,tn.2.1,tn.2.2.1,tn.2.2.2,Int.one_mul]
  rw [AZ ek₄,bxs,bxs,List.map_append,List.map_append,List.map_cons,List.map_cons,eb];rfl
 ·refine Cu hI fun hs a6 a7 C ze1=>?_;subst ze1
  rw [Int.toNat_natCast] at C
  exact q b many _ r S B P _ hs σ' _ _ h22 h30 cK hkS hk0 C
end
set_option maxHeartbeats 2000000
section
variable {d:Nat} {σ σ':AB} {Q:AN} {X:Ac} {m:Int} {K:Nat} {hs:List En} {ss:List Sh} {ns:List Str} {n k r S B P epB epP:Nat} {e:En} {b:Bool}
theorem Nv (hm:0<m) (C:CS m b many cc many r S B P k hs σ)
  (q:∀ a8 a9 a10 a11 a12 σ',KpB 1 σ σ'→TabAt 275 σ' 176 39 C0→Pq .next [.int c,.int m,(Sh.by m ⟨8,8,b⟩).v,.int many,.ref r,.ref k,a6,a7,a8,a9,a10,a11,a12,.undef] σ') :
  BL ((By.body.drop 5).take 2) (callW P10 (d+6)) [.int c,.int m,(Sh.by m ⟨8,8,b⟩).v,.int many,.ref r,.ref k,a6,a7,.undef,.undef,.undef,.undef,.undef,.undef] σ Pq:=by
 refine Am C.L.rk fun epB epP R=>?_
 dsimp only [By,List.take,List.drop,Sh.v,Sh.by]
 wtm_at "mine"
 refine E4 R C.L.E.by C.L.tab fun p k1 σ₁ kp₁ t₁ hp ho e1 hk1=>?_
 rw [List.length_map] at hp
 have R₁:=R.keepsB C.L.tab kp₁
 have hpl:∀ i∈p,i<hs.length:=fun i hi=>List.mem_range.mp (hp.mem_iff.mp hi)
 have ho':=Jz hm hpl ho
 have hnd:((hs.map (En.by m)).map (·.name)).Nodup:=by rw [A3];exact C.L.E.nodup
 refine Bn (fun i ρ' σ'=>σ₁<+:σ'∧∃ (n0 u0 l0:Int) (r0:Bool) (a9 a10 a11 a12:V),(∀ j pj y,i≤j→p[j]?=some pj→hs[pj]?=some y→Ep (psK b (u0,l0)) (psK b (y.u*m,y.l*m)))∧ρ'=[.int c,.int m,.tup [.int (8*m),.int (8*m),hab b],.int many,.ref r,.ref k,a6,a7,.tup [.int n0,.int u0,.int l0,.bool r0],a9,a10,a11,a12,.undef]) e1 ⟨List.prefix_refl _,0,-1,-1,false,_,_,_,_,fun j pj y _ _ hy=>?_,rfl⟩ (fun i v ρ' σ' R' hv hI hR=>?_) fun ρ' σ' hI=>?_
 ·have pos:=C.L.s.pos (List.mem_of_getElem? hy)
  have h1:-1<y.u*m:=Int.lt_of_lt_of_le (by decide) (Int.mul_nonneg pos.1 (Int.le_of_lt hm))
  have h2:-1<y.l*m:=Int.lt_of_lt_of_le (by decide) (Int.mul_nonneg pos.2 (Int.le_of_lt hm))
  cases b with
  | true=>exact .inl h1
  | false=>exact .inl h2
 ·refine EE hI fun p' n0 u0 l0 r0 a9 a10 a11 a12 hlt ze1=>?_;subst ze1
  refine AC (List.mem_map_get hv) fun pi hpi ze1=>?_;subst ze1
  have hil:=hpl pi (List.mem_of_getElem? hpi)
  have ey:=List.getElem?_eq_getElem hil
  have enm:((hs.map (En.by m)).map (·.name)).getD pi ("":Str)=hs[pi].name:=by rw [A3,List.getD_eq_getElem?_getD,List.getElem?_map,ey];rfl
  rw [enm]
  have hym:=List.mem_of_getElem? ey
  have hl1:=hlt i pi _ (Nat.le_refl _) hpi ey
  have hnx:∀ j pj y,i+1≤j→p[j]?=some pj→hs[pj]?=some y→Ep (psK b (hs[pi].u*m,hs[pi].l*m)) (psK b (y.u*m,y.l*m)):=fun j pj y hj hpj hy=>Sw C.L.s hp ho' hm hj hpi hpj ey hy
  generalize hs[pi]=y at *
  have Rn:=R₁.keeps (At p')
  wtm_at "mine"
  refine I4 (e:=y.by m) Rn hnd (List.mem_map.mpr ⟨y,hym,rfl⟩) ?_
  dsimp only [En.pl,En.by]
  have fin:∀ σ₂ a11 a12,σ'<+:σ₂→R' [.int c,.int m,.tup [.int (8*m),.int (8*m),hab b],.int many,.ref r,.ref k,a6,a7,.tup [.int y.n,.int (y.u*m),.int (y.l*m),.bool y.r],.str y.name,.tup [.int y.n,.int (y.u*m),.int (y.l*m),.bool y.r],a11,a12,.undef] σ₂:=fun σ₂ a11 a12 p₂=>hR _ _ (Aa (p'.trans p₂) e1) ⟨p'.trans p₂,_,_,_,_,_,_,_,_,hnx,rfl⟩
  refine Ln ?_
  cases b with
  | true=>
   have h:u0<y.u*m∨(u0=y.u*m∧l0<y.l*m):=hl1
   wtm_at "mine"
   refine AY (fun z=>?_) fun _=>?_
   ·exact (h.elim (fun w=>Int.lt_asymm w z) fun w=>Int.lt_irrefl _ (w.1▸z)).elim
   ·wtm_at "mine"
    refine AY (fun z=>?_) fun _=>?_
    ·wtm_at "mine"
     refine AY (fun z'=>?_) fun _=>?_
     ·exact (h.elim (fun w=>Int.lt_irrefl _ (z▸w)) fun w=>Int.not_lt.mpr z' w.2).elim
     ·exact fin _ _ _ (AH.trans AH)
    ·exact fin _ _ _ (AH.trans AH)
  | false=>
   have h:l0<y.l*m∨(l0=y.l*m∧u0<y.u*m):=hl1
   wtm_at "mine"
   refine AY (fun z=>?_) fun _=>?_
   ·exact (h.elim (fun w=>Int.lt_asymm w z) fun w=>Int.lt_irrefl _ (w.1▸z)).elim
   ·wtm_at "mine"
    refine AY (fun z=>?_) fun _=>?_
    ·wtm_at "mine"
     refine AY (fun z'=>?_) fun _=>?_
     ·exact (h.elim (fun w=>Int.lt_irrefl _ (z▸w)) fun w=>Int.not_lt.mpr z' w.2).elim
     ·exact fin _ _ _ (AH.trans (AH.trans (AH.trans AH)))
    ·exact fin _ _ _ (AH.trans (AH.trans (AH.trans AH)))
 ·refine EE hI fun p' n0 u0 l0 r0 a9 a10 a11 a12 hlt ze1=>?_;subst ze1
  exact q _ _ _ _ _ σ' (fun x o hx h=>Aa p' (kp₁ x o hx h)) (t₁.pre p')
end
set_option maxHeartbeats 2000000
section
variable {d:Nat} {σ σ':AB} {Q:AN} {X:Ac} {m:Int} {K:Nat} {hs:List En} {ss:List Sh} {ns:List Str} {n k r S B P epB epP:Nat} {e:En} {b:Bool}
theorem NZ (h30:many≤30) (cK:LK m (sh8 b) (nsC many) B P 8) (C:CS m b many cc many r S B P k hs σ)
  (q:∀ a6 σ',LX m (sh8 b) (nsC many) r S B P (hs.filter fun e=>decide (e.name∉B2 ((many+2) / 3))) σ'→KpR B P σ σ'→Pq .next [.int c,.int m,(Sh.by m ⟨8,8,b⟩).v,.int many,.ref r,.ref k,a6,a7,a8,a9,a10,a11,a12,.undef] σ') :
  BL ((By.body.drop 8).take 1) (callW P10 (d+6)) [.int c,.int m,(Sh.by m ⟨8,8,b⟩).v,.int many,.ref r,.ref k,a6,a7,a8,a9,a10,a11,a12,.undef] σ Pq:=by
 dsimp only [By,List.take,List.drop]
 have f0:hs=hs.filter fun e=>decide (e.name∉B2 0):=(List.filter_eq_self.mpr fun e _=>decide_eq_true fun z=>List.not_mem_nil z).symm
 refine OS (fun i ρ' σ'=>∃ a6,LX m (sh8 b) (nsC many) r S B P (hs.filter fun e=>decide (e.name∉B2 i)) σ'∧KpR B P σ σ'∧ρ'=[.int c,.int m,(Sh.by m ⟨8,8,b⟩).v,.int many,.ref r,.ref k,a6,a7,a8,a9,a10,a11,a12,.undef]) ⟨Int.le_trans (by decide) (Int.natCast_nonneg _),Int.le_trans (Int.ofNat_le.mpr h30) (by decide)⟩ ⟨_,f0▸C.L,.refl,rfl⟩ (fun i ρ' σ' R' hi hI hR=>?_) fun ρ' σ' hI=>?_
 ·refine Ab hI fun a6 L kp ze1=>?_;subst ze1
  rw [show (3:Int)*(i:Int)=((3*i:Nat):Int) from (Int.natCast_mul 3 i).symm] at hi ⊢
  have hi':3*i<many:=Int.ofNat_lt.mp hi
  have hi30:3*i<30:=Nat.lt_of_lt_of_le hi' h30
  refine Am L.rk fun _ _ R=>?_
  wtm_at "mine"
  refine PrimK.str (Co (Int.le_trans (by decide) (Int.natCast_nonneg _)) (Int.le_trans (Int.ofNat_le.mpr (Nat.le_of_lt hi30)) (by decide))) ?_
  refine BinK.addS (by
   have:=(II hi30).len
   rw [bn,Bd,DF,List.length_append,← Bd,← Bd] at this
   exact Nat.le_trans this (by decide)) ?_
  have hlt:3*i<hs.length:=C.c.len.symm▸hi'
  have ex:=List.getElem?_eq_getElem hlt
  have hn:=(C.c.is _ _ ex).1
  have hm:=List.mem_of_getElem? ex
  generalize hs[3*i]=x at *
  have hx:x∈hs.filter fun e=>decide (e.name∉B2 i):=List.mem_filter.mpr ⟨hm,decide_eq_true fun z=>by
   refine AC (List.mem_map.mp z) fun j hj e1=>?_
   have hj:=List.mem_range.mp hj
   have:=KT (Nat.lt_trans (Nat.mul_lt_mul_of_pos_left hj (by decide)) hi30) hi30 (e1.trans hn)
   exact Nat.lt_irrefl _ (Nat.eq_of_mul_eq_mul_left (by decide) this▸hj)⟩
  refine (?_:callW P10 (d+6) 45 [.ref r,.str (bn (3*i))] _ _ _)
  rw [← hn]
  refine HX (e:=x.by m) R (by rw [A3];exact L.E.nodup) (List.mem_map.mpr ⟨x,hx,rfl⟩) cK.b0 cK.p0 cK.bp fun ep1 ep2=>?_
  rw [show (x.by m).name=x.name from rfl,Hj]
  have L₂:=L.take (ep1:=ep1) (ep2:=ep2) (x:=x.name) cK.bp
  have kps:=Ek (ep1:=ep1) (ep2:=ep2) (es':=((hs.filter fun e=>decide (e.name∉B2 i)).filter fun w=>decide (w.name≠x.name)).map (En.by m)) R
  rw [hn,Gq] at L₂ kps
  rw [hn,Gq]
  exact hR _ _ ⟨_,L₂,kp.trans kps,rfl⟩
 ·refine Ab hI fun a6 L kp ze1=>?_;subst ze1
  rw [show (((many:Int)+2) / 3).toNat=(many+2) / 3 from rfl] at L
  exact q _ σ' L kp
theorem NJ (h:dms hs'=dms hs) (s:∀ x∈hs,Small x):∀ x∈hs',Small x:=fun x hx=>by
 have:x.dm∈dms hs':=List.mem_map.mpr ⟨x,hx,rfl⟩
 rw [h] at this
 refine AC (List.mem_map.mp this) fun y hy e1=>?_
 have:=s y hy
 have e2:y.w=x.w∧y.h=x.h:=⟨congrArg (·.1) e1,congrArg (fun d:Dm=>d.2.1) e1⟩
 exact ⟨e2.2▸this.h,e2.1▸this.w⟩
theorem TabAt.kp (t:TabAt T σ ln col q) (kp:Kp σ σ'):TabAt T σ' ln col q:=by
 cases t with
 | tab h=>exact .tab (kp _ _ h)
 | row m h h'=>exact .row m (kp _ _ h) (kp _ _ h')
theorem Pa (h30:many≤30) (cK:LK m (sh8 b) (nsC many) B P 8) (cr:Crowd cc many hs) (hk:σ[k]?=some (.list (bxs m hs))) (L:LX m (sh8 b) (nsC many) r S B P (hs.filter fun e=>decide (e.name∉B2 ((many+2) / 3))) σ) :
  BL (By.body.drop 9) (callW P10 (d+7)) [.int c,.int m,(Sh.by m ⟨8,8,b⟩).v,.int many,.ref r,.ref k,a6,a7,a8,a9,a10,a11,a12,.undef] σ (Fu GH X):=by
 dsimp only [By,List.drop]
 refine Am L.rk fun _ _ R=>?_
 wtm_at "mine"
 refine He L cK fun hs' _ σ₁ L₁ kp₁ h1 h2 fo=>?_
 have nk:=Az R L.tab hk
 have hk₁:=kp₁ _ _ nk.1 nk.2.1 nk.2.2 hk
 have hk2:σ₁[k]?=some (.list (hs.map fun e=>(e.by m).box)):=by rw [hk₁,bxs,List.map_map];rfl
 have sm:∀ x∈hs',Small x:=NJ h1 fun x hx=>cr.small x (List.mem_filter.mp hx).1
 refine Lh (fun j:Nat=>if 0<j % 3 then some ((hs.getD j dfl).by m).box else none) ⟨Int.le_trans (by decide) (Int.natCast_nonneg _),Int.le_trans (Int.ofNat_le.mpr h30) (by decide)⟩ (fun j hj K hK=>?_) ?_
 ·have hj':j<hs.length:=cr.len.symm▸Int.ofNat_lt.mp hj
  have e3:(j:Int) % 3=((j % 3:Nat):Int):=(Int.natCast_emod j 3).symm
  wtm_at "mine"
  refine AY (fun h=>?_) fun h=>?_
  ·rw [if_pos (Int.ofNat_lt.mp (e3▸h:(0:Int)<((j % 3:Nat):Int)))] at hK
   refine Av hk2 (Int.natCast_nonneg j) (by rw [Int.toNat_natCast,List.getElem?_map,List.getElem?_eq_getElem hj'];rfl) ?_
   rw [List.getD_eq_getElem?_getD,List.getElem?_eq_getElem hj'] at hK
   exact hK
  ·rw [if_neg fun z=>h (show (j:Int) % 3 > 0 from e3.symm▸Int.ofNat_lt.mpr z)] at hK
   exact hK
 rw [Int.toNat_natCast,cr.rest (g:=fun e=>(e.by m).box) h30]
 have eB:(hs.filter fun e=>decide (e.name∉B2 ((many+2) / 3))).map (fun e:En=>(e.by m).box)=bxs m hs':=by rw [Jv h1 h2,bxs,List.map_map];rfl
 rw [eB]
 refine Am (L₁.pre (AH (τ:=[O.list (bxs m hs')]))).rk fun _ _ R₁=>?_
 refine Er (R₁.keeps (At AH)) L₁.E L₁.s ((L₁.tab.pre AH).pre AH) cK.hm.1 (Nat.le_trans cK.len.2 (by decide)) (fun s hs=>(cK.sh s hs).1) (fun e he=>(L₁.sz e he).1) AI (AF AI) fun σ₂ kp₂ t₂=>?_
 have L₂:=((L₁.pre (AH (τ:=[O.list (bxs m hs')]))).pre (AH (τ:=[O.list [(Sh.by m ⟨8,8,b⟩).v]]))).kpB kp₂ t₂
 refine ME L₂ sm fo cK.hm (kp₂ _ _ (Az R₁ (L₁.tab.pre AH) AI).1 (AF AI)) fun σ₃ kp₃=>?_
 exact ⟨rfl,(t₂.kp kp₃).ex⟩
end
set_option maxHeartbeats 2000000
section
variable {d:Nat} {σ σ':AB} {Q:AN} {X:Ac} {m:Int} {K:Nat} {hs:List En} {ss:List Sh} {ns:List Str} {n k r S B P epB epP:Nat} {e:En} {b:Bool}
theorem Rb (hm:1≤m∧m≤120000) (t:σ[1]?=some (.tab 275)):callW P10 (d+8) 36 [.int c,.int m] σ GH X:=by
 refine AM (fn:=By) rfl rfl ?_
 refine Dr 5 (fun ρ' σ'=>∃ (b:Bool) (many cc r S B P k:Nat) (hs:List En) (a6 a7:V),many≤30∧LK m (sh8 b) (nsC many) B P 8∧CS m b many cc many r S B P k hs σ'∧ρ'=[.int c,.int m,(Sh.by m ⟨8,8,b⟩).v,.int many,.ref r,.ref k,a6,a7,.undef,.undef,.undef,.undef,.undef,.undef]) (fun R' hR'=>?_) fun ρ' σ₁ hI=>?_
 ·exact Nz (d:=d+1) hm t fun b many cc r S B P k hs σ' a6 a7 _ h30 cK _ _ C=>hR' _ _ ⟨b,many,cc,r,S,B,P,k,hs,a6,a7,h30,cK,C,rfl⟩
 refine E9 hI fun b many cc r S B P k hs a6 a7 h30 cK C ze1=>?_;subst ze1
 refine Dr 2 (fun ρ' σ'=>∃ a8 a9 a10 a11 a12,CS m b many cc many r S B P k hs σ'∧ρ'=[.int c,.int m,(Sh.by m ⟨8,8,b⟩).v,.int many,.ref r,.ref k,a6,a7,a8,a9,a10,a11,a12,.undef]) (fun R' hR'=>?_) fun ρ' σ₂ hI=>?_
 ·exact Nv (d:=d+1) hm.1 C fun a8 a9 a10 a11 a12 σ' kp t'=>hR' _ _ ⟨a8,a9,a10,a11,a12,⟨C.L.kpB kp t',C.c,Am C.L.rk fun _ _ R=>kp _ _ (Az R C.L.tab C.ek).1 C.ek⟩,rfl⟩
 refine MO hI fun a8 a9 a10 a11 a12 C₂ ze1=>?_;subst ze1
 refine Dr 1 (fun ρ' σ'=>CS m b many cc many r S B P k hs σ'∧ρ'=[.int c,.int m,(Sh.by m ⟨8,8,b⟩).v,.int many,.ref r,.ref k,a6,a7,a8,a9,a10,a11,a12,.undef]) (fun R' hR'=>?_) fun ρ' σ₃ hI=>?_
 ·dsimp only [By,List.take,List.drop]
  refine Am C₂.L.rk fun _ _ R=>?_
  refine Er (R.keeps (At AH)) C₂.L.E C₂.L.s (C₂.L.tab.pre AH) cK.hm.1 (Nat.le_trans cK.len.2 (by decide)) (fun s hs=>(cK.sh s hs).1) (fun e he=>(C₂.L.sz e he).1) AI (AF C₂.ek) fun σ' kp' t'=>?_
  exact hR' _ _ ⟨⟨(C₂.L.pre AH).kpB kp' t',C₂.c,kp' _ _ (Az R C₂.L.tab C₂.ek).1 (AF C₂.ek)⟩,rfl⟩
 obtain ⟨C₃,rfl⟩:=hI
 refine Dr 1 (fun ρ' σ'=>∃ a6,LX m (sh8 b) (nsC many) r S B P (hs.filter fun e=>decide (e.name∉B2 ((many+2) / 3))) σ'∧σ'[k]?=some (.list (bxs m hs))∧ρ'=[.int c,.int m,(Sh.by m ⟨8,8,b⟩).v,.int many,.ref r,.ref k,a6,a7,a8,a9,a10,a11,a12,.undef]) (fun R' hR'=>?_) fun ρ' σ₄ hI=>?_
 ·refine NZ (d:=d+1) h30 cK C₃ fun a6 σ' L kp=>?_
  refine Am C₃.L.rk fun _ _ R=>?_
  have ne:=Az R C₃.L.tab C₃.ek
  exact hR' _ _ ⟨a6,L,kp _ _ ne.1 ne.2.1 ne.2.2 C₃.ek,rfl⟩
 refine Ab hI fun a6 L ek ze1=>?_;subst ze1
 exact Pa h30 cK C₃.c ek L
theorem sz8 (hy:1≤y∧y≤8) (hm:1≤m∧m≤120000):Ao (y*m):=⟨Int.mul_pos hy.1 hm.1,Int.le_trans (Int.mul_le_mul hy.2 hm.2 (Int.le_of_lt hm.1) (by decide)) (by decide)⟩
theorem Hk (h:L≤L'):Cz 14 L K*14≤Cz 14 L' K*14:=Gx (Nat.le_refl _) h
inductive Beg10 (xs:List Int):List V→AB→Prop
 | mk (m:Int) (K:Nat) (ss:List Sh) (ns:List Str) (far:Bool) (n a:Nat) (σ:AB):(1≤m∧m≤120000)→(far=true→m=1)→(1≤ss.length∧ss.length≤9)→(∀ s∈ss,Ao (s.W*m)∧Ao (s.H*m))→(∀ s∈ss,shP s≤K)→Cz 14 ss.length K*14≤16000000→Names14 ns →
  σ[0]?=some (.list (xs.map .int))→σ[1]?=some (.tab 275)→σ[n]?=some (.list ((ss.map (Sh.by m)).map Sh.v))→σ[a]?=some (.list (ns.map .str))→Beg10 xs [.ref 0,.int m,.bool far,.ref n,.ref a,.undef,.undef,.undef,.undef,.undef,.undef] σ
theorem S7 (xs:List Int) (h:Beg10 xs ρ σ):BL (DQ.body.drop 6) (callW P10 59) ρ σ (Fu GH X):=by
 cases h with | mk m K ss ns far n a σ hm hf hl hz hk big hns e0 e1 en ea=>
 dsimp only [DQ,List.drop]
 refine PrimK.list en ?_
 have t0:=AF (τ:=[O.list ((ss.map (Sh.by m)).map Sh.v)]) e0
 have t1:=AF (τ:=[O.list ((ss.map (Sh.by m)).map Sh.v)]) e1
 have tn:=AF (τ:=[O.list ((ss.map (Sh.by m)).map Sh.v)]) en
 have ta:=AF (τ:=[O.list ((ss.map (Sh.by m)).map Sh.v)]) ea
 have hh1:=(List.getElem?_eq_some_iff.mp t1).1
 refine HJ (shs:=ss.map (Sh.by m)) AI (by rw [List.length_map];exact hl) (fun s hs=>AC (List.mem_map.mp hs) fun y hy ze=>ze▸hz y hy) fun σ₂ S B P kp₂ R₂ hBP hS hB hP=>⟨rfl,?_⟩
 have cK:LK m ss ns B P K:=⟨⟨hm.1,Int.le_trans hm.2 (by decide)⟩,hl,hz,hk,by rw [hns.len];exact big,by rw [hns.len];decide,hns.good,Nat.ne_of_gt (Nat.lt_of_lt_of_le (Nat.zero_lt_of_lt hh1) hB),Nat.ne_of_gt (Nat.lt_of_lt_of_le (Nat.zero_lt_of_lt hh1) hP),hBP⟩
 exact Qv (d:=49) (far:=far) ⟨⟨0,0,R₂⟩,.tab (kp₂ _ _ t1),⟨List.nodup_nil,BP,BP,by decide⟩,⟨BP,List.Pairwise.nil,BP⟩,BP,BP⟩ cK hm.2 hf hns.len (kp₂ _ _ t0) (kp₂ _ _ tn) (kp₂ _ _ ta)
theorem SK (xs:List Int):callW P10 60 37 [.ref 0] [.list (xs.map .int),.tab 275] GH (fun _ _=>False):=by
 refine AM (fn:=DQ) rfl rfl ?_
 have e0:([.list (xs.map .int),.tab 275]:AB)[0]?=some (.list (xs.map .int)):=rfl
 refine Dr 6 (Beg10 xs) (fun R hR=>?_) fun ρ' σ hI=>S7 xs hI
 dsimp only [DQ,List.take]
 refine Cj e0 (by decide) ?_
 refine RP fun m hm=>?_
 refine Cj e0 (by decide) ?_
 wtm_at "mine"
 refine AY (fun _=>?_) fun _=>?_
 ·refine Cj e0 (by decide) ?_
  refine Tf ?_
  wtm_at "mine"
  exact Rb (d:=51) hm rfl
 refine Cj e0 (by decide) ?_
 wtm_at "mine"
 refine K6 e0 fun ss n σ₁ kp₁ en hn hl1 hl9 hss=>?_
 have z0:=kp₁ 0 _ (show (0:Nat)≠2 by decide) e0
 have z1:σ₁[1]?=some (.tab 275):=kp₁ 1 _ (show (1:Nat)≠2 by decide) rfl
 refine RH en (Nat.le_trans hl9 (by decide)) ⟨hm.1,Int.le_trans hm.2 (by decide)⟩ ?_
 have y0:=AF (τ:=[O.list ((ss.map (Sh.by m)).map Sh.v)]) z0
 have y1:=AF (τ:=[O.list ((ss.map (Sh.by m)).map Sh.v)]) z1
 have yn:(σ₁++[O.list ((ss.map (Sh.by m)).map Sh.v)])[σ₁.length]?=some (.list ((ss.map (Sh.by m)).map Sh.v)):=AI
 have sh8:∀ s∈ss,(Ao (s.W*m)∧Ao (s.H*m))∧shP s≤8:=fun s hs=>by
  have h:=hss s hs
  have h6:1≤s.H∧s.H≤8:=⟨h.h.1,Int.le_trans h.h.2 (by decide)⟩
  refine ⟨⟨sz8 h.w hm,sz8 h6 hm⟩,?_⟩
  unfold shP
  split
  ·exact h6.2
  ·exact h.w.2
 generalize σ₁++[O.list ((ss.map (Sh.by m)).map Sh.v)]=σ₂ at *
 refine AY (fun hf=>?_) fun hf=>?_
 ·refine Cj y0 (by decide) ?_
  wtm_at "mine"
  refine Tj (fun i acc σ'=>σ₂<+:σ'∧∃ ss':List Sh,acc=ss'.map Sh.v∧ss'.length=i∧∀ s∈ss',ShB 1000 1000 s) ⟨Int.le_trans (by decide) (md3 3 (by decide)).1,Int.le_trans (md3 3 (by decide)).2 (by decide)⟩ ⟨List.prefix_refl _,[],rfl,rfl,BP⟩ (fun i acc σ' K hi hI hK=>?_) fun acc σ' hI=>?_
  ·refine FA hI fun p ss' ze1 hl ok=>?_;subst ze1
   refine Cj (Aa p y0) (Int.add_nonneg (by decide) (Int.natCast_nonneg _)) ?_
   refine Tp fun sh σ₂ p₂ hsh=>?_
   refine hK _ _ ⟨p.trans p₂,ss'++[sh],by rw [List.map_append];rfl,by rw [List.length_append,hl];rfl,fun s hs=>(List.mem_append.mp hs).elim (ok s) fun z=>List.mem_singleton.mp z▸hsh⟩
  ·refine FA hI fun p ss' ze1 hl ok=>?_;subst ze1
   have hr:=md3 (c:=FO xs 1) 3 (by decide)
   have hl1:1≤ss'.length:=hl▸Int.toNat_le_toNat hr.1
   have hl3:ss'.length≤3:=hl▸Int.toNat_le_toNat hr.2
   have b1:ss'.map (Sh.by 1)=ss':=by
    refine (List.map_congr_left fun s _=>?_).trans (List.map_id ss')
    show Sh.mk (s.W*1) (s.H*1) s.b=s
    rw [Int.mul_one,Int.mul_one]
   refine Cj (AF (Aa p y0)) (by decide) ?_
   refine JP fun ns hns=>?_
   refine hR _ _ (.mk 1 1000 ss' ns _ _ _ _ (by decide) (fun _=>rfl) ⟨hl1,Nat.le_trans hl3 (by decide)⟩ (fun s hs=>?_) (fun s hs=>?_) (Nat.le_trans (Hk hl3) (by decide)) hns (AF (AF (Aa p y0))) (AF (AF (Aa p y1))) (by rw [b1];exact AF AI) AI)
   ·have h:=ok s hs
    rw [Int.mul_one,Int.mul_one]
    exact ⟨⟨h.w.1,Int.le_trans h.w.2 (by decide)⟩,h.h.1,Int.le_trans h.h.2 (by decide)⟩
   ·have h:=ok s hs
    unfold shP
    split
    ·exact h.h.2
    ·exact h.w.2
 ·refine Cj y0 (by decide) ?_
  refine JP fun ns hns=>?_
  exact hR _ _ (.mk m 8 ss ns _ _ _ _ hm (fun z=>absurd (of_decide_eq_true z) hf) ⟨hl1,hl9⟩ (fun s hs=>(sh8 s hs).1) (fun s hs=>(sh8 s hs).2) (Nat.le_trans (Hk hl9) (by decide)) hns (AF y0) (AF y1) (AF yn) AI)
theorem law10 (xs:List Int):callW (PB10.map (·.1)) 60 37 [.ref 0] [.list (xs.map .int),.tab 275] GH (fun _ _=>False):=SK xs
end
end Mine.Internal

namespace Mine.Internal
open PySem PySem.Calls PySem.W PyProof.Rows
set_option maxRecDepth 100000 in
theorem UY : ∀ w os, T0 PySem.Challenge.pw_uf030015_10 q10 (I6 wh10) 9000 w os = some (openGood q10 []) := by
  intro w os
  kernel_rfl
set_option maxRecDepth 100000 in
theorem left10 : LeftO PySem.Challenge.pw_uf030015_10 q10 [] (I6 wh10) (fun _ => ()) (fun _ => ()) 9000 := Tv rfl rfl (fun _ => rfl) UY
end Mine.Internal
open PySem PySem.W PyProof.Rows
set_option maxRecDepth 100000 in
set_option maxHeartbeats 8000000 in
theorem PySem.Challenge.cw_uf030015_10_holds : PySem.Challenge.rw_uf030015_10.Holds := by
  w_on
  refine holds_law Mine.Internal.said10 fun said => ?_
  refine PySem.W.holds_open (XP := Mine.Internal.SeenP Mine.Internal.wh10) (YP := fun _ _ => True) Mine.Internal.left10 (fun _ _ _ => trivial) (fun _ _ _ _ _ => trivial) (fun _ h => Mine.Internal.seen_of h) (fun _ _ _ x k => x.keeps k) (by rfl) (by rfl) (by rfl) (fun s _ => recFacts_nil rfl) (by rfl) (by assumption) (by decide +kernel) ⟨rfl, rfl, rfl, rfl, rfl, by decide +kernel⟩ ?hw ?hc
  case hw => w_witness2
  intro w s₀ s₁ mg mb G Y fa o pm cd doc dV kV ho hd hcd hD hmg hg args vals as hpre hlay hrd hwl hlo
  have T := Ground.T G
  have TE := Ground.TE G
  have X := Ground.X G
  wrow_args hpre hlay hrd hwl hlo
  refine enter_call ?_
  obtain ⟨vs, e, hv⟩ := Mine.Internal.well_ints ‹Well _ _ _ _›
  refine Mine.Internal.law_go (P := Mine.Internal.PB10) (extra := 1) (i := 37) (d := 60) T TE X Mine.Internal.text10 Mine.Internal.reads10 Mine.Internal.hk10 (by kernel_rfl) (by decide) (by decide) hmg hg e hv (by omega) (fun _ => rfl) ?_ (Mine.Internal.law10 _)
  wrow_post