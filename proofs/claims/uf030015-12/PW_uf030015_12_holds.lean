import PyProof.Rows.All
import Wide.All
import OpenK.AllK
import Wide.FinOn
import PyProof.SetKind
import PyProof.SetScanFacts
import PyProof.Rows.SetFrom
import PyProof.Rows.SortPure
import PyProof.FactsAll.set_1
import PyProof.CollectWalk
import PyProof.FactsAll.set_2
import PyProof.Rows.SortShell
import KE.KSortTup
import PyProof.P3Statements
import PyProof.CompFree
import PyProof.CompUse
import PyProof.Walks
import PyProof.WalksMore
import PyProof.Calls
import PyProof.ListOps
import PyProof.Cells
import PyProof.Rules2
import PyProof.Rules3
import PyProof.DictIter
import PyProof.DictKinds
import PyProof.Ns1
import PyProof.StationsW
import PyProof.Rows.PlainStore
import PyProof.Rows.RuleB_floordiv
import PyProof.Rows.RuleB_mod
import PyProof.Rows.RuleB_sub
import PyProof.PureInt
import PyProof.AutoIntOps
import PyProof.Rows.Chain
import PyProof.MakeMany
import PyProof.TupleIter
import PyProof.TupleOps
import PyProof.Rows.TupMore
import PyProof.ListTruth
import PyProof.Truth
import PyProof.Rows.RuleU_int
import PyProof.Rows.IntRules
import PyProof.Rows.StrTemp
import PyProof.ListIndexNeg
import PyProof.Rows.StrRules
import PyProof.P3Eq
import PyProof.P3In
import PyProof.NeData
import PyProof.TupleKey
import PyProof.SliceList
import PyProof.ListMulRoad
import PyProof.DictStraight
import PyProof.StrLawsIn
import PyProof.StrOps
import PyProof.DefCall
import KE.KUnpack
import PyProof.RulesAssignMore
import PyProof.Raises
import PyProof.SeqWrite
import PyProof.ForAny
import PyProof.EnumFor
import PyProof.EnumMake
import PyProof.RangeFor
import PyProof.PvWalk
import PyProof.Boot
import PyProof.EnumStmt
import PyProof.StrWalks
import PyProof.DictWalks
import PyProof.TupleOfSeq
import PyProof.Rows.ListCopyD
import PyProof.WalkInts
import PyProof.Conv_int_bool
import PyProof.CallStr
import PyProof.IsiSeqPairs
import PyProof.IsiPairs
import PyProof.ForAppend
import KE.KItem
import PyProof.Dict
import PyProof.Rows.PlainObj
import PyProof.Rows.Own
import KE.KNest
import PyProof.ConsumeWalk
import PyProof.SliceStr2
import PyProof.SliceSyntax
import PyProof.LetGo
import PyProof.MeetsDictList
import PyProof.FString
import PyProof.Rows.StrJoin2
import PyProof.ExcClass2
import PyProof.ExcBaseAll.ValueError
import PyProof.InstStoreFacts
import PyProof.RulesAs
import PyProof.Rows.AttrNodeAny
import PyProof.Rows.Method
import PyProof.NsDelKeeps
import KE.KLam
import KE.KDictSum
import PyProof.Rows.CallKwBuiltin
import Wide.Tac
import PyProof.FitsInt
import PyProof.Rows.ReprOcc
import PySem.Challenge.RW_uf030015_12
set_option Elab.async false
set_option compiler.extract_closed false
set_option backward.match.sparseCases false
set_option hygiene false
set_option linter.all false
set_option bootstrap.genMatcherCode false
set_option maxRecDepth 100000 in
theorem Mine.Internal.said12 : PySem.Challenge.rw_uf030015_12.wellSaid = true := by decide +kernel

namespace Mine.Internal
set_option genSizeOf false
set_option genInjectivity false
inductive AE where
 | v (i:Nat) | n (k:Nat) | a (x y:AE) | s (x y:AE) | m (k:Nat) (x:AE) | g (x:AE)
inductive AK where | le | lt | eq | qe | nle | nlt
inductive AR where
 | e
 | w (k:Nat) (t:AR)
 | c (k:AK) (x y:AE) (t:AR)
noncomputable def AR.l (x y:AE) (t:AR):AR:=.c .le x y t
noncomputable def AR.t (x y:AE) (t:AR):AR:=.c .lt x y t
noncomputable def AR.q (x y:AE) (t:AR):AR:=.c .eq x y t
noncomputable def AR.p (x y:AE) (t:AR):AR:=.c .qe x y t
noncomputable def AR.m (x y:AE) (t:AR):AR:=.c .nle x y t
noncomputable def AR.o (x y:AE) (t:AR):AR:=.c .nlt x y t
noncomputable def AE.v0:AE:=.v 0
noncomputable def AE.v1:AE:=.v 1
noncomputable def AE.v2:AE:=.v 2
noncomputable def AE.v3:AE:=.v 3
noncomputable def AE.v4:AE:=.v 4
noncomputable def AE.v5:AE:=.v 5
noncomputable def AE.n0:AE:=.n 0
noncomputable def AE.n1:AE:=.n 1
noncomputable def AE.n2:AE:=.n 2
noncomputable def AE.n3:AE:=.n 3
noncomputable def av (l:List Int):Nat→Int
 | 0=>l.headD 0
 | i+1=>av l.tail i
noncomputable def avn (l:List Nat):Nat→Nat
 | 0=>l.headD 0
 | i+1=>avn l.tail i
noncomputable def AE.di (l:List Int):AE→Int
 | .v i=>av l i
 | .n k=>(k:Int)
 | .a x y=>x.di l+y.di l
 | .s x y=>x.di l - y.di l
 | .m k x=>(k:Int)*x.di l
 | .g x=>-x.di l
noncomputable def AE.dn (l:List Nat):AE→Nat
 | .v i=>avn l i
 | .n k=>k
 | .a x y=>x.dn l+y.dn l
 | .s x _=>x.dn l
 | .m k x=>k*x.dn l
 | .g x=>x.dn l
noncomputable def AE.pos:AE→Bool
 | .v _=>true
 | .n _=>true
 | .a x y=>x.pos&&y.pos
 | .s _ _=>false
 | .m _ x=>x.pos
 | .g _=>false
noncomputable def pa:List Int→List Int→List Int
 | [],q=>q
 | a::p,q=>(a+q.headD 0)::pa p q.tail
noncomputable def pm (k:Int) (p:List Int):List Int:=p.map (k*·)
noncomputable def pu:Nat→List Int
 | 0=>[1]
 | i+1=>0::pu i
noncomputable def AE.p:AE→List Int
 | .v i=>0::pu i
 | .n k=>[(k:Int)]
 | .a x y=>pa x.p y.p
 | .s x y=>pa x.p (pm (-1) y.p)
 | .m k x=>pm k x.p
 | .g x=>pm (-1) x.p
noncomputable def ev (l:List Int):List Int→Int
 | []=>0
 | a::p=>a*l.headD 0+ev l.tail p
theorem J1:∀ (p q l:List Int),ev l (pa p q)=ev l p+ev l q:=fun p=>by
 induction p with
 | nil=>exact fun q l=>(Int.zero_add _).symm
 | cons a p ih=>
  intro q l
  cases q with
  | nil=>show (a+0)*_+ev l.tail (pa p [])=(a*_+ev l.tail p)+0;rw [ih,Int.add_zero,Int.add_zero];exact congrArg (_+·) (Int.add_zero _)
  | cons b q=>show (a+b)*_+ev l.tail (pa p q)=(a*_+_)+(b*_+_);rw [ih,Int.add_mul,Int.add_assoc,Int.add_assoc,Int.add_left_comm (b*_)]
theorem HT (k:Int):∀ (p l:List Int),ev l (pm k p)=k*ev l p:=fun p=>by
 induction p with
 | nil=>exact fun l=>(Int.mul_zero k).symm
 | cons a p ih=>exact fun l=>(congrArg (k*a*l.headD 0+·) (ih l.tail)).trans (by rw [Int.mul_assoc];exact (Int.mul_add ..).symm)
theorem VA:∀ (i:Nat) (l:List Int),ev l (pu i)=av l i:=fun i=>by
 induction i with
 | zero=>exact fun l=>(Int.add_zero _).trans (Int.one_mul _)
 | succ i ih=>exact fun l=>(congrArg (·+ev l.tail (pu i)) (Int.zero_mul _)).trans ((Int.zero_add _).trans (ih _))
theorem AE.ev (e:AE) (l:List Int):Mine.Internal.ev (1::l) e.p=e.di l:=by
 induction e with
 | v i=>exact (congrArg (·+_) (Int.zero_mul _)).trans ((Int.zero_add _).trans (VA i l))
 | n k=>exact (Int.add_zero _).trans (Int.mul_one _)
 | a x y hx hy=>exact (J1 ..).trans (by rw [hx,hy];rfl)
 | s x y hx hy=>exact (J1 ..).trans (by rw [HT,hx,hy,Int.neg_one_mul];rfl)
 | m k x hx=>exact (HT ..).trans (by rw [hx];rfl)
 | g x hx=>exact (HT ..).trans (by rw [hx];exact Int.neg_one_mul _)
noncomputable def AK.i:AK→Int→Int→Prop
 | .le,x,y=>x≤y
 | .lt,x,y=>x<y
 | .eq,x,y=>x=y
 | .qe,x,y=>x=y
 | .nle,x,y=>¬ x≤y
 | .nlt,x,y=>¬ x<y
noncomputable def AK.n:AK→Nat→Nat→Prop
 | .le,x,y=>x≤y
 | .lt,x,y=>x<y
 | .eq,x,y=>x=y
 | .qe,x,y=>x=y
 | .nle,x,y=>¬ x≤y
 | .nlt,x,y=>¬ x<y
noncomputable def AK.p:AK→List Int→List Int→List Int
 | .le,x,y=>pa x (pm (-1) y)
 | .lt,x,y=>pa [1] (pa x (pm (-1) y))
 | .eq,x,y=>pa x (pm (-1) y)
 | .qe,x,y=>pa y (pm (-1) x)
 | .nle,x,y=>pa [1] (pa y (pm (-1) x))
 | .nlt,x,y=>pa y (pm (-1) x)
noncomputable def AK.q:AK→List Int→List Int→List Int
 | .le,x,y=>AK.p .nle x y
 | .lt,x,y=>AK.p .nlt x y
 | .nle,x,y=>AK.p .le x y
 | .nlt,x,y=>AK.p .lt x y
 | _,_,_=>[]
theorem Gx (x y l:List Int):ev l (pa x (pm (-1) y))=ev l x - ev l y:=by rw [J1,HT,Int.neg_one_mul];rfl
theorem ML (x y l:List Int):ev (1::l) (pa [1] (pa x (pm (-1) y)))=1+(ev (1::l) x - ev (1::l) y):=by rw [J1,Gx];rfl
theorem L0 {x y:Int} (h:x<y):1+(x - y)≤0:=by rw [← Int.add_sub_assoc,Int.add_comm];exact Int.sub_nonpos_of_le h
theorem AK.ok {k:AK} {x y l:List Int} (h:k.i (ev (1::l) x) (ev (1::l) y)):ev (1::l) (k.p x y)≤0:=by
 cases k with
 | le=>exact Int.le_trans (Int.le_of_eq (Gx ..)) (Int.sub_nonpos_of_le h)
 | lt=>exact Int.le_trans (Int.le_of_eq (ML ..)) (L0 h)
 | eq=>exact Int.le_trans (Int.le_of_eq (Gx ..)) (Int.sub_nonpos_of_le (Int.le_of_eq h))
 | qe=>exact Int.le_trans (Int.le_of_eq (Gx ..)) (Int.sub_nonpos_of_le (Int.le_of_eq h.symm))
 | nle=>exact Int.le_trans (Int.le_of_eq (ML ..)) (L0 (Int.lt_of_not_ge h))
 | nlt=>exact Int.le_trans (Int.le_of_eq (Gx ..)) (Int.sub_nonpos_of_le (Int.le_of_not_gt h))
theorem AK.no {k:AK} {x y l:List Int} (h:¬ ev (1::l) (k.q x y)≤0):k.i (ev (1::l) x) (ev (1::l) y):=by
 cases k with
 | le=>exact Int.not_lt.mp fun z=>h (AK.ok (k:=.nle) (Int.not_le.mpr z))
 | lt=>exact Int.not_le.mp fun z=>h (AK.ok (k:=.nlt) (Int.not_lt.mpr z))
 | eq=>exact absurd (Int.le_refl 0) h
 | qe=>exact absurd (Int.le_refl 0) h
 | nle=>exact fun z=>h (AK.ok (k:=.le) z)
 | nlt=>exact fun z=>h (AK.ok (k:=.lt) z)
noncomputable def pz (b:Bool):List Int→Bool
 | []=>true
 | a::p=>(bif b then decide (0≤a) else decide (a=0))&&pz b p
noncomputable def AR.k (b:Bool):AR→Nat→List Int→Bool
 | .e,_,[]=>false
 | .e,_,a::p=>decide (0<a)&&pz b p
 | .w k t,_,d=>t.k b k d
 | .c k x y t,n,d=>t.k b 1 (pa (pm n (k.p x.p y.p)) d)
noncomputable def AR.i (l:List Int):AR→Prop→Prop
 | .e,G=>G
 | .w _ t,G=>t.i l G
 | .c k x y t,G=>k.i (x.di l) (y.di l)→t.i l G
noncomputable def AR.n (l:List Nat):AR→Prop→Prop
 | .e,G=>G
 | .w _ t,G=>t.n l G
 | .c k x y t,G=>k.n (x.dn l) (y.dn l)→t.n l G
noncomputable def AR.pos:AR→Bool
 | .e=>true
 | .w _ t=>t.pos
 | .c _ x y t=>x.pos&&(y.pos&&t.pos)
theorem Uw:∀ {p l:List Int},(b=true→∀ i,0≤av l i)→pz b p=true→0≤ev l p:=fun {p}=>by
 induction p with
 | nil=>exact fun _ _=>Int.le_refl 0
 | cons a p ih=>
  intro l hl h
  have h:=(Bool.and_eq_true _ _).mp h
  refine Int.add_nonneg ?_ (ih (fun e i=>hl e (i+1)) h.2)
  cases b with
  | true=>exact Int.mul_nonneg (of_decide_eq_true h.1) (hl rfl 0)
  | false=>rw [of_decide_eq_true h.1,Int.zero_mul];exact Int.le_refl 0
theorem AR.ok {b:Bool} {l:List Int} (hl:b=true→∀ i,0≤av l i) {G:Prop} (r:AR):∀ (k:Nat) (D:List Int),r.k b k D=true→(¬ ev (1::l) D≤0→G)→r.i l G:=by
 induction r with
 | e=>
  intro k D h g
  cases D with
  | nil=>cases h
  | cons a p=>
   have h:=(Bool.and_eq_true _ _).mp h
   exact g (Int.not_le.mpr (Int.lt_of_lt_of_le (of_decide_eq_true h.1) (Int.le_trans (Int.le_of_eq ((Int.mul_one a).symm.trans (Int.add_zero _).symm)) (Int.add_le_add_left (Uw hl h.2) _))))
 | w k t ih=>exact fun _ D=>ih k D
 | c k x y t ih=>
  intro n D h g p
  refine ih 1 _ h fun z=>g fun z'=>z ?_
  rw [J1,HT]
  rw [← AE.ev,← AE.ev] at p
  exact Int.add_le_add (Int.mul_nonpos_of_nonneg_of_nonpos (Int.natCast_nonneg n) (AK.ok p)) z'
theorem ari (l:List Int) (g:AK) (x y:AE) (r:AR) (h:r.k false 1 (g.q x.p y.p)=true):r.i l (g.i (x.di l) (y.di l)):=
 AR.ok (b:=false) (fun e=>nomatch e) r 1 _ h fun z=>by rw [← AE.ev,← AE.ev];exact AK.no z
theorem Tq (l:List Int) (r:AR) (h:r.k false 1 []=true):r.i l False:=AR.ok (b:=false) (fun e=>nomatch e) r 1 _ h fun z=>z (Int.le_refl 0)
theorem JM:∀ (i:Nat) (l:List Nat),av (l.map Nat.cast) i=(avn l i:Int):=fun i=>by
 induction i with
 | zero=>exact fun l=>by cases l <;> rfl
 | succ i ih=>exact fun l=>by cases l with
  | nil=>exact ih []
  | cons a l=>exact ih l
theorem AE.cast (l:List Nat) (e:AE) (h:e.pos=true):e.di (l.map Nat.cast)=(e.dn l:Int):=by
 induction e with
 | v i=>exact JM i l
 | n k=>rfl
 | a x y hx hy=>have h:=(Bool.and_eq_true _ _).mp h;exact (congr (congrArg HAdd.hAdd (hx h.1)) (hy h.2)).trans (Int.natCast_add ..).symm
 | s x y=>cases h
 | m k x hx=>exact (congrArg (HMul.hMul _) (hx h)).trans (Int.natCast_mul ..).symm
 | g x=>cases h
theorem AK.cast {k:AK} {x y:Nat}:k.n x y↔k.i x y:=by
 cases k with
 | le=>exact Int.ofNat_le.symm
 | lt=>exact Int.ofNat_lt.symm
 | eq=>exact Int.ofNat_inj.symm
 | qe=>exact Int.ofNat_inj.symm
 | nle=>exact not_congr Int.ofNat_le.symm
 | nlt=>exact not_congr Int.ofNat_lt.symm
theorem AR.cast {l:List Nat} {G:Prop} (r:AR) (h:r.pos=true) (q:r.i (l.map Nat.cast) G):r.n l G:=by
 induction r with
 | e=>exact q
 | w k t ih=>exact ih h q
 | c k x y t ih=>
  intro p
  have h:=(Bool.and_eq_true _ _).mp h
  have h':=(Bool.and_eq_true _ _).mp h.2
  refine ih h'.2 (q ?_)
  rw [AE.cast l x h.1,AE.cast l y h'.1];exact AK.cast.mp p
theorem arw (l:List Nat) (w:Nat) (g:AK) (x y:AE) (r:AR) (h:((AR.c g x y r).pos&&r.k true 1 (pm w (g.q x.p y.p)))=true):r.n l (g.n (x.dn l) (y.dn l)):=by
 have h:=(Bool.and_eq_true _ _).mp h
 have a:=(Bool.and_eq_true _ _).mp h.1
 have b:=(Bool.and_eq_true _ _).mp a.2
 refine r.cast b.2 (AR.ok (fun _ i=>?_) r 1 _ h.2 fun z=>?_)
 ·rw [JM];exact Int.natCast_nonneg _
 ·rw [AK.cast,← AE.cast l x a.1,← AE.cast l y b.1,← AE.ev,← AE.ev]
  exact AK.no fun u=>z (by rw [HT];exact Int.mul_nonpos_of_nonneg_of_nonpos (Int.natCast_nonneg w) u)
theorem TI (l:List Nat) (r:AR) (h:(r.pos&&r.k true 1 [])=true):r.n l False:=by
 have h:=(Bool.and_eq_true _ _).mp h
 exact r.cast h.1 (AR.ok (fun _ i=>by rw [JM];exact Int.natCast_nonneg _) r 1 _ h.2 fun z=>z (Int.le_refl 0))
theorem an1 (g:AK) (x y:AE) (r:AR) (h:((AR.c g x y r).pos&&r.k true 1 (pm (1:Nat) (g.q x.p y.p)))=true):r.n [a] (g.n (x.dn [a]) (y.dn [a])):=arw [a] 1 g x y r h
theorem am1 (r:AR) (h:(r.pos&&r.k true 1 [])=true):r.n [a] False:=TI [a] r h
theorem ai1 (g:AK) (x y:AE) (r:AR) (h:r.k false 1 (g.q x.p y.p)=true):r.i [a] (g.i (x.di [a]) (y.di [a])):=ari [a] g x y r h
theorem aj1 (r:AR) (h:r.k false 1 []=true):r.i [a] False:=Tq [a] r h
theorem an2 (g:AK) (x y:AE) (r:AR) (h:((AR.c g x y r).pos&&r.k true 1 (pm (1:Nat) (g.q x.p y.p)))=true):r.n [a,b] (g.n (x.dn [a,b]) (y.dn [a,b])):=arw [a,b] 1 g x y r h
theorem am2 (r:AR) (h:(r.pos&&r.k true 1 [])=true):r.n [a,b] False:=TI [a,b] r h
theorem ai2 (g:AK) (x y:AE) (r:AR) (h:r.k false 1 (g.q x.p y.p)=true):r.i [a,b] (g.i (x.di [a,b]) (y.di [a,b])):=ari [a,b] g x y r h
theorem aj2 (r:AR) (h:r.k false 1 []=true):r.i [a,b] False:=Tq [a,b] r h
theorem an3 (g:AK) (x y:AE) (r:AR) (h:((AR.c g x y r).pos&&r.k true 1 (pm (1:Nat) (g.q x.p y.p)))=true):r.n [a,b,c] (g.n (x.dn [a,b,c]) (y.dn [a,b,c])):=arw [a,b,c] 1 g x y r h
theorem am3 (r:AR) (h:(r.pos&&r.k true 1 [])=true):r.n [a,b,c] False:=TI [a,b,c] r h
theorem ai3 (g:AK) (x y:AE) (r:AR) (h:r.k false 1 (g.q x.p y.p)=true):r.i [a,b,c] (g.i (x.di [a,b,c]) (y.di [a,b,c])):=ari [a,b,c] g x y r h
theorem aj3 (r:AR) (h:r.k false 1 []=true):r.i [a,b,c] False:=Tq [a,b,c] r h
theorem an4 (g:AK) (x y:AE) (r:AR) (h:((AR.c g x y r).pos&&r.k true 1 (pm (1:Nat) (g.q x.p y.p)))=true):r.n [a,b,c,d] (g.n (x.dn [a,b,c,d]) (y.dn [a,b,c,d])):=arw [a,b,c,d] 1 g x y r h
theorem ai4 (g:AK) (x y:AE) (r:AR) (h:r.k false 1 (g.q x.p y.p)=true):r.i [a,b,c,d] (g.i (x.di [a,b,c,d]) (y.di [a,b,c,d])):=ari [a,b,c,d] g x y r h
theorem an5 (g:AK) (x y:AE) (r:AR) (h:((AR.c g x y r).pos&&r.k true 1 (pm (1:Nat) (g.q x.p y.p)))=true):r.n [a,b,c,d,e] (g.n (x.dn [a,b,c,d,e]) (y.dn [a,b,c,d,e])):=arw [a,b,c,d,e] 1 g x y r h
theorem ai5 (g:AK) (x y:AE) (r:AR) (h:r.k false 1 (g.q x.p y.p)=true):r.i [a,b,c,d,e] (g.i (x.di [a,b,c,d,e]) (y.di [a,b,c,d,e])):=ari [a,b,c,d,e] g x y r h
theorem an6 (g:AK) (x y:AE) (r:AR) (h:((AR.c g x y r).pos&&r.k true 1 (pm (1:Nat) (g.q x.p y.p)))=true):r.n [a,b,c,d,e,f] (g.n (x.dn [a,b,c,d,e,f]) (y.dn [a,b,c,d,e,f])):=arw [a,b,c,d,e,f] 1 g x y r h
theorem FM {α:Type} {lt:α→α→Prop} {x y z:α} {R S T:Prop} (tr:lt x y→lt y z→lt x z) (k:R→S→T) (h:lt x y∨x=y∧R) (g:lt y z∨y=z∧S):lt x z∨x=z∧T:=
 h.elim (fun h=>.inl (g.elim (tr h) fun g=>g.1▸h)) fun h=>g.elim (fun g=>.inl (h.1▸g)) fun g=>.inr ⟨h.1.trans g.1,k h.2 g.2⟩
theorem GM {α:Type} {lt:α→α→Prop} {x y:α} {R S:Prop} (tr:lt x y→lt y x→False) (ir:∀ x,¬ lt x x) (h:lt x y∨x=y∧R) (g:lt y x∨y=x∧S):x=y∧R∧S:=
 h.elim (fun h=>g.elim (fun g=>(tr h g).elim) fun g=>(ir y (g.1.symm▸h)).elim) fun h=>g.elim (fun g=>(ir y (h.1▸g)).elim) fun g=>⟨h.1,h.2,g.2⟩
theorem Bo {α:Type _} {P:α→Prop}:∀ a∈([]:List α),P a:=fun _ h=>nomatch h
theorem Fz {α:Type _} {a:α} {P:Prop} (h:none=some a):P:=nomatch h
theorem Sw {α:Type _} {a:α} {P:Prop} (h:some a=none):P:=nomatch h
theorem KP {P:Prop} (h:true=false):P:=nomatch h
theorem Sc {P:Prop} (h:false=true):P:=nomatch h
end Mine.Internal
namespace Mine.Internal
universe u
theorem AX {α:Sort _} {p1:α→Prop} {c:Prop} (h:∃ x,p1 x) (k:∀ x,p1 x→c):c:=h.elim fun x h0=>k x h0
theorem A7 {p1 p2 p3:Prop} {c:Prop} (h:p1∧p2∧p3) (k:p1→p2→p3→c):c:=k h.1 h.2.1 h.2.2
theorem Jr {p q r c:Prop} (h:p∨q∨r) (k0:p→c) (k1:q→c) (k2:r→c):c:=h.elim k0 fun h=>h.elim k1 k2
theorem G0 {p q r s c:Prop} (h:p∨q∨r∨s) (k0:p→c) (k1:q→c) (k2:r→c) (k3:s→c):c:=h.elim k0 fun h=>h.elim k1 fun h=>h.elim k2 k3
theorem Pb {p q r s t c:Prop} (h:p∨q∨r∨s∨t) (k0:p→c) (k1:q→c) (k2:r→c) (k3:s→c) (k4:t→c):c:=h.elim k0 fun h=>h.elim k1 fun h=>h.elim k2 fun h=>h.elim k3 k4
theorem AF {α:Sort _} {p1 p2:α→Prop} {c:Prop} (h:∃ x,p1 x∧p2 x) (k:∀ x,p1 x→p2 x→c):c:=h.elim fun x h0=>k x h0.1 h0.2
theorem Az {α:Sort _} {β:Sort _} {p1:α→β→Prop} {c:Prop} (h:∃ x,∃ y,p1 x y) (k:∀ x,∀ y,p1 x y→c):c:=h.elim fun x h0=>h0.elim fun y h1=>k x y h1
theorem GS {p1 p2 p3 p4:Prop} {c:Prop} (h:p1∧p2∧p3∧p4) (k:p1→p2→p3→p4→c):c:=k h.1 h.2.1 h.2.2.1 h.2.2.2
theorem Lf {α:Sort _} {p1 p2:Prop} {p3:α→Prop} {c:Prop} (h:p1∧p2∧∃ x,p3 x) (k:p1→p2→∀ x,p3 x→c):c:=h.2.2.elim fun x h2=>k h.1 h.2.1 x h2
theorem CR {α:Sort _} {p1:Prop} {p2 p3:α→Prop} {c:Prop} (h:p1∧∃ x,p2 x∧p3 x) (k:p1→∀ x,p2 x→p3 x→c):c:=h.2.elim fun x h1=>k h.1 x h1.1 h1.2
theorem Ae {α:Sort _} {p1 p2 p3:α→Prop} {c:Prop} (h:∃ x,p1 x∧p2 x∧p3 x) (k:∀ x,p1 x→p2 x→p3 x→c):c:=h.elim fun x h0=>k x h0.1 h0.2.1 h0.2.2
theorem Fs {α:Sort _} {β:Sort _} {p1:α→Prop} {p2:α→β→Prop} {c:Prop} (h:∃ x,p1 x∧∃ y,p2 x y) (k:∀ x,p1 x→∀ y,p2 x y→c):c:=h.elim fun x h0=>h0.2.elim fun y h2=>k x h0.1 y h2
theorem BM {α:Sort _} {β:Sort _} {p1 p2:α→β→Prop} {c:Prop} (h:∃ x,∃ y,p1 x y∧p2 x y) (k:∀ x,∀ y,p1 x y→p2 x y→c):c:=h.elim fun x h0=>h0.elim fun y h1=>k x y h1.1 h1.2
theorem Ck {α:Sort _} {β:Sort _} {γ:Sort _} {p1:α→β→γ→Prop} {c:Prop} (h:∃ x,∃ y,∃ z,p1 x y z) (k:∀ x,∀ y,∀ z,p1 x y z→c):c:=h.elim fun x h0=>h0.elim fun y h1=>h1.elim fun z h2=>k x y z h2
theorem FC {p1 p2 p3 p4 p5:Prop} {c:Prop} (h:p1∧p2∧p3∧p4∧p5) (k:p1→p2→p3→p4→p5→c):c:=k h.1 h.2.1 h.2.2.1 h.2.2.2.1 h.2.2.2.2
theorem FD {α:Sort _} {p1:Prop} {p2 p3 p4:α→Prop} {c:Prop} (h:p1∧∃ x,p2 x∧p3 x∧p4 x) (k:p1→∀ x,p2 x→p3 x→p4 x→c):c:=h.2.elim fun x h1=>k h.1 x h1.1 h1.2.1 h1.2.2
theorem EF {α:Sort _} {β:Sort _} {p1:Prop} {p2 p3:α→β→Prop} {c:Prop} (h:p1∧∃ x,∃ y,p2 x y∧p3 x y) (k:p1→∀ x,∀ y,p2 x y→p3 x y→c):c:=h.2.elim fun x h1=>h1.elim fun y h2=>k h.1 x y h2.1 h2.2
theorem Bd {α:Sort _} {p1 p2 p3 p4:α→Prop} {c:Prop} (h:∃ x,p1 x∧p2 x∧p3 x∧p4 x) (k:∀ x,p1 x→p2 x→p3 x→p4 x→c):c:=h.elim fun x h0=>k x h0.1 h0.2.1 h0.2.2.1 h0.2.2.2
theorem SE {α:Sort _} {β:Sort _} {p1 p2:α→Prop} {p3:α→β→Prop} {c:Prop} (h:∃ x,p1 x∧p2 x∧∃ y,p3 x y) (k:∀ x,p1 x→p2 x→∀ y,p3 x y→c):c:=h.elim fun x h0=>h0.2.2.elim fun y h3=>k x h0.1 h0.2.1 y h3
theorem Ri {α:Sort _} {β:Sort _} {p1:α→Prop} {p2 p3:α→β→Prop} {c:Prop} (h:∃ x,p1 x∧∃ y,p2 x y∧p3 x y) (k:∀ x,p1 x→∀ y,p2 x y→p3 x y→c):c:=h.elim fun x h0=>h0.2.elim fun y h2=>k x h0.1 y h2.1 h2.2
theorem DT {α:Sort _} {β:Sort _} {γ:Sort _} {p1:α→Prop} {p2:α→β→γ→Prop} {c:Prop} (h:∃ x,p1 x∧∃ y,∃ z,p2 x y z) (k:∀ x,p1 x→∀ y,∀ z,p2 x y z→c):c:=h.elim fun x h0=>h0.2.elim fun y h2=>h2.elim fun z h3=>k x h0.1 y z h3
theorem BC {α:Sort _} {β:Sort _} {p1 p2 p3:α→β→Prop} {c:Prop} (h:∃ x,∃ y,p1 x y∧p2 x y∧p3 x y) (k:∀ x,∀ y,p1 x y→p2 x y→p3 x y→c):c:=h.elim fun x h0=>h0.elim fun y h1=>k x y h1.1 h1.2.1 h1.2.2
theorem EK {α:Sort _} {β:Sort _} {γ:Sort _} {p1 p2:α→β→γ→Prop} {c:Prop} (h:∃ x,∃ y,∃ z,p1 x y z∧p2 x y z) (k:∀ x,∀ y,∀ z,p1 x y z→p2 x y z→c):c:=h.elim fun x h0=>h0.elim fun y h1=>h1.elim fun z h2=>k x y z h2.1 h2.2
theorem Mk {α:Sort _} {β:Sort _} {γ:Sort _} {δ:Sort _} {p1:α→β→γ→δ→Prop} {c:Prop} (h:∃ x,∃ y,∃ z,∃ w,p1 x y z w) (k:∀ x,∀ y,∀ z,∀ w,p1 x y z w→c):c:=h.elim fun x h0=>h0.elim fun y h1=>h1.elim fun z h2=>h2.elim fun w h3=>k x y z w h3
theorem ON {α:Sort _} {β:Sort _} {p1:Prop} {p2:α→Prop} {p3 p4:α→β→Prop} {c:Prop} (h:p1∧∃ x,p2 x∧∃ y,p3 x y∧p4 x y) (k:p1→∀ x,p2 x→∀ y,p3 x y→p4 x y→c):c:=h.2.elim fun x h1=>h1.2.elim fun y h3=>k h.1 x h1.1 y h3.1 h3.2
theorem B8 {α:Sort _} {β:Sort _} {p1:Prop} {p2 p3 p4:α→β→Prop} {c:Prop} (h:p1∧∃ x,∃ y,p2 x y∧p3 x y∧p4 x y) (k:p1→∀ x,∀ y,p2 x y→p3 x y→p4 x y→c):c:=h.2.elim fun x h1=>h1.elim fun y h2=>k h.1 x y h2.1 h2.2.1 h2.2.2
theorem B6 {α:Sort _} {p1 p2 p3 p4 p5:α→Prop} {c:Prop} (h:∃ x,p1 x∧p2 x∧p3 x∧p4 x∧p5 x) (k:∀ x,p1 x→p2 x→p3 x→p4 x→p5 x→c):c:=h.elim fun x h0=>k x h0.1 h0.2.1 h0.2.2.1 h0.2.2.2.1 h0.2.2.2.2
theorem KI {α:Sort _} {β:Sort _} {p1 p2:α→Prop} {p3 p4:α→β→Prop} {c:Prop} (h:∃ x,p1 x∧p2 x∧∃ y,p3 x y∧p4 x y) (k:∀ x,p1 x→p2 x→∀ y,p3 x y→p4 x y→c):c:=h.elim fun x h0=>h0.2.2.elim fun y h3=>k x h0.1 h0.2.1 y h3.1 h3.2
theorem Bk {α:Sort _} {β:Sort _} {p1 p2 p3 p4:α→β→Prop} {c:Prop} (h:∃ x,∃ y,p1 x y∧p2 x y∧p3 x y∧p4 x y) (k:∀ x,∀ y,p1 x y→p2 x y→p3 x y→p4 x y→c):c:=h.elim fun x h0=>h0.elim fun y h1=>k x y h1.1 h1.2.1 h1.2.2.1 h1.2.2.2
theorem Ql {α:Sort _} {β:Sort _} {γ:Sort _} {p1 p2:α→β→Prop} {p3:α→β→γ→Prop} {c:Prop} (h:∃ x,∃ y,p1 x y∧p2 x y∧∃ z,p3 x y z) (k:∀ x,∀ y,p1 x y→p2 x y→∀ z,p3 x y z→c):c:=h.elim fun x h0=>h0.elim fun y h1=>h1.2.2.elim fun z h4=>k x y h1.1 h1.2.1 z h4
theorem Af {α:Sort _} {β:Sort _} {γ:Sort _} {p1 p2 p3:α→β→γ→Prop} {c:Prop} (h:∃ x,∃ y,∃ z,p1 x y z∧p2 x y z∧p3 x y z) (k:∀ x,∀ y,∀ z,p1 x y z→p2 x y z→p3 x y z→c):c:=h.elim fun x h0=>h0.elim fun y h1=>h1.elim fun z h2=>k x y z h2.1 h2.2.1 h2.2.2
theorem Op {α:Sort _} {β:Sort _} {γ:Sort _} {δ:Sort _} {p1 p2:α→β→γ→δ→Prop} {c:Prop} (h:∃ x,∃ y,∃ z,∃ w,p1 x y z w∧p2 x y z w) (k:∀ x,∀ y,∀ z,∀ w,p1 x y z w→p2 x y z w→c):c:=h.elim fun x h0=>h0.elim fun y h1=>h1.elim fun z h2=>h2.elim fun w h3=>k x y z w h3.1 h3.2
theorem DG {α:Sort _} {β:Sort _} {p1:Prop} {p2 p3 p4 p5:α→β→Prop} {c:Prop} (h:p1∧∃ x,∃ y,p2 x y∧p3 x y∧p4 x y∧p5 x y) (k:p1→∀ x,∀ y,p2 x y→p3 x y→p4 x y→p5 x y→c):c:=h.2.elim fun x h1=>h1.elim fun y h2=>k h.1 x y h2.1 h2.2.1 h2.2.2.1 h2.2.2.2
theorem NA {α:Sort _} {β:Sort _} {p1 p2:α→Prop} {p3 p4 p5:α→β→Prop} {c:Prop} (h:∃ x,p1 x∧p2 x∧∃ y,p3 x y∧p4 x y∧p5 x y) (k:∀ x,p1 x→p2 x→∀ y,p3 x y→p4 x y→p5 x y→c):c:=h.elim fun x h0=>h0.2.2.elim fun y h3=>k x h0.1 h0.2.1 y h3.1 h3.2.1 h3.2.2
theorem HV {α:Sort _} {β:Sort _} {p1 p2 p3 p4 p5:α→β→Prop} {c:Prop} (h:∃ x,∃ y,p1 x y∧p2 x y∧p3 x y∧p4 x y∧p5 x y) (k:∀ x,∀ y,p1 x y→p2 x y→p3 x y→p4 x y→p5 x y→c):c:=h.elim fun x h0=>h0.elim fun y h1=>k x y h1.1 h1.2.1 h1.2.2.1 h1.2.2.2.1 h1.2.2.2.2
theorem CH {α:Sort _} {β:Sort _} {γ:Sort _} {p1 p2 p3 p4:α→β→γ→Prop} {c:Prop} (h:∃ x,∃ y,∃ z,p1 x y z∧p2 x y z∧p3 x y z∧p4 x y z) (k:∀ x,∀ y,∀ z,p1 x y z→p2 x y z→p3 x y z→p4 x y z→c):c:=h.elim fun x h0=>h0.elim fun y h1=>h1.elim fun z h2=>k x y z h2.1 h2.2.1 h2.2.2.1 h2.2.2.2
theorem Eo {α:Sort _} {β:Sort _} {γ:Sort _} {δ:Sort _} {p1:α→Prop} {p2 p3 p4:α→β→γ→δ→Prop} {c:Prop} (h:∃ x,p1 x∧∃ y,∃ z,∃ w,p2 x y z w∧p3 x y z w∧p4 x y z w) (k:∀ x,p1 x→∀ y,∀ z,∀ w,p2 x y z w→p3 x y z w→p4 x y z w→c):c:=h.elim fun x h0=>h0.2.elim fun y h2=>h2.elim fun z h3=>h3.elim fun w h4=>k x h0.1 y z w h4.1 h4.2.1 h4.2.2
theorem BQ {α:Sort _} {β:Sort _} {p1 p2 p3 p4 p5 p6:α→β→Prop} {c:Prop} (h:∃ x,∃ y,p1 x y∧p2 x y∧p3 x y∧p4 x y∧p5 x y∧p6 x y) (k:∀ x,∀ y,p1 x y→p2 x y→p3 x y→p4 x y→p5 x y→p6 x y→c):c:=h.elim fun x h0=>h0.elim fun y h1=>k x y h1.1 h1.2.1 h1.2.2.1 h1.2.2.2.1 h1.2.2.2.2.1 h1.2.2.2.2.2
theorem A6 {α:Sort _} {β:Sort _} {γ:Sort _} {p1 p2 p3 p4 p5:α→β→γ→Prop} {c:Prop} (h:∃ x,∃ y,∃ z,p1 x y z∧p2 x y z∧p3 x y z∧p4 x y z∧p5 x y z) (k:∀ x,∀ y,∀ z,p1 x y z→p2 x y z→p3 x y z→p4 x y z→p5 x y z→c):c:=h.elim fun x h0=>h0.elim fun y h1=>h1.elim fun z h2=>k x y z h2.1 h2.2.1 h2.2.2.1 h2.2.2.2.1 h2.2.2.2.2
theorem GO {α:Sort _} {β:Sort _} {γ:Sort _} {δ:Sort _} {p1 p2 p3 p4:α→β→γ→δ→Prop} {c:Prop} (h:∃ x,∃ y,∃ z,∃ w,p1 x y z w∧p2 x y z w∧p3 x y z w∧p4 x y z w) (k:∀ x,∀ y,∀ z,∀ w,p1 x y z w→p2 x y z w→p3 x y z w→p4 x y z w→c):c:=h.elim fun x h0=>h0.elim fun y h1=>h1.elim fun z h2=>h2.elim fun w h3=>k x y z w h3.1 h3.2.1 h3.2.2.1 h3.2.2.2
theorem DZ {α:Sort _} {β:Sort _} {γ:Sort _} {p1:Prop} {p2 p3 p4 p5 p6:α→β→γ→Prop} {c:Prop} (h:p1∧∃ x,∃ y,∃ z,p2 x y z∧p3 x y z∧p4 x y z∧p5 x y z∧p6 x y z) (k:p1→∀ x,∀ y,∀ z,p2 x y z→p3 x y z→p4 x y z→p5 x y z→p6 x y z→c):c:=h.2.elim fun x h1=>h1.elim fun y h2=>h2.elim fun z h3=>k h.1 x y z h3.1 h3.2.1 h3.2.2.1 h3.2.2.2.1 h3.2.2.2.2
theorem Jh {α:Sort _} {β:Sort _} {p1 p2 p3 p4 p5 p6 p7:α→β→Prop} {c:Prop} (h:∃ x,∃ y,p1 x y∧p2 x y∧p3 x y∧p4 x y∧p5 x y∧p6 x y∧p7 x y) (k:∀ x,∀ y,p1 x y→p2 x y→p3 x y→p4 x y→p5 x y→p6 x y→p7 x y→c):c:=h.elim fun x h0=>h0.elim fun y h1=>k x y h1.1 h1.2.1 h1.2.2.1 h1.2.2.2.1 h1.2.2.2.2.1 h1.2.2.2.2.2.1 h1.2.2.2.2.2.2
theorem KB {α:Sort _} {β:Sort _} {γ:Sort _} {δ:Sort _} {ε:Sort _} {p1 p2 p3 p4:α→β→γ→δ→ε→Prop} {c:Prop} (h:∃ x,∃ y,∃ z,∃ w,∃ v,p1 x y z w v∧p2 x y z w v∧p3 x y z w v∧p4 x y z w v) (k:∀ x,∀ y,∀ z,∀ w,∀ v,p1 x y z w v→p2 x y z w v→p3 x y z w v→p4 x y z w v→c):c:=h.elim fun x h0=>h0.elim fun y h1=>h1.elim fun z h2=>h2.elim fun w h3=>h3.elim fun v h4=>k x y z w v h4.1 h4.2.1 h4.2.2.1 h4.2.2.2
theorem JY {α:Sort _} {β:Sort _} {γ:Sort _} {p1:α→Prop} {p2 p3:α→β→Prop} {p4 p5 p6 p7:α→β→γ→Prop} {c:Prop} (h:∃ x,p1 x∧∃ y,p2 x y∧p3 x y∧∃ z,p4 x y z∧p5 x y z∧p6 x y z∧p7 x y z) (k:∀ x,p1 x→∀ y,p2 x y→p3 x y→∀ z,p4 x y z→p5 x y z→p6 x y z→p7 x y z→c):c:=h.elim fun x h0=>h0.2.elim fun y h2=>h2.2.2.elim fun z h5=>k x h0.1 y h2.1 h2.2.1 z h5.1 h5.2.1 h5.2.2.1 h5.2.2.2
theorem DM {α:Sort _} {β:Sort _} {γ:Sort _} {p1 p2 p3 p4 p5 p6 p7:α→β→γ→Prop} {c:Prop} (h:∃ x,∃ y,∃ z,p1 x y z∧p2 x y z∧p3 x y z∧p4 x y z∧p5 x y z∧p6 x y z∧p7 x y z) (k:∀ x,∀ y,∀ z,p1 x y z→p2 x y z→p3 x y z→p4 x y z→p5 x y z→p6 x y z→p7 x y z→c):c:=h.elim fun x h0=>h0.elim fun y h1=>h1.elim fun z h2=>k x y z h2.1 h2.2.1 h2.2.2.1 h2.2.2.2.1 h2.2.2.2.2.1 h2.2.2.2.2.2.1 h2.2.2.2.2.2.2
theorem JH {α:Sort _} {β:Sort _} {γ:Sort _} {δ:Sort _} {ε:Sort _} {p1 p2 p3 p4 p5:α→β→γ→δ→ε→Prop} {c:Prop} (h:∃ x,∃ y,∃ z,∃ w,∃ v,p1 x y z w v∧p2 x y z w v∧p3 x y z w v∧p4 x y z w v∧p5 x y z w v) (k:∀ x,∀ y,∀ z,∀ w,∀ v,p1 x y z w v→p2 x y z w v→p3 x y z w v→p4 x y z w v→p5 x y z w v→c):c:=h.elim fun x h0=>h0.elim fun y h1=>h1.elim fun z h2=>h2.elim fun w h3=>h3.elim fun v h4=>k x y z w v h4.1 h4.2.1 h4.2.2.1 h4.2.2.2.1 h4.2.2.2.2
theorem HI {α:Sort _} {β:Sort _} {γ:Sort _} {δ:Sort _} {p1 p2 p3 p4 p5 p6 p7:α→β→γ→δ→Prop} {c:Prop} (h:∃ x,∃ y,∃ z,∃ w,p1 x y z w∧p2 x y z w∧p3 x y z w∧p4 x y z w∧p5 x y z w∧p6 x y z w∧p7 x y z w) (k:∀ x,∀ y,∀ z,∀ w,p1 x y z w→p2 x y z w→p3 x y z w→p4 x y z w→p5 x y z w→p6 x y z w→p7 x y z w→c):c:=h.elim fun x h0=>h0.elim fun y h1=>h1.elim fun z h2=>h2.elim fun w h3=>k x y z w h3.1 h3.2.1 h3.2.2.1 h3.2.2.2.1 h3.2.2.2.2.1 h3.2.2.2.2.2.1 h3.2.2.2.2.2.2
theorem GP {α:Sort _} {β:Sort _} {γ:Sort _} {p1 p2 p3 p4 p5 p6:α→β→Prop} {p7 p8 p9:α→β→γ→Prop} {c:Prop} (h:∃ x,∃ y,p1 x y∧p2 x y∧p3 x y∧p4 x y∧p5 x y∧p6 x y∧∃ z,p7 x y z∧p8 x y z∧p9 x y z) (k:∀ x,∀ y,p1 x y→p2 x y→p3 x y→p4 x y→p5 x y→p6 x y→∀ z,p7 x y z→p8 x y z→p9 x y z→c):c:=h.elim fun x h0=>h0.elim fun y h1=>h1.2.2.2.2.2.2.elim fun z h8=>k x y h1.1 h1.2.1 h1.2.2.1 h1.2.2.2.1 h1.2.2.2.2.1 h1.2.2.2.2.2.1 z h8.1 h8.2.1 h8.2.2
theorem GR {α:Sort _} {β:Sort _} {γ:Sort _} {δ:Sort _} {ε:Sort _} {ζ:Sort _} {p1 p2 p3 p4 p5 p6:α→β→γ→δ→ε→ζ→Prop} {c:Prop} (h:∃ x,∃ y,∃ z,∃ w,∃ v,∃ u,p1 x y z w v u∧p2 x y z w v u∧p3 x y z w v u∧p4 x y z w v u∧p5 x y z w v u∧p6 x y z w v u) (k:∀ x,∀ y,∀ z,∀ w,∀ v,∀ u,p1 x y z w v u→p2 x y z w v u→p3 x y z w v u→p4 x y z w v u→p5 x y z w v u→p6 x y z w v u→c):c:=h.elim fun x h0=>h0.elim fun y h1=>h1.elim fun z h2=>h2.elim fun w h3=>h3.elim fun v h4=>h4.elim fun u h5=>k x y z w v u h5.1 h5.2.1 h5.2.2.1 h5.2.2.2.1 h5.2.2.2.2.1 h5.2.2.2.2.2
theorem F4 {α:Sort _} {β:Sort _} {p1 p2 p3 p4 p5 p6 p7 p8 p9 p10 p11:α→β→Prop} {c:Prop} (h:∃ x,∃ y,p1 x y∧p2 x y∧p3 x y∧p4 x y∧p5 x y∧p6 x y∧p7 x y∧p8 x y∧p9 x y∧p10 x y∧p11 x y) (k:∀ x,∀ y,p1 x y→p2 x y→p3 x y→p4 x y→p5 x y→p6 x y→p7 x y→p8 x y→p9 x y→p10 x y→p11 x y→c):c:=h.elim fun x h0=>h0.elim fun y h1=>k x y h1.1 h1.2.1 h1.2.2.1 h1.2.2.2.1 h1.2.2.2.2.1 h1.2.2.2.2.2.1 h1.2.2.2.2.2.2.1 h1.2.2.2.2.2.2.2.1 h1.2.2.2.2.2.2.2.2.1 h1.2.2.2.2.2.2.2.2.2.1 h1.2.2.2.2.2.2.2.2.2.2
theorem Bn {α:Sort _} {β:Sort _} {γ:Sort _} {δ:Sort _} {ε:Sort _} {ζ:Sort _} {p1 p2 p3 p4 p5 p6 p7:α→β→γ→δ→ε→ζ→Prop} {c:Prop} (h:∃ x,∃ y,∃ z,∃ w,∃ v,∃ u,p1 x y z w v u∧p2 x y z w v u∧p3 x y z w v u∧p4 x y z w v u∧p5 x y z w v u∧p6 x y z w v u∧p7 x y z w v u) (k:∀ x,∀ y,∀ z,∀ w,∀ v,∀ u,p1 x y z w v u→p2 x y z w v u→p3 x y z w v u→p4 x y z w v u→p5 x y z w v u→p6 x y z w v u→p7 x y z w v u→c):c:=h.elim fun x h0=>h0.elim fun y h1=>h1.elim fun z h2=>h2.elim fun w h3=>h3.elim fun v h4=>h4.elim fun u h5=>k x y z w v u h5.1 h5.2.1 h5.2.2.1 h5.2.2.2.1 h5.2.2.2.2.1 h5.2.2.2.2.2.1 h5.2.2.2.2.2.2
theorem A2 {α1:Sort _} {α2:Sort _} {α3:Sort _} {α4:Sort _} {α5:Sort _} {α6:Sort _} {α7:Sort _} {α8:Sort _} {α9:Sort _} {α10:Sort _} {α11:Sort _} {α12:Sort _} {p1:α1→α2→α3→α4→α5→α6→α7→α8→α9→α10→α11→α12→Prop} {c:Prop} (h:∃ x1,∃ x2,∃ x3,∃ x4,∃ x5,∃ x6,∃ x7,∃ x8,∃ x9,∃ x10,∃ x11,∃ x12,p1 x1 x2 x3 x4 x5 x6 x7 x8 x9 x10 x11 x12) (k:∀ x1,∀ x2,∀ x3,∀ x4,∀ x5,∀ x6,∀ x7,∀ x8,∀ x9,∀ x10,∀ x11,∀ x12,p1 x1 x2 x3 x4 x5 x6 x7 x8 x9 x10 x11 x12→c):c:=h.elim fun x1 h0=>h0.elim fun x2 h1=>h1.elim fun x3 h2=>h2.elim fun x4 h3=>h3.elim fun x5 h4=>h4.elim fun x6 h5=>h5.elim fun x7 h6=>h6.elim fun x8 h7=>h7.elim fun x9 h8=>h8.elim fun x10 h9=>h9.elim fun x11 h10=>h10.elim fun x12 h11=>k x1 x2 x3 x4 x5 x6 x7 x8 x9 x10 x11 x12 h11
theorem C8 {α:Sort _} {β:Sort _} {γ:Sort _} {δ:Sort _} {p1 p2 p3 p4 p5 p6 p7 p8 p9 p10:α→β→γ→δ→Prop} {c:Prop} (h:∃ x,∃ y,∃ z,∃ w,p1 x y z w∧p2 x y z w∧p3 x y z w∧p4 x y z w∧p5 x y z w∧p6 x y z w∧p7 x y z w∧p8 x y z w∧p9 x y z w∧p10 x y z w) (k:∀ x,∀ y,∀ z,∀ w,p1 x y z w→p2 x y z w→p3 x y z w→p4 x y z w→p5 x y z w→p6 x y z w→p7 x y z w→p8 x y z w→p9 x y z w→p10 x y z w→c):c:=h.elim fun x h0=>h0.elim fun y h1=>h1.elim fun z h2=>h2.elim fun w h3=>k x y z w h3.1 h3.2.1 h3.2.2.1 h3.2.2.2.1 h3.2.2.2.2.1 h3.2.2.2.2.2.1 h3.2.2.2.2.2.2.1 h3.2.2.2.2.2.2.2.1 h3.2.2.2.2.2.2.2.2.1 h3.2.2.2.2.2.2.2.2.2
theorem Fu {α1:Sort _} {α2:Sort _} {α3:Sort _} {α4:Sort _} {α5:Sort _} {α6:Sort _} {α7:Sort _} {α8:Sort _} {α9:Sort _} {p1 p2 p3 p4 p5:α1→α2→α3→α4→α5→α6→α7→α8→α9→Prop} {c:Prop} (h:∃ x1,∃ x2,∃ x3,∃ x4,∃ x5,∃ x6,∃ x7,∃ x8,∃ x9,p1 x1 x2 x3 x4 x5 x6 x7 x8 x9∧p2 x1 x2 x3 x4 x5 x6 x7 x8 x9∧p3 x1 x2 x3 x4 x5 x6 x7 x8 x9∧p4 x1 x2 x3 x4 x5 x6 x7 x8 x9∧p5 x1 x2 x3 x4 x5 x6 x7 x8 x9) (k:∀ x1,∀ x2,∀ x3,∀ x4,∀ x5,∀ x6,∀ x7,∀ x8,∀ x9,p1 x1 x2 x3 x4 x5 x6 x7 x8 x9→p2 x1 x2 x3 x4 x5 x6 x7 x8 x9→p3 x1 x2 x3 x4 x5 x6 x7 x8 x9→p4 x1 x2 x3 x4 x5 x6 x7 x8 x9→p5 x1 x2 x3 x4 x5 x6 x7 x8 x9→c):c:=h.elim fun x1 h0=>h0.elim fun x2 h1=>h1.elim fun x3 h2=>h2.elim fun x4 h3=>h3.elim fun x5 h4=>h4.elim fun x6 h5=>h5.elim fun x7 h6=>h6.elim fun x8 h7=>h7.elim fun x9 h8=>k x1 x2 x3 x4 x5 x6 x7 x8 x9 h8.1 h8.2.1 h8.2.2.1 h8.2.2.2.1 h8.2.2.2.2
theorem C2 {α1:Sort _} {α2:Sort _} {α3:Sort _} {α4:Sort _} {α5:Sort _} {α6:Sort _} {α7:Sort _} {α8:Sort _} {α9:Sort _} {α10:Sort _} {α11:Sort _} {α12:Sort _} {α13:Sort _} {α14:Sort _} {α15:Sort _} {α16:Sort _} {α17:Sort _} {p1 p2 p3 p4:α1→α2→α3→α4→α5→α6→α7→α8→α9→α10→α11→α12→α13→α14→α15→α16→α17→Prop} {c:Prop} (h:∃ x1,∃ x2,∃ x3,∃ x4,∃ x5,∃ x6,∃ x7,∃ x8,∃ x9,∃ x10,∃ x11,∃ x12,∃ x13,∃ x14,∃ x15,∃ x16,∃ x17,p1 x1 x2 x3 x4 x5 x6 x7 x8 x9 x10 x11 x12 x13 x14 x15 x16 x17∧p2 x1 x2 x3 x4 x5 x6 x7 x8 x9 x10 x11 x12 x13 x14 x15 x16 x17∧p3 x1 x2 x3 x4 x5 x6 x7 x8 x9 x10 x11 x12 x13 x14 x15 x16 x17∧p4 x1 x2 x3 x4 x5 x6 x7 x8 x9 x10 x11 x12 x13 x14 x15 x16 x17) (k:∀ x1,∀ x2,∀ x3,∀ x4,∀ x5,∀ x6,∀ x7,∀ x8,∀ x9,∀ x10,∀ x11,∀ x12,∀ x13,∀ x14,∀ x15,∀ x16,∀ x17,p1 x1 x2 x3 x4 x5 x6 x7 x8 x9 x10 x11 x12 x13 x14 x15 x16 x17→p2 x1 x2 x3 x4 x5 x6 x7 x8 x9 x10 x11 x12 x13 x14 x15 x16 x17→p3 x1 x2 x3 x4 x5 x6 x7 x8 x9 x10 x11 x12 x13 x14 x15 x16 x17→p4 x1 x2 x3 x4 x5 x6 x7 x8 x9 x10 x11 x12 x13 x14 x15 x16 x17→c):c:=h.elim fun x1 h0=>h0.elim fun x2 h1=>h1.elim fun x3 h2=>h2.elim fun x4 h3=>h3.elim fun x5 h4=>h4.elim fun x6 h5=>h5.elim fun x7 h6=>h6.elim fun x8 h7=>h7.elim fun x9 h8=>h8.elim fun x10 h9=>h9.elim fun x11 h10=>h10.elim fun x12 h11=>h11.elim fun x13 h12=>h12.elim fun x14 h13=>h13.elim fun x15 h14=>h14.elim fun x16 h15=>h15.elim fun x17 h16=>k x1 x2 x3 x4 x5 x6 x7 x8 x9 x10 x11 x12 x13 x14 x15 x16 x17 h16.1 h16.2.1 h16.2.2.1 h16.2.2.2
end Mine.Internal
namespace Mine.Internal
open PySem PySem.Calls PySem.W PyProof.Rows
noncomputable def F8 (p:Program) (w:World) (n₀:Nat) (ann:Option Value):Nat→SharedT→Thread→Option SharedT
 | 0,_,_=>none
 | n+1,s,t=>match through t with
  | true=>some s
  | false=>match PySem.W.Fast.tw6613529449190102663 n₀ ann t with
   | false=>none
   | true=>match PySem.W.Fast.tw10156331382660048174 (PySem.W.Fast.tw11892475500146522536 PySem.W.Fast.tw14364793385576792824) p w s t with
    | some (s',t')=>F8 p w n₀ ann n s' t'
    | none=>none
theorem G4:∀ {n:Nat} {s s':SharedT} {t:Thread},F8 p w n₀ ann n s t=some s'→topRun treeTable p w n₀ ann n s.abs t=some s'.abs
 | 0,_,_,_,h=>by cases h
 | n+1,s,s',t,h=>by
  unfold F8 at h
  unfold topRun
  rw [← PySem.W.Fast.te6613529449190102663,← PySem.W.Fast.te10156331382660048174,← PySem.W.Fast.te11892475500146522536,← PySem.W.Fast.te14364793385576792824] at h
  cases he:through t with
  | true=>rw [he] at h;cases h;rfl
  | false=>
   rw [he] at h
   cases hk:stepOk n₀ ann t with
   | false=>rw [hk] at h;cases h
   | true=>
    rw [hk] at h
    cases hs:stepT (denote treeTable) p w s t with
    | none=>rw [hs] at h;cases h
    | some r=>obtain ⟨s₂,t₂⟩:=r;rw [hs] at h;rw [stepT_spec hs];exact G4 h
noncomputable def Gs (P:Params):BT:=((boot_heap P).objs.toList.foldl (fun (x:BT × Nat) o=>(x.1.ins x.2 o,x.2+1)) (BT.nil,0)).1
theorem Kg (P:Params):boot_heap P=absHeap (Gs P) 11 {}:=by kernel_rfl
end Mine.Internal
namespace Mine.Internal
open PySem
noncomputable def Ris (xs:Array Nat):Prop:=xs.toList.Pairwise (·<·)
theorem O8 (xs:Array Nat) (k:Nat):xs.getD k 0=(xs[k]?).getD 0:=by rw [Array.getD_eq_getD_getElem?]
theorem CA {xs:Array Nat} {i:Nat} (d:Nat) (h:i<xs.size):xs.getD i d=xs.toList[i]:=by
 rw [Array.getD_eq_getD_getElem?,Array.getElem?_eq_getElem h];rfl
theorem Ris.lt {xs:Array Nat} (R:Ris xs) {i j:Nat} (h:i<j) (hj:j<xs.size):xs.getD i 0<xs.getD j 0:=by
 rw [CA 0 hj,CA 0 (Nat.lt_trans h hj)]
 exact List.pairwise_iff_getElem.mp R i j (Nat.lt_trans h hj) hj h
theorem Ris.le (R:Ris xs) (h:i≤k) (h':k<xs.size):xs.getD i 0≤xs.getD k 0:=
 (Nat.lt_or_eq_of_le h).elim (fun h=>Nat.le_of_lt (R.lt h h')) fun e=>e▸Nat.le_refl _
noncomputable def Me (xs:Array Nat) (j r:Nat):Prop:=r≤xs.size∧(∀ i,i<r→xs.getD i 0<j)∧∀ i,r≤i→i<xs.size→j≤xs.getD i 0
theorem O4 {xs:Array Nat} {j:Nat} (R:Ris xs) (f:Nat):∀ lo hi:Nat,lo≤hi→hi≤xs.size→hi≤lo+f→(∀ i,i<lo→xs.getD i 0<j)→(∀ i,hi≤i→i<xs.size→j≤xs.getD i 0)→Me xs j (SetTable.below.go xs j f lo hi):=by
 induction f with
 | zero=>exact fun lo hi h1 h2 h3 a b=>⟨Nat.le_trans h1 h2,a,fun i h=>b i (Nat.le_trans h3 h)⟩
 | succ f ih=>
  intro lo hi h1 h2 h3 a b
  by_cases hlt:lo<hi
  ·have m1:lo≤(lo+hi) / 2:=(Nat.le_div_iff_mul_le (by decide)).mpr (by rw [Nat.mul_two];exact Nat.add_le_add_left h1 lo)
   have m2:(lo+hi) / 2<hi:=Nat.div_lt_of_lt_mul (by rw [Nat.two_mul];exact Nat.add_lt_add_right hlt hi)
   have hm:=Nat.lt_of_lt_of_le m2 h2
   by_cases hc:xs.getD ((lo+hi) / 2) j<j
   ·rw [show SetTable.below.go xs j (f+1) lo hi=SetTable.below.go xs j f ((lo+hi) / 2+1) hi from (if_pos hlt).trans (if_pos hc)]
    rw [CA j hm,← CA 0 hm] at hc
    exact ih _ hi m2 h2 (by rw [Nat.add_right_comm];exact Nat.le_trans h3 (Nat.add_le_add_right m1 (f+1))) (fun i h=>Nat.lt_of_le_of_lt (R.le (Nat.le_of_lt_succ h) hm) hc) b
   ·rw [show SetTable.below.go xs j (f+1) lo hi=SetTable.below.go xs j f lo ((lo+hi) / 2) from (if_pos hlt).trans (if_neg hc)]
    rw [CA j hm,← CA 0 hm] at hc
    exact ih lo _ m1 (Nat.le_of_lt hm) (Nat.le_of_lt_succ (Nat.lt_of_lt_of_le m2 h3)) a fun i h4 h5=>Nat.le_trans (Nat.le_of_not_lt hc) (R.le h4 h5)
  ·rw [show SetTable.below.go xs j (f+1) lo hi=lo from if_neg hlt]
   exact ⟨Nat.le_trans h1 h2,a,fun i h=>b i (Nat.le_trans (Nat.le_of_not_lt hlt) h)⟩
theorem Gq (R:Ris xs):Me xs j (SetTable.below xs j):=
 O4 R xs.size 0 xs.size (Nat.zero_le _) (Nat.le_refl _) (Nat.le_add_left _ _) (fun i h=>absurd h (Nat.not_lt_zero _)) fun i h h'=>absurd h' (Nat.not_lt.mpr h)
theorem LX (R:Ris xs) (h:i<xs.size):SetTable.below xs (xs.getD i 0+1)=i+1:=by
 have k:=Gq (j:=xs.getD i 0+1) R
 exact Nat.le_antisymm (Nat.not_lt.mp fun h1=>Nat.not_lt.mpr (R.lt (Nat.lt_succ_self i) (Nat.lt_of_lt_of_le h1 k.1)) (k.2.1 (i+1) h1)) (Nat.not_lt.mp fun h1=>Nat.lt_irrefl _ (k.2.2 i (Nat.le_of_lt_succ h1) h))
theorem K0 (R:Ris xs):SetTable.below xs 0=0:=Nat.eq_zero_of_not_pos fun h=>Nat.not_lt_zero _ ((Gq R).2.1 0 h)
theorem Lb {xs:Array Nat} {j:Nat} (R:Ris xs) (hj:xs[SetTable.below xs j]?≠some j):Ris (SetTable.insertAt xs (SetTable.below xs j) j):=by
 refine A7 (Gq (j:=j) R) fun a b c=>?_
 unfold Ris
 rw [SetTable.toList_insertAt]
 generalize SetTable.below xs j=p at *
 have hb:∀ x∈xs.toList.take p,x<j:=fun x hx=>(List.mem_take_iff_getElem.mp hx).elim fun i h=>h.elim fun h e=>by
  have h:=Nat.lt_min.mp h
  have:=b i h.1
  rw [CA 0 h.2] at this;exact e▸this
 have hc:∀ x∈xs.toList.drop p,j<x:=fun x hx=>(List.mem_drop_iff_getElem.mp hx).elim fun i h=>h.elim fun h e=>by
  have h:p+i<xs.size:=Nat.add_comm i p▸h
  have h1:=c (p+i) (Nat.le_add_right _ _) h
  rw [CA 0 h] at h1
  refine Nat.lt_of_le_of_ne (e▸h1) fun e'=>?_
  have hp:=Nat.lt_of_le_of_lt (Nat.le_add_right p i) h
  have h2:=c p (Nat.le_refl _) hp
  rw [CA 0 hp] at h2
  refine (Nat.eq_zero_or_pos i).elim (fun z=>?_) fun z=>?_
  ·subst z
   exact hj (by rw [e',← e];exact Array.getElem?_eq_getElem hp)
  ·have h3:=R.lt (Nat.lt_add_of_pos_right z) h
   rw [CA 0 h,CA 0 hp] at h3
   exact Nat.lt_irrefl _ (Nat.lt_of_le_of_lt h2 (Nat.lt_of_lt_of_eq h3 (e.trans e'.symm)))
 exact List.pairwise_append.mpr ⟨R.sublist (List.take_sublist ..),List.pairwise_cons.mpr ⟨hc,R.sublist (List.drop_sublist ..)⟩,fun x hx=>List.forall_mem_cons.mpr ⟨hb x hx,fun y hy=>Nat.lt_trans (hb x hx) (hc y hy)⟩⟩
theorem No (n:Nat):Ris (Array.range n):=by unfold Ris;rw [Array.toList_range];exact List.pairwise_lt_range
noncomputable def Mo (t:SetTable) (j:Nat):Prop:=t.place[SetTable.below t.place j]?≠some j
theorem N7 (h:∀ i,t.slot j≠.live i):Mo t j:=fun e=>by
 refine h (SetTable.below t.place j) ?_
 unfold SetTable.slot
 simp [e]
theorem EP {t:SetTable} {p:SetTable.Probe}:(t.advance p).dummy=p.dummy:=by
 unfold SetTable.advance
 split <;> rfl
noncomputable def Jb (t:SetTable):Option SetTable.Met→Prop
 | some (.empty j d)=>Mo t j∧∀ e,d=some e→Mo t e
 | _=>True
theorem K7 {t:SetTable} {f:Nat→Int} {h:Int} (n:Nat):∀ p:SetTable.Probe,(∀ e,p.dummy=some e→Mo t e)→Jb t (SetTable.probe.go t f h n p):=by
 induction n with
 | zero=>exact fun _ _=>trivial
 | succ n ih=>
  intro p hp
  have hf:(∀ i,t.slot p.j≠.live i)→Mo t p.j:=N7
  show Jb t (match t.slot p.j with
   | .empty=>some (.empty p.j p.dummy)
   | .dummy=>SetTable.probe.go t f h n (t.advance { p with dummy:=some p.j })
   | .live i=>if f i==h then some (.candidate p.j i (t.advance p)) else SetTable.probe.go t f h n (t.advance p))
  generalize t.slot p.j=s at hf ⊢
  cases s with
  | empty=>exact ⟨hf nofun,hp⟩
  | dummy=>exact ih _ fun e he=>Option.some.inj (EP.symm.trans he)▸hf nofun
  | live i=>
   show Jb t (if f i==h then _ else _)
   by_cases hc:(f i==h)=true
   ·rw [if_pos hc];trivial
   ·rw [if_neg hc];exact ih _ fun e he=>hp e (EP.symm.trans he)
theorem HP (e:t.freeSlot h=some (j,b)):Mo t j:=by
 have k:=K7 (t:=t) (f:=fun _=>h+1) (h:=h) (10*SetTable.turns t.mask) (t.probeStart h) nofun
 unfold SetTable.freeSlot SetTable.probe at e
 generalize SetTable.probe.go t (fun _=>h+1) h (10*SetTable.turns t.mask) (t.probeStart h)=m at k e
 cases m with
 | none=>cases e
 | some m=>
  cases m with
  | candidate=>cases e
  | empty j' d=>
   cases d with
   | none=>cases e;exact k.1
   | some x=>cases e;exact k.2 x rfl
theorem Cq {t:SetTable} {n:Nat}:Ris (t.standIn n).place:=No n
theorem HQ {t:SetTable} {n:Nat} (R:Ris t.place):Ris (t.orStandIn n).place∧(t.orStandIn n).led=t.led:=by
 unfold SetTable.orStandIn
 split
 ·exact ⟨R,rfl⟩
 ·exact ⟨Cq,rfl⟩
theorem LV {t:SetTable} {es:Array (Int × Value)} {h:Int} {x:Value} (R:Ris t.place):Ris (layNew t es h x).2.1.place∧(layNew t es h x).2.1.led=t.led:=by
 unfold layNew
 split
 ·rename_i slot wd hf
  have hr:Ris (t.put slot).1.place:=Lb R (HP hf)
  exact HQ (t:=(t.put slot).1) hr
 ·exact ⟨Cq,rfl⟩
theorem Qj {g:Nat→Option Nat} (n:Nat):Ris ((((List.range n).filterMap fun j=>(g j).map (j,·)).map (·.1)).toArray):=by
 have hp:(((List.range n).filterMap fun j=>(g j).map (j,·)).map (·.1)).Pairwise (·<·):=by
  rw [List.pairwise_map,List.pairwise_filterMap]
  refine List.pairwise_lt_range.imp fun {a b} hab x hx y hy=>?_
  refine AF (Option.map_eq_some_iff.mp hx) fun u _ ze1=>?_;subst ze1
  refine AF (Option.map_eq_some_iff.mp hy) fun v _ ze1=>?_;subst ze1
  exact hab
 exact hp
theorem Iq {n:Nat}:Ris (relayAll t es n).2.1.place∧(relayAll t es n).2.1.led=t.led:=by
 unfold relayAll
 split
 ·rename_i t' order hr
  have key:Ris t'.place∧t'.led=t.led:=by
   unfold SetTable.relaid SetTable.laid at hr
   simp only [Option.bind_eq_bind,Option.pure_def,Option.bind_eq_some_iff,Option.some.injEq,Prod.mk.injEq] at hr
   refine Ae hr fun owner _ ze1 _=>?_;subst ze1
   exact ⟨Qj _,rfl⟩
  dsimp only
  split
  ·exact key
  ·exact ⟨Cq,rfl⟩
 ·exact ⟨Cq,rfl⟩
end Mine.Internal
namespace Mine.Internal
open PySem PySem.Spec PyProof.Rows
section
variable {prog:Program} {w:World} {A:Around} {E:Value→Shared→Prop} {s:Shared}
noncomputable def Cj (es:Array (Int × Value)):List Int:=es.toList.map fun e=>numOf e.2
variable (prog w) in
noncomputable def SetR (h:Heap) (a:Addr) (led:Bool) (ks:List Int):Prop:=
 ∃ o es ep t,h.get? a=some o∧o.ExactSet∧o.data=.set es ep t∧ElemsOf (intKind prog w) es.toList∧ks=Cj es∧ks.Nodup∧es.size<scanBound∧t.fits es.size=true∧Ris t.place∧t.led=led
theorem J5 (h:ElemsOf (intKind prog w) es) (he:e∈es):∃ t,e.2=.int (numOf e.2) t:=by
 obtain ⟨⟨k,hk,_⟩,_⟩:=h e he
 refine AX (Value.isInt_shape hk) fun t ht=>?_
 exact ⟨t,by rw [ht];rfl⟩
theorem Om (h:ElemsOf (intKind prog w) es) (he:e∈es):(intKind prog w).is k e.2=true↔numOf e.2=k:=by
 refine AX (J5 h he) fun t ht=>?_
 rw [ht]
 constructor
 ·intro hk
  have hk:Value.isInt k (Value.int (numOf e.2) t)=true:=hk
  refine AX (Value.isInt_shape hk) fun t' e'=>?_
  cases e';rfl
 ·intro hk
  have:numOf e.2=k:=by simpa [numOf] using hk
  rw [this];exact intKind_is _ _ _ _
theorem Kj {g:Bool→Sem Unit} (hg:∀ (b:Bool) (s₁:Shared) (Q':Unit→Shared→Prop),Q' () s₁→wpAny (model prog w) A (g b) Q' E s₁) {ep:Nat} (ho:s.heap.get? a=some o) (hex:o.ExactSet) (hd:o.data=.set es ep t) (hel1:ElemsOf (intKind prog w) es1.toList) (hnd:(Cj es1).Nodup) (hb1:es1.size<scanBound) (hf2:t2.fits es1.size=true) (hr:Ris t2.place) {led:Bool} (hled:t2.led=led)
  {wasDummy:Bool} {R:Option Bool→Shared→Prop}
  (h:∀ h' ks',Heap.SameBut a s.heap h'→SetR prog w h' a led ks'→ks'.Perm (Cj es1)→R (some true) { s with heap:=h' }) :
  wpAny (model prog w) A (do
    storeSet a es1 t2
    if (!wasDummy&&t2.tooFull)=true then do
      g (relayAll t2 es1 (SetTable.grown es1.size)).2.2
      storeSet a (relayAll t2 es1 (SetTable.grown es1.size)).1 (relayAll t2 es1 (SetTable.grown es1.size)).2.1
      pure (some true)
     else pure (some true)) R E s:=by
 have stored:∀ {h₁:Heap} {o₁:Obj} {es₁:Array (Int × Value)} {ep₁:Nat} {t₁:SetTable} (es':Array (Int × Value)) (t':SetTable),h₁.get? a=some o₁→o₁.data=.set es₁ ep₁ t₁ →
   (h₁.update a (Obj.putSet es' t')).get? a=some { o₁ with data:=.set es' (ep₁+1) t' }:=fun es' t' h1 h2=>by
  have:=Heap.get?_update_self (Obj.putSet es' t') h1 (by rw [putSet_of es' t' h2];rfl)
  rw [putSet_of es' t' h2] at this;exact this
 refine wpAny_bind (wpAny_storeSet_of ho hd ?_ (fits_of_scanBound hb1))
 have ho1:=stored es1 t2 ho hd
 have hsb1:=Heap.SameBut.update s.heap a (Obj.putSet es1 t2)
 split
 ·have hp:=relayAll_perm t2 es1 (SetTable.grown es1.size)
  have hfr:=relayAll_fits t2 es1 (SetTable.grown es1.size)
  have hrr:=Iq (t:=t2) (es:=es1) (n:=SetTable.grown es1.size)
  generalize relayAll t2 es1 (SetTable.grown es1.size)=Rl at hp hfr hrr ⊢
  obtain ⟨es2,t3,gave2⟩:=Rl
  dsimp only at hp hfr hrr ⊢
  have hsz:es2.size=es1.size:=by rw [← Array.length_toList,hp.length_eq,Array.length_toList]
  have hb2:es2.size<scanBound:=by rw [hsz];exact hb1
  have hk:(Cj es2).Perm (Cj es1):=hp.map _
  refine wpAny_bind (hg _ _ _ ?_)
  refine wpAny_bind (wpAny_storeSet_of ho1 rfl ?_ (fits_of_scanBound hb2))
  exact wpAny_pure (h _ (Cj es2) (hsb1.trans (Heap.SameBut.update _ a _)) ⟨_,es2,_,t3,stored es2 t3 ho1 rfl,hex,rfl,hel1.perm hp,rfl,hk.nodup_iff.mpr hnd,hb2,hfr,hrr.1,hrr.2.trans hled⟩ hk)
 ·exact wpAny_pure (h _ (Cj es1) hsb1 ⟨_,es1,_,t2,ho1,hex,rfl,hel1,rfl,hnd,hb1,hf2,hr,hled⟩ (List.Perm.refl _))
theorem S3 (S:SetR prog w s.heap a led ks) (hroom:ks.length+1<scanBound)
  (h:∀ h' ks' b,Heap.SameBut a s.heap h'→SetR prog w h' a led ks'→(∀ x,x∈ks'↔x∈ks∨x=k)→ks'.length≤ks.length+1→Q b { s with heap:=h' }) :
  wpAny (model prog w) A (setAddHashed a (.int k tk) ((intKind prog w).hash k)) Q E s:=by
 refine C8 (id S) fun o es ep t ho hex hd hel hks hnd hb hf hr hled=>?_
 have hlen:ks.length=es.size:=by rw [hks];simp [Cj]
 have hkey:=intKind_is prog w k tk
 have hsc:(Value.int k tk).scannable=true:=rfl
 unfold setAddHashed setAddHashedIn
 refine wpAny_holding (wpAny_bind (wpAny_setState_of ho hd hf ?_))
 dsimp only
 rw [byScan_of hsc hb hel]
 simp only [↓reduceIte]
 unfold setAddByScan
 refine wpAny_bind ?_
 refine wpAny_bind (wpAny_rule ?_)
 refine wpAny_bind (wpAny_setScan_of hkey ho hd hf hel ?_)
 cases hi:List.findIdx? (fun e=>(intKind prog w).is k e.2) es.toList with
 | some j=>
  dsimp only
  refine AF (List.findIdx?_eq_some_iff_getElem.mp hi) fun hj hpj _=>?_
  have hm:k∈ks:=by
   rw [hks]
   exact List.mem_map.mpr ⟨es.toList[j],List.getElem_mem hj,(Om hel (List.getElem_mem hj)).mp hpj⟩
  refine wpAny_pure (wpAny_pure ?_)
  have e:s={ s with heap:=s.heap }:=by cases s;rfl
  rw [e]
  exact h s.heap ks _ (Heap.SameBut.refl a s.heap) S (fun x=>⟨.inl,fun q=>q.elim id fun q=>q▸hm⟩) (Nat.le_succ _)
 | none=>
  dsimp only
  have hm:k∉ks:=fun q=>by
   rw [hks] at q
   refine AF (List.mem_map.mp q) fun e he hk=>?_
   have h1:=List.findIdx?_eq_none_iff.mp hi e he
   rw [(Om hel he).mpr hk] at h1;cases h1
  have hgw:∀ (b:Bool) {s₁:Shared} {Q':Unit→Shared→Prop},Q' () s₁→wpAny (model prog w) A (match b with | true=>rule "set.scan.the-table-gave-way" | false=>pure ()) Q' E s₁:=
   fun b s₁ Q' hq=>by cases b <;> first | exact wpAny_pure hq | exact wpAny_rule hq
  have hperm:=layNew_perm t es ((intKind prog w).hash k) (.int k tk)
  have hfits:=layNew_fits t es ((intKind prog w).hash k) (.int k tk)
  have hris:=LV (es:=es) (h:=(intKind prog w).hash k) (x:=.int k tk) hr
  generalize layNew t es ((intKind prog w).hash k) (.int k tk)=L at hperm hfits hris ⊢
  obtain ⟨es1,t1,wasDummy,gave⟩:=L
  dsimp only at hperm hfits hris ⊢
  rw [Array.toList_push] at hperm
  have hel1:ElemsOf (intKind prog w) es1.toList:=(hel.push hkey hsc).perm hperm
  have hsz1:es1.size=es.size+1:=by rw [← Array.length_toList,hperm.length_eq,List.length_append,Array.length_toList];rfl
  have hk1:(Cj es1).Perm (ks++[k]):=by
   rw [hks]
   have:=hperm.map fun e=>numOf e.2
   rw [List.map_append] at this
   exact this
  have hnd1:(Cj es1).Nodup:=by
   rw [hk1.nodup_iff,List.nodup_append]
   exact ⟨hnd,by simp,fun x hx y hy e=>by simp at hy;subst hy;subst e;exact hm hx⟩
  have hb1':es1.size<scanBound:=by exact an4 .lt .v0 .v1 (.q .v0 (.a .v2 .n1) (.p .v3 .v2 (.t (.a .v3 .n1) .v1 .e))) rfl hsz1 hlen hroom
  refine wpAny_bind (hgw _ ?_)
  have hend:∀ h' ks',Heap.SameBut a s.heap h'→SetR prog w h' a led ks'→ks'.Perm (Cj es1)→Q true { s with heap:=h' }:=fun h' ks' hsb hS hp=>by
   have hp':=hp.trans hk1
   refine h h' ks' true hsb hS (fun x=>?_) (by rw [hp'.length_eq];simp)
   rw [hp'.mem_iff];simp
  split
  ·refine wpAny_bind ?_
   rw [hashByValue_scannable 8 hsc]
   refine wpAny_pure ?_
   refine Kj ?_ ho hex hd hel1 hnd1 hb1' ?_ ?_ (led:=led) ?_ ?_
   ·intro b s₁ Q' hq;cases b <;> first | exact wpAny_pure hq | exact wpAny_rule hq
   ·exact hfits
   ·exact hris.1
   ·exact hris.2.trans hled
   ·intro h' ks' hsb hS' hp;dsimp only;exact wpAny_pure (hend h' ks' hsb hS' hp)
  ·refine wpAny_bind (wpAny_pure ?_)
   simp only [↓reduceIte]
   refine Kj ?_ ho hex hd hel1 hnd1 hb1' hfits hris.1 (led:=led) (hris.2.trans hled) ?_
   ·intro b s₁ Q' hq;cases b <;> first | exact wpAny_pure hq | exact wpAny_rule hq
   ·intro h' ks' hsb hS' hp;dsimp only;exact wpAny_pure (hend h' ks' hsb hS' hp)
end
section
variable {prog:Program} {w:World} {A:Around} {R:Result→Shared→Prop} {I:Addr} {fp wr:List Addr} {G:Array GenState→Array GenState→Prop} {n:Nat} {P:Nat→Value→Prop} {St:Nat→Shared→Prop}
theorem SetR.keep (S:SetR prog w h a led ks) (k:∀ o,h.get? a=some o→h'.get? a=some o):SetR prog w h' a led ks:=by
 refine Op S fun o es ep t ho rest=>?_
 exact ⟨o,es,ep,t,k o ho,rest⟩
theorem J3 (W:WalksS prog w A.in1 I fp wr G n P St) (S:Addr) (hSf:S∉fp) (val:Nat→Int) (hval:∀ i v,P i v→∃ t,v=.int (val i) t) (hb:n+1<scanBound) :
  ∀ (k i:Nat) (s:Shared) (ks:List Int),n - i=k→i≤n→St i s→SetR prog w s.heap S led ks→(∀ x,x∈ks↔∃ j,j<i∧val j=x)→ks.length≤i →
   (∀ s' ks',Moved (S::wr) G s s'→SetR prog w s'.heap S led ks'→(∀ x,x∈ks'↔∃ j,j<n∧val j=x)→ks'.length≤n→R (.ok (.ret .none)) s') →
   codeAny (model prog w) A (.builtin "set.update.loop" ⟨[.ref S,.ref I],[]⟩) R s:=by
 have hSw:S∉wr:=fun h=>hSf (W.sub _ h)
 have hsub:∀ b∈wr,b∈S::wr:=fun b hb=>List.mem_cons_of_mem _ hb
 intro k
 induction k with
 | zero=>
  intro i s ks hk hi hst hS hm hl hR
  have hin:i=n:=by exact Nat.le_antisymm (an2 .le .v0 .v1 (.l .v0 .v1 .e) rfl hi) (an3 .le .v0 .v1 (.p (.a .v2 .v1) .v0 (.q .v2 .n0 .e)) rfl (Nat.sub_add_cancel (an2 .le .v0 .v1 (.l .v0 .v1 .e) rfl hi)) hk)
  subst hin
  refine codeAny_builtin F.entry_set_update_loop ?_
  rw [Around.under_plainId F.plain_set_update_loop _]
  show wpAny _ A.in1 (pyNext (.ref I) >>= _) _ _ s
  refine wpAny_bind (W.done s _ _ hst fun s' hmv=>?_)
  show wpAny _ A.in1 (ret Value.none) _ _ s'
  exact wpAny_pure (hR s' ks (hmv.mono hsub) (hS.keep fun o e=>hmv.heap S _ hSw e) hm hl)
 | succ k ih=>
  intro i s ks hk hi hst hS hm hl hR
  have hlt:i<n:=by exact an4 .lt .v0 .v1 (.q (.a .v2 .v0) .v1 (.p .v2 (.a .v3 .n1) .e)) rfl (Nat.sub_add_cancel (an2 .le .v0 .v1 (.l .v0 .v1 .e) rfl hi)) hk
  refine codeAny_builtin F.entry_set_update_loop ?_
  rw [Around.under_plainId F.plain_set_update_loop _]
  show wpAny _ A.in1 (pyNext (.ref I) >>= _) _ _ s
  refine wpAny_bind (W.item i s _ _ hlt hst fun v s' hP hst' hmv=>?_)
  refine AX (hval i v hP) fun t ze1=>?_;subst ze1
  have hS':=hS.keep (h':=s'.heap) fun o e=>hmv.heap S _ hSw e
  show wpAny _ A.in1 (holding [Value.int (val i) t] (setAdd S (.int (val i) t)) >>= _) _ _ s'
  refine wpAny_bind (wpAny_holding ?_)
  unfold setAdd
  refine wpAny_holding ?_
  refine wpAny_bind ((intKind prog w).pyHash (k:=val i) (intKind_is _ _ _ _) ?_)
  refine S3 (s:={ s' with toks:=s'.toks+1 }) hS' (by exact an4 .lt (.a .v0 .n1) .v1 (.l .v0 .v2 (.t .v2 .v3 (.t (.a .v3 .n1) .v1 .e))) rfl hl hlt hb) fun h' ks' b hsb hS2 hm2 hl2=>?_
  refine wpAny_pure ⟨plainId_quiet F.plain_set_update_loop _,ih (i+1) _ ks' (by exact Nat.le_antisymm (an5 .le .v0 .v1 (.q (.a .v0 (.a .v2 .n1)) .v3 (.p (.a .v4 .v2) .v3 (.q .v4 (.a .v1 .n1) .e))) rfl (Nat.sub_add_cancel (an2 .le (.a .v0 .n1) .v1 (.t .v0 .v1 .e) rfl hlt)) (Nat.sub_add_cancel (an2 .le .v0 .v1 (.t .v0 .v1 .e) rfl hlt)) hk) (an5 .le .v0 .v1 (.p .v2 (.a .v0 .n1) (.q (.a .v2 .v3) .v4 (.p (.a .v1 (.a .v3 .n1)) .v4 .e))) rfl hk (Nat.sub_add_cancel (an2 .le .v0 .v1 (.t .v0 .v1 .e) rfl hlt)) (Nat.sub_add_cancel (an2 .le (.a .v0 .n1) .v1 (.t .v0 .v1 .e) rfl hlt)))) hlt (W.frame _ s' _ _ hst' (Nat.le_succ _) fun b hb o e=>?_) hS2 (fun x=>?_) (by exact an3 .le .v0 (.a .v1 .n1) (.l .v0 (.a .v2 .n1) (.l .v2 .v1 .e)) rfl hl2 hl) fun s'' ks'' hm'' hS'' hms hls=>?_⟩
  ·rw [hsb.2 b (fun h:b=S=>hSf (by rw [← h];exact hb))];exact e
  ·rw [hm2 x,hm x]
   constructor
   ·rintro (⟨j,h1,h2⟩ | rfl)
    ·exact ⟨j,by exact an2 .lt .v0 (.a .v1 .n1) (.t .v0 .v1 .e) rfl h1,h2⟩
    ·exact ⟨i,by exact an1 .lt .v0 (.a .v0 .n1) .e rfl,rfl⟩
   ·rintro ⟨j,h1,h2⟩
    by_cases hj:j=i
    ·exact .inr (by rw [← h2,hj])
    ·exact .inl ⟨j,by exact Or.elim (Nat.lt_or_gt_of_ne hj) (fun z0=>an2 .lt .v0 .v1 (.t .v0 .v1 .e) rfl z0) (fun z0=>an2 .lt .v0 .v1 (.w 2 (.t .v0 (.a .v1 .n1) (.t .v1 .v0 .e))) rfl h1 z0),h2⟩
  ·refine hR s'' ks'' (Moved.trans W.gtrans ((hmv.mono hsub).then_heap (Nat.le_succ _) fun b o hb e=>?_) hm'') hS'' hms hls
   rw [hsb.2 b (fun h:b=S=>hb (by rw [h];exact List.mem_cons_self))];exact e
end
end Mine.Internal
namespace Mine.Internal
open PySem PySem.Spec PyProof.Rows
noncomputable def B3 (w:World):Bool:=!w.params.followText "set-order"
section
variable {prog:Program} {w:World} {A:Around} {E:Value→Shared→Prop} {s:Shared}
theorem KL (a:Value)
  (h:Q₁ (.ref s.heap.objs.size) { s with heap:=s.heap.push { cls:=.type "set", dict:=none,data:=.set #[] 0 (.fresh 0 0 (B3 w)) } }) :
  codeAny (model prog w) A (.call (.builtin "set.__new__") ⟨[.type "set", a],[]⟩) (wants Q₁ E) s:=by
 refine codeAny_of_tree ?_
 show wpAny _ A.in1 (do checkBuiltinCall "set.__new__" ⟨[.type "set", a],[]⟩;again (.builtin "set.__new__" ⟨[.type "set", a],[]⟩)) _ _ s
 refine wpAny_bind (wpAny_of_eq (PySem.F.newCall_set_1 a) (wpAny_pure ⟨plainId_quiet PySem.F.plain_set_new _,codeAny_builtin PySem.F.entry_set_new ?_⟩))
 rw [Around.under_plainId PySem.F.plain_set_new _]
 unfold Builtin.«set.__new__» Builtin.Frozenset.newClass
 have hsub:=sub_set_self
 obtain ⟨hp,g,d,tk,os⟩:=s
 dsimp only
 wp_walk
 refine wpAny_askSetting (wpAny_pure ?_)
 dsimp only
 simp only [newObj]
 refine wpAny_bind (wpAny_alloc (wpAny_pure ?_))
 exact wpAny_pure h
theorem M4 {h:Heap} {led:Bool}:SetR prog w (h.push { cls:=.type "set", dict:=none,data:=.set #[] 0 (.fresh 0 0 led) }) h.objs.size led []:=
 ⟨_,#[],0,_,Heap.get?_push_size _ rfl,⟨rfl,rfl,rfl⟩,rfl,Bo,rfl,List.nodup_nil,by decide,rfl,List.Pairwise.nil,rfl⟩
set_option maxRecDepth 100000 in
set_option maxHeartbeats 3200000 in
theorem Qn
  (hh:A.handled=none) (hl:s.heap.IsList l items) (hi:IntsAre items.toList ns) (hb:items.size+1<scanBound)
  (h:∀ (h':Heap) (tk:Nat) (ks:List Int),SetR prog w h' s.heap.objs.size (B3 w) ks→(∀ x,x∈ks↔x∈ns)→ks.length≤items.size →
   (∀ b o,b<s.heap.objs.size→s.heap.get? b=some o→h'.get? b=some o)→Q (.ref s.heap.objs.size) { s with heap:=h',toks:=tk }) :
  wpAny (model prog w) A (call (.type "set") [.ref l]) Q E s:=by
 have hlen:items.size=ns.length:=by have:=IntsAre.length hi;simpa using this
 refine Az F.called_set.mro fun c tl hmro=>?_
 have hmade:=F.called_set.made
 have hsub:=F.called_set.sub
 refine wpAny_call (codeAny_of_tree ?_)
 show wpAny _ _ (callAny (.type "set") _) _ _ _
 refine wpAny_pure ⟨Code.quiet_builtin _ (by decide +kernel),codeAny_builtin F.entry_type_call ?_⟩
 rw [Around.under_plain (weight_type_call_type "set" [.ref l] []) rfl]
 have h1:=F.called_set.notType
 have h2:=F.called_set.canCreate
 have hct:=PySem.F.typeCall_set_1 (.ref l)
 repeat (any_goals (first | assumption | wp_step))
 refine codeAny_mono (KL (.ref l) (E:=E) (Q₁:=fun obj s₁=>obj=.ref s.heap.objs.size∧s₁={ s with heap:=s.heap.push { cls:=.type "set", dict:=none,data:=.set #[] 0 (.fresh 0 0 (B3 w)) } }) ⟨rfl,rfl⟩) fun r s₁ hr=>?_
 cases r with
 | error e=>exact hr
 | ok fl=>
  cases fl with
  | ret obj=>
   obtain ⟨rfl,rfl⟩:=hr
   have hS:(s.heap.push { cls:=.type "set", dict:=none,data:=.set #[] 0 (.fresh 0 0 (B3 w)) }).get? s.heap.objs.size=some { cls:=.type "set", dict:=none,data:=.set #[] 0 (.fresh 0 0 (B3 w)) }:=Heap.get?_push_size _ rfl
   have hT:Shared.TypeIs { s with heap:=s.heap.push { cls:=.type "set", dict:=none,data:=.set #[] 0 (.fresh 0 0 (B3 w)) } } (.ref s.heap.objs.size) "set":=⟨_,hS,rfl⟩
   have hli:=F.called_set.init.lookup
   have hbi:=F.called_set.init.bind (.ref s.heap.objs.size)
   repeat (any_goals (first | assumption | wp_step))
   refine codeAny_mono (codeAny_call_builtin (R:=wants (fun r s₂=>r=.none∧∃ h' tk ks,s₂={ s with heap:=h',toks:=tk }∧SetR prog w h' s.heap.objs.size (B3 w) ks∧(∀ x,x∈ks↔x∈ns)∧ks.length≤items.size ∧
     (∀ b o,b<s.heap.objs.size→s.heap.get? b=some o→h'.get? b=some o)) E) F.called_set.init.plain F.entry_set_init (check_set_init_1 hT ?_)) fun r₂ s₂ hr₂=>?_
   ·refine SE hl fun ol hol hcl nl hdl=>?_
    obtain ⟨ocls,odict,odata,oslots⟩:=ol
    simp only at hcl hdl
    subst hcl;subst hdl
    have hol':(s.heap.push { cls:=.type "set", dict:=none,data:=.set #[] 0 (.fresh 0 0 (B3 w)) }).get? l=some { cls:=.type "list", dict:=odict,data:=.seq items nl,slots:=oslots }:=Heap.get?_push_of_some _ hol
    have hsls:=PySem.F.sub_list_set
    have hslf:=PySem.F.sub_list_frozenset
    have hne:(Value.type "list"==Value.type "dict")=false:=by decide
    have hl1:(s.heap.push { cls:=.type "set", dict:=none,data:=.set #[] 0 (.fresh 0 0 (B3 w)) }).IsList l items:=⟨_,hol',rfl,nl,rfl⟩
    unfold Builtin.«set.__init__» noKeywords Builtin.Frozenset.updateFrom
    generalize hPI:pyIter=PI
    wp_walk
    subst hPI
    refine wpAny_pyIter_list hl1 ?_
    refine wpAny_bind (wpAny_runValue ?_)
    have hlS:l<s.heap.objs.size:=Heap.lt_size hol
    have hh3:A.in1.in1.in1.handled=none:=by simp [hh]
    have hneI:l≠(s.heap.push { cls:=.type "set", dict:=none,data:=.set #[] 0 (.fresh 0 0 (B3 w)) }).objs.size:=by
     rw [Heap.size_push];exact Nat.ne_of_lt (Nat.lt_succ_of_lt hlS)
    have hSf:s.heap.objs.size∉[(s.heap.push { cls:=.type "set", dict:=none,data:=.set #[] 0 (.fresh 0 0 (B3 w)) }).objs.size,l]:=by
     rw [Heap.size_push];simp only [List.mem_cons,List.mem_singleton,List.not_mem_nil,or_false,not_or]
     exact ⟨Nat.ne_of_lt (Nat.lt_succ_self _),Nat.ne_of_gt hlS⟩
    have hval:∀ (i:Nat) (v:Value),items[i]?=some v→∃ t,v=.int ((fun i=>ns.getD i 0) i) t:=fun i v hv=>
     IntsAre.int_at hi i v (by rw [Array.getElem?_toList];exact hv)
    refine J3 ((Walks.list hh3 _ l hneI items).toS) s.heap.objs.size hSf (fun i=>ns.getD i 0) hval hb (led:=B3 w) (items.size - 0) 0 _ [] (by exact Nat.le_antisymm (an1 .le .v0 .v0 .e rfl) (an1 .le .v0 .v0 .e rfl)) (Nat.zero_le _)
     ⟨⟨_,Heap.get?_push_size _ rfl,rfl,rfl⟩,(hl1.push _)⟩ (M4.keep fun o e=>Heap.get?_push_of_some _ e) (fun x=>⟨fun q=>absurd q (by simp),fun ⟨j,hj,_⟩=>absurd hj (Nat.not_lt_zero _)⟩) (Nat.le_refl _) ?_
    intro s' ks hm hS' hms hls
    obtain ⟨h',g',d',tk',os'⟩:=s'
    have eg:g'=s.gens:=hm.gens
    have ed:d'=s.drawn:=hm.drawn
    have eo:os'=s.os:=hm.os
    subst eg;subst ed;subst eo
    show wpAny _ _ _ _ _ _
    refine wpAny_pure ?_
    show wpAny _ _ (ret Value.none) _ _ _
    refine wpAny_pure ⟨rfl,h',tk',ks,rfl,hS',fun x=>?_,hls,fun b o hb e=>?_⟩
    ·rw [hms x]
     constructor
     ·rintro ⟨j,hj,rfl⟩
      have:j<ns.length:=by exact an3 .lt .v0 .v1 (.t .v0 .v2 (.q .v2 .v1 .e)) rfl hj hlen
      simp [this]
     ·intro hx
      obtain ⟨j,hj,e⟩:=List.mem_iff_getElem.mp hx
      exact ⟨j,by exact an3 .lt .v0 .v1 (.t .v0 .v2 (.p .v1 .v2 .e)) rfl hj hlen,by simp [hj,e]⟩
    ·have hb1:b≠s.heap.objs.size:=Nat.ne_of_lt hb
     have hb2:b≠(s.heap.push { cls:=.type "set", dict:=none,data:=.set #[] 0 (.fresh 0 0 (B3 w)) }).objs.size:=by
      rw [Heap.size_push];exact Nat.ne_of_lt (Nat.lt_succ_of_lt hb)
     exact hm.heap b o (by simp only [List.mem_cons,List.mem_singleton,List.not_mem_nil,or_false,not_or];exact ⟨hb1,hb2⟩) (Heap.get?_push_of_some _ (Heap.get?_push_of_some _ e))
   ·cases r₂ with
    | error e=>exact hr₂
    | ok fl₂=>
     cases fl₂ with
     | ret r=>
      refine DZ hr₂ fun ze1 h' tk ks ze2 hS' hms hls hk'=>?_;subst ze1;subst ze2
      repeat (any_goals (first | assumption | wp_step))
      exact h _ _ _ hS' hms hls hk'
     | _=>exact hr₂.elim
  | _=>exact hr.elim
end
end Mine.Internal
namespace Mine.Internal
open PySem PySem.Spec PyProof.Rows
set_option maxRecDepth 100000
theorem HA:entryFor table "set.__iter__"=some Builtin.«frozenset.__iter__»:=
 entryFor_alias (id':="frozenset.__iter__") (by kernel_rfl) rfl (by decide +kernel) (by kernel_rfl)
theorem Ac:Slot "set_iterator" "__next__" "set_iterator.__next__":=
 .of (owner:="set_iterator") (n:="__next__") (by rw [typeLookup_type,builtinLookup_eq_fast];kernel_rfl) (by decide +kernel) (by decide +kernel) (by decide +kernel)
  (by first | exact .inl (by decide +kernel) | exact .inr (by decide +kernel)) (by rw [isSubtype_type];kernel_rfl)
theorem BJ:entryFor table "set_iterator.__next__"=some Builtin.«set_iterator.__next__»:=entryFor_of_fast (by kernel_rfl)
theorem BO (a:Value):argsOk "set_iterator.__next__" ⟨[a],[]⟩:=by unfold argsOk;kernel_rfl
section
variable {prog:Program} {w:World} {A:Around} {E:Value→Shared→Prop} {s:Shared}
noncomputable def BD (first:Value) (i:Nat) (a:Addr) (n ep:Nat):Obj:={ cls:=.type "set_iterator", data:=.fields #[first,rawInt i,.ref a,rawInt n,rawInt ep] }
set_option backward.match.sparseCases true in
theorem DS (hI:s.heap.get? I=some (BD first i a n ep)) (ho:s.heap.get? a=some o) (hd:o.data=.set es ep t) (hf:t.fits es.size=true) (hn:es.size=n)
  (h:wpAny (model prog w) A (match first with
   | .int slot _=>do
    match ← setNext a slot.toNat i ep with
    | some (x,next)=>do
     setField (.ref I) 0 (rawInt next)
     setField (.ref I) 1 (rawInt ((i:Int)+1))
     ret x
    | none=>do
     setField (.ref I) 2 .none
     raiseNew (← newExc (.type "StopIteration") [])
   | _=>do
    let some places ← seqItems? first | unsupported "internal:set_iterator"
    match places[i]? with
    | some (.int place _)=>do
     let x ← setNextDrawn a place.toNat ep
     setField (.ref I) 1 (rawInt ((i:Int)+1))
     ret x
    | some _=>unsupported "internal:set_iterator"
    | none=>do
     setField (.ref I) 0 (rawInt 0)
     setField (.ref I) 2 .none
     raiseNew (← newExc (.type "StopIteration") [])) Q E s):wpAny (model prog w) A (Builtin.«set_iterator.__next__» ⟨[.ref I],[]⟩) Q E s:=by
 unfold Builtin.«set_iterator.__next__»
 refine wpAny_bind (m:=slotArgs "__next__" 0 _) (wpAny_pure ?_)
 dsimp only
 refine wpAny_bind (wpAny_fieldsOf hI rfl ?_)
 dsimp only [rawInt]
 refine wpAny_bind (wpAny_setEntries_of ho hd hf ?_)
 rw [if_neg (by simp [hn])]
 exact h
theorem Mn {slot nx i n ep:Nat} {Q:Option Value→Shared→Prop} (hI:s.heap.get? I=some (BD (rawInt slot) i a n ep)) (ho:s.heap.get? a=some o) (hd:o.data=.set es ep t) (hf:t.fits es.size=true) (hn:es.size=n)
  (hs:∀ (E':Value→Shared→Prop) (Q':Option (Value × Nat)→Shared→Prop),Q' (some (x,nx)) s→wpAny (model prog w) A.in1 (setNext a slot i ep) Q' E' s)
  (hQ:∀ h',h'.get? I=some (BD (rawInt nx) (i+1) a n ep)→Heap.SameBut I s.heap h'→Q (some x) { s with heap:=h' }):wpAny (model prog w) A (pyNext (.ref I)) Q E s:=by
 have hT:s.TypeIs (.ref I) "set_iterator":=⟨_,hI,rfl⟩
 unfold pyNext
 refine wpAny_bind (wpAny_attempt (wpAny_callSpecial?_slot (name:=Str.ofString "__next__") hT Ac
  (wpAny_call_entry Ac hT BJ (DS hI ho hd hf hn ?_) (BO _))))
 show wpAny _ _ (setNext a slot i ep >>= _) _ _ s
 refine wpAny_bind (hs _ _ ?_)
 dsimp only
 have hI1:(s.heap.update I (Obj.mapFields (·.setIfInBounds 0 (rawInt nx)))).get? I=some (BD (rawInt nx) i a n ep):=Heap.get?_update_self _ hI rfl
 have hI2:((s.heap.update I (Obj.mapFields (·.setIfInBounds 0 (rawInt nx)))).update I (Obj.mapFields (·.setIfInBounds 1 (rawInt ((i:Int)+1))))).get? I=some (BD (rawInt nx) (i+1) a n ep):=Heap.get?_update_self _ hI1 rfl
 refine wpAny_bind (wpAny_setField hI rfl (by simp [BD]) ?_)
 refine wpAny_bind (wpAny_setField hI1 rfl (by simp) ?_)
 exact wpAny_pure ⟨x,rfl,wpAny_pure (hQ _ hI2 ((Heap.SameBut.update ..).trans (Heap.SameBut.update ..)))⟩
theorem Md {I:Addr} {o:Obj} {vs:Array Value} {Q:Option Value→Shared→Prop} {s₀:Shared} (hh:A.handled=none) (hI:s.heap.get? I=some o) (hd:o.data=.fields vs) (hz:2<vs.size) (hx:Heap.SameBut I s₀.heap s.heap)
  (hQ:∀ h',Heap.ExtBut I s₀.heap h'→Q none { s with heap:=h' }) :
  wpAny (model prog w) A.in1 (do setField (.ref I) 2 .none;raiseNew (← newExc (.type "StopIteration") [])) (fun (_:PySem.Fin) _=>False)
   (fun e s'=>wpAny (model prog w) A (do if ← isInstance e (.type "StopIteration") then pure none else throw e) Q E s') s:=by
 refine wpAny_bind (wpAny_setField hI hd hz ?_)
 show wpAny _ _ (newExc (.type "StopIteration") [] >>= _) _ _ _
 refine wpAny_bind ?_
 simp only [newExc,newTuple]
 refine wpAny_bind (wpAny_newObj_type ?_ (by size_fits))
 refine wpAny_bind (m:=firstArgMember _ _) (wpAny_of_eq (a:=Value.none) (by first | rfl | (simp only [firstArgMember];rfl)) ?_)
 refine wpAny_newObj_type ?_ (by size_fits)
 simp only [raiseNew]
 refine wpAny_bind (wpAny_handled ?_)
 rw [show A.in1.handled=none from hh]
 refine wpAny_bind (wpAny_pure (wpAny_throw ?_))
 refine wpAny_bind (wpAny_isInstance (T:="StopIteration") (b:=true) ⟨_,Heap.get?_push_size _ rfl,rfl⟩ isSubtype_stop ?_)
 exact wpAny_pure (hQ _ ((((hx.trans (Heap.SameBut.update ..)).extBut).push _).push _))
theorem NH {slot i n ep:Nat} {Q:Option Value→Shared→Prop} (hh:A.handled=none) (hI:s.heap.get? I=some (BD (rawInt slot) i a n ep)) (ho:s.heap.get? a=some o) (hd:o.data=.set es ep t) (hf:t.fits es.size=true) (hn:es.size=n)
  (hs:∀ (E':Value→Shared→Prop) (Q':Option (Value × Nat)→Shared→Prop),Q' none s→wpAny (model prog w) A.in1 (setNext a slot i ep) Q' E' s)
  (hQ:∀ h',Heap.ExtBut I s.heap h'→Q none { s with heap:=h' }):wpAny (model prog w) A (pyNext (.ref I)) Q E s:=by
 have hT:s.TypeIs (.ref I) "set_iterator":=⟨_,hI,rfl⟩
 unfold pyNext
 refine wpAny_bind (wpAny_attempt (wpAny_callSpecial?_slot (name:=Str.ofString "__next__") hT Ac
  (wpAny_call_entry Ac hT BJ (DS hI ho hd hf hn ?_) (BO _))))
 show wpAny _ _ (setNext a slot i ep >>= _) _ _ s
 refine wpAny_bind (hs _ _ ?_)
 dsimp only
 exact wpAny_mono (Md hh hI rfl (by simp) (Heap.SameBut.refl _ _) hQ) (fun _ _ f=>f.elim) fun _ _ e=>e
theorem FL {α:Type} {M:Model} {c:Prop} [Decidable c] {x y:Sem α} {Q:α→Shared→Prop} (h:¬ c) (q:wpAny M A y Q E s):wpAny M A (if c then x else y) Q E s:=by rw [if_neg h];exact q
theorem GG {α:Type} {M:Model} {c:Prop} [Decidable c] {x y:Sem α} {Q:α→Shared→Prop} (h:c) (q:wpAny M A x Q E s):wpAny M A (if c then x else y) Q E s:=by rw [if_pos h];exact q
theorem EG (q:Q (w.params.followText "set-order") s):wpAny (model prog w) A setsByText Q E s:=by
 unfold setsByText
 exact wpAny_bind (wpAny_askSetting (wpAny_pure q))
noncomputable def Q9 (pl:Array Nat):Nat→Nat
 | 0=>0
 | i+1=>pl.getD i 0+1
theorem Ow (R:Ris pl):∀ {i:Nat},i≤pl.size→SetTable.below pl (Q9 pl i)=i
 | 0,_=>K0 R
 | i+1,h=>LX R (by exact an2 .lt .v0 .v1 (.l (.a .v0 .n1) .v1 .e) rfl h)
theorem Ka (ho:s.heap.get? a=some o) (hd:o.data=.set es ep t) (hf:t.fits es.size=true) (R:Ris t.place) (hw:w.params.followText "set-order"=false) (hl:t.led=true) (hp:¬ (t.plain=false∧1<es.size)) (hi:i≤es.size) :
  ∀ (E':Value→Shared→Prop) (Q':Option (Value × Nat)→Shared→Prop),Q' (es[i]?.map fun e=>(e.2,Q9 t.place (i+1))) s→wpAny (model prog w) A (setNext a (Q9 t.place i) i ep) Q' E' s:=by
 intro E' Q' q
 have hsz:t.place.size=es.size:=by simp only [SetTable.fits,Bool.and_eq_true,beq_iff_eq] at hf;exact hf.1
 unfold setNext
 refine wpAny_bind (wpAny_setState_of ho hd hf ?_)
 dsimp only
 refine wpAny_bind (EG ?_)
 rw [hw]
 refine FL (by decide) ?_
 refine FL (show ¬ ((!t.plain&&decide (es.size > 1))=true) by
  intro h
  simp only [Bool.and_eq_true,Bool.not_eq_true',decide_eq_true_eq] at h
  exact hp h) ?_
 refine wpAny_bind (show wpAny (model prog w) A (if (!t.led&&!es.isEmpty)=true then unsupported _ else pure ()) _ _ _ from FL (by simp [hl]) (wpAny_pure ?_))
 rw [Ow R (by exact an3 .le .v0 .v1 (.l .v0 .v2 (.p .v1 .v2 .e)) rfl hi hsz)]
 refine wpAny_pure ?_
 by_cases h:i<es.size
 ·have e1:es[i]?=some es[i]:=Array.getElem?_eq_getElem h
  have e2:t.place[i]?=some (t.place.getD i 0):=by rw [O8,Array.getElem?_eq_getElem (by exact an3 .lt .v0 .v1 (.t .v0 .v2 (.p .v1 .v2 .e)) rfl h hsz)];rfl
  rw [e1] at q ⊢
  rw [e2]
  exact q
 ·have e1:es[i]?=none:=Array.getElem?_eq_none (by exact an2 .le .v0 .v1 (.o .v1 .v0 .e) rfl h)
  rw [e1] at q ⊢
  exact q
theorem Gr {α:Type} (l:List α):∀ (i:Nat) (h:i<l.length),(l[i]::l.eraseIdx i).Perm l:=by
 induction l with
 | nil=>exact fun i h=>absurd h (Nat.not_lt_zero i)
 | cons x l ih=>
  intro i h
  cases i with
  | zero=>exact .refl _
  | succ i=>exact (List.Perm.swap _ _ _).trans (List.Perm.cons _ (ih i (Nat.lt_of_succ_lt_succ h)))
theorem Hk {α:Type} {l:List α} {i n:Nat} (h:i<l.length) (e:n+1=l.length):n=(l.eraseIdx i).length:=by
 rw [List.length_eraseIdx_of_lt h,← e];rfl
theorem RK {α:Type} (nx:Nat→Nat) (f:Nat):∀ (k:Nat) (left:List α) (out:Array α),f=left.length→(pickOrder.go nx f k left out).toList.Perm (out.toList++left):=by
 induction f with
 | zero=>exact fun k left out h=>by rw [List.length_eq_zero_iff.mp h.symm,List.append_nil];exact .refl _
 | succ f ih=>
  intro k left out h
  have hlt:nx k % left.length<left.length:=Nat.mod_lt _ (h▸Nat.zero_lt_succ f)
  rw [show pickOrder.go nx (f+1) k left out=pickOrder.go nx f (k+1) (left.eraseIdx (nx k % left.length)) (out.push left[nx k % left.length]) from congrArg (fun o:Option α=>match o with
   | some x=>pickOrder.go nx f (k+1) (left.eraseIdx (nx k % left.length)) (out.push x)
   | none=>out) (List.getElem?_eq_getElem hlt)]
  refine (ih (k+1) _ _ (Hk hlt h)).trans ?_
  rw [Array.toList_push,List.append_assoc]
  exact List.Perm.append_left _ (Gr _ _ hlt)
theorem HY {α:Type} (nx:Nat→Nat) (xs:Array α):(pickOrder nx xs).toList.Perm xs.toList:=by
 have:=RK nx xs.size 0 xs.toList #[] (by simp)
 simpa [pickOrder] using this
theorem I4 (ho:s.heap.get? a=some o) (hd:o.data=.set es ep t) (hf:t.fits es.size=true) (hw:w.params.followText "set-order"=true) :
  ∀ (E':Value→Shared→Prop) (Q':Option (Value × Nat)→Shared→Prop),Q' ((pickOrder (w.params.setOrder a ep) es)[i]?.map fun e=>(e.2,slot)) s→wpAny (model prog w) A (setNext a slot i ep) Q' E' s:=by
 intro E' Q' q
 unfold setNext
 refine wpAny_bind (wpAny_setState_of ho hd hf ?_)
 dsimp only
 refine wpAny_bind (EG ?_)
 rw [hw]
 refine GG rfl ?_
 refine FL (by simp) ?_
 refine wpAny_bind ?_
 unfold setWalk
 refine wpAny_bind (wpAny_setState_of ho hd hf ?_)
 dsimp only
 refine wpAny_bind (EG ?_)
 rw [hw]
 refine GG rfl ?_
 refine wpAny_bind (wpAny_askSetting (wpAny_pure (wpAny_pure ?_)))
 exact q
theorem RW {α:Type} (n:Nat):∀ (xs:List α) (s:Shared) {Q:List α→Shared→Prop},n=xs.length→(∀ ys dr,ys.Perm xs→Q ys { s with drawn:=dr })→wpAny (model prog w) A (drawOrder n xs) Q E s:=by
 induction n with
 | zero=>
  intro xs s Q h q
  have:xs=[]:=List.length_eq_zero_iff.mp h.symm
  subst this
  exact wpAny_pure (q [] s.drawn (List.Perm.refl _))
 | succ n ih=>
  intro xs s Q h q
  cases xs with
  | nil=>cases h
  | cons x xs=>
  have hlt:w.draws .order (s.drawn.get .order) % (x::xs).length<(x::xs).length:=Nat.mod_lt _ (Nat.zero_lt_succ _)
  show wpAny (model prog w) A (do let i ← choose .order (x::xs).length;match (x::xs)[i]? with
   | some x'=>return x'::(← drawOrder n ((x::xs).eraseIdx i))
   | none=>unsupported "internal:drawOrder") Q E s
  refine wpAny_bind ?_
  refine fun Γ p hΓ=>⟨by simp,?_⟩
  show wpAny (model prog w) A (match (x::xs)[w.draws .order (s.drawn.get .order) % (x::xs).length]? with
   | some y=>do return y::(← drawOrder n ((x::xs).eraseIdx (w.draws .order (s.drawn.get .order) % (x::xs).length)))
   | none=>unsupported "internal:drawOrder") Q E { s with drawn:=s.drawn.bump .order }
  generalize w.draws .order (s.drawn.get .order) % (x::xs).length=j at hlt ⊢
  rw [List.getElem?_eq_getElem hlt]
  exact wpAny_bind (ih _ _ (Hk hlt h) fun ys dr hp=>wpAny_pure (q _ dr ((List.Perm.cons _ hp).trans (Gr _ _ hlt))))
end
end Mine.Internal
namespace Mine.Internal
open PySem PySem.Spec PyProof.Rows
set_option maxRecDepth 100000
theorem Cu:Slot "set_iterator" "__iter__" "set_iterator.__iter__":=
 .of (owner:="set_iterator") (n:="__iter__") (by rw [typeLookup_type,builtinLookup_eq_fast];kernel_rfl) (by decide +kernel) (by decide +kernel) (by decide +kernel)
  (by first | exact .inl (by decide +kernel) | exact .inr (by decide +kernel)) (by rw [isSubtype_type];kernel_rfl)
theorem Et:entryFor table "set_iterator.__iter__"=some Builtin.«dict_keyiterator.__iter__»:=
 entryFor_alias (id':="dict_keyiterator.__iter__") (by kernel_rfl) rfl (by decide +kernel) (by kernel_rfl)
theorem FI (a:Value):argsOk "set_iterator.__iter__" ⟨[a],[]⟩:=by unfold argsOk;kernel_rfl
noncomputable def QM:Array GenState→Array GenState→Prop:=fun a b=>b=a
noncomputable def Pw (out:Array (Int × Value)) (i:Nat) (v:Value):Prop:=∃ e,out[i]?=some e∧v=e.2
section
variable {prog:Program} {w:World} {A:Around} {E:Value→Shared→Prop} {s:Shared}
theorem H6 (hI:s.heap.get? I=some (BD first i a n ep)) (q:Q (.ref I) s):wpAny (model prog w) A (pyIter (.ref I)) Q E s:=by
 have hT:s.TypeIs (.ref I) "set_iterator":=⟨_,hI,rfl⟩
 refine wpAny_pyIter_slot hT Cu (wpAny_call_entry Cu hT Et ?_ (FI _))
 show wpAny _ _ (ret (.ref I)) _ _ s
 exact wpAny_pure ⟨_,rfl,"set_iterator", _,hT,Ac.lookup,q⟩
theorem HR (hh:A.handled=none) (hIa:a≠I) (hd:o.data=.set es ep t) (hf:t.fits es.size=true) (hn:es.size=n) (ho:out.size=n) (sl:Nat→Nat)
  (hs:∀ (s:Shared) (i:Nat),i≤n→s.heap.get? a=some o→∀ (E':Value→Shared→Prop) (Q':Option (Value × Nat)→Shared→Prop),Q' (out[i]?.map fun e=>(e.2,sl (i+1))) s→wpAny (model prog w) A.in1 (setNext a (sl i) i ep) Q' E' s) :
  WalksS prog w A I [I,a] [I] QM n (Pw out) (fun i s=>i≤n∧s.heap.get? I=some (BD (rawInt (sl i)) i a n ep)∧s.heap.get? a=some o) where
 sub:=fun b hb=>by simp at hb;subst hb;simp
 grefl:=fun _=>rfl
 gtrans:=fun _ _ _ h1 h2=>h2.trans h1
 frame:=fun i s h' tk st _ k=>⟨st.1,k I (by simp) _ st.2.1,k a (by simp) _ st.2.2⟩
 item:=fun i s Q E hi st hQ=>by
  have hio:i<out.size:=ho▸hi
  have e:out[i]?=some out[i]:=Array.getElem?_eq_getElem hio
  refine Mn (x:=out[i].2) (nx:=sl (i+1)) st.2.1 st.2.2 hd hf hn (fun E' Q' q=>hs s i (by exact an2 .le .v0 .v1 (.l .v0 .v1 .e) rfl st.1) st.2.2 E' Q' (by rw [e];exact q)) fun h' h1 h2=>?_
  refine hQ _ _ ⟨out[i],e,rfl⟩ ⟨hi,h1,(h2.2 a hIa).trans st.2.2⟩ ⟨fun b ob hb eb=>(h2.2 b (by simpa using hb)).trans eb,rfl,rfl,rfl,Nat.le_refl _⟩
 done:=fun s Q E st hQ=>by
  have e:out[n]?=none:=Array.getElem?_eq_none (by exact an2 .le .v0 .v1 (.q .v0 .v1 .e) rfl ho)
  refine NH hh st.2.1 st.2.2 hd hf hn (fun E' Q' q=>hs s n (Nat.le_refl _) st.2.2 E' Q' (by rw [e];exact q)) fun h' h1=>hQ _ ⟨fun b ob hb eb=>h1 b ob (by simpa using hb) eb,rfl,rfl,rfl,Nat.le_refl _⟩
 self:=fun i s Q E st q=>H6 st.2.1 q
noncomputable def Dd (es:Array (Int × Value)) (π:List Nat):Array (Int × Value):=(π.map fun j=>es[j]?.getD (0,.none)).toArray
theorem HJ (h:π.Perm (List.range es.size)):(Dd es π).toList.Perm es.toList:=by
 have e:(List.range es.size).map (fun j=>es[j]?.getD (0,.none))=es.toList:=by
  apply List.ext_getElem?
  intro i
  rw [List.getElem?_map]
  by_cases hi:i<es.size
  ·simp [hi]
  ·simp [hi]
 have:=h.map fun j=>es[j]?.getD (0,.none)
 rw [e] at this
 simpa [Dd] using this
theorem Ku {i n ep j:Nat} {c:Nat} {Q:Option Value→Shared→Prop} (hI:s.heap.get? I=some (BD (.ref T) i a n ep)) (ho:s.heap.get? a=some o) (hd:o.data=.set es ep t) (hf:t.fits es.size=true) (hn:es.size=n)
  (hT:s.heap.get? T=some oT) (hdT:oT.data=.seq pl c) (hpl:pl[i]?=some (rawInt j)) {x:Int × Value} (hx:es[j]?=some x)
  (hQ:∀ h',h'.get? I=some (BD (.ref T) (i+1) a n ep)→Heap.SameBut I s.heap h'→Q (some x.2) { s with heap:=h' }):wpAny (model prog w) A (pyNext (.ref I)) Q E s:=by
 have hTy:s.TypeIs (.ref I) "set_iterator":=⟨_,hI,rfl⟩
 unfold pyNext
 refine wpAny_bind (wpAny_attempt (wpAny_callSpecial?_slot (name:=Str.ofString "__next__") hTy Ac
  (wpAny_call_entry Ac hTy BJ (DS hI ho hd hf hn ?_) (BO _))))
 dsimp only
 refine wpAny_bind (wpAny_seqItems hT hdT ?_)
 dsimp only
 rw [hpl]
 dsimp only [rawInt]
 refine wpAny_bind ?_
 unfold setNextDrawn
 refine wpAny_bind (wpAny_setState_of ho hd hf ?_)
 dsimp only
 refine FL (by simp) ?_
 rw [Int.toNat_natCast,hx]
 refine wpAny_pure ?_
 have hI1:(s.heap.update I (Obj.mapFields (·.setIfInBounds 1 (rawInt ((i:Int)+1))))).get? I=some (BD (.ref T) (i+1) a n ep):=Heap.get?_update_self _ hI rfl
 refine wpAny_bind (wpAny_setField hI rfl (by simp) ?_)
 exact wpAny_pure ⟨x.2,rfl,wpAny_pure (hQ _ hI1 (Heap.SameBut.update ..))⟩
theorem Nk (hh:A.handled=none) (hI:s.heap.get? I=some (BD (.ref T) i a n ep)) (ho:s.heap.get? a=some o) (hd:o.data=.set es ep t) (hf:t.fits es.size=true) (hn:es.size=n)
  (hT:s.heap.get? T=some oT) (hdT:oT.data=.seq pl c) (hpl:pl[i]?=none)
  (hQ:∀ h',Heap.ExtBut I s.heap h'→Q none { s with heap:=h' }):wpAny (model prog w) A (pyNext (.ref I)) Q E s:=by
 have hTy:s.TypeIs (.ref I) "set_iterator":=⟨_,hI,rfl⟩
 unfold pyNext
 refine wpAny_bind (wpAny_attempt (wpAny_callSpecial?_slot (name:=Str.ofString "__next__") hTy Ac
  (wpAny_call_entry Ac hTy BJ (DS hI ho hd hf hn ?_) (BO _))))
 dsimp only
 refine wpAny_bind (wpAny_seqItems hT hdT ?_)
 dsimp only
 rw [hpl]
 dsimp only
 have hI1:(s.heap.update I (Obj.mapFields (·.setIfInBounds 0 (rawInt 0)))).get? I=some (BD (rawInt 0) i a n ep):=Heap.get?_update_self _ hI rfl
 refine wpAny_bind (wpAny_setField hI rfl (by simp) ?_)
 exact wpAny_mono (Md (s₀:=s) (s:={ s with heap:=s.heap.update I (Obj.mapFields (·.setIfInBounds 0 (rawInt 0))) }) hh hI1 rfl (by simp) (Heap.SameBut.update ..) hQ) (fun _ _ f=>f.elim) fun _ _ e=>e
theorem Ky {n ep:Nat} {c:Nat} (hh:A.handled=none) (hIa:a≠I) (hIT:T≠I) (hd:o.data=.set es ep t) (hf:t.fits es.size=true) (hn:es.size=n) (hπ:π.Perm (List.range es.size)) (hdT:oT.data=.seq (π.map fun (j:Nat)=>rawInt j).toArray c) :
  WalksS prog w A I [I,a,T] [I] QM n (Pw (Dd es π)) (fun i s=>i≤n∧s.heap.get? I=some (BD (.ref T) i a n ep)∧s.heap.get? a=some o∧s.heap.get? T=some oT) where
 sub:=fun b hb=>by simp at hb;subst hb;simp
 grefl:=fun _=>rfl
 gtrans:=fun _ _ _ h1 h2=>h2.trans h1
 frame:=fun i s h' tk st _ k=>⟨st.1,k I (by simp) _ st.2.1,k a (by simp) _ st.2.2.1,k T (by simp) _ st.2.2.2⟩
 item:=fun i s Q E hi st hQ=>by
  have hlen:π.length=es.size:=by rw [hπ.length_eq,List.length_range]
  have hi':i<π.length:=by exact an4 .lt .v0 .v1 (.t .v0 .v2 (.p .v3 .v2 (.p .v1 .v3 .e))) rfl hi hn hlen
  have hj:π[i]<es.size:=by simpa using hπ.mem_iff.mp (List.getElem_mem hi')
  have hx:es[π[i]]?=some es[π[i]]:=Array.getElem?_eq_getElem hj
  refine Ku st.2.1 st.2.2.1 hd hf hn st.2.2.2 hdT (j:=π[i]) (by simp [hi']) hx fun h' h1 h2=>?_
  refine hQ _ _ ⟨es[π[i]],by simp [Dd,hi',hj],rfl⟩ ⟨hi,h1,(h2.2 a hIa).trans st.2.2.1,(h2.2 T hIT).trans st.2.2.2⟩ ⟨fun b ob hb eb=>(h2.2 b (by simpa using hb)).trans eb,rfl,rfl,rfl,Nat.le_refl _⟩
 done:=fun s Q E st hQ=>by
  have hlen:π.length=es.size:=by rw [hπ.length_eq,List.length_range]
  refine Nk hh st.2.1 st.2.2.1 hd hf hn st.2.2.2 hdT (by simp;exact an3 .le .v0 .v1 (.q .v0 .v2 (.q .v2 .v1 .e)) rfl hlen hn) fun h' h1=>hQ _ ⟨fun b ob hb eb=>h1 b ob (by simpa using hb) eb,rfl,rfl,rfl,Nat.le_refl _⟩
 self:=fun i s Q E st q=>H6 st.2.1 q
structure SetWalk (prog:Program) (w:World) (A:Around) (es:Array (Int × Value)) (a:Addr) (s₀ s:Shared) (I:Addr):Prop where
 walk:∃ fp out St,out.toList.Perm es.toList∧WalksS prog w A I fp [I] QM es.size (Pw out) St∧St 0 s∧∀ b∈fp,b=a∨s₀.heap.objs.size≤b
 old:s₀.heap.objs.size≤I
 keep:∀ b o,s₀.heap.get? b=some o→s.heap.get? b=some o
 size:s₀.heap.objs.size≤s.heap.objs.size
 os:s.os=s₀.os
 gens:s.gens=s₀.gens
theorem O1 (hh:A'.handled=none) (ho:s.heap.get? a=some o) (hex:o.ExactSet) (hd:o.data=.set es ep t) (hf:t.fits es.size=true) (R:Ris t.place) (hl:t.led=B3 w)
  (hz:es.size<scanBound) (q:∀ I s₁,SetWalk prog w A' es a s s₁ I→Q (.ref I) s₁):wpAny (model prog w) A (pyIter (.ref a)) Q E s:=by
 have hT:s.TypeIs (.ref a) "set":=⟨o,ho,hex.1⟩
 have ha:a<s.heap.objs.size:=Heap.lt_size ho
 refine wpAny_pyIter_slot hT PySem.F.slot_set_iter (wpAny_call_entry PySem.F.slot_set_iter hT HA ?_ (PySem.F.args_set_iter_1 _))
 unfold Builtin.«frozenset.__iter__»
 refine wpAny_bind (m:=Builtin.Frozenset.slot0 "__iter__" _) (wpAny_pure ?_)
 refine wpAny_bind ?_
 unfold Builtin.Frozenset.sizeOf
 refine wpAny_bind (wpAny_setEntries_of ho hd hf (wpAny_pure ?_))
 refine wpAny_bind ?_
 unfold setDrawn
 refine wpAny_bind (wpAny_setState_of ho hd hf ?_)
 dsimp only
 refine wpAny_bind (EG (wpAny_pure ?_))
 have make:∀ (s₁:Shared) (first:Value),s₁.heap.get? a=some o→(Q (.ref s₁.heap.objs.size) { s₁ with heap:=s₁.heap.push (BD first 0 a es.size ep) }) →
   wpAny (model prog w) A.in1 (do ret (← newFields "set_iterator" [first,rawInt 0,.ref a,rawInt es.size,rawInt (← setEpoch a)])) (fun fin s'=>∃ v,fin=.done (.ret v)∧(∃ T' r,s'.TypeIs v T'∧typeLookup (.type T') "__next__"=pure (some r)∧Q v s')) E s₁:=fun s₁ first ho₁ hq=>by
  refine wpAny_bind (wpAny_setEpoch_of ho₁ hd hf ?_)
  refine wpAny_bind (wpAny_newObj_type ?_ (by size_fits))
  exact wpAny_pure ⟨_,rfl,"set_iterator", _,⟨_,Heap.get?_push_size _ rfl,rfl⟩,Ac.lookup,hq⟩
 by_cases hdr:(!w.params.followText "set-order"&&(!t.plain&&decide (es.size > 1)))=true
 ·refine GG (show (!w.params.followText "set-order"&&(!t.plain&&decide (es.size > 1)))=true from hdr) ?_
  refine wpAny_bind (RW es.size (List.range es.size) s (by simp) fun π dr hp=>?_)
  have hlen:π.length=es.size:=by rw [hp.length_eq,List.length_range]
  refine wpAny_bind (wpAny_newTuple ?_ (by rw [List.length_map,hlen];exact fits_of_scanBound hz))
  have hT1:(s.heap.push { cls:=.type "tuple", data:=.seq (π.map fun (j:Nat)=>rawInt j).toArray }).get? s.heap.objs.size=some { cls:=.type "tuple", data:=.seq (π.map fun (j:Nat)=>rawInt j).toArray }:=Heap.get?_push_size _ rfl
  refine make _ _ (Heap.get?_push_of_some _ ho) (q _ _ ⟨⟨[(s.heap.push { cls:=.type "tuple", data:=.seq (π.map fun (j:Nat)=>rawInt j).toArray }).objs.size,a,s.heap.objs.size],Dd es π,_,HJ hp,
   Ky (T:=s.heap.objs.size) (o:=o) (ep:=ep) (c:=0) hh ?_ ?_ hd hf rfl hp rfl,⟨Nat.zero_le _,Heap.get?_push_size _ rfl,Heap.get?_push_of_some _ (Heap.get?_push_of_some _ ho),Heap.get?_push_of_some _ hT1⟩,?_⟩,?_,fun b o e=>Heap.get?_push_of_some _ (Heap.get?_push_of_some _ e),?_,rfl,rfl⟩)
  ·rw [Heap.size_push];exact Nat.ne_of_lt (Nat.lt_succ_of_lt ha)
  ·rw [Heap.size_push];exact Nat.ne_of_lt (Nat.lt_succ_self _)
  ·intro b hb
   simp only [List.mem_cons,List.not_mem_nil,or_false] at hb
   simp only [Heap.size_push] at hb
   rcases hb with rfl | rfl | rfl
   ·exact .inr (Nat.le_succ _)
   ·exact .inl rfl
   ·exact .inr (Nat.le_refl _)
  ·simp only [Heap.size_push];exact Nat.le_succ _
  ·simp only [Heap.size_push];exact Nat.le_succ_of_le (Nat.le_succ _)
 ·refine FL (show ¬ ((!w.params.followText "set-order"&&(!t.plain&&decide (es.size > 1)))=true) from hdr) (wpAny_bind (wpAny_pure ?_))
  have hne:a≠s.heap.objs.size:=Nat.ne_of_lt ha
  cases hw:w.params.followText "set-order" with
  | true=>
   refine make s (rawInt 0) ho (q _ _ ⟨⟨[s.heap.objs.size,a],pickOrder (w.params.setOrder a ep) es,_,HY _ _,HR (o:=o) (ep:=ep) (t:=t) hh hne hd hf rfl ?_ (fun _=>0) (fun s' i _ h'=>I4 h' hd hf hw),⟨Nat.zero_le _,Heap.get?_push_size _ rfl,Heap.get?_push_of_some _ ho⟩,?_⟩,Nat.le_refl _,fun b o e=>Heap.get?_push_of_some _ e,?_,rfl,rfl⟩)
   ·have:=(HY (w.params.setOrder a ep) es).length_eq;simpa using this
   ·intro b hb
    simp only [List.mem_cons,List.not_mem_nil,or_false] at hb
    rcases hb with rfl | rfl
    ·exact .inr (Nat.le_refl _)
    ·exact .inl rfl
   ·simp only [Heap.size_push];exact Nat.le_succ _
  | false=>
   rw [hw] at hdr
   have hp:¬ (t.plain=false∧1<es.size):=fun h=>hdr (by simp [h.1,h.2])
   have hled:t.led=true:=by rw [hl];simp [B3,hw]
   refine make s (rawInt 0) ho (q _ _ ⟨⟨[s.heap.objs.size,a],es,_,List.Perm.refl _,HR (o:=o) (ep:=ep) (t:=t) hh hne hd hf rfl rfl (Q9 t.place) (fun s' i hi h'=>Ka h' hd hf R hw hled hp hi),⟨Nat.zero_le _,Heap.get?_push_size _ rfl,Heap.get?_push_of_some _ ho⟩,?_⟩,Nat.le_refl _,fun b o e=>Heap.get?_push_of_some _ e,?_,rfl,rfl⟩)
   ·intro b hb
    simp only [List.mem_cons,List.not_mem_nil,or_false] at hb
    rcases hb with rfl | rfl
    ·exact .inr (Nat.le_refl _)
    ·exact .inl rfl
   ·simp only [Heap.size_push];exact Nat.le_succ _
end
end Mine.Internal
namespace Mine.Internal
open PySem PySem.Spec PyProof.Rows
set_option maxRecDepth 100000
theorem SC:typeLookup (.type "set") "__len__"=pure (some (.builtin "set.__len__")):=by rw [typeLookup_type,builtinLookup_eq_fast];kernel_rfl
section
variable {prog:Program} {w:World} {A:Around} {E:Value→Shared→Prop} {s:Shared}
theorem KO (hh:A.handled=none) (S:SetR prog w s.heap a (B3 w) ks)
  (q:∀ acc ns s',IntsAre acc ns→ns.Perm ks→(∀ b o,s.heap.get? b=some o→s'.heap.get? b=some o)→s.heap.objs.size≤s'.heap.objs.size→s'.os=s.os→s'.gens=s.gens→Q acc s'):wpAny (model prog w) A (collect (.ref a)) Q E s:=by
 refine C8 (id S) fun o es ep t ho hex hd hel hks hnd hb hf hr hled=>?_
 have ha:a<s.heap.objs.size:=Heap.lt_size ho
 have hT:s.TypeIs (.ref a) "set":=⟨o,ho,hex.1⟩
 unfold collect
 refine wpAny_bind (wpAny_runValue (codeAny_builtin PySem.F.entry_proto_collect ?_))
 rw [Around.under_plainId PySem.F.plain_proto_collect _]
 show wpAny _ A.in1 (newList [] >>= fun l=>again (.builtin "list.__iadd__" ⟨[l,.ref a],[]⟩)) _ _ s
 refine wpAny_bind (wpAny_newObj_type ?_)
 refine wpAny_pure ⟨plainId_quiet PySem.F.plain_list_iadd _,codeAny_builtin PySem.F.entry_list_iadd ?_⟩
 rw [Around.under_plainId PySem.F.plain_list_iadd _]
 have hS₁:(s.heap.push { cls:=.type "list", data:=.seq ([]:List Value).toArray }).get? s.heap.objs.size=some { cls:=.type "list", data:=.seq ([]:List Value).toArray }:=Heap.get?_push_size _ rfl
 have ho₁:(s.heap.push { cls:=.type "list", data:=.seq ([]:List Value).toArray }).get? a=some o:=Heap.get?_push_of_some _ ho
 show wpAny _ A.in1 (Builtin.List.listExtendWith (.ref s.heap.objs.size) (.ref a) (.ref s.heap.objs.size)) _ _ _
 unfold Builtin.List.listExtendWith
 have hT₁:Shared.TypeIs { s with heap:=s.heap.push { cls:=.type "list", data:=.seq ([]:List Value).toArray } } (.ref a) "set":=⟨o,ho₁,hex.1⟩
 refine wpAny_bind (wpAny_typeOf hT₁ ?_)
 have h1:Builtin.List.listSameRef (.ref s.heap.objs.size) (.ref a)=false:=by
  simp only [Builtin.List.listSameRef,beq_eq_false_iff_ne,ne_eq];exact Nat.ne_of_gt ha
 have h2:(Value.type "set"==Value.type "list")=false:=by decide
 have h3:(Value.type "set"==Value.type "tuple")=false:=by decide
 simp only [h1,h2,h3,Bool.or_false,Bool.false_eq_true,if_false]
 refine wpAny_bind (O1 (A':=A.in1) (s:={ s with heap:=s.heap.push { cls:=.type "list", data:=.seq ([]:List Value).toArray } }) hh ho₁ hex hd hf hr hled hb fun I s₂ W=>?_)
 refine CH W.walk fun fp out St hout WS hst hfp=>?_
 have hT₂:s₂.TypeIs (.ref a) "set":=⟨o,W.keep a o ho₁,hex.1⟩
 refine wpAny_bind (wpAny_holding ?_)
 unfold Builtin.List.listLengthHint
 refine wpAny_bind (wpAny_specialOf hT₂ SC ?_)
 (generalize hid:("set.__len__":String)=id0;wp_delta;rw [show splitId id0=some ("set", "__len__") from by subst hid;decide +kernel];subst hid)
 refine wpAny_bind (wpAny_isInstance (b:=true) hT₂ sub_set_self ?_)
 refine wpAny_bind (wpAny_typeOf hT₂ ?_)
 refine wpAny_pure ?_
 refine GG (by decide) ?_
 refine wpAny_bind (wpAny_rule ?_)
 have hS₂:=W.keep _ _ hS₁
 have hSf:s.heap.objs.size∉fp:=fun m=>by
  refine Or.elim (hfp _ m) (fun e=>?_) (fun e=>?_)
  ·exact Nat.ne_of_gt ha e
  ·rw [Heap.size_push] at e;exact Nat.not_succ_le_self _ e
 refine wpAny_bind ?_
 show wpAny _ A.in1 (updateSeq s.heap.objs.size (·.push .none) >>= fun _=>updateSeq s.heap.objs.size (·.pop)) _ _ _
 refine wpAny_bind (wpAny_updateSeq hS₂ rfl ?_)
 have hS₃:=Heap.get?_update_self (Obj.mapSeq (·.push Value.none)) hS₂ rfl
 refine wpAny_updateSeq hS₃ rfl ?_
 have hS₄:=Heap.get?_update_self (Obj.mapSeq (·.pop)) hS₃ rfl
 have oth:∀ b o,b≠s.heap.objs.size→s₂.heap.get? b=some o→((s₂.heap.update s.heap.objs.size (Obj.mapSeq (·.push Value.none))).update s.heap.objs.size (Obj.mapSeq (·.pop))).get? b=some o:=
  fun b o hb e=>(Heap.get?_update_other _ _ (Ne.symm hb)).trans ((Heap.get?_update_other _ _ (Ne.symm hb)).trans e)
 refine wpAny_pure ⟨plainId_quiet PySem.F.plain_extend_loop _,codeAny_extend_loopS WS (fits_of_scanBound hb) _ hSf _ es.size 0 _ _ _ rfl (Nat.zero_le _)
  (WS.frame 0 s₂ _ s₂.toks hst (Nat.le_refl _) fun b hb o e=>oth b o (fun h=>hSf (h▸hb)) e) hS₄ (ItemsOf.nil _) fun s' acc' c' hm hS' hacc=>?_⟩
 show wpAny _ A (load s.heap.objs.size >>= _) _ _ s'
 refine wpAny_bind (wpAny_load hS' ?_)
 have hsz:out.size=es.size:=by have:=hout.length_eq;simpa using this
 have hacc':acc'.toList=out.toList.map (·.2):=by
  apply List.ext_getElem?
  intro j
  rw [Array.getElem?_toList,List.getElem?_map,Array.getElem?_toList]
  by_cases hj:j<es.size
  ·have hj':j<acc'.size:=by rw [hacc.1];exact hj
   have e1:acc'[j]?=some acc'[j]:=Array.getElem?_eq_getElem hj'
   refine AF (hacc.2 j _ e1) fun e h1 h2=>?_
   rw [e1,h1,h2];rfl
  ·rw [Array.getElem?_eq_none (by rw [hacc.1];exact an2 .le .v0 .v1 (.o .v1 .v0 .e) rfl hj),Array.getElem?_eq_none (by exact an3 .le .v0 .v1 (.q .v0 .v2 (.o .v1 .v2 .e)) rfl hsz hj)];rfl
 have hint:∀ v∈acc'.toList,∃ n t,v=Value.int n t:=fun v hv=>by
  rw [hacc'] at hv
  refine AF (List.mem_map.mp hv) fun e he ze1=>?_;subst ze1
  refine AX (J5 hel (hout.mem_iff.mp he)) fun t ht=>?_
  exact ⟨_,t,ht⟩
 refine wpAny_pure (q acc'.toList _ s' (intsAre_map _ hint) ?_ (fun b o e=>?_) ?_ ?_ ?_)
 ·rw [hacc',List.map_map,hks]
  exact hout.map _
 ·have hb:b<s.heap.objs.size:=Heap.lt_size e
  have hbI:b≠I:=fun h=>by
   have:=W.old
   rw [Heap.size_push] at this
   rw [h] at hb
   exact Nat.lt_irrefl _ (Nat.lt_trans hb (Nat.lt_of_succ_le this))
  refine hm.heap b o ?_ (oth b o (Nat.ne_of_lt hb) (W.keep b o (Heap.get?_push_of_some _ e)))
  simp only [List.mem_cons,List.not_mem_nil,or_false,not_or]
  exact ⟨Nat.ne_of_lt hb,hbI⟩
 ·exact Nat.le_of_lt (Heap.lt_size hS')
 ·exact hm.os.trans W.os
 ·exact hm.gens.trans W.gens
theorem Ln (hh:A.handled=none) (S:SetR prog w s.heap a (B3 w) ks) (h64:ks.length<64)
  (q:∀ D (out:Array Value) (ns:List Int) (h':Heap) (s':Shared) (c:Nat),IntsAre out.toList ns→ns.Perm ks→ns.Pairwise (·≤·)→s.heap.get? D=none→h'.get? D=some { cls:=.type "list", data:=.seq out c }→(∀ b o,s.heap.get? b=some o→h'.get? b=some o)→s'.os=s.os→s'.gens=s.gens→Q (.ref D) { s' with heap:=h' }) :
  wpAny (model prog w) A (call (.builtin "sorted") [.ref a]) Q E s:=by
 refine Calls.call_function_entry kind_sorted plain_sorted entry_sorted (args_sorted1 _) ?_
 unfold Builtin.«sorted»
 refine wpAny_bind (m:=checkCount "sorted" 1 1 _) (wpAny_pure ?_)
 refine wpAny_bind (KO hh S fun acc ns s₁ hI hp hk hz hos hg=>?_)
 have hlen:acc.length=ks.length:=(IntsAre.length hI).trans hp.length_eq
 refine wpAny_bind (wpAny_newList ?_ (by rw [hlen,sizeLine_eq];exact an1 .le .v0 (.n 16777216) (.t .v0 (.n 64) .e) rfl h64))
 have hoL:(s₁.heap.push (seqObj "list" acc.toArray 0)).get? s₁.heap.objs.size=some (seqObj "list" acc.toArray 0):=Heap.get?_push_size _ rfl
 have hlt:∀ b o,s₁.heap.get? b=some o→b≠s₁.heap.objs.size:=fun b o e=>Nat.ne_of_lt (Heap.lt_size e)
 refine wpAny_bind (wpAny_holding (wpAny_call_entry (s:={ s₁ with heap:=s₁.heap.push (seqObj "list" acc.toArray 0) }) slot_list_sort ⟨_,hoL,rfl⟩ entry_list_sort (list_sort_tree (s:={ s₁ with heap:=s₁.heap.push (seqObj "list" acc.toArray 0) }) hoL hI (by exact an2 .lt .v0 (.n 64) (.q .v0 .v1 (.t .v1 (.n 64) .e)) rfl hlen h64) fun out ns' a1 a2 a3=>⟨_,rfl,?_⟩) (args_list_sort _)))
 obtain ⟨c1,g1⟩:∃ c1,((s₁.heap.push (seqObj "list" acc.toArray 0)).update s₁.heap.objs.size (Obj.mapSeq fun _=>(#[]:Array Value))).get? s₁.heap.objs.size=some (seqObj "list" #[] c1):=⟨_,get?_update_seq hoL fun _=>#[]⟩
 have g2:((((s₁.heap.push (seqObj "list" acc.toArray 0)).update s₁.heap.objs.size (Obj.mapSeq fun _=>(#[]:Array Value))).push (seqObj "tuple" acc.toArray 0)).push (seqObj "list" #[] 0)).get? s₁.heap.objs.size=some (seqObj "list" #[] c1):=Heap.get?_push_of_some _ (Heap.get?_push_of_some _ g1)
 obtain ⟨c3,g3⟩:∃ c3,(sortedHeap (s₁.heap.push (seqObj "list" acc.toArray 0)) s₁.heap.objs.size acc out).get? s₁.heap.objs.size=some (seqObj "list" out c3):=⟨_,get?_update_seq g2 fun _=>out⟩
 refine wpAny_pure ⟨_,rfl,q s₁.heap.objs.size out ns' _ s₁ c3 a1 (a2.trans hp) a3 ?_ g3 (fun b o e=>?_) hos hg⟩
 ·exact Heap.get?_none_of_le hz
 ·have e1:=hk b o e
  have hb:=hlt b o e1
  unfold sortedHeap
  rw [Heap.get?_update_ne _ _ _ _ hb]
  refine Heap.get?_push_of_some _ (Heap.get?_push_of_some _ ?_)
  rw [Heap.get?_update_ne _ _ _ _ hb]
  exact Heap.get?_push_of_some _ e1
end
end Mine.Internal
namespace Mine.Internal
open PySem PySem.W PyProof.Rows
noncomputable def Tr (lt:Nat→Nat→Bool) (n:Nat) {α:Type}:KasT α→(α→Prop)→Prop
 | .ret a,Q=>Q a
 | .ask i j k,Q=>i<n∧j<n∧Tr lt n (k (lt i j)) Q
theorem Tr.bind {lt:Nat→Nat→Bool} {n:Nat} {α β:Type} {f:α→KasT β} {Q:β→Prop} {t:KasT α} (h:Tr lt n t (fun a=>Tr lt n (f a) Q)):Tr lt n (t.bind f) Q:=by
 induction t with
 | ret a=>exact h
 | ask i j k ih=>exact ⟨h.1,h.2.1,ih _ h.2.2⟩
structure Weak (lt:Nat→Nat→Bool):Prop where
 irr:∀ i,lt i i=false
 asy:∀ i j,lt i j=true→lt j i=false
 neg:∀ i j k,lt i k=true→lt i j=true∨lt j k=true
variable {lt:Nat→Nat→Bool}
theorem Iz {b:Bool} {P:Prop} (h:b=true) (h':b=false):P:=nomatch h.symm.trans h'
theorem Weak.no (W:Weak lt) {i j k:Nat} (h1:lt i j=false) (h2:lt j k=false):lt i k=false:=Bool.eq_false_iff.mpr fun h=>(W.neg i j k h).elim (Iz · h1) (Iz · h2)
theorem Weak.tr (W:Weak lt) {i j k:Nat} (h1:lt i j=true) (h2:lt j k=true):lt i k=true:=(W.neg i k j h1).elim id fun h=>Iz h (W.asy _ _ h2)
noncomputable def Bf (lt:Nat→Nat→Bool) (i j:Nat):Prop:=lt i j=true∨(lt j i=false∧i<j)
theorem Bf.no (W:Weak lt) (h:Bf lt i j):lt j i=false:=h.elim (fun h=>W.asy _ _ h) fun h=>h.1
theorem Bf.trans (W:Weak lt) {i j k:Nat} (h1:Bf lt i j) (h2:Bf lt j k):Bf lt i k:=
 h1.elim (fun a=>.inl ((W.neg i k j a).elim id fun h=>Iz h (h2.no W))) fun a=>h2.elim (fun c=>.inl ((W.neg j i k c).elim (fun h=>Iz h a.1) id)) fun c=>.inr ⟨W.no c.1 a.1,Nat.lt_trans a.2 c.2⟩
structure Fix (f:Nat) (p:Array Nat) (L:List Nat):Prop where
 eq:p.toList=L++List.range' L.length f
 perm:L.Perm (List.range L.length)
section
variable {f n:Nat} {p:Array Nat} {L K D A R X Y:List Nat} {x z:Nat}
theorem Am (K:List Nat) (z:Nat):(K++[z]).length=K.length+1:=List.length_append
theorem Fix.low (F:Fix f p L) (h:x∈L):x<L.length:=List.mem_range.mp (F.perm.mem_iff.mp h)
theorem Fix.grow (F:Fix (f+1) p L):Fix f p (L++[L.length]) where
 eq:=by rw [F.eq,List.range'_succ,Am,List.append_cons]
 perm:=by rw [Am,List.range_succ];exact F.perm.append_right _
theorem JI (h:p.toList=X++x::Y):p.getD X.length 0=x:=by
 rw [Array.getD_eq_getD_getElem?,← Array.getElem?_toList,h,List.getElem?_append_right (Nat.le_refl _),Nat.sub_self];rfl
theorem Fix.here (F:Fix (f+1) p L):p.getD L.length 0=L.length:=JI (F.eq.trans (by rw [List.range'_succ]))
theorem Fix.here1 (F:Fix (f+1) p (K++[z])):p.getD (K.length+1) 0=K.length+1:=Am K z▸F.here
theorem Fix.last (F:Fix f p (K++[z])):p.getD K.length 0=z:=JI (F.eq.trans (List.append_assoc ..))
theorem Fix.low1 (F:Fix f p (K++[z])) (h:K.length+1+f=n):z<n:=
 Nat.lt_of_lt_of_le (F.low (List.mem_append_right _ List.mem_cons_self)) (h▸(Am K z).symm▸Nat.le_add_right _ _)
theorem Fix.at (F:Fix f p L) (h:i<L.length):p.getD i 0=L[i]:=by
 rw [Array.getD_eq_getD_getElem?,← Array.getElem?_toList,F.eq,List.getElem?_append_left h,List.getElem?_eq_getElem h];rfl
theorem O3 (h:p.toList=D++(A++R)):(kas_rev p D.length (D.length+A.length)).toList=D++(A.reverse++R):=by
 have hz:D.length+A.length≤p.size:=by rw [← Array.length_toList,h,List.length_append,List.length_append,← Nat.add_assoc];exact Nat.le_add_right _ _
 refine List.ext_getElem? fun k=>?_
 rw [Array.getElem?_toList,kas_rev,getElem?_mirror_all hz,← Array.getElem?_toList,← Array.getElem?_toList,h]
 refine (Nat.lt_or_ge k D.length).elim (fun c=>?_) fun c=>?_
 ·rw [if_neg (fun z=>Nat.not_lt.mpr z.1 c),List.getElem?_append_left c,List.getElem?_append_left c]
 ·obtain ⟨i,rfl⟩:=Nat.exists_eq_add_of_le c
  rw [List.getElem?_append_right c,List.getElem?_append_right c,Nat.add_sub_cancel_left]
  refine (Nat.lt_or_ge i A.length).elim (fun c'=>?_) fun c'=>?_
  ·refine (Nat.exists_eq_add_of_le c').elim fun j (hj:A.length=i+1+j)=>?_
   have e1:A.length - 1 - i=j:=by rw [hj,Nat.add_right_comm,Nat.add_sub_cancel,Nat.add_sub_cancel_left]
   have e2:D.length+(D.length+A.length) - 1 - (D.length+i)=D.length+j:=Nat.sub_eq_of_eq_add (Nat.sub_eq_of_eq_add (hj▸Nat.le_antisymm (an3 .le (.a .v0 (.a .v0 (.a (.a .v1 .n1) .v2))) (.a (.a (.a .v0 .v2) (.a .v0 .v1)) .n1) .e rfl) (an3 .le (.a (.a (.a .v0 .v1) (.a .v0 .v2)) .n1) (.a .v0 (.a .v0 (.a (.a .v2 .n1) .v1))) .e rfl)))
   rw [if_pos ⟨c,Nat.add_lt_add_left c' _⟩,e2,List.getElem?_append_right (Nat.le_add_right ..),Nat.add_sub_cancel_left,List.getElem?_append_left (hj▸Nat.lt_add_of_pos_left (Nat.zero_lt_succ i)),List.getElem?_append_left (by rw [List.length_reverse];exact c'),List.getElem?_reverse c',e1]
  ·rw [if_neg (fun z=>Nat.not_lt.mpr c' (Nat.lt_of_add_lt_add_left z.2)),List.getElem?_append_right c',List.getElem?_append_right (by rw [List.length_reverse];exact c'),List.length_reverse]
theorem Ob (h:p.toList=X++(Y++x::R)):(bubble p (X.length+Y.length) Y.length).toList=X++x::(Y++R):=by
 have hz:X.length+Y.length<p.size:=by rw [← Array.length_toList,h,List.length_append,List.length_append];exact Nat.add_lt_add_left (Nat.lt_add_of_pos_right (Nat.zero_lt_succ _)) _
 refine List.ext_getElem? fun k=>?_
 rw [Array.getElem?_toList,getElem?_bubble hz _ (Nat.le_add_left _ _),Nat.add_sub_cancel,← Array.getElem?_toList,← Array.getElem?_toList,← Array.getElem?_toList,h]
 refine (Nat.lt_or_ge k X.length).elim (fun c=>?_) fun c=>?_
 ·rw [if_neg (Nat.ne_of_lt c),if_neg (fun z=>Nat.lt_asymm c z.1),List.getElem?_append_left c,List.getElem?_append_left c]
 ·obtain ⟨i,rfl⟩:=Nat.exists_eq_add_of_le c
  rw [List.getElem?_append_right c,List.getElem?_append_right c,Nat.add_sub_cancel_left]
  cases i with
  | zero=>rw [if_pos (Nat.add_zero _),List.getElem?_append_right (Nat.le_add_right _ _),Nat.add_sub_cancel_left,List.getElem?_append_right (Nat.le_refl _),Nat.sub_self];rfl
  | succ j=>
   rw [if_neg (Nat.ne_of_gt (Nat.lt_add_of_pos_right (Nat.zero_lt_succ j))),List.getElem?_cons_succ]
   refine (Nat.lt_or_ge j Y.length).elim (fun c'=>?_) fun c'=>?_
   ·rw [if_pos ⟨Nat.lt_add_of_pos_right (Nat.zero_lt_succ j),Nat.add_le_add_left c' _⟩,show X.length+(j+1) - 1=X.length+j from rfl,List.getElem?_append_right (Nat.le_add_right _ _),Nat.add_sub_cancel_left,List.getElem?_append_left c',List.getElem?_append_left c']
   ·rw [if_neg (fun z=>Nat.not_lt.mpr c' (Nat.le_of_add_le_add_left z.2)),List.getElem?_append_right (Nat.le_succ_of_le c'),List.getElem?_append_right c',Nat.succ_sub c'];rfl
theorem JX (D A:List Nat):(D++A.reverse).length=(D++A).length:=by rw [List.length_append,List.length_append,List.length_reverse]
theorem Fix.rev (F:Fix f p (D++A)):Fix f (kas_rev p D.length (D++A).length) (D++A.reverse) where
 eq:=by
  have e:=F.eq
  rw [List.append_assoc] at e
  rw [List.length_append,O3 e,List.append_assoc,List.length_append,List.length_append,List.length_reverse]
 perm:=by
  have e:=F.perm
  rw [List.length_append] at e
  rw [List.length_append,List.length_reverse]
  exact ((List.reverse_perm A).append_left D).trans e
theorem Od (W:Weak lt) (S:(K++[z]).Pairwise (Bf lt)) (h:Bf lt z x):(K++[z]++[x]).Pairwise (Bf lt):=
 List.pairwise_append.mpr ⟨S,List.pairwise_singleton _ _,fun a ha b hb=>List.mem_singleton.mp hb▸((List.mem_append.mp ha).elim (fun ha=>((List.pairwise_append.mp S).2.2 a ha z List.mem_cons_self).trans W h) fun ha=>List.mem_singleton.mp ha▸h)⟩
end
noncomputable def Up (lt:Nat→Nat→Bool) (n:Nat) (p:Array Nat) (Q:Nat→Prop):Prop:=
 ∀ g K z,K.length+1+g=n→Fix g p (K++[z])→(K++[z]).Pairwise (Bf lt)→(g≠0→lt (K.length+1) z=true)→Q (K.length+1)
theorem Pi (W:Weak lt) (q:Up lt n p Q) (f:Nat):∀ (K:List Nat) (z:Nat),K.length+1+f=n→Fix f p (K++[z])→(K++[z]).Pairwise (Bf lt)→Tr lt n (kas_asc p f (K.length+1)) Q:=by
 induction f with
 | zero=>exact fun K z hn F S=>q 0 K z hn F S fun h=>absurd rfl h
 | succ f ih=>
  intro K z hn F S
  show Tr lt n (.ask (p.getD (K.length+1) 0) (p.getD K.length 0) _) Q
  rw [F.here1,F.last]
  refine ⟨hn▸Nat.lt_add_of_pos_right (Nat.zero_lt_succ f),F.low1 hn,?_⟩
  show Tr lt n (if lt (K.length+1) z=true then _ else _) Q
  by_cases hc:lt (K.length+1) z=true
  ·rw [if_pos hc];exact q (f+1) K z hn F S fun _=>hc
  ·rw [if_neg hc]
   have G:=F.grow
   have lo:=F.low (List.mem_append_right K List.mem_cons_self)
   have:=ih (K++[z]) (K++[z]).length
   rw [Am] at this G lo
   exact this (Nat.add_right_comm _ f 1▸hn) G (Od W S (.inr ⟨Bool.eq_false_iff.mpr hc,lo⟩))
noncomputable def TQ (lt:Nat→Nat→Bool) (n:Nat) (Q:Nat × Array Nat→Prop):Prop:=
 ∀ g p L,L.length+g=n→Fix g p L→L.Pairwise (Bf lt)→1≤L.length→Q (L.length,p)
theorem Kq (W:Weak lt) (hn:L.length+f=n) (F:Fix f p L) (h0:1≤L.length) (h:L.Pairwise fun x y=>Bf lt y x) (hQ:TQ lt n Q):Tr lt n (kas_tail3 L.length n p) Q:=by
 refine Tr.bind ?_
 have F':Fix f (kas_rev p 0 L.length) L.reverse:=Fix.rev (D:=[]) F
 have S:=List.pairwise_reverse.mpr h
 rw [show n - L.length=f by rw [← hn];exact Nat.add_sub_cancel_left ..]
 generalize kas_rev p 0 L.length=p' at F' ⊢
 rw [← List.length_reverse] at hn h0 ⊢
 generalize L.reverse=M at *
 obtain ⟨K,z,rfl⟩:∃ K z,M=K++[z]:=⟨M.dropLast,M.getLast (List.ne_nil_of_length_pos h0),(List.dropLast_concat_getLast _).symm⟩
 rw [Am] at hn ⊢
 exact Pi W (fun g K z hn F S _=>by have:=hQ g p' (K++[z]);rw [Am] at this;exact this hn F S (Nat.le_add_left 1 _)) f K z hn F' S
noncomputable def Sj (lt:Nat→Nat→Bool) (x y:Nat):Prop:=lt x y=false∧lt y x=false∧x<y
structure Run (lt:Nat→Nat→Bool) (f:Nat) (p:Array Nat) (D A:List Nat) (z:Nat):Prop where
 fix:Fix f p (D++(A++[z]))
 dsc:D.Pairwise fun x y=>Bf lt y x
 alike:(A++[z]).Pairwise (Sj lt)
 strict:∀ d∈D,∀ a∈A++[z],lt a d=true
section
variable {f n:Nat} {p:Array Nat} {D A:List Nat} {z:Nat}
theorem Run.dscRev (R:Run lt f p D A z):(D++(A++[z]).reverse).Pairwise fun x y=>Bf lt y x:=
 List.pairwise_append.mpr ⟨R.dsc,List.pairwise_reverse.mpr (R.alike.imp fun h=>.inr ⟨h.2.1,h.2.2⟩),fun d hd a ha=>.inl (R.strict d hd a (List.mem_reverse.mp ha))⟩
theorem Run.below (W:Weak lt) (R:Run lt f p D A z) {x:Nat} (h:lt x z=true):∀ d∈D++(A++[z]).reverse,lt x d=true:=fun d hd=>by
 have hz:∀ d∈A++[z],lt d z=false:=fun d hd=>(List.mem_append.mp hd).elim (fun hd=>((List.pairwise_append.mp R.alike).2.2 d hd z List.mem_cons_self).1) fun hd=>List.mem_singleton.mp hd▸W.irr _
 exact (List.mem_append.mp hd).elim (fun hd=>W.tr h (R.strict d hd z (List.mem_append_right _ List.mem_cons_self))) fun hd=>(W.neg x d z h).elim id fun h=>Iz h (hz d (List.mem_reverse.mp hd))
theorem GJ (F:Fix (f+1) p L) (h:L.Pairwise fun x y=>Bf lt y x) (hs:∀ d∈L,lt L.length d=true):Run lt f p L [] L.length:=
 ⟨F.grow,h,List.pairwise_singleton _ _,fun d hd a ha=>List.mem_singleton.mp ha▸hs d hd⟩
theorem Run.next (W:Weak lt) (R:Run lt (f+1) p D A z) (h:lt (D++(A++[z])).length z=true):Run lt f (kas_rev p D.length (D++(A++[z])).length) (D++(A++[z]).reverse) [] (D++(A++[z])).length:=by
 have:=R.fix.rev
 rw [← JX] at this h ⊢
 exact GJ this R.dscRev (R.below W h)
theorem Run.same (W:Weak lt) (R:Run lt (f+1) p D A z) (h1:lt (D++(A++[z])).length z=false) (h2:lt z (D++(A++[z])).length=false):Run lt f p D (A++[z]) (D++(A++[z])).length:=by
 have hz:∀ a∈A++[z],lt a z=false∧lt z a=false:=fun d hd=>(List.mem_append.mp hd).elim (fun hd=>(fun h:Sj lt d z=>⟨h.1,h.2.1⟩) ((List.pairwise_append.mp R.alike).2.2 d hd z List.mem_cons_self)) fun hd=>List.mem_singleton.mp hd▸⟨W.irr _,W.irr _⟩
 refine ⟨List.append_assoc D (A++[z]) _▸R.fix.grow,R.dsc,List.pairwise_append.mpr ⟨R.alike,List.pairwise_singleton _ _,fun a ha b hb=>List.mem_singleton.mp hb▸⟨W.no (hz a ha).1 h2,W.no h1 (hz a ha).2,R.fix.low (List.mem_append_right _ ha)⟩⟩,fun d hd a ha=>(List.mem_append.mp ha).elim (R.strict d hd a) fun ha=>List.mem_singleton.mp ha▸?_⟩
 exact (W.neg _ _ _ (R.strict d hd z (List.mem_append_right _ List.mem_cons_self))).elim (fun h=>Iz h h2) id
end
theorem RV (W:Weak lt) (hQ:∀ f p D A z,(D++(A++[z])).length+f=n→Run lt f p D A z→Q (p,(D++(A++[z])).length,A.length)) (f:Nat) :
  ∀ (p:Array Nat) (D A:List Nat) (z:Nat),(D++(A++[z])).length+f=n→Run lt f p D A z→Tr lt n (kas_desc f p (D++(A++[z])).length A.length) Q:=by
 induction f with
 | zero=>exact fun p D A z hn R=>hQ 0 p D A z hn R
 | succ f ih=>
  intro p D A z hn R
  have hm:(D++(A++[z])).length=(D++A).length+1:=by rw [← List.append_assoc];exact Am ..
  have hlt:(D++(A++[z])).length<n:=hn▸Nat.lt_add_of_pos_right (Nat.zero_lt_succ f)
  have hz:z<n:=Nat.lt_trans (R.fix.low (List.mem_append_right _ (List.mem_append_right _ List.mem_cons_self))) hlt
  have e1:=R.fix.here
  have e2:p.getD ((D++(A++[z])).length - 1) 0=z:=by
   have:=R.fix
   rw [← List.append_assoc] at this
   rw [hm];exact this.last
  have hg:(D++(A++[z])).length - (A.length+1)=D.length:=by rw [List.length_append,Am];exact Nat.add_sub_cancel ..
  have hn':(D++(A++[z])).length+1+f=n:=by rw [Nat.add_right_comm];exact hn
  show Tr lt n (.ask (p.getD (D++(A++[z])).length 0) (p.getD ((D++(A++[z])).length - 1) 0) fun c=>if c=true then (if A.length > 0 then kas_desc f (kas_rev p ((D++(A++[z])).length - (A.length+1)) (D++(A++[z])).length) ((D++(A++[z])).length+1) 0 else kas_desc f p ((D++(A++[z])).length+1) 0) else .ask _ _ _) Q
  rw [e1,e2,hg]
  refine ⟨hlt,hz,?_⟩
  show Tr lt n (if lt (D++(A++[z])).length z=true then _ else _) Q
  have ln:∀ (X:List Nat) x,(X++([]++[x])).length=X.length+1:=Am
  by_cases hc:lt (D++(A++[z])).length z=true
  ·rw [if_pos hc]
   have R':=R.next W hc
   have hr:=ih (kas_rev p D.length (D++(A++[z])).length) (D++(A++[z]).reverse) [] (D++(A++[z])).length
   rw [ln,JX] at hr
   by_cases ha:A.length > 0
   ·rw [if_pos ha];exact hr hn' R'
   ·rw [if_neg ha]
    have ha:=List.length_eq_zero_iff.mp (Nat.eq_zero_of_not_pos ha)
    subst ha
    have R':=GJ R.fix (R.dscRev (D:=D) (A:=[]) (z:=z)) (R.below W hc)
    have hr:=ih p (D++[z]) [] (D++[z]).length
    rw [ln] at hr
    exact hr hn' R'
  ·rw [if_neg hc]
   refine ⟨hz,hlt,?_⟩
   show Tr lt n (if lt z (D++(A++[z])).length=true then _ else _) Q
   by_cases hd:lt z (D++(A++[z])).length=true
   ·rw [if_pos hd];exact hQ (f+1) p D A z hn R
   ·rw [if_neg hd]
    have hr:=ih p D (A++[z]) (D++(A++[z])).length
    rw [← List.append_assoc D,Am,Am A] at hr
    exact hr hn' (R.same W (Bool.eq_false_iff.mpr hc) (Bool.eq_false_iff.mpr hd))
theorem F2 (W:Weak lt) (hn:L.length+1+f=n) (R:Run lt f p L [] L.length) (hQ:TQ lt n Q):Tr lt n (kas_descPart L.length n p) Q:=by
 refine Tr.bind ?_
 rw [show n - (L.length+1)=f by rw [← hn];exact Nat.add_sub_cancel_left ..]
 have:=RV (n:=n) W (Q:=fun r=>Tr lt n (if r.2.2 > 0 then kas_tail3 r.2.1 n (kas_rev r.1 (r.2.1 - (r.2.2+1)) r.2.1) else kas_tail3 r.2.1 n r.1) Q) (fun f p D A z hn R=>?_) f p L [] L.length
 rotate_left
 ·have e:=JX D (A++[z])
  have h1:1≤(D++(A++[z])).length:=by rw [← List.append_assoc,Am];exact Nat.le_add_left ..
  by_cases ha:A.length > 0
  ·rw [if_pos ha]
   dsimp only
   have:=Kq W (e▸hn) R.fix.rev (e▸h1) R.dscRev hQ
   rw [e] at this
   rw [show (D++(A++[z])).length - (A.length+1)=D.length by rw [List.length_append,Am];exact Nat.add_sub_cancel ..]
   exact this
  ·rw [if_neg ha]
   have ha:=List.length_eq_zero_iff.mp (Nat.eq_zero_of_not_pos ha)
   subst ha
   exact Kq W hn R.fix h1 R.dscRev hQ
 have e:(L++([]++[L.length])).length=L.length+1:=Am L L.length
 rw [e] at this
 exact this hn R
theorem Pm {n:Nat} {Q:Nat × Array Nat→Prop} (W:Weak lt) (hQ:TQ lt (n+1) Q):Tr lt (n+1) (kas_count (n+1) (List.toArray (List.range (n+1)))) Q:=by
 refine Tr.bind ?_
 have F:Fix n (List.toArray (List.range (n+1))) ([]++[0]):=Fix.grow (L:=[]) ⟨List.range_eq_range',.nil⟩
 generalize List.toArray (List.range (n+1))=p at *
 refine Pi W (fun g K z hn F S hl=>?_) n [] 0 (Nat.add_comm ..) F (List.pairwise_singleton _ _)
 have fin:Q (K.length+1,p):=by have:=hQ g p (K++[z]);rw [Am] at this;exact this hn F S (Nat.le_add_left 1 _)
 cases g with
 | zero=>rw [if_pos (beq_iff_eq.mpr hn)];exact fin
 | succ g=>
  have hl:=hl nofun
  have hn':(K++[z]).length+1+g=n+1:=by rw [Am,Nat.add_right_comm];exact hn
  have hn'':(K++[z]).reverse.length+1+g=n+1:=by rw [List.length_reverse];exact hn'
  rw [if_neg (fun e=>Nat.ne_of_lt (hn▸Nat.lt_add_of_pos_right (Nat.zero_lt_succ g)) (beq_iff_eq.mp e))]
  have ha:=List.pairwise_append.mp S
  cases K with
  | nil=>
   rw [if_neg (by decide)]
   exact F2 (L:=[z]) W hn' (GJ F (List.pairwise_singleton _ _) fun d hd=>List.mem_singleton.mp hd▸hl) hQ
  | cons a K=>
   rw [if_pos (show (a::K).length+1 > 1 from Nat.succ_lt_succ (Nat.zero_lt_succ _))]
   have e0:p.getD 0 0=a:=JI (X:=[]) F.eq
   have el:p.getD ((a::K).length+1 - 1) 0=z:=F.last
   show Tr lt (n+1) (.ask (p.getD 0 0) (p.getD ((a::K).length+1 - 1) 0) _) Q
   rw [e0,el]
   have lo:∀ x∈(a::K)++[z],x<n+1:=fun x hx=>Nat.lt_of_lt_of_le (F.low hx) (Am (a::K) z▸hn▸Nat.le_add_right _ _)
   refine ⟨lo a List.mem_cons_self,lo z (List.mem_append_right _ List.mem_cons_self),?_⟩
   show Tr lt (n+1) (if lt a z=true then _ else _) Q
   by_cases hc:lt a z=true
   ·rw [if_pos hc];exact fin
   ·rw [if_neg hc]
    have hz:∀ d∈(a::K)++[z],lt d z=false:=fun d hd=>(List.mem_append.mp hd).elim (fun hd=>(List.mem_cons.mp hd).elim (fun e=>e▸Bool.eq_false_iff.mpr hc) fun hk=>
     W.no (((List.pairwise_cons.mp ha.1).1 d hk).no W) (Bool.eq_false_iff.mpr hc)) fun hd=>List.mem_singleton.mp hd▸W.irr _
    have F':Fix (g+1) (kas_rev p 0 ((a::K)++[z]).length) ((a::K)++[z]).reverse:=Fix.rev (D:=[]) F
    have hr:=GJ (lt:=lt) F' (List.pairwise_reverse.mpr S) fun d hd=>by
     rw [List.length_reverse,Am]
     exact (W.neg _ d _ hl).elim id fun h=>Iz h (hz d (List.mem_reverse.mp hd))
    have:=F2 W hn'' hr hQ
    rw [List.length_reverse,Am] at this
    exact this
theorem QA (hk:p.getD k 0=k) (hn:k<n) (inb:∀ i,i<k→p.getD i 0<n) (up:∀ i j,i≤j→j<k→lt k (p.getD i 0)=true→lt k (p.getD j 0)=true)
  (hQ:∀ l,l≤k→(∀ i,i<l→lt k (p.getD i 0)=false)→(∀ i,l≤i→i<k→lt k (p.getD i 0)=true)→Q l) (f:Nat) :
  ∀ l r:Nat,l≤r→r≤k→r≤l+f→(∀ i,i<l→lt k (p.getD i 0)=false)→(∀ i,r≤i→i<k→lt k (p.getD i 0)=true)→Tr lt n (kas_place p k f l r) Q:=by
 induction f with
 | zero=>exact fun l r h1 h2 h3 a b=>hQ l (Nat.le_trans h1 h2) a fun i h=>b i (Nat.le_trans h3 h)
 | succ f ih=>
  intro l r h1 h2 h3 a b
  show Tr lt n (if l ≥ r then .ret l else .ask (p.getD k 0) (p.getD ((l+r) / 2) 0) fun c=>if c=true then kas_place p k f l ((l+r) / 2) else kas_place p k f ((l+r) / 2+1) r) Q
  by_cases hl:l ≥ r
  ·rw [if_pos hl];exact hQ l (Nat.le_trans h1 h2) a fun i h=>b i (Nat.le_trans hl h)
  ·rw [if_neg hl,hk]
   have hl:=Nat.lt_of_not_le hl
   have m1:l≤(l+r) / 2:=(Nat.le_div_iff_mul_le (by decide)).mpr (by rw [Nat.mul_two];exact Nat.add_le_add_left h1 l)
   have m2:(l+r) / 2<r:=Nat.div_lt_of_lt_mul (by rw [Nat.two_mul];exact Nat.add_lt_add_right hl r)
   have mk:=Nat.lt_of_lt_of_le m2 h2
   refine ⟨hn,inb _ mk,?_⟩
   show Tr lt n (if lt k (p.getD ((l+r) / 2) 0)=true then _ else _) Q
   by_cases hc:lt k (p.getD ((l+r) / 2) 0)=true
   ·rw [if_pos hc];exact ih l _ m1 (Nat.le_of_lt mk) (Nat.le_of_lt_succ (Nat.lt_of_lt_of_le m2 h3)) a fun i c e=>up _ i c e hc
   ·rw [if_neg hc];exact ih _ r m2 h2 (by rw [Nat.add_right_comm];exact Nat.le_trans h3 (Nat.add_le_add_right m1 (f+1))) (fun i c=>Bool.eq_false_iff.mpr fun h=>hc (up i _ (Nat.le_of_lt_succ c) mk h)) b
theorem Rf {n:Nat} (W:Weak lt) {Q:Array Nat→Prop} (hQ:∀ p L,Fix 0 p L→L.length=n→L.Pairwise (Bf lt)→Q p) (f:Nat):∀ (p:Array Nat) (L:List Nat),L.length+f=n→Fix f p L→L.Pairwise (Bf lt)→Tr lt n (kas_bin f p L.length) Q:=by
 induction f with
 | zero=>exact fun p L hn F S=>hQ p L F hn S
 | succ f ih=>
  intro p L hn F S
  have hk:L.length<n:=hn▸Nat.lt_add_of_pos_right (Nat.zero_lt_succ f)
  refine Tr.bind (QA F.here hk (fun i h=>?_) (fun i j hij hj h=>?_) (fun l hl a b=>?_) L.length 0 L.length (Nat.zero_le _) (Nat.le_refl _) (Nat.le_add_left ..) (fun i h=>absurd h (Nat.not_lt_zero _)) fun i h h'=>absurd h' (Nat.not_lt.mpr h))
  ·rw [F.at h];exact Nat.lt_trans (F.low (List.getElem_mem h)) hk
  ·refine (Nat.lt_or_eq_of_le hij).elim (fun hij=>?_) fun e=>e▸h
   rw [F.at hj];rw [F.at (Nat.lt_trans hij hj)] at h
   exact (W.neg _ _ _ h).elim id fun h=>Iz h ((List.pairwise_iff_getElem.mp S i j (Nat.lt_trans hij hj) hj hij).no W)
  ·have e:L.take l++L.drop l=L:=List.take_append_drop ..
   have l1:(L.take l).length=l:=List.length_take_of_le hl
   have l2:(L.drop l).length=L.length - l:=List.length_drop
   have eq:=F.eq
   rw [List.range'_succ] at eq
   have:=Ob (p:=p) (X:=L.take l) (Y:=L.drop l) (x:=L.length) (R:=List.range' (L.length+1) f) (by rw [← List.append_assoc,e];exact eq)
   rw [← List.length_append,e,l2] at this
   have ha:∀ x∈L.take l,lt L.length x=false:=fun x hx=>(List.mem_take_iff_getElem.mp hx).elim fun i h=>h.elim fun h e=>by
    have h:=Nat.lt_min.mp h
    have:=a i h.1
    rw [F.at h.2] at this;exact e▸this
   have hb:∀ x∈L.drop l,lt L.length x=true:=fun x hx=>(List.mem_drop_iff_getElem.mp hx).elim fun i h=>h.elim fun h e=>by
    have h:l+i<L.length:=Nat.add_comm i l▸h
    have:=b (l+i) (Nat.le_add_right ..) h
    rw [F.at h] at this;exact e▸this
   have hp:(L.take l++L.length::L.drop l).Perm (L.length::L):=List.perm_middle.trans (.cons _ (.of_eq e))
   have hl':(L.take l++L.length::L.drop l).length=L.length+1:=hp.length_eq
   have hr:=ih (bubble p L.length (L.length - l)) (L.take l++L.length::L.drop l)
   rw [hl'] at hr
   refine hr (by rw [Nat.add_right_comm];exact hn) ⟨?_,?_⟩ ?_
   ·rw [this,hl',List.append_assoc];rfl
   ·rw [hl',List.range_succ];exact hp.trans ((List.perm_append_singleton _ _).symm.trans (F.perm.append_right _))
   ·have s:=List.pairwise_append.mp (e.symm▸S)
    exact List.pairwise_append.mpr ⟨s.1,List.pairwise_cons.mpr ⟨fun y hy=>.inl (hb y hy),s.2.1⟩,fun x hx=>List.forall_mem_cons.mpr ⟨.inr ⟨ha x hx,F.low (List.mem_of_mem_take hx)⟩,s.2.2 x hx⟩⟩
theorem Mj (W:Weak lt) (h:1≤n):Tr lt n (kas_sort n) fun p=>p.toList.Perm (List.range n)∧p.toList.Pairwise (Bf lt):=by
 have fin:∀ p L,Fix 0 p L→L.length=n→L.Pairwise (Bf lt)→p.toList.Perm (List.range n)∧p.toList.Pairwise (Bf lt):=fun p L F hn S=>by
  have e:=F.eq
  rw [List.range'_zero,List.append_nil] at e
  rw [e];exact ⟨hn▸F.perm,S⟩
 refine Tr.bind ?_
 cases n with
 | zero=>cases h
 | succ n=>
  refine Pm W fun g p L hn F S h1=>?_
  cases g with
  | zero=>rw [if_neg (show ¬ L.length<n+1 from Nat.not_lt.mpr (Nat.le_of_eq hn.symm))];exact fin p L F hn S
  | succ g=>
   rw [if_pos (show L.length<n+1 from hn▸Nat.lt_add_of_pos_right (Nat.zero_lt_succ g))]
   dsimp only
   rw [Nat.max_eq_left h1,show n+1 - L.length=g+1 by rw [← hn];exact Nat.add_sub_cancel_left ..]
   exact Rf W fin (g+1) p L hn F S
end Mine.Internal
namespace Mine.Internal
open PySem
set_option genSizeOf false
set_option genInjectivity false
inductive V where
 | undef | none | bool (b:Bool) | int (i:Int) | str (s:Str) | tup (vs:List V) | ref (n:Nat)
inductive O where
 | list (vs:List V)
 | tab (P:Addr)
 | gone
 | dict (ep:Nat) (kvs:List (Str × V))
 | inst (C:Addr) (m:Nat)
 | ns (fs:List (Str × V))
 | row (P:Addr) (ln col:Int) (m:Nat)
 | code (q:Str)
abbrev AD:=List O
abbrev AY:=Nat→AD→Prop
abbrev AO:=V→AD→Prop
abbrev B1:=Nat→List V→AD→AO→AY→Prop
abbrev Ex:=B1→List V→AD→AO→AY→Prop
abbrev Es:=B1→List V→AD→(List V→AD→Prop)→AY→Prop
abbrev Tx:=B1→List V→AD→(Bool→AD→Prop)→AY→Prop
inductive Fl where
 | next
 | ret (v:V)
 | exc (c:Nat)
abbrev Br:=Fl→List V→AD→Prop
abbrev Sx:=B1→List V→AD→Br→Prop
inductive BOp where | add | sub | mul | floordiv | mod
inductive Ty where | int | bool | str | tuple | list
noncomputable def Ab:Nat:=1000000
noncomputable def CC:Nat:=16000000
noncomputable def Ay (i:Int):Bool:=decide (-(2 ^ 63)≤i)&&decide (i<2 ^ 63)
noncomputable def b2i (b:Bool):Int:=if b then 1 else 0
noncomputable def F5 {α β:Type} (f:α→Option β):List α→Option (List β)
 | []=>some []
 | a::as=>(f a).bind fun b=>(F5 f as).map (b::·)
noncomputable def QL (f:V→Option PyData):Option O→Option PyData
 | some (.list vs)=>(F5 f vs).map PyData.list
 | _=>Option.none
noncomputable def toD (σ:AD):Nat→V→Option PyData
 | 0,_=>Option.none
 | n+1,v=>match v with
  | .none=>some .none
  | .bool b=>some (.bool b)
  | .int i=>some (.int i)
  | .str x=>some (.str x)
  | .tup vs=>(F5 (toD σ n) vs).map PyData.tuple
  | .ref k=>QL (toD σ n) σ[k]?
  | .undef=>Option.none
noncomputable def put (k:Str) (v:V) (l:List (Str × V)):List (Str × V):=
 if l.any (fun p=>p.1=k) then l.map (fun p=>if p.1=k then (p.1,v) else p) else l++[(k,v)]
noncomputable def del (k:Str) (l:List (Str × V)):List (Str × V):=l.filter fun p=>p.1≠k
noncomputable def EW (c:Nat):Str:=⟨#[c]⟩
noncomputable def Vx {α:Type} (l:List α):Nat→List α
 | 0=>[]
 | n+1=>l++Vx l n
inductive TruK (σ:AD) (K:Bool→Prop):V→Prop
 | none:K false→TruK σ K .none
 | bool {b:Bool}:K b→TruK σ K (.bool b)
 | int {i:Int}:K (i != 0)→TruK σ K (.int i)
inductive BinK (σ:AD) (Q:AO):BOp→V→V→Prop
 | add {x y:Int}:Q (.int (x+y)) σ→BinK σ Q .add (.int x) (.int y)
 | addS {x y:Str}:x.length+y.length≤Ab→Q (.str (x++y)) σ→BinK σ Q .add (.str x) (.str y)
 | addT {x y:List V}:x≠[]→y≠[]→x.length+y.length≤Ab→Q (.tup (x++y)) σ→BinK σ Q .add (.tup x) (.tup y)
 | addL {n m:Nat} {x y:List V}:σ[n]?=some (.list x)→σ[m]?=some (.list y)→x.length+y.length≤Ab→Q (.ref σ.length) (σ++[.list (x++y)])→BinK σ Q .add (.ref n) (.ref m)
 | sub {x y:Int}:Q (.int (x - y)) σ→BinK σ Q .sub (.int x) (.int y)
 | mul {x y:Int}:Ay x=true∨Ay y=true→Q (.int (x*y)) σ→BinK σ Q .mul (.int x) (.int y)
 | div {x y:Int}:y≠0→Ay y=true→Q (.int (x.fdiv y)) σ→BinK σ Q .floordiv (.int x) (.int y)
 | mod {x y:Int}:y≠0→Q (.int (x.fmod y)) σ→BinK σ Q .mod (.int x) (.int y)
noncomputable def Aa:List Int→List Int→Bool
 | [],[]=>false
 | [],_::_=>true
 | _::_,[]=>false
 | a::as,b::bs=>if a=b then Aa as bs else decide (a<b)
noncomputable def isNone:V→Bool
 | .none=>true
 | _=>false
inductive CmpK (σ:AD) (K:Bool→Prop):CmpOp→V→V→Prop
 | eq {a b:V} {x y:PyData}:toD σ 6 a=some x→toD σ 6 b=some y→x.canLay0=true→y.canLay0=true→K (PyData.eqv x y)→CmpK σ K .Eq a b
 | ne {a b:V} {x y:PyData}:toD σ 6 a=some x→toD σ 6 b=some y→x.canLay0=true→y.canLay0=true→K (!PyData.eqv x y)→CmpK σ K .NotEq a b
 | lt {x y:Int}:K (decide (x<y))→CmpK σ K .Lt (.int x) (.int y)
 | le {x y:Int}:K (decide (x≤y))→CmpK σ K .LtE (.int x) (.int y)
 | gt {x y:Int}:K (decide (x > y))→CmpK σ K .Gt (.int x) (.int y)
 | ge {x y:Int}:K (decide (x ≥ y))→CmpK σ K .GtE (.int x) (.int y)
 | ltT {x y:List Int}:K (Aa x y)→CmpK σ K .Lt (.tup (x.map .int)) (.tup (y.map .int))
 | is {a:V}:K (isNone a)→CmpK σ K .Is a .none
 | isnot {a:V}:K (!isNone a)→CmpK σ K .IsNot a .none
 | ninT {a b:V} {x:PyData} {ys:List PyData}:toD σ 6 a=some x→toD σ 6 b=some (.tuple ys)→x.canLay0=true→PyData.canLayAll0 ys=true→K (!ys.any fun y=>PyData.eqv y x)→CmpK σ K .NotIn a b
 | inD {n ep:Nat} {kvs:List (Str × V)} {k:Str}:σ[n]?=some (.dict ep kvs)→K (kvs.any fun p=>p.1=k)→CmpK σ K .In (.str k) (.ref n)
 | ninD {n ep:Nat} {kvs:List (Str × V)} {k:Str}:σ[n]?=some (.dict ep kvs)→K (!kvs.any fun p=>p.1=k)→CmpK σ K .NotIn (.str k) (.ref n)
 | inS {c:Nat} {y:Str}:K (decide (c∈y.cps.toList))→CmpK σ K .In (.str (EW c)) (.str y)
noncomputable def Idx (k:Int) (n j:Nat):Prop:=(k=j∧j<n)∨(k+n=j∧k<0)
inductive SubK (σ:AD) (Q:AO):V→V→Prop
 | tup {vs:List V} {k:Int} {j:Nat} {v:V}:Ay k=true→Idx k vs.length j→vs[j]?=some v→Q v σ→SubK σ Q (.tup vs) (.int k)
 | list {n:Nat} {vs:List V} {k:Int} {j:Nat} {v:V}:σ[n]?=some (.list vs)→Idx k vs.length j→vs[j]?=some v→Q v σ→SubK σ Q (.ref n) (.int k)
 | str {s:Str} {k:Int} {j c:Nat}:Ay k=true→Idx k s.length j→s.cps[j]?=some c→Q (.str (EW c)) σ→SubK σ Q (.str s) (.int k)
 | dict {n ep:Nat} {kvs:List (Str × V)} {k:Str} {v:V}:σ[n]?=some (.dict ep kvs)→kvs.lookup k=some v→Q v σ→SubK σ Q (.ref n) (.str k)
inductive BoundK (n d:Nat):Option V→Nat→Prop
 | no:BoundK n d Option.none d
 | pos {i j:Nat}:Ay i=true→j=min i n→BoundK n d (some (.int i)) j
noncomputable def cut {α:Type} (l:List α) (a b:Nat):List α:=(l.take b).drop a
inductive SliceK (σ:AD) (Q:AO):V→Option V→Option V→Prop
 | list {n:Nat} {vs:List V} {lo hi:Option V} {x y:Nat}:σ[n]?=some (.list vs)→BoundK vs.length 0 lo x→BoundK vs.length vs.length hi y→Q (.ref σ.length) (σ++[.list (cut vs x y)])→SliceK σ Q (.ref n) lo hi
 | str {s:Str} {lo hi:Option V} {x y:Nat}:s.length≤Ab→BoundK s.length 0 lo x→BoundK s.length s.length hi y→Q (.str ⟨(cut s.cps.toList x y).toArray⟩) σ→SliceK σ Q (.str s) lo hi
 | tup {vs:List V} {lo hi:Option V} {x y:Nat}:vs.length≤Ab→BoundK vs.length 0 lo x→BoundK vs.length vs.length hi y→(cut vs x y).length<vs.length→Q (.tup (cut vs x y)) σ→SliceK σ Q (.tup vs) lo hi
inductive SortK (σ:AD) (Q:AO):Bool→V→Prop
 | ints {n:Nat} {ns:List Int}:σ[n]?=some (.list (ns.map .int))→ns.length<64→(∀ ms:List Int,ms.Perm ns→ms.Pairwise (·≤·)→Q (.ref σ.length) (σ++[.list (ms.map .int)]))→SortK σ Q false (.ref n)
 | rows {n:Nat} {rs:List (List Int)}:σ[n]?=some (.list (rs.map fun r=>.tup (r.map .int)))→rs.length<64→(∀ r∈rs,r≠[]) →
   (∀ ts:List (List Int),ts.Perm rs→ts.Pairwise (fun a b=>Aa b a=false)→Q (.ref σ.length) (σ++[.list (ts.map fun r=>.tup (r.map .int))]))→SortK σ Q false (.ref n)
 | set {n:Nat} {ns:List Int}:σ[n]?=some (.list (ns.map .int))→ns.length<64→(∀ ms:List Int,ms.Pairwise (·<·)→(∀ x,x∈ms↔x∈ns)→Q (.ref σ.length) (σ++[.list (ms.map .int)]))→SortK σ Q true (.ref n)
inductive Pr where | len | list | str | int | max | all | isinst (t:Ty)
inductive PrimK (σ:AD) (Q:AO):Pr→List V→Prop
 | lenL {n:Nat} {vs:List V}:σ[n]?=some (.list vs)→Q (.int vs.length) σ→PrimK σ Q .len [.ref n]
 | lenT {vs:List V}:vs.length≤Ab→Q (.int vs.length) σ→PrimK σ Q .len [.tup vs]
 | lenS {s:Str}:s.length≤Ab→Q (.int s.length) σ→PrimK σ Q .len [.str s]
 | all {n:Nat} {bs:List Bool}:σ[n]?=some (.list (bs.map .bool))→Q (.bool (bs.all id)) σ→PrimK σ Q .all [.ref n]
 | list {n:Nat} {vs:List V}:σ[n]?=some (.list vs)→Q (.ref σ.length) (σ++[.list vs])→PrimK σ Q .list [.ref n]
 | str {i:Int}:Ay i=true→Q (.str (Str.ofString (toString i))) σ→PrimK σ Q .str [.int i]
 | intB {b:Bool}:Q (.int (b2i b)) σ→PrimK σ Q .int [.bool b]
 | max {a b:Int}:Q (.int (if b > a then b else a)) σ→PrimK σ Q .max [.int a,.int b]
 | isB {b:Bool}:Q (.bool true) σ→PrimK σ Q (.isinst .bool) [.bool b]
 | isI {i:Int}:Q (.bool true) σ→PrimK σ Q (.isinst .int) [.int i]
 | isN {i:Int}:Q (.bool false) σ→PrimK σ Q (.isinst .bool) [.int i]
 | isS {s:Str}:Q (.bool true) σ→PrimK σ Q (.isinst .str) [.str s]
 | isT {vs:List V}:Q (.bool true) σ→PrimK σ Q (.isinst .tuple) [.tup vs]
 | isL {n:Nat} {vs:List V}:σ[n]?=some (.list vs)→Q (.bool true) σ→PrimK σ Q (.isinst .list) [.ref n]
inductive AppK (σ:AD) (Q:AO) (v:V):V→Prop
 | mk {n:Nat} {vs:List V}:σ[n]?=some (.list vs)→vs.length<CC→n≠0→Q .none (σ.set n (.list (vs++[v])))→AppK σ Q v (.ref n)
inductive ExtK (σ:AD) (Q:AO):V→V→Prop
 | mk {n m:Nat} {vs us:List V}:σ[n]?=some (.list vs)→σ[m]?=some (.list us)→vs.length+us.length≤CC→n≠0→Q .none (σ.set n (.list (vs++us)))→ExtK σ Q (.ref n) (.ref m)
noncomputable def isList (σ:AD) (v:V):Prop:=∃ n vs,v=.ref n∧σ[n]?=some (.list vs)
noncomputable def Cv (a:Int):Nat→List V
 | 0=>[]
 | n+1=>.int a::Cv (a+1) n
noncomputable def G5 (k:Int):List V→List V
 | []=>[]
 | v::r=>.tup [.int k,v]::G5 (k+1) r
inductive SrcT where | plain | range | enum
inductive SrcK (σ:AD):SrcT→List V→List V→(AD→Prop)→Prop
 | list {n:Nat} {vs:List V}:σ[n]?=some (.list vs)→SrcK σ .plain [.ref n] vs (fun σ'=>σ'[n]?=some (.list vs))
 | str {s:Str}:s.cps.all (·<128)=true→SrcK σ .plain [.str s] (s.cps.toList.map fun c=>.str (EW c)) (fun _=>True)
 | dict {n ep:Nat} {kvs:List (Str × V)}:σ[n]?=some (.dict ep kvs)→SrcK σ .plain [.ref n] (kvs.map fun p=>.str p.1) (fun σ'=>σ'[n]?=some (.dict ep kvs))
 | range {b:Int}:-(2 ^ 62)≤b→b≤Ab→SrcK σ .range [.int b] (Cv 0 b.toNat) (fun _=>True)
 | enum {n:Nat} {vs:List V}:σ[n]?=some (.list vs)→SrcK σ .enum [.ref n] (G5 0 vs) (fun σ'=>σ'[n]?=some (.list vs))
inductive Pat where
 | var (i:Nat)
 | tup (ps:List Nat)
noncomputable def HE:List Nat→List V→List V→List V
 | i::is,v::vs,ρ=>HE is vs (ρ.set i v)
 | _,_,ρ=>ρ
inductive BindK (σ:AD) (K:List V→Prop) (ρ:List V):Pat→V→Prop
 | var {i:Nat} {v:V}:K (ρ.set i v)→BindK σ K ρ (.var i) v
 | tup {ps:List Nat} {vs:List V}:ps.length=vs.length→K (HE ps vs ρ)→BindK σ K ρ (.tup ps) (.tup vs)
inductive SetK (σ:AD) (K:AD→Prop) (v:V):V→V→Prop
 | back {n:Nat} {vs:List V} {j:Nat}:σ[n]?=some (.list vs)→n≠0→vs.length=j+1→K (σ.set n (.list (vs.set j v)))→SetK σ K v (.ref n) (.int (-1))
 | dict {n ep:Nat} {kvs:List (Str × V)} {k:Str}:σ[n]?=some (.dict ep kvs)→n≠0→kvs.length<Ab→(∀ ep',K (σ.set n (.dict ep' (put k v kvs))))→SetK σ K v (.ref n) (.str k)
inductive AttrK (σ:AD) (Q:AO) (C:Addr) (x:Str):V→Prop
 | mk {n m:Nat} {fs:List (Str × V)} {v:V}:σ[n]?=some (.inst C m)→σ[m]?=some (.ns fs)→fs.lookup x=some v→Q v σ→AttrK σ Q C x (.ref n)
noncomputable def QP (σ:AD) (C:Addr) (x:Str) (v:V):Prop:=∃ n m fs,v=.ref n∧σ[n]?=some (.inst C m)∧σ[m]?=some (.ns fs)∧fs.lookup x=none
inductive PutK (σ:AD) (K:AD→Prop) (C:Addr) (x:Str) (v:V):V→Prop
 | mk {n m:Nat} {fs:List (Str × V)}:σ[n]?=some (.inst C m)→σ[m]?=some (.ns fs)→m≠0→fs.length≤8→K (σ.set m (.ns (put x v fs)))→PutK σ K C x v (.ref n)
inductive PopK (σ:AD) (Q:AO):V→V→Prop
 | mk {n ep:Nat} {kvs:List (Str × V)} {k:Str} {v:V}:σ[n]?=some (.dict ep kvs)→n≠0→kvs.lookup k=some v→(∀ ep',Q v (σ.set n (.dict ep' (del k kvs))))→PopK σ Q (.ref n) (.str k)
noncomputable def dfK (p:Prop):V→Prop
 | .undef=>False
 | _=>p
noncomputable def VV (K:V→Prop):Option V→Prop
 | some v=>dfK (K v) v
 | Option.none=>False
noncomputable def Uq (K:V→Prop):Option V→Prop
 | some v=>K v
 | Option.none=>False
noncomputable def brW (A B:Prop):Bool→Prop
 | true=>A
 | false=>B
noncomputable def brD (d b:Bool) (A B:Prop):Prop:=match d with
 | true=>brW A B b
 | false=>brW B A b
noncomputable def WE (σ:AD) (Q:AO) (a b:Int):BOp→Prop
 | .add=>Q (.int (a+b)) σ
 | .sub=>Q (.int (a - b)) σ
 | op=>BinK σ Q op (.int a) (.int b)
noncomputable def Vp (σ:AD) (Q:AO) (op:BOp) (a:Int):V→Prop
 | .int b=>WE σ Q a b op
 | y=>BinK σ Q op (.int a) y
noncomputable def TY (σ:AD) (Q:AO) (op:BOp) (y:V):V→Prop
 | .int a=>Vp σ Q op a y
 | x=>BinK σ Q op x y
noncomputable def VX (σ:AD) (Q:AO):V→Prop
 | .int i=>Q (.int (-i)) σ
 | _=>False
noncomputable def PW (σ:AD) (K:Bool→Prop):V→Prop
 | .none=>K false
 | .bool b=>K b
 | .int i=>K (i != 0)
 | v=>TruK σ K v
noncomputable def Vq (σ:AD) (K:Bool→Prop) (a b:Int):CmpOp→Prop
 | .Eq=>K (decide (a=b))
 | .NotEq=>K (!decide (a=b))
 | .Lt=>K (decide (a<b))
 | .LtE=>K (decide (a≤b))
 | .Gt=>K (decide (a > b))
 | .GtE=>K (decide (a ≥ b))
 | op=>CmpK σ K op (.int a) (.int b)
noncomputable def WC (σ:AD) (K:Bool→Prop) (x:V):CmpOp→Prop
 | .Is=>K (isNone x)
 | .IsNot=>K (!isNone x)
 | op=>CmpK σ K op x .none
noncomputable def Vr (σ:AD) (K:Bool→Prop) (a b:Bool):CmpOp→Prop
 | .Eq=>K (a==b)
 | .NotEq=>K (!(a==b))
 | op=>CmpK σ K op (.bool a) (.bool b)
noncomputable def Vu (σ:AD) (K:Bool→Prop) (op:CmpOp) (b:Int):V→Prop
 | .int a=>Vq σ K a b op
 | x=>CmpK σ K op x (.int b)
noncomputable def Vv (σ:AD) (K:Bool→Prop) (op:CmpOp) (b:Bool):V→Prop
 | .bool a=>Vr σ K a b op
 | x=>CmpK σ K op x (.bool b)
noncomputable def N8 (σ:AD) (K:Bool→Prop) (op:CmpOp) (x:V):V→Prop
 | .int b=>Vu σ K op b x
 | .none=>WC σ K x op
 | .bool b=>Vv σ K op b x
 | y=>CmpK σ K op x y
noncomputable def Vf (σ:AD) (Q:AO) (vs:List V) (j:Nat):Bool→Prop
 | true=>Uq (fun v=>Q v σ) vs[j]?
 | false=>SubK σ Q (.tup vs) (.int (.ofNat j))
noncomputable def WA (σ:AD) (Q:AO) (vs:List V):Int→Prop
 | .ofNat j=>Vf σ Q vs j (Nat.ble j 1000000)
 | k=>SubK σ Q (.tup vs) (.int k)
noncomputable def Vw (σ:AD) (Q:AO) (vs:List V):V→Prop
 | .int k=>WA σ Q vs k
 | y=>SubK σ Q (.tup vs) y
noncomputable def T4 (σ:AD) (Q:AO) (y:V):V→Prop
 | .tup vs=>Vw σ Q vs y
 | x=>SubK σ Q x y
noncomputable def O0 (K:List V→Prop):List Nat→List V→List V→Prop
 | [],[],ρ=>K ρ
 | p::ps,v::vs,ρ=>O0 K ps vs (ρ.set p v)
 | _,_,_=>False
noncomputable def VI (σ:AD) (K:List V→Prop) (ρ:List V) (ps:List Nat):V→Prop
 | .tup vs=>O0 K ps vs ρ
 | v=>BindK σ K ρ (.tup ps) v
noncomputable def Jp (σ:AD) (K:List V→Prop) (ρ:List V) (v:V):Pat→Prop
 | .var i=>K (ρ.set i v)
 | .tup ps=>VI σ K ρ ps v
noncomputable def A1:Ex:=fun _ _ σ Q _=>Q .none σ
noncomputable def A3 (b:Bool):Ex:=fun _ _ σ Q _=>Q (.bool b) σ
noncomputable def AB (i:Int):Ex:=fun _ _ σ Q _=>Q (.int i) σ
noncomputable def Ad (s:Str):Ex:=fun _ _ σ Q _=>Q (.str s) σ
noncomputable def AA (i:Nat):Ex:=fun _ ρ σ Q _=>VV (fun v=>Q v σ) ρ[i]?
noncomputable def AL (op:BOp) (a b:Ex):Ex:=fun C ρ σ Q X=>a C ρ σ (fun x σ₁=>b C ρ σ₁ (fun y σ₂=>TY σ₂ Q op y x) X) X
noncomputable def J6 (a:Ex):Ex:=fun C ρ σ Q X=>a C ρ σ (fun x σ₁=>VX σ₁ Q x) X
noncomputable def TB (a:Ex):Ex:=fun C ρ σ Q X=>a C ρ σ (fun x σ₁=>PW σ₁ (fun b=>Q (.bool (!b)) σ₁) x) X
noncomputable def evs (l:List Ex):Es:=List.rec (motive:=fun _=>Es) (fun _ _ σ Q _=>Q [] σ)
 (fun e _ ih C ρ σ Q X=>e C ρ σ (fun v σ₁=>ih C ρ σ₁ (fun vs σ₂=>Q (v::vs) σ₂) X) X) l
noncomputable def WD (d:Bool) (e ih:Ex):List Ex→Ex
 | []=>e
 | _::_=>fun C ρ σ Q X=>e C ρ σ (fun v σ₁=>PW σ₁ (fun b=>brD d b (ih C ρ σ₁ Q X) (Q v σ₁)) v) X
noncomputable def FV (d:Bool) (l:List Ex):Ex:=List.rec (motive:=fun _=>Ex) (fun _ _ _ _ _=>False) (fun e es ih=>WD d e ih es) l
noncomputable def T8 (op:CmpOp) (ih:List Ex→V→Tx):List CmpOp→List Ex→V→Tx
 | [],[r],x=>fun C ρ σ Q X=>r C ρ σ (fun y σ₁=>N8 σ₁ (fun b=>Q b σ₁) op x y) X
 | _::_,r::r'::rs,x=>fun C ρ σ Q X=>r C ρ σ (fun y σ₁=>N8 σ₁ (fun b=>brW (ih (r'::rs) y C ρ σ₁ Q X) (Q false σ₁) b) op x y) X
 | _,_,_=>fun _ _ _ _ _=>False
noncomputable def Ss (ops:List CmpOp):List Ex→V→Tx:=List.rec (motive:=fun _=>List Ex→V→Tx) (fun _ _ _ _ _ _ _=>False) (fun op ops ih=>T8 op ih ops) ops
noncomputable def AT (l:Ex) (ops:List CmpOp) (rs:List Ex):Tx:=fun C ρ σ Q X=>l C ρ σ (fun x σ₁=>Ss ops rs x C ρ σ₁ Q X) X
noncomputable def xOf (t:Tx):Ex:=fun C ρ σ Q X=>t C ρ σ (fun b σ₁=>Q (.bool b) σ₁) X
noncomputable def Ak (es:List Ex):Ex:=fun C ρ σ Q X=>evs es C ρ σ (fun vs σ₁=>Q (.tup vs) σ₁) X
noncomputable def Ap (es:List Ex):Ex:=fun C ρ σ Q X=>evs es C ρ σ (fun vs σ₁=>Q (.ref σ₁.length) (σ₁++[.list vs])) X
noncomputable def AJ (a i:Ex):Ex:=fun C ρ σ Q X=>a C ρ σ (fun x σ₁=>i C ρ σ₁ (fun y σ₂=>T4 σ₂ Q y x) X) X
noncomputable def evo:Option Ex→B1→List V→AD→(Option V→AD→Prop)→AY→Prop
 | Option.none=>fun _ _ σ Q _=>Q Option.none σ
 | some e=>fun C ρ σ Q X=>e C ρ σ (fun v σ₁=>Q (some v) σ₁) X
noncomputable def BW (a:Ex) (lo hi:Option Ex):Ex:=fun C ρ σ Q X=>a C ρ σ (fun x σ₁=>evo lo C ρ σ₁ (fun y σ₂=>evo hi C ρ σ₂ (fun z σ₃=>SliceK σ₃ Q x y z) X) X) X
noncomputable def AQ (f:Nat) (es:List Ex):Ex:=fun C ρ σ Q X=>evs es C ρ σ (fun vs σ₁=>C f vs σ₁ Q X) X
noncomputable def Ah (p:Pr) (es:List Ex):Ex:=fun C ρ σ Q X=>evs es C ρ σ (fun vs σ₁=>PrimK σ₁ Q p vs) X
noncomputable def Fa (o x:Ex):Ex:=fun C ρ σ Q X=>o C ρ σ (fun v σ₁=>isList σ₁ v∧x C ρ σ₁ (fun u σ₂=>AppK σ₂ Q u v) X) X
noncomputable def UG (o x:Ex):Ex:=fun C ρ σ Q X=>o C ρ σ (fun v σ₁=>isList σ₁ v∧x C ρ σ₁ (fun u σ₂=>ExtK σ₂ Q v u) X) X
inductive FmtK (T:Str→Prop):V→Prop
 | str {s:Str}:s.length≤Ab→T s→FmtK T (.str s)
 | int {i:Int}:Ay i=true→T (Str.ofString (toString i))→FmtK T (.int i)
noncomputable def Ld (l:List Ex):Str→Ex:=List.rec (motive:=fun _=>Str→Ex) (fun acc _ _ σ Q _=>Q (.str acc) σ)
 (fun e _ ih acc C ρ σ Q X=>e C ρ σ (fun v σ₁=>FmtK (fun s=>acc.length+s.length≤Ab∧ih (acc++s) C ρ σ₁ Q X) v) X) l
inductive JoinK (σ:AD) (Q:AO) (sep:Str):V→Prop
 | mk {n:Nat} {ss:List Str}:σ[n]?=some (.list (ss.map .str))→(ss.map (·.length)).sum+ss.length*sep.length≤Ab→Q (.str (Str.join sep ss)) σ→JoinK σ Q sep (.ref n)
noncomputable def G3 (sep:Str) (a:Ex):Ex:=fun C ρ σ Q X=>a C ρ σ (fun v σ₁=>JoinK σ₁ Q sep v) X
noncomputable def E6 (u:Bool) (a:Ex):Ex:=fun C ρ σ Q X=>a C ρ σ (fun v σ₁=>SortK σ₁ Q u v) X
noncomputable def A9 (c:Addr) (x:Str) (a:Ex):Ex:=fun C ρ σ Q X=>a C ρ σ (fun v σ₁=>AttrK σ₁ Q c x v) X
noncomputable def Ax (c:Addr) (x:Str) (f:Nat) (a:Ex) (es:List Ex):Ex:=fun C ρ σ Q X=>a C ρ σ (fun v σ₁=>QP σ₁ c x v∧evs es C ρ σ₁ (fun vs σ₂=>C f (v::vs) σ₂ Q X) X) X
noncomputable def TA (c:Addr) (f:Nat) (es:List Ex):Ex:=fun C ρ σ Q X=>evs es C ρ σ (fun vs σ₁=>C f (.ref (σ₁.length+1)::vs) (σ₁++[.ns [],.inst c σ₁.length]) (fun r σ₂=>r=.none∧Q (.ref (σ₁.length+1)) σ₂) X) X
noncomputable def Ly:Ex:=fun _ _ σ Q _=>Q (.ref σ.length) (σ++[.dict 0 []])
noncomputable def SO (a k:Ex):Ex:=fun C ρ σ Q X=>a C ρ σ (fun v σ₁=>(∃ n ep kvs,v=.ref n∧σ₁[n]?=some (.dict ep kvs))∧k C ρ σ₁ (fun u σ₂=>PopK σ₂ Q v u) X) X
noncomputable def TabW (P:Addr) (q:Str) (ln col:Int) (σ:AD) (K:Nat→AD→Prop):Prop:=
 (σ[1]?=some (.tab P)∧K σ.length (σ.set 1 (.row P ln col σ.length)++[.code q]))∨∃ m,σ[1]?=some (.row P ln col m)∧σ[m]?=some (.code q)∧K m σ
inductive KeySrc (σ:AD):V→List V→Prop
 | dict {n ep:Nat} {kvs:List (Str × V)}:n≠1→σ[n]?=some (.dict ep kvs)→KeySrc σ (.ref n) (kvs.map fun p=>.str p.1)
noncomputable def Hn (turn:V→AD→AO→Prop):List V→List V→AD→(List V→AD→Prop)→Prop
 | [],acc,σ,Q=>Q acc σ
 | v::vs,acc,σ,Q=>turn v σ fun u σ'=>Hn turn vs (acc++[u]) σ' Q
noncomputable def A4 (ks:List (List Int)) (i j:Nat):Prop:=Aa (ks.getD i []) (ks.getD j [])=true∨(Aa (ks.getD j []) (ks.getD i [])=false∧i<j)
noncomputable def noX:AY:=fun _ _=>False
noncomputable def BA (a:Ex):Tx:=fun C ρ σ Q X=>a C ρ σ (fun v σ₁=>PW σ₁ (fun b=>Q b σ₁) v) X
noncomputable def CD (t:Tx):Tx:=fun C ρ σ Q X=>t C ρ σ (fun b σ₁=>Q (!b) σ₁) X
noncomputable def Dn (l:List Tx):Tx:=List.rec (motive:=fun _=>Tx) (fun _ _ σ Q _=>Q true σ)
 (fun t _ ih C ρ σ Q X=>t C ρ σ (fun b σ₁=>brW (ih C ρ σ₁ Q X) (Q false σ₁) b) X) l
noncomputable def tOr (l:List Tx):Tx:=List.rec (motive:=fun _=>Tx) (fun _ _ σ Q _=>Q false σ)
 (fun t _ ih C ρ σ Q X=>t C ρ σ (fun b σ₁=>brW (Q true σ₁) (ih C ρ σ₁ Q X) b) X) l
noncomputable def Bi (turn:V→AD→(Option V→AD→Prop)→Prop) (same:AD→Prop):List V→List V→AD→(List V→AD→Prop)→Prop
 | [],acc,σ,Q=>Q acc σ
 | v::vs,acc,σ,Q=>turn v σ fun r σ'=>same σ'∧Bi turn same vs (acc++r.toList) σ' Q
noncomputable def DW (C:B1) (elt:Ex) (i:Nat) (ifs:List Tx) (ρ:List V) (v:V) (σ:AD) (R:Option V→AD→Prop):Prop:=
 Dn ifs C (ρ.set i v) σ (fun b σ₁=>brW (elt C (ρ.set i v) σ₁ (fun x σ₂=>R (some x) σ₂) noX) (R Option.none σ₁) b) noX
noncomputable def Au (elt:Ex) (i:Nat) (k:SrcT) (src:List Ex) (ifs:List Tx):Ex:=fun C ρ σ Q X=>evs src C ρ σ (fun vs σ₁=>∃ items same,SrcK σ₁ k vs items same∧items.length≤Ab ∧
 Bi (DW C elt i ifs ρ) same items [] σ₁ fun ys σ₂=>Q (.ref σ₂.length) (σ₂++[.list ys])) X
noncomputable def I8 (P:Addr) (q:Str) (ln col:Int) (a:Ex) (i:Nat) (b:Ex):Ex:=fun C ρ σ Q X=>a C ρ σ (fun v σ₁=>∃ items,KeySrc σ₁ v items∧items.length<64∧TabW P q ln col σ₁ fun m σ₂=>Hn (fun y σ R=>σ[m]?=some (.code q)∧b C (ρ.set i y) σ R noX) items [] σ₂ fun ks σ₃=>
 ∃ rs:List (List Int),ks=rs.map (fun r=>.tup (r.map .int))∧(∀ r∈rs,r≠[])∧∀ p:List Nat,p.Perm (List.range items.length)→p.Pairwise (A4 rs)→Q (.ref σ₃.length) (σ₃++[.list (p.map fun i=>items.getD i .none)])) X
noncomputable def A5 (e:Ex):Sx:=fun C ρ σ Q=>e C ρ σ (fun _ σ₁=>Q .next ρ σ₁) (fun c σ₁=>Q (.exc c) ρ σ₁)
noncomputable def AU (e:Ex):Sx:=fun C ρ σ Q=>e C ρ σ (fun v σ₁=>Q (.ret v) ρ σ₁) (fun c σ₁=>Q (.exc c) ρ σ₁)
noncomputable def Sg:Sx:=fun _ ρ σ Q=>Q (.ret .none) ρ σ
noncomputable def PQ:Sx:=fun _ ρ σ Q=>Q .next ρ σ
noncomputable def AP (p:Pat) (e:Ex):Sx:=fun C ρ σ Q=>e C ρ σ (fun v σ₁=>Jp σ₁ (fun ρ'=>Q .next ρ' σ₁) ρ v p) (fun c σ₁=>Q (.exc c) ρ σ₁)
noncomputable def UQ:Sx:=fun _ _ _ _=>False
noncomputable def Ji (c:Addr) (x:Str) (o e:Ex):Sx:=fun C ρ σ Q=>e C ρ σ (fun v σ₁=>o C ρ σ₁ (fun u σ₂=>PutK σ₂ (fun σ₃=>Q .next ρ σ₃) c x v u) (fun c σ₂=>Q (.exc c) ρ σ₂)) (fun c σ₁=>Q (.exc c) ρ σ₁)
noncomputable def Cz (k:Nat) (e:Ex):Sx:=fun C ρ σ Q=>e C ρ σ (fun _ σ₁=>Q (.exc k) ρ σ₁) (fun c σ₁=>Q (.exc c) ρ σ₁)
noncomputable def Hv (o i e:Ex):Sx:=fun C ρ σ Q=>e C ρ σ (fun v σ₁=>o C ρ σ₁ (fun x σ₂=>i C ρ σ₂ (fun y σ₃=>SetK σ₃ (fun σ₄=>Q .next ρ σ₄) v x y) (fun c σ₃=>Q (.exc c) ρ σ₃)) (fun c σ₂=>Q (.exc c) ρ σ₂)) (fun c σ₁=>Q (.exc c) ρ σ₁)
noncomputable def KV (K:List V→AD→Prop) (Q:Br):Br
 | .next,ρ,σ=>K ρ σ
 | fl,ρ,σ=>Q fl ρ σ
noncomputable def BP (l:List Sx):Sx:=List.rec (motive:=fun _=>Sx) (fun _ ρ σ Q=>Q .next ρ σ) (fun s _ ih C ρ σ Q=>s C ρ σ (KV (fun ρ₁ σ₁=>ih C ρ₁ σ₁ Q) Q)) l
noncomputable def sIf (c:Tx) (b o:List Sx):Sx:=fun C ρ σ Q=>c C ρ σ (fun t σ₁=>brW (BP b C ρ σ₁ Q) (BP o C ρ σ₁ Q) t) (fun c σ₁=>Q (.exc c) ρ σ₁)
noncomputable def Uu:Option Nat→List V→List V
 | none,ρ=>ρ
 | some i,ρ=>ρ.set i .undef
noncomputable def VG (hs:List (List Nat × V × Option Nat)) (Q:Br):Br
 | .exc c,ρ,σ=>match hs.find? (fun h=>h.1.contains c) with
  | some h=>Q (.ret h.2.1) (Uu h.2.2 ρ) σ
  | none=>Q (.exc c) ρ σ
 | fl,ρ,σ=>Q fl ρ σ
noncomputable def Uc (b:List Sx) (hs:List (List Nat × V × Option Nat)):Sx:=fun C ρ σ Q=>BP b C ρ σ (VG hs Q)
noncomputable def C9 (K:List V→AD→Prop) (Q:Br):Br
 | .next,ρ,σ=>K ρ σ
 | fl,ρ,σ=>Q fl ρ σ
noncomputable def Fk (turn:V→List V→AD→Br→Prop) (same:AD→Prop):List V→List V→AD→Br→Prop
 | [],ρ,σ,Q=>Q .next ρ σ
 | v::vs,ρ,σ,Q=>turn v ρ σ (C9 (fun ρ' σ'=>same σ'∧Fk turn same vs ρ' σ' Q) Q)
noncomputable def ET (C:B1) (p:Pat) (body:List Sx) (v:V) (ρ:List V) (σ:AD) (Q:Br):Prop:=Jp σ (fun ρ'=>BP body C ρ' σ Q) ρ v p
noncomputable def Bt (p:Pat) (k:SrcT) (src:List Ex) (body:List Sx):Sx:=fun C ρ σ Q=>evs src C ρ σ (fun vs σ₁=>∃ items same,SrcK σ₁ k vs items same∧Fk (ET C p body) same items ρ σ₁ Q) (fun c σ₁=>Q (.exc c) ρ σ₁)
noncomputable def GW (C:B1) (t:Tx) (body:List Sx) (Q:Br):Nat→List V→AD→Prop
 | 0,_,_=>False
 | n+1,ρ,σ=>t C ρ σ (fun b σ₁=>brW (BP body C ρ σ₁ (C9 (fun ρ' σ'=>GW C t body Q n ρ' σ') Q)) (Q .next ρ σ₁) b) (fun c σ₁=>Q (.exc c) ρ σ₁)
noncomputable def Ds (t:Tx) (body:List Sx):Sx:=fun C ρ σ Q=>∃ n,GW C t body Q n ρ σ
structure Fn where
 params:Nat
 slots:Nat
 body:List Sx
noncomputable def FF (Q:AO) (X:AY):Br
 | .ret v,_,σ=>Q v σ
 | .next,_,σ=>Q .none σ
 | .exc c,_,σ=>X c σ
noncomputable def Pz (P:List Fn):Nat→B1
 | 0=>fun _ _ _ _ _=>False
 | d+1=>fun f args σ Q X=>∃ fn,P[f]?=some fn∧args.length=fn.params∧BP fn.body (Pz P d) (args++List.replicate (fn.slots - fn.params) V.undef) σ (FF Q X)
@[irreducible] def callW (P:List Fn) (d:Nat):B1:=Pz P d
theorem P3 (h:VV K o):∃ v,o=some v∧v≠.undef∧K v:=by
 cases o with
 | none=>exact h.elim
 | some v=>cases v with
  | undef=>exact h.elim
  | _=>exact ⟨_,rfl,nofun,h⟩
theorem S8 (h:TY σ Q op y x):BinK σ Q op x y:=by
 cases x with
 | int a=>cases y with
  | int b=>cases op with
   | add=>exact .add h
   | sub=>exact .sub h
   | _=>exact h
  | _=>exact h
 | _=>exact h
theorem Pj (h:VX σ Q x):∃ i,x=.int i∧Q (.int (-i)) σ:=by
 cases x with
 | int i=>exact ⟨i,rfl,h⟩
 | _=>exact h.elim
theorem S4 (h:PW σ K v):TruK σ K v:=by
 cases v with
 | none=>exact .none h
 | bool b=>exact .bool h
 | int i=>exact .int h
 | _=>exact h
theorem Ug (h:N8 σ K op x y):CmpK σ K op x y:=by
 cases y with
 | int b=>cases x with
  | int a=>cases op with
   | Eq=>exact .eq (x:=.int a) (y:=.int b) rfl rfl rfl rfl h
   | NotEq=>exact .ne (x:=.int a) (y:=.int b) rfl rfl rfl rfl h
   | Lt=>exact .lt h
   | LtE=>exact .le h
   | Gt=>exact .gt h
   | GtE=>exact .ge h
   | _=>exact h
  | _=>exact h
 | none=>cases op with
  | Is=>exact .is h
  | IsNot=>exact .isnot h
  | _=>exact h
 | bool b=>cases x with
  | bool a=>cases op with
   | Eq=>exact .eq (x:=.bool a) (y:=.bool b) rfl rfl rfl rfl h
   | NotEq=>exact .ne (x:=.bool a) (y:=.bool b) rfl rfl rfl rfl h
   | _=>exact h
  | _=>exact h
 | _=>exact h
theorem TH (h:T4 σ Q y x):SubK σ Q x y:=by
 cases x with
 | tup vs=>cases y with
  | int k=>cases k with
   | ofNat j=>
    have h:Vf σ Q vs j (Nat.ble j 1000000):=h
    cases e:Nat.ble j 1000000 with
    | true=>
     rw [e] at h
     have h:Uq (fun v=>Q v σ) vs[j]?:=h
     cases g:vs[j]? with
     | none=>rw [g] at h;exact h.elim
     | some v=>
      rw [g] at h
      exact .tup (Bool.and_eq_true_iff.mpr ⟨decide_eq_true (Int.le_trans (by decide) (Int.natCast_nonneg j)),decide_eq_true (Int.lt_of_le_of_lt (Int.ofNat_le.mpr (Nat.le_of_ble_eq_true e)) (by decide))⟩) (.inl ⟨rfl,(List.getElem?_eq_some_iff.mp g).1⟩) g h
    | false=>rw [e] at h;exact h
   | negSucc j=>exact h
  | _=>exact h
 | _=>exact h
theorem Hu:∀ {ps:List Nat} {vs ρ:List V},O0 K ps vs ρ→ps.length=vs.length∧K (HE ps vs ρ):=fun {ps}=>by
 induction ps with
 | nil=>intro vs ρ h;cases vs with
  | nil=>exact ⟨rfl,h⟩
  | cons _ _=>exact h.elim
 | cons p ps ih=>intro vs ρ h;cases vs with
  | nil=>exact h.elim
  | cons v vs=>exact ⟨congrArg (·+1) (ih h).1,(ih h).2⟩
theorem R0 (h:Jp σ K ρ v p):BindK σ K ρ p v:=by
 cases p with
 | var i=>exact .var h
 | tup ps=>cases v with
  | tup vs=>exact .tup (Hu h).1 (Hu h).2
  | _=>exact h
theorem Pu (h:brD d b A B):if b=d then A else B:=by cases d <;> cases b <;> exact h
theorem Mp (h:callW P (d+1) f args σ Q X):∃ fn,P[f]?=some fn∧args.length=fn.params∧BP fn.body (callW P d) (args++List.replicate (fn.slots - fn.params) V.undef) σ (FF Q X):=by
 with_unfolding_all exact h
theorem AM (h:P[f]?=some fn) (hl:args.length=fn.params) (q:BP fn.body (callW P d) (args++List.replicate (fn.slots - fn.params) V.undef) σ (FF Q X)):callW P (d+1) f args σ Q X:=by
 with_unfolding_all exact (⟨fn,h,hl,q⟩:Pz P (d+1) f args σ Q X)
theorem QB (h:callW P 0 f args σ Q X):False:=by
 with_unfolding_all exact h
inductive Gl where
 | fn (i:Nat)
 | cls (C:Addr) (i:Nat)
 | exc (k:Nat) (kids:List Nat)
 | tabl (c P:Addr)
 | str (s:Str)
 | int (i:Int)
abbrev GlT:=List (Str × Gl)
abbrev Vs:=List (Str × Nat)
end Mine.Internal
namespace Mine.Internal
open PySem
theorem H7:∀ a:List Int,Aa a a=false
 | []=>rfl
 | x::a=>by rw [Aa,if_pos rfl];exact H7 a
theorem EJ:∀ a b:List Int,Aa a b=true→Aa b a=false
 | [],[],h=>by cases h
 | [],_::_,_=>rfl
 | _::_,[],h=>by cases h
 | x::a,y::b,h=>by
  rw [Aa] at h ⊢
  by_cases e:x=y
  ·rw [if_pos e] at h;rw [if_pos e.symm];exact EJ a b h
  ·rw [if_neg e] at h;rw [if_neg (Ne.symm e)]
   simp only [decide_eq_true_eq] at h
   simp only [decide_eq_false_iff_not];exact ai2 .nlt .v0 .v1 (.t .v1 .v0 .e) rfl h
theorem Fb:∀ a b c:List Int,Aa a c=true→Aa a b=true∨Aa b c=true
 | [],[],_,h=>.inr h
 | [],_::_,_,_=>.inl rfl
 | _::_,_,[],h=>by cases h
 | _::_,[],_::_,_=>.inr rfl
 | x::a,y::b,z::c,h=>by
  rw [Aa] at h
  rw [Aa,Aa]
  by_cases e:x=z
  ·rw [if_pos e] at h
   subst e
   by_cases e2:x=y
   ·subst e2
    rw [if_pos rfl,if_pos rfl];exact Fb a b c h
   ·rw [if_neg e2,if_neg (Ne.symm e2)]
    simp only [decide_eq_true_eq];exact Classical.or_iff_not_imp_left.mpr fun z0=>Or.elim (Int.lt_or_gt_of_ne e2) (fun z1=>ai2 .lt .v0 .v1 (.w 2 (.o .v1 .v0 (.t .v1 .v0 .e))) rfl z0 z1) (fun z1=>ai2 .lt .v0 .v1 (.t .v0 .v1 .e) rfl z1)
  ·rw [if_neg e] at h
   simp only [decide_eq_true_eq] at h
   by_cases e2:x=y
   ·subst e2
    right;rw [if_neg e];simp only [decide_eq_true_eq];exact ai2 .lt .v0 .v1 (.t .v0 .v1 .e) rfl h
   ·by_cases e3:y=z
    ·left;rw [if_neg e2];simp only [decide_eq_true_eq];exact ai3 .lt .v0 .v1 (.t .v0 .v2 (.p .v1 .v2 .e)) rfl h e3
    ·rw [if_neg e2,if_neg e3];simp only [decide_eq_true_eq];exact Classical.or_iff_not_imp_left.mpr fun z0=>ai3 .lt .v0 .v1 (.o .v2 .v0 (.t .v2 .v1 .e)) rfl z0 h
end Mine.Internal
namespace Mine.Internal
open PySem PySem.Calls
set_option genSizeOf false
set_option genInjectivity false
structure Bs where
 heap:Heap
 prog:Program
 w:World
abbrev Bs.get? (b:Bs) (a:Addr):Option Obj:=b.heap.get? a
mutual
noncomputable def Rel (h:Heap) (φ:List Addr):V→Value→Prop
 | .undef,_=>False
 | .none,v=>v=.none
 | .bool b,v=>v=.bool b
 | .int i,v=>∃ t,v=.int i t
 | .str s,v=>∃ t,v=.str s t
 | .tup vs,v=>∃ a items n,v=.ref a∧h.get? a=some { cls:=.type "tuple", data:=.seq items n }∧RelL h φ vs items.toList
 | .ref n,v=>∃ a,v=.ref a∧φ[n]?=some a
noncomputable def RelL (h:Heap) (φ:List Addr):List V→List Value→Prop
 | [],[]=>True
 | V::Vs,v::vs=>Rel h φ V v∧RelL h φ Vs vs
 | _,_=>False
end
theorem BB:Rel h φ (.int i) (.int i t):=⟨t,rfl⟩
theorem Bh:Rel h φ (.str x) (.str x t):=⟨t,rfl⟩
theorem BX:Rel h φ (.bool b) (.bool b):=rfl
theorem Ch:Rel h φ .none .none:=rfl
noncomputable def RelP (h:Heap) (φ:List Addr) (kvs:List (Str × V)) (us:List (Str × Value)):Prop:=us.map (·.1)=kvs.map (·.1)∧RelL h φ (kvs.map (·.2)) (us.map (·.2))
noncomputable def AttrIs (h:Heap) (φ:List Addr):Option V→Option Value→Prop
 | some V,ov=>∃ v,ov=some v∧Rel h φ V v
 | none,ov=>ov=none
noncomputable def RelO (h₀:Bs) (h:Heap) (φ:List Addr):O→Addr→Prop
 | .list vs,a=>∃ items n,h.get? a=some { cls:=.type "list", data:=.seq items n }∧RelL h φ vs items.toList∧vs.length≤CC
 | .tab P,a=>a=P∧h.get? a=some { cls:=.none,data:=.fields #[] }
 | .gone,a=>∃ us,h.get? a=some { cls:=.none,data:=.fields us }
 | .dict ep kvs,a=>∃ us,h.DictAt (strKind h₀.prog h₀.w) a us ep∧RelP h φ kvs us∧kvs.length≤CC∧(a==sysModules)=false
 | .inst C m,a=>∃ dx,φ[m]?=some dx∧dx≠a∧∃ ob,h.get? a=some ob∧ob.cls=.ref C∧(∀ c,ob.data≠.cls c)∧ob.dict=some dx
 | .ns fs,a=>∃ m,h.Ns1 a m∧∀ y,AttrIs h φ (fs.lookup y) (m y)
 | .row P ln col m,a=>a=P∧∃ c,φ[m]?=some c∧h.get? a=some { cls:=.none,data:=.fields #[rawInt ln,rawInt col,.ref c] }
 | .code q,a=>∃ o vs t,h.get? a=some o∧o.data=.fields vs∧vs[1]?=some (.str q t)
structure Sim (h₀:Bs) (h:Heap) (φ:List Addr) (σ:AD):Prop where
 keep:∀ b o,h₀.get? b=some o→h.get? b=some o
 len:φ.length=σ.length
 nodup:φ.Nodup
 new:∀ (n:Nat) a,φ[n+1]?=some a→h₀.get? a=none
 obj:∀ (n:Nat) o,σ[n]?=some o→∃ a,φ[n]?=some a∧RelO h₀ h φ o a
noncomputable def Lk (o o':Obj):Prop:=∃ sl,o'={ o with slots:=sl }∧((∀ es ep,o.data≠.dict es ep)→sl=o.slots)
theorem Lk.refl (o:Obj):Lk o o:=⟨o.slots,rfl,fun _=>rfl⟩
theorem Lk.trans (x:Lk o o₁) (y:Lk o₁ o₂):Lk o o₂:=AF x fun sl e k=>AF y fun sl' e' k'=>by subst e e';exact ⟨sl',rfl,fun n=>(k' n).trans (k n)⟩
theorem Lk.same (x:Lk o o') (n:∀ es ep,o.data≠.dict es ep):o'=o:=by refine AF x fun _ e k=>?_;exact e.trans (by rw [k n])
theorem Lk.data (x:Lk o o'):o'.data=o.data:=by refine AF x fun _ e _=>?_;exact by rw [e]
noncomputable def Vn (φ:List Addr) (own:Addr→Prop) (h h':Heap):Prop:=∀ b o,b∉φ→¬ own b→h.get? b=some o→∃ o',h'.get? b=some o'∧Lk o o'
noncomputable def AS:Addr→Prop:=fun _=>False
noncomputable def A8 (h:Heap) (a:Addr):Prop:=∀ items n,h.get? a≠some { cls:=.type "tuple", data:=.seq items n }
theorem noTup (e:h.get? a=some o) (k:o.cls≠.type "tuple"):A8 h a:=fun _ _ e'=>by
 rw [e] at e';cases e';exact k rfl
theorem Ih (e:h.get? a=some o) (k:∀ items n,o.data≠.seq items n):A8 h a:=fun _ _ e'=>by
 rw [e] at e';cases e';exact k _ _ rfl
theorem RelL.nil:RelL h φ [] []:=trivial
theorem RelL.length {Vs:List V}:∀ {vs:List Value},RelL h φ Vs vs→Vs.length=vs.length:=by
 induction Vs with
 | nil=>intro vs r;cases vs with
  | nil=>rfl
  | cons _ _=>exact r.elim
 | cons V Vs ih=>intro vs r;cases vs with
  | nil=>exact r.elim
  | cons v vs=>exact congrArg (·+1) (ih r.2)
theorem RelL.one {V:V} (r:RelL h φ [V] vs):∃ v,vs=[v]∧Rel h φ V v:=by
 cases vs with
 | nil=>exact r.elim
 | cons v vs=>cases vs with
  | nil=>exact ⟨v,rfl,r.1⟩
  | cons _ _=>exact r.2.elim
theorem RelL.two {V W:Mine.Internal.V} (r:RelL h φ [V,W] vs):∃ v u,vs=[v,u]∧Rel h φ V v∧Rel h φ W u:=by
 cases vs with
 | nil=>exact r.elim
 | cons v vs=>refine AF (RelL.one (vs:=vs) r.2) fun u e r'=>?_;exact ⟨v,u,congrArg (v::·) e,r.1,r'⟩
theorem RelL.get {Vs:List V}:∀ {vs:List Value} {i:Nat} {V:V},RelL h φ Vs vs→Vs[i]?=some V→∃ v,vs[i]?=some v∧Rel h φ V v:=by
 induction Vs with
 | nil=>intro vs i V _ e;exact absurd e.symm (Option.some_ne_none V)
 | cons V Vs ih=>intro vs i W r e;cases vs with
  | nil=>exact r.elim
  | cons v vs=>cases i with
   | zero=>exact ⟨v,rfl,Option.some.inj e▸r.1⟩
   | succ i=>exact ih (i:=i) r.2 e
theorem RelL.append {Vs Ws:List V}:∀ {vs:List Value},RelL h φ Vs vs→RelL h φ Ws ws→RelL h φ (Vs++Ws) (vs++ws):=by
 induction Vs with
 | nil=>intro vs r y;cases vs with
  | nil=>exact y
  | cons _ _=>exact r.elim
 | cons V Vs ih=>intro vs r y;cases vs with
  | nil=>exact r.elim
  | cons v vs=>exact ⟨r.1,ih r.2 y⟩
section
variable {h h':Heap} {φ φ':List Addr}
theorem B0 {α:Type} {l l':List α} (h:l<+:l') {n:Nat} {a:α} (e:l[n]?=some a):l'[n]?=some a:=
 List.IsPrefix.getElem?_eq_some h e
where
 List.IsPrefix.getElem?_eq_some {l l':List α} (h:l<+:l') {n:Nat} {a:α} (e:l[n]?=some a):l'[n]?=some a:=by
  refine AX h fun t ze1=>?_;subst ze1
  rw [List.getElem?_append_left (List.getElem?_eq_some_iff.mp e).1];exact e
mutual
theorem Rel.keep (k:∀ b items n,h.get? b=some { cls:=.type "tuple", data:=.seq items n }→h'.get? b=some { cls:=.type "tuple", data:=.seq items n }) (hp:φ<+:φ'):∀ (V:V) (v:Value),Rel h φ V v→Rel h' φ' V v
 | .undef,_,x=>x
 | .none,_,x=>x
 | .bool _,_,x=>x
 | .int _,_,x=>x
 | .str _,_,x=>x
 | .tup Vs,_,⟨a,items,n,e,g,r⟩=>⟨a,items,n,e,k a items n g,RelL.keep k hp Vs _ r⟩
 | .ref _,_,⟨a,e,g⟩=>⟨a,e,B0 hp g⟩
theorem RelL.keep (k:∀ b items n,h.get? b=some { cls:=.type "tuple", data:=.seq items n }→h'.get? b=some { cls:=.type "tuple", data:=.seq items n }) (hp:φ<+:φ'):∀ (Vs:List V) (vs:List Value),RelL h φ Vs vs→RelL h' φ' Vs vs
 | [],[],_=>trivial
 | V::Vs,v::vs,x=>⟨Rel.keep k hp V v x.1,RelL.keep k hp Vs vs x.2⟩
 | [],_::_,x=>x
 | _::_,[],x=>x
end
end
theorem RelP.keep (hp:φ<+:φ') (kt:∀ b items n,h.get? b=some { cls:=.type "tuple", data:=.seq items n }→h'.get? b=some { cls:=.type "tuple", data:=.seq items n }) (x:RelP h φ kvs us):RelP h' φ' kvs us:=⟨x.1,RelL.keep kt hp _ _ x.2⟩
theorem AttrIs.keep (hp:φ<+:φ') (kt:∀ b items n,h.get? b=some { cls:=.type "tuple", data:=.seq items n }→h'.get? b=some { cls:=.type "tuple", data:=.seq items n }) (x:AttrIs h φ o ov):AttrIs h' φ' o ov:=by
 cases o with
 | some V=>exact AF x fun v e r=>⟨v,e,Rel.keep kt hp _ _ r⟩
 | none=>exact x
theorem RelO.keep (hp:φ<+:φ') (kt:∀ b items n,h.get? b=some { cls:=.type "tuple", data:=.seq items n }→h'.get? b=some { cls:=.type "tuple", data:=.seq items n }) (k:∀ ob,h.get? a=some ob→h'.get? a=some ob) (x:RelO h₀ h φ o a):RelO h₀ h' φ' o a:=by
 cases o with
 | list _=>refine BC x fun items n e r z=>?_;exact ⟨items,n,k _ e,RelL.keep kt hp _ _ r,z⟩
 | tab _=>exact ⟨x.1,k _ x.2⟩
 | gone=>refine AX x fun us e=>?_;exact ⟨us,k _ e⟩
 | dict _ _=>refine Ae x fun us zt1 r z=>BM zt1 fun o es e q=>?_;exact ⟨us,⟨o,es,k _ e,q⟩,r.keep hp kt,z⟩
 | inst _ _=>refine KI x fun dx e n ob g q=>?_;exact ⟨dx,B0 hp e,n,ob,k _ g,q⟩
 | ns _=>refine AF x fun m n r=>?_;exact ⟨m,n.at k,fun y=>(r y).keep hp kt⟩
 | row _ _ _ _=>refine CR x fun e c e1 e2=>?_;exact ⟨e,c,B0 hp e1,k _ e2⟩
 | code _=>refine EK x fun o vs t e r=>?_;exact ⟨o,vs,t,k _ e,r⟩
theorem BR:Value.type "list"≠Value.type "tuple":=by simp
inductive There (h:Heap) (a:Addr):Prop
 | mk (ob:Obj):h.get? a=some ob→(∀ items n,ob≠{ cls:=.type "tuple", data:=.seq items n })→(∀ us n,ob.data=.fields us→ob.cls=.type n→∃ x t,us[1]?=some (.str x t))→There h a
theorem RelO.there (x:RelO h₀ h φ o a):There h a:=by
 cases o with
 | list _=>refine BM x fun it n e r=>?_;exact .mk _ e (fun u v q=>BR (congrArg Obj.cls q)) nofun
 | tab _=>exact .mk _ x.2 nofun nofun
 | gone=>refine AX x fun us e=>?_;exact .mk _ e nofun nofun
 | dict _ _=>refine AF x fun us zt1 r=>Bk zt1 fun o es e c d q=>?_;exact .mk _ e (fun u v q=>nomatch d.symm.trans (congrArg Obj.data q)) fun u v e'=>nomatch d.symm.trans e'
 | inst _ _=>refine NA x fun dx e0 n ob e q r=>?_;exact .mk _ e (fun u v q'=>nomatch q.symm.trans (congrArg Obj.cls q')) fun u v w q'=>nomatch q.symm.trans q'
 | ns _=>refine AF x fun m zt1 r=>Af zt1 fun o es ep e d q=>?_;exact .mk _ e (fun u v q=>nomatch d.symm.trans (congrArg Obj.data q)) fun u v e'=>nomatch d.symm.trans e'
 | row _ _ _ _=>refine CR x fun e0 c e1 e=>?_;exact .mk _ e nofun nofun
 | code _=>refine Af x fun o vs t e d q=>?_;exact .mk _ e (fun u v q=>nomatch d.symm.trans (congrArg Obj.data q)) fun us n e' z=>⟨_,t,by cases d.symm.trans e';exact q⟩
theorem BU {h:Heap} {a:Addr} (l:h.objs.size≤a):h.get? a=none:=by
 cases e:h.get? a with
 | none=>rfl
 | some o=>exact absurd (Heap.lt_size e) (Nat.not_lt.mpr l)
theorem Sim.at (x:Sim h₀ h φ σ) (m:a∈φ):There h a:=by
 obtain ⟨n,hn,rfl⟩:=List.mem_iff_getElem.mp m
 have hs:n<σ.length:=x.len▸hn
 refine AF (x.obj n σ[n] (List.getElem?_eq_getElem hs)) fun a e r=>?_
 rw [List.getElem?_eq_getElem hn] at e
 exact Option.some.inj e▸r.there
theorem Sim.noTup (x:Sim h₀ h φ σ) (m:a∈φ):A8 h a:=
 (x.at m).casesOn fun _ e k _=>fun items n e'=>k items n (Option.some.inj (e.symm.trans e'))
theorem Sim.out (x:Sim h₀ h φ σ) (n:h.get? a=none):a∉φ:=fun m=>
 (x.at m).casesOn fun _ e _ _=>Fz (n.symm.trans e)
theorem Sim.none₀ (x:Sim h₀ h φ σ) (n:h.get? a=none):h₀.get? a=none:=by
 cases e:h₀.get? a with
 | none=>rfl
 | some o=>have:=x.keep a o e;rw [n] at this;cases this
theorem Sim.keeps {own:Addr→Prop} (x:Sim h₀ h φ σ) (k:∀ b o,¬ own b→h.get? b=some o→h'.get? b=some o)
  (ho:∀ a,own a→A8 h a∧a∉φ∧h₀.get? a=none):Sim h₀ h' φ σ where
 keep b o e:=k b o (fun m=>by rw [(ho b m).2.2] at e;cases e) (x.keep b o e)
 len:=x.len
 nodup:=x.nodup
 new:=x.new
 obj n o e:=by refine AF (x.obj n o e) fun a g r=>?_;exact ⟨a,g,r.keep (List.prefix_refl _) (fun b items n e=>k b _ (fun m=>(ho b m).1 items n e) e) fun ob=>k a ob fun m=>(ho a m).2.1 (List.mem_of_getElem? g)⟩
theorem Bj {α:Type} {l:List α} {a b:α} (h:b∈l++[a]):b∈l∨b=a:=(List.mem_append.mp h).imp id List.mem_singleton.mp
theorem Sim.add (x:Sim h₀ h φ σ) (hn:a∉φ) (h0:h₀.get? a=none) (r:RelO h₀ h φ o a):Sim h₀ h (φ++[a]) (σ++[o]) where
 keep:=x.keep
 len:=by rw [List.length_append,List.length_append,x.len];rfl
 nodup:=List.nodup_append.mpr ⟨x.nodup,List.nodup_cons.mpr ⟨List.not_mem_nil,List.nodup_nil⟩,fun b hb c hc e=>hn (List.mem_singleton.mp hc▸e▸hb)⟩
 new m b hb:=by
  refine Or.elim (Nat.lt_or_ge (m+1) φ.length) (fun hlt=>?_) (fun hge=>?_)
  ·rw [List.getElem?_append_left hlt] at hb;exact x.new m b hb
  ·rw [List.getElem?_append_right hge] at hb
   exact List.mem_singleton.mp (List.mem_of_getElem? hb)▸h0
 obj n ob e:=by
  have kp:∀ {ob b},RelO h₀ h φ ob b→RelO h₀ h (φ++[a]) ob b:=fun r=>r.keep (List.prefix_append _ _) (fun _ _ _ e=>e) fun _ e=>e
  refine Or.elim (Nat.lt_or_ge n σ.length) (fun hlt=>?_) (fun hge=>?_)
  ·rw [List.getElem?_append_left hlt] at e
   refine AF (x.obj n ob e) fun b g r=>?_
   exact ⟨b,B0 (List.prefix_append _ _) g,kp r⟩
  ·rw [List.getElem?_append_right hge] at e
   have:n=φ.length:=by
    have:=(List.getElem?_eq_some_iff.mp e).1
    rw [x.len];exact Nat.le_antisymm (by rw [List.length_singleton] at this;exact Nat.le_of_sub_eq_zero (Nat.lt_one_iff.mp this)) hge
   refine ⟨a,by rw [this];exact List.getElem?_concat_length,kp ?_⟩
   exact List.mem_singleton.mp (List.mem_of_getElem? e)▸r
structure Cf (h₀:Bs) where
 s:Shared
 φ:List Addr
 σ:AD
 sim:Sim h₀ s.heap φ σ
section
variable {h₀:Bs}
structure WStp (own:Addr→Prop) (c c':Cf h₀):Prop where
 only:c'.s.os=c.s.os∧c'.s.gens=c.s.gens
 pre:c.φ<+:c'.φ
 keep:Vn c.φ own c.s.heap c'.s.heap
 fresh:∀ a∈c'.φ,a∈c.φ∨c.s.heap.get? a=none
structure Stp (own:Addr→Prop) (c c':Cf h₀):Prop extends WStp own c c' where
 pres:∀ b o,c.s.heap.get? b=some o→∃ o',c'.s.heap.get? b=some o'
theorem Stp.refl (c:Cf h₀):Stp own c c:=⟨⟨⟨rfl,rfl⟩,List.prefix_refl _,fun _ o _ _ e=>⟨o,e,.refl o⟩,fun _ m=>.inl m⟩,fun _ o e=>⟨o,e⟩⟩
theorem Stp.gone (x:Stp own c c') (e:c'.s.heap.get? a=none):c.s.heap.get? a=none:=by
 cases q:c.s.heap.get? a with
 | none=>rfl
 | some o=>refine AX (x.pres a o q) fun o' e'=>?_;rw [e] at e';cases e'
theorem WStp.out (x:WStp own c c') (e:c.s.heap.get? a=some o) (n:a∉c.φ):a∉c'.φ:=fun m=>(x.fresh a m).elim n fun e'=>by rw [e] at e';cases e'
theorem Stp.trans (x:Stp own c c₁) (y:Stp own c₁ c₂):Stp own c c₂ where
 only:=⟨y.only.1.trans x.only.1,y.only.2.trans x.only.2⟩
 pre:=x.pre.trans y.pre
 keep b o h1 h2 e:=by refine AF (x.keep b o h1 h2 e) fun _ e1 k1=>?_;exact let ⟨o₂,e2,k2⟩:=y.keep b _ (x.out e h1) h2 e1;⟨o₂,e2,k1.trans k2⟩
 fresh a m:=(y.fresh a m).elim (x.fresh a) fun e=>.inr (x.gone e)
 pres b o e:=by refine AX (x.pres b o e) fun o' e'=>?_;exact y.pres b o' e'
theorem Stp.transNew (x:Stp own c c₁) (y:WStp own' c₁ c₂) (h:∀ b,own' b→c.s.heap.get? b=none):Stp own c c₂ where
 only:=⟨y.only.1.trans x.only.1,y.only.2.trans x.only.2⟩
 pre:=x.pre.trans y.pre
 keep b o h1 h2 e:=by refine AF (x.keep b o h1 h2 e) fun _ e1 k1=>?_;exact AF (y.keep b _ (x.out e h1) (fun m=>Fz ((h b m).symm.trans e)) e1) fun o₂ e2 k2=>⟨o₂,e2,k1.trans k2⟩
 fresh a m:=(y.fresh a m).elim (x.fresh a) fun e=>.inr (x.gone e)
 pres b o e:=by refine AX (x.pres b o e) fun o' e'=>?_;exact (Classical.em (b∈c₁.φ)).elim (fun m=>(c₂.sim.at (y.pre.subset m)).casesOn fun ob e _ _=>⟨ob,e⟩) fun m=>AF (y.keep b o' m (fun m=>Fz ((h b m).symm.trans e)) e') fun o₂ e2 _=>⟨o₂,e2⟩
theorem Stp.wider (x:Stp own c c') (h:∀ a,own a→own' a):Stp own' c c':=⟨⟨x.only,x.pre,fun b o h1 h2=>x.keep b o h1 fun m=>h2 (h b m),x.fresh⟩,x.pres⟩
theorem Stp.any (x:Stp AS c c'):Stp own c c':=x.wider fun _ f=>f.elim
noncomputable def Cf.keepOwn (c:Cf h₀) (s:Shared) {own:Addr→Prop} (k:∀ b o,¬ own b→c.s.heap.get? b=some o→s.heap.get? b=some o) (ho:∀ a,own a→A8 c.s.heap a∧a∉c.φ∧h₀.get? a=none):Cf h₀:=⟨s,c.φ,c.σ,c.sim.keeps k ho⟩
noncomputable def Cf.keep (c:Cf h₀) (s:Shared) (k:∀ b o,c.s.heap.get? b=some o→s.heap.get? b=some o):Cf h₀:=c.keepOwn s (own:=AS) (fun b o _ e=>k b o e) fun _ f=>f.elim
theorem Cf.keepOwn_stp {c:Cf h₀} {s:Shared} {own:Addr→Prop} {k:∀ b o,¬ own b→c.s.heap.get? b=some o→s.heap.get? b=some o} {ho:∀ a,own a→A8 c.s.heap a∧a∉c.φ∧h₀.get? a=none} (only:s.os=c.s.os∧s.gens=c.s.gens)
  (pres:∀ b o,own b→c.s.heap.get? b=some o→∃ o',s.heap.get? b=some o'):Stp own c (c.keepOwn s k ho):=
 ⟨⟨only,List.prefix_refl _,fun b o _ h e=>⟨o,k b o h e,.refl o⟩,fun _ m=>.inl m⟩,fun b o e=>(Classical.em (own b)).elim (fun h=>pres b o h e) fun h=>⟨o,k b o h e⟩⟩
theorem Cf.keep_stp {c:Cf h₀} {s:Shared} {k:∀ b o,c.s.heap.get? b=some o→s.heap.get? b=some o} (only:s.os=c.s.os∧s.gens=c.s.gens):Stp AS c (c.keep s k):=keepOwn_stp only fun _ _ f=>f.elim
theorem WStp.keepE (x:WStp own c c') (h1:b∉c.φ) (h2:¬ own b) (n:∀ es ep,o.data≠.dict es ep) (e:c.s.heap.get? b=some o):c'.s.heap.get? b=some o:=
 by refine AF (x.keep b o h1 h2 e) fun _ e' k=>?_;exact k.same n▸e'
theorem WStp.keepN (x:WStp own c c') (h1:b∉c.φ) (h2:¬ own b) (n:c.s.heap.Ns b m):c'.s.heap.Ns b m:=
 by refine Af n fun _ es ep e d q=>?_;exact let ⟨o',e',k⟩:=x.keep b _ h1 h2 e;⟨o',es,ep,e',k.data.trans d,q⟩
theorem WStp.keepC (x:WStp own c c') (h1:b∉c.φ) (h2:¬ own b) (n:c.s.heap.IsCell b v):c'.s.heap.IsCell b v:=
 by refine AF n fun _ e d=>?_;exact ⟨_,x.keepE h1 h2 (fun _ _ q=>nomatch d.symm.trans q) e,d⟩
theorem Rel.own {own:Addr→Prop} {V:V} (r:Rel c.s.heap c.φ V v) (x:WStp own c c') (ho:∀ a,own a→A8 c.s.heap a):Rel c'.s.heap c'.φ V v:=
 Rel.keep (fun b items n e=>x.keepE (fun m=>c.sim.noTup m items n e) (fun m=>ho b m items n e) nofun e) x.pre _ _ r
theorem RelL.own {own:Addr→Prop} {Vs:List V} (r:RelL c.s.heap c.φ Vs vs) (x:WStp own c c') (ho:∀ a,own a→A8 c.s.heap a):RelL c'.s.heap c'.φ Vs vs:=
 RelL.keep (fun b items n e=>x.keepE (fun m=>c.sim.noTup m items n e) (fun m=>ho b m items n e) nofun e) x.pre _ _ r
theorem Rel.step {V:V} (r:Rel c.s.heap c.φ V v) (x:Stp AS c c'):Rel c'.s.heap c'.φ V v:=r.own x.toWStp fun _ f=>f.elim
theorem RelL.step {Vs:List V} (r:RelL c.s.heap c.φ Vs vs) (x:Stp AS c c'):RelL c'.s.heap c'.φ Vs vs:=r.own x.toWStp fun _ f=>f.elim
theorem DR {α β:Type} {f:α→β} {v:β} {P:β→Prop} (h:∃ t,v=f t) (k:∀ t,P (f t)):P v:=h.elim fun t e=>e▸k t
theorem Cf.list {c:Cf h₀} {n:Nat} {vs:List V} {v:Value} (e:c.σ[n]?=some (.list vs)) (r:Rel c.s.heap c.φ (.ref n) v) :
  ∃ a items k,v=.ref a∧c.φ[n]?=some a∧IsL c.s.heap a items k∧RelL c.s.heap c.φ vs items.toList∧vs.length≤CC:=
 AF r fun _ ev ea=>AF (c.sim.obj n _ e) fun a' ea' ro=>BC ro fun items k g rl z=>⟨a',items,k,ev.trans (congrArg Value.ref (Option.some.inj (ea.symm.trans ea'))),ea',g,rl,z⟩
theorem Cf.listE {c:Cf h₀} {n:Nat} {vs:List V} {v:Value} {P:Value→Prop} (e:c.σ[n]?=some (.list vs)) (r:Rel c.s.heap c.φ (.ref n) v)
  (k:∀ a items k,c.φ[n]?=some a→IsL c.s.heap a items k→RelL c.s.heap c.φ vs items.toList→vs.length≤CC→P (.ref a)):P v:=
 A6 (Cf.list e r) fun a items j ze h1 h2 h3 h4=>ze▸k a items j h1 h2 h3 h4
end
structure Ctx where
 h₀:Bs
 C:B1
 d:Nat
 
 excs:List Nat
abbrev Ctx.prog (K:Ctx):Program:=K.h₀.prog
abbrev Ctx.w (K:Ctx):World:=K.h₀.w
abbrev Ctx.M (K:Ctx):Model:=model K.h₀.prog K.h₀.w
structure Loc where
 env:Env
 vs:Vs
 up:List Env
structure ROk (K:Ctx) (up:List Env) (A:Around):Prop where
 hd:A.handled=none
 depth:A.depth+3*K.d<902
 units:A.units+12*K.d<9006
 fr:A.frames=some up
inductive Exc (h:Heap) (a:Addr) (k:Nat):List Addr→Option Addr→Prop
 | new (oe:Obj) (vs:Array Value) (a0:Value):h.get? a=some oe→oe.cls=.ref k→oe.data=.fields vs→vs[0]?=some a0→vs[1]?=some .none→Exc h a k [a] none
 | seen (oe:Obj) (vs:Array Value) (a0:Value) (T:Addr) (oT:Obj) (ts:Array Value) (fl:Option Addr):h.get? a=some oe→oe.cls=.ref k→oe.data=.fields vs→vs[0]?=some a0→vs[1]?=some (.ref T)→T≠a →
   h.get? T=some oT→oT.data=.fields ts→ts[3]?=some (fl.elim .none fun f=>rawInt f)→Exc h a k [a,T] fl
theorem Exc.fields (x:Exc h a k fp fl):∀ b∈fp,∃ o us,h.get? b=some o∧o.data=.fields us:=by
 cases x with
 | new oe vs a0 e _ d=>intro b m;cases List.mem_singleton.mp m;exact ⟨_,_,e,d⟩
 | seen oe vs a0 T oT ts fl e _ d _ _ _ eT dT=>
  intro b m
  rcases List.mem_cons.mp m with rfl | m
  ·exact ⟨_,_,e,d⟩
  ·cases List.mem_singleton.mp m;exact ⟨_,_,eT,dT⟩
theorem Exc.mem (x:Exc h a k fp fl):a∈fp:=by cases x <;> exact List.mem_cons_self
section
variable {K:Ctx}
inductive PV (c:Cf K.h₀) (Q:AO) (v:Value):Shared→Prop
 | mk (c':Cf K.h₀) (V:V):Stp AS c c'→Rel c'.s.heap c'.φ V v→Q V c'.σ→PV c Q v c'.s
inductive PVs (c:Cf K.h₀) (Q:List V→AD→Prop) (vs:List Value):Shared→Prop
 | mk (c':Cf K.h₀) (Vs:List V):Stp AS c c'→RelL c'.s.heap c'.φ Vs vs→Q Vs c'.σ→PVs c Q vs c'.s
inductive PB (c:Cf K.h₀) (Q:Bool→AD→Prop) (b:Bool):Shared→Prop
 | mk (c':Cf K.h₀):Stp AS c c'→Q b c'.σ→PB c Q b c'.s
inductive PX (c:Cf K.h₀) (X:AY):Value→Shared→Prop
 | mk (c':Cf K.h₀) (k:Nat) (a:Addr) (fp:List Addr):(∀ b∈fp,c.s.heap.get? b=none∧b∉c'.φ)→k∈K.excs→Stp AS c c'→Exc c'.s.heap a k fp none→X k c'.σ→PX c X (.ref a) c'.s
theorem PX.lift (x:Stp AS c₀ c) (y:PX c X e s'):PX c₀ X e s':=y.casesOn fun c' k a fp n hk st ex q=>.mk c' k a fp (fun b m=>⟨x.gone (n b m).1,(n b m).2⟩) hk (x.trans st) ex q
theorem PX.no (h:∀ k σ,¬ X k σ):¬ PX c X e s':=fun y=>y.casesOn fun _ _ _ _ _ _ _ _ q=>h _ _ q
variable {A:Around} {c₀ c:Cf K.h₀} {X:AY}
theorem seq (st:Stp AS c₀ c) (h:wpAny K.M A m (PV c Q) (PX c X) c.s)
  (k:∀ (c₁:Cf K.h₀) (V:V) (v:Value),Stp AS c₀ c₁→Stp AS c c₁→Rel c₁.s.heap c₁.φ V v→Q V c₁.σ→P v c₁.s):wpAny K.M A m P (PX c₀ X) c.s:=
 wpAny_mono h (fun v _ y=>y.casesOn fun c₁ V s₁ r q=>k c₁ V v (st.trans s₁) s₁ r q) fun _ _ x=>x.lift st
theorem Jk (st:Stp AS c₀ c) (h:wpAny K.M A m (PVs c Q) (PX c X) c.s)
  (k:∀ (c₁:Cf K.h₀) (Vs:List V) (vs:List Value),Stp AS c₀ c₁→Stp AS c c₁→RelL c₁.s.heap c₁.φ Vs vs→Q Vs c₁.σ→P vs c₁.s):wpAny K.M A m P (PX c₀ X) c.s:=
 wpAny_mono h (fun v _ y=>y.casesOn fun c₁ V s₁ r q=>k c₁ V v (st.trans s₁) s₁ r q) fun _ _ x=>x.lift st
theorem QH (st:Stp AS c₀ c) (h:wpAny K.M A m (PB c Q) (PX c X) c.s)
  (k:∀ (c₁:Cf K.h₀) (b:Bool),Stp AS c₀ c₁→Stp AS c c₁→Q b c₁.σ→P b c₁.s):wpAny K.M A m P (PX c₀ X) c.s:=
 wpAny_mono h (fun b _ y=>y.casesOn fun c₁ s₁ q=>k c₁ b (st.trans s₁) s₁ q) fun _ _ x=>x.lift st
theorem fin (st:Stp AS c₀ c) (h:wpAny K.M A m (PV c Q) (PX c X) c.s):wpAny K.M A m (PV c₀ Q) (PX c₀ X) c.s:=
 seq st h fun c₁ V _ s₁ _ r q=>.mk c₁ V s₁ r q
theorem Of (st:Stp AS c₀ c) (h:wpAny K.M A m (PB c Q) (PX c X) c.s):wpAny K.M A m (PB c₀ Q) (PX c₀ X) c.s:=
 QH st h fun c₁ _ s₁ _ q=>.mk c₁ s₁ q
theorem PV.lift (st:Stp AS c₀ c):PV c Q v s'→PV c₀ Q v s'
 | .mk c₁ V s₁ r q=>.mk c₁ V (st.trans s₁) r q
theorem PB.lift (st:Stp AS c₀ c):PB c Q b s'→PB c₀ Q b s'
 | .mk c₁ s₁ q=>.mk c₁ (st.trans s₁) q
noncomputable abbrev Cf.toks (c:Cf K.h₀) (tk:Nat):Cf K.h₀:=c.keep { c.s with toks:=tk } fun _ _ e=>e
theorem PV.plain {Q:AO} {V:V} {v:Value} {tk:Nat} (r:Rel c.s.heap c.φ V v) (q:Q V c.σ):PV c Q v { c.s with toks:=tk }:=PV.mk (c.toks tk) V (Cf.keep_stp ⟨rfl,rfl⟩) r q
theorem PV.same {V:V} (r:Rel c.s.heap c.φ V v) (q:Q V c.σ):PV c Q v c.s:=.mk c V (.refl c) r q
theorem PV.kept {Q:AO} {V:V} {v:Value} {h':Heap} {tk:Nat} (k:∀ b o,c.s.heap.get? b=some o→h'.get? b=some o) (r:Rel h' c.φ V v) (q:Q V c.σ):PV c Q v { c.s with heap:=h',toks:=tk }:=
 PV.mk (c.keep { c.s with heap:=h',toks:=tk } k) V (Cf.keep_stp ⟨rfl,rfl⟩) r q
theorem O2 {h h':Heap} (k:∀ b o,h.get? b=some o→h'.get? b=some o):∀ b items n,h.get? b=some { cls:=.type "tuple", data:=.seq items n }→h'.get? b=some { cls:=.type "tuple", data:=.seq items n }:=fun b _ _ e=>k b _ e
noncomputable def Cf.add {h₀:Bs} (c:Cf h₀) {o:O} {a:Addr} {h':Heap} {tk:Nat} (k:∀ b ob,c.s.heap.get? b=some ob→h'.get? b=some ob) (n:c.s.heap.get? a=none) (r:RelO h₀ h' c.φ o a):Cf h₀:=
  ⟨{ c.s with heap:=h',toks:=tk },c.φ++[a],c.σ++[o],(c.keep { c.s with heap:=h',toks:=tk } k).sim.add (c.sim.out n) (c.sim.none₀ n) r⟩
theorem PV.new {tk:Nat} (k:∀ b ob,c.s.heap.get? b=some ob→h'.get? b=some ob) (n:c.s.heap.get? a=none) (r:RelO K.h₀ h' c.φ o a) (q:Q (.ref c.σ.length) (c.σ++[o])) :
  PV c Q (.ref a) { c.s with heap:=h',toks:=tk }:=
 PV.mk (c.add k n r) (.ref c.σ.length)
  ⟨⟨⟨rfl,rfl⟩,List.prefix_append _ _,fun b o _ _ e=>⟨o,k b o e,.refl o⟩,fun _ m=>(Bj m).imp id fun e=>(congrArg c.s.heap.get? e).trans n⟩,fun b o e=>⟨o,k b o e⟩⟩ ⟨a,rfl,by rw [← c.sim.len];exact List.getElem?_concat_length⟩ q
theorem PV.list {Q:AO} {Vs:List V} {items:Array Value} {a:Addr} {h':Heap} {tk n:Nat} (r:RelL c.s.heap c.φ Vs items.toList) (hz:Vs.length≤CC) (ha:c.s.heap.get? a=none) (k:∀ b ob,c.s.heap.get? b=some ob→h'.get? b=some ob)
  (e:h'.get? a=some { cls:=.type "list", data:=.seq items n }) (q:Q (.ref c.σ.length) (c.σ++[.list Vs])):PV c Q (.ref a) { c.s with heap:=h',toks:=tk }:=
 PV.new (o:=.list Vs) k ha ⟨items,n,e,RelL.keep (O2 k) (List.prefix_refl _) _ _ r,hz⟩ q
theorem PV.pushL {Q:AO} {Vs:List V} {items:List Value} (r:RelL c.s.heap c.φ Vs items) (hz:Vs.length≤CC) (q:Q (.ref c.σ.length) (c.σ++[.list Vs])) :
  PV c Q (.ref c.s.heap.objs.size) { c.s with heap:=c.s.heap.push { cls:=.type "list", data:=.seq items.toArray 0 } }:=
 PV.list (tk:=c.s.toks) r hz (BU (Nat.le_refl _)) (fun _ _ e=>Heap.get?_push_of_some _ e) (Heap.get?_push_size _ rfl) q
theorem PV.tup {Q:AO} {Vs:List V} {items:Array Value} {a:Addr} {h':Heap} {tk n:Nat} (r:RelL c.s.heap c.φ Vs items.toList) (k:∀ b ob,c.s.heap.get? b=some ob→h'.get? b=some ob)
  (e:h'.get? a=some { cls:=.type "tuple", data:=.seq items n }) (q:Q (.tup Vs) c.σ):PV c Q (.ref a) { c.s with heap:=h',toks:=tk }:=
 PV.kept (V:=.tup Vs) k ⟨a,items,n,rfl,e,RelL.keep (O2 k) (List.prefix_refl _) _ _ r⟩ q
theorem PV.pushT {Vs:List V} (r:RelL c.s.heap c.φ Vs items) (q:Q (.tup Vs) c.σ) :
  PV c Q (.ref c.s.heap.objs.size) { c.s with heap:=c.s.heap.push { cls:=.type "tuple", data:=.seq items.toArray 0 } }:=
 PV.tup (tk:=c.s.toks) r (fun _ _ e=>Heap.get?_push_of_some _ e) (Heap.get?_push_size _ rfl) q
end
noncomputable def SlotIs {h₀:Bs} (c:Cf h₀) (ρ:List V) (i:Nat) (ov:Option Value):Prop:=∀ V,ρ[i]?=some V→V≠.undef→∃ v,ov=some v∧Rel c.s.heap c.φ V v
inductive NsAt {h₀:Bs} (c:Cf h₀) (L:Loc) (ρ:List V):Prop
 | mk (m:Str→Option Value):c.s.heap.Ns L.env.locals m→(∀ x i,L.vs.lookup x=some i→L.env.kindOf x=some .local→SlotIs c ρ i (m x))→NsAt c L ρ
inductive CellAt {h₀:Bs} (c:Cf h₀) (L:Loc) (ρ:List V) (x:Str) (i:Nat):Prop
 | mk (a:Addr) (ov:Option Value):L.env.cells.lookup x=some a→a∉c.φ→h₀.get? a=none→c.s.heap.IsCell a ov→SlotIs c ρ i ov→CellAt c L ρ x i
noncomputable def FrameAt {h₀:Bs} (c:Cf h₀) (e:Env):Prop:=e.scope.kind≠.module∧∃ f m,e.frame=some f∧h₀.get? f=none∧f∉c.φ∧c.s.heap.Ns f m
structure Fr {h₀:Bs} (c:Cf h₀) (L:Loc) (ρ:List V):Prop where
 fn:L.env.scope.kind=.function
 glob:L.env.globals=mainGlobals
 blt:L.env.builtins=builtinsNs
 locNew:h₀.get? L.env.locals=none
 locOut:L.env.locals∉c.φ
 inj:∀ x y i,L.vs.lookup x=some i→L.vs.lookup y=some i→x=y
 ns:NsAt c L ρ
 cell:∀ x i,L.vs.lookup x=some i→L.env.kindOf x=some .cell∨L.env.kindOf x=some .free→CellAt c L ρ x i
 cellInj:∀ x y i j a,L.vs.lookup x=some i→L.vs.lookup y=some j→L.env.cells.lookup x=some a→L.env.cells.lookup y=some a→x=y
 up:∀ e∈L.up,FrameAt c e
noncomputable def Loc.own (L:Loc):Addr→Prop:=fun a=>a=L.env.locals∨∃ x i,L.vs.lookup x=some i∧L.env.kindOf x=some .cell∧L.env.cells.lookup x=some a
section
variable {h₀:Bs} {c c':Cf h₀} {L:Loc} {ρ:List V}
theorem CQ {h:Heap} {a:Addr} {m:Str→Option Value} (n:h.Ns a m):∃ o,h.get? a=some o∧∃ es ep,o.data=.dict es ep:=by refine Af n fun o es ep e d _=>?_;exact ⟨o,e,es,ep,d⟩
theorem Jg {h h':Heap} {a:Addr} {m:Str→Option Value} (n:h.Ns a m) (k:∀ o,h.get? a=some o→h'.get? a=some o):h'.Ns a m:=by refine EK n fun o es ep e d=>?_;exact ⟨o,es,ep,k o e,d⟩
theorem Ho {h h':Heap} {a:Addr} {v:Option Value} (n:h.IsCell a v) (k:∀ o,h.get? a=some o→h'.get? a=some o):h'.IsCell a v:=by refine AF n fun o e d=>?_;exact ⟨o,k o e,d⟩
theorem SlotIs.own {own:Addr→Prop} {i:Nat} (x:SlotIs c ρ i ov) (st:WStp own c c') (hn:∀ a,own a→A8 c.s.heap a):SlotIs c' ρ i ov:=fun V h1 h2=>AF (x V h1 h2) fun v e r=>⟨v,e,r.own st hn⟩
theorem FrameAt.keep {own:Addr→Prop} {e:Env} (st:WStp own c c') (hl:∀ f m,c.s.heap.Ns f m→e.frame=some f→¬ own f) (h:FrameAt c e):FrameAt c' e:=⟨h.1,Bk h.2 fun f m e1 e2 e3 n=>⟨f,m,e1,e2,AF (CQ n) fun _ e _=>st.out e e3,st.keepN e3 (hl f m n e1) n⟩⟩
theorem Fr.keep {own:Addr→Prop} (F:Fr c L ρ) (st:WStp own c c') (hn:∀ a,own a→A8 c.s.heap a) (hl:∀ f m,c.s.heap.Ns f m→f=L.env.locals∨(∃ e∈L.up,e.frame=some f)→¬ own f) (hc:∀ a ov,c.s.heap.IsCell a ov→¬ own a):Fr c' L ρ where
 fn:=F.fn
 glob:=F.glob
 blt:=F.blt
 locNew:=F.locNew
 locOut:=F.ns.casesOn fun _ n _=>AF (CQ n) fun _ e _=>st.out e F.locOut
 inj:=F.inj
 ns:=F.ns.casesOn fun m n q=>.mk m (st.keepN F.locOut (hl _ _ n (.inl rfl)) n) fun x i h1 h2=>(q x i h1 h2).own st hn
 cell x i h1 h2:=match F.cell x i h1 h2 with
  | .mk a ov e o n ic r=>.mk a ov e (AF ic fun _ e' _=>st.out e' o) n (st.keepC o (hc a ov ic) ic) (r.own st hn)
 cellInj:=F.cellInj
 up e m:=(F.up e m).keep st fun f m' n e1=>hl f m' n (.inr ⟨e,m,e1⟩)
theorem Fr.step (F:Fr c L ρ) (st:Stp AS c c'):Fr c' L ρ:=F.keep st.toWStp (fun _ f=>f.elim) (fun _ _ _ _ f=>f) fun _ _ _ f=>f
theorem Cl {h:Heap} {a:Addr} {m:Str→Option Value} (n:h.Ns a m):A8 h a:=by refine DT (CQ n) fun _ e _ _ d=>?_;exact Ih e fun _ _ e'=>nomatch d.symm.trans e'
theorem Gz (n:h.IsCell a v):A8 h a:=by refine AF n fun _ e d=>?_;exact Ih e fun _ _ e'=>nomatch d.symm.trans e'
theorem Fr.noTup (F:Fr c L ρ) (x:L.own a):A8 c.s.heap a:=
 x.elim (fun h=>h▸F.ns.casesOn fun _ n _=>Cl n) fun h=>BC h fun x i hx hk e=>(F.cell x i hx (.inl hk)).casesOn fun _ _ e1 _ _ ic _=>Option.some.inj (e1.symm.trans e)▸Gz ic
theorem SlotIs.undef (x:SlotIs c (ρ.set i v) j ov):SlotIs c (ρ.set i .undef) j ov:=fun V h hV=>x V (by
  by_cases hij:i=j
  ·subst hij
   refine absurd ?_ hV
   rw [List.getElem?_set_self (by rw [← List.length_set];exact (List.getElem?_eq_some_iff.mp h).1)] at h
   exact (Option.some.inj h).symm
  ·rw [List.getElem?_set_ne hij] at h ⊢;exact h) hV
theorem Fr.undef (F:Fr c L (ρ.set i v)):Fr c L (ρ.set i .undef) where
 fn:=F.fn
 glob:=F.glob
 blt:=F.blt
 locNew:=F.locNew
 locOut:=F.locOut
 inj:=F.inj
 ns:=F.ns.casesOn fun m n q=>.mk m n fun x j h1 h2=>(q x j h1 h2).undef
 cell x j h1 h2:=(F.cell x j h1 h2).casesOn fun a ov e o n ic r=>.mk a ov e o n ic r.undef
 cellInj:=F.cellInj
 up:=F.up
end
end Mine.Internal
namespace Mine.Internal
open PySem PySem.Calls
section
variable (K:Ctx) (L:Loc)
noncomputable def EOk (e:Expr) (a:Ex):Prop:=
 ∀ (A:Around) (c:Cf K.h₀) (ρ:List V) (Q:AO) (X:AY),ROk K L.up A→Fr c L ρ→a K.C ρ c.σ Q X→wpAny K.M A (eval e L.env) (PV c Q) (PX c X) c.s
noncomputable def LOk (es:List Expr) (as:List Ex):Prop:=
 ∀ (A:Around) (c:Cf K.h₀) (ρ:List V) (Q:List V→AD→Prop) (X:AY) (pos:Pos),ROk K L.up A→Fr c L ρ→evs as K.C ρ c.σ Q X →
  wpAny K.M A (spliced (backTo pos (starEach es L.env))) (PVs c fun vs σ=>vs.length=es.length∧Q vs σ) (PX c X) c.s
noncomputable def BOk (es:List Expr) (as:List Ex):Prop:=
 ∀ (A:Around) (c:Cf K.h₀) (ρ:List V) (Q:AO) (X:AY) (pos:Pos) (op:BoolOp),ROk K L.up A→Fr c L ρ→FV (op==.And) as K.C ρ c.σ Q X→wpAny K.M A (boolOp pos op (evalEach es L.env)) (PV c Q) (PX c X) c.s
noncomputable def COk (ops:List CmpOp) (es:List Expr) (as:List Ex):Prop:=
 ∀ (A:Around) (c:Cf K.h₀) (ρ:List V) (Q:Bool→AD→Prop) (X:AY) (pos:Pos) (V:V) (v:Value),ROk K L.up A→Fr c L ρ→Rel c.s.heap c.φ V v→Ss ops as V K.C ρ c.σ Q X →
  wpAny K.M A (compareChain pos v ops (evalEach es L.env)) (fun x s=>∃ b,x=.bool b∧PB c Q b s) (PX c X) c.s∧wpAny K.M A (testChain pos v ops (evalEach es L.env)) (PB c Q) (PX c X) c.s
noncomputable def TOk (e:Expr) (t:Tx):Prop:=
 ∀ (A:Around) (c:Cf K.h₀) (ρ:List V) (Q:Bool→AD→Prop) (X:AY),ROk K L.up A→Fr c L ρ→t K.C ρ c.σ Q X→wpAny K.M A (isTrue e L.env (eval e L.env)) (PB c Q) (PX c X) c.s
noncomputable def AOk (es:List Expr) (ts:List Tx):Prop:=
 ∀ (A:Around) (c:Cf K.h₀) (ρ:List V) (Q:Bool→AD→Prop) (X:AY),ROk K L.up A→Fr c L ρ →
  (Dn ts K.C ρ c.σ Q X→wpAny K.M A (allTrue .And es L.env) (PB c Q) (PX c X) c.s)∧(tOr ts K.C ρ c.σ Q X→wpAny K.M A (allTrue .Or es L.env) (PB c Q) (PX c X) c.s)
end
noncomputable def Aw (e:Expr):Prop:=∀ rest env,starEach (e::rest) env=(false,eval e env)::starEach rest env
noncomputable def GI (e:Expr):Prop:=∀ o i,subscripted e false o i=operate [o,i] (getItem o i)
section
variable {K:Ctx} {L:Loc}
theorem Rg {k pos}:EOk K L (.Constant .none k pos) A1:=fun _ _ _ _ _ _ _ q=>wpAny_Constant_none (PV.same Ch q)
theorem RG {b k pos}:EOk K L (.Constant (.bool b) k pos) (A3 b):=fun _ _ _ _ _ _ _ q=>wpAny_Constant_bool (PV.same BX q)
theorem TZ {i k pos}:EOk K L (.Constant (.int i) k pos) (AB i):=fun _ _ _ _ _ _ _ q=>wpAny_Constant_int (PV.plain BB q)
theorem LR {x k pos}:EOk K L (.Constant (.str x) k pos) (Ad x):=fun _ _ _ _ _ _ _ q=>wpAny_Constant_str (PV.plain Bh q)
noncomputable def GQ (sc:Scope) (x:Str):Bool:=decide (sc.names.lookup x=some .local)||(decide (sc.names.lookup x=some .cell)||decide (sc.names.lookup x=some .free))
theorem Kx (h:GQ sc x=true):sc.names.lookup x=some .local∨sc.names.lookup x=some .cell∨sc.names.lookup x=some .free:=
 ((Bool.or_eq_true _ _).mp h).imp of_decide_eq_true fun h=>((Bool.or_eq_true _ _).mp h).imp of_decide_eq_true of_decide_eq_true
noncomputable def CS (x:Str):Bool:=!(x==("__debug__":Str))&&!(x==("__classdict__":Str))
theorem C4 (h:CS x=true):(x==("__debug__":Str))=false:=(Bool.not_eq_true' _).mp (Bool.and_eq_true_iff.mp h).1
theorem QO (h:CS x=true):(x==("__classdict__":Str))=false:=(Bool.not_eq_true' _).mp (Bool.and_eq_true_iff.mp h).2
theorem UC {pos} (hx:L.vs.lookup x=some i) (hk:GQ L.env.scope x=true) (hn:CS x=true):EOk K L (.Name x pos) (AA i):=fun _ c ρ _ _ _ F q=>by
 obtain ⟨V,e,hV,q⟩:=P3 q
 refine wpAny_Name ?_ (C4 hn)
 refine Or.elim (Kx hk) (fun hl=>?_) (fun hl=>?_)
 ·cases F.ns with
  | mk m n r=>refine AF (r x i hx hl V e hV) fun _ hv rl=>?_;exact wpAny_loadName_local F.fn hl n hv (PV.same rl q)
 ·cases F.cell x i hx hl with
  | mk a ov e1 _ _ ic r=>
   refine AF (r V e hV) fun v ze rl=>?_;subst ze
   exact hl.elim (fun hl=>wpAny_loadName_cell F.fn hl e1 ic (PV.same rl q)) fun hl=>wpAny_loadName_free F.fn hl e1 ic (PV.same rl q) (QO hn)
theorem CJ (h:n≤Ab):n≤sizeLine:=Nat.le_trans h (by decide)
theorem CL (h:n≤CC):n≤sizeLine:=Nat.le_trans h (by decide)
theorem JN (h:n≤CC):(n:Int)<2 ^ 63:=Int.lt_of_le_of_lt (Int.ofNat_le.mpr h) (by decide)
theorem DC (h:n≤Ab):n≤CC:=Nat.le_trans h (by decide)
theorem RelL.size {h:Heap} {φ:List Addr} {Vs:List V} {items:Array Value} (r:RelL h φ Vs items.toList):items.size=Vs.length:=Array.length_toList.symm.trans r.length.symm
theorem FR {A:Around} {c:Cf K.h₀} {V:V} {v:Value} {T:Bool→Prop} {R:Bool→Shared→Prop} {E:Value→Shared→Prop} (r:Rel c.s.heap c.φ V v) (ht:PW c.σ T V) (h:∀ b tk,T b→R b { c.s with toks:=tk }):wpAny K.M A (truthy v) R E c.s:=by
 replace ht:=S4 ht
 cases ht with
 | none q=>cases r;exact fun Γ p hΓ=>h _ c.s.toks q
 | bool q=>cases r;exact wpAny_truthy_bool (h _ c.s.toks q)
 | int q=>refine AX r fun t ze1=>?_;subst ze1;exact PyProof.Rows.truthy_int (h _ c.s.toks q)
theorem Nv (h:Ay i=true):i.natAbs<2 ^ 64:=by
 unfold Ay at h
 have h1:=of_decide_eq_true (Bool.and_eq_true_iff.mp h).1
 have h2:=of_decide_eq_true (Bool.and_eq_true_iff.mp h).2
 exact Int.ofNat_lt.mp ((Int.natAbs_eq i).elim (fun e=>Int.lt_trans (e▸h2) (by decide)) fun e=>Int.lt_of_neg_lt_neg (Int.lt_of_lt_of_le (by decide) (e▸h1)))
theorem C6 (h:Ay i=true):i.natAbs.log2<64:=by
 by_cases h0:i.natAbs=0
 ·rw [h0];decide
 ·exact (Nat.log2_lt h0).mpr (Nv h)
theorem Gp (h:Ay i=true):Builtin.Int.intBits i≤64:=by
 unfold Builtin.Int.intBits
 split
 ·exact Nat.zero_le _
 ·exact C6 h
theorem RelP.at:∀ {us:List (Str × Value)},RelP h φ kvs us→(∀ V,kvs.lookup k=some V→∃ v,valueAt us k=some v∧Rel h φ V v)∧(valueAt us k).isSome=kvs.any (fun p=>p.1=k):=by
 induction kvs with
 | nil=>intro us r;cases us with
  | nil=>exact ⟨fun V e=>absurd e.symm (Option.some_ne_none V),rfl⟩
  | cons _ _=>exact absurd r.1 (List.cons_ne_nil _ _)
 | cons p kvs ih=>intro us r;cases us with
  | nil=>exact absurd r.1.symm (List.cons_ne_nil _ _)
  | cons u us=>
   have e:=List.cons.inj r.1
   have ih:=ih (us:=us) ⟨e.2,r.2.2⟩
   by_cases hk:u.1=k
   ·have hp:p.1=k:=e.1.symm.trans hk
    have hv:valueAt (u::us) k=some u.2:=by unfold valueAt;rw [List.find?_cons,decide_eq_true hk];rfl
    refine ⟨fun W hW=>⟨u.2,hv,?_⟩,by rw [hv,List.any_cons,decide_eq_true hp];rfl⟩
    rw [List.lookup_cons,hp,beq_self_eq_true] at hW;exact Option.some.inj hW▸r.2.1
   ·have hp:p.1≠k:=fun z=>hk (e.1.trans z)
    have hv:valueAt (u::us) k=valueAt us k:=by unfold valueAt;rw [List.find?_cons,decide_eq_false hk]
    rw [hv]
    refine ⟨fun W hW=>ih.1 W ?_,?_⟩
    ·rw [List.lookup_cons,beq_eq_false_iff_ne.mpr (Ne.symm hp)] at hW;exact hW
    ·rw [List.any_cons,decide_eq_false hp,Bool.false_or];exact ih.2
theorem Cf.dict {c:Cf K.h₀} {n ep:Nat} {kvs:List (Str × V)} {v:Value} (e:c.σ[n]?=some (.dict ep kvs)) (r:Rel c.s.heap c.φ (.ref n) v) :
  ∃ a us,v=.ref a∧c.φ[n]?=some a∧c.s.heap.DictAt (strKind K.h₀.prog K.h₀.w) a us ep∧RelP c.s.heap c.φ kvs us∧kvs.length≤CC∧(a==sysModules)=false:=
 let ⟨_,ev,ea⟩:=r
 let ⟨a',ea',us,q⟩:=c.sim.obj n _ e
 ⟨a',us,ev.trans (congrArg Value.ref (Option.some.inj (ea.symm.trans ea'))),ea',q⟩
theorem Cf.dictE {c:Cf K.h₀} {n ep:Nat} {kvs:List (Str × V)} {v:Value} {P:Value→Prop} (e:c.σ[n]?=some (.dict ep kvs)) (r:Rel c.s.heap c.φ (.ref n) v)
  (k:∀ a us,c.φ[n]?=some a→c.s.heap.DictAt (strKind K.h₀.prog K.h₀.w) a us ep→RelP c.s.heap c.φ kvs us→kvs.length≤CC→(a==sysModules)=false→P (.ref a)):P v:=
 BQ (Cf.dict e r) fun a us ze h1 h2 h3 h4 h5=>ze▸k a us h1 h2 h3 h4 h5
noncomputable def cOp:BOp→Operator
 | .add=>.Add | .sub=>.Sub | .mul=>.Mult | .floordiv=>.FloorDiv | .mod=>.Mod
theorem GN {α:Type} {a b:Array α}:(a.toList++b.toList).toArray=a++b:=by simp
theorem Ko {h:Heap} {φ:List Addr} {Vs:List V} {items:Array Value} (r:RelL h φ Vs items.toList) (e:items.isEmpty=true):Vs=[]:=List.length_eq_zero_iff.mp (r.size.symm.trans (of_decide_eq_true e))
theorem TU {V W:Mine.Internal.V} (ra:Rel c.s.heap c.φ V a) (rb:Rel c.s.heap c.φ W b) (q:TY c.σ Q o W V):wpAny K.M A (binaryOp (cOp o) a b) (PV c Q) E c.s:=by
 replace q:=S8 q
 cases q with
 | add q=>refine AX ra fun t ze1=>?_;subst ze1;refine AX rb fun u ze1=>?_;subst ze1;exact PySem.P.add_int (PV.plain BB q)
 | addS hz q=>refine AX ra fun t ze1=>?_;subst ze1;refine AX rb fun u ze1=>?_;subst ze1;exact PyProof.Rows.add_str (fun _ _=>PV.plain Bh q) (CJ hz)
 | @addT xs ys h1 h2 hz q=>
  refine Af ra fun t it n ze1 g rl=>?_;subst ze1
  refine Af rb fun u iu k ze1 gu rlu=>?_;subst ze1
  refine PySem.P.add_tuple g gu (fun h=>h1 (Ko rl h)) (fun h=>h2 (Ko rlu h)) ?_ (by rw [rl.size,rlu.size];exact CJ hz)
  rw [← GN]
  exact PV.pushT (rl.append rlu) q
 | addL e1 e2 hz q=>
  apply Cf.listE e1 ra;intro a ia k _ hA rla _
  apply Cf.listE e2 rb;intro b ib k' _ hB rlb _
  refine PySem.P.add_list hA hB ?_ (by rw [rla.size,rlb.size];exact CJ hz)
  rw [← GN]
  exact PV.pushL (rla.append rlb) (DC (List.length_append▸hz)) q
 | sub q=>refine AX ra fun t ze1=>?_;subst ze1;refine AX rb fun u ze1=>?_;subst ze1;exact PyProof.Rows.sub_int' (PV.plain BB q)
 | mul hs q=>refine AX ra fun t ze1=>?_;subst ze1;refine AX rb fun u ze1=>?_;subst ze1;exact PySem.P.mul_int (PV.plain BB q) (hs.elim (fun h=>IntMulOk.of_left (Gp h)) fun h=>IntMulOk.of_right (Gp h))
 | div h0 hs q=>refine AX ra fun t ze1=>?_;subst ze1;refine AX rb fun u ze1=>?_;subst ze1;exact PyProof.Rows.floordiv_int h0 (PV.plain BB q) (Or.inl (PyProof.noPylong_of_log2 (Nat.lt_of_lt_of_le (C6 hs) (by decide))))
 | mod h0 q=>refine AX ra fun t ze1=>?_;subst ze1;refine AX rb fun u ze1=>?_;subst ze1;exact PyProof.Rows.mod_int' h0 (PV.plain BB q)
theorem UB {pos} (hl:EOk K L l a) (hr:EOk K L r b):EOk K L (.BinOp l (cOp o) r pos) (AL o a b):=fun A c ρ _ X R F q=>
 wpAny_BinOp (seq (.refl c) (hl A c ρ _ X R F q) fun c₁ _ _ s₁ _ r₁ q₁=>seq s₁ (hr A c₁ ρ _ X R (F.step s₁) q₁) fun _ _ _ s₂ t₂ r₂ q₂=>fin s₂ (TU (r₁.step t₂) r₂ q₂))
theorem TW {pos} (h:EOk K L x a):EOk K L (.UnaryOp .USub x pos) (J6 a):=fun A c ρ _ X R F q=>
 wpAny_UnaryOp (seq (.refl c) (h A c ρ _ X R F q) fun c₁ _ _ s₁ _ r₁ q₁=>fin s₁ (by obtain ⟨_,e,q₁⟩:=Pj q₁;subst e;refine AX r₁ fun t ze1=>?_;subst ze1;exact PySem.P.neg_int (PV.plain BB q₁)))
theorem TP {x:Expr} {a:Ex} {pos} (h:EOk K L x a):EOk K L (.UnaryOp .Not x pos) (TB a):=fun A c ρ _ X R F q=>
 wpAny_UnaryOp (seq (.refl c) (h A c ρ _ X R F q) fun c₁ _ _ s₁ _ r₁ q₁=>not_value (FR r₁ q₁ fun b tk q=>.mk (c₁.toks tk) _ (s₁.trans (Cf.keep_stp ⟨rfl,rfl⟩)) BX q))
theorem E1:LOk K L [] []:=fun _ c _ _ _ _ _ _ q=>wpAny_items_nil (.mk c [] (.refl c) trivial ⟨rfl,q⟩)
theorem Di (hn:Aw e) (he:EOk K L e a) (hes:LOk K L es as):LOk K L (e::es) (a::as):=fun A c ρ _ X pos R F q=>
 wpAny_items_cons (seq (.refl c) (he A c ρ _ X R F q) fun c₁ V _ s₁ _ r₁ q₁=>Jk s₁ (hes A c₁ ρ _ X pos R (F.step s₁) q₁) fun c₂ Vs _ s₂ t₂ r₂ q₂=>.mk c₂ (V::Vs) s₂ ⟨r₁.step t₂,r₂⟩ ⟨congrArg (·+1) q₂.1,q₂.2⟩) (hn es L.env)
theorem Uf {k pos} (h:LOk K L es as) (hz:es.length≤1000):EOk K L (.Tuple es k pos) (Ak as):=fun A c ρ _ X R F q=>
 wpAny_Tuple (Jk (.refl c) (h A c ρ _ X pos R F q) fun c₁ _ _ s₁ _ r₁ q₁=>⟨CL (r₁.length▸q₁.1▸Nat.le_trans hz (by decide)),(PV.pushT r₁ q₁.2).lift s₁⟩)
theorem SJ {pos} (h:LOk K L es as) (hz:es.length≤1000):EOk K L (.List es pos) (Ap as):=fun A c ρ _ X R F q=>
 wpAny_List (Jk (.refl c) (h A c ρ _ X pos R F q) fun c₁ _ _ s₁ _ r₁ q₁=>⟨CL (r₁.length▸q₁.1▸Nat.le_trans hz (by decide)),(PV.pushL r₁ (q₁.1▸Nat.le_trans hz (by decide)) q₁.2).lift s₁⟩)
theorem RL (h:EOk K L e a):BOk K L [e] [a]:=fun A c ρ Q X _ _ R F q=>h A c ρ Q X R F q
set_option backward.match.sparseCases true in
theorem PK {e e':Expr} {a a':Ex} {es:List Expr} {as:List Ex} (h:EOk K L e a) (hs:BOk K L (e'::es) (a'::as)):BOk K L (e::e'::es) (a::a'::as):=fun A c ρ Q X pos op R F q=>by
 show wpAny K.M A (do
  let v ← eval e L.env
  standAt pos
  let t ← holding [v] (truthy v)
  match op,t with
  | .And,false | .Or,true=>pure v
  | _,_=>boolOp pos op (evalEach (e'::es) L.env)) _ _ c.s
 refine wpAny_bind (seq (.refl c) (h A c ρ _ X R F q) fun c₁ V v s₁ _ r₁ q₁=>wpAny_bind (wpAny_standAt (wpAny_bind (wpAny_holding (FR r₁ q₁ fun b tk q₂=>?_)))))
 have s₂:Stp AS c (c₁.toks tk):=s₁.trans (Cf.keep_stp ⟨rfl,rfl⟩)
 have go:∀ b',b=b'→(op==.And)=b'→wpAny K.M A (boolOp pos op (evalEach (e'::es) L.env)) (PV c Q) (PX c X) (c₁.toks tk).s:=fun b' h1 h2=>fin s₂ (hs A (c₁.toks tk) ρ Q X pos op R (F.step s₂) (by have q₂:=Pu q₂;rw [if_pos (h1.trans h2.symm)] at q₂;exact q₂))
 have no:b≠(op==.And)→PV c Q v (c₁.toks tk).s:=fun hb=>.mk (c₁.toks tk) V s₂ r₁ (by have q₂:=Pu q₂;rw [if_neg hb] at q₂;exact q₂)
 cases op <;> cases b
 ·exact wpAny_pure (no nofun)
 ·exact go true rfl rfl
 ·exact go false rfl rfl
 ·exact wpAny_pure (no nofun)
theorem UP {pos} (h:BOk K L es as):EOk K L (.BoolOp .And es pos) (FV true as):=fun A c ρ Q X R F q=>h A c ρ Q X pos .And R F q
theorem Vh {pos} (h:BOk K L es as):EOk K L (.BoolOp .Or es pos) (FV false as):=fun A c ρ Q X R F q=>h A c ρ Q X pos .Or R F q
theorem N2 {α β:Type} {f:α→Option β} {a:α} {as:List α} {bs:List β} (h:F5 f (a::as)=some bs):∃ b bs',f a=some b∧F5 f as=some bs'∧bs=b::bs':=
 by refine AF (Option.bind_eq_some_iff.mp h) fun b h1 h2=>?_;exact AF (Option.map_eq_some_iff.mp h2) fun bs' h3 h4=>⟨b,bs',h1,h3,h4.symm⟩
inductive DataIs (h:Heap) (v:Value) (n:Nat) (d:PyData):Prop
 | mk (as:List Addr):Reads h v d as→d.depth≤n→DataIs h v n d
theorem Ge (hf:∀ V v dt,f V=some dt→Rel h φ V v→DataIs h v n dt)
  (Vs:List V):∀ (vs:List Value) (ds:List PyData),F5 f Vs=some ds→RelL h φ Vs vs→(∃ as,ReadsAll h vs ds as)∧PyData.depthAll ds≤n:=by
 induction Vs with
 | nil=>intro vs ds e r;cases vs with
  | nil=>exact Option.some.inj e▸⟨⟨_,.nil⟩,Nat.zero_le _⟩
  | cons _ _=>exact r.elim
 | cons V Vs ih=>intro vs ds e r;cases vs with
  | nil=>exact r.elim
  | cons v vs=>
   refine BC (N2 e) fun b bs e1 e2 e3=>?_
   cases hf V v b e1 r.1 with
   | mk _ h1 d1=>
    have h2:=ih vs bs e2 r.2
    refine AX h2.1 fun _ h3=>?_
    exact e3▸⟨⟨_,.cons h1 h3⟩,Nat.max_le.mpr ⟨d1,h2.2⟩⟩
theorem NZ (e:QL f o=some d):∃ vs ds,o=some (.list vs)∧F5 f vs=some ds∧PyData.list ds=d:=by
 cases o with
 | none=>exact absurd e.symm (Option.some_ne_none d)
 | some o=>cases o with
  | list vs=>refine AF (Option.map_eq_some_iff.mp e) fun ds e1 e2=>?_;exact ⟨vs,ds,rfl,e1,e2⟩
  | _=>exact absurd e.symm (Option.some_ne_none d)
theorem Cd {h₀:Bs} {c:Cf h₀} (n:Nat):∀ (V:V) (v:Value) (dt:PyData),toD c.σ n V=some dt→Rel c.s.heap c.φ V v→DataIs c.s.heap v n dt:=by
 induction n with
 | zero=>exact fun _ _ dt e _=>absurd e.symm (Option.some_ne_none dt)
 | succ n ih=>
  intro V v dt e r
  cases V with
  | undef=>exact r.elim
  | none=>exact Option.some.inj e▸r▸.mk _ .none (Nat.zero_le _)
  | bool _=>exact Option.some.inj e▸r▸.mk _ (.bool _) (Nat.zero_le _)
  | int _=>refine AX r fun _ r=>?_;exact Option.some.inj e▸r▸.mk _ (.int _ _) (Nat.zero_le _)
  | str _=>refine AX r fun _ r=>?_;exact Option.some.inj e▸r▸.mk _ (.str _ _) (Nat.zero_le _)
  | tup vs=>
   refine Af r fun _ _ _ r g rl=>?_
   refine AF (Option.map_eq_some_iff.mp e) fun ds e1 e2=>?_
   have h:=Ge ih vs _ ds e1 rl
   refine AX h.1 fun _ ra=>?_
   exact e2▸r▸.mk _ (.tuple g rfl rfl ra) (Nat.succ_le_succ h.2)
  | ref k=>
   refine BC (NZ e) fun vs ds ek e1 e2=>?_
   refine A6 (Cf.list ek r) fun _ _ _ ev _ g rl _=>?_
   have h:=Ge ih vs _ ds e1 rl
   refine AX h.1 fun _ ra=>?_
   exact e2▸ev▸.mk _ (.list g rfl rfl ra) (Nat.succ_le_succ h.2)
theorem ROk.u100 (R:ROk K up A):A.units+100<9900:=Nat.lt_of_lt_of_le (Nat.add_lt_add_right (Nat.lt_of_le_of_lt (Nat.le_add_right _ _) R.units) 100) (by decide)
theorem MO (R:ROk K up A) (h:n≤6):A.units+min n m<cLine:=
 Nat.lt_of_le_of_lt (Nat.add_le_add_left (Nat.le_trans (Nat.min_le_left _ _) h) _) (Nat.lt_of_lt_of_le (Nat.lt_of_le_of_lt (Nat.add_le_add_left (by decide) _) R.u100) (by decide))
theorem Ox (R:ROk K up A) (h:m≤6):A.units+1+min n m<cLine:=
 Nat.lt_of_le_of_lt (Nat.le_trans (Nat.add_le_add_left (Nat.le_trans (Nat.min_le_right _ _) h) _) (Nat.le_of_eq (Nat.add_assoc _ 1 6))) (Nat.lt_of_lt_of_le (Nat.lt_of_le_of_lt (Nat.add_le_add_left (by decide) _) R.u100) (by decide))
theorem Kd:∀ {vs:List Value},RelL h φ (xs.map .int) vs→PyProof.Rows.IntsAre vs xs:=by
 induction xs with
 | nil=>intro vs r;cases vs with
  | nil=>exact .nil
  | cons _ _=>exact r.elim
 | cons x xs ih=>intro vs r;cases vs with
  | nil=>exact r.elim
  | cons v vs=>refine AX r.1 fun _ e=>?_;exact e▸.cons _ _ (ih r.2)
theorem HH (h:x=y):Aa (x::a) (y::b)=Aa a b:=if_pos h
theorem Kk (h:x≠y):Aa (x::a) (y::b)=decide (x<y):=if_neg h
theorem RP {β:Type} {M:Model} {A:Around} {E:Value→Shared→Prop} {s:Shared} {body:Value × Value→β→Sem (ForInStep β)} {r₀:β} {R:β→Shared→Prop} {yes:Bool→β}
  (hb:∀ (p q:Int) (t u:Tok) (R':ForInStep β→Shared→Prop),(p=q→R' (.yield r₀) s)→(p≠q→R' (.done (yes (decide (p<q)))) s)→wpAny M A (body (.int p t,.int q u) r₀) R' E s)
  {a b:List Int} {vs us:List Value} (ha:PyProof.Rows.IntsAre vs a) (hb':PyProof.Rows.IntsAre us b) (h:Aa a b=decide (vs.length<us.length)→R r₀ s) (hy:R (yes (Aa a b)) s):wpAny M A (forIn (vs.zip us) r₀ body) R E s:=by
 induction ha generalizing b us with
 | nil=>cases hb' with
  | nil=>exact wpAny_pure (h rfl)
  | cons _ _ _=>exact wpAny_pure (h (decide_eq_true (Nat.zero_lt_succ _)).symm)
 | cons p t ha ih=>cases hb' with
  | nil=>exact wpAny_pure (h rfl)
  | cons q u hb'=>
   rw [List.zip_cons_cons,List.forIn_cons]
   refine wpAny_bind (hb p q t u _ (fun e=>?_) fun e=>?_)
   ·exact ih hb' (fun e'=>h ((HH e).trans (e'.trans (decide_eq_decide.mpr Nat.succ_lt_succ_iff.symm)))) (HH e▸hy)
   ·exact wpAny_pure (Kk e▸hy)
theorem UR (gx:IsT s.heap a ix n) (gy:IsT s.heap c iy k) (rx:PyProof.Rows.IntsAre ix.toList xs) (ry:PyProof.Rows.IntsAre iy.toList ys) (h:P (.done (.ret (.bool (Aa xs ys)))) s):wpAny K.M A (Builtin.«tuple.__lt__» ⟨[.ref a,.ref c],[]⟩) P E s:=by
 show wpAny _ _ (isInstance (.ref c) (.type "tuple") >>= _) _ _ s
 refine wpAny_bind (wpAny_isInstance (T:="tuple") ⟨_,gy,rfl⟩ AutoSeq1.sub_tuple_tuple (wpAny_bind (wpAny_tupleItemsOf gx rfl (wpAny_bind (wpAny_tupleItemsOf gy rfl (wpAny_bind ?_))))))
 refine RP (yes:=fun b=>(some (.done (.ret (.bool b))),())) (fun p q t u R' h1 h2=>wpAny_bind (wpAny_eqBool_int ?_)) rx ry (fun e=>wpAny_pure (e▸h :)) (wpAny_pure h)
 by_cases e:p=q
 ·rw [beq_iff_eq.mpr e];exact wpAny_pure (h1 e)
 ·rw [beq_eq_false_iff_ne.mpr e]
  exact wpAny_bind (wpAny_rule (wpAny_bind (PyProof.Rows.lt_int (wpAny_bind (wpAny_pure (wpAny_pure (h2 e)))))))
theorem IX {up:List Env} {A:Around} {c:Cf K.h₀} {op:CmpOp} {V W:Mine.Internal.V} {v u:Value} {T:Bool→Prop} {P:Value→Shared→Prop} {E:Value→Shared→Prop} (R:ROk K up A) (r1:Rel c.s.heap c.φ V v) (r2:Rel c.s.heap c.φ W u) (q:N8 c.σ T op V W) (h:∀ b tk,T b→P (.bool b) { c.s with toks:=tk }) :
  wpAny K.M A (compareOp op v u) P E c.s:=by
 have h₀:∀ b,T b→P (.bool b) c.s:=fun b q=>h b c.s.toks q
 replace q:=Ug q
 cases q with
 | eq e1 e2 c1 c2 q=>exact (Cd 6 _ _ _ e1 r1).casesOn fun _ ra da=>(Cd 6 _ _ _ e2 r2).casesOn fun _ rb _=>SeqAt.compareEq_reads ra rb c1 c2 (MO R da) (h₀ _ q)
 | ne e1 e2 c1 c2 q=>exact (Cd 6 _ _ _ e1 r1).casesOn fun _ ra da=>(Cd 6 _ _ _ e2 r2).casesOn fun _ rb _=>SeqAt.compareNe_reads ra rb c1 c2 (MO R da) (h₀ _ q)
 | ninT e1 e2 c1 c2 q=>exact (Cd 6 _ _ _ e1 r1).casesOn fun _ ra da=>(Cd 6 _ _ _ e2 r2).casesOn fun _ rb _=>SeqAt.notIn_tuple_reads rb ra c2 c1 (Ox R da) (h₀ _ q)
 | lt q=>refine AX r1 fun t ze1=>?_;subst ze1;refine AX r2 fun t' ze1=>?_;subst ze1;exact PyProof.Rows.lt_int (h₀ _ q)
 | le q=>refine AX r1 fun t ze1=>?_;subst ze1;refine AX r2 fun t' ze1=>?_;subst ze1;exact PySem.P.le_int (h₀ _ q)
 | gt q=>refine AX r1 fun t ze1=>?_;subst ze1;refine AX r2 fun t' ze1=>?_;subst ze1;exact PyProof.Rows.gt_int (h₀ _ q)
 | ge q=>refine AX r1 fun t ze1=>?_;subst ze1;refine AX r2 fun t' ze1=>?_;subst ze1;exact PySem.P.ge_int (h₀ _ q)
 | ltT q=>
  refine Af r1 fun a ix n ze1 gx rx=>?_;subst ze1
  refine Af r2 fun b iy k ze1 gy ry=>?_;subst ze1
  exact wpAny_richCompare_same_room (op:=.Lt) (T:="tuple") ⟨_,gx,rfl⟩ ⟨_,gy,rfl⟩ F.slot_tuple_lt (wpAny_call_entry F.slot_tuple_lt ⟨_,gx,rfl⟩ F.entry_tuple_lt (UR gx gy (Kd rx) (Kd ry) ⟨_,rfl,by simp,h₀ _ q⟩) (F.args_tuple_lt_2 _ _))
   (Nat.lt_of_lt_of_le (Nat.lt_of_le_of_lt (Nat.le_add_right _ 100) R.u100) (by decide))
 | inD e q=>
  apply Cf.dictE e r2;intro a us _ D P _ hs
  apply DR r1;intro t
  exact wpAny_in_of (strKind_is _ _ _ t) hs D.dictOf.mapOf (by rw [P.at.2];exact h _ _ q)
 | ninD e q=>
  apply Cf.dictE e r2;intro a us _ D P _ hs
  apply DR r1;intro t
  exact wpAny_notIn_of (strKind_is _ _ _ t) hs D.dictOf.mapOf (by rw [P.at.2];exact h _ _ q)
 | inS q=>
  apply DR r1;intro t
  apply DR r2;intro u
  exact PySem.P.in_str (by rw [show EW _=(⟨#[_]⟩:Str) from rfl,PySem.StrLaws.found_one];exact h₀ _ q)
 | is q=>cases r2;exact is_none (rel_isNone r1▸h₀ _ q)
 | isnot q=>cases r2;exact isNot_none (rel_isNone r1▸h₀ _ q)
where
 rel_isNone {h:Heap} {φ:List Addr} {V:Mine.Internal.V} {v:Value} (r:Rel h φ V v):isNone V=(v==.none):=by
  cases V with
  | undef=>exact r.elim
  | none=>exact congrArg (·==Value.none) r.symm
  | bool _=>exact congrArg (·==Value.none) r.symm
  | int _=>exact r.elim fun _ r=>congrArg (·==Value.none) r.symm
  | str _=>exact r.elim fun _ r=>congrArg (·==Value.none) r.symm
  | tup _=>exact EK r fun _ _ _ r _=>congrArg (·==Value.none) r.symm
  | ref _=>exact AF r fun _ r _=>congrArg (·==Value.none) r.symm
theorem Rw {op:CmpOp} {e:Expr} {a:Ex} (h:EOk K L e a):COk K L [op] [e] [a]:=fun A c ρ Q X pos V v R F r q=>by
 constructor
 ·show wpAny K.M A (do
   let rv ← holding [v] (eval e L.env)
   standAt pos
   operate [v,rv] (compareOp op v rv)) _ _ c.s
  exact wpAny_bind (wpAny_holding (seq (.refl c) (h A c ρ _ X R F q) fun c₁ _ _ s₁ _ r₁ q₁=>wpAny_bind (wpAny_standAt (PyProof.Rows.wpAny_operate' (IX R (r.step s₁) r₁ q₁ fun b tk q=>⟨b,rfl,.mk (c₁.toks tk) (s₁.trans (Cf.keep_stp ⟨rfl,rfl⟩)) q⟩)))))
 ·show wpAny K.M A (do
   let rv ← holding [v] (eval e L.env)
   standAt pos
   let x ← operate [v,rv] (compareOp op v rv)
   holding [x] (truthy x)) _ _ c.s
  exact wpAny_bind (wpAny_holding (seq (.refl c) (h A c ρ _ X R F q) fun c₁ _ _ s₁ _ r₁ q₁=>wpAny_bind (wpAny_standAt (wpAny_bind (PyProof.Rows.wpAny_operate' (IX R (r.step s₁) r₁ q₁ fun b tk q=>wpAny_holding (wpAny_truthy_bool (.mk (c₁.toks tk) (s₁.trans (Cf.keep_stp ⟨rfl,rfl⟩)) q))))))))
theorem PA {op op':CmpOp} {ops:List CmpOp} {e e':Expr} {es:List Expr} {a a':Ex} {as:List Ex} (h:EOk K L e a) (hs:COk K L (op'::ops) (e'::es) (a'::as)):COk K L (op::op'::ops) (e::e'::es) (a::a'::as):=fun A c ρ Q X pos V v R F r q=>by
 constructor
 ·show wpAny K.M A (do
   let rv ← holding [v] (eval e L.env)
   standAt pos
   let x ← holding [v,rv] (compareOp op v rv)
   release [v,rv] [x]
   if ← holding [x,rv] (truthy x) then compareChain pos rv (op'::ops) (evalEach (e'::es) L.env) else pure x) _ _ c.s
  refine wpAny_bind (wpAny_holding (seq (.refl c) (h A c ρ _ X R F q) fun c₁ W u s₁ _ r₁ q₁=>?_))
  refine wpAny_bind (wpAny_standAt (wpAny_bind (wpAny_holding (IX R (r.step s₁) r₁ q₁ fun b tk q=>?_))))
  have s₂:Stp AS c (c₁.toks tk):=s₁.trans (Cf.keep_stp ⟨rfl,rfl⟩)
  refine wpAny_bind (PyProof.Rows.wpAny_release' (wpAny_bind (wpAny_holding (wpAny_truthy_bool ?_))))
  cases b with
  | false=>exact wpAny_pure ⟨false,rfl,.mk (c₁.toks tk) s₂ q⟩
  | true=>exact wpAny_mono (hs A (c₁.toks tk) ρ Q X pos W u R (F.step s₂) r₁ q).1 (fun _ _ ⟨b,e,z⟩=>⟨b,e,z.lift s₂⟩) fun _ _ z=>z.lift s₂
 ·show wpAny K.M A (do
   let rv ← holding [v] (eval e L.env)
   standAt pos
   let x ← holding [v,rv] (compareOp op v rv)
   release [v,rv] [x]
   if ← holding [x,rv] (truthy x) then testChain pos rv (op'::ops) (evalEach (e'::es) L.env) else pure false) _ _ c.s
  refine wpAny_bind (wpAny_holding (seq (.refl c) (h A c ρ _ X R F q) fun c₁ W u s₁ _ r₁ q₁=>?_))
  refine wpAny_bind (wpAny_standAt (wpAny_bind (wpAny_holding (IX R (r.step s₁) r₁ q₁ fun b tk q=>?_))))
  have s₂:Stp AS c (c₁.toks tk):=s₁.trans (Cf.keep_stp ⟨rfl,rfl⟩)
  refine wpAny_bind (PyProof.Rows.wpAny_release' (wpAny_bind (wpAny_holding (wpAny_truthy_bool ?_))))
  cases b with
  | false=>exact wpAny_pure (.mk (c₁.toks tk) s₂ q)
  | true=>exact Of s₂ (hs A (c₁.toks tk) ρ Q X pos W u R (F.step s₂) r₁ q).2
theorem Tl {pos} (hm:lastMarks ops es=false) (h:EOk K L l a) (hs:COk K L ops es as):EOk K L (.Compare l ops es pos) (xOf (AT a ops as)):=fun A c ρ _ X R F q=>by
 rw [arm_eval_Compare,PyProof.Rows.markedEach_of_false _ _ _ hm]
 exact wpAny_bind (seq (.refl c) (h A c ρ _ X R F q) fun c₁ V v s₁ _ r₁ q₁=>wpAny_mono (hs A c₁ ρ _ X pos V v R (F.step s₁) r₁ q₁).1 (fun _ _ ⟨_,e,z⟩=>z.casesOn fun c₂ s₂ q₂=>e▸.mk c₂ _ (s₁.trans s₂) BX q₂) fun _ _ z=>z.lift s₁)
theorem SB {pos} (hm:lastMarks ops es=false) (h:EOk K L l a) (hs:COk K L ops es as):TOk K L (.Compare l ops es pos) (AT a ops as):=fun A c ρ _ X R F q=>by
 rw [arm_isTrue_Compare,PyProof.Rows.markedEach_of_false _ _ _ hm]
 exact wpAny_bind (seq (.refl c) (h A c ρ _ X R F q) fun c₁ V v s₁ _ r₁ q₁=>Of s₁ (hs A c₁ ρ _ X pos V v R (F.step s₁) r₁ q₁).2)
theorem RQ {pos} (h:TOk K L x t):TOk K L (.UnaryOp .Not x pos) (CD t):=fun A c ρ _ X R F q=>by
 rw [arm_isTrue_UnaryOp]
 exact wpAny_bind (QH (.refl c) (h A c ρ _ X R F q) fun c₁ _ s₁ _ q₁=>wpAny_pure (.mk c₁ s₁ q₁))
theorem Q3 {pos} (h:AOk K L es ts):TOk K L (.BoolOp .And es pos) (Dn ts):=fun A c ρ Q X R F q=>(h A c ρ Q X R F).1 q
theorem UT {pos} (h:AOk K L es ts):TOk K L (.BoolOp .Or es pos) (tOr ts):=fun A c ρ Q X R F q=>(h A c ρ Q X R F).2 q
theorem SP {e:Expr} {a:Ex} (he:∀ env whole,isTrue e env whole=(do let v ← whole;standAt e.pos;holding [v] (truthy v))) (h:EOk K L e a):TOk K L e (BA a):=fun A c ρ _ X R F q=>by
 rw [he]
 exact wpAny_bind (seq (.refl c) (h A c ρ _ X R F q) fun c₁ _ _ s₁ _ r₁ q₁=>wpAny_bind (wpAny_standAt (wpAny_holding (FR r₁ q₁ fun _ tk q=>.mk (c₁.toks tk) (s₁.trans (Cf.keep_stp ⟨rfl,rfl⟩)) q))))
theorem RD:AOk K L [] []:=fun _ c _ _ _ _ _=>⟨fun q=>wpAny_pure (.mk c (.refl c) q),fun q=>wpAny_pure (.mk c (.refl c) q)⟩
theorem OD (h:TOk K L e t) (hs:AOk K L es ts):AOk K L (e::es) (t::ts):=fun A c ρ Q X R F=>by
 rw [arm_allTrue_cons,arm_allTrue_cons]
 refine ⟨fun q=>wpAny_bind (QH (.refl c) (h A c ρ _ X R F q) fun c₁ b s₁ _ q₁=>?_),fun q=>wpAny_bind (QH (.refl c) (h A c ρ _ X R F q) fun c₁ b s₁ _ q₁=>?_)⟩
 ·cases b with
  | false=>exact wpAny_pure (.mk c₁ s₁ q₁)
  | true=>exact Of s₁ ((hs A c₁ ρ Q X R (F.step s₁)).1 q₁)
 ·cases b with
  | true=>exact wpAny_pure (.mk c₁ s₁ q₁)
  | false=>exact Of s₁ ((hs A c₁ ρ Q X R (F.step s₁)).2 q₁)
theorem QK:Idx k n j→seqIndex? k n=some j∧j<n
 | .inl ⟨e,h⟩=>⟨by subst e;unfold seqIndex?;simp only [if_neg (Int.not_lt.mpr (Int.natCast_nonneg j))];rw [if_pos (by simp [h])];rfl,h⟩
 | .inr ⟨e,h⟩=>have hj:j<n:=Int.ofNat_lt.mp (e▸Int.add_lt_of_lt_sub_right (Int.sub_self _▸h))
  ⟨by unfold seqIndex?;simp only [if_pos h];rw [if_pos (by simp;exact ⟨ai3 .le .n0 (.a .v0 .v1) (.p (.a .v0 .v1) .v2 (.l .n0 .v2 .e)) rfl e (Int.natCast_nonneg _),ai2 .lt (.a .v0 .v1) .v1 (.t .v0 .n0 .e) rfl h⟩),e];rfl,hj⟩
theorem Jz (h:Ay i=true):-(2 ^ 63)≤i:=of_decide_eq_true (Bool.and_eq_true_iff.mp h).1
theorem Kl (h:Ay i=true):i<2 ^ 63:=of_decide_eq_true (Bool.and_eq_true_iff.mp h).2
theorem Ts {A:Around} {c:Cf K.h₀} {Q:AO} {E:Value→Shared→Prop} {value slice:Expr} {V W:Mine.Internal.V} {a i:Value} (ra:Rel c.s.heap c.φ V a) (ri:Rel c.s.heap c.φ W i) (hs:GI slice) (q:T4 c.σ Q W V):wpAny K.M A (PyProof.Rows.subscriptTail value slice a i) (PV c Q) E c.s:=by
 replace q:=TH q
 cases q with
 | tup hk hi e q=>
  refine Af ra fun t items n ze1 g rl=>?_;subst ze1
  apply DR ri;intro u
  refine AF (rl.get e) fun y ey ry=>?_
  exact PyProof.Rows.item_tupleT (l:=items.toList) ⟨_,g,rfl,n,rfl⟩ (Jz hk) (Kl hk) (rl.length▸(QK hi).1) ey (PV.same ry q) (hs _ _)
 | list em hi e q=>
  apply Cf.listE em ra;intro l items n _ g rl z
  apply DR ri;intro u
  refine AF (rl.get e) fun y ey ry=>?_
  refine PyProof.Rows.tail_any (T:="list") ⟨_,g,rfl⟩ slot_list_getitem.lookup ?_ (hs _ _)
  rw [Array.getElem?_toList] at ey
  rcases hi with ⟨rfl,hj⟩ | ⟨hj,hk⟩
  ·exact wpAny_getItem_list g.isList (Int.natCast_nonneg _) (Int.ofNat_lt.mpr (Nat.lt_of_lt_of_le hj (Nat.le_trans z (by decide)))) ey (PV.same ry q)
  ·rw [← rl.size] at hj
   have z':items.size≤16000000:=rl.size▸z
   have hk':=ai3 .le (.g .v0) .v1 (.p (.a .v1 .v0) .v2 (.l .n0 .v2 .e)) rfl hj (Int.natCast_nonneg _)
   exact wpAny_getItem_list_neg g.isList hk hk' (Int.le_trans (Int.le_trans (by decide) (Int.neg_le_neg (Int.ofNat_le.mpr z'))) hk') (hj▸ey) (PV.same ry q)
 | str hk hi e q=>
  apply DR ra;intro t
  apply DR ri;intro u
  refine PyProof.Rows.tail_any (T:="str") (typeIs_str _ _ _) F.slot_str_getitem.lookup ?_ (hs _ _)
  exact PySem.P.getItem_str (by rw [decide_eq_false (Int.not_lt.mpr (Jz hk)),decide_eq_false (Int.not_le.mpr (Kl hk))];rfl) (by rw [(QK hi).1];exact e) (PV.plain Bh q)
 | dict em e q=>
  apply Cf.dictE em ra;intro a us _ D P _ _
  apply DR ri;intro t
  refine AF (P.at.1 _ e) fun v ev rv=>?_
  exact PyProof.Rows.tail_any (T:="dict") D.dictOf.typeIs slot_dict_getitem.lookup (wpAny_getItem_of (strKind_is _ _ _ t) D.dictOf.mapOf ev (PV.plain rv q)) (hs _ _)
theorem TK {pos} (hs:GI r) (hl:EOk K L l a) (hr:EOk K L r b):EOk K L (.Subscript l r pos) (AJ a b):=fun A c ρ _ X R F q=>
 PyProof.Rows.Subscript_ (seq (.refl c) (hl A c ρ _ X R F q) fun c₁ _ _ s₁ _ r₁ q₁=>seq s₁ (hr A c₁ ρ _ X R (F.step s₁) q₁) fun _ _ _ s₂ t₂ r₂ q₂=>fin s₂ (Ts (r₁.step t₂) r₂ hs q₂))
end
end Mine.Internal
namespace Mine.Internal
open PySem PySem.Calls
theorem De:∀ (xs:List Str) (vs:List Value) (T:List (Str × Value)),xs.Nodup→xs.length=vs.length→(∀ n∈xs,T.lookup n=(xs.zip vs).lookup n)→xs.filterMap (fun n=>(T.lookup n).map (n,·))=xs.zip vs
 | [],_,_,_,_,_=>by rw [List.zip_nil_left];rfl
 | x::xs,v::vs,T,hnd,hl,hT=>by
  have hx:=List.nodup_cons.mp hnd
  have h1:T.lookup x=some v:=(hT x List.mem_cons_self).trans (by rw [List.zip_cons_cons,List.lookup_cons,beq_self_eq_true])
  rw [List.filterMap_cons,h1]
  refine congrArg _ (De xs vs T hx.2 (Nat.succ.inj hl) fun n hn=>(hT n (List.mem_cons_of_mem _ hn)).trans ?_)
  rw [List.zip_cons_cons,List.lookup_cons,beq_eq_false_iff_ne.mpr (show n≠x from fun e=>hx.1 (e▸hn))]
theorem DV:∀ {names:List Str} {vals:List Value},names.length=vals.length→∀ n∈names,((names.zip vals).lookup n).isNone=false
 | x::xs,v::vs,hl,n,hn=>by
  rw [List.zip_cons_cons,List.lookup_cons]
  cases h:n==x with
  | true=>rfl
  | false=>exact DV (Nat.succ.inj hl) n ((List.mem_cons.mp hn).resolve_left fun e=>by rw [e,beq_self_eq_true] at h;cases h)
theorem LB {names:List Str} {vals:List Value} {k:Nat} (h:names.length=vals.length):(names.take k).filter (fun n=>((names.zip vals).lookup n).isNone)=[]:=
 List.filter_eq_nil_iff.mpr fun n hn=>Bool.eq_false_iff.mp (DV h n (List.mem_of_mem_take hn))
theorem KN {names:List Str} {vals:List Value} {k:Nat} (h:names.length=vals.length):¬ (!((names.take k).filter (fun n=>((names.zip vals).lookup n).isNone)).isEmpty)=true:=by rw [LB h];exact nofun
theorem D9 {vals:List Value} (hp:fd.params=⟨[],args,none,[],[],none,[]⟩) (hd:fd.defaults=.none)
  (hlen:(args.map (·.arg)).length=vals.length) (hnd:(args.map (·.arg)).Nodup):bindArgs fd ⟨vals,[]⟩=pure ((args.map (·.arg)).zip vals):=by
 obtain ⟨_,_,params⟩:=fd
 dsimp only at hp hd
 subst hp hd
 have e:((args.map Arg.arg)++[]).filterMap (fun n=>(((args.map Arg.arg).zip vals).lookup n).map (n,·))=(args.map Arg.arg).zip vals:=(congrArg _ (List.append_nil _)).trans (De (args.map Arg.arg) vals _ hnd hlen fun _ _=>rfl)
 refine Eq.trans (if_neg ?_) (Eq.trans (if_neg ?_) ?_)
 ·exact fun h=>Nat.not_lt.mpr (Nat.le_of_eq hlen.symm) (of_decide_eq_true (Bool.and_eq_true_iff.mp h).1)
 ·exact KN hlen
 ·refine Eq.trans (congrArg (fun l=>forIn (m:=Sem) l _ _ >>= _) (show List.zip (List.drop _ (args.map (·.arg))) (List.drop _ ([]:List Value))=[] from ?_)) ?_
  ·rw [List.drop_nil,List.zip_nil_right]
  ·exact congrArg (pure (f:=Sem)) e
theorem DI {h:Heap} {a b:Addr} {m:Str→Option Value} {ov:Option Value} (n:h.Ns a m) (x:h.IsCell b ov):b≠a:=fun e=>by
 refine DT (CQ n) fun o e1 es ep d=>?_
 refine AF x fun o' e' d'=>?_
 rw [e,e1] at e';cases e';cases d.symm.trans d'
theorem EX {α:Type} {l:List α} {i j:Nat} {x:α} (h:i≠j):(l.set i x)[j]?=l[j]?:=List.getElem?_set_ne h
theorem CU {α:Type} {l:List α} {i:Nat} {x y:α} (h:(l.set i x)[i]?=some y):x=y:=by
 rw [List.getElem?_set,if_pos rfl] at h
 split at h
 ·exact Option.some.inj h
 ·cases h
theorem SlotIs.other {V:V} (x:SlotIs c ρ j ov) (h:i≠j):SlotIs c (ρ.set i V) j ov:=fun W hW hne=>x W (EX h▸hW) hne
theorem SlotIs.this {h₀:Bs} {c:Cf h₀} {ρ:List V} {i:Nat} {V:V} {v:Value} (r:Rel c.s.heap c.φ V v):SlotIs c (ρ.set i V) i (some v):=fun _ hW _=>⟨v,rfl,CU hW▸r⟩
section
variable {K:Ctx} {L:Loc} {A:Around} {c:Cf K.h₀} {ρ:List V} {E:Value→Shared→Prop}
theorem Dp {V:V} (F:Fr c L ρ) (hx:L.vs.lookup x=some i) (hk:L.env.kindOf x=some .local) (r:Rel c.s.heap c.φ V v)
  (h:∀ c':Cf K.h₀,c'.φ=c.φ→c'.σ=c.σ→Stp (·=L.env.locals) c c'→Fr c' L (ρ.set i V)→Q () c'.s):wpAny K.M A (storeName L.env x v) Q E c.s:=by
 cases F.ns with
 | mk m n rn=>
 refine wpAny_storeName_local hk n (fun h' hn hs=>?_) (by rw [F.fn];rfl)
 have ho:∀ a,a=L.env.locals→A8 c.s.heap a∧a∉c.φ∧K.h₀.get? a=none:=fun a e=>e▸⟨Cl n,F.locOut,F.locNew⟩
 have kk:∀ b o,¬ b=L.env.locals→c.s.heap.get? b=some o→h'.get? b=some o:=fun b o hb e=>(hs.2 b hb).trans e
 have st:Stp (·=L.env.locals) c (c.keepOwn { c.s with heap:=h',toks:=c.s.toks+1 } kk ho):=Cf.keepOwn_stp ⟨rfl,rfl⟩ fun b _ e _=>e▸let ⟨o,e',_⟩:=CQ hn;⟨o,e'⟩
 have ht:∀ a,a=L.env.locals→A8 c.s.heap a:=fun a e=>(ho a e).1
 have ij:∀ {y j},L.vs.lookup y=some j→y≠x→i≠j:=fun hy ne e=>ne (F.inj _ x i (e▸hy) hx)
 refine h (c.keepOwn _ kk ho) rfl rfl st ⟨F.fn,F.glob,F.blt,F.locNew,F.locOut,F.inj,.mk _ hn fun y j hy hky=>?_,fun y j hy hky=>?_,F.cellInj,fun e m'=>?_⟩
 ·by_cases hyx:y=x
  ·subst hyx
   cases hx.symm.trans hy
   rw [if_pos rfl];exact SlotIs.this (r.own st.toWStp ht)
  ·rw [if_neg hyx];exact ((rn y j hy hky).own st.toWStp ht).other (ij hy hyx)
 ·cases F.cell y j hy hky with
  | mk a ov e1 e2 e3 ic rc=>
  refine .mk a ov e1 e2 e3 (Ho ic fun o e=>kk a o (DI n ic) e) ((rc.own st.toWStp ht).other (ij hy ?_))
  rintro rfl
  rw [hk] at hky;refine Or.elim hky (fun q=>?_) (fun q=>?_) <;> cases q
 ·refine DG (F.up e m') fun k f m₁ f1 f2 f3 n₁=>?_
  by_cases hf:f=L.env.locals
  ·exact ⟨k,f,_,f1,f2,f3,hf▸hn⟩
  ·exact ⟨k,f,m₁,f1,f2,f3,Jg n₁ fun o e=>kk f o hf e⟩
theorem Lj {V:V} (F:Fr c L ρ) (hx:L.vs.lookup x=some i) (hk:L.env.kindOf x=some .cell) (r:Rel c.s.heap c.φ V v)
  (h:∀ c':Cf K.h₀,c'.φ=c.φ→c'.σ=c.σ→Stp L.own c c'→Fr c' L (ρ.set i V)→Q () c'.s):wpAny K.M A (storeName L.env x v) Q E c.s:=by
 cases F.ns with
 | mk m n rn=>
 cases F.cell x i hx (.inl hk) with
 | mk a ov e1 e2 e3 ic rc=>
 refine wpAny_storeName_cell F.fn hk e1 ic fun h' ic' hs=>?_
 have ho:∀ b,b=a→A8 c.s.heap b∧b∉c.φ∧K.h₀.get? b=none:=fun b e=>e▸⟨Gz ic,e2,e3⟩
 have kk:∀ b o,¬ b=a→c.s.heap.get? b=some o→h'.get? b=some o:=fun b o hb e=>(hs.2 b hb).trans e
 have st:Stp (·=a) c (c.keepOwn { c.s with heap:=h' } kk ho):=Cf.keepOwn_stp ⟨rfl,rfl⟩ fun b _ e _=>e▸let ⟨o,e',_⟩:=ic';⟨o,e'⟩
 have ht:∀ b,b=a→A8 c.s.heap b:=fun b e=>(ho b e).1
 have ij:∀ {y j},L.vs.lookup y=some j→y≠x→i≠j:=fun hy ne e=>ne (F.inj _ x i (e▸hy) hx)
 refine h (c.keepOwn _ kk ho) rfl rfl (st.wider fun b e=>.inr ⟨x,i,hx,hk,e▸e1⟩) ⟨F.fn,F.glob,F.blt,F.locNew,F.locOut,F.inj,.mk m (Jg n fun o e=>kk _ o (Ne.symm (DI n ic)) e) fun y j hy hky=>?_,fun y j hy hky=>?_,F.cellInj,fun e m'=>?_⟩
 ·refine ((rn y j hy hky).own st.toWStp ht).other (ij hy ?_)
  rintro rfl
  rw [hk] at hky;cases hky
 ·by_cases hyx:y=x
  ·subst hyx
   cases hx.symm.trans hy
   exact .mk a (some v) e1 e2 e3 ic' (SlotIs.this (r.own st.toWStp ht))
  ·cases F.cell y j hy hky with
   | mk b ov' f1 f2 f3 ic2 rc2=>
   exact .mk b ov' f1 f2 f3 (Ho ic2 fun o e=>kk b o (fun e=>hyx (F.cellInj y x j i a hy hx (e▸f1) e1)) e) ((rc2.own st.toWStp ht).other (ij hy hyx))
 ·refine DG (F.up e m') fun k f m₁ f1 f2 f3 n₁=>?_
  exact ⟨k,f,m₁,f1,f2,f3,Jg n₁ fun o e=>kk f o (Ne.symm (DI n₁ ic)) e⟩
theorem Kf {V:V} (F:Fr c L ρ) (hx:L.vs.lookup x=some i) (hk:L.env.kindOf x=some .local∨L.env.kindOf x=some .cell) (r:Rel c.s.heap c.φ V v)
  (h:∀ c':Cf K.h₀,c'.φ=c.φ→c'.σ=c.σ→Stp L.own c c'→Fr c' L (ρ.set i V)→Q () c'.s):wpAny K.M A (storeName L.env x v) Q E c.s:=
 hk.elim (fun hk=>Dp F hx hk r fun c' e1 e2 st F'=>h c' e1 e2 (st.wider fun _ e=>.inl e) F') fun hk=>Lj F hx hk r h
inductive CNames (L:Loc):List Expr→List Nat→Prop
 | nil:CNames L [] []
 | cons {x:Str} {i:Nat} {p:Pos} {es:List Expr} {is:List Nat}:L.vs.lookup x=some i→L.env.kindOf x=some .local∨L.env.kindOf x=some .cell→CNames L es is→CNames L (.Name x p::es) (i::is)
inductive CPat (L:Loc):Expr→Pat→Prop
 | name {x:Str} {i:Nat} {p:Pos}:L.vs.lookup x=some i→L.env.kindOf x=some .local∨L.env.kindOf x=some .cell→CPat L (.Name x p) (.var i)
 | tup {es:List Expr} {is:List Nat} {k:Nat} {p:Pos}:CNames L es is→CPat L (.Tuple es k p) (.tup is)
theorem CNames.len (h:CNames L es is):(assignEach es L.env).length=is.length:=by
 induction h with
 | nil=>rfl
 | cons _ _ _ ih=>exact congrArg (·+1) ih
theorem CNames.noStar (h:CNames L es is):(assignEach es L.env).findIdx? (·.1)=none:=by
 induction h with
 | nil=>rfl
 | cons _ _ _ ih=>
  show ((false,_)::assignEach _ L.env).findIdx? _=none
  rw [List.findIdx?_cons,ih];rfl
theorem Ou (h:CNames L es is):∀ {c:Cf K.h₀} {ρ Vs:List V} {us:List Value} {Q:Unit→Shared→Prop},Fr c L ρ→RelL c.s.heap c.φ Vs us→is.length=Vs.length →
  (∀ c':Cf K.h₀,c'.φ=c.φ→c'.σ=c.σ→Stp L.own c c'→Fr c' L (HE is Vs ρ)→Q () c'.s)→wpAny K.M A (assignInOrder ((assignEach es L.env).map (·.2)) us) Q E c.s:=by
 induction h with
 | nil=>
  intro c ρ Vs us Q F r hl hQ
  cases List.length_eq_zero_iff.mp hl.symm
  exact wpAny_pure (hQ c rfl rfl (.refl c) F)
 | @cons x i p es is hx hk _ ih=>
  intro c ρ Vs us Q F r hl hQ
  match Vs,us,r with
  | [],_,_=>cases hl
  | V::Vs,u::us,r=>
   show wpAny K.M A (do holding us (assign (.Name x p) L.env u);assignInOrder ((assignEach es L.env).map (·.2)) us) Q E c.s
   exact wpAny_bind (wpAny_holding (wpAny_assign_Name (Kf F hx hk r.1 fun c₁ e1 e2 st F₁=>ih F₁ (r.2.own st.toWStp fun _ m=>F.noTup m) (Nat.succ.inj hl) fun c₂ f1 f2 st₂ F₂=>hQ c₂ (f1.trans e1) (f2.trans e2) (st.trans st₂) F₂)))
theorem H4 (h:CPat L t p) {V:V} (hh:A.handled=none) (F:Fr c L ρ) (r:Rel c.s.heap c.φ V v) (e:Jp c.σ T ρ V p)
  (hQ:∀ (c':Cf K.h₀) (ρ':List Mine.Internal.V),c'.φ=c.φ→c'.σ=c.σ→Stp L.own c c'→Fr c' L ρ'→T ρ'→Q () c'.s):wpAny K.M A (assign t L.env v) Q E c.s:=by
 have kx:∀ {h':Heap} {m:Nat},(∀ b o,b≠m→c.s.heap.get? b=some o→h'.get? b=some o)→c.s.heap.objs.size≤m→∀ b o,c.s.heap.get? b=some o→h'.get? b=some o:=fun kx hm b o e=>kx b o (Nat.ne_of_lt (Nat.lt_of_lt_of_le (Heap.lt_size e) hm)) e
 have go:∀ {es:List Expr} {is:List Nat} {Vs:List Mine.Internal.V} {us:List Value} {h':Heap},CNames L es is→RelL c.s.heap c.φ Vs us→is.length=Vs.length→T (HE is Vs ρ)→(∀ b o,c.s.heap.get? b=some o→h'.get? b=some o) →
   wpAny K.M A (assignInOrder ((assignEach es L.env).map (·.2)) us) Q E { c.s with heap:=h' }:=fun hn rl hl q k=>
  have st:Stp AS c (c.keep { c.s with heap:=_ } k):=Cf.keep_stp ⟨rfl,rfl⟩
  Ou (c:=c.keep { c.s with heap:=_ } k) hn (F.step st) (rl.step st) hl fun c' e1 e2 st₂ F₂=>hQ c' _ e1 e2 (st.any.trans st₂) F₂ q
 cases h with
 | name hx hk=>exact wpAny_assign_Name (Kf F hx hk r fun c' e1 e2 st F'=>hQ c' _ e1 e2 st F' e)
 | @tup es is k p hn=>
  replace e:=R0 e
  cases e with
  | tup hl q=>
   refine Af r fun a items n ze1 g rl=>?_;subst ze1
   exact wpAny_assign_Tuple hh ⟨_,g,rfl,n,rfl⟩ (by rw [hn.len,hl,rl.size]) hn.noStar fun h' k'=>go hn rl hl q (kx k' (Nat.le_refl _))
end
end Mine.Internal
namespace Mine.Internal
open PySem PySem.Calls
set_option genSizeOf false
set_option genInjectivity false
section
variable {K:Ctx}
inductive PF (c:Cf K.h₀) (L:Loc) (Q:Br):Flow→Shared→Prop
 | next (c':Cf K.h₀) (ρ':List V):Stp L.own c c'→Fr c' L ρ'→Q .next ρ' c'.σ→PF c L Q .next c'.s
 | ret (c':Cf K.h₀) (ρ':List V) (V:V) (v:Value):Stp L.own c c'→Fr c' L ρ'→Rel c'.s.heap c'.φ V v→Q (.ret V) ρ' c'.σ→PF c L Q (.ret v) c'.s
inductive PE (c:Cf K.h₀) (L:Loc) (Q:Br):Value→Shared→Prop
 | mk (c':Cf K.h₀) (ρ':List V) (k:Nat) (a:Addr) (fp:List Addr) (fl:Option Addr):(∀ b∈fp,c.s.heap.get? b=none∧b∉c'.φ)→k∈K.excs→Stp L.own c c'→Fr c' L ρ'→Exc c'.s.heap a k fp fl→fl=none∨fl=L.env.frame→Q (.exc k) ρ' c'.σ→PE c L Q (.ref a) c'.s
variable {c₀ c:Cf K.h₀} {L:Loc} {ρ:List V} {Q:Br}
theorem PF.lift (st:Stp L.own c₀ c) (y:PF c L Q f s):PF c₀ L Q f s:=
 y.casesOn (fun c' ρ' s F q=>.next c' ρ' (st.trans s) F q) fun c' ρ' V v s F r q=>.ret c' ρ' V v (st.trans s) F r q
theorem PE.lift (st:Stp L.own c₀ c) (y:PE c L Q e s):PE c₀ L Q e s:=y.casesOn fun c' ρ' k a fp fl n hk s F x h q=>.mk c' ρ' k a fp fl (fun b m=>⟨st.gone (n b m).1,(n b m).2⟩) hk (st.trans s) F x h q
theorem PX.toE (F:Fr c L ρ) (y:PX c (fun k σ=>Q (.exc k) ρ σ) e s):PE c L Q e s:=y.casesOn fun c' k a fp n hk st x q=>.mk c' ρ k a fp none n hk st.any (F.step st) x (.inl rfl) q
noncomputable def Aq (h:Heap):List Addr→Heap
 | []=>h
 | a::l=>(Aq h l).hide a
theorem Dc:∀ {l:List Addr},b∉l→h.get? b=some o→(Aq h l).get? b=some o
 | [],_,e=>e
 | a::_,n,e=>(Heap.hide_ne _ (fun q:b=a=>n (q▸List.mem_cons_self))).trans (Dc (fun m=>n (List.mem_cons_of_mem _ m)) e)
theorem EY:∀ {l:List Addr},(Aq h l).get? b=some o→b∉l∧h.get? b=some o
 | [],e=>⟨List.not_mem_nil,e⟩
 | a::l,e=>by
  have hb:b≠a:=fun q=>by rw [q] at e;exact nomatch (Heap.hide_self (Aq h l) a).symm.trans e
  obtain ⟨n,e'⟩:=EY (Heap.of_hide e)
  exact ⟨fun m=>(List.mem_cons.mp m).elim hb n,e'⟩
theorem B9 (m:b∈l):(Aq h l).get? b=none:=by
 cases e:(Aq h l).get? b with
 | none=>rfl
 | some o=>exact absurd m (EY e).1
abbrev Loc.frs (L:Loc):List Addr:=L.up.filterMap (·.frame)
theorem N6 {h base:Heap} {l:List Env} (q:∀ e∈l,e.scope.kind≠.module∧∃ f m,e.frame=some f∧base.get? f=none∧h.Ns f m):h.FunFrames base l:=by
 induction l with
 | nil=>trivial
 | cons e l ih=>exact B8 (q e List.mem_cons_self) fun k f _ e1 e2 n=>DT (CQ n) fun o e3 _ _ d=>⟨k,⟨f,o,e1,e2,e3,fun _ e'=>nomatch d.symm.trans e'⟩,ih fun e' m=>q e' (List.mem_cons_of_mem _ m)⟩
theorem SK {l:List Env} {f:Addr} (m:f∈l.filterMap (·.frame)):∃ e∈l,e.frame=some f:=List.mem_filterMap.mp m
theorem Mu {c:Cf K.h₀} {L:Loc} {ρ:List V} {a:Addr} {k:Nat} {fp:List Addr} {fl:Option Addr} {h':Heap} (F:Fr c L ρ) (x:Exc c.s.heap a k fp fl) (hn:∀ b∈fp,K.h₀.get? b=none∧b∉c.φ)
  (hs:(Aq c.s.heap (fp++L.frs)).StaysIn h') (hu:c.s.heap.UpToSlots h'):∃ c':Cf K.h₀,c'.s={ c.s with heap:=h' }∧c'.φ=c.φ∧c'.σ=c.σ∧WStp (·∈fp) c c'∧Fr c' L ρ:=by
 have fr:∀ f∈L.frs,∃ m,K.h₀.get? f=none∧f∉c.φ∧c.s.heap.Ns f m:=fun f m=>by
  refine AF (SK m) fun e he hf=>?_
  refine DG (F.up e he) fun _ f' m' e1 e2 e3 n=>?_
  cases hf.symm.trans e1
  exact ⟨m',e2,e3,n⟩
 have ke:∀ b o,b∉fp→b∉L.frs→c.s.heap.get? b=some o→h'.get? b=some o:=fun b o h1 h2 e=>hs b o (Dc (fun m=>(List.mem_append.mp m).elim h1 h2) e)
 have nofp:∀ b∈fp,A8 c.s.heap b:=fun b m=>BM (x.fields b m) fun _ _ e d=>Ih e fun _ _ e'=>nomatch d.symm.trans e'
 have S:Sim K.h₀ h' c.φ c.σ:=by
  refine c.sim.keeps (own:=fun b=>b∈fp∨b∈L.frs) (fun b o hb e=>ke b o (fun m=>hb (.inl m)) (fun m=>hb (.inr m)) e) fun b m=>?_
  refine Or.elim m (fun m=>?_) (fun m=>?_)
  ·exact ⟨nofp b m,(hn b m).2,(hn b m).1⟩
  ·refine Ae (fr b m) fun _ e2 e3 n=>?_
   exact ⟨Cl n,e3,e2⟩
 have st:WStp (·∈fp) c ⟨{ c.s with heap:=h' },c.φ,c.σ,S⟩:=⟨⟨rfl,rfl⟩,List.prefix_refl _,fun b o _ hb e=>by
  by_cases hf:b∈L.frs
  ·refine Ae (fr b hf) fun _ _ _ n=>?_
   refine DT (CQ n) fun o' e' es ep d=>?_
   cases e.symm.trans e'
   refine AX (hu b o e fun _ q=>nomatch d.symm.trans q) fun sl e2=>?_
   exact ⟨_,e2,sl,rfl,fun q=>absurd d (q es ep)⟩
  ·exact ⟨o,ke b o hb hf e,.refl o⟩,fun _ m=>.inl m⟩
 refine ⟨⟨{ c.s with heap:=h' },c.φ,c.σ,S⟩,rfl,rfl,rfl,st,F.keep st nofp (fun f m n _ hm=>?_) fun b ov ic hm=>?_⟩
 ·refine BM (x.fields f hm) fun _ _ e d=>?_
  refine DT (CQ n) fun _ e' _ _ d'=>?_
  cases e.symm.trans e';cases d.symm.trans d'
 ·refine BM (x.fields b hm) fun _ _ e d=>?_
  refine AF ic fun _ e' d'=>?_
  cases e.symm.trans e';cases d.symm.trans d'
theorem K3 (hm:a∈fp) (hl:h'.FunFrames (Aq c.s.heap (fp++L.frs)) L.up)
  (x:h'.TracedAtW (Aq c.s.heap (fp++L.frs)) a (.ref k) a0 (fl.elim .none fun f=>rawInt f)):∃ T,Exc h' a k [a,T] fl∧∀ b∈[a,T],b∈fp∨c.s.heap.get? b=none:=by
 obtain ⟨oe,vs,T,oT,ts,he,⟨hc,h0⟩,hd,h1,hT,hne,heT,hdT,h3⟩:=x
 refine ⟨T,.seen oe vs a0 T oT ts fl he hc hd h0 h1 hne heT hdT h3,fun b m=>?_⟩
 rcases List.mem_cons.mp m with rfl | m
 ·exact .inl hm
 ·cases List.mem_singleton.mp m
  by_cases hf:T∈fp
  ·exact .inl hf
  ·refine .inr ?_
   cases e:c.s.heap.get? T with
   | none=>rfl
   | some o=>
    have:=Dc (l:=fp++L.frs) (fun m=>(List.mem_append.mp m).elim hf fun m=>by
     refine CR (hl.mem m) fun _ o' e' nf=>?_
     cases heT.symm.trans e';exact nf ts hdT) e
    cases hT.symm.trans this
structure AtFr (K:Ctx) (A:Around) (L:Loc) (c:Cf K.h₀) (ρ:List V) (a:Addr) (k:Nat) (fp:List Addr) (fl:Option Addr):Prop where
 R:A.frames=some L.up
 hu:L.up=L.env::L.up.tail
 F:Fr c L ρ
 x:Exc c.s.heap a k fp fl
 hfl:fl=none∨fl=L.env.frame
 hn:∀ b∈fp,K.h₀.get? b=none∧b∉c.φ
theorem AtFr.base {A:Around} {L:Loc} {c:Cf K.h₀} {ρ:List V} {a:Addr} {k:Nat} {fp:List Addr} {fl:Option Addr} (z:AtFr K A L c ρ a k fp fl) :
  A.frames=some (L.env::L.up.tail)∧c.s.heap.FunFrames (Aq c.s.heap (fp++L.frs)) (L.env::L.up.tail)∧(∃ f,L.env.frame=some f)∧(Aq c.s.heap (fp++L.frs)).StaysIn c.s.heap∧(Aq c.s.heap (fp++L.frs)).get? a=none:=by
 refine ⟨z.hu▸z.R,N6 fun e m=>?_,?_,fun b o e=>(EY e).2,B9 (List.mem_append_left _ z.x.mem)⟩
 ·rw [← z.hu] at m
  refine DG (z.F.up e m) fun h1 f m' e1 _ _ n=>?_
  exact ⟨h1,f,m',e1,B9 (List.mem_append_right _ (List.mem_filterMap.mpr ⟨e,m,e1⟩)),n⟩
 ·refine EF (z.F.up L.env (z.hu▸List.mem_cons_self)) fun _ f _ e1 _=>?_
  exact ⟨f,e1⟩
noncomputable def XKeep {K:Ctx} (c:Cf K.h₀) (L:Loc) (ρ:List V) (a:Addr) (k:Nat) (fp:List Addr) (fl:Option Addr) (P:Shared→Prop):Prop:=
 ∀ (c':Cf K.h₀) (T:Addr),c'.φ=c.φ→c'.σ=c.σ→WStp (·∈fp) c c'→Fr c' L ρ→Exc c'.s.heap a k [a,T] fl→(∀ b∈[a,T],b∈fp∨c.s.heap.get? b=none)→P c'.s
theorem XKeep.use (h:XKeep c L ρ a k fp fl' P) (F:Fr c L ρ) (x:Exc c.s.heap a k fp fl) (hn:∀ b∈fp,K.h₀.get? b=none∧b∉c.φ)
  (hs:(Aq c.s.heap (fp++L.frs)).StaysIn h') (hl:h'.FunFrames (Aq c.s.heap (fp++L.frs)) L.up) (ht:h'.TracedAtW (Aq c.s.heap (fp++L.frs)) a (.ref k) a0 (fl'.elim .none fun f=>rawInt f)) (hu:c.s.heap.UpToSlots h'):P { c.s with heap:=h' }:=by
 refine B6 (Mu F x hn hs hu) fun c' e1 e2 e3 st F'=>?_
 refine AF (K3 x.mem hl ht) fun T ex hp=>?_
 exact e1▸h c' T e2 e3 st F' (by rw [e1];exact ex) hp
theorem XKeep.same (h:XKeep c L ρ a k [a,T] fl P) (F:Fr c L ρ) (x:Exc c.s.heap a k [a,T] fl):P c.s:=
 h c T rfl rfl (Stp.refl c).toWStp F x fun _ m=>.inl m
theorem Mb (z:AtFr K A L c ρ a k fp fl) (h:XKeep c L ρ a k fp L.env.frame P) :
  wpAny K.M A (noteFrame (.ref a) L.env) (fun _ s=>P s) E c.s:=by
 refine FC z.base fun hfr hl zt1 hkb hen=>AX zt1 fun f hf=>?_
 have hfe:rawInt f=L.env.frame.elim .none fun f=>rawInt f:=by rw [hf];rfl
 have go:∀ {h':Heap} {a0:Value},Heap.NotedW (Aq c.s.heap (fp++L.frs)) (L.env::L.up.tail) a (.ref k) a0 (rawInt f) c.s.heap h'→P { c.s with heap:=h' }:=fun ⟨k1,k2,k3,k4⟩=>h.use z.F z.x z.hn k1 (z.hu▸k2) (hfe▸k3) k4
 cases z.x with
 | new oe vs a0 e hc d h0 h1=>
  unfold noteFrame
  simp only [hf]
  refine wpAny_bind (wpAny_field e d h1 ?_)
  rw [if_neg (by decide)]
  exact wpAny_entryW hfr hl hf e hkb hen d (Array.getElem?_eq_some_iff.mp h1).1 h0 fun h' hN=>go (hc▸hN)
 | seen oe vs a0 T oT ts fl e hc d h0 h1 hne heT hdT h3=>
  have ht:fl=none∨fl=some f:=z.hfl.imp id fun q=>q.trans hf
  have hT:(Aq c.s.heap ([a,T]++L.frs)).get? T=none:=B9 (List.mem_append_left _ (List.mem_cons_of_mem _ List.mem_cons_self))
  rcases ht with rfl | rfl
  ·exact wpAny_noteFrame_onW hfr hl hf ⟨oe,vs,T,oT,ts,e,⟨hc,h0⟩,d,h1,hT,hne,heT,hdT,h3⟩ hkb hen fun h' hN=>go hN
  ·exact wpAny_noteFrame_againW (base:=Aq c.s.heap ([a,T]++L.frs)) hf ⟨oe,vs,T,oT,ts,e,⟨hc,h0⟩,d,h1,hT,hne,heT,hdT,h3⟩ (h.same z.F (hf▸z.x))
theorem DH (z:AtFr K A L c ρ a k [a,T] fl) (h:XKeep c L ρ a k [a,T] fl' P) :
  wpAny K.M A (setFlight (.ref a) fl') (fun _ s=>P s) E c.s:=by
 refine FC z.base fun hfr hl zt1 hkb hen=>AX zt1 fun f hf=>?_
 have x:=z.x
 generalize hfp:[a,T]=fp at x
 cases x with
 | new=>cases hfp
 | seen oe vs a0 T' oT ts fl e hc d h0 h1 hne heT hdT h3=>
  cases hfp
  have hT:(Aq c.s.heap ([a,T]++L.frs)).get? T=none:=B9 (List.mem_append_left _ (List.mem_cons_of_mem _ List.mem_cons_self))
  have hsz:3<ts.size:=(Array.getElem?_eq_some_iff.mp h3).1
  unfold setFlight
  refine wpAny_bind (wpAny_field e d h1 ?_)
  rw [if_pos (show (Value.ref T != Value.none)=true from rfl)]
  refine wpAny_setField heT hdT hsz ?_
  have other:∀ b,b≠T→(c.s.heap.update T (Obj.mapFields (·.setIfInBounds 3 (fl'.elim Value.none fun f=>rawInt f)))).get? b=c.s.heap.get? b:=fun b hb=>Heap.get?_update_other _ _ (Ne.symm hb)
  have noRec:∀ b o,c.s.heap.get? b=some o→(∀ vs,o.data≠.fields vs)→b≠T:=fun b o hb hnf q=>by
   rw [q,heT] at hb;injection hb with hb;subst hb;exact hnf ts hdT
  refine h.use (a0:=a0) z.F z.x z.hn (fun b o hb=>(other b fun q=>by rw [q,hT] at hb;cases hb).trans (hkb b o hb)) (z.hu▸hl.of_keeps fun b o hb hnf=>⟨o,(other b (noRec b o hb hnf)).trans hb,rfl⟩)
   ⟨oe,vs,T,_,_,(other a (Ne.symm hne)).trans e,⟨hc,h0⟩,d,h1,hT,hne,Heap.get?_update_self _ heT (Obj.isFreed_of_fields (Obj.data_mapFields hdT _)),Obj.data_mapFields hdT _,by rw [Array.getElem?_setIfInBounds_self_of_lt hsz]⟩ fun b o hb hnf=>⟨o.slots,(other b (noRec b o hb hnf)).trans hb⟩
theorem Oe (z:AtFr K A L c ρ a k fp fl) (h:XKeep c L ρ a k fp none P) :
  wpAny K.M A (leaving L.env (.ref a)) (fun _ s=>P s) E c.s:=by
 refine FC z.base fun hfr hl zt1 hkb hen=>AX zt1 fun f hf=>?_
 have go:∀ {h':Heap} {a0:Value},Heap.LeftW (Aq c.s.heap (fp++L.frs)) (L.env::L.up.tail) a (.ref k) a0 c.s.heap h'→P { c.s with heap:=h' }:=fun ⟨k1,k2,k3,k4⟩=>h.use z.F z.x z.hn k1 (z.hu▸k2) k3 k4
 cases z.x with
 | new oe vs a0 e hc d h0 h1=>exact wpAny_leaving_firstW hfr hl hf e hkb hen d h1 h0 fun h' hN=>go (hc▸hN)
 | seen oe vs a0 T oT ts fl e hc d h0 h1 hne heT hdT h3=>
  have ht:fl=none∨fl=some f:=z.hfl.imp id fun q=>q.trans hf
  have hT:(Aq c.s.heap ([a,T]++L.frs)).get? T=none:=B9 (List.mem_append_left _ (List.mem_cons_of_mem _ List.mem_cons_self))
  rcases ht with rfl | rfl
  ·exact wpAny_leaving_nextW hfr hl hf ⟨oe,vs,T,oT,ts,e,⟨hc,h0⟩,d,h1,hT,hne,heT,hdT,h3⟩ hkb hen fun h' hN=>go hN
  ·unfold leaving
   exact wpAny_bind (wpAny_noteFrame_againW (base:=Aq c.s.heap ([a,T]++L.frs)) hf ⟨oe,vs,T,oT,ts,e,⟨hc,h0⟩,d,h1,hT,hne,heT,hdT,h3⟩ (DH z h))
theorem PE.at (R:ROk K L.up A) (hu:L.up=L.env::L.up.tail):PE c L Q e s→∃ (c':Cf K.h₀) (ρ':List V) (k:Nat) (a:Addr) (fp:List Addr) (fl:Option Addr),e=.ref a∧c'.s=s∧AtFr K A L c' ρ' a k fp fl∧k∈K.excs∧Q (.exc k) ρ' c'.σ∧Stp L.own c c' ∧
  ∀ b∈fp,c.s.heap.get? b=none∧b∉c'.φ
 | .mk c' ρ' k a fp fl n hk st F x h q=>⟨c',ρ',k,a,fp,fl,rfl,rfl,⟨R.fr,hu,F,x,h,fun b m=>⟨c.sim.none₀ (n b m).1,(n b m).2⟩⟩,hk,q,st,n⟩
theorem Eh {c c' c'':Cf K.h₀} {fp fp':List Addr} {own:Addr→Prop} (e1:c''.φ=c'.φ) (st:Stp own c c') (n:∀ b∈fp,c.s.heap.get? b=none∧b∉c'.φ) (h:∀ b∈fp',b∈fp∨c'.s.heap.get? b=none):∀ b∈fp',c.s.heap.get? b=none∧b∉c''.φ:=fun b m=>
 e1▸(h b m).elim (n b) fun e=>⟨st.gone e,c'.sim.out e⟩
inductive PN (c:Cf K.h₀) (L:Loc) (Q:Br):Value→Shared→Prop
 | mk (c':Cf K.h₀) (ρ':List V) (k:Nat) (a T:Addr):(∀ b∈[a,T],c.s.heap.get? b=none∧b∉c'.φ)→k∈K.excs→Stp L.own c c'→Fr c' L ρ'→Exc c'.s.heap a k [a,T] L.env.frame→Q (.exc k) ρ' c'.σ→PN c L Q (.ref a) c'.s
theorem PE.note {A:Around} {e:Value} {s:Shared} (R:ROk K L.up A) (hu:L.up=L.env::L.up.tail) (x:PE c L Q e s):notedBy K.M A L.env (PN c L Q) e s:=by
 refine Bn (x.at R hu) fun c' ρ' k a fp fl ze1 ze2 z hk q st n=>?_;subst ze1;subst ze2
 exact Mb (P:=fun s=>PN c L Q (.ref a) s) z fun c'' T e1 e2 st' F' ex hp=>.mk c'' ρ' k a T (Eh e1 st n hp) hk (st.transNew st' fun b m=>(n b m).1) F' ex (e2▸q)
theorem Exc.traced (x:Exc h a k [a,T] fl):∃ oe vs,h.get? a=some oe∧oe.data=.fields vs∧vs[1]?=some (.ref T):=by
 cases x with
 | seen oe vs a0 T' oT ts fl e hc d h0 h1 hne heT hdT h3=>exact ⟨oe,vs,e,d,h1⟩
theorem PN.came {A:Around} {e:Value} {s:Shared} (R:ROk K L.up A) (hu:L.up=L.env::L.up.tail) (y:PN c L Q e s):cameBackBy K.M A L.env (PE c L Q) e s:=y.casesOn fun c' ρ' k a T n hk st F x q=>by
  have z:AtFr K A L c' ρ' a k [a,T] L.env.frame:=⟨R.fr,hu,F,x,.inr rfl,fun b m=>⟨c.sim.none₀ (n b m).1,(n b m).2⟩⟩
  refine BC x.traced fun oe vs e d h1=>?_
  unfold cameBackBy
  refine wpAny_bind (wpAny_field e d h1 ?_)
  rw [if_neg (show ¬ (Value.ref T==Value.none)=true from nofun)]
  exact DH (P:=fun s=>PE c L Q (.ref a) s) z fun c'' T e1 e2 st' F' ex hp=>.mk c'' ρ' k a [a,T] L.env.frame (Eh e1 st n hp) hk (st.transNew st' fun b m=>(n b m).1) F' ex (.inr rfl) (e2▸q)
end
section
variable (K:Ctx) (L:Loc)
noncomputable def SOk (st:Stmt) (a:Sx):Prop:=∀ (A:Around) (c:Cf K.h₀) (ρ:List V) (Q:Br),ROk K L.up A→Fr c L ρ→a K.C ρ c.σ Q→wpAny K.M A (exec st L.env) (PF c L Q) (PE c L Q) c.s
noncomputable def SsOk (st:List Stmt) (a:List Sx):Prop:=∀ (A:Around) (c:Cf K.h₀) (ρ:List V) (Q:Br),ROk K L.up A→Fr c L ρ→BP a K.C ρ c.σ Q→wpAny K.M A (execs st L.env) (PF c L Q) (PE c L Q) c.s
structure RFun (K:Ctx) (up:List Env) (A:Around):Prop where
 hd:A.handled=none
 depth:A.depth+3*K.d<901
 units:A.units+12*K.d<9000
 fr:A.frames=some up
noncomputable def QX (st:List Stmt) (a:List Sx):Prop:=∀ (A:Around) (c:Cf K.h₀) (ρ:List V) (Q:Br),RFun K L.up A→Fr c L ρ→BP a K.C ρ c.σ Q→wpAny K.M A (execs st L.env) (PF c L Q) (PE c L Q) c.s
end
theorem RFun.ok (R:RFun K up A):ROk K up A:=⟨R.hd,Nat.lt_succ_of_lt R.depth,Nat.lt_of_lt_of_le R.units (by decide),R.fr⟩
theorem SsOk.f (h:SsOk K L st a):QX K L st a:=fun A c ρ Q R F q=>h A c ρ Q R.ok F q
noncomputable def Pc (e:Expr):Prop:=∀ t l env,swapsWith e t l env=pure false
section
variable {K:Ctx} {L:Loc}
theorem inS (F:Fr c L ρ) (h:wpAny K.M A m (PV c T) (PX c fun k σ=>Q (.exc k) ρ σ) c.s)
  (k:∀ (c₁:Cf K.h₀) (V:V) (v:Value),Stp AS c c₁→Rel c₁.s.heap c₁.φ V v→T V c₁.σ→P v c₁.s):wpAny K.M A m P (PE c L Q) c.s:=
 wpAny_mono h (fun v _ y=>y.casesOn fun c₁ V s₁ r q=>k c₁ V v s₁ r q) fun _ _ x=>x.toE F
theorem QI (st:Stp AS c₀ c) (F:Fr c₀ L ρ) (h:wpAny K.M A m (PV c T) (PX c fun k σ=>Q (.exc k) ρ σ) c.s)
  (k:∀ (c₁:Cf K.h₀) (V:V) (v:Value),Stp AS c₀ c₁→Stp AS c c₁→Rel c₁.s.heap c₁.φ V v→T V c₁.σ→P v c₁.s):wpAny K.M A m P (PE c₀ L Q) c.s:=
 wpAny_mono h (fun v _ y=>y.casesOn fun c₁ V s₁ r q=>k c₁ V v (st.trans s₁) s₁ r q) fun _ _ x=>(x.lift st).toE F
theorem Gk (h:env.scope.kind=.function):interactive env=false:=by unfold interactive;rw [h];rfl
theorem Pk {pos} (hc:Pc e) (h:EOk K L e a):SOk K L (.Expr e pos) (A5 a):=fun A c ρ _ R F q=>
 wpAny_Expr_any (inS F (h A c ρ _ _ R F q) fun c₁ _ _ s₁ _ q₁=>.next c₁ ρ s₁.any (F.step s₁) q₁) (Gk F.fn) (hc _ _ _)
theorem R1 {pos} (h:EOk K L e a):SOk K L (.Return (some e) pos) (AU a):=fun A c ρ _ R F q=>
 wpAny_Return_some (inS F (h A c ρ _ _ R F q) fun c₁ V v s₁ r q₁=>.ret c₁ ρ V v s₁.any (F.step s₁) r q₁)
theorem OI {pos}:SOk K L (.Return none pos) Sg:=fun _ c ρ _ _ F q=>wpAny_Return_none (.ret c ρ .none .none (.refl c) F Ch q)
theorem OY {pos}:SOk K L (.Pass pos) PQ:=fun _ c ρ _ _ F q=>wpAny_bind (wpAny_standAt (wpAny_pure (.next c ρ (.refl c) F q)))
theorem Ej {pos} (hc:swapsWith value (some t) pos.line L.env=pure false) (hw:swappedStores [t] value L.env=pure none) (hst:(assignEach [t] L.env).map (·.2)=[assign t L.env]) (ht:CPat L t p) (h:EOk K L value a) :
  SOk K L (.Assign [t] value pos) (AP p a):=fun A c ρ _ R F q=>
 wpAny_Assign_stores (inS F (h A c ρ _ _ R F q) fun c₁ _ v s₁ r q₁=>hst▸H4 ht R.hd (F.step s₁) r q₁ fun c₂ ρ' _ e2 s₂ F₂ q₂=>.next c₂ ρ' (s₁.any.trans s₂) F₂ (e2▸q₂)) hc hw
theorem QT:SsOk K L [] []:=fun _ c ρ _ _ F q=>wpAny_execs_nil (.next c ρ (.refl c) F q)
theorem Nm (h:SOk K L st a) (hs:SsOk K L sts as):SsOk K L (st::sts) (a::as):=fun A c ρ Q R F q=>
 wpAny_execs_cons (wpAny_mono (h A c ρ _ R F q) (fun _ _ y=>y.casesOn (fun c₁ ρ₁ s₁ F₁ q₁=>wpAny_mono (hs A c₁ ρ₁ Q R F₁ q₁) (fun _ _ z=>z.lift s₁) fun _ _ z=>z.lift s₁)
  fun c₁ ρ₁ V v s₁ F₁ r q₁=>.ret c₁ ρ₁ V v s₁ F₁ r q₁) fun _ _ x=>x.casesOn fun c' ρ' k a fp fl n hk s F x h q=>.mk c' ρ' k a fp fl n hk s F x h q)
theorem T9 {pos} (ht:TOk K L test t) (hb:SsOk K L b b') (ho:SsOk K L o o'):SOk K L (.If test b o pos) (sIf t b' o'):=fun A c ρ Q R F q=>
 wpAny_If (wpAny_mono (ht A c ρ _ _ R F q) (fun x _ y=>by
  cases x with
  | true=>exact y.casesOn fun c₁ s₁ q₁=>wpAny_mono (hb A c₁ ρ Q R (F.step s₁) q₁) (fun _ _ z=>z.lift s₁.any) fun _ _ z=>z.lift s₁.any
  | false=>exact y.casesOn fun c₁ s₁ q₁=>wpAny_mono (ho A c₁ ρ Q R (F.step s₁) q₁) (fun _ _ z=>z.lift s₁.any) fun _ _ z=>z.lift s₁.any) fun _ _ x=>x.toE F)
end
inductive ItOb (h:Heap) (b:Addr):Prop
 | mk (o:Obj) (us:Array Value) (n:String):h.get? b=some o→o.data=.fields us→o.cls=.type n→(∀ x t,us[1]?≠some (.str x t))→ItOb h b
theorem ItOb.noTup (x:ItOb h b):A8 h b:=x.casesOn fun _ _ _ e d _ _=>Ih e fun _ _ e'=>nomatch d.symm.trans e'
theorem ItOb.out (S:Sim h₀ h φ σ) (x:ItOb h b):b∉φ:=fun m=>x.casesOn fun _ us n e d k q=>(S.at m).casesOn fun _ e' _ kk=>Az (kk us n (Option.some.inj (e'.symm.trans e)▸d) (Option.some.inj (e'.symm.trans e)▸k)) q
theorem ItOb.notNs (x:ItOb h b) (n:h.Ns b m):False:=x.casesOn fun _ _ _ e d _ _=>DT (CQ n) fun _ e' _ _ d'=>nomatch d.symm.trans ((congrArg Obj.data (Option.some.inj (e.symm.trans e'))).trans d')
theorem ItOb.notCell (x:ItOb h b) (n:h.IsCell b v):False:=x.casesOn fun _ _ _ e d _ _=>AF n fun _ e' d'=>nomatch d.symm.trans ((congrArg Obj.data (Option.some.inj (e.symm.trans e'))).trans d')
theorem ItOb.noDict (x:ItOb h b) (e:h.get? b=some o):∀ es ep,o.data≠.dict es ep:=fun _ _ q=>x.casesOn fun _ _ _ e' d _ _=>nomatch d.symm.trans ((congrArg Obj.data (Option.some.inj (e'.symm.trans e))).trans q)
section
variable {K:Ctx}
inductive ItGo (fp:List Addr) (c:Cf K.h₀) (P:Cf K.h₀→Prop):Shared→Prop
 | mk (c':Cf K.h₀):c'.φ=c.φ→c'.σ=c.σ→WStp (·∈fp) c c'→P c'→ItGo fp c P c'.s
noncomputable def NX:Value→Shared→Prop:=fun _ _=>False
variable (K) in
structure Itr (A:Around) (t:Expr) (I:Addr) (fp:List Addr) (items:List V) (same:AD→Prop) (St:Nat→Cf K.h₀→Prop):Prop where
 new:∀ b∈fp,K.h₀.get? b=none
 mine:∀ i c,St i c→∀ b∈fp,ItOb c.s.heap b
 frame:∀ i (c c':Cf K.h₀),St i c→c.φ<+:c'.φ→same c'.σ→(∀ b∈fp,∀ o,c.s.heap.get? b=some o→c'.s.heap.get? b=some o)→(∀ V v,Rel c.s.heap c.φ V v→Rel c'.s.heap c'.φ V v)→St i c'
 item:∀ i V c,items[i]?=some V→St i c→wpAny K.M A (pyNext (.ref I)) (fun r s₁=>∃ v,r=some v∧wpAny K.M A (letOwnedTupleGo t (.ref I) v) (fun _ s₂=>ItGo fp c (fun c'=>Rel c'.s.heap c'.φ V v∧St (i+1) c') s₂) NX s₁) NX c.s
 done:∀ c,St items.length c→wpAny K.M A (pyNext (.ref I)) (fun r s₁=>r=none∧ItGo fp c (fun _=>True) s₁) NX c.s
variable (K) in
noncomputable def Fi (A:Around) (I:Addr) (St:Nat→Cf K.h₀→Prop):Prop:=∀ i c,St i c→wpAny K.M A (pyIter (.ref I)) (fun v s₁=>v=.ref I∧s₁=c.s) NX c.s
variable {c c':Cf K.h₀} {L:Loc} {ρ:List V}
theorem Fr.iter {fp:List Addr} (F:Fr c L ρ) (mine:∀ b∈fp,ItOb c.s.heap b) (st:WStp (·∈fp) c c'):Fr c' L ρ:=
 F.keep st (fun b m=>(mine b m).noTup) (fun f _ n _ m=>(mine f m).notNs n) fun b _ ic m=>(mine b m).notCell ic
theorem Fr.notOwn (F:Fr c L ρ) (x:ItOb c.s.heap b):¬ L.own b:=fun h=>h.elim (fun e=>F.ns.casesOn fun _ n _=>x.notNs (e▸n)) fun h=>BC h fun y i hy hk ec=>(F.cell y i hy (.inl hk)).casesOn fun _ _ e1 _ _ ic _=>x.notCell (Option.some.inj (e1.symm.trans ec)▸ic)
theorem QS {A:Around} {Q:Br} {t:Expr} {p:Pat} {I:Addr} {fp:List Addr} {items:List V} {same:AD→Prop} {St:Nat→Cf K.h₀→Prop} {body:List Stmt} {body':List Sx} {cp:Cf K.h₀}
  (hu:L.up=L.env::L.up.tail) (R:ROk K L.up A) (st₀:Stp AS cp c) (hfp:∀ b∈fp,cp.s.heap.get? b=none) (W:Itr K A t I fp items same St) (ht:CPat L t p) (hb:SsOk K L body body') (F:Fr c L ρ) (h0:St 0 c) (q:Fk (ET K.C p body') same items ρ c.σ Q) :
  codeAny K.M A (.forLoop t (.ref I) body [] L.env) (fun r s'=>match r with | .ok f=>PF cp L Q f s' | .error e=>PN cp L Q e s') c.s:=by
 refine codeAny_forLoop_any (fun n s'=>∃ i c' ρ',c'.s=s'∧(i+n=items.length+1∧i≤items.length)∧Stp L.own cp c'∧Fr c' L ρ'∧St i c'∧Fk (ET K.C p body') same (items.drop i) ρ' c'.σ Q) ?_ (items.length+1)
  ⟨0,c,ρ,rfl,⟨Nat.zero_add _,Nat.zero_le _⟩,st₀.any,F,h0,q⟩
 rintro n s' ⟨i,c',ρ',rfl,hn,stp,F',st',q'⟩
 refine Or.elim (Nat.lt_or_ge i items.length) (fun hlt=>?_) (fun hge=>?_)
 ·rw [List.drop_eq_getElem_cons hlt] at q'
  have mine:=W.mine i c' st'
  refine wpAny_mono (W.item i items[i] c' (List.getElem?_eq_getElem hlt) st') (fun r s₁ ⟨v,e,y⟩=>?_) fun _ _ e=>e.elim
  subst e
  refine wpAny_mono y (fun _ s₂ z=>?_) fun _ _ e=>e.elim
  refine z.casesOn fun c₂ e1 e2 s₂ rs=>?_
  have rl:=rs.1
  have st₂:=rs.2
  have F₂:=F'.iter mine s₂
  have stp₂:Stp L.own cp c₂:=stp.transNew s₂ hfp
  have mine₂:=W.mine (i+1) c₂ st₂
  refine H4 (T:=fun ρ₁=>BP body' K.C ρ₁ c₂.σ (C9 (fun ρ₂ σ₂=>same σ₂∧Fk (ET K.C p body') same (items.drop (i+1)) ρ₂ σ₂ Q) Q)) ht R.hd F₂ rl (e2▸q') fun c₃ ρ₃ f1 f2 s₃ F₃ q₃=>?_
  refine wpAny_mono (hb A c₃ ρ₃ _ R F₃ (f2.symm▸q₃)) (fun f s₄ y=>?_) fun e s₄ y=>(PE.lift (stp₂.trans s₃) ?_:PE cp L Q e s₄).note R hu
  ·have go:∀ {c₄:Cf K.h₀} {ρ₄:List V},Stp L.own c₃ c₄→Fr c₄ L ρ₄→same c₄.σ→Fk (ET K.C p body') same (items.drop (i+1)) ρ₄ c₄.σ Q →
     ∃ m,m<n∧∃ i c' ρ',c'.s=c₄.s∧(i+m=items.length+1∧i≤items.length)∧Stp L.own cp c'∧Fr c' L ρ'∧St i c'∧Fk (ET K.C p body') same (items.drop i) ρ' c'.σ Q:=fun {c₄ ρ₄} s₄ F₄ hs hq=>
    ⟨n - 1,by exact an2 .lt .v0 .v1 (.q (.a .v0 .n1) .v1 .e) rfl (Nat.sub_add_cancel (an3 .le .n1 .v0 (.t .v1 .v2 (.p (.a .v1 .v0) (.a .v2 .n1) .e)) rfl hlt hn.1)),i+1,c₄,ρ₄,rfl,⟨by exact Nat.le_antisymm (an4 .le (.a (.a .v0 .n1) .v1) (.a .v2 .n1) (.q (.a .v1 .n1) .v3 (.q (.a .v0 .v3) (.a .v2 .n1) .e)) rfl (Nat.sub_add_cancel (an3 .le .n1 .v0 (.t .v1 .v2 (.p (.a .v1 .v0) (.a .v2 .n1) .e)) rfl hlt hn.1)) hn.1) (an4 .le (.a .v0 .n1) (.a (.a .v1 .n1) .v2) (.p (.a .v1 .v3) (.a .v0 .n1) (.p (.a .v2 .n1) .v3 .e)) rfl hn.1 (Nat.sub_add_cancel (an3 .le .n1 .v0 (.t .v1 .v2 (.p (.a .v1 .v0) (.a .v2 .n1) .e)) rfl hlt hn.1))),hlt⟩,(stp₂.trans s₃).trans s₄,F₄,W.frame (i+1) c₂ c₄ st₂ (f1▸s₃.pre.trans s₄.pre) hs
     (fun b hb o e=>(s₃.trans s₄).keepE (ItOb.out c₂.sim (mine₂ b hb)) (F₂.notOwn (mine₂ b hb)) ((mine₂ b hb).noDict e) e) (fun V v r=>r.own (s₃.trans s₄).toWStp fun _ m=>F₂.noTup m),hq⟩
   exact y.casesOn (fun c₄ ρ₄ s₄ F₄ q₄=>go s₄ F₄ q₄.1 q₄.2) fun c₄ ρ₄ V u s₄ F₄ r q₄=>.ret c₄ ρ₄ V u ((stp₂.trans s₃).trans s₄) F₄ r q₄
  ·exact y.casesOn fun c₄ ρ₄ k a fp fl n hk s₄ F₄ ex h q₄=>.mk c₄ ρ₄ k a fp fl n hk s₄ F₄ ex h q₄
 ·cases Nat.le_antisymm hn.2 hge
  rw [List.drop_length] at q'
  refine wpAny_mono (W.done c' st') (fun r s₁ ⟨e,z⟩=>?_) fun _ _ e=>e.elim
  subst e
  exact z.casesOn fun c₂ e1 e2 s₂ _=>wpAny_execs_nil (.next c₂ ρ' (stp.transNew s₂ hfp) (F'.iter (W.mine _ c' st') s₂) (e2▸q'))
end
end Mine.Internal
namespace Mine.Internal
open PySem PySem.Calls
set_option genSizeOf false
set_option genInjectivity false
noncomputable def M6 (n:String):Bool:=!["enumerate", "zip", "dict_itemiterator", "dict_reverseitemiterator", "odict_iterator", "itertools.zip_longest", "itertools.pairwise"].contains n
set_option backward.match.sparseCases true in
theorem B4 (ho:s.heap.get? I=some o) (hc:o.cls=.type n)
  (hn:M6 n=true) (hQ:Q () s):wpAny M A (letOwnedTupleGo t (.ref I) v) Q E s:=by
 have key:∀ a:Addr,wpAny M A (do
   let o ← load I
   match o.cls,o.data with
   | .type n,.fields vs=>
    if ["enumerate", "zip", "dict_itemiterator", "dict_reverseitemiterator", "odict_iterator", "itertools.zip_longest", "itertools.pairwise"].contains n&&vs[0]?==some (rawInt a) then
     rule "for.unpacks-the-owned-tuple"
     updateField I 0 .none
   | _,_=>pure ()) Q E s:=fun a=>by
  refine wpAny_bind (wpAny_load ho ?_)
  obtain ⟨_,_,dt,_⟩:=o
  cases hc
  cases dt <;> first | exact wpAny_pure hQ | skip
  show wpAny M A (if (_&&_)=true then _ else pure ()) Q E s
  rw [if_neg fun h=>Bool.eq_false_iff.mp ((Bool.not_eq_true' _).mp hn) (Bool.and_eq_true_iff.mp h).1]
  exact wpAny_pure hQ
 cases t <;> first
  | exact wpAny_pure hQ
  | (cases v <;> first | exact wpAny_pure hQ | exact key _)
theorem ER:∀ (n:Nat) (a:Int),(Cv a n).length=n
 | 0,_=>rfl
 | n+1,a=>congrArg (·+1) (ER n (a+1))
theorem HC:∀ (n:Nat) (a:Int) (i:Nat) (V:V),(Cv a n)[i]?=some V→i<n∧V=.int (a+i)
 | n+1,a,0,V,e=>⟨Nat.zero_lt_succ _,(Option.some.inj e).symm.trans (by rw [Int.natCast_zero,Int.add_zero])⟩
 | n+1,a,i+1,V,e=>let ⟨h1,h2⟩:=HC n (a+1) i V e;⟨Nat.succ_lt_succ h1,h2.trans (by rw [Int.natCast_succ,Int.add_assoc,Int.add_comm 1])⟩
theorem FA:∀ (l:List V) (k:Int),(G5 k l).length=l.length
 | [],_=>rfl
 | _::r,k=>congrArg (·+1) (FA r (k+1))
theorem Hm:∀ (l:List V) (k:Int) (i:Nat) (V:V),(G5 k l)[i]?=some V→∃ W,l[i]?=some W∧V=.tup [.int (k+i),W]
 | x::r,k,0,V,e=>⟨x,rfl,(Option.some.inj e).symm.trans (by rw [Int.natCast_zero,Int.add_zero])⟩
 | x::r,k,i+1,V,e=>let ⟨W,h1,h2⟩:=Hm r (k+1) i V e;⟨W,h1,h2.trans (by rw [Int.natCast_succ,Int.add_assoc,Int.add_comm 1])⟩
section
variable {K:Ctx} {A:Around} {t:Expr} {c:Cf K.h₀}
theorem HK (new:∀ b∈fp,K.h₀.get? b=none) (mine:∀ b∈fp,ItOb c.s.heap b) (k:∀ b o,b∉fp→c.s.heap.get? b=some o→h'.get? b=some o)
  (q:∀ c':Cf K.h₀,c'.φ=c.φ→c'.σ=c.σ→c'.s.heap=h'→WStp (·∈fp) c c'→P c'):ItGo fp c P { c.s with heap:=h',toks:=tk }:=
 have ho:∀ a,a∈fp→A8 c.s.heap a∧a∉c.φ∧K.h₀.get? a=none:=fun a m=>⟨(mine a m).noTup,(mine a m).out c.sim,new a m⟩
 have st:WStp (·∈fp) c (c.keepOwn { c.s with heap:=h',toks:=tk } k ho):=⟨⟨rfl,rfl⟩,List.prefix_refl _,fun b o _ hb e=>⟨o,k b o hb e,.refl o⟩,fun _ m=>.inl m⟩
 .mk (c.keepOwn { c.s with heap:=h',toks:=tk } k ho) rfl rfl st (q _ rfl rfl rfl st)
theorem one {P:Addr→Prop} (h:P I):∀ b∈[I],P b:=fun _ m=>List.mem_singleton.mp m▸h
theorem Dy {I:Addr} {h h':Heap} (x:∀ b o,b≠I→h.get? b=some o→h'.get? b=some o):∀ b o,b∉[I]→h.get? b=some o→h'.get? b=some o:=fun b o m e=>x b o (fun q=>m (List.mem_singleton.mpr q)) e
theorem Bc (x:h.IsListIter I a i):ItOb h I:=by refine Ae x fun o e k d=>?_;exact .mk o _ _ e d k (fun _ _ q=>by simp at q)
theorem Cx {h h':Heap} {I a:Addr} {i:Nat} (x:h.IsListIter I a i) (k:∀ o,h.get? I=some o→h'.get? I=some o):h'.IsListIter I a i:=by refine AF x fun o e r=>?_;exact ⟨o,k o e,r⟩
theorem Pe {I:Addr} {n:Nat} {Vs:List V} (hh:A.handled=none) (hI:K.h₀.get? I=none):Itr K A t I [I] Vs (fun σ'=>σ'[n]?=some (.list Vs)) (fun i c=>c.σ[n]?=some (.list Vs)∧∃ a,c.φ[n]?=some a∧c.s.heap.IsListIter I a i) where
 new:=one hI
 mine _ _ x:=by refine CR x fun _ _ _ it=>?_;exact one (Bc it)
 frame _ _ _ x hp hs k _:=by refine CR x fun _ a ea it=>?_;exact ⟨hs,a,B0 hp ea,Cx it (k I (List.mem_singleton.mpr rfl))⟩
 item i V c hV x:=by
  refine CR x fun es a ea hit=>?_
  refine A6 (Cf.list (v:=.ref a) es ⟨a,rfl,ea⟩) fun a' items z e1 ea' g rl _=>?_
  cases e1
  refine AF (rl.get hV) fun v ev rv=>?_
  refine wpAny_pyNext_list_item hit ⟨_,g,rfl,z,rfl⟩ (Array.getElem?_toList▸ev) fun h' hit' hs'=>⟨v,rfl,?_⟩
  refine Ae (id hit') fun o' e' k' d'=>?_
  exact B4 e' k' (by decide) (HK (tk:=c.s.toks) (one hI) (one (Bc hit)) (Dy hs'.extBut) fun c' f1 f2 f3 st=>⟨rv.own st (one (Bc hit).noTup),f2.symm▸es,a,f1.symm▸ea,f3.symm▸hit'⟩)
 done c x:=by
  refine CR x fun es a ea hit=>?_
  refine A6 (Cf.list (v:=.ref a) es ⟨a,rfl,ea⟩) fun a' items z e1 ea' g rl _=>?_
  cases e1
  exact wpAny_pyNext_list_end hh hit ⟨_,g,rfl,z,rfl⟩ (Array.getElem?_eq_none (Nat.le_of_eq rl.size)) fun h' he'=>⟨rfl,HK (tk:=c.s.toks) (one hI) (one (Bc hit)) (Dy he') fun _ _ _ _ _=>trivial⟩
theorem NP {n:Nat} {Vs:List V}:Fi K A I (fun i c=>c.σ[n]?=some (.list Vs)∧∃ a,c.φ[n]?=some a∧c.s.heap.IsListIter I a i):=fun _ _ x=>let ⟨_,_,_,hit⟩:=x;wpAny_pyIter_listiter hit ⟨rfl,rfl⟩
theorem DO (x:IsRangeIter h I a b d):ItOb h I:=.mk _ _ _ x rfl rfl (fun _ _ q=>by simp [rawInt] at q)
theorem NS {I:Addr} {a:Int} {n:Nat} (hh:A.handled=none) (hI:K.h₀.get? I=none):Itr K A t I [I] (Cv a n) (fun _=>True) (fun i c=>IsRangeIter c.s.heap I (a+i) ((n:Int) - i) 1) where
 new:=one hI
 mine _ _ x:=one (DO x)
 frame _ _ _ x _ _ k _:=k I (List.mem_singleton.mpr rfl) _ x
 item i V c hV x:=by
  obtain ⟨hi,rfl⟩:=HC n a i V hV
  refine wpAny_pyNext_range_item x (Int.sub_pos_of_lt (Int.ofNat_lt.mpr hi)) fun h' hit' hs'=>⟨_,rfl,B4 hit' rfl (by decide) (HK (one hI) (one (DO x)) (Dy hs'.extBut) fun c' f1 f2 f3 st=>⟨BB,?_⟩)⟩
  rw [f3,Int.natCast_succ,← Int.add_assoc,← Int.sub_sub]
  exact hit'
 done c x:=wpAny_pyNext_range_end hh x (by rw [ER,Int.sub_self];exact Int.le_refl 0) fun h' he'=>⟨rfl,HK (tk:=c.s.toks) (one hI) (one (DO x)) (Dy he') fun _ _ _ _ _=>trivial⟩
theorem K1:Fi K A I (fun i c=>IsRangeIter c.s.heap I (a+i) ((n:Int) - i) 1):=fun _ _ x=>wpAny_pyIter_rangeiter x ⟨rfl,rfl⟩
theorem two {P:Addr→Prop} (h:P I) (h':P J):∀ b∈[I,J],P b:=fun _ m=>(List.mem_cons.mp m).elim (fun e=>e▸h) fun m=>List.mem_singleton.mp m▸h'
theorem I6 (x:IsEnum h I J i old):ItOb h I:=.mk _ _ _ x rfl rfl (fun _ _ q=>by simp [rawInt] at q)
theorem OR {I J:Addr} {n:Nat} {Vs:List V} {es:List Expr} {k:Nat} {p:Pos} (hh:A.handled=none) (hI:K.h₀.get? I=none) (hJ:K.h₀.get? J=none) (hIJ:I≠J) :
  Itr K A (.Tuple es k p) I [I,J] (G5 0 Vs) (fun σ'=>σ'[n]?=some (.list Vs)) (fun i c=>c.σ[n]?=some (.list Vs)∧∃ a old,c.φ[n]?=some a∧IsEnum c.s.heap I J i old∧c.s.heap.IsListIter J a i) where
 new:=two hI hJ
 mine _ _ x:=by refine B8 x fun _ _ _ _ e it=>?_;exact two (I6 e) (Bc it)
 frame _ _ _ x hp hs k _:=by refine B8 x fun _ a old ea e it=>?_;exact ⟨hs,a,old,B0 hp ea,k I List.mem_cons_self _ e,Cx it (k J (List.mem_cons_of_mem _ List.mem_cons_self))⟩
 item i V c hV x:=by
  refine B8 x fun es a old ea he hit=>?_
  refine AF (Hm Vs 0 i V hV) fun W hW ze1=>?_;subst ze1
  refine A6 (Cf.list (v:=.ref a) es ⟨a,rfl,ea⟩) fun a' items z e1 ea' g rl _=>?_
  cases e1
  refine AF (rl.get hW) fun v ev rv=>?_
  refine wpAny_pyNext_enum_item he hit ⟨_,g,rfl,z,rfl⟩ (Array.getElem?_toList▸ev) hIJ fun h₁ heo hit₁ ht₁ hz₁ hk₁=>⟨_,rfl,?_⟩
  refine wpAny_letOwnedTupleGo_enum heo fun h₂ he₂ hs₂=>?_
  have mine:=two (P:=ItOb c.s.heap) (I6 he) (Bc hit)
  refine HK (two hI hJ) mine (fun b o m e=>?_) fun c' f1 f2 f3 st=>⟨?_,f2.symm▸es,a,v,f1.symm▸ea,?_,?_⟩
  ·have hb:b≠I:=fun q=>m (q▸List.mem_cons_self)
   exact (hs₂.2 b hb).trans (hk₁ b o hb (fun q=>m (q▸List.mem_cons_of_mem _ List.mem_cons_self)) e)
  ·refine ⟨_,_,0,rfl,(congrArg (fun h=>Heap.get? h c.s.heap.objs.size) f3).trans ((hs₂.2 _ (Ne.symm (Nat.ne_of_lt (Heap.lt_size he)))).trans ht₁),?_,rv.own st fun b m=>(mine b m).noTup,trivial⟩
   rw [Int.zero_add];exact BB
  ·rw [f3,Int.natCast_succ];exact he₂
  ·rw [f3];exact Cx hit₁ fun o e=>(hs₂.2 J (Ne.symm hIJ)).trans e
 done c x:=by
  refine B8 x fun es a old ea he hit=>?_
  rw [FA] at he hit
  refine A6 (Cf.list (v:=.ref a) es ⟨a,rfl,ea⟩) fun a' items z e1 ea' g rl _=>?_
  cases e1
  refine wpAny_pyNext_enum_end hh he hit ⟨_,g,rfl,z,rfl⟩ (Array.getElem?_eq_none (Nat.le_of_eq rl.size)) fun h' he'=>⟨rfl,HK (tk:=c.s.toks) (two hI hJ) (two (I6 he) (Bc hit)) (fun b o m e=>he' b o (fun q=>m (q▸List.mem_cons_of_mem _ List.mem_cons_self)) e) fun _ _ _ _ _=>trivial⟩
theorem Ew {h:Heap} {I:Addr} {ty:String} {x:Str} {t:Tok} {i:Nat} (y:h.IsStrIter I ty x t i):ItOb h I:=by refine Ae y fun o e k d=>?_;exact .mk o _ _ e d k (fun _ _ q=>by simp at q)
theorem Rz {I:Addr} {x:Str} {u:Tok} (hh:A.handled=none) (hI:K.h₀.get? I=none):Itr K A t I [I] (x.cps.toList.map fun c=>V.str (EW c)) (fun _=>True) (fun i c=>c.s.heap.IsStrIter I "str_ascii_iterator" x u i) where
 new:=one hI
 mine _ _ y:=one (Ew y)
 frame _ _ _ y _ _ k _:=by refine AF y fun o e r=>?_;exact ⟨o,k I (List.mem_singleton.mpr rfl) o e,r⟩
 item i V c hV y:=by
  rw [List.getElem?_map] at hV
  refine AF (Option.map_eq_some_iff.mp hV) fun n hn ze1=>?_;subst ze1
  refine wpAny_pyNext_ascii_item y (Array.getElem?_toList▸hn) fun h' hit' hs'=>⟨_,rfl,?_⟩
  refine Ae (id hit') fun o' e' k' d'=>?_
  exact B4 e' k' (by decide) (HK (one hI) (one (Ew y)) (Dy hs'.extBut) fun c' f1 f2 f3 st=>⟨Bh,f3.symm▸hit'⟩)
 done c y:=by
  rw [List.length_map,Array.length_toList] at y
  exact wpAny_pyNext_ascii_end hh y (Array.getElem?_eq_none (Nat.le_refl _)) fun h' he'=>⟨rfl,HK (tk:=c.s.toks) (one hI) (one (Ew y)) (Dy he') fun _ _ _ _ _=>trivial⟩
theorem OL:Fi K A I (fun i c=>c.s.heap.IsStrIter I "str_ascii_iterator" x u i):=fun _ _ y=>wpAny_pyIter_striter_ascii y ⟨rfl,rfl⟩
theorem Eu (y:h.IsKeyIter I d i n ep):ItOb h I:=by refine Ae y fun o e k q=>?_;exact .mk o _ _ e q k (fun _ _ q=>by simp at q)
theorem RelP.key (r:RelP h φ kvs us) {i:Nat} (e:(kvs.map fun p=>Mine.Internal.V.str p.1)[i]?=some W):∃ k v,us[i]?=some (k,v)∧W=.str k:=by
 rw [List.getElem?_map] at e
 refine AF (Option.map_eq_some_iff.mp e) fun p hp ze1=>?_;subst ze1
 have:=congrArg (fun l=>l[i]?) r.1
 simp only [List.getElem?_map,hp,Option.map_some] at this
 obtain ⟨⟨k,v⟩,h1,h2⟩:=Option.map_eq_some_iff.mp this
 exact ⟨k,v,h1,by rw [← h2]⟩
theorem RelP.len (r:RelP h φ kvs us):us.length=kvs.length:=by
 have:=congrArg List.length r.1
 rwa [List.length_map,List.length_map] at this
theorem PH {I:Addr} {n ep:Nat} {kvs:List (Str × V)} (hh:A.handled=none) (hI:K.h₀.get? I=none) :
  Itr K A t I [I] (kvs.map fun p=>V.str p.1) (fun σ'=>σ'[n]?=some (.dict ep kvs)) (fun i c=>c.σ[n]?=some (.dict ep kvs)∧∃ a,c.φ[n]?=some a∧c.s.heap.IsKeyIter I a i kvs.length ep) where
 new:=one hI
 mine _ _ x:=by refine CR x fun _ _ _ it=>?_;exact one (Eu it)
 frame _ _ _ x hp hs k _:=by refine ON x fun _ a ea o e it=>?_;exact ⟨hs,a,B0 hp ea,o,k I (List.mem_singleton.mpr rfl) o e,it⟩
 item i V c hV x:=by
  refine CR x fun es a ea hit=>?_
  refine BQ (Cf.dict (v:=.ref a) es ⟨a,rfl,ea⟩) fun a' us e1 ea' D P _ _=>?_
  cases e1
  refine BM (P.key hV) fun k v ev ze1=>?_;subst ze1
  rw [← P.len] at hit
  refine wpAny_pyNext_dict_item hit D ev fun key h' hk hit' hs'=>⟨key,rfl,?_⟩
  refine Ae (id hit') fun o' e' k' d'=>?_
  apply DR (Value.isStrOf_shape hk);intro u
  exact B4 e' k' (by decide) (HK (tk:=c.s.toks) (one hI) (one (Eu hit)) (Dy hs'.extBut) fun c' f1 f2 f3 st=>⟨Bh,f2.symm▸es,a,f1.symm▸ea,f3.symm▸P.len▸hit'⟩)
 done c x:=by
  refine CR x fun es a ea hit=>?_
  refine BQ (Cf.dict (v:=.ref a) es ⟨a,rfl,ea⟩) fun a' us e1 ea' D P _ _=>?_
  cases e1
  rw [List.length_map,← P.len] at hit
  exact wpAny_pyNext_dict_end hh hit D (List.getElem?_eq_none (Nat.le_refl _)) fun h' he'=>⟨rfl,HK (tk:=c.s.toks) (one hI) (one (Eu hit)) (Dy he') fun _ _ _ _ _=>trivial⟩
theorem NY {n ep:Nat}:Fi K A I (fun i c=>c.σ[n]?=some (.dict ep kvs)∧∃ a,c.φ[n]?=some a∧c.s.heap.IsKeyIter I a i kvs.length ep):=fun _ _ x=>let ⟨_,_,_,hit⟩:=x;wpAny_pyIter_keyiter hit ⟨rfl,rfl⟩
end
end Mine.Internal
namespace Mine.Internal
open PySem PySem.Calls
set_option genSizeOf false
set_option genInjectivity false
noncomputable def By:List Str:=["len", "list", "tuple", "sorted", "str", "int", "min", "max", "isinstance", "range", "enumerate", "set", "bool", "all", "ValueError"]
noncomputable def AW:Str:="Rack"
noncomputable def CE:List Str:=["shelves", "boxes", "places"]
noncomputable def Ir:List Str:=["__setattr__", "__getattribute__", "__getattr__", "shelves", "boxes", "places"]
noncomputable def K5 (h₀:Heap) (mN:Str→Option Value) (m:Str) (a:Addr):Prop:=mN m=some (.ref a)∧∃ o fd,h₀.get? a=some o∧o.cls=.type "function"∧o.data=.func fd
structure ClsG (h₀:Heap) (G:GlT) (fa:Nat→Addr) (mg:Str→Option Value) (C:Addr) (i:Nat):Prop where
 bound:mg AW=some (.ref C)
 ns:∃ N mN,PyProof.Rows.ClsAt h₀ C N mN∧(∀ n∈Ir,mN n=none)∧(∀ m j,G.lookup (AW++"."++m)=some (.fn j)→K5 h₀ mN m (fa j))∧K5 h₀ mN "__init__" (fa i)
noncomputable def bmV:List Value:=[.type "ValueError", .type "Exception", .type "BaseException", .type "object"]
inductive ExcCls (h₀:Heap) (k:Nat) (mro:List Value):Prop
 | mk (bm:List Value) (N:Addr) (nm q:Str) (bs:List Value) (hdct:Bool) (sn:List Str) (sub:List Value) (ab:Bool) (col:Option Bool) (dd:Option Addr) (k0 k1 k2 k3 k5:Option Value) (mN:Str→Option Value) :
  h₀.get? k=some (excClassObj nm q k N bs bm hdct sn sub ab col dd k0 k1 k2 k3 k5 "ValueError.__new__")→h₀.Ns N mN→mN "__init__"=none→OwnTail h₀ bmV bm→.ref k::bm=mro→ExcCls h₀ k mro
structure ExcG (h₀:Heap) (excs:List Nat) (mg:Str→Option Value) (x:Str) (k:Nat) (ks:List Nat):Prop where
 bound:mg x=some (.ref k)
 mem:k∈excs
 kids:∀ k'∈excs,∃ mro,ExcCls h₀ k' mro∧mro.contains (.ref k)=ks.contains k'
structure Gnd (K:Ctx) (G:GlT) (fa:Nat→Addr) (mg mb:Str→Option Value):Prop where
 ns:K.h₀.heap.Ns mainGlobals mg
 nsb:K.h₀.heap.Ns builtinsNs mb
 nolimit:K.h₀.heap.NoLimit
 fn:∀ x i,G.lookup x=some (.fn i)→(∀ m,x≠AW++"."++m)→mg x=some (.ref (fa i))
 isfn:∀ x i,G.lookup x=some (.fn i)→∃ o fd,K.h₀.get? (fa i)=some o∧o.data=.func fd
 str:∀ x z,G.lookup x=some (.str z)→∃ t,mg x=some (.str z t)
 int:∀ x z,G.lookup x=some (.int z)→∃ t,mg x=some (.int z t)
 blt:∀ x∈By,G.lookup x=none→mg x=none
 bv:∀ x:Str,x≠"__name__"→mb x=bootBuiltins x
 cls:∀ C i,G.lookup AW=some (.cls C i)→ClsG K.h₀.heap G fa mg C i
 exc:∀ x k ks,G.lookup x=some (.exc k ks)→ExcG K.h₀.heap K.excs mg x k ks
 lam:∀ c P,G.lookup ("<lambda>":Str)=some (.tabl c P)→PySem.W.CodeHd K.h₀.heap c P∧K.h₀.heap.BuiltinsAt mg P∧mainGlobals≠P
noncomputable def Bb (sc:Scope) (x:Str):Bool:=sc.names.lookup x==some NameKind.globalImplicit
noncomputable def Ai (G:GlT) (sc:Scope) (x:Str):Bool:=Bb sc x&&(G.lookup x).isNone
section
variable {K:Ctx} {L:Loc} {G:GlT} {fa:Nat→Addr} {mg mb:Str→Option Value}
theorem Fv {env:Env} {x:Str} (h:Bb env.scope x=true):env.kindOf x=some .globalImplicit:=beq_iff_eq.mp h
theorem Ke (hb:x∈By):x≠"__name__"∧(x==("__debug__":Str))=false:=
 (by decide +kernel:∀ x∈By,x≠"__name__"∧(x==("__debug__":Str))=false) x hb
section
variable {A:Around} {c:Cf K.h₀} {ρ:List V} {x:Str} {pos:Pos} {Q:Value→Shared→Prop} {E:Value→Shared→Prop}
theorem Cb (g:Gnd K G fa mg mb) (F:Fr c L ρ) {v:Value} (hv:mg x=some v) (hk:Bb L.env.scope x=true) (hd:(x==("__debug__":Str))=false) (h:Q v c.s):wpAny K.M A (eval (.Name x pos) L.env) Q E c.s:=
 Name_function_global F.fn (Fv hk) (loadGlobal_global (F.glob▸g.ns.keeps c.sim.keep) hv h) hd
theorem Bw (g:Gnd K G fa mg mb) (F:Fr c L ρ) {v:Value} (hx:Ai G L.env.scope x=true) (hb:x∈By) (hv:bootBuiltins x=some v) (h:Q v c.s):wpAny K.M A (eval (.Name x pos) L.env) Q E c.s:=
 have hx:=Bool.and_eq_true_iff.mp hx
 Name_function_global F.fn (Fv hx.1) (loadGlobal_builtin (F.glob▸g.ns.keeps c.sim.keep) (g.blt x hb (Option.isNone_iff_eq_none.mp hx.2)) (F.blt▸g.nsb.keeps c.sim.keep) ((g.bv x (Ke hb).1).trans hv) h) (Ke hb).2
end
theorem Sa (g:Gnd K G fa mg mb) (hx:G.lookup x=some (.str z)) (hk:Bb L.env.scope x=true) (hd:CS x=true):EOk K L (.Name x pos) (Ad z):=fun _ _ _ _ _ _ F q=>
 let ⟨_,e⟩:=g.str x z hx;Cb g F e hk (C4 hd) (PV.same Bh q)
theorem RT (g:Gnd K G fa mg mb) (hx:G.lookup x=some (.int z)) (hk:Bb L.env.scope x=true) (hd:CS x=true):EOk K L (.Name x pos) (AB z):=fun _ _ _ _ _ _ F q=>
 let ⟨_,e⟩:=g.int x z hx;Cb g F e hk (C4 hd) (PV.same BB q)
noncomputable def Bv (es:List Expr):Prop:=∀ env pos,(backTo pos (starEach es env)).any (·.1)=false
theorem BS:Bv []:=fun _ _=>rfl
theorem BL (h:Aw e) (hs:Bv es):Bv (e::es):=fun env pos=>by
 rw [h es env]
 show (false||(backTo pos (starEach es env)).any (·.1))=false
 rw [hs env pos];rfl
theorem CY:eval (.Call (.Name f pf) es [] pos) env=(do callWith pos (← eval (.Name f pf) env) [] (backTo pos (starEach es env)) []):=rfl
theorem ME (R:ROk K L.up A) (hn:Aw e) (hl:LOk K L (e::es) as) (F:Fr c L ρ) (q:evs as K.C ρ c.σ Q X)
  (h:∀ (c₁:Cf K.h₀) (Vs:List V) (vals:List Value),Stp AS c c₁→RelL c₁.s.heap c₁.φ Vs vals→Q Vs c₁.σ→P ⟨vals,[]⟩ c₁.s):wpAny K.M A (evalArgs f true (backTo pos (starEach (e::es) L.env)) []) P (PX c X) c.s:=by
 have hl':=Jk (.refl c) (hl A c ρ Q X pos R F q) fun c₁ Vs vals s₁ _ r q=>h c₁ Vs vals s₁ r q.2
 rw [hn es L.env] at hl' ⊢
 exact evalArgs_plain hl'
theorem Oy (R:ROk K L.up A) (hn:Aw e) (hl:LOk K L (e::es) as) (F:Fr c L ρ) (q:evs as K.C ρ c.σ Q X)
  (h:∀ (c₁:Cf K.h₀) (Vs:List V) (vals:List Value),Stp AS c c₁→RelL c₁.s.heap c₁.φ Vs vals→Vs.length=(e::es).length→Q Vs c₁.σ→P ⟨vals,[]⟩ c₁.s):wpAny K.M A (evalArgs f true (backTo pos (starEach (e::es) L.env)) []) P (PX c X) c.s:=by
 have hl':=Jk (.refl c) (hl A c ρ Q X pos R F q) fun c₁ Vs vals s₁ _ r q=>h c₁ Vs vals s₁ r q.1 q.2
 rw [hn es L.env] at hl' ⊢
 exact evalArgs_plain hl'
theorem Du (hf:(∃ T,f=.type T)∨∃ T,f=.builtin T) (R:ROk K L.up A) (hn:Aw e) (hns:Bv (e::es))
  (hl:LOk K L (e::es) as) (F:Fr c L ρ) (q:evs as K.C ρ c.σ Q X) (h:∀ (c₁:Cf K.h₀) (Vs:List V) (vals:List Value),Stp AS c c₁→RelL c₁.s.heap c₁.φ Vs vals→Q Vs c₁.σ→wpAny K.M A (call f vals) P (PX c X) c₁.s) :
  wpAny K.M A (callWith pos f [] (backTo pos (starEach (e::es) L.env)) []) P (PX c X) c.s:=by
 have key:wpAny K.M A (evalArgs f true (backTo pos (starEach (e::es) L.env)) []) (fun a s₁=>wpAny K.M A (call f ([]++a.pos) a.kw) P (PX c X) s₁) (PX c X) c.s:=ME R hn hl F q h
 rcases hf with ⟨T,rfl⟩ | ⟨T,rfl⟩
 ·exact PySem.callWith_type (hns _ _) key
 ·exact callWith_builtin (hns _ _) key
variable (K) in
inductive ItAt (A:Around) (c:Cf K.h₀) (k:SrcT) (t:Expr) (Q:List V→(AD→Prop)→AD→Prop):Value→Shared→Prop
 | mk (c₁:Cf K.h₀) (items:List V) (same:AD→Prop) (I:Addr) (fp:List Addr) (St:Nat→Cf K.h₀→Prop):Stp AS c c₁→Q items same c₁.σ→same c₁.σ→Itr K A t I fp items same St→St 0 c₁→(∀ b∈fp,c.s.heap.get? b=none)→(k≠.enum→Fi K A I St)→ItAt A c k t Q (.ref I) c₁.s
variable (K L) in
noncomputable def Fx (iter:Expr) (k:SrcT) (as:List Ex) (t:Expr):Prop:=
 ∀ (A:Around) (c:Cf K.h₀) (ρ:List V) (Q:List V→(AD→Prop)→AD→Prop) (X:AY),ROk K L.up A→Fr c L ρ→evs as K.C ρ c.σ (fun Vs σ₁=>∃ items same,SrcK σ₁ k Vs items same∧Q items same σ₁) X →
  wpAny K.M A (eval iter L.env) (fun x s₁=>wpAny K.M A (pyIter x) (ItAt K A c k t Q) (PX c X) s₁) (PX c X) c.s
theorem BG {h:Heap} {o:Obj}:∀ b ob,h.get? b=some ob→(h.push o).get? b=some ob:=fun _ _ e=>Heap.get?_push_of_some _ e
theorem Ed {h:Heap} {o o':Obj}:∀ b ob,h.get? b=some ob→((h.push o).push o').get? b=some ob:=fun _ _ e=>Heap.get?_push_of_some _ (Heap.get?_push_of_some _ e)
theorem Ag {h:Heap}:h.get? h.objs.size=none:=BU (Nat.le_refl _)
theorem Ek {h:Heap} {o:Obj}:h.get? (h.push o).objs.size=none:=BU (by rw [Heap.size_push];exact Nat.le_succ _)
theorem NW {iter:Expr} {a:Ex} {t:Expr} (h:EOk K L iter a):Fx K L iter .plain [a] t:=fun A c ρ Q X R F q=>
 seq (.refl c) (h A c ρ _ X R F q) fun c₁ V v s₁ _ r ⟨items,same,sk,q₁⟩=>by
  cases sk with
  | list en=>
   apply Cf.listE en r;intro l its z el g rr hz
   have st:Stp AS c₁ (c₁.keep { c₁.s with heap:=c₁.s.heap.push { cls:=.type "list_iterator", data:=.fields #[.ref l,.int 0 0] } } BG):=Cf.keep_stp ⟨rfl,rfl⟩
   exact wpAny_pyIter_list g.isList (.mk (c₁.keep _ BG) _ _ _ _ _ (s₁.trans st) q₁ en (Pe R.hd (c₁.sim.none₀ Ag)) ⟨en,l,el,⟨_,Heap.get?_push_size _ rfl,rfl,rfl⟩⟩ (one (s₁.gone Ag)) fun _=>NP)
  | @str x ha=>
   apply DR r;intro u
   have st:Stp AS c₁ (c₁.keep { c₁.s with heap:=c₁.s.heap.push { cls:=.type "str_ascii_iterator", data:=.fields #[.str x u,.int 0 0] } } BG):=Cf.keep_stp ⟨rfl,rfl⟩
   exact wpAny_pyIter_ascii ha (.mk (c₁.keep _ BG) _ _ _ _ _ (s₁.trans st) q₁ trivial (Rz R.hd (c₁.sim.none₀ Ag)) ⟨_,Heap.get?_push_size _ rfl,rfl,rfl⟩ (one (s₁.gone Ag)) fun _=>OL)
  | @dict n ep kvs en=>
   apply Cf.dictE en r;intro l us el D P _ hs
   have st:Stp AS c₁ (c₁.keep { c₁.s with heap:=c₁.s.heap.push { cls:=.type "dict_keyiterator", data:=.fields #[.ref l,.int 0 0,.int us.length 0,.int ep 0] } } BG):=Cf.keep_stp ⟨rfl,rfl⟩
   exact wpAny_pyIter_dict hs D (.mk (c₁.keep _ BG) _ _ _ _ _ (s₁.trans st) q₁ en (PH R.hd (c₁.sim.none₀ Ag)) ⟨en,l,el,⟨_,Heap.get?_push_size _ rfl,rfl,by rw [← P.len];rfl⟩⟩ (one (s₁.gone Ag)) fun _=>NY)
theorem LQ:bootBuiltins "range"=some (.type "range"):=by decide +kernel
theorem G9:bootBuiltins "enumerate"=some (.type "enumerate"):=by decide +kernel
theorem OS {A:Around} {c c₁:Cf K.h₀} {a b:Int} {tk:Nat} {t1 t2 t3:Tok} {o:Obj} {t:Expr} {n:Nat} {Q:List V→(AD→Prop)→AD→Prop} {E:Value→Shared→Prop} (hh:A.handled=none) (s₁:Stp AS c c₁) (ha:-(2 ^ 62)≤a) (ha':a<2 ^ 62) (hb:-(2 ^ 62)≤b) (hb':b<2 ^ 62)
  (hr:IsRange (c₁.s.heap.push o) c₁.s.heap.objs.size a b 1 t1 t2 t3) (hn:Builtin.Range.rangeSize a b 1=n) (q:Q (Cv a n) (fun _=>True) c₁.σ):wpAny K.M A (pyIter (.ref c₁.s.heap.objs.size)) (ItAt K A c .range t Q) E { c₁.s with heap:=c₁.s.heap.push o,toks:=tk }:=by
 refine wpAny_pyIter_range hr (small_one ha ha' hb hb') ?_
 rw [hn]
 exact .mk (c₁.keep { c₁.s with heap:=(c₁.s.heap.push o).push _,toks:=_ } Ed) _ _ _ _ _ (s₁.trans (Cf.keep_stp ⟨rfl,rfl⟩)) q trivial (NS (a:=a) (n:=n) hh (c₁.sim.none₀ Ek)) ((Heap.get?_push_size _ rfl).trans (by simp)) (one (s₁.gone Ek)) fun _=>K1
theorem rsz (a b:Int):(if a<b then b - a else 0)=((b - a).toNat:Int):=by
 split
 ·rename_i h;exact (Int.toNat_of_nonneg (Int.sub_nonneg_of_le (Int.le_of_lt h))).symm
 ·rename_i h;rw [Int.toNat_of_nonpos (Int.sub_nonpos_of_le (Int.not_lt.mp h))];rfl
theorem NI (g:Gnd K G fa mg mb) (hx:Ai G L.env.scope ("range":Str)=true) (hn:Aw e) (hns:Bv (e::es)) (hl:LOk K L (e::es) as) :
  Fx K L (.Call (.Name ("range":Str) pf) (e::es) [] pos) .range as t:=fun A c ρ Q X R F q=>by
 rw [CY]
 refine wpAny_bind (Bw g F hx (by decide) LQ (Du (.inl ⟨_,rfl⟩) R hn hns hl F q fun c₁ Vs vals s₁ r ⟨items,same,sk,q₁⟩=>?_))
 have h62:((Ab:Nat):Int)<2 ^ 62:=by decide
 cases sk with
 | @range b h1 h2=>
  refine Fs r.one fun _ ze1 u ze2=>?_;subst ze1;subst ze2
  exact call_range_1 (OS R.hd s₁ (by decide) (by decide) h1 (Int.lt_of_le_of_lt h2 h62) (IsRange.new _ _ _ _ _ _ _) (by rw [rangeSize_one,rsz,Int.sub_zero]) q₁)
theorem OA (g:Gnd K G fa mg mb) {e:Expr} {a:Ex} {ts:List Expr} {kt:Nat} {pt pf pos:Pos} (hx:Ai G L.env.scope ("enumerate":Str)=true) (hn:Aw e) (hl:LOk K L [e] [a]) :
  Fx K L (.Call (.Name ("enumerate":Str) pf) [e] [] pos) .enum [a] (.Tuple ts kt pt):=fun A c ρ Q X R F q=>by
 rw [CY]
 refine wpAny_bind (Bw g F hx (by decide) G9 (Du (.inl ⟨_,rfl⟩) R hn (BL hn BS) hl F q fun c₁ Vs vals s₁ r ⟨items,same,sk,q₁⟩=>?_))
 cases sk with
 | enum en=>
  refine AF r.one fun _ ze1 r'=>?_;subst ze1
  apply Cf.listE en r';intro l its z el gl rr hz
  refine call_enumerate_list gl.isList fun h' he hit hsz kk=>wpAny_pyIter_enum he ?_
  have n1:c₁.s.heap.get? (c₁.s.heap.objs.size+1)=none:=BU (Nat.le_succ _)
  exact .mk (c₁.keep { c₁.s with heap:=h' } kk) _ _ _ _ _ (s₁.trans (Cf.keep_stp ⟨rfl,rfl⟩)) q₁ en (OR R.hd (c₁.sim.none₀ n1) (c₁.sim.none₀ Ag) (Nat.succ_ne_self _)) ⟨en,l,.none,el,he,hit⟩ (two (s₁.gone n1) (s₁.gone Ag)) fun h=>absurd rfl h
theorem ST {pos} (hu:L.up=L.env::L.up.tail) (hs:∀ x,foldedSetIterable iter L.env x=pure x) (ht:CPat L t p) (hi:Fx K L iter k as t) (hb:SsOk K L body body') :
  SOk K L (.For t iter body [] pos) (Bt p k as body'):=fun A c ρ Q R F q=>
 wpAny_For (wpAny_mono (hi A c ρ (fun items same σ₁=>Fk (ET K.C p body') same items ρ σ₁ Q) _ R F q) (fun _ _ y=>wpAny_mono y (fun _ _ z=>z.casesOn fun c₁ _ _ _ _ _ s₁ q₁ _ W st0 hfp _=>codeAny_mono (QS hu R s₁ hfp W ht hb (F.step s₁) st0 q₁) fun r _ hr=>by
   cases r with
   | ok _=>exact hr
   | error _=>exact PN.came R hu hr) fun _ _ e=>e.toE F) fun _ _ e=>e.toE F) hs
variable (K) in
noncomputable def KM (c:Cf K.h₀) (Q:AO) (X:AY):Result→Shared→Prop
 | .ok (.ret v),s=>PV c Q v s
 | .ok _,_=>False
 | .error e,s=>PX c X e s
structure RCall (K:Ctx) (up:List Env) (A:Around):Prop where
 hd:A.handled=none
 depth:A.depth+3*K.d<903
 units:A.units+12*K.d<9009
 fr:A.frames=some up
theorem ROk.call (R:ROk K up A):RCall K up A:=⟨R.hd,Nat.lt_succ_of_lt R.depth,Nat.lt_of_lt_of_le R.units (by decide),R.fr⟩
variable (K G) in
noncomputable def GY (fa:Nat→Addr):Prop:=∀ (x:Str) (i:Nat),G.lookup x=some (.fn i)→∀ (A:Around) (up:List Env) (c:Cf K.h₀) (Vs:List V) (vals:List Value) (Q:AO) (X:AY),RCall K up A→(∀ e∈up,FrameAt c e)→RelL c.s.heap c.φ Vs vals→K.C i Vs c.σ Q X →
 codeAny K.M A (.call (.ref (fa i)) ⟨vals,[]⟩) (KM K c Q X) c.s
theorem IS {vals:List Value} (s₁:Stp AS c c₁) (h:codeAny K.M A (.call (.ref a) ⟨vals,[]⟩) (KM K c₁ Q X) c₁.s):wpAny K.M A (call (.ref a) vals) (PV c Q) (PX c X) c₁.s:=
 wpAny_call (codeAny_mono h fun r _ hr=>match r,hr with
  | .ok (.ret _),hr=>hr.lift s₁
  | .error _,hr=>hr.lift s₁)
theorem Rm (g:Gnd K G fa mg mb) (hC:GY K G fa) (hx:G.lookup x=some (.fn i)) (hm:∀ m,x≠AW++"."++m) (hk:Bb L.env.scope x=true) (hd:CS x=true) (hn:Aw e) (hl:LOk K L (e::es) as) :
  EOk K L (.Call (.Name x pf) (e::es) [] pos) (AQ i as):=fun A c ρ Q X R F q=>by
 rw [CY]
 refine BM (g.isfn x i hx) fun o fd ho hdat=>?_
 refine wpAny_bind (Cb g F (g.fn x i hx hm) hk (C4 hd) (callWith_function (o:=o) (fd:=fd) (ME R hn hl F q fun c₁ Vs vals s₁ r q₁=>?_)))
 exact ⟨⟨c₁.sim.keep _ _ ho,hdat⟩,IS s₁ (hC x i hx A L.up c₁ Vs vals Q X R.call (F.step s₁).up r q₁)⟩
end
end Mine.Internal
namespace Mine.Internal
open PySem PySem.Calls
noncomputable def Lh:Ty→String
 | .int=>"int" | .bool=>"bool" | .str=>"str" | .tuple=>"tuple" | .list=>"list"
theorem OT:bootBuiltins "len"=some (.builtin "len"):=by decide +kernel
theorem Ha:bootBuiltins "list"=some (.type "list"):=by decide +kernel
theorem LN:bootBuiltins "tuple"=some (.type "tuple"):=by decide +kernel
theorem D7:bootBuiltins "sorted"=some (.builtin "sorted"):=by decide +kernel
theorem KU:bootBuiltins "str"=some (.type "str"):=by decide +kernel
theorem J0:bootBuiltins "int"=some (.type "int"):=by decide +kernel
theorem NC:bootBuiltins "bool"=some (.type "bool"):=by decide +kernel
theorem P2:bootBuiltins "max"=some (.builtin "max"):=by decide +kernel
theorem F3:bootBuiltins "isinstance"=some (.builtin "isinstance"):=by decide +kernel
theorem QG:bootBuiltins "all"=some (.builtin "all"):=by decide +kernel
theorem N9:bootBuiltins "set"=some (.type "set"):=by decide +kernel
section
variable {K:Ctx} {L:Loc} {G:GlT} {fa:Nat→Addr} {mg mb:Str→Option Value}
noncomputable def GV:Pr→Value
 | .len=>.builtin "len" | .list=>.type "list" | .str=>.type "str" | .int=>.type "int" | .max=>.builtin "max" | .all=>.builtin "all" | .isinst _=>.builtin "isinstance"
noncomputable def LC:Pr→List Value→List Value
 | .isinst t,vs=>vs++[.type (Lh t)]
 | _,vs=>vs
theorem Mx {bs:List Bool}:(List.range bs.length).all (fun i=>(bs[i]?).getD true)=bs.all id:=by
 rw [Bool.eq_iff_iff,List.all_eq_true,List.all_eq_true]
 constructor
 ·intro h b hb
  obtain ⟨i,hi,rfl⟩:=List.getElem_of_mem hb
  have:=h i (List.mem_range.mpr hi)
  rwa [List.getElem?_eq_getElem hi] at this
 ·intro h i hi
  rw [List.getElem?_eq_getElem (List.mem_range.mp hi)]
  exact h _ (List.getElem_mem _)
theorem NB {A:Around} {c:Cf K.h₀} {a:Addr} {items:Array Value} {k:Nat} {bs:List Bool} {Q:AO} {E:Value→Shared→Prop} (hh:A.handled=none) (g:IsL c.s.heap a items k) (rl:RelL c.s.heap c.φ (bs.map .bool) items.toList) (q:Q (.bool (bs.all id)) c.σ) :
  wpAny K.M A (call (.builtin "all") [.ref a]) (PV c Q) E c.s:=by
 have hz:items.size=bs.length:=by rw [rl.size,List.length_map]
 refine call_all_walk (wpAny_pyIter_list g.isList ⟨_,[_,a],[_],items.size,_,_,fun i=>(bs[i]?).getD true,rfl,Walks.list (A:=A.in1) hh c.s.heap.objs.size a (Nat.ne_of_lt (Heap.lt_size g)) items,⟨⟨_,Heap.get?_push_size _ rfl,rfl,rfl⟩,g.isList.push _⟩,fun i v s Q E hP hQ=>?_,fun h' tk hk=>?_⟩)
 ·obtain ⟨V,hV⟩:∃ b,bs[i]?=some b:=by
   have:=(Array.getElem?_eq_some_iff.mp hP).1
   exact ⟨_,List.getElem?_eq_getElem (hz▸this)⟩
  refine AF (rl.get (i:=i) (V:=.bool V) (by rw [List.getElem?_map,hV];rfl)) fun u eu ru=>?_
  rw [Array.getElem?_toList,hP] at eu
  cases eu;cases ru
  dsimp only at hQ
  rw [hV] at hQ
  exact wpAny_truthy_bool hQ
 ·rw [hz,Mx]
  exact PV.kept (fun b o e=>hk b o (fun m=>by rw [List.mem_singleton.mp m,Ag] at e;cases e) (Heap.get?_push_of_some _ e)) BX q
theorem Ma {A:Around} {c:Cf K.h₀} {p:Pr} {Vs:List V} {vals:List Value} {Q:AO} {E:Value→Shared→Prop} (hh:A.handled=none) (r:RelL c.s.heap c.φ Vs vals) (q:PrimK c.σ Q p Vs):wpAny K.M A (call (GV p) (LC p vals)) (PV c Q) E c.s:=by
 cases q with
 | lenL e q=>
  refine AF r.one fun v ze1 r'=>?_;subst ze1
  apply Cf.listE e r';intro a items k _ g rl z
  exact call_len_list g.isList (rl.size▸JN z) (by rw [rl.size];exact PV.plain BB q)
 | lenT hz q=>
  refine Eo r.one fun v ze1 a items n ze2 g rl=>?_;subst ze1;subst ze2
  exact PySem.P.len_tuple g (Int.not_le.mpr (rl.size▸JN (DC hz))) (by rw [rl.size];exact PV.plain BB q)
 | lenS hz q=>
  refine Fs r.one fun v ze1 t ze2=>?_;subst ze1;subst ze2
  exact PySem.P.len_str (Int.not_le.mpr (JN (DC hz))) (PV.plain BB q)
 | all e q=>
  refine AF r.one fun v ze1 r'=>?_;subst ze1
  apply Cf.listE e r';intro a items k _ g rl z
  exact NB hh g rl q
 | list e q=>
  refine AF r.one fun v ze1 r'=>?_;subst ze1
  apply Cf.listE e r';intro a items k _ g rl z
  exact PySem.call_list_seq (hsz:=CL (rl.size▸z)) a (.inl rfl) g rfl rfl fun h' c' hk hD=>PV.list (tk:=c.s.toks) rl z Ag hk hD q
 | str hb q=>
  refine Fs r.one fun v ze1 t ze2=>?_;subst ze1;subst ze2
  exact PySem.P.str_of_int (Nat.lt_of_lt_of_le (C6 hb) (by decide)) (PV.plain Bh q)
 | intB q=>refine AF r.one fun v ze1 ze2=>?_;subst ze1;subst ze2;exact call_int_bool (PV.plain BB q)
 | max q=>
  refine Ql r.two fun v u ze1 zt2 t' ze3=>AX zt2 fun t ze4=>?_;subst ze1;subst ze3;subst ze4
  exact max_two_ints hh fun h' tk k=>PV.kept k (by split <;> exact BB) q
 | isB q=>refine AF r.one fun v ze1 ze2=>?_;subst ze1;subst ze2;exact IsiPair.bool_bool (PV.same BX q)
 | isI q=>refine Fs r.one fun v ze1 u ze2=>?_;subst ze1;subst ze2;exact IsiPair.int_int (PV.same BX q)
 | isN q=>refine Fs r.one fun v ze1 u ze2=>?_;subst ze1;subst ze2;exact IsiPair.int_bool (PV.plain BX q)
 | isS q=>refine Fs r.one fun v ze1 u ze2=>?_;subst ze1;subst ze2;exact IsiPair.str_str (PV.same BX q)
 | isT q=>refine Eo r.one fun v ze1 a items n ze2 g rl=>?_;subst ze1;subst ze2;exact IsiPair.isTuple_tuple ⟨_,g,rfl,n,rfl⟩ (fun _ _ e=>e) (PV.same BX q)
 | isL e q=>
  refine AF r.one fun v ze1 r'=>?_;subst ze1
  apply Cf.listE e r';intro a items k _ g rl z
  exact IsiPair.isList_list g.isList (fun _ _ e=>e) (PV.same BX q)
theorem UA (g:Gnd K G fa mg mb) (hp:∀ vs,LC p vs=vs) (hx:Ai G L.env.scope x=true) (hb:x∈By) (hv:bootBuiltins x=some (GV p))
  (hf:(∃ T,GV p=.type T)∨∃ T,GV p=.builtin T) (hn:Aw e) (hns:Bv (e::es)) (hl:LOk K L (e::es) as):EOk K L (.Call (.Name x pf) (e::es) [] pos) (Ah p as):=fun A c ρ Q X R F q=>by
 rw [CY]
 exact wpAny_bind (Bw g F hx hb hv (Du hf R hn hns hl F q fun c₁ Vs vals s₁ r q₁=>fin s₁ (hp vals▸Ma R.hd r q₁)))
theorem M8 (g:Gnd K G fa mg mb) (hi:Ai G L.env.scope ("isinstance":Str)=true) (hx:Ai G L.env.scope x=true) (hb:x∈By) (hv:bootBuiltins x=some (.type (Lh ty)))
  (hn:Aw e) (h:EOk K L e a):EOk K L (.Call (.Name ("isinstance":Str) pf) [e,.Name x pt] [] pos) (Ah (.isinst ty) [a]):=fun A c ρ Q X R F q=>by
 rw [CY]
 refine wpAny_bind (Bw g F hi (by decide) F3 (callWith_builtin (by rw [hn];rfl) ?_))
 have key:wpAny K.M A (spliced (backTo pos (starEach [e,.Name x pt] L.env))) (fun vals s₁=>wpAny K.M A (call (.builtin "isinstance") ([]++vals) []) (PV c Q) (PX c X) s₁) (PX c X) c.s:=
  wpAny_items_cons (seq (.refl c) (h A c ρ _ X R F q) fun c₁ V v s₁ _ r q₁=>wpAny_items_cons (Bw g (F.step s₁) hx hb hv (wpAny_items_nil (fin s₁ (Ma (c:=c₁) (Vs:=[V]) (vals:=[v]) R.hd ⟨r,trivial⟩ q₁))))) (hn _ _)
 rw [hn] at key ⊢
 exact evalArgs_plain key
theorem Mt {α:Type} {l:List α} (h:l.Nodup) {i j:Nat} {a:α} (hi:l[i]?=some a) (hj:l[j]?=some a):i=j:=by
 refine AX (List.getElem?_eq_some_iff.mp hi) fun hi ei=>?_
 refine AX (List.getElem?_eq_some_iff.mp hj) fun hj ej=>?_
 rw [List.nodup_iff_pairwise_ne,List.pairwise_iff_getElem] at h
 refine Jr (Nat.lt_trichotomy i j) (fun q=>?_) (fun q=>?_) (fun q=>?_)
 ·exact absurd (ei.trans ej.symm) (h i j hi hj q)
 ·exact q
 ·exact absurd (ej.trans ei.symm) (h j i hj hi q)
theorem Cf.setO (ea:c.φ[n]?=some a) (hn0:n≠0) (kk:∀ b ob,b≠a→c.s.heap.get? b=some ob→h'.get? b=some ob) (hr:∀ (_:∀ Vs us,RelL c.s.heap c.φ Vs us→RelL h' c.φ Vs us),RelO K.h₀ h' c.φ o a) :
  ∃ c':Cf K.h₀,c'.s={ c.s with heap:=h',toks:=tk }∧c'.φ=c.φ∧c'.σ=c.σ.set n o∧Stp AS c c':=by
 have ma:a∈c.φ:=List.mem_of_getElem? ea
 have kt:∀ b items n,c.s.heap.get? b=some { cls:=.type "tuple", data:=.seq items n }→h'.get? b=some { cls:=.type "tuple", data:=.seq items n }:=fun b items n e=>kk b _ (fun q=>c.sim.noTup ma items n (q▸e)) e
 have hr:=hr fun Vs us r=>RelL.keep kt (List.prefix_refl _) Vs us r
 have S:Sim K.h₀ h' c.φ (c.σ.set n o):=by
  refine ⟨fun b ob e=>kk b ob (fun q=>?_) (c.sim.keep b ob e),by rw [List.length_set];exact c.sim.len,c.sim.nodup,c.sim.new,fun m ob e=>?_⟩
  ·match n,hn0 with
   | n+1,_=>rw [q,c.sim.new n a ea] at e;cases e
  ·by_cases hm:n=m
   ·subst hm;exact ⟨a,ea,CU e▸hr⟩
   ·rw [EX hm] at e
    refine AF (c.sim.obj m ob e) fun b eb r=>?_
    exact ⟨b,eb,r.keep (List.prefix_refl _) kt fun ob e=>kk b ob (fun q=>hm (Mt c.sim.nodup ea (q▸eb))) e⟩
 refine ⟨⟨{ c.s with heap:=h',toks:=tk },c.φ,c.σ.set n o,S⟩,rfl,rfl,rfl,⟨⟨rfl,rfl⟩,List.prefix_refl _,fun b ob hb _ e=>⟨ob,kk b ob (fun q=>hb (q▸ma)) e,.refl ob⟩,fun _ m=>.inl m⟩,fun b ob e=>?_⟩
 by_cases hb:b=a
 ·subst hb;exact hr.there.casesOn fun o' e' _ _=>⟨o',e'⟩
 ·exact ⟨ob,kk b ob hb e⟩
theorem Nz {V W:Mine.Internal.V} (r:Rel c.s.heap c.φ V v) (r':Rel c.s.heap c.φ W u) (q:AppK c.σ Q W V):wpAny K.M A (call (.builtin "list.append") [v,u]) (PV c Q) E c.s:=by
 cases q with
 | mk en hz hn q=>
  apply Cf.listE en r;intro a items k ea g rl z
  refine wpAny_list_append_plain ⟨k,g⟩ (fun h' hp hs=>?_) (CL (Nat.le_of_lt (rl.size▸hz)))
  refine AX hp fun k' e'=>?_
  refine Bd (Cf.setO (o:=.list _) (tk:=c.s.toks) ea hn (fun b ob hb e=>(hs.2 b hb).trans e) fun keep=>⟨_,k',e',by rw [Array.toList_push];exact (keep _ _ rl).append (keep [W] [u] ⟨r',trivial⟩),by rw [List.length_append];exact hz⟩) fun c' e1 e2 e3 st=>?_
  exact e1▸.mk c' .none st Ch (e3▸q)
theorem Nd (hbase:∀ env,attributeBase o ("append":Str) env (eval o env)=eval o env) (hline:(apos.endLine==pos.line)=true) (hn:Aw e)
  (ho:EOk K L o a) (he:EOk K L e b):EOk K L (.Call (.Attribute o ("append":Str) apos) [e] [] pos) (Fa a b):=fun A c ρ Q X R F q=>
 wpAny_Call_append (hbase L.env) (by rw [hn];rfl) hline (by rw [hn];rfl) (seq (.refl c) (ho A c ρ _ X R F q) fun c₁ V v s₁ _ r₁ q₁=>by
  obtain ⟨⟨n,us,rfl,en⟩,q₁⟩:=q₁
  refine A6 (Cf.list en r₁) fun l items k ze1 el gl rr hz=>?_;subst ze1
  exact ⟨l,items,rfl,⟨_,k,gl,rfl,rfl,rfl⟩,seq s₁ (he A c₁ ρ _ X R (F.step s₁) q₁) fun c₂ W u s₂ t₂ r₂ q₂=>fin s₂ (Nz (r₁.step t₂) r₂ q₂)⟩)
theorem RelL.ind {P:List V→List Value→Prop} (n:P [] []) (c:∀ {V v Vs vs},Rel h φ V v→RelL h φ Vs vs→P Vs vs→P (V::Vs) (v::vs)) {Vs:List V}:∀ {vs:List Value},RelL h φ Vs vs→P Vs vs:=by
 induction Vs with
 | nil=>intro vs r;cases vs with
  | nil=>exact n
  | cons _ _=>exact r.elim
 | cons V Vs ih=>intro vs r;cases vs with
  | nil=>exact r.elim
  | cons v vs=>exact c r.1 r.2 (ih r.2)
theorem QV {Vs:List V} (r:RelL h φ Vs us) (q:Rel h φ v u):∀ j,RelL h φ (Vs.set j v) (us.set j u):=
 RelL.ind (P:=fun Vs us=>∀ j,RelL h φ (Vs.set j v) (us.set j u)) (fun _=>trivial) (fun a b ih j=>by
  cases j with
  | zero=>exact ⟨q,b⟩
  | succ j=>exact ⟨a,ih j⟩) r
theorem RX (k:Str) (v:V) (kvs:List (Str × V)):(put k v kvs).length≤kvs.length+1:=by
 unfold put
 split
 ·rw [List.length_map];exact Nat.le_succ _
 ·rw [List.length_append];exact Nat.le_refl _
theorem QQ {α β:Type} {f:α→Str} {g:β→Str} {k:Str}:∀ {as:List α} {bs:List β},bs.map g=as.map f→(bs.any fun p=>decide (g p=k))=as.any fun p=>decide (f p=k)
 | [],[],_=>rfl
 | [],_::_,e=>nomatch e
 | _::_,[],e=>nomatch e
 | a::as,b::bs,e=>by
  have e:g b::bs.map g=f a::as.map f:=e
  injection e with e1 e2
  rw [List.any_cons,List.any_cons,e1,QQ e2]
theorem KR (r:Rel h φ v u):∀ {kvs:List (Str × V)} {us:List (Str × Value)},us.map (·.1)=kvs.map (·.1)→RelL h φ (kvs.map (·.2)) (us.map (·.2)) →
  (us.map fun p=>if p.1=k then (p.1,u) else p).map (·.1)=(kvs.map fun p=>if p.1=k then (p.1,v) else p).map (·.1)∧RelL h φ ((kvs.map fun p=>if p.1=k then (p.1,v) else p).map (·.2)) ((us.map fun p=>if p.1=k then (p.1,u) else p).map (·.2))
 | [],[],_,_=>⟨rfl,trivial⟩
 | [],_::_,e,_=>nomatch e
 | _::_,[],e,_=>nomatch e
 | (x,V)::kvs,(y,w)::us,e,q=>by
  have e:y::us.map (·.1)=x::kvs.map (·.1):=e
  injection e with e1 e2
  subst e1
  obtain ⟨h1,h2⟩:=KR (k:=k) r e2 q.2
  by_cases hk:y=k
  ·simp only [List.map_cons,if_pos hk];exact ⟨congrArg _ h1,r,h2⟩
  ·simp only [List.map_cons,if_neg hk];exact ⟨congrArg _ h1,q.1,h2⟩
theorem RelP.put (P:RelP h φ kvs us) (keep:∀ Vs vs,RelL h φ Vs vs→RelL h' φ Vs vs) (r:Rel h φ v u):RelP h' φ (Mine.Internal.put k v kvs) (stored us k u):=by
 have r':Rel h' φ v u:=(keep [v] [u] ⟨r,trivial⟩).1
 have hl:=keep _ _ P.2
 unfold Mine.Internal.put stored
 rw [QQ (k:=k) P.1]
 by_cases ha:kvs.any (fun p=>decide (p.1=k))=true
 ·rw [if_pos ha,if_pos ha];exact KR r' P.1 hl
 ·rw [if_neg ha,if_neg ha]
  exact ⟨by rw [List.map_append,List.map_append,P.1];rfl,by rw [List.map_append,List.map_append];exact hl.append ⟨r',trivial⟩⟩
theorem TC (ro:Rel c.s.heap c.φ o ov) (ri:Rel c.s.heap c.φ i iv) (rv:Rel c.s.heap c.φ v u)
  (q:SetK c.σ T v o i) (h:∀ c':Cf K.h₀,Stp AS c c'→T c'.σ→P () c'.s):wpAny K.M A (setItem ov iv u) P E c.s:=by
 cases q with
 | @back n vs j en hn hk q=>
  apply Cf.listE en ro;intro a items z ea g rl hz
  apply DR ri;intro t
  have gg:c.s.heap.get? a=some (PySem.W.listOf items z):=g
  have hsz:items.size=j+1:=rl.size.trans hk
  refine PySem.W.ki_setBack gg (by decide) (by rw [hsz];exact Int.neg_le_neg (Int.ofNat_le.mpr (Nat.le_add_left 1 j))) (by decide) ?_
  have hj:(-1+(items.size:Int)).toNat=j:=by rw [hsz,Int.add_comm];exact Int.toNat_sub (j+1) 1
  rw [hj]
  refine Bd (Cf.setO (c:=c) (o:=.list (vs.set j v)) (tk:=c.s.toks) ea hn (fun b ob hb e=>((Heap.SameBut.update ..).2 b hb).trans e) fun keep=>⟨_,_,PySem.IsL.update g (·.setIfInBounds j u),by rw [Array.toList_setIfInBounds];exact keep _ _ (QV rl rv j),by rw [List.length_set];exact hz⟩) fun c' e1 e2 e3 st=>?_
  exact e1▸h c' st (e3▸q)
 | @dict n ep kvs k en hn hz q=>
  apply Cf.dictE en ro;intro a us ea D P _ hs
  apply DR ri;intro t
  refine wpAny_setItem_pairs (strKind_is _ _ k t) D.dictOf (fun h' D' hb=>?_) (CJ (Nat.le_of_lt (P.len.symm▸hz)))
  refine AX D'.dictAt fun ep' D'=>?_
  refine Bd (Cf.setO (c:=c) (o:=.dict ep' (put k v kvs)) (tk:=c.s.toks+1) ea hn (fun b ob h e=>(hb.2 b h).trans e) fun keep=>⟨_,D',P.put (fun _ _ r=>keep _ _ r) rv,DC (Nat.le_trans (RX k v kvs) hz),hs⟩) fun c' e1 e2 e3 st=>?_
  exact e1▸h c' st (e3▸q ep')
theorem OZ (hs:swapsWith value (some (.Subscript o i pos')) pos.line L.env=pure false) (ho:EOk K L o a) (hi:EOk K L i b) (hv:EOk K L value e):SOk K L (.Assign [.Subscript o i pos'] value pos) (Hv a b e):=fun A c ρ Q R F q=>
 wpAny_Assign_Subscript (QI (.refl c) F (hv A c ρ _ _ R F q) fun c₁ _ _ s₁ _ r₁ q₁=>QI s₁ F (ho A c₁ ρ _ _ R (F.step s₁) q₁) fun c₂ _ _ s₂ t₂ r₂ q₂=>QI s₂ F (hi A c₂ ρ _ _ R (F.step s₂) q₂) fun c₃ _ _ s₃ t₃ r₃ q₃=>
  TC (r₂.step t₃) r₃ ((r₁.step t₂).step t₃) q₃ fun c₄ s₄ q₄=>.next c₄ ρ (s₃.trans s₄).any (F.step (s₃.trans s₄)) q₄) hs
theorem Kn {h:Heap} {o o':Obj} (k:o'.isFreed=false:=by rfl):((h.push o).push o').get? (h.objs.size+1)=some o':=by rw [← Heap.size_push h o];exact Heap.get?_push_size _ k
theorem Re {i:Int} {n:Nat} (h:i<0):i+n≤n:=by have:=Int.add_le_add_right (Int.le_of_lt h) (n:Int);rwa [Int.zero_add] at this
theorem QU (i n:Nat):((min i n:Nat):Int)=min (i:Int) n:=(Nat.le_total i n).elim (fun h=>by rw [Nat.min_eq_left h,Int.min_eq_left (Int.ofNat_le.mpr h)]) fun h=>by rw [Nat.min_eq_right h,Int.min_eq_right (Int.ofNat_le.mpr h)]
theorem KX (b:BoundK n d o z) (r:Rel h φ (o.getD .none) v):∃ a,IsPart v a∧(match a with | none=>(d:Int) | some i=>max 0 (min (if i<0 then i+n else i) n))=(z:Int):=by
 cases b with
 | no=>exact ⟨none,by cases r;exact .none,rfl⟩
 | @pos i _ _ hj=>
  refine AX r fun t e=>?_
  refine ⟨some i,e▸.int _ t,?_⟩
  show max 0 (min (if (i:Int)<0 then _ else _) _)=_
  rw [if_neg (Int.not_lt.mpr (Int.natCast_nonneg i)),← QU,Int.max_eq_right (Int.natCast_nonneg _),hj]
theorem FY (hx:BoundK n 0 lo x) (hy:BoundK n n hi y) (rl:Rel h φ (lo.getD .none) vl) (ru:Rel h φ (hi.getD .none) vu) :
  ∃ a b,IsPart vl a∧IsPart vu b∧sliceBounds a b none n=((x:Int),(y:Int),1):=by
 refine AF (KX hx rl) fun a pa ea=>?_
 refine AF (KX hy ru) fun b pb eb=>?_
 refine ⟨a,b,pa,pb,?_⟩
 rw [← ea,← eb]
 cases a <;> cases b <;> rfl
theorem Hp {Vs:List V} (n:Nat) (r:RelL h φ Vs us):RelL h φ (Vs.drop n) (us.drop n):=by
 revert n
 refine RelL.ind (P:=fun Vs us=>∀ n:Nat,RelL h φ (Vs.drop n) (us.drop n)) (fun n=>?_) (fun a b ih n=>?_) r
 ·rw [List.drop_nil,List.drop_nil];exact trivial
 ·cases n with
  | zero=>exact ⟨a,b⟩
  | succ n=>exact ih n
theorem Hj {Vs:List V} (n:Nat) (r:RelL h φ Vs us):RelL h φ (Vs.take n) (us.take n):=by
 revert n
 refine RelL.ind (P:=fun Vs us=>∀ n:Nat,RelL h φ (Vs.take n) (us.take n)) (fun n=>?_) (fun a b ih n=>?_) r
 ·rw [List.take_nil,List.take_nil];exact trivial
 ·cases n with
  | zero=>exact trivial
  | succ n=>exact ⟨a,ih n⟩
variable (K L) in
noncomputable def OOk (e:Option Expr) (a:Option Ex):Prop:=
 ∀ (A:Around) (c:Cf K.h₀) (ρ:List V) (Q:Option V→AD→Prop) (X:AY),ROk K L.up A→Fr c L ρ→evo a K.C ρ c.σ Q X→wpAny K.M A (evalPart e L.env) (PV c fun x σ=>∃ o,x=Option.getD o .none∧Q o σ) (PX c X) c.s
theorem Qe:OOk K L none none:=fun _ c _ _ _ _ _ q=>wpAny_pure (.mk c .none (.refl c) Ch ⟨none,rfl,q⟩)
theorem PT (h:EOk K L e a):OOk K L (some e) (some a):=fun A c ρ Q X R F q=>by
 rw [evalPart_some]
 exact seq (.refl c) (h A c ρ _ X R F q) fun c₁ V _ s₁ _ r q₁=>.mk c₁ V s₁ r ⟨some V,rfl,q₁⟩
theorem M5 (hm:∀ {A:Around} {E:Value→Shared→Prop} {s:Shared} {o r:Value} {P:Unit→Shared→Prop},P () s→wpAny M A (letTemporaryGo value o r) P E s)
  (h:wpAny M A (eval value env) (fun o s₁=>wpAny M A (eval (.Slice lower upper none p) env) (fun i s₂=>(∃ T id,typeLookup (.type T) "__getitem__"=pure (some (.builtin id))∧s₂.TypeIs o T)∧wpAny M A (getItem o i) Q E s₂) E s₁) E s) :
  wpAny M A (eval (.Subscript value (.Slice lower upper none p) pos) env) Q E s:=by
 rw [eval_Subscript]
 refine wpAny_bind (wpAny_mono h (fun o s₁ h₁=>wpAny_bind (wpAny_holding (wpAny_mono h₁ (fun i s₂ h₂=>wpAny_bind (wpAny_standAt ?_)) fun _ _ x=>x))) fun _ _ x=>x)
 obtain ⟨⟨T,id,hl,hT⟩,h₂⟩:=h₂
 have last:wpAny M A (operate [i,o] (getItem o i)) (fun r s₃=>wpAny M A (letTemporaryGo value o r >>= fun _=>pure r) Q E s₃) E s₂:=wpAny_operating (wpAny_mono h₂ (fun r s₃ h₃=>wpAny_bind (hm (wpAny_pure h₃))) fun _ _ x=>x)
 refine wpAny_bind ?_
 rw [getitemInPython_of_ne hT.not_modules]
 refine wpAny_bind (wpAny_specialOf hT hl ?_)
 first
  | exact wpAny_pure (wpAny_bind last)
  | exact wpAny_bind (wpAny_pure (wpAny_bind last))
  | exact wpAny_bind last
theorem KK (h:BoundK n d o j) (hd:d≤n):j≤n:=by
 cases h with
 | no=>exact hd
 | pos _ e=>exact an3 .le .v0 .v1 (.q .v0 .v2 (.l .v2 .v1 .e)) rfl e (Nat.min_le_right _ _)
theorem Jv:IsPart v o→∃ l,v=partValue l∧l.map (·.1)=o
 | .none=>⟨none,rfl,rfl⟩
 | .int i t=>⟨some (i,t),rfl,rfl⟩
theorem SZ {α:Type} {l:List α} {x y:Nat} (h:(cut l x y).length=l.length):cut l x y=l:=((List.drop_sublist _ _).trans (List.take_sublist _ _)).eq_of_length h
theorem T6 {α:Type} {l:List α} {x y:Nat}:(cut l x y).length≤l.length:=by
 unfold cut;rw [List.length_drop,List.length_take];exact Nat.le_trans (Nat.sub_le _ _) (Nat.min_le_right _ _)
theorem PU {α:Type} {l:List α} {x y:Nat} (h:y≤l.length):(cut l x y).length=y - x:=by
 unfold cut;rw [List.length_drop,List.length_take,Nat.min_eq_left h]
theorem HL {n x y:Nat} (h:sliceBounds a b none n=((x:Int),(y:Int),1)):Builtin.Slice.sliceAdjust a b 1 (n:Int)=((x:Int),(y:Int)):=by
 have key:∀ v:Int,(if v<0 then max (v+n) 0 else min v n)=max 0 (min (if v<0 then v+n else v) n):=fun v=>by
  by_cases hv:v<0
  ·rw [if_pos hv,if_pos hv,Int.min_eq_left (Re hv),Int.max_comm]
  ·rw [if_neg hv,if_neg hv,Int.max_eq_right (Int.le_min.mpr ⟨Int.not_lt.mp hv,Int.natCast_nonneg n⟩)]
 have h1:(sliceBounds a b none n).1=x:=congrArg Prod.fst h
 have h2:(sliceBounds a b none n).2.1=y:=congrArg (fun p=>p.2.1) h
 rw [← h1,← h2]
 refine Prod.ext ?_ ?_
 ·cases a with
  | none=>rfl
  | some v=>exact key v
 ·cases b with
  | none=>rfl
  | some v=>exact key v
theorem HN (x y:Nat):Builtin.Slice.slicePlaces (x:Int) (y:Int) 1=y - x:=by
 unfold Builtin.Slice.slicePlaces
 have h1:(1:Int) > 0:=by exact ari [] .lt .n0 .n1 .e rfl
 simp only [h1,if_true,Int.ediv_one]
 split
 ·rw [Int.sub_add_cancel];exact Int.toNat_sub y x
 ·rename_i h;exact (Nat.sub_eq_zero_of_le (Int.ofNat_le.mp (Int.not_lt.mp h))).symm
section
variable {prog:Program} {w:World} {A:Around} {E:Value→Shared→Prop} {s:Shared}
theorem Hx (p:IsPart v k) (h:Q k s):wpAny (model prog w) A (Builtin.Slice.slicePartIndex v) Q E s:=by
 cases p with
 | none=>exact PyProof.Rows.slicePart_none h
 | int i t=>exact PyProof.Rows.slicePart_int h
theorem FU {n x y:Nat} {Q:Int × Int × Nat→Shared→Prop} (hs:s.heap.IsSliceOf sl vl vu .none) (pl:IsPart vl a) (pu:IsPart vu b) (hb:sliceBounds a b none n=((x:Int),(y:Int),1)) (h:Q ((x:Int),1,y - x) s) :
  wpAny (model prog w) A (Builtin.Slice.sliceApplied (.ref sl) (pure (n:Int))) Q E s:=by
 refine Ae (id hs) fun os hos hcs hds=>?_
 unfold Builtin.Slice.sliceApplied Builtin.Slice.sliceFields
 refine wpAny_bind (wpAny_bind (wpAny_field hos hds (x:=vl) rfl (wpAny_bind (wpAny_field hos hds (x:=vu) rfl (wpAny_bind (wpAny_field hos hds (x:=.none) rfl (wpAny_pure ?_)))))))
 refine wpAny_bind (PyProof.Rows.slicePart_none ?_)
 show wpAny _ _ (if ((1:Int)==0)=true then _ else _) _ _ s
 rw [if_neg (by decide)]
 refine wpAny_bind (Hx pl (wpAny_bind (Hx pu (wpAny_bind (wpAny_pure ?_)))))
 show wpAny _ _ (match Builtin.Slice.sliceAdjust a b 1 (n:Int) with | (lo,hi)=>pure (lo,(1:Int),Builtin.Slice.slicePlaces lo hi 1)) _ _ s
 rw [HL hb]
 show wpAny _ _ (pure ((x:Int),(1:Int),Builtin.Slice.slicePlaces (x:Int) (y:Int) 1)) _ _ s
 rw [HN x y]
 exact wpAny_pure h
theorem Oo (xs:Array Value) (a k:Nat):((List.range k).filterMap fun (j:Nat)=>xs[((a:Int)+(j:Int)*1).toNat]?)=(xs.toList.drop a).take k:=by
 have e:(fun (j:Nat)=>xs[((a:Int)+(j:Int)*1).toNat]?)=fun j=>xs[a+j]?:=by
  funext j
  rw [Int.mul_one,← Int.natCast_add,Int.toNat_natCast]
 rw [e]
 have:=pick_run xs a k
 rw [List.filterMap_map] at this
 exact this
theorem EO {z:Nat} {x y:Nat} {Q:Value→Shared→Prop} (ht:IsT s.heap t items z) (hs:s.heap.IsSliceOf sl vl vu .none) (pl:IsPart vl a) (pu:IsPart vu b) (hb:sliceBounds a b none items.size=((x:Int),(y:Int),1))
  (hlt:y - x<items.size) (hsz:items.size≤sizeLine) (h:Q (.ref s.heap.objs.size) { s with heap:=s.heap.push { cls:=.type "tuple", data:=.seq ((items.toList.drop x).take (y - x)).toArray } }):wpAny (model prog w) A (getItem (.ref t) (.ref sl)) Q E s:=by
 have hdrop:sizeOk (.seq ((items.toList.drop x).take (y - x)).toArray):=by
  show ((items.toList.drop x).take (y - x)).toArray.size≤sizeLine
  rw [List.size_toArray,List.length_take]
  exact Nat.le_trans (Nat.min_le_left _ _) (Nat.le_trans (Nat.le_of_lt hlt) hsz)
 refine Ae (id hs) fun os hos hcs hds=>?_
 have hTs:s.TypeIs (.ref sl) "slice":=⟨os,hos,hcs⟩
 have hT:PyProof.Rows.IsTup s.heap t items:=⟨_,ht,rfl,z,rfl⟩
 unfold getItem
 try with_reducible refine wpAny_holding ?_
 first | refine wpAny_bind (wpAny_pure ?_) | skip
 refine wpAny_bind (wpAny_sequenceKey hT.typeIs (by decide) ?_)
 refine wpAny_bind (wpAny_callSpecial?_slot (name:=Str.ofString "__getitem__") hT.typeIs PyProof.Rows.slot_tuple_getitem
  (wpAny_call_entry PyProof.Rows.slot_tuple_getitem hT.typeIs PyProof.Rows.entry_tuple_getitem ?_ (PyProof.Rows.args_tuple_getitem _ _)))
 show wpAny _ _ (Builtin.Tuple.tupleItemsOf (.ref t) >>= _) _ _ s
 refine wpAny_bind (PyProof.Rows.tupleItemsOf_ hT ?_)
 refine wpAny_bind (wpAny_typeOf hTs ?_)
 rw [if_pos (by decide)]
 refine wpAny_bind (FU hs pl pu hb ?_)
 have hno:¬ (((x:Int)==0&&(1:Int)==1&&(y - x)==items.size)=true):=fun q=>by
  have:=beq_iff_eq.mp (Bool.and_eq_true_iff.mp q).2
  exact am2 (.p .v0 .v1 (.t .v0 .v1 .e)) rfl this hlt
 show wpAny _ _ (if ((x:Int)==0&&(1:Int)==1&&(y - x)==items.size)=true then _ else _) _ _ s
 rw [if_neg hno,Oo items x (y - x)]
 first
  | exact wpAny_bind (m:=Builtin.Tuple.tupleExact _) (wpAny_newObj_type (wpAny_pure ⟨_,rfl,wpAny_pure h⟩) hdrop)
  | exact wpAny_bind (m:=Builtin.Tuple.tupleExact _) (wpAny_newObj_type (wpAny_bind (wpAny_pure (wpAny_pure ⟨_,rfl,wpAny_pure h⟩))) hdrop)
  | exact wpAny_bind (wpAny_bind (m:=Builtin.Tuple.tupleExact _) (wpAny_newObj_type (wpAny_pure (wpAny_pure ⟨_,rfl,wpAny_pure h⟩)) hdrop))
  | exact wpAny_bind (wpAny_bind (m:=Builtin.Tuple.tupleExact _) (wpAny_newObj_type (wpAny_pure ⟨_,rfl,wpAny_pure h⟩) hdrop))
end
theorem OE {value:Expr} {lo hi:Option Expr} {a:Ex} {x y:Option Ex} {p pos:Pos} (hv:EOk K L value a) (hl:OOk K L lo x) (hh:OOk K L hi y):EOk K L (.Subscript value (.Slice lo hi none p) pos) (BW a x y):=fun A c ρ Q X R F q=>
 M5 (fun h=>wpAny_letTemporaryGo h) (seq (.refl c) (hv A c ρ _ X R F q) fun c₁ V u s₁ _ r₁ q₁=>wpAny_Slice (seq s₁ (hl A c₁ ρ _ X R (F.step s₁) q₁) fun c₂ V₂ vl s₂ t₂ r₂ ⟨lv,e₂,q₂⟩=>seq s₂ (hh A c₂ ρ _ X R (F.step s₂) q₂) fun c₃ V₃ vu s₃ t₃ r₃ ⟨hv,e₃,q₃⟩=>by
  rw [evalPart_none]
  refine wpAny_pure ?_
  subst e₂ e₃
  have r₁:=(r₁.step t₂).step t₃
  cases q₃ with
  | list en hx hy q=>
   apply Cf.listE en r₁;intro l items k _ g rL z
   rw [← rL.size] at hx hy
   refine BC (FY hx hy (r₂.step t₃) r₃) fun pa pb p1 p2 hb=>?_
   refine ⟨⟨"list", _,list_getitem_lookup,(g.isList.push _).typeIs⟩,wpAny_getItem_list_slice (g.isList.push _) (Heap.IsSliceOf.new ..) p1 p2 .none (by simp) ?_ (CL (rL.size▸z))⟩
   rw [Heap.size_push]
   refine PV.lift s₃ (PV.list (tk:=c₃.s.toks) ?_ ?_ (BU (Nat.le_succ _)) Ed Kn q)
   ·show RelL _ _ _ (slicePick items pa pb none).toList
    unfold slicePick
    rw [hb]
    simp only [sliceRange_one,pick_run]
    unfold cut
    rw [List.drop_take]
    exact Hj _ (Hp _ rL)
   ·unfold cut;rw [List.length_drop,List.length_take];exact Nat.le_trans (Nat.sub_le _ _) (Nat.le_trans (Nat.min_le_right _ _) z)
  | @tup vs lv hv' x y hz hx hy hc q=>
   refine Af (id r₁) fun T items z ze1 g rL=>?_;subst ze1
   have hl:=rL.size
   rw [← hl] at hx hy hc hz
   refine BC (FY hx hy (r₂.step t₃) r₃) fun pa pb p1 p2 hb=>?_
   have hy':=KK hy (Nat.le_refl _)
   have hlen:(cut vs x y).length=y - x:=PU (hl▸hy')
   rw [hlen] at hc
   refine ⟨⟨"tuple", _,PyProof.Rows.slot_tuple_getitem.lookup,⟨_,Heap.get?_push_of_some _ g,rfl⟩⟩,EO (z:=z) (Heap.get?_push_of_some _ g) (Heap.IsSliceOf.new ..) p1 p2 hb hc (CJ hz) ?_⟩
   rw [Heap.size_push]
   refine PV.lift s₃ (PV.tup (tk:=c₃.s.toks) (Vs:=cut vs x y) ?_ Ed Kn q)
   show RelL _ _ (cut vs x y) ((items.toList.drop x).take (y - x))
   unfold cut
   rw [List.drop_take]
   exact Hj _ (Hp _ rL)
  | @str z lv hv' x y hz hx hy q=>
   apply DR r₁;intro t
   refine BC (FY hx hy (r₂.step t₃) r₃) fun pa pb p1 p2 hb=>?_
   refine AF (Jv p1) fun l1 ze1 m1=>?_;subst ze1
   refine AF (Jv p2) fun l2 ze1 m2=>?_;subst ze1
   refine ⟨⟨"str", _,PySem.F.slot_str_getitem.lookup,typeIs_str _ _ _⟩,wpAny_getItem_str_slice (l:=l1) (u:=l2) (st:=none) ⟨_,Heap.get?_push_size _ rfl,rfl,rfl⟩ rfl ?_⟩
   have e:slicePicked z l1 l2 none=(List.range (y - x)).map (x+·):=by
    have:slicePicked z l1 l2 none=sliceRange (sliceBounds pa pb none z.length).1 (sliceBounds pa pb none z.length).2.1 1:=by
     unfold slicePicked
     rw [m1,m2]
     rfl
    rw [this,hb,sliceRange_one]
   have hp:(slicePicked z l1 l2 none).filterMap (z.cps[·]?)=cut z.cps.toList x y:=by
    rw [e,pick_run]
    unfold cut
    rw [List.drop_take]
   have hl:z.length=z.cps.toList.length:=Array.length_toList.symm
   have hy':=KK hy (Nat.le_refl _)
   have hlen:(slicePicked z l1 l2 none).length=(cut z.cps.toList x y).length:=by
    rw [e,List.length_map,List.length_range,PU (hl▸hy')]
   unfold sliceMade
   rw [hp,hlen]
   split
   ·rename_i hc
    have hc:=beq_iff_eq.mp (Bool.and_eq_true_iff.mp hc).2
    rw [SZ (hc.trans hl)] at q
    exact PV.lift s₃ (PV.kept (tk:=c₃.s.toks) BG Bh q)
   ·refine ⟨?_,PV.lift s₃ (PV.kept BG Bh q)⟩
    show (cut z.cps.toList x y).toArray.size≤sizeLine
    rw [List.size_toArray]
    exact CJ (Nat.le_trans T6 (hl▸hz))))
end
end Mine.Internal
namespace Mine.Internal
open PySem PySem.Calls
set_option genSizeOf false
set_option genInjectivity false
section
variable {K:Ctx} {L:Loc}
theorem Np (hbase:∀ env,attributeBase o ("extend":Str) env (eval o env)=eval o env) (hline:(apos.endLine==pos.line)=true) (hn:Aw e)
  (ho:EOk K L o a) (he:EOk K L e b):EOk K L (.Call (.Attribute o ("extend":Str) apos) [e] [] pos) (UG a b):=fun A c ρ Q X R F q=>
 wpAny_Call_method1_late (hbase L.env) hline (by rw [hn];rfl) (seq (.refl c) (ho A c ρ _ X R F q) fun c₁ V v s₁ _ r₁ q₁=>by
  obtain ⟨⟨n,us,rfl,en⟩,q₁⟩:=q₁
  refine A6 (Cf.list en r₁) fun l items k ze1 el gl rr hz=>?_;subst ze1
  refine ⟨"list", "list.extend", PySem.F.plainAttrs_list,PySem.F.slot_list_extend,PySem.F.type_list_extend,⟨_,gl,rfl⟩,fun a e=>by cases e;exact ⟨_,gl,rfl⟩,?_⟩
  refine PySem.P.extend_list (seq s₁ (he A c₁ ρ _ X R (F.step s₁) q₁) fun c₂ W u s₂ t₂ r₂ q₂=>?_)
  cases q₂ with
  | mk en em hz hn q=>
   refine A6 (Cf.list en (r₁.step t₂)) fun l' it1 k1 e1 el1 g1 rl1 z1=>?_
   cases e1
   refine A6 (Cf.list em r₂) fun l2 it2 k2 ze1 el2 g2 rl2 z2=>?_;subst ze1
   have hs:it1.size+it2.size≤sizeLine:=by rw [rl1.size,rl2.size];exact CL hz
   refine ⟨l2,it1,it2,k1,k2,Nat.le_trans (Nat.le_add_right _ _) hs,Nat.le_succ_of_le hs,fun q=>?_,rfl,g1,g2,?_⟩
   ·exact Nat.not_lt.mpr hs (of_decide_eq_true (Bool.and_eq_true_iff.mp q).2)
   refine Bd (Cf.setO (c:=c₂) (o:=.list _) (tk:=c₂.s.toks) el1 hn (fun b ob hb e=>((Heap.SameBut.update ..).2 b hb).trans e) fun keep=>⟨_,_,PySem.IsL.update g1 (·++it2),by rw [Array.toList_append];exact (keep _ _ rl1).append (keep _ _ rl2),by rw [List.length_append];exact hz⟩) fun c' e1 e2 e3 st=>?_
   exact PV.lift s₂ (e1▸.mk c' .none st Ch (e3▸q)))
theorem KQ:∀ {kvs:List (Str × V)} {us:List (Str × Value)},us.map (·.1)=kvs.map (·.1)→RelL h φ (kvs.map (·.2)) (us.map (·.2)) →
  (without us k).map (·.1)=(del k kvs).map (·.1)∧RelL h φ ((del k kvs).map (·.2)) ((without us k).map (·.2))
 | [],[],_,_=>⟨rfl,trivial⟩
 | [],_::_,e,_=>nomatch e
 | _::_,[],e,_=>nomatch e
 | (x,V)::kvs,(y,w)::us,e,q=>by
  have e:y::us.map (·.1)=x::kvs.map (·.1):=e
  injection e with e1 e2
  subst e1
  obtain ⟨h1,h2⟩:=KQ (k:=k) e2 q.2
  unfold without del at *
  by_cases hk:y=k
  ·rw [List.filter_cons_of_neg (by simp [hk]),List.filter_cons_of_neg (by simp [hk])];exact ⟨h1,h2⟩
  ·rw [List.filter_cons_of_pos (by simp [hk]),List.filter_cons_of_pos (by simp [hk])];exact ⟨congrArg _ h1,q.1,h2⟩
theorem UO (hbase:∀ env,attributeBase o ("pop":Str) env (eval o env)=eval o env) (hline:(apos.endLine==pos.line)=true) (hn:Aw e)
  (ho:EOk K L o a) (he:EOk K L e b):EOk K L (.Call (.Attribute o ("pop":Str) apos) [e] [] pos) (SO a b):=fun A c ρ Q X R F q=>
 wpAny_Call_method1_late (hbase L.env) hline (by rw [hn];rfl) (seq (.refl c) (ho A c ρ _ X R F q) fun c₁ V v s₁ _ r₁ q₁=>by
  obtain ⟨⟨n,ep,kvs,rfl,en⟩,q₁⟩:=q₁
  refine BQ (Cf.dict en r₁) fun l us ze1 el D P z hs=>?_;subst ze1
  refine ⟨"dict", "dict.pop", PySem.F.plainAttrs_dict,PySem.F.slot_dict_pop,PySem.F.type_dict_pop,D.dictOf.typeIs,D.dictOf.mapOf.noDict,?_⟩
  refine method1_meetsIn PySem.F.slot_dict_pop PySem.F.entry_dict_pop (seq s₁ (he A c₁ ρ _ X R (F.step s₁) q₁) fun c₂ W u s₂ t₂ r₂ q₂=>?_)
  cases q₂ with
  | @mk n ep kvs k V en hn hv q=>
   refine BQ (Cf.dict en (r₁.step t₂)) fun l' us' e1 el1 D1 P1 z1 hs1=>?_
   cases e1
   refine AX r₂ fun t ze1=>?_;subst ze1
   refine AF (P1.at.1 V hv) fun v hv' rv=>?_
   refine ⟨D1.dictOf.typeIs,PySem.F.args_dict_pop_2 _ _,_,meets_dict_pop_there (knd:=strKind K.h₀.prog K.h₀.w) (k:=k) l (strKind_is _ _ k t) [] (.inl rfl) rfl,us',v,D1.dictOf,CL (P1.len.symm▸z1),hv',fun h' D2 hb=>?_⟩
   refine AX D2.dictAt fun ep' D2=>?_
   refine Bd (Cf.setO (c:=c₂) (o:=.dict ep' (del k kvs)) (tk:=c₂.s.toks+1) el1 hn (fun b ob h e=>(hb.2 b h).trans e) fun keep=>⟨_,D2,KQ P1.1 (keep _ _ P1.2),Nat.le_trans (List.length_filter_le ..) z1,hs1⟩) fun c' e1 e2 e3 st=>?_
   exact PV.lift s₂ (e1▸.mk c' V st (rv.step st) (e3▸q ep')))
theorem Mw {pos} (hu:L.up=L.env::L.up.tail) (ht:TOk K L test t) (hb:SsOk K L body body'):SOk K L (.While test body [] pos) (Ds t body'):=fun A c ρ Q R F q=>by
 refine AX q fun n q=>?_
 refine wpAny_While (codeAny_mono (R:=fun r s'=>match r with | .ok f=>PF c L Q f s' | .error e=>PN c L Q e s') ?_ fun r _ hr=>by
  cases r with
  | ok _=>exact hr
  | error _=>exact PN.came R hu hr)
 refine codeAny_whileLoop (fun n s'=>∃ c' ρ',c'.s=s'∧Stp L.own c c'∧Fr c' L ρ'∧GW K.C t body' Q n ρ' c'.σ) ?_ n ⟨c,ρ,rfl,.refl c,F,q⟩
 rintro n s' ⟨c',ρ',rfl,stp,F',q'⟩
 cases n with
 | zero=>exact q'.elim
 | succ n=>
  refine wpAny_mono (ht A c' ρ' _ _ R F' q') (fun b s₂ y=>?_) fun e s₂ x=>(PE.lift stp (x.toE F'):PE c L Q e s₂).note R hu
  cases b with
  | false=>exact y.casesOn fun c₁ s₁ q₁=>wpAny_execs_nil (.next c₁ ρ' (stp.trans s₁.any) (F'.step s₁) q₁)
  | true=>
   refine y.casesOn fun c₁ s₁ q₁=>?_
   refine wpAny_mono (hb A c₁ ρ' _ R (F'.step s₁) q₁) (fun f s₄ y=>?_) fun e s₄ y=>(PE.lift (stp.trans s₁.any) ?_:PE c L Q e s₄).note R hu
   ·have st₁:=stp.trans s₁.any
    exact y.casesOn (fun c₄ ρ₄ s₄ F₄ q₄=>⟨n,Nat.lt_succ_self n,c₄,ρ₄,rfl,st₁.trans s₄,F₄,q₄⟩) fun c₄ ρ₄ V u s₄ F₄ r q₄=>.ret c₄ ρ₄ V u (st₁.trans s₄) F₄ r q₄
   ·exact y.casesOn fun c₄ ρ₄ k a fp fl n hk s₄ F₄ ex h q₄=>.mk c₄ ρ₄ k a fp fl n hk s₄ F₄ ex h q₄
end
end Mine.Internal
namespace Mine.Internal
open PySem PySem.Calls
set_option genSizeOf false
set_option genInjectivity false
section
variable {K:Ctx} {L:Loc}
inductive PS (c:Cf K.h₀) (T:Str→AD→Prop):Value→Shared→Prop
 | mk (c':Cf K.h₀) (y:Str) (t:Tok):Stp AS c c'→T y c'.σ→PS c T (.str y t) c'.s
noncomputable def FOk (K:Ctx) (L:Loc) (e:Expr) (a:Ex):Prop:=
 ∀ (A:Around) (c:Cf K.h₀) (ρ:List V) (T:Str→AD→Prop) (X:AY),ROk K L.up A→Fr c L ρ→a K.C ρ c.σ (fun v σ=>FmtK (fun s=>T s σ) v) X→wpAny K.M A (eval e L.env) (PS c T) (PX c X) c.s
theorem PS.plain (st:Stp AS c₀ c) (q:T y c.σ):PS c₀ T (.str y t) { c.s with toks:=tk }:=.mk (c.toks tk) y t (st.trans (Cf.keep_stp ⟨rfl,rfl⟩)) q
theorem Nl:FOk K L (.Constant (.str s) k p) (Ad s):=fun A c ρ T X R F q=>
 wpAny_mono (LR (k:=k) (pos:=p) A c ρ (fun v σ=>v=.str s∧FmtK (fun s=>T s σ) v) X R F ⟨rfl,q⟩) (fun v s' y=>y.casesOn fun c' V st r h=>by
  obtain ⟨rfl,h⟩:=h
  apply DR r;intro t
  cases h with
  | str _ h=>exact .mk c' s t st h) fun _ _ x=>x
theorem SL (h:EOk K L e a):FOk K L (.FormattedValue e (-1) none p) a:=fun A c ρ T X R F q=>
 wpAny_FormattedValue_plain (seq (.refl c) (h A c ρ _ X R F q) fun c₁ V v s₁ _ r₁ q₁=>by
  cases q₁ with
  | @str s hz q=>
   apply DR r₁;intro t
   exact wpAny_formatField_str (PS.mk c₁ s t s₁ q) (.plain s₁ q) (CJ hz)
  | @int i hi q=>
   apply DR r₁;intro t
   exact wpAny_formatField_int (Nat.lt_of_lt_of_le (C6 hi) (by decide)) (.plain s₁ q))
inductive FAll (K:Ctx) (L:Loc):List Expr→List Ex→Prop
 | nil:FAll K L [] []
 | cons {e:Expr} {a:Ex} {es:List Expr} {as:List Ex}:FOk K L e a→FAll K L es as→FAll K L (e::es) (a::as)
theorem QD (h:FAll K L es as):∀ {A:Around} {c₀ c:Cf K.h₀} {ρ:List V} {Q:AO} {X:AY} {acc:Str},ROk K L.up A→Fr c L ρ→Stp AS c₀ c→acc.length≤Ab→Ld as acc K.C ρ c.σ Q X →
  Joins K.M A (PX c₀ X) (evalEach es L.env) acc (fun out s₁=>out.length≤sizeLine∧PV c₀ Q (.str out s₁.toks) { s₁ with toks:=s₁.toks+1 }) c.s:=by
 induction h with
 | nil=>exact fun {A c₀ c ρ Q X acc} _ _ st hz q=>⟨CJ hz,.lift st (.plain Bh q)⟩
 | cons h _ ih=>
  intro A c₀ c ρ Q X acc R F st hz q
  refine wpAny_mono (h A c ρ _ X R F q) (fun v s' y=>y.casesOn fun c₁ y t s₁ q₁=>⟨y,t,rfl,?_,ih R (F.step s₁) (st.trans s₁) ?_ q₁.2⟩) fun _ _ x=>x.lift st
  ·rw [strLen_append];exact CJ q₁.1
  ·rw [strLen_append];exact q₁.1
theorem TT (h:FAll K L (e::e'::es) as):EOk K L (.JoinedStr (e::e'::es) p) (Ld as Str.empty):=fun _ c _ _ _ R F q=>
 wpAny_JoinedStr (QD h R F (.refl c) (Nat.zero_le _) q)
theorem MN:∀ {ss:List Str} {vs:List Value},RelL h φ (ss.map V.str) vs→PyProof.Rows.StrsAre vs ss
 | [],[],_=>.nil
 | [],_::_,r=>r.elim
 | _::_,[],r=>r.elim
 | s::ss,v::vs,r=>by
  apply DR r.1;intro t
  exact .cons s t (MN r.2)
theorem RI (hline:(apos.endLine==pos.line)=true) (hn:Aw e) (he:EOk K L e b):EOk K L (.Call (.Attribute (.Constant (.str sep) k cp) ("join":Str) apos) [e] [] pos) (G3 sep b):=fun A c ρ Q X R F q=>
 wpAny_Call_method1_late rfl hline (by rw [hn];rfl) (seq (Q:=fun v σ=>v=.str sep∧G3 sep b K.C ρ σ Q X) (.refl c) (LR (k:=k) (pos:=cp) A c ρ _ X R F ⟨rfl,q⟩) fun c₁ V v s₁ _ r₁ q₁=>by
  obtain ⟨rfl,q₁⟩:=q₁
  apply DR r₁;intro t
  refine ⟨"str", "str.join", PySem.F.plainAttrs_str,PySem.F.slot_str_join,PySem.F.type_str_join,typeIs_str _ _ _,nofun,?_⟩
  refine callWith_builtin rfl (evalArgs_plain (spliced_cons (seq s₁ (he A c₁ ρ _ X R (F.step s₁) q₁) fun c₂ W u s₂ t₂ r₂ q₂=>spliced_nil ?_)))
  cases q₂ with
  | @mk n ss en hz q=>
   apply Cf.listE en r₂;intro l items k el gl rr _
   refine PyProof.Rows.join_list (PySem.IsL.isList gl) (MN rr) (Nat.le_trans hz (by decide)) fun t' tk=>?_
   rw [show Txt.join sep ss=Str.join sep ss from StrLaws.glued_eq_join sep ss]
   exact .lift s₂ (.plain Bh q))
end
end Mine.Internal
namespace Mine.Internal
open PySem PySem.Calls
set_option genSizeOf false
set_option genInjectivity false
noncomputable def C5:Nat→List Str→Vs
 | _,[]=>[]
 | n,x::r=>(x,n)::C5 (n+1) r
theorem HS:∀ (xs:List Str) (n:Nat) {x:Str} {i:Nat},(C5 n xs).lookup x=some i→∃ j,i=n+j∧xs[j]?=some x
 | y::r,n,x,i,h=>by
  rw [C5,List.lookup_cons] at h
  cases e:x==y with
  | true=>rw [e] at h;exact ⟨0,(Option.some.inj h).symm,congrArg some (beq_iff_eq.mp e).symm⟩
  | false=>rw [e] at h;refine AF (HS r (n+1) h) fun j h1 h2=>?_;exact ⟨j+1,h1.trans (by rw [Nat.add_assoc,Nat.add_comm 1]),h2⟩
theorem E0 (h:(C5 0 xs).lookup x=some i):xs[i]?=some x:=by refine AF (HS xs 0 h) fun _ e q=>?_;exact (e.trans (Nat.zero_add _))▸q
theorem NM (ps:List Str):∀ (vs:List Value) (m:Str→Option Value) {x:Str},x∉ps→bindL k (ps.zip vs) m x=m x:=by
 induction ps with
 | nil=>exact fun _ _ _ _=>rfl
 | cons p ps ih=>intro vs m x h;cases vs with
  | nil=>rfl
  | cons v vs=>
   rw [List.zip_cons_cons,bindL,ih vs _ (fun hh=>h (List.mem_cons_of_mem _ hh))]
   by_cases hk:k p=some .local
   ·rw [if_pos hk];exact if_neg (show ¬ x=p from fun e=>h (e▸List.mem_cons_self))
   ·rw [if_neg hk]
theorem NT (ps:List Str):∀ (vs:List Value) (m:Str→Option Value) {x:Str},x∉ps→bindC k (ps.zip vs) m x=m x:=by
 induction ps with
 | nil=>exact fun _ _ _ _=>rfl
 | cons p ps ih=>intro vs m x h;cases vs with
  | nil=>rfl
  | cons v vs=>
   rw [List.zip_cons_cons,bindC,ih vs _ (fun hh=>h (List.mem_cons_of_mem _ hh))]
   by_cases hk:k p=some .local
   ·rw [if_pos hk]
   ·rw [if_neg hk];exact if_neg (show ¬ x=p from fun e=>h (e▸List.mem_cons_self))
theorem N5 (ps:List Str):∀ (vs:List Value) (m:Str→Option Value) {i:Nat} {x:Str} {v:Value},ps.Nodup→ps[i]?=some x→vs[i]?=some v→k x=some .local→bindL k (ps.zip vs) m x=some v:=by
 induction ps with
 | nil=>intro vs m i x v _ h;exact absurd h.symm (Option.some_ne_none x)
 | cons p ps ih=>intro vs m i x v hnd h h' hk;cases vs with
  | nil=>exact absurd h'.symm (Option.some_ne_none v)
  | cons u vs=>
   rw [List.zip_cons_cons,bindL]
   cases i with
   | zero=>
    rw [← Option.some.inj h,← Option.some.inj h',NM ps vs _ (List.nodup_cons.mp hnd).1,if_pos (Option.some.inj h▸hk),if_pos rfl]
   | succ i=>exact ih vs _ (List.nodup_cons.mp hnd).2 h h' hk
theorem NJ (ps:List Str):∀ (vs:List Value) (m:Str→Option Value) {i:Nat} {x:Str} {v:Value},ps.Nodup→ps[i]?=some x→vs[i]?=some v→k x≠some .local→bindC k (ps.zip vs) m x=some v:=by
 induction ps with
 | nil=>intro vs m i x v _ h;exact absurd h.symm (Option.some_ne_none x)
 | cons p ps ih=>intro vs m i x v hnd h h' hk;cases vs with
  | nil=>exact absurd h'.symm (Option.some_ne_none v)
  | cons u vs=>
   rw [List.zip_cons_cons,bindC]
   cases i with
   | zero=>
    rw [← Option.some.inj h,← Option.some.inj h',NT ps vs _ (List.nodup_cons.mp hnd).1,if_neg (Option.some.inj h▸hk),if_pos rfl]
   | succ i=>exact ih vs _ (List.nodup_cons.mp hnd).2 h h' hk
theorem DN:∀ (names:List (Str × NameKind)) (n:Nat) (acc:List (Str × Addr)) {x:Str},(acc.lookup x).isSome=true∨(x,NameKind.cell)∈names→((cellsFrom n names acc).lookup x).isSome=true
 | [],_,_,_,h=>h.elim id fun h=>nomatch h
 | (y,k)::r,n,acc,x,h=>by
  rw [cellsFrom]
  cases hk:k==NameKind.cell with
  | false=>exact DN r n acc (h.imp id fun m=>(List.mem_cons.mp m).resolve_left fun e=>by cases e;cases hk)
  | true=>
   refine DN r (n+1) _ ?_
   rw [List.lookup_cons]
   cases e:x==y with
   | true=>exact .inl rfl
   | false=>exact h.imp id fun m=>(List.mem_cons.mp m).resolve_left fun e'=>by cases e';rw [beq_self_eq_true] at e;cases e
noncomputable def Un (sc:Scope):List Str:=(sc.names.filter fun x=>(x.2==.local||x.2==.cell)&&x.1 != (".0":Str)).map (·.1)
noncomputable def BE (ps:List Str) (sc:Scope):List Str:=ps++(Un sc).filter fun x=>!ps.contains x
noncomputable def F1 (sc:Scope) (x:Str):Bool:=match sc.names.lookup x with
 | some .local | some .cell=>true
 | _=>false
theorem Cn (h:F1 sc x=true):sc.names.lookup x=some .local∨sc.names.lookup x=some .cell:=by
 unfold F1 at h
 split at h
 ·exact .inl ‹_›
 ·exact .inr ‹_›
 ·cases h
structure DefOk (scope:Scope) (args:List Str):Prop where
 nodup:args.Nodup
 own:∀ x∈BE args scope,F1 scope x=true
 kind:scope.kind=.function
 co:scope.isCoroutine=false
 gen:scope.isGenerator=false
noncomputable abbrev CV (args:List Str) (sc:Scope):Vs:=C5 0 (BE args sc)
theorem Js {h₀:Bs} {c c':Cf h₀} {ps xs:List Str} {Vs:List V} {vals:List Value} {i k:Nat} {x:Str} {ov:Option Value} (hl:ps.length=Vs.length) (rl:RelL c.s.heap c.φ Vs vals) (hx:(ps++xs)[i]?=some x) (st:WStp AS c c')
  (h:∀ v,ps[i]?=some x→vals[i]?=some v→ov=some v):SlotIs c' (Vs++List.replicate k V.undef) i ov:=fun W hW hne=>by
 have hi:i<Vs.length:=Nat.lt_of_not_le fun h=>hne (by
  rw [List.getElem?_append_right h,List.getElem?_replicate] at hW
  split at hW
  ·exact (Option.some.inj hW).symm
  ·cases hW)
 rw [List.getElem?_append_left hi] at hW
 rw [List.getElem?_append_left (hl▸hi)] at hx
 refine AF (rl.get hW) fun v e r=>?_
 exact ⟨v,h v hx e,r.own st fun _ f=>f.elim⟩
section
variable {K:Ctx}
theorem Kv {c:Cf K.h₀} {s₁:Shared} {fd:FuncData} {a:Addr} {args:List Str} {Vs:List V} {vals:List Value} {k:Nat} (D:DefOk fd.scope args) (hg:fd.globals=mainGlobals) (hb:fd.builtins=builtinsNs) (rl:RelL c.s.heap c.φ Vs vals) (hl:args.length=Vs.length) {up:List Env} (hup:∀ e∈up,FrameAt c e)
  (x:InCallC c.s (callEnvC fd c.s.heap.objs.size a).locals (bindL (callEnvC fd c.s.heap.objs.size a).kindOf (args.zip vals) fun _=>none) (callEnvC fd c.s.heap.objs.size a).cells (bindC (callEnvC fd c.s.heap.objs.size a).kindOf (args.zip vals) fun _=>none) s₁) :
  Fr (c.keep s₁ x.toInCall.keep) ⟨callEnvC fd c.s.heap.objs.size a,CV args fd.scope,callEnvC fd c.s.heap.objs.size a::up⟩ (Vs++List.replicate k V.undef):=by
 have st:WStp AS c (c.keep s₁ x.toInCall.keep):=by
  refine BM x.done fun h₁ tk ze1 _=>?_;subst ze1
  exact (Cf.keep_stp (c:=c) (k:=x.toInCall.keep) ⟨rfl,rfl⟩).toWStp
 exact {
  fn:=D.kind
  glob:=hg
  blt:=hb
  locNew:=c.sim.none₀ Ag
  locOut:=c.sim.out Ag
  inj:=fun y z i hy hz=>Option.some.inj ((E0 hy).symm.trans (E0 hz))
  ns:=.mk _ x.toInCall.ns fun y i hy hk=>Js hl rl (E0 hy) st fun v h1 h2=>N5 _ _ _ D.nodup h1 h2 hk
  cell:=fun y i hy hk=>by
   have hget:=E0 hy
   have hc:fd.scope.names.lookup y=some .cell:=(Cn (D.own y (List.mem_of_getElem? hget))).resolve_left fun e=>by
    rw [show (callEnvC fd c.s.heap.objs.size a).kindOf y=_ from e] at hk
    refine Or.elim hk (fun q=>?_) (fun q=>?_) <;> cases q
   refine AX (Option.isSome_iff_exists.mp (DN fd.scope.names (c.s.heap.objs.size+1) [] (.inr (mem_of_lookup hc)))) fun b ec=>?_
   have ec':(callEnvC fd c.s.heap.objs.size a).cells.lookup y=some b:=ec
   have n:c.s.heap.get? b=none:=BU (Nat.le_of_lt (x.above y b (mem_of_lookup ec')))
   exact .mk b _ ec' (c.sim.out n) (c.sim.none₀ n) (x.cell y b ec') (Js hl rl hget st fun v h1 h2=>NJ _ _ _ D.nodup h1 h2 (by rw [show (callEnvC fd c.s.heap.objs.size a).kindOf y=_ from hc];exact nofun))
  cellInj:=fun y z i j b _ _ h1 h2=>name_of_addr x.apart (mem_of_lookup h1) (mem_of_lookup h2)
  up:=fun e m=>(List.mem_cons.mp m).elim (fun q=>by subst q;exact ⟨(fun q=>nomatch D.kind.symm.trans q),_,_,rfl,c.sim.none₀ Ag,c.sim.out Ag,x.toInCall.ns⟩) fun m=>(hup e m).keep st fun _ _ _ _ f=>f }
theorem SN (hd:K.d=d) {Vs:List V} {vals:List Value}
  (hp:fd.params=⟨[],args,none,[],[],none,[]⟩) (D:DefOk fd.scope (args.map (·.arg))) (hg:fd.globals=mainGlobals) (hb:fd.builtins=builtinsNs) (hbody:fd.body=.stmts body) (hclo:fd.closure=[]) (hdf:fd.defaults=.none) (hup:∀ e∈up,FrameAt c e) (R:A.handled=none∧A.depth+3*(d+1)<903∧A.units+12*(d+1)<9009∧A.frames=some up) (ho:c.s.heap.get? a=some o) (hdat:o.data=.func fd) (hlim:c.s.heap.NoLimit) (hcd:c.s.heap.CodeRec fd.code fd.qualname) (rl:RelL c.s.heap c.φ Vs vals) (hl:(args.map (·.arg)).length=Vs.length)
  (hB:∀ env,env.scope=fd.scope→env.code=fd.code→env.qual=fd.qualname++".<locals>."→QX K ⟨env,CV (args.map (·.arg)) fd.scope,env::up⟩ body body') (q:BP body' K.C (Vs++List.replicate k V.undef) c.σ (FF Q X)):codeAny K.M A (.call (.ref a) ⟨vals,[]⟩) (KM K c Q X) c.s:=by
 refine GS R fun hh hdep hun hfr=>?_
 have hroom:A.depth<recursionLimit:=Nat.lt_of_lt_of_le (Nat.lt_of_le_of_lt (Nat.le_add_right _ _) hdep) (by decide)
 refine codeAny_call_cells (binds:=(args.map (·.arg)).zip vals) hroom ho hdat hlim hcd hbody (D9 hp hdf (hl.trans rl.length) D.nodup) hclo (fun y hy=>?_) (fun s₁ x=>?_) D.co D.gen D.kind
 ·exact (Cn (D.own y.1 (List.mem_append_left _ (List.of_mem_zip hy).1))).imp id fun e=>⟨e,DN _ _ _ (.inr (mem_of_lookup e))⟩
 ·have F:=Kv (k:=k) (a:=a) D hg hb rl hl hup x
  have st₀:Stp AS c (c.keep s₁ x.toInCall.keep):=by
   refine BM x.done fun h₁ tk ze1 _=>?_;subst ze1
   exact Cf.keep_stp ⟨rfl,rfl⟩
  have new:∀ b,Loc.own ⟨callEnvC fd c.s.heap.objs.size a,CV (args.map (·.arg)) fd.scope,callEnvC fd c.s.heap.objs.size a::up⟩ b→c.s.heap.get? b=none:=fun b h=>h.elim (fun e=>e▸Ag) fun h=>BC h fun y i _ _ ec=>BU (Nat.le_of_lt (x.above y b (mem_of_lookup ec)))
  have R':RFun K (callEnvC fd c.s.heap.objs.size a::up) (A.deeper (callEnvC fd c.s.heap.objs.size a)):=⟨hh,by rw [hd];show A.depth+1+3*d<901;exact an2 .lt (.a (.a .v0 .n1) (.m 3 .v1)) (.n 901) (.t (.a .v0 (.m 3 (.a .v1 .n1))) (.n 903) .e) rfl hdep,by rw [hd];show A.units+3+12*d<9000;exact an2 .lt (.a (.a .v0 .n3) (.m 12 .v1)) (.n 9000) (.t (.a .v0 (.m 12 (.a .v1 .n1))) (.n 9009) .e) rfl hun,by show A.frames.map _=_;rw [hfr];rfl⟩
  refine wpAny_mono (hB _ rfl rfl rfl _ (c.keep s₁ x.toInCall.keep) _ _ R' F q) (fun f s' y=>?_) fun e s' y=>?_
  ·cases y with
   | next c' _ st _ q=>exact .mk c' .none (st₀.transNew st.toWStp new) Ch q
   | ret c' _ V _ st _ r q=>exact .mk c' V (st₀.transNew st.toWStp new) r q
  ·refine Bn (y.at R'.ok rfl) fun c' ρ' k a' fp fl ze1 ze2 z hk q st n=>?_;subst ze1;subst ze2
   exact Oe (P:=fun s=>PX c X (.ref a') s) z fun c'' T e1 e2 st' F' ex hp=>.mk c'' k a' [a',T] (fun b m=>⟨st₀.gone (Eh e1 st n hp b m).1,(Eh e1 st n hp b m).2⟩) hk ((st₀.transNew st.toWStp new).transNew st' fun b m=>st₀.gone (n b m).1) ex (e2▸q)
end
end Mine.Internal
namespace Mine.Internal
open PySem PySem.Calls
set_option genSizeOf false
set_option genInjectivity false
noncomputable def CO (env:Env):List (Str × NameKind)→List (Str × Addr)→List (Str × Addr)
 | [],acc=>acc
 | (n,k)::r,acc=>if k==.free then CO env r ((n,(env.cells.lookup n).getD 0)::acc) else CO env r acc
theorem EV:∀ (names:List (Str × NameKind)) (acc:List (Str × Addr)),(∀ y∈names,y.2=.free→∃ a,env.cells.lookup y.1=some a) →
  (forIn names acc fun x cs=>(if x.2==NameKind.free then do let a ← cellOf env x.1;pure (ForInStep.yield ((x.1,a)::cs)) else pure (ForInStep.yield cs):Sem (ForInStep (List (Str × Addr)))))=pure (CO env names acc)
 | [],_,_=>rfl
 | (n,k)::r,acc,hh=>by
  rw [List.forIn_cons,CO]
  dsimp only
  cases hk:k==NameKind.free with
  | false=>exact EV r acc fun y hy=>hh y (List.mem_cons_of_mem _ hy)
  | true=>
   refine AX (hh (n,k) List.mem_cons_self (beq_iff_eq.mp hk)) fun a ha=>?_
   rw [if_pos rfl,if_pos rfl,show cellOf env n=pure a by unfold cellOf;rw [ha],ha]
   exact EV r _ fun y hy=>hh y (List.mem_cons_of_mem _ hy)
theorem Ls (h:∀ y∈sc.names,y.2=.free→∃ a,env.cells.lookup y.1=some a):closureFor sc env=pure (CO env sc.names []):=by
 exact congrArg (fun m:Sem (List (Str × Addr))=>m >>= pure) (EV sc.names [] h)
theorem Ga (env:Env):∀ (names:List (Str × NameKind)) (acc:List (Str × Addr)) (y:Str),(∀ p∈acc,p.2=(env.cells.lookup p.1).getD 0)→(acc.lookup y).isSome=true∨(y,NameKind.free)∈names →
  (CO env names acc).lookup y=some ((env.cells.lookup y).getD 0)
 | [],acc,y,ha,h=>by
  refine AX (Option.isSome_iff_exists.mp (h.resolve_right fun h=>nomatch h)) fun a hc=>?_
  exact hc.trans (congrArg some (ha (y,a) (mem_of_lookup hc)))
 | (n,k)::r,acc,y,ha,h=>by
  rw [CO]
  cases hk:k==NameKind.free with
  | false=>exact Ga env r acc y ha (h.imp id fun m=>(List.mem_cons.mp m).resolve_left fun e=>by cases e;cases hk)
  | true=>
   refine Ga env r _ y (fun p hp=>(List.mem_cons.mp hp).elim (fun e=>e▸rfl) (ha p)) ?_
   rw [List.lookup_cons]
   cases e:y==n with
   | true=>exact .inl rfl
   | false=>exact h.imp id fun m=>(List.mem_cons.mp m).resolve_left fun e'=>by cases e';rw [beq_self_eq_true] at e;cases e
theorem EB (env:Env):∀ (names:List (Str × NameKind)) (acc:List (Str × Addr)) (y:Str),acc.lookup y=none→(y,NameKind.free)∉names→(CO env names acc).lookup y=none
 | [],_,_,h,_=>h
 | (n,k)::r,acc,y,h,hn=>by
  rw [CO]
  cases hk:k==NameKind.free with
  | false=>exact EB env r acc y h fun m=>hn (List.mem_cons_of_mem _ m)
  | true=>
   refine EB env r _ y ?_ fun m=>hn (List.mem_cons_of_mem _ m)
   rw [List.lookup_cons,beq_eq_false_iff_ne.mpr fun e=>hn (by rw [e,← beq_iff_eq.mp hk];exact List.mem_cons_self)]
   exact h
theorem D3 {env:Env} {x:Str}:∀ (names:List (Str × NameKind)),
  (names.map fun (n,k)=>if (k==NameKind.free&&env.scope.kind==.function&&env.kindOf n==some .cell) then (n,NameKind.cell) else (n,k)).lookup x =
  (names.lookup x).map fun k=>if (k==NameKind.free&&env.scope.kind==.function&&env.kindOf x==some .cell) then NameKind.cell else k
 | []=>rfl
 | (n,k)::r=>by
  have ih:=D3 (env:=env) (x:=x) r
  show List.lookup x ((if (k==NameKind.free&&env.scope.kind==.function&&env.kindOf n==some .cell)=true then (n,NameKind.cell) else (n,k))::_)=Option.map _ (List.lookup x ((n,k)::r))
  by_cases hc:(k==NameKind.free&&env.scope.kind==.function&&env.kindOf n==some .cell)=true
  ·rw [if_pos hc,List.lookup_cons,List.lookup_cons]
   cases e:x==n with
   | true=>rw [beq_iff_eq.mp e];exact congrArg some (if_pos hc).symm
   | false=>exact ih
  ·rw [if_neg hc,List.lookup_cons,List.lookup_cons]
   cases e:x==n with
   | true=>rw [beq_iff_eq.mp e];exact congrArg some (if_neg hc).symm
   | false=>exact ih
theorem Dh {env:Env} {sc:Scope} {x:Str}:(relabel sc env).names.lookup x=(sc.names.lookup x).map fun k=>if (k==NameKind.free&&env.scope.kind==.function&&env.kindOf x==some .cell) then NameKind.cell else k:=D3 sc.names
theorem IU (h:sc.names.lookup y=some .free):(relabel sc env).names.lookup y=some .cell∨(relabel sc env).names.lookup y=some .free:=by
 rw [Dh,h,Option.map_some]
 split
 ·exact .inl rfl
 ·exact .inr rfl
structure CompSc (L:Loc) (sc:Scope) (vs':Vs) (x:Str) (i:Nat):Prop where
 kind:sc.kind=.function
 cell:∀ y∈sc.names,y.2≠.cell
 names:∀ y∈sc.names,y.2=.local→sc.names.lookup y.1=some .local
 var:sc.names.lookup x=some .local
 once:(x,NameKind.free)∉sc.names
 slot:vs'.lookup x=some i
 free:∀ y∈sc.names,y.2=.free→∃ j,L.vs.lookup y.1=some j∧(L.env.kindOf y.1=some .cell∨L.env.kindOf y.1=some .free)
 vars:∀ y j,vs'.lookup y=some j→(y=x∧j=i)∨(y≠x∧sc.names.lookup y=some .free∧L.vs.lookup y=some j∧j≠i)
noncomputable abbrev BY (L:Loc) (sc:Scope) (vs':Vs) (C:Addr):Loc:=⟨compEnvC sc (CO L.env sc.names []) C L.env,vs',L.up⟩
section
variable {h₀:Bs} {c c':Cf h₀} {L:Loc} {ρ:List V} {sc:Scope} {vs':Vs} {x:Str} {i:Nat} {C:Addr}
theorem Hh (cs:CompSc L sc vs' x i):(BY L sc vs' C).env.kindOf x=some .local:=lookup_relabel_local cs.var
theorem Ce (cs:CompSc L sc vs' x i) (F:Fr c L ρ) (hf:sc.names.lookup y=some .free) (hv:L.vs.lookup y=some j):CellAt c L ρ y j∧∀ a,L.env.cells.lookup y=some a→(CO L.env sc.names []).lookup y=some a:=by
 refine AF (cs.free (y,.free) (mem_of_lookup hf) rfl) fun j' hv' hk=>?_
 cases hv.symm.trans hv'
 exact ⟨F.cell y j hv hk,fun a e=>by rw [Ga L.env sc.names [] y (fun _ h=>nomatch h) (.inr (mem_of_lookup hf)),e];rfl⟩
theorem K4 (cs:CompSc L sc vs' x i) (F:Fr c L ρ) (st:WStp AS c c') (n:c'.s.heap.Ns C m) (hC:c.s.heap.get? C=none) (ho:C∉c'.φ):Fr c' (BY L sc vs' C) (ρ.set i .undef) where
 fn:=cs.kind
 glob:=F.glob
 blt:=F.blt
 locNew:=c.sim.none₀ hC
 locOut:=ho
 inj y z j hy hz:=by
  rcases cs.vars y j hy with ⟨rfl,rfl⟩ | ⟨h1,_,h2,h3⟩
  ·rcases cs.vars z _ hz with ⟨rfl,_⟩ | ⟨_,_,_,h3⟩
   ·rfl
   ·exact absurd rfl h3
  ·rcases cs.vars z j hz with ⟨rfl,rfl⟩ | ⟨_,_,h4,_⟩
   ·exact absurd rfl h3
   ·exact F.inj y z j h2 h4
 ns:=.mk m n fun y j hy hk=>by
  rcases cs.vars y j hy with ⟨rfl,rfl⟩ | ⟨_,hf,_,_⟩
  ·exact fun V hV hne=>absurd (CU hV).symm hne
  ·refine Or.elim (IU (env:=L.env) hf) (fun e=>?_) (fun e=>?_) <;> cases e.symm.trans hk
 cell y j hy hk:=by
  rcases cs.vars y j hy with ⟨rfl,rfl⟩ | ⟨_,hf,hv,hj⟩
  ·rw [Hh cs] at hk;refine Or.elim hk (fun q=>?_) (fun q=>?_) <;> cases q
  ·obtain ⟨ca,hl⟩:=Ce cs F hf hv
   exact match ca with
   | .mk a ov e1 e2 e3 ic rr=>.mk a ov (hl a e1) (let ⟨_,e,_⟩:=ic;st.out e e2) e3 (st.keepC e2 (fun f=>f) ic) ((rr.own st fun _ f=>f.elim).other (Ne.symm hj))
 cellInj y z j j' a hy hz h1 h2:=by
  have nx:(CO L.env sc.names []).lookup x=none:=EB L.env sc.names [] x rfl cs.once
  rcases cs.vars y j hy with ⟨rfl,rfl⟩ | ⟨_,hf,hv,_⟩
  ·cases nx.symm.trans h1
  ·rcases cs.vars z j' hz with ⟨rfl,rfl⟩ | ⟨_,hf',hv',_⟩
   ·cases nx.symm.trans h2
   ·obtain ⟨⟨a1,_,e1,_⟩,l1⟩:=Ce cs F hf hv
    obtain ⟨⟨a2,_,e2,_⟩,l2⟩:=Ce cs F hf' hv'
    cases (l1 a1 e1).symm.trans h1
    cases (l2 a2 e2).symm.trans h2
    exact F.cellInj y z j j' _ hv hv' e1 e2
 up e m:=(F.up e m).keep st fun _ _ _ _ f=>f
end
section
variable {K:Ctx} {L:Loc}
variable (K L) in
noncomputable def Iy (es:List Expr) (ts:List Tx):Prop:=
 ∀ (A:Around) (c:Cf K.h₀) (ρ:List V) (Q:Bool→AD→Prop),ROk K L.up A→Fr c L ρ→Dn ts K.C ρ c.σ Q noX →
  wpAny K.M A (forIn es true fun e r=>if r=true then do let ok ← isTrue e L.env (eval e L.env);pure (ForInStep.yield ok) else pure (ForInStep.yield r)) (PB c Q) (PX c noX) c.s
theorem J2:∀ (es:List Expr),Q false s →
  wpAny K.M A (forIn es false fun e r=>if r=true then do let ok ← isTrue e env (eval e env);pure (ForInStep.yield ok) else pure (ForInStep.yield r)) Q E s
 | [],h=>wpAny_pure h
 | _::es,h=>by
  rw [List.forIn_cons]
  exact wpAny_bind (wpAny_pure (J2 es h))
theorem O9:Iy K L [] []:=fun _ c _ _ _ _ q=>wpAny_tests_nil (.mk c (.refl c) q)
theorem Nc (h:TOk K L e t) (hs:Iy K L es ts):Iy K L (e::es) (t::ts):=fun A c ρ Q R F q=>by
 rw [List.forIn_cons]
 refine wpAny_bind (wpAny_bind (QH (.refl c) (h A c ρ _ noX R F q) fun c₁ b s₁ _ q₁=>wpAny_pure ?_))
 cases b with
 | false=>exact J2 es (.mk c₁ s₁ q₁)
 | true=>exact Of s₁ (hs A c₁ ρ Q R (F.step s₁) q₁)
theorem UU {P:Prop} (x:PX c noX e s):P:=absurd x (PX.no fun _ _ f=>f)
end
end Mine.Internal
namespace Mine.Internal
open PySem PySem.Calls
set_option genSizeOf false
set_option genInjectivity false
section
variable {K:Ctx} {L:Loc} {A:Around} {vs':Vs}
theorem PM {α:Type} {M:Model} {P:Shared→Prop} {E E':Value→Shared→Prop} {s:Shared} {t:Sem α} {Q:α→Shared→Prop} (h:wpAny M A (pure ():Sem Unit) (fun _ s'=>P s') E' s)
  (k:P s→wpAny M A t Q E s):wpAny M A t Q E s:=fun Γ p hΓ=>k (h Γ p hΓ) Γ p hΓ
inductive AccAt (c:Cf K.h₀) (D:Addr) (acc:List V):Prop
 | mk (arr:Array Value) (n:Nat):D∉c.φ→IsL c.s.heap D arr n→RelL c.s.heap c.φ acc arr.toList→AccAt c D acc
theorem AccAt.own {own:Addr→Prop} (st:WStp own c c') (ht:∀ a,own a→A8 c.s.heap a) (hD:¬ own D) (x:AccAt c D acc):AccAt c' D acc:=x.casesOn fun arr n o e r=>.mk arr n (st.out e o) (st.keepE o hD nofun e) (r.own st ht)
theorem AccAt.step (st:Stp AS c c') (x:AccAt c D acc):AccAt c' D acc:=x.own st.toWStp (fun _ f=>f.elim) fun f=>f
theorem AccAt.noIt (x:ItOb c.s.heap D) (y:AccAt c D acc):False:=y.casesOn fun _ _ _ e _=>x.casesOn fun _ _ _ e' d _ _=>nomatch d.symm.trans (congrArg Obj.data (Option.some.inj (e'.symm.trans e)))
theorem AccAt.noNs (n:c.s.heap.Ns D m) (y:AccAt c D acc):False:=y.casesOn fun _ _ _ e _=>DT (CQ n) fun _ e' _ _ d=>nomatch d.symm.trans (congrArg Obj.data (Option.some.inj (e'.symm.trans e)))
theorem AccAt.noCell (n:c.s.heap.IsCell D v) (y:AccAt c D acc):False:=y.casesOn fun _ _ _ e _=>AF n fun _ e' d=>nomatch d.symm.trans (congrArg Obj.data (Option.some.inj (e'.symm.trans e)))
theorem AccAt.noTup (y:AccAt c D acc):A8 c.s.heap D:=y.casesOn fun _ _ _ e _=>Mine.Internal.noTup e BR
inductive CompI (c:Cf K.h₀) (Lc:Loc) (ρ:List V) (D:Addr) (St:Nat→Cf K.h₀→Prop) (items:List V) (W:Nat→List V→AD→Prop) (n:Nat):Shared→Prop
 | mk (c':Cf K.h₀) (j:Nat) (acc:List V):j+n=items.length+1→j≤items.length→Stp AS c c'→Fr c' Lc ρ→St j c'→AccAt c' D acc→acc.length≤j→W j acc c'.σ→CompI c Lc ρ D St items W n c'.s
theorem Mr {i:Nat} {same:AD→Prop} {St:Nat→Cf K.h₀→Prop} {Qc:List V→AD→Prop} {E:Value→Shared→Prop}
  (R:ROk K L.up A) (cs:CompSc L scope vs' x i) (hfp:∀ b∈fp,c.s.heap.get? b=none) (hD:c.s.heap.get? D=none) (hC:c.s.heap.get? C=none) (W:Itr K A (.Name x px) I fp items same St) (helt:EOk K (BY L scope vs' C) elt a) (hts:Iy K (BY L scope vs' C) ifs ts) (hz:items.length≤Ab)
  {n j:Nat} (hn:j+n=items.length+1) (hlt:j<items.length) (stp:Stp AS c c') (F:Fr c' (BY L scope vs' C) (ρ.set i .undef)) (st:St j c') (ac:AccAt c' D acc) (hal:acc.length≤j)
  (q:DW K.C a i ts ρ items[j] c'.σ fun r σ'=>same σ'∧Bi (DW K.C a i ts ρ) same (items.drop (j+1)) (acc++r.toList) σ' Qc) :
  wpAny K.M A (pyNext (.ref I)) (fun r s₁=>∃ v,r=some v∧wpAny K.M A (assign (.Name x px) (BY L scope vs' C).env v) (fun _ s₂=>wpAny K.M A (forIn ifs true fun e r=>if r=true then do let ok ← isTrue e (BY L scope vs' C).env (eval e (BY L scope vs' C).env);pure (ForInStep.yield ok) else pure (ForInStep.yield r)) (fun ok s₃=>
    if ok=true then wpAny K.M A (eval elt (BY L scope vs' C).env) (fun y s₄=>wpAny K.M A (call (.builtin "list.append") [.ref D,y]) (fun _ s₅=>∃ m,m<n∧CompI c (BY L scope vs' C) (ρ.set i .undef) D St items (fun j acc σ=>Bi (DW K.C a i ts ρ) same (items.drop j) acc σ Qc) m s₅) E s₄) E s₃
    else ∃ m,m<n∧CompI c (BY L scope vs' C) (ρ.set i .undef) D St items (fun j acc σ=>Bi (DW K.C a i ts ρ) same (items.drop j) acc σ Qc) m s₃) E s₂) E s₁) E c'.s:=by
 have mine:=W.mine j c' st
 refine wpAny_mono (W.item j items[j] c' (List.getElem?_eq_getElem hlt) st) (fun r s₁ ⟨v,e,y⟩=>⟨v,e,PM y fun z=>?_⟩) fun _ _ e=>e.elim
 refine z.casesOn fun c₁ e1 e2 s₁ zp00=>?_
 have rl:=zp00.1
 have st₁:=zp00.2
 have F₁:=F.iter mine s₁
 have mine₁:=W.mine (j+1) c₁ st₁
 have ac₁:=ac.own s₁ (fun b m=>(mine b m).noTup) fun m=>ac.noIt (mine D m)
 have stp₁:=stp.transNew s₁ hfp
 refine wpAny_assign_Name (Dp F₁ cs.slot (Hh cs) rl fun c₂ f1 f2 s₂ F₂=>?_)
 rw [List.set_set] at F₂
 have hns:∀ b,b=C→A8 c₁.s.heap b∧∃ m,c₁.s.heap.Ns b m:=fun b e=>F₁.ns.casesOn fun m n _=>e▸⟨Cl n,m,n⟩
 have ac₂:=ac₁.own s₂.toWStp (fun b e=>(hns b e).1) fun e=>(hns D e).2.elim fun _ n=>ac₁.noNs n
 have stp₂:=stp₁.transNew s₂.toWStp fun b e=>e▸hC
 have go:∀ {c₃:Cf K.h₀} {acc':List V},Stp AS c c₃→WStp (fun b=>b=C∨b=D) c₁ c₃→Fr c₃ (BY L scope vs' C) (ρ.set i items[j])→AccAt c₃ D acc'→acc'.length≤j+1→same c₃.σ∧Bi (DW K.C a i ts ρ) same (items.drop (j+1)) acc' c₃.σ Qc →
   ∃ m,m<n∧CompI c (BY L scope vs' C) (ρ.set i .undef) D St items (fun j acc σ=>Bi (DW K.C a i ts ρ) same (items.drop j) acc σ Qc) m c₃.s:=fun {c₃ acc'} stp₃ s₃ F₃ ac₃ hl q=>
  ⟨n - 1,by exact an2 .lt .v0 .v1 (.q (.a .v0 .n1) .v1 .e) rfl (Nat.sub_add_cancel (an3 .le .n1 .v0 (.t .v1 .v2 (.p (.a .v1 .v0) (.a .v2 .n1) .e)) rfl hlt hn)),.mk c₃ (j+1) acc' (by exact Nat.le_antisymm (an4 .le (.a (.a .v0 .n1) .v1) (.a .v2 .n1) (.q (.a .v1 .n1) .v3 (.q (.a .v0 .v3) (.a .v2 .n1) .e)) rfl (Nat.sub_add_cancel (an3 .le .n1 .v0 (.t .v1 .v2 (.p (.a .v1 .v0) (.a .v2 .n1) .e)) rfl hlt hn)) hn) (an4 .le (.a .v0 .n1) (.a (.a .v1 .n1) .v2) (.p (.a .v1 .v3) (.a .v0 .n1) (.p (.a .v2 .n1) .v3 .e)) rfl hn (Nat.sub_add_cancel (an3 .le .n1 .v0 (.t .v1 .v2 (.p (.a .v1 .v0) (.a .v2 .n1) .e)) rfl hlt hn)))) hlt stp₃ F₃.undef (W.frame (j+1) c₁ c₃ st₁ s₃.pre q.1 (fun b hb o e=>s₃.keepE ((mine₁ b hb).out c₁.sim) (fun m=>m.elim (fun m=>let ⟨_,n⟩:=(hns b m).2;(mine₁ b hb).notNs n) fun m=>ac₁.noIt (m▸mine₁ b hb)) ((mine₁ b hb).noDict e) e)
   fun V v r=>r.own s₃ fun b m=>m.elim (fun e=>(hns b e).1) fun e=>e▸ac₁.noTup) ac₃ hl q.2⟩
 refine wpAny_mono (hts A c₂ (ρ.set i items[j]) _ R F₂ (by rw [f2,e2];exact q)) (fun ok s₃ y=>?_) fun _ _ e=>UU e
 cases ok with
 | false=>
  exact y.casesOn fun c₃ s₃ q₃=>go (stp₂.trans s₃) ((s₂.wider fun _ e=>.inl e).trans s₃.any).toWStp (F₂.step s₃) (ac₂.step s₃) (Nat.le_succ_of_le hal) (by have q₃:same c₃.σ∧Bi (DW K.C a i ts ρ) same (items.drop (j+1)) (acc++[]) c₃.σ Qc:=q₃;rw [List.append_nil] at q₃;exact q₃)
 | true=>
  refine y.casesOn fun c₃ s₃ q₃=>?_
  refine wpAny_mono (helt A c₃ (ρ.set i items[j]) _ noX R (F₂.step s₃) q₃) (fun u s₄ y=>?_) fun _ _ e=>UU e
  refine y.casesOn fun c₄ V s₄ r₄ q₄=>?_
  have F₄:=(F₂.step s₃).step s₄
  have ac₄:=(ac₂.step s₃).step s₄
  refine ac₄.casesOn fun arr k oD eD rD=>?_
  refine wpAny_list_append_plain ⟨k,eD⟩ (fun h₅ hp hs=>?_) (CJ (by rw [rD.size];exact Nat.le_trans hal (Nat.le_trans (Nat.le_of_lt hlt) hz)))
  refine AX hp fun k' e'=>?_
  have ho:∀ b,b=D→A8 c₄.s.heap b∧b∉c₄.φ∧K.h₀.get? b=none:=fun b e=>e▸⟨Mine.Internal.noTup eD BR,oD,c.sim.none₀ hD⟩
  have s₅:Stp (·=D) c₄ (c₄.keepOwn { c₄.s with heap:=h₅ } (fun b o hb e=>(hs.2 b hb).trans e) ho):=Cf.keepOwn_stp ⟨rfl,rfl⟩ fun b _ e _=>e▸⟨_,e'⟩
  have F₅:=F₄.keep s₅.toWStp (fun b e=>(ho b e).1) (fun f _ n _ e=>ac₄.noNs (e▸n)) fun b _ ic e=>ac₄.noCell (e▸ic)
  refine go (((stp₂.trans s₃).trans s₄).transNew s₅.toWStp fun b e=>e▸hD) (((s₂.wider fun _ e=>.inl e).trans (s₃.trans s₄).any).trans (s₅.wider fun _ e=>.inr e)).toWStp F₅ (.mk _ k' oD e' ?_) (by rw [List.length_append];exact Nat.succ_le_succ hal) q₄
  rw [Array.toList_push]
  exact (rD.own s₅.toWStp fun b e=>(ho b e).1).append ⟨r₄.own s₅.toWStp fun b e=>(ho b e).1,trivial⟩
inductive Made (c:Cf K.h₀) (Qc:List V→AD→Prop) (D C:Addr):Shared→Prop
 | mk (c':Cf K.h₀) (acc:List V) (m:Str→Option Value):Stp AS c c'→c.s.heap.get? D=none→c.s.heap.get? C=none→C∉c'.φ→c'.s.heap.Ns C m→AccAt c' D acc→acc.length≤Ab→Qc acc c'.σ→Made c Qc D C c'.s
theorem Hz {i:Nat} {same:AD→Prop} {St:Nat→Cf K.h₀→Prop} {Qc:List V→AD→Prop}
  {RR:Value→Addr→Result→Shared→Prop} {E:Value→Shared→Prop}
  (R:ROk K L.up A) (F:Fr c L ρ) (st:Stp AS c c₂) (cs:CompSc L scope vs' x i) (hfp:∀ b∈fp,c.s.heap.get? b=none) (W:Itr K A (.Name x px) I fp items same St) (self:Fi K A I St) (st0:St 0 c₂) (hsame:same c₂.σ)
  (helt:∀ C,EOk K (BY L scope vs' C) elt a) (hts:∀ C,Iy K (BY L scope vs' C) ifs ts) (hz:items.length≤Ab) (q:Bi (DW K.C a i ts ρ) same items [] c₂.σ Qc) (hfin:∀ D C s',Made c Qc D C s'→RR (.ref D) C (.ok .next) s') :
  wpAny K.M A (newList []) (fun acc s₃=>wpAny K.M A (newFunctionEnv scope L.env.globals (CO L.env scope.names []) [] L.env.qual none .none (some L.env)) (fun cenv s₄=>
   codeAny K.M A (.compStart (.ListComp elt [⟨.Name x px,iter,ifs,0⟩] scope pos) 0 (.ref I) acc { cenv with scope:=relabel scope L.env }) (RR acc cenv.locals) s₄) E s₃) E c₂.s:=by
 refine wpAny_newObj_type (wpAny_newFunctionEnv cs.cell (fun _ h=>nomatch h) (fun h₁ hns hsb=>?_) cs.kind)
 have nD:c₂.s.heap.get? c₂.s.heap.objs.size=none:=Ag
 have nC:c₂.s.heap.get? (c₂.s.heap.push { cls:=.type "list", dict:=none,data:=.seq ([]:List Value).toArray }).objs.size=none:=Ek
 have below:∀ {b o},(c₂.s.heap.push { cls:=.type "list", dict:=none,data:=.seq ([]:List Value).toArray }).get? b=some o→b≠(c₂.s.heap.push { cls:=.type "list", dict:=none,data:=.seq ([]:List Value).toArray }).objs.size:=fun e=>Nat.ne_of_lt (Heap.lt_size e)
 have old:∀ b o,(c₂.s.heap.push { cls:=.type "list", dict:=none,data:=.seq ([]:List Value).toArray }).get? b=some o→h₁.get? b=some o:=fun b o e=>hsb.extBut b o (below e) (Heap.get?_push_of_some _ e)
 have eD:=old _ _ (Heap.get?_push_size c₂.s.heap (o:={ cls:=.type "list", dict:=none,data:=.seq ([]:List Value).toArray }) rfl)
 generalize (c₂.s.heap.push { cls:=.type "list", dict:=none,data:=.seq ([]:List Value).toArray }).objs.size=C at hns nC ⊢
 have keep:∀ b o,c₂.s.heap.get? b=some o→h₁.get? b=some o:=fun b o e=>old b o (Heap.get?_push_of_some _ e)
 have s₃:Stp AS c₂ (c₂.keep { c₂.s with heap:=h₁,toks:=c₂.s.toks+([]:List (Str × Value)).length } keep):=Cf.keep_stp ⟨rfl,rfl⟩
 have F₃:=K4 cs (F.step st) s₃.toWStp hns nC (c₂.sim.out nC)
 have h0:St 0 (c₂.keep { c₂.s with heap:=h₁,toks:=c₂.s.toks+([]:List (Str × Value)).length } keep):=W.frame 0 c₂ _ st0 (List.prefix_refl _) hsame (fun b _ o e=>keep b o e) fun V v r=>r.step s₃
 have loop:codeAny K.M A (.compLoop (.ListComp elt [⟨.Name x px,iter,ifs,0⟩] scope pos) 0 (.ref I) (.ref c₂.s.heap.objs.size) (BY L scope vs' C).env) (RR (.ref c₂.s.heap.objs.size) C) { c₂.s with heap:=h₁,toks:=c₂.s.toks+([]:List (Str × Value)).length }:=by
  refine codeAny_compLoop_tests (fun n s'=>CompI c (BY L scope vs' C) (ρ.set i .undef) c₂.s.heap.objs.size St items (fun j acc σ=>Bi (DW K.C a i ts ρ) same (items.drop j) acc σ Qc) n s') (fun n s' y=>?_) (items.length+1)
   (.mk _ 0 [] (Nat.zero_add _) (Nat.zero_le _) (st.trans s₃) F₃ h0 (.mk #[] _ (c₂.sim.out nD) eD trivial) (Nat.le_refl _) q)
  refine y.casesOn fun c' j acc hn hj stp F' st' ac hal q'=>?_
  refine Or.elim (Nat.lt_or_ge j items.length) (fun hlt=>?_) (fun hge=>?_)
  ·rw [List.drop_eq_getElem_cons hlt] at q'
   refine wpAny_mono (Mr R cs hfp (st.gone nD) (st.gone nC) W (helt C) (hts C) hz hn hlt stp F' st' ac hal q') (fun r s₁ h=>AF h fun v e z=>by subst e;exact z) fun _ _ e=>e
  ·cases Nat.le_antisymm hj hge
   rw [List.drop_length] at q'
   refine wpAny_mono (W.done c' st') (fun r s₁ ⟨e,z⟩=>?_) fun _ _ e=>e.elim
   subst e
   exact z.casesOn fun c₁ e1 e2 s₁ _=>have mine:=W.mine _ c' st';have F₁:=F'.iter mine s₁
    F₁.ns.casesOn fun m n _=>hfin _ C _ (.mk c₁ acc m (stp.transNew s₁ hfp) (st.gone nD) (st.gone nC) F₁.locOut n (ac.own s₁ (fun b m=>(mine b m).noTup) fun m=>ac.noIt (mine _ m)) (Nat.le_trans hal hz) (e2▸q'))
 refine codeAny_compStart_list loop (wpAny_mono (self 0 _ h0) (fun v s₁ ⟨e1,e2⟩=>?_) fun _ _ e=>e.elim)
 subst e1 e2;exact loop
theorem Made.join (st:Stp AS c c') (nD:c.s.heap.get? D=none) (hz:acc.length≤Ab) (x:AccAt c' D acc):∃ c₂:Cf K.h₀,c₂.s=c'.s∧c₂.φ=c'.φ++[D]∧c₂.σ=c'.σ++[.list acc]∧Stp AS c c₂∧Rel c₂.s.heap c₂.φ (.ref c'.σ.length) (.ref D):=
 x.casesOn fun arr n o e r=>⟨⟨c'.s,c'.φ++[D],c'.σ++[.list acc],c'.sim.add (o:=.list acc) o (c.sim.none₀ nD) ⟨arr,n,e,r,DC hz⟩⟩,rfl,rfl,rfl,
  ⟨⟨st.only,st.pre.trans (List.prefix_append _ _),st.keep,fun a m=>(Bj m).elim (st.fresh a) fun e=>.inr (e▸nD)⟩,st.pres⟩,⟨D,rfl,by rw [← c'.sim.len];exact List.getElem?_concat_length⟩⟩
theorem Sp (st:Stp own c c') (n:c'.s.heap.Ns C m) (hC:C∉c'.φ) (nC:c.s.heap.get? C=none) (hs:Heap.SameBut C c'.s.heap h') :
  ∃ c₂:Cf K.h₀,c₂.s={ c'.s with heap:=h' }∧c₂.φ=c'.φ∧c₂.σ=c'.σ∧Stp own c c₂∧WStp (·=C) c' c₂:=
 have ho:∀ a,a=C→A8 c'.s.heap a∧a∉c'.φ∧K.h₀.get? a=none:=fun a e=>e▸⟨Cl n,hC,c.sim.none₀ nC⟩
 have s₂:WStp (·=C) c' (c'.keepOwn { c'.s with heap:=h' } (fun b o hb e=>(hs.2 b hb).trans e) ho):=⟨⟨rfl,rfl⟩,List.prefix_refl _,fun b o _ hb e=>⟨o,(hs.2 b hb).trans e,.refl o⟩,fun _ m=>.inl m⟩
 ⟨c'.keepOwn { c'.s with heap:=h' } (fun b o hb e=>(hs.2 b hb).trans e) ho,rfl,rfl,rfl,st.transNew s₂ fun b e=>e▸nC,s₂⟩
theorem Ca (cs:CompSc L scope vs' x i) (F:Fr c L ρ):closureFor scope L.env=pure (CO L.env scope.names []):=
 Ls fun y hy hf=>AF (cs.free y hy hf) fun j hj hk=>(F.cell y.1 j hj hk).casesOn fun a _ e _ _ _ _=>⟨a,e⟩
theorem Mi (cs:CompSc L scope vs' x i) (hs:∀ x,foldedSetIterable iter L.env x=pure x)
  (hsrc:Fx K L iter k src (.Name x px)) (hk:k≠.enum) (helt:∀ C,EOk K (BY L scope vs' C) elt a) (hts:∀ C,Iy K (BY L scope vs' C) ifs ts) :
  EOk K L (.ListComp elt [⟨.Name x px,iter,ifs,0⟩] scope pos) (Au a i k src ts):=fun A c ρ Q X R F q=>by
 rw [eval_ListComp]
 refine wpAny_comprehension_free (use:=none) rfl hs (Ca cs F) cs.kind cs.names (wpAny_mono (hsrc A c ρ (fun items same σ₁=>items.length≤Ab∧Bi (DW K.C a i ts ρ) same items [] σ₁ fun ys σ₂=>Q (.ref σ₂.length) (σ₂++[O.list ys])) X R F q) (fun xv s₁ h₁=>wpAny_mono h₁ (fun it s₂ h₂=>?_) fun _ _ e=>e) fun _ _ e=>e)
 refine h₂.casesOn fun c₁ items same I fp St s₁ zp40 hsm W st0 hfp self=>?_
 have hz:=zp40.1
 have q₁:=zp40.2
 refine Hz (RR:=fun acc C=>compPost K.M A (PX c X) none (PV c Q) acc C) R F s₁ cs hfp W (self hk) st0 hsm helt hts hz q₁ fun D C s' y=>?_
 refine y.casesOn fun c' acc m st nD nC oC n ac hal q'=>?_
 refine ⟨m,n,fun h' hs'=>?_⟩
 refine B6 (Made.join st nD hal ac) fun c₂ e1 e2 e3 s₂ r₂=>?_
 have oC₂:C∉c₂.φ:=e2▸fun mm=>(Bj mm).elim oC fun e=>ac.noNs (e▸n)
 refine B6 (Sp s₂ (e1▸n) oC₂ nC (e1▸hs')) fun c₃ f1 f2 f3 s₃ t₃=>?_
 have:=PV.mk (c:=c) (Q:=Q) c₃ _ s₃ (r₂.own t₃ fun b e=>e▸Cl (e1.symm▸n)) (by rw [f3,e3];exact q')
 rw [f1,e1] at this;exact this
theorem PG (cs:CompSc L scope vs' x i) (hs:∀ x,foldedSetIterable iter L.env x=pure x)
  (hsrc:Fx K L iter k src (.Name x px)) (hk:k≠.enum) (helt:∀ C,EOk K (BY L scope vs' C) elt a) (hts:∀ C,Iy K (BY L scope vs' C) ifs ts) (hy:L.vs.lookup y=some iy) (hky:L.env.kindOf y=some .local)
  (hsw:swapsWith (.ListComp elt [⟨.Name x px,iter,ifs,0⟩] scope pos) (some (.Name y py)) spos.line L.env=pure true) :
  SOk K L (.Assign [.Name y py] (.ListComp elt [⟨.Name x px,iter,ifs,0⟩] scope pos) spos) (AP (.var iy) (Au a i k src ts)):=fun A c ρ Q R F q=>by
 rw [exec_Assign_Name_used _ _ _ _ hsw]
 refine wpAny_bind (wpAny_standAt (wpAny_bind ?_))
 show wpAny _ A (do let _ ← comprehension (.ListComp elt [⟨.Name x px,iter,ifs,0⟩] scope pos) scope L.env _ (newList []) false (eval iter L.env) (some (assign (.Name y py) L.env))) _ _ c.s
 refine wpAny_bind (wpAny_mono (wpAny_comprehension_free (use:=some (assign (.Name y py) L.env)) (Q:=fun _ s'=>PF c L Q .next s') (E:=PE c L Q) rfl hs (Ca cs F) cs.kind cs.names
  (wpAny_mono (hsrc A c ρ (fun items same σ₁=>items.length≤Ab∧Bi (DW K.C a i ts ρ) same items [] σ₁ fun ys σ₂=>Jp (σ₂++[O.list ys]) (fun ρ'=>Q .next ρ' (σ₂++[O.list ys])) ρ (.ref σ₂.length) (.var iy)) (fun k σ=>Q (.exc k) ρ σ) R F q) (fun xv s₁ h₁=>wpAny_mono h₁ (fun it s₂ h₂=>?_) fun _ _ e=>e.toE F) fun _ _ e=>e.toE F)) (fun _ s' hq=>wpAny_pure (wpAny_pure hq)) fun _ _ e=>e)
 refine h₂.casesOn fun c₁ items same I fp St s₁ zp60 hsm W st0 hfp self=>?_
 have hz:=zp60.1
 have q₁:=zp60.2
 refine Hz (RR:=fun acc C=>compPost K.M A (PE c L Q) (some (assign (.Name y py) L.env)) (fun _ s'=>PF c L Q .next s') acc C) R F s₁ cs hfp W (self hk) st0 hsm helt hts hz q₁ fun D C s' y'=>?_
 refine y'.casesOn fun c' acc m st nD nC oC n ac hal q'=>?_
 refine B6 (Made.join st nD hal ac) fun c₂ e1 e2 e3 s₂ r₂=>?_
 have oC₂:C∉c₂.φ:=e2▸fun mm=>(Bj mm).elim oC fun e=>ac.noNs (e▸n)
 have n₂:c₂.s.heap.Ns C m:=e1.symm▸n
 have hLe:L.env.locals≠C:=fun e=>F.ns.casesOn fun _ n _=>AF (CQ n) fun _ e' _=>Fz (((congrArg c.s.heap.get? e).trans nC).symm.trans e')
 show wpAny _ A (assign (.Name y py) L.env (.ref D)) _ _ _
 rw [← e1]
 refine wpAny_assign_Name (Dp (F.step s₂) hy hky r₂ fun c₃ f1 f2 s₃ F₃=>?_)
 have oC₃:C∉c₃.φ:=f1▸oC₂
 have n₃:c₃.s.heap.Ns C m:=s₃.toWStp.keepN oC₂ (fun h=>hLe h.symm) n₂
 refine ⟨m,n₃,fun h' hs'=>?_⟩
 refine B6 (Sp (s₂.any.trans (s₃.wider fun _ e=>.inl e):Stp L.own c c₃) n₃ oC₃ nC hs') fun c₄ g1 g2 g3 s₄ t₄=>?_
 have F₄:=F₃.keep t₄ (fun b e=>e▸Cl n₃) (fun f _ _ hf e=>hf.elim (fun q=>hLe (q.symm.trans e)) fun ⟨e',m',q⟩=>by
  refine DG (F.up e' m') fun _ f' _ e1 _ _ n'=>?_
  cases q.symm.trans e1
  refine AF (CQ n') fun _ e2 _=>?_
  rw [show f=C from e,nC] at e2;cases e2) fun b ov ic e=>DI n₃ ic e
 exact g1▸PF.next c₄ _ s₄ F₄ (by rw [g3,f2,e3];exact q')
end
end Mine.Internal
namespace Mine.Internal
open PySem PySem.Calls
set_option genSizeOf false
set_option genInjectivity false
section
variable {K:Ctx} {L:Loc} {G:GlT} {fa:Nat→Addr} {mg mb:Str→Option Value}
theorem not_modules {h:Heap} {m:Str→Option Value} (n:h.Ns mainGlobals m) {a:Addr} (ha:h.objs.size≤a):(a==sysModules)=false:=
 beq_eq_false_iff_ne.mpr fun e=>Nat.not_lt.mpr (Nat.le_trans ha (Nat.le_of_eq e)) (Nat.lt_of_le_of_lt (by decide) n.lt)
theorem Rx (g:Gnd K G fa mg mb):EOk K L (.Dict [] [] pos) Ly:=fun A c ρ Q X R F q=>
 wpAny_Dict_empty (PV.new (tk:=c.s.toks) (o:=.dict 0 []) (fun _ _ e=>Heap.get?_push_of_some _ e) Ag
  ⟨[],⟨_,#[],Heap.get?_push_size _ rfl,⟨rfl,rfl,rfl⟩,rfl,fun _ he=>absurd he (by simp),.nil,List.nodup_nil⟩,⟨rfl,trivial⟩,Nat.zero_le _,not_modules (g.ns.keeps c.sim.keep) (Nat.le_refl _)⟩ q)
theorem Cf.inst {c:Cf K.h₀} {n m:Nat} {C:Addr} {fs:List (Str × V)} {v:Value} (e1:c.σ[n]?=some (.inst C m)) (e2:c.σ[m]?=some (.ns fs)) (r:Rel c.s.heap c.φ (.ref n) v) :
  ∃ a dx mA,v=.ref a∧c.φ[m]?=some dx∧dx≠a∧a∈c.φ∧c.s.heap.Inst a C mA∧(∀ o,c.s.heap.get? a=some o→o.dict=some dx)∧(∀ y,AttrIs c.s.heap c.φ (fs.lookup y) (mA y)):=by
 refine AF r fun a₀ ev ea=>?_
 refine JY (c.sim.obj n _ e1) fun a ea' dx ed ne ob g hc hd hk=>?_
 refine Ri (c.sim.obj m _ e2) fun dx' ed' mA n1 at'=>?_
 obtain rfl:=Option.some.inj (ed'.symm.trans ed)
 obtain rfl:=Option.some.inj (ea.symm.trans ea')
 exact ⟨a₀,dx',mA,ev,ed,ne,List.mem_of_getElem? ea,⟨ob,g,hc,hd,.inr ⟨dx',hk,ne,n1⟩⟩,fun o e=>Option.some.inj (g.symm.trans e)▸hk,at'⟩
theorem PR {V:V} (r:Rel h φ V v):handedOut v=pure v:=by
 cases V with
 | undef=>exact r.elim
 | none=>exact r▸rfl
 | bool _=>exact r▸rfl
 | int _=>exact r.elim fun _ r=>r▸rfl
 | str _=>exact r.elim fun _ r=>r▸rfl
 | tup _=>exact EK r fun _ _ _ r _=>r▸rfl
 | ref _=>exact AF r fun _ r _=>r▸rfl
theorem Jy:∀ n∈CE,typeLookup (.type "object") n=pure none:=by
 intro n hn
 rcases List.mem_cons.mp hn with rfl | hn
 ·rw [typeLookup_type,builtinLookup_eq_fast];kernel_rfl
 rcases List.mem_cons.mp hn with rfl | hn
 ·rw [typeLookup_type,builtinLookup_eq_fast];kernel_rfl
 cases List.mem_singleton.mp hn
 rw [typeLookup_type,builtinLookup_eq_fast];kernel_rfl
theorem G2 (h:n∈CE):n∈Ir:=List.mem_cons_of_mem _ (List.mem_cons_of_mem _ (List.mem_cons_of_mem _ h))
theorem ClsG.now {c:Cf K.h₀} {C:Addr} {i:Nat} (x:ClsG K.h₀.heap G fa mg C i):∃ N mN,PyProof.Rows.ClsAt c.s.heap C N mN∧(∀ n∈Ir,mN n=none)∧(∀ m j,G.lookup (AW++"."++m)=some (.fn j)→K5 c.s.heap mN m (fa j))∧K5 c.s.heap mN "__init__" (fa i):=by
 refine Bk x.ns fun N mN cl q me ini=>?_
 have k:∀ {m a},K5 K.h₀.heap mN m a→K5 c.s.heap mN m a:=fun ⟨e,o,fd,h1,h2,h3⟩=>⟨e,o,fd,c.sim.keep _ _ h1,h2,h3⟩
 exact ⟨N,mN,cl.keeps c.sim.keep,q,fun m j h=>k (me m j h),k ini⟩
theorem RB (g:Gnd K G fa mg mb) {C:Addr} {i:Nat} {x nm:Str} {a:Ex} {xp pos:Pos} (hc:G.lookup AW=some (.cls C i)) (hn:nm∈CE) (h:EOk K L (.Name x xp) a):EOk K L (.Attribute (.Name x xp) nm pos) (A9 C nm a):=fun A c ρ Q X R F q=>
 PyProof.Rows.Attribute_any_ (seq (.refl c) (h A c ρ _ X R F q) fun c₁ V v s₁ _ r q₁=>by
  cases q₁ with
  | @mk n m fs W e1 e2 e3 q=>
   refine DM (Cf.inst e1 e2 r) fun ad dx mA ze1 _ _ _ I _ at'=>?_;subst ze1
   refine Bk ((g.cls C i hc).now (c:=c₁)) fun N mN cl hq _ _=>?_
   refine A2 cl.obj fun nm' q' bs sn sub col dd k0 k1 k2 k3 k5 hC=>?_
   have hv:=at' nm
   rw [e3] at hv
   refine AF hv fun v ev rv=>?_
   exact load_attr hC cl.ns (hq _ (by decide)) (hq _ (G2 hn)) (Jy nm hn) I ev (PR rv) (PV.lift s₁ (PV.plain rv q)))
theorem Ua (g:Gnd K G fa mg mb) {A:Around} {c:Cf K.h₀} {C:Addr} {i:Nat} {nm:Str} {V W:Mine.Internal.V} {v u:Value} {T:AD→Prop} {P:Unit→Shared→Prop} {E:Value→Shared→Prop} (hc:G.lookup AW=some (.cls C i)) (hn:nm∈CE) (rv:Rel c.s.heap c.φ V v) (ro:Rel c.s.heap c.φ W u)
  (q:PutK c.σ T C nm V W) (h:∀ c':Cf K.h₀,Stp AS c c'→T c'.σ→P () c'.s):wpAny K.M A (setAttr u nm v) P E c.s:=by
 cases q with
 | @mk n m fs e1 e2 hm hz q=>
  refine DM (Cf.inst e1 e2 ro) fun ad dx mA ze1 ed ne ma I hdx at'=>?_;subst ze1
  refine Bk ((g.cls C i hc).now (c:=c)) fun N mN cl hq _ _=>?_
  refine A2 cl.obj fun nm' q' bs sn sub col dd k0 k1 k2 k3 k5 hC=>?_
  have hxC:ad≠C:=fun e=>by
   refine Ae I fun ob g' hc' _=>?_
   rw [e,hC] at g';cases g';cases hc'
  have hw:Within mA (fs.map (·.1)):=fun y hy=>by
   have:=at' y
   cases hl:fs.lookup y with
   | none=>rw [hl] at this;exact absurd this hy
   | some V=>exact List.mem_map.mpr ⟨(y,V),mem_of_lookup hl,rfl⟩
  refine store_attr PySem.F.store_object hC cl.ns (hq _ (by decide)) (hq _ (G2 hn)) (Jy nm hn) hxC I (fun h' tk' I' hk hsame=>?_) hw (by rw [List.length_map];exact Nat.le_trans hz (by decide))
  refine Bd (id I) fun ox hx hcx hnc _=>?_
  refine B6 (hsame ox hx) fun o₁ f1 f2 f3 f4 f5=>?_
  have ho:o₁=ox:=by
   obtain ⟨c1,d1,t1,l1⟩:=o₁
   obtain ⟨c2,d2,t2,l2⟩:=ox
   have:=(f5 dx (hdx _ hx)).trans (hdx _ hx).symm
   simp only at f2 f3 f4 this
   rw [f2,f3,f4,this]
  subst ho
  have kk:∀ b o,b≠dx→c.s.heap.get? b=some o→h'.get? b=some o:=fun b o hb e=>by
   by_cases hba:b=ad
   ·subst hba;cases hx.symm.trans e;exact f1
   ·exact hk b o hba (fun o₀ d' e₀ ed'=>by cases hx.symm.trans e₀;cases (hdx _ hx).symm.trans ed';exact hb) e
  obtain ⟨c',e1',e2',e3',st⟩:=Cf.setO (c:=c) (o:=.ns (put nm V fs)) (tk:=tk') ed hm kk fun keep=>by
   refine Bd I' fun o' f1' _ _ hd'=>?_
   cases f1.symm.trans f1'
   rcases hd' with ⟨h0,_⟩ | ⟨d',hd',_,n1⟩
   ·cases (hdx _ hx).symm.trans h0
   ·cases (hdx _ hx).symm.trans hd'
    refine ⟨_,n1,fun y=>?_⟩
    rw [put_lookup]
    by_cases hy:y=nm
    ·rw [if_pos hy,if_pos hy];exact ⟨v,rfl,(keep [V] [v] ⟨rv,trivial⟩).1⟩
    ·rw [if_neg hy,if_neg hy]
     have:=at' y
     cases hl:fs.lookup y with
     | none=>rw [hl] at this;exact this
     | some U=>rw [hl] at this;refine AF this fun w ew rw'=>?_;exact ⟨w,ew,(keep [U] [w] ⟨rw',trivial⟩).1⟩
  exact e1'▸h c' st (e3'▸q)
where
 put_lookup {nm:Str} {V:Mine.Internal.V}:∀ {fs:List (Str × Mine.Internal.V)} {y:Str},(put nm V fs).lookup y=if y=nm then some V else fs.lookup y:=by
  intro fs y
  unfold put
  by_cases ha:fs.any (fun p=>decide (p.1=nm))=true
  ·rw [if_pos ha]
   induction fs with
   | nil=>cases ha
   | cons p fs ih=>
    obtain ⟨k,u⟩:=p
    rw [List.map_cons,List.lookup_cons]
    by_cases hk:k=nm
    ·rw [if_pos hk,List.lookup_cons]
     dsimp only
     rw [hk]
     cases hy:y==nm with
     | true=>rw [if_pos (beq_iff_eq.mp hy)]
     | false=>
      rw [if_neg (beq_eq_false_iff_ne.mp hy)]
      dsimp only
      by_cases ha':fs.any (fun p=>decide (p.1=nm))=true
      ·rw [ih ha',if_neg (beq_eq_false_iff_ne.mp hy)]
      ·have:fs.map (fun p=>if p.1=nm then (p.1,V) else p)=fs:=by
        rw [List.map_congr_left (g:=id)]
        ·exact List.map_id fs
        ·intro p hp
         exact if_neg fun e=>ha' (List.any_eq_true.mpr ⟨p,hp,decide_eq_true e⟩)
       rw [this]
    ·rw [if_neg hk,List.lookup_cons]
     have ha':fs.any (fun p=>decide (p.1=nm))=true:=by rw [List.any_cons,decide_eq_false hk,Bool.false_or] at ha;exact ha
     cases hy:y==k with
     | true=>rw [if_neg fun e=>hk ((beq_iff_eq.mp hy).symm.trans e)]
     | false=>dsimp only;exact ih ha'
  ·rw [if_neg ha]
   induction fs with
   | nil=>rw [List.nil_append,List.lookup_cons];cases hy:y==nm with
    | true=>rw [if_pos (beq_iff_eq.mp hy)]
    | false=>rw [if_neg (beq_eq_false_iff_ne.mp hy)]
   | cons p fs ih=>
    obtain ⟨k,u⟩:=p
    have hk:¬ k=nm:=fun e=>ha (by rw [List.any_cons,decide_eq_true e,Bool.true_or])
    have ha':¬ fs.any (fun p=>decide (p.1=nm))=true:=fun e=>ha (by rw [List.any_cons,e,Bool.or_true])
    rw [List.cons_append,List.lookup_cons,List.lookup_cons]
    cases hy:y==k with
    | true=>rw [if_neg fun e=>hk ((beq_iff_eq.mp hy).symm.trans e)]
    | false=>dsimp only;exact ih ha'
theorem Qr (g:Gnd K G fa mg mb) (hc:G.lookup AW=some (.cls C i)) (hn:nm∈CE) (hs:swapsWith value (some (.Attribute o nm pos')) pos.line L.env=pure false) (ho:EOk K L o a) (hv:EOk K L value e) :
  SOk K L (.Assign [.Attribute o nm pos'] value pos) (Ji C nm a e):=fun A c ρ Q R F q=>
 plainObj_wpAny_Assign_Attribute (QI (.refl c) F (hv A c ρ _ _ R F q) fun c₁ _ _ s₁ _ r₁ q₁=>QI s₁ F (ho A c₁ ρ _ _ R (F.step s₁) q₁) fun c₂ _ _ s₂ t₂ r₂ q₂=>
  Ua g hc hn (r₁.step t₂) r₂ q₂ fun c₃ s₃ q₃=>.next c₃ ρ (s₂.trans s₃).any (F.step (s₂.trans s₃)) q₃) hs
theorem Q7 {α β:Type} {M:Model} {A:Around} {P:β→Shared→Prop} {E E':Value→Shared→Prop} {s:Shared} {x:β} {t:Sem α} {Q:α→Shared→Prop} (h:wpAny M A (pure x:Sem β) P E' s) (k:P x s→wpAny M A t Q E s):wpAny M A t Q E s:=fun Γ p hΓ=>k (h Γ p hΓ) Γ p hΓ
theorem NE (hns:Bv es) (hst:∀ e r,es=e::r→Aw e) (hdat:o.data=.func fd) (ho:K.h₀.get? f=some o) (hl:LOk K L es as) (R:ROk K L.up A) (F:Fr c L ρ) (q:evs as K.C ρ c.σ Q X)
  (h:∀ (c₁:Cf K.h₀) (Vs:List V) (vals:List Value),Stp AS c c₁→RelL c₁.s.heap c₁.φ Vs vals→Q Vs c₁.σ→wpAny K.M A (call (.ref f) (first++vals)) P (PX c X) c₁.s) :
  wpAny K.M A (callWith pos (.ref f) first (backTo pos (starEach es L.env)) []) P (PX c X) c.s:=by
 have key:=Jk (P:=fun vals s₁=>(∀ b o,K.h₀.heap.get? b=some o→s₁.heap.get? b=some o)∧wpAny K.M A (call (.ref f) (first++vals)) P (PX c X) s₁) (.refl c) (hl A c ρ Q X pos R F q) fun c₁ Vs vals s₁ _ r q=>⟨c₁.sim.keep,h c₁ Vs vals s₁ r q.2⟩
 cases es with
 | nil=>
  refine Q7 (show wpAny K.M A (pure []) _ _ c.s from key) fun key=>PyProof.Rows.callWith_meth0 hdat (c.sim.keep _ _ ho) ?_
  have:=key.2
  rwa [List.append_nil] at this
 | cons e es=>exact PyProof.Rows.callWith_meth hdat ho key (hst e es rfl es L.env)
theorem Nh (hbase:attributeBase o name env (eval o env)=eval o env) (hns:Bv args) (hz:args.length<30) (hline:(apos.endLine==pos.line)=true)
  (h:wpAny M A (eval o env) (fun ov s₁=>∀ pl,wpAny M A (getMethod ov name pl) (fun fx s₂=>wpAny M A (callWith pos fx.1 fx.2 (backTo pos (starEach args env)) []) Q E s₂) E s₁) E s):wpAny M A (eval (.Call (.Attribute o name apos) args [] pos) env) Q E s:=by
 rw [arm_eval_Call,hbase]
 refine wpAny_bind (wpAny_mono h (fun ov s₁ h₁=>wpAny_bind (wpAny_standAt ?_)) fun _ _ e=>e)
 have hpos:methodCallPos true o env apos pos=pure pos:=by unfold methodCallPos;simp [hline]
 have hform:methodCallForm (args.length+([]:List Keyword).length) (backTo pos (starEach args env)) (backToKw pos (keywordEach [] env))=true:=by
  have hn:=hns env pos
  rw [List.any_eq_false] at hn
  unfold methodCallForm
  rw [Bool.and_eq_true_iff,Bool.and_eq_true_iff]
  refine ⟨⟨List.all_eq_true.mpr fun x hx=>?_,rfl⟩,decide_eq_true hz⟩
  rw [Bool.eq_false_iff.mpr (hn x hx)];rfl
 unfold methodCall
 rw [hform]
 exact wpAny_bind (wpAny_holding (wpAny_mono (h₁ _) (fun fx s₂ h₂=>wpAny_bind (wpAny_of_eq hpos h₂)) fun _ _ e=>e))
theorem Ra (g:Gnd K G fa mg mb) (hC:GY K G fa) {C:Addr} {i j:Nat} {x nm:Str} {a:Ex} {es:List Expr} {as:List Ex} {xp apos pos:Pos} (hc:G.lookup AW=some (.cls C i)) (hj:G.lookup (AW++"."++nm)=some (.fn j)) (hz:es.length<30) (hline:(apos.endLine==pos.line)=true) (h:EOk K L (.Name x xp) a) (hns:Bv es) (hst:∀ e r,es=e::r→Aw e) (hl:LOk K L es as) :
  EOk K L (.Call (.Attribute (.Name x xp) nm apos) es [] pos) (Ax C nm j a as):=fun A c ρ Q X R F q=>
 Nh rfl hns hz hline (seq (.refl c) (h A c ρ _ X R F q) fun c₁ V v s₁ _ r q₁ pl=>by
  obtain ⟨⟨n,m,fs,rfl,e1,e2,e3⟩,q₁⟩:=q₁
  refine DM (Cf.inst e1 e2 r) fun ad dx mA ze1 _ _ _ I _ at'=>?_;subst ze1
  refine Bk ((g.cls C i hc).now (c:=c₁)) fun N mN cl hq me _=>?_
  refine A2 cl.obj fun nm' q' bs sn sub col dd k0 k1 k2 k3 k5 hCo=>?_
  refine B8 (me nm j hj) fun ef o fd ho hfc hdat=>?_
  have hsh:=at' nm
  rw [e3] at hsh
  refine BM (g.isfn _ j hj) fun o' fd' ho' hdat'=>?_
  refine method_of hCo cl.ns (hq _ (by decide)) (hq _ (by decide)) ef ho hfc (typeLookup_type _ _) I hsh ?_
  refine wpAny_mono (NE (P:=PV c Q) (c:=c₁) (first:=[.ref ad]) hns hst hdat' ho' hl R (F.step s₁) q₁ fun c₂ Vs vals s₂ r₂ q₂=>?_) (fun _ _ z=>z) fun _ _ z=>z.lift s₁
  exact wpAny_mono (IS s₂ (hC _ j hj A L.up c₂ (.ref n::Vs) (.ref ad::vals) Q X R.call ((F.step s₁).step s₂).up ⟨r.step s₂,r₂⟩ q₂)) (fun _ _ z=>z.lift s₁) fun _ _ z=>z)
theorem Lr (hm:Heap.MadeObj c.s.heap h' x dx C):∃ c':Cf K.h₀,c'.s={ c.s with heap:=h',toks:=tk }∧c'.φ=c.φ++[dx,x]∧c'.σ=c.σ++[.ns [],.inst C c.σ.length]∧Stp AS c c':=by
 refine Bd hm.inst fun ob hx hc hd hdict=>?_
 have hne:dx≠x∧h'.Ns1 dx (fun _=>none):=by
  rcases hdict with ⟨h0,_⟩ | ⟨d,h0,h1,h2⟩
  ·cases (hm.dict ob hx).symm.trans h0
  ·cases (hm.dict ob hx).symm.trans h0;exact ⟨h1,h2⟩
 have r1:RelO K.h₀ h' c.φ (.ns []) dx:=⟨_,hne.2,fun _=>rfl⟩
 have nx:x∉(c.add (tk:=tk) hm.keeps hm.newD r1).φ:=fun m=>(Bj m).elim (c.sim.out hm.newX) fun e=>hne.1 e.symm
 have S:Sim K.h₀ h' (c.φ++[dx]++[x]) (c.σ++[.ns []]++[.inst C c.σ.length]):=(c.add (tk:=tk) hm.keeps hm.newD r1).sim.add (o:=.inst C c.σ.length) nx (c.sim.none₀ hm.newX) ⟨dx,by rw [← c.sim.len];exact List.getElem?_concat_length,hne.1,ob,hx,hc,hd,hm.dict ob hx⟩
 refine ⟨⟨{ c.s with heap:=h',toks:=tk },c.φ++[dx]++[x],c.σ++[.ns []]++[.inst C c.σ.length],S⟩,rfl,List.append_assoc ..,List.append_assoc ..,⟨⟨rfl,rfl⟩,?_,fun b o _ _ e=>⟨o,hm.keeps b o e,.refl o⟩,fun a m=>?_⟩,fun b o e=>⟨o,hm.keeps b o e⟩⟩
 ·exact (List.prefix_append _ _).trans (List.prefix_append _ _)
 ·rcases Bj m with m | rfl
  ·rcases Bj m with m | rfl
   ·exact .inl m
   ·exact .inr hm.newD
  ·exact .inr hm.newX
theorem K8 (args:Args):(Code.builtin "type.__call__" args).cUnits≤3:=Nat.le_of_ble_eq_true rfl
theorem Tp (g:Gnd K G fa mg mb) (hC:GY K G fa) {C:Addr} {i:Nat} {e:Expr} {es:List Expr} {as:List Ex} {pf pos:Pos} (hc:G.lookup AW=some (.cls C i)) (hi:G.lookup (AW++"."++"__init__")=some (.fn i)) (hk:Bb L.env.scope AW=true) (hn:Aw e) (hns:Bv es) (hl:LOk K L (e::es) as) :
  EOk K L (.Call (.Name AW pf) (e::es) [] pos) (TA C i as):=fun A c ρ Q X R F q=>by
 rw [CY]
 have cg:=g.cls C i hc
 refine Bk cg.ns fun N₀ mN₀ cl₀ _ _ _=>?_
 refine wpAny_bind (Cb g F cg.bound hk (by decide) (PyProof.Rows.callWith_cls cl₀ (Jk (.refl c) (hl A c ρ _ X pos R F q) fun c₁ Vs vals s₁ _ r ⟨_,q₁⟩=>⟨c₁.sim.keep,?_⟩) (hn _ _) (hns _ _)))
 refine Bk (cg.now (c:=c₁)) fun N mN cl hq _ ini=>?_
 refine A2 cl.obj fun nm' q' bs sn sub col dd k0 k1 k2 k3 k5 hCo=>?_
 refine B8 ini fun ef o fd ho hfc hdat=>?_
 refine wpAny_call_obj_init PySem.F.objNew hCo cl.ns ef ho hfc fun h' x dx hm=>?_
 refine Bd (Lr (tk:=c₁.s.toks) hm) fun c₂ e1 e2 e3 s₂=>?_
 have hx:c₂.φ[c₁.σ.length+1]?=some x:=by rw [e2,List.getElem?_append_right (by rw [c₁.sim.len];exact Nat.le_succ _),c₁.sim.len,Nat.add_sub_cancel_left];rfl
 have Ru:RCall K L.up (A.under (.builtin "type.__call__" ⟨.ref C::vals,[]⟩)):=⟨R.hd,by show A.depth+1+3*K.d<903;have:=R.depth;exact an2 .lt (.a (.a .v0 .n1) (.m 3 .v1)) (.n 903) (.t (.a .v0 (.m 3 .v1)) (.n 902) .e) rfl this,by show A.units+_+12*K.d<9009;have:=R.units;exact Nat.lt_of_le_of_lt (Nat.add_le_add_right (Nat.add_le_add_left (K8 _) _) _) (by exact an2 .lt (.a (.a .v0 .n3) (.m 12 .v1)) (.n 9009) (.t (.a .v0 (.m 12 .v1)) (.n 9006) .e) rfl this),R.fr⟩
 have key:=IS (.refl c₂) (hC _ i hi _ L.up c₂ (.ref (c₁.σ.length+1)::Vs) (.ref x::vals) _ X Ru ((F.step s₁).step s₂).up ⟨⟨x,rfl,hx⟩,r.step s₂⟩ (e3▸q₁))
 rw [e1] at key
 exact wpAny_mono key (fun r' s' z=>by
  cases z with
  | mk c₃ V s₃ rV qV=>
   obtain ⟨rfl,qV⟩:=qV
   cases rV
   exact ⟨rfl,.mk c₃ (.ref (c₁.σ.length+1)) ((s₁.trans s₂).trans s₃) ⟨x,rfl,B0 s₃.pre hx⟩ qV⟩) fun _ _ z=>z.lift (s₁.trans s₂)
theorem ExcCls.keep (x:ExcCls h k mro) (kk:∀ b o,h.get? b=some o→h'.get? b=some o):ExcCls h' k mro:=by
 cases x with
 | mk bm N nm q bs hdct sn sub ab col dd k0 k1 k2 k3 k5 mN e n i t r=>exact .mk bm N nm q bs hdct sn sub ab col dd k0 k1 k2 k3 k5 mN (kk _ _ e) (n.keeps kk) i (t.keeps kk) r
theorem M1 (g:Gnd K G fa mg mb) (hx:G.lookup x=some (.exc k ks)) (hg:Bb L.env.scope x=true) (hd:CS x=true) (hn:Aw e) (he:EOk K L e a) :
  SOk K L (.Raise (some (.Call (.Name x np) [e] [] cpos)) none pos) (Cz k a):=fun A c ρ Q R F q=>by
 have xg:=g.exc x k ks hx
 refine AF (xg.kids k xg.mem) fun mro xc _=>?_
 cases xc with
 | mk bm N nm q' bs hdct sn sub ab col dd k0 k1 k2 k3 k5 mN e1 n i t r=>
 refine wpAny_Raise_call_subT (nm:=nm) (q:=q') (C:=k) (N:=N) (bs:=bs) (hdct:=hdct) (sn:=sn) (sub:=sub) (ab:=ab) (col:=col) (dd:=dd) (k0:=k0) (k1:=k1) (k2:=k2) (k3:=k3) (k5:=k5) PySem.F.excBase_ValueError (t.hasType (by decide)) R.hd (BL hn BS _ _) i (Cb g F xg.bound hg (C4 hd) ⟨rfl,?_⟩)
 refine wpAny_mono (Oy (P:=fun a s₂=>∃ c₁:Cf K.h₀,c₁.s=s₂∧Stp AS c c₁∧a.kw=[]∧a.pos.length≤sizeLine∧Q (.exc k) ρ c₁.σ) (Q:=fun _ σ=>Q (.exc k) ρ σ) (as:=[a]) R hn (Di hn he E1) F q fun c₁ Vs vals s₁ r hz q=>⟨c₁,rfl,s₁,rfl,?_,q⟩) (fun a s₂ ⟨c₁,e2,s₁,h1,h2,q₁⟩=>?_) fun _ _ z=>z.toE F
 ·rw [show vals.length=1 from r.length.symm.trans hz];decide
 ·subst e2
  refine ⟨h1,h2,c₁.sim.keep _ _ e1,n.keeps c₁.sim.keep,t.keeps c₁.sim.keep,fun h' ex hm=>?_⟩
  refine Ae hm.there fun t' e3 _ _=>?_
  have st:Stp AS c₁ (c₁.keep { c₁.s with heap:=h' } hm.keeps):=Cf.keep_stp ⟨rfl,rfl⟩
  exact .mk (c₁.keep { c₁.s with heap:=h' } hm.keeps) ρ k ex [ex] none (fun b m=>by cases List.mem_singleton.mp m;exact ⟨s₁.gone hm.new,c₁.sim.out hm.new⟩) xg.mem (s₁.trans st).any (F.step (s₁.trans st)) (.new _ _ _ e3 rfl rfl rfl rfl) (.inl rfl) q₁
theorem Kz (hk:ExcCls s.heap k m) (hx:ExcCls s.heap kx mx) (he:s.heap.get? a=some oe) (hc:oe.cls=.ref k) (hq:Q (m.contains (.ref kx)) s) :
  wpAny M A (excMatches (.ref a) (.ref kx)) Q E s:=by
 obtain ⟨h,g,d,t,os⟩:=s
 cases hk with
 | mk bm N nm q bs hdct sn sub ab col dd k0 k1 k2 k3 k5 mN e n i t' r=>
 cases hx with
 | mk bm' N' nm' q' bs' hdct' sn' sub' ab' col' dd' l0 l1 l2 l3 l5 mN' e' n' i' t'' r'=>
 have hcB:(Value.ref kx::bm').contains (.type "BaseException")=true:=by rw [List.contains_cons,t''.hasType (show bmV.contains (.type "BaseException")=true by decide),Bool.or_true]
 have f:=tc_notTuple
 rw [← r] at hq
 unfold excMatches
 repeat (first | (with_reducible refine wpAny_loadPart_at he ?_;rw [hc]) | with_reducible refine wpAny_loadPart_at e' ?_ | (with_reducible refine wpAny_isSubtype_exc e' ?_;rw [hcB]) | with_reducible refine wpAny_isSubtype_exc e ?_ | wp_step)
 cases hb:(Value.ref k::bm).contains (.ref kx) <;> (rw [hb] at hq;wp_walk;exact hq)
noncomputable def Px:Const→Option V
 | .none=>some .none
 | .bool b=>some (.bool b)
 | .str x=>some (.str x)
 | .int i=>some (.int i)
 | _=>none
theorem Pp {A:Around} {env:Env} {c:Cf K.h₀} {cst:Const} {kd:Nat} {p:Pos} {V:V} {E:Value→Shared→Prop} {P:Value→Shared→Prop} (hv:Px cst=some V) (h:∀ v tk,Rel c.s.heap c.φ V v→P v { c.s with toks:=tk }):wpAny K.M A (eval (.Constant cst kd p) env) P E c.s:=by
 unfold Px at hv
 split at hv <;> cases hv
 ·exact wpAny_Constant_none (h _ c.s.toks Ch)
 ·exact wpAny_Constant_bool (h _ c.s.toks BX)
 ·exact wpAny_Constant_str (h _ _ Bh)
 ·exact wpAny_Constant_int (h _ _ BB)
variable (K L) in
noncomputable def HOk (hs:List ExceptHandler) (as:List (List Nat × V × Option Nat)):Prop:=
 ∀ (A:Around) (c₀ c:Cf K.h₀) (ρ:List V) (Q:Br) (a T:Addr) (k:Nat),A.handled=none→AtFr K A L c ρ a k [a,T] none→k∈K.excs→Stp L.own c₀ c→(∀ b∈[a,T],c₀.s.heap.get? b=none∧b∉c.φ)→VG as Q (.exc k) ρ c.σ →
  wpAny K.M A (handleBy (.ref a) L.env hs) (PF c₀ L Q) (PE c₀ L Q) c.s
theorem Rs:HOk K L [] []:=fun A c₀ c ρ Q a T k hh z hk st n q=>by
 refine BC z.x.traced fun oe vs e d h1=>?_
 refine wpAny_handleBy_nil ?_
 unfold passOn
 refine wpAny_bind (wpAny_field e d h1 ?_)
 rw [if_neg (show ¬ (Value.ref T==Value.none)=true from nofun)]
 exact wpAny_bind (DH (fl':=L.env.frame) (P:=fun s=>wpAny K.M A (throw (.ref a)) _ _ s) z fun c' T' e1 e2 st' F' ex hp=>wpAny_throw (.mk c' ρ k a [a,T'] L.env.frame (Eh e1 st n hp) hk (st.transNew st' fun b m=>(n b m).1) F' ex (.inr rfl) (e2▸q)))
theorem UW (x:Exc h a k fp fl):∃ oe,h.get? a=some oe∧oe.cls=.ref k:=by
 cases x with
 | new oe _ _ e c=>exact ⟨oe,e,c⟩
 | seen oe _ _ _ _ _ _ e c=>exact ⟨oe,e,c⟩
theorem OH (g:Gnd K G fa mg mb) {x:Str} {kx:Nat} {ks:List Nat} {cst:Const} {kd:Nat} {V:V} {np cp rp pos:Pos} {rest:List ExceptHandler} {as:List (List Nat × Mine.Internal.V × Option Nat)} (hx:G.lookup x=some (.exc kx ks)) (hg:Bb L.env.scope x=true) (hd:CS x=true) (hv:Px cst=some V) (hr:HOk K L rest as) :
  HOk K L (.ExceptHandler (some (.Name x np)) none [.Return (some (.Constant cst kd cp)) rp] pos::rest) ((ks,V,none)::as):=fun A c₀ c ρ Q a T k hh z hk st n q=>by
 have xg:=g.exc x kx ks hx
 refine AF (UW z.x) fun oe he hc=>?_
 refine AF (xg.kids k hk) fun m hm hmc=>?_
 refine AF (xg.kids kx xg.mem) fun mx hmx _=>?_
 refine wpAny_handleBy_cons (codeAny_handlers_test (Cb g z.F xg.bound hg (C4 hd) (Kz (hm.keep c.sim.keep) (hmx.keep c.sim.keep) he hc ?_))) nofun
 rw [hmc]
 replace q:match List.find? (fun h=>h.1.contains k) ((ks,V,none)::as) with
  | some h=>Q (.ret h.2.1) (Uu h.2.2 ρ) c.σ
  | none=>Q (.exc k) ρ c.σ:=q
 rw [List.find?_cons] at q
 cases hb:ks.contains k with
 | false=>rw [hb] at q;exact hr A c₀ c ρ Q a T k hh z hk st n q
 | true=>
  rw [hb] at q
  have z':AtFr K (A.mark (some (.ref a))) L c ρ a k [a,T] none:=⟨z.R,z.hu,z.F,z.x,z.hfl,z.hn⟩
  refine codeAny_handlers_suite (DH (P:=fun s=>wpAny K.M (A.mark (some (.ref a))) (execs [.Return (some (.Constant cst kd cp)) rp] L.env) _ _ s) z' fun c' T' e1 e2 st' F' ex hp=>?_)
  refine wpAny_execs_cons (wpAny_Return_some (Pp (c:=c') hv fun v tk rv=>?_))
  have s₂:Stp AS c' (c'.toks tk):=Cf.keep_stp ⟨rfl,rfl⟩
  exact .ret (c'.toks tk) ρ V v ((st.transNew st' fun b m=>(n b m).1).trans s₂.any) (F'.step s₂) rv (by show Q _ _ c'.σ;rw [e2];exact q)
theorem Rb (hu:L.up=L.env::L.up.tail) (hb:SsOk K L body b) (hh:HOk K L (h::hs) as):SOk K L (.Try body (h::hs) [] [] pos) (Uc b as):=fun A c ρ Q R F q=>
 wpAny_Try_except (wpAny_mono (hb A c ρ _ R F q) (fun f s₁ y=>y.casesOn (fun c₁ ρ₁ s₁ F₁ q₁=>wpAny_execs_nil (.next c₁ ρ₁ s₁ F₁ q₁)) fun c₁ ρ₁ V v s₁ F₁ r q₁=>.ret c₁ ρ₁ V v s₁ F₁ r q₁) fun e s₁ y=>by
  refine Bn (y.at R hu) fun c' ρ' k a fp fl ze1 ze2 z hk q' st n=>?_;subst ze1;subst ze2
  refine Mb (P:=fun s=>wpAny K.M A (setFlight (.ref a) none) _ _ s) z fun c'' T e1 e2 st' F' ex hp=>?_
  have n':=Eh e1 st n hp
  have st'':Stp L.own c c'':=st.transNew st' fun b m=>(n b m).1
  have z':AtFr K A L c'' ρ' a k [a,T] L.env.frame:=⟨R.fr,hu,F',ex,.inr rfl,fun b m=>⟨c.sim.none₀ (n' b m).1,(n' b m).2⟩⟩
  refine DH (fl':=none) (P:=fun s=>wpAny K.M A (handleBy (.ref a) L.env (h::hs)) _ _ s) z' fun c₃ T' f1 f2 st₃ F₃ ex₃ hp₃=>?_
  have n₃:=Eh f1 st'' n' hp₃
  exact hh A c c₃ ρ' Q a T' k R.hd ⟨R.fr,hu,F₃,ex₃,.inl rfl,fun b m=>⟨c.sim.none₀ (n₃ b m).1,(n₃ b m).2⟩⟩ hk (st''.transNew st₃ fun b m=>(n' b m).1) n₃ (by rw [f2,e2];exact q'))
end
end Mine.Internal
namespace Mine.Internal
open PySem PySem.Calls
set_option genSizeOf false
set_option genInjectivity false
noncomputable def HO (sc:Scope) (x:Str):Bool:=match sc.names.lookup x with
 | some .cell | some .free=>true
 | _=>false
theorem M0 (h:HO sc x=true):sc.names.lookup x=some .cell∨sc.names.lookup x=some .free:=by
 unfold HO at h
 split at h
 ·exact .inl ‹_›
 ·exact .inr ‹_›
 ·cases h
structure Agree (env:Env) (sc:Scope):Prop where
 var:∀ x,GQ env.scope x=GQ sc x
 glob:∀ x,Bb env.scope x=Bb sc x
 cf:∀ x,HO sc x=true→HO env.scope x=true
theorem Agree.of_eq (h:env.scope=sc):Agree env sc:=⟨fun _=>by rw [h],fun _=>by rw [h],fun _ q=>by rw [h];exact q⟩
theorem DL (x:Str):(relabel sc env).names.lookup x=sc.names.lookup x∨(sc.names.lookup x=some .free∧(relabel sc env).names.lookup x=some .cell):=by
 rw [Dh]
 cases h:sc.names.lookup x with
 | none=>exact .inl rfl
 | some k=>
  rw [Option.map_some]
  by_cases hq:(k==NameKind.free&&env.scope.kind==.function&&env.kindOf x==some .cell)=true
  ·rw [if_pos hq]
   exact .inr ⟨congrArg some (beq_iff_eq.mp (Bool.and_eq_true_iff.mp (Bool.and_eq_true_iff.mp hq).1).1),rfl⟩
  ·rw [if_neg hq];exact .inl rfl
theorem Agree.comp:Agree (compEnvC sc cl C env) sc where
 var x:=by show GQ (relabel sc env) x=_;unfold GQ;rcases DL (env:=env) (sc:=sc) x with e | ⟨e,e'⟩ <;> first | (rw [e,e'];rfl) | rw [e]
 glob x:=by show Bb (relabel sc env) x=_;unfold Bb;rcases DL (env:=env) (sc:=sc) x with e | ⟨e,e'⟩ <;> first | (rw [e,e'];rfl) | rw [e]
 cf x h:=by
  show HO (relabel sc env) x=true
  unfold HO at h ⊢
  rcases DL (env:=env) (sc:=sc) x with e | ⟨_,e'⟩
  ·rw [e];exact h
  ·rw [e']
noncomputable def CM (sc:Scope) (vs:Vs) (x:Str) (nx:Nat):Vs:=(x,nx)::sc.names.filterMap fun y=>if y.2==.free then (vs.lookup y.1).map (y.1,·) else none
noncomputable def JV (sc:Scope) (vs:Vs) (csc:Scope) (x:Str) (nx:Nat):Bool:=
 csc.kind==.function&&csc.names.all (fun y=>y.2 != .cell&&(y.2 != .local||csc.names.lookup y.1==some .local)&&(y.2 != .free||(csc.names.lookup y.1==some .free&&HO sc y.1&&(vs.lookup y.1).isSome))) &&
  csc.names.lookup x==some .local&&vs.all (fun p=>p.2 != nx)
theorem D5 {names:List (Str × NameKind)} {vs:Vs} {y:Str} {j:Nat} (h:(names.filterMap fun y=>if y.2==.free then (vs.lookup y.1).map (y.1,·) else none).lookup y=some j):(y,NameKind.free)∈names∧vs.lookup y=some j:=by
 obtain ⟨⟨n,k⟩,hp,e⟩:=List.mem_filterMap.mp (mem_of_lookup h)
 split at e
 ·rename_i hf
  refine AF (Option.map_eq_some_iff.mp e) fun j' hj e=>?_
  cases e
  cases beq_iff_eq.mp hf
  exact ⟨hp,hj⟩
 ·cases e
theorem MK {env:Env} {up:List Env} {sc csc:Scope} {vs:Vs} {x:Str} {nx:Nat} (hcf:∀ y,HO sc y=true→HO env.scope y=true) (h:JV sc vs csc x nx=true):CompSc ⟨env,vs,up⟩ csc (CM csc vs x nx) x nx:=by
 unfold JV at h
 simp only [Bool.and_eq_true,beq_iff_eq,List.all_eq_true,bne_iff_ne,ne_eq,Bool.or_eq_true,Option.isSome_iff_exists] at h
 obtain ⟨⟨⟨h1,h2⟩,h3⟩,h4⟩:=h
 have hfree:∀ y,(y,NameKind.free)∈csc.names→csc.names.lookup y=some .free∧HO sc y=true∧∃ j,vs.lookup y=some j:=fun y hy=>by
  have:=(h2 _ hy).2.resolve_left fun n=>n rfl
  exact ⟨this.1.1,this.1.2,this.2⟩
 refine ⟨h1,fun y hy=>(h2 y hy).1.1,fun y hy hl=>(h2 y hy).1.2.resolve_left fun n=>n hl,h3,fun m=>?_,?_,fun y hy hf=>?_,fun y j hj=>?_⟩
 ·cases h3.symm.trans (hfree x m).1
 ·rw [CM,List.lookup_cons,beq_self_eq_true]
 ·obtain ⟨n,k⟩:=y
  cases hf
  refine Lf (hfree n hy) fun _ c j hj=>?_
  exact ⟨j,hj,M0 (hcf n c)⟩
 ·rw [CM,List.lookup_cons] at hj
  cases e:y==x with
  | true=>rw [e] at hj;exact .inl ⟨beq_iff_eq.mp e,(Option.some.inj hj).symm⟩
  | false=>
   rw [e] at hj
   obtain ⟨m,hv⟩:=D5 hj
   exact .inr ⟨beq_eq_false_iff_ne.mp e,(hfree y m).1,hv,h4 (y,j) (mem_of_lookup hv)⟩
structure RE where
 v:Ex
 t:Tx
abbrev rv (a:Ex):RE:=⟨a,BA a⟩
structure EGood (K:Ctx) (L:Loc) (e:Expr) (a:RE):Prop where
 star:Aw e
 slice:GI e
 ok:EOk K L e a.v
 test:TOk K L e a.t
inductive AllG (K:Ctx) (L:Loc):List Expr→List RE→Prop
 | nil:AllG K L [] []
 | cons {e:Expr} {a:RE} {es:List Expr} {as:List RE}:EGood K L e a→AllG K L es as→AllG K L (e::es) (a::as)
structure Bg (K:Ctx) (G:GlT) (fa:Nat→Addr) (mg mb:Str→Option Value):Prop where
 g:Gnd K G fa mg mb
 hC:GY K G fa
abbrev vals (as:List RE):List Ex:=as.map RE.v
abbrev Jx (as:List RE):List Tx:=as.map RE.t
section
variable {K:Ctx} {L:Loc}
theorem gv (h1:Aw e) (h2:GI e) (he:∀ env whole,isTrue e env whole=(do let v ← whole;standAt e.pos;holding [v] (truthy v))) (h:EOk K L e a):EGood K L e (rv a):=⟨h1,h2,h,SP he h⟩
theorem AllG.all (h:AllG K L es as):LOk K L es (vals as)∧AOk K L es (Jx as)∧Bv es∧Iy K L es (Jx as):=by
 induction h with
 | nil=>exact ⟨E1,RD,BS,O9⟩
 | cons h _ ih=>exact ⟨Di h.star h.ok ih.1,OD h.test ih.2.1,BL h.star ih.2.2.1,Nc h.test ih.2.2.2⟩
theorem AllG.B (h:AllG K L es as):∀ {e:Expr} {a:RE},EGood K L e a→BOk K L (e::es) (vals (a::as)):=by
 induction h with
 | nil=>exact fun h=>RL h.ok
 | cons h _ ih=>exact fun h'=>PK h'.ok (ih h)
theorem AllG.C (h:AllG K L es as):∀ {e:Expr} {a:RE} {ops:List CmpOp},EGood K L e a→ops.length=(e::es).length→COk K L ops (e::es) (vals (a::as)):=by
 induction h with
 | nil=>exact fun {_ _ ops} h hl=>match ops,hl with | [_],_=>Rw h.ok
 | cons h _ ih=>exact fun {_ _ ops} h' hl=>match ops,hl with | _::_::_,hl=>PA h'.ok (ih h (Nat.succ.inj hl))
end
section
variable {K:Ctx} {G:GlT} {fa:Nat→Addr} {mg mb:Str→Option Value}
variable (K) in
abbrev Good (sc:Scope) (vs:Vs) (e:Expr):Type:={ a:RE // ∀ env up,Agree env sc→EGood K ⟨env,vs,up⟩ e a }
variable (K) in
abbrev VR (sc:Scope) (vs:Vs) (es:List Expr):Type:={ as:List RE // ∀ env up,Agree env sc→AllG K ⟨env,vs,up⟩ es as }
variable (K) in
abbrev Rdr:=(sc:Scope)→(vs:Vs)→(e:Expr)→Option (Good K sc vs e)
noncomputable def rL {sc:Scope} {vs:Vs} (f:(e:Expr)→Option (Good K sc vs e)):(es:List Expr)→Option (VR K sc vs es)
 | []=>some ⟨[],fun _ _ _=>.nil⟩
 | e::es=>(f e).bind fun a=>(rL f es).map fun as=>⟨a.1::as.1,fun env up h=>.cons (a.2 env up h) (as.2 env up h)⟩
noncomputable def UX {sc:Scope} {vs:Vs} {k:Nat} {p:Pos}:(c:Const)→Option (Good K sc vs (.Constant c k p))
 | .none=>some ⟨rv A1,fun _ _ _=>gv (fun _ _=>rfl) (fun _ _=>rfl) (fun _ _=>rfl) Rg⟩
 | .bool b=>some ⟨rv (A3 b),fun _ _ _=>gv (fun _ _=>rfl) (fun _ _=>rfl) (fun _ _=>rfl) RG⟩
 | .int i=>some ⟨rv (AB i),fun _ _ _=>gv (fun _ _=>rfl) (fun _ _=>rfl) (fun _ _=>rfl) TZ⟩
 | .str s=>some ⟨rv (Ad s),fun _ _ _=>gv (fun _ _=>rfl) (fun _ _=>rfl) (fun _ _=>rfl) LR⟩
 | _=>none
noncomputable def Nn {α:Type} (o:Option α):Option { a:α // o=some a }:=match o with
 | some a=>some ⟨a,rfl⟩
 | none=>none
noncomputable def Qq (B:Bg K G fa mg mb) (sc:Scope) (vs:Vs) (x:Str) (p:Pos):Option (Good K sc vs (.Name x p)):=
 if hn:CS x=true then
  if hv:GQ sc x=true then (Nn (vs.lookup x)).map fun i=>⟨rv (AA i.1),fun _ _ hA=>gv (fun _ _=>rfl) (fun _ _=>rfl) (fun _ _=>rfl) (UC i.2 ((hA.var x).trans hv) hn)⟩
  else if hg:Bb sc x=true then (Nn (G.lookup x)).bind fun
   | ⟨.str s,e⟩=>some ⟨rv (Ad s),fun _ _ hA=>gv (fun _ _=>rfl) (fun _ _=>rfl) (fun _ _=>rfl) (Sa B.g e ((hA.glob x).trans hg) hn)⟩
   | ⟨.int i,e⟩=>some ⟨rv (AB i),fun _ _ hA=>gv (fun _ _=>rfl) (fun _ _=>rfl) (fun _ _=>rfl) (RT B.g e ((hA.glob x).trans hg) hn)⟩
   | _=>none
  else none
 else none
noncomputable def rOp:(op:Operator)→Option { o:BOp // cOp o=op }
 | .Add=>some ⟨.add,rfl⟩ | .Sub=>some ⟨.sub,rfl⟩ | .Mult=>some ⟨.mul,rfl⟩ | .FloorDiv=>some ⟨.floordiv,rfl⟩ | .Mod=>some ⟨.mod,rfl⟩ | _=>none
theorem Agree.free (hA:Agree env sc) (h:Ai G sc x=true):Ai G env.scope x=true:=by unfold Ai at h ⊢;rw [hA.glob x];exact h
abbrev SY (K:Ctx) (sc:Scope) (vs:Vs) (t e:Expr):Type:={ r:SrcT × List RE // ∀ env up,Agree env sc→Fx K ⟨env,vs,up⟩ e r.1 (vals r.2) t∧∀ x,foldedSetIterable e env x=pure x }
noncomputable def Sq:Expr→Bool
 | .Set ..=>true
 | _=>false
theorem M2 (h:Sq e=false) (env:Env) (x:Value):foldedSetIterable e env x=pure x:=by
 cases e <;> first | rfl | cases h
noncomputable def S1:Expr→Bool
 | .Tuple ..=>true
 | _=>false
noncomputable def O7 {sc:Scope} {vs:Vs} (f:(e:Expr)→Option (Good K sc vs e)) (t e:Expr):Option (SY K sc vs t e):=
 if hs:Sq e=false then (f e).map fun b=>⟨(.plain,[b.1]),fun env up h=>⟨NW (b.2 env up h).ok,M2 hs env⟩⟩ else none
noncomputable def VH (B:Bg K G fa mg mb) {sc:Scope} {vs:Vs} (f:(e:Expr)→Option (Good K sc vs e)) (pf pos:Pos) (a:Expr):(t:Expr)→Option (SY K sc vs t (.Call (.Name ("enumerate":Str) pf) [a] [] pos))
 | .Tuple _ _ _=>if hf:Ai G sc ("enumerate":Str)=true then (f a).map fun b=>⟨(.enum,[b.1]),fun env up h=>⟨OA B.g (h.free hf) (b.2 env up h).star (AllG.cons (b.2 env up h) .nil).all.1,fun _=>rfl⟩⟩ else none
 | _=>none
noncomputable def Tb (B:Bg K G fa mg mb) {sc:Scope} {vs:Vs} (f:(e:Expr)→Option (Good K sc vs e)) (t:Expr) (pf pos:Pos) (a:Expr) (as:List Expr):Option (SY K sc vs t (.Call (.Name ("range":Str) pf) (a::as) [] pos)):=
 if hf:Ai G sc ("range":Str)=true then (f a).bind fun b=>(rL f as).map fun bs=>⟨(.range,b.1::bs.1),fun env up h=>
  have al:=(AllG.cons (b.2 env up h) (bs.2 env up h)).all
  ⟨NI B.g (h.free hf) (b.2 env up h).star al.2.2.1 al.1,fun _=>rfl⟩⟩ else none
noncomputable def Um (B:Bg K G fa mg mb) {sc:Scope} {vs:Vs} (f:(e:Expr)→Option (Good K sc vs e)) (t:Expr):(e:Expr)→Option (SY K sc vs t e)
 | .Call (.Name x pf) (a::as) [] pos=>
  if hr:x=("range":Str) then (Tb B f t pf pos a as).map fun r=>⟨r.1,fun env up h=>by subst hr;exact r.2 env up h⟩
  else if he:x=("enumerate":Str) then (match as with
   | []=>(VH B f pf pos a t).map fun r=>⟨r.1,fun env up h=>by subst he;exact r.2 env up h⟩
   | _::_=>none)
  else O7 f t (.Call (.Name x pf) (a::as) [] pos)
 | e=>O7 f t e
noncomputable def VZ (x:Str):Option { p:Pr // x∈By∧bootBuiltins x=some (GV p)∧(∀ vs,LC p vs=vs)∧((∃ T,GV p=.type T)∨∃ T,GV p=.builtin T) }:=
 if h:x=("len":Str) then some ⟨.len,by subst h;exact ⟨by decide,OT,fun _=>rfl,.inr ⟨_,rfl⟩⟩⟩
 else if h:x=("list":Str) then some ⟨.list,by subst h;exact ⟨by decide,Ha,fun _=>rfl,.inl ⟨_,rfl⟩⟩⟩
 else if h:x=("str":Str) then some ⟨.str,by subst h;exact ⟨by decide,KU,fun _=>rfl,.inl ⟨_,rfl⟩⟩⟩
 else if h:x=("int":Str) then some ⟨.int,by subst h;exact ⟨by decide,J0,fun _=>rfl,.inl ⟨_,rfl⟩⟩⟩
 else if h:x=("all":Str) then some ⟨.all,by subst h;exact ⟨by decide,QG,fun _=>rfl,.inr ⟨_,rfl⟩⟩⟩
 else if h:x=("max":Str) then some ⟨.max,by subst h;exact ⟨by decide,P2,fun _=>rfl,.inr ⟨_,rfl⟩⟩⟩
 else none
noncomputable def Vt (x:Str):Option { t:Ty // x∈By∧bootBuiltins x=some (.type (Lh t)) }:=
 if h:x=("int":Str) then some ⟨.int,by subst h;exact ⟨by decide,J0⟩⟩
 else if h:x=("bool":Str) then some ⟨.bool,by subst h;exact ⟨by decide,NC⟩⟩
 else if h:x=("str":Str) then some ⟨.str,by subst h;exact ⟨by decide,KU⟩⟩
 else if h:x=("tuple":Str) then some ⟨.tuple,by subst h;exact ⟨by decide,LN⟩⟩
 else if h:x=("list":Str) then some ⟨.list,by subst h;exact ⟨by decide,Ha⟩⟩
 else none
structure SortR (K:Ctx) (G:GlT):Prop where
 one:∀ {L:Loc} {e:Expr} {a:Ex} {pf pos:Pos},Ai G L.env.scope ("sorted":Str)=true→Aw e→EOk K L e a→EOk K L (.Call (.Name ("sorted":Str) pf) [e] [] pos) (E6 false a)
 set:∀ {L:Loc} {e:Expr} {a:Ex} {pf pf' pos pos':Pos},Ai G L.env.scope ("sorted":Str)=true→Ai G L.env.scope ("set":Str)=true→Aw e→EOk K L e a →
  EOk K L (.Call (.Name ("sorted":Str) pf) [.Call (.Name ("set":Str) pf') [e] [] pos'] [] pos) (E6 true a)
noncomputable def Vy (B:Bg K G fa mg mb) {sc:Scope} {vs:Vs} (f:(e:Expr)→Option (Good K sc vs e)) (pf pos:Pos) (a:Expr):(as:List Expr)→Option (Good K sc vs (.Call (.Name ("isinstance":Str) pf) (a::as) [] pos))
 | [.Name y _]=>if hf:(Ai G sc ("isinstance":Str)&&Ai G sc y)=true then (Vt y).bind fun ty=>(f a).map fun b=>⟨rv (Ah (.isinst ty.1) [b.1.v]),fun env up h=>
   have hf:=Bool.and_eq_true_iff.mp hf
   gv (fun _ _=>rfl) (fun _ _=>rfl) (fun _ _=>rfl) (M8 B.g (h.free hf.1) (h.free hf.2) ty.2.1 ty.2.2 (b.2 env up h).star (b.2 env up h).ok)⟩ else none
 | _=>none
noncomputable def R4 (S:SortR K G) {sc:Scope} {vs:Vs} (f:(e:Expr)→Option (Good K sc vs e)) (pf pos:Pos):(as:List Expr)→Option (Good K sc vs (.Call (.Name ("sorted":Str) pf) as [] pos))
 | [.Call (.Name y pf') [e] [] pos']=>if hy:y=("set":Str) then
   if hf:(Ai G sc ("sorted":Str)&&Ai G sc ("set":Str))=true then (f e).map fun b=>⟨rv (E6 true b.1.v),fun env up h=>gv (fun _ _=>rfl) (fun _ _=>rfl) (fun _ _=>rfl) (by
    have hf:=Bool.and_eq_true_iff.mp hf
    subst hy;exact S.set (h.free hf.1) (h.free hf.2) (b.2 env up h).star (b.2 env up h).ok)⟩ else none
  else if hf:Ai G sc ("sorted":Str)=true then (f (.Call (.Name y pf') [e] [] pos')).map fun b=>⟨rv (E6 false b.1.v),fun env up h=>gv (fun _ _=>rfl) (fun _ _=>rfl) (fun _ _=>rfl) (S.one (h.free hf) (b.2 env up h).star (b.2 env up h).ok)⟩ else none
 | [e]=>if hf:Ai G sc ("sorted":Str)=true then (f e).map fun b=>⟨rv (E6 false b.1.v),fun env up h=>gv (fun _ _=>rfl) (fun _ _=>rfl) (fun _ _=>rfl) (S.one (h.free hf) (b.2 env up h).star (b.2 env up h).ok)⟩ else none
 | _=>none
noncomputable def J9 (x:Str):Bool:=!x.cps.toList.contains 46
theorem E9 (h:J9 x=true) (m:Str):x≠AW++"."++m:=fun e=>by
 rw [e] at h
 unfold J9 at h
 have:(AW++"."++m:Str).cps.toList=AW.cps.toList++[46]++m.cps.toList:=by
  show ((AW.cps++(⟨#[46]⟩:Str).cps)++m.cps).toList=_
  rw [Array.toList_append,Array.toList_append]
 rw [this,List.contains_iff_mem.mpr (List.mem_append_left _ (List.mem_append_right _ List.mem_cons_self))] at h
 cases h
noncomputable def R2 (g:Option Gl) (i:Nat):Bool:=match g with
 | some (.fn j)=>j==i
 | _=>false
theorem Mm (h:R2 g i=true):g=some (.fn i):=by
 unfold R2 at h
 split at h
 ·rw [beq_iff_eq.mp h]
 ·cases h
noncomputable def U6 (B:Bg K G fa mg mb) (S:SortR K G) {sc:Scope} {vs:Vs} (f:(e:Expr)→Option (Good K sc vs e)) (x:Str) (pf pos:Pos):(as:List Expr)→Option (Good K sc vs (.Call (.Name x pf) as [] pos))
 | []=>none
 | a::as=>
  if hi:x=("isinstance":Str) then (Vy B f pf pos a as).map fun r=>⟨r.1,fun env up h=>by subst hi;exact r.2 env up h⟩
  else if hs:x=("sorted":Str) then (R4 S f pf pos (a::as)).map fun r=>⟨r.1,fun env up h=>by subst hs;exact r.2 env up h⟩
  else if hg:(Bb sc x&&CS x)=true then (f a).bind fun b=>(rL f as).bind fun bs=>(match hl:G.lookup x with
   | some (.fn i)=>if hd:J9 x=true then some ⟨rv (AQ i (vals (b.1::bs.1))),fun env up h=>
     have hg:=Bool.and_eq_true_iff.mp hg
     gv (fun _ _=>rfl) (fun _ _=>rfl) (fun _ _=>rfl) (Rm B.g B.hC hl (E9 hd) ((h.glob x).trans hg.1) hg.2 (b.2 env up h).star (AllG.cons (b.2 env up h) (bs.2 env up h)).all.1)⟩ else none
   | some (.cls C i)=>if hx:x=AW then (if hj:R2 (G.lookup (AW++"."++"__init__")) i=true then some ⟨rv (TA C i (vals (b.1::bs.1))),fun env up h=>
     have hg:=Bool.and_eq_true_iff.mp hg
     have al:=(AllG.cons (b.2 env up h) (bs.2 env up h)).all
     gv (fun _ _=>rfl) (fun _ _=>rfl) (fun _ _=>rfl) (by subst hx;exact Tp B.g B.hC hl (Mm hj) ((h.glob AW).trans hg.1) (b.2 env up h).star (bs.2 env up h).all.2.2.1 al.1)⟩ else none) else none
   | some _=>none
   | none=>(VZ x).map fun p=>⟨rv (Ah p.1 (vals (b.1::bs.1))),fun env up h=>
     have al:=(AllG.cons (b.2 env up h) (bs.2 env up h)).all
     gv (fun _ _=>rfl) (fun _ _=>rfl) (fun _ _=>rfl) (UA B.g p.2.2.2.1 (h.free (by unfold Ai;rw [hl,(Bool.and_eq_true_iff.mp hg).1];rfl)) p.2.1 p.2.2.1 p.2.2.2.2 (b.2 env up h).star al.2.2.1 al.1)⟩)
  else none
end
end Mine.Internal
namespace Mine.Internal
open PySem PySem.Calls
set_option genSizeOf false
set_option genInjectivity false
section
variable {K:Ctx} {G:GlT} {fa:Nat→Addr} {mg mb:Str→Option Value}
structure CompRd (K:Ctx) (L:Loc) (elt:Expr) (x:Str) (px:Pos) (iter:Expr) (ifs:List Expr) (csc:Scope) (vs':Vs) (nx:Nat) (a:Ex) (k:SrcT) (as:List Ex) (ts:List Tx):Prop where
 sc:CompSc L csc vs' x nx
 fold:∀ x,foldedSetIterable iter L.env x=pure x
 src:Fx K L iter k as (.Name x px)
 kind:k≠.enum
 elt:∀ C,EOk K (BY L csc vs' C) elt a
 ifs:∀ C,Iy K (BY L csc vs' C) ifs ts
structure CompV where
 a:Ex
 k:SrcT
 as:List Ex
 ts:List Tx
noncomputable def Rv:(k:SrcT)→Option { _u:Unit // k≠.enum }
 | .plain=>some ⟨(),nofun⟩
 | .range=>some ⟨(),nofun⟩
 | .enum=>none
noncomputable def S0 (B:Bg K G fa mg mb) (nx:Nat) (ff:Rdr K) (sc:Scope) (vs:Vs) (elt:Expr) (x:Str) (px:Pos) (iter:Expr) (ifs:List Expr) (csc:Scope) :
  Option { r:CompV // ∀ env up,Agree env sc→CompRd K ⟨env,vs,up⟩ elt x px iter ifs csc (CM csc vs x nx) nx r.a r.k r.as r.ts }:=
 if hc:JV sc vs csc x nx=true then (Um B (ff sc vs) (.Name x px) iter).bind fun s=>(ff csc (CM csc vs x nx) elt).bind fun a=>(rL (ff csc (CM csc vs x nx)) ifs).bind fun ts=>(Rv s.1.1).map fun hk=>
  ⟨⟨a.1.v,s.1.1,vals s.1.2,Jx ts.1⟩,fun env up h=>⟨MK h.cf hc,(s.2 env up h).2,(s.2 env up h).1,hk.2,fun _=>(a.2 _ _ Agree.comp).ok,fun _=>(ts.2 _ _ Agree.comp).all.2.2.2⟩⟩ else none
noncomputable def U5 {sc:Scope} {vs:Vs} (f:(e:Expr)→Option (Good K sc vs e)):(o:Option Expr)→Option { a:Option Ex // ∀ env up,Agree env sc→OOk K ⟨env,vs,up⟩ o a }
 | none=>some ⟨none,fun _ _ _=>Qe⟩
 | some e=>(f e).map fun a=>⟨some a.1.v,fun env up h=>PT (a.2 env up h).ok⟩
noncomputable def WB (B:Bg K G fa mg mb) {sc:Scope} {vs:Vs} (f:(e:Expr)→Option (Good K sc vs e)) (pos:Pos) (a:Expr):(i:Expr)→Option (Good K sc vs (.Subscript a i pos))
 | .Slice lo hi none _=>(f a).bind fun x=>(U5 f lo).bind fun y=>(U5 f hi).map fun z=>⟨rv (BW x.1.v y.1 z.1),fun env up h=>gv (fun _ _=>rfl) (fun _ _=>rfl) (fun _ _=>rfl) (OE (x.2 env up h).ok (y.2 env up h) (z.2 env up h))⟩
 | i=>(f a).bind fun x=>(f i).map fun y=>⟨rv (AJ x.1.v y.1.v),fun env up h=>gv (fun _ _=>rfl) (fun _ _=>rfl) (fun _ _=>rfl) (TK (y.2 env up h).slice (x.2 env up h).ok (y.2 env up h).ok)⟩
noncomputable def V0 {sc:Scope} {vs:Vs} (f:(e:Expr)→Option (Good K sc vs e)) (apos pos:Pos) (o:Expr) (hb:∀ env,attributeBase o ("append":Str) env (eval o env)=eval o env):(as:List Expr)→Option (Good K sc vs (.Call (.Attribute o ("append":Str) apos) as [] pos))
 | [a]=>if hl:(apos.endLine==pos.line)=true then (f o).bind fun x=>(f a).map fun y=>⟨rv (Fa x.1.v y.1.v),fun env up h=>gv (fun _ _=>rfl) (fun _ _=>rfl) (fun _ _=>rfl) (Nd hb hl (y.2 env up h).star (x.2 env up h).ok (y.2 env up h).ok)⟩ else none
 | _=>none
theorem AllG.star (h:AllG K L es as):∀ e r,es=e::r→Aw e:=fun e r q=>by
 subst q
 cases h with
 | cons h _=>exact h.star
noncomputable def V6:(g:Option Gl)→Option { j:Nat // g=some (.fn j) }
 | some (.fn j)=>some ⟨j,rfl⟩
 | _=>none
noncomputable def P5:(g:Option Gl)→Option { p:Addr × Nat // g=some (.cls p.1 p.2) }
 | some (.cls C i)=>some ⟨(C,i),rfl⟩
 | _=>none
noncomputable def So:(g:Option Gl)→Option { p:Nat × List Nat // g=some (.exc p.1 p.2) }
 | some (.exc k ks)=>some ⟨(k,ks),rfl⟩
 | _=>none
noncomputable def VT (B:Bg K G fa mg mb) {sc:Scope} {vs:Vs} (f:(e:Expr)→Option (Good K sc vs e)) (m:Str) (apos pos:Pos) (o:Str) (po:Pos) (as:List Expr):Option (Good K sc vs (.Call (.Attribute (.Name o po) m apos) as [] pos)):=
 (P5 (G.lookup AW)).bind fun c=>(V6 (G.lookup (AW++"."++m))).bind fun j=>if hl:(decide (as.length<30)&&(apos.endLine==pos.line))=true then (Qq B sc vs o po).bind fun x=>(rL f as).map fun ys=>
  ⟨rv (Ax c.1.1 m j.1 x.1.v (vals ys.1)),fun env up h=>
   have hl:=Bool.and_eq_true_iff.mp hl
   gv (fun _ _=>rfl) (fun _ _=>rfl) (fun _ _=>rfl) (Ra B.g B.hC c.2 j.2 (of_decide_eq_true hl.1) hl.2 (x.2 env up h).ok (ys.2 env up h).all.2.2.1 (ys.2 env up h).star (ys.2 env up h).all.1)⟩ else none
noncomputable def V1 {sc:Scope} {vs:Vs} (f:(e:Expr)→Option (Good K sc vs e)) (apos pos:Pos) (o:Expr) (hb:∀ env,attributeBase o ("extend":Str) env (eval o env)=eval o env):(as:List Expr)→Option (Good K sc vs (.Call (.Attribute o ("extend":Str) apos) as [] pos))
 | [a]=>if hl:(apos.endLine==pos.line)=true then (f o).bind fun x=>(f a).map fun y=>⟨rv (UG x.1.v y.1.v),fun env up h=>gv (fun _ _=>rfl) (fun _ _=>rfl) (fun _ _=>rfl) (Np hb hl (y.2 env up h).star (x.2 env up h).ok (y.2 env up h).ok)⟩ else none
 | _=>none
noncomputable def V4 {sc:Scope} {vs:Vs} (f:(e:Expr)→Option (Good K sc vs e)) (apos pos:Pos) (o:Expr) (hb:∀ env,attributeBase o ("pop":Str) env (eval o env)=eval o env):(as:List Expr)→Option (Good K sc vs (.Call (.Attribute o ("pop":Str) apos) as [] pos))
 | [a]=>if hl:(apos.endLine==pos.line)=true then (f o).bind fun x=>(f a).map fun y=>⟨rv (SO x.1.v y.1.v),fun env up h=>gv (fun _ _=>rfl) (fun _ _=>rfl) (fun _ _=>rfl) (UO hb hl (y.2 env up h).star (x.2 env up h).ok (y.2 env up h).ok)⟩ else none
 | _=>none
noncomputable def rM1 {sc:Scope} {vs:Vs} (f:(e:Expr)→Option (Good K sc vs e)) (m:Str) (apos pos:Pos) (o:Expr) (hb:∀ m env,attributeBase o m env (eval o env)=eval o env) (as:List Expr):Option (Good K sc vs (.Call (.Attribute o m apos) as [] pos)):=
 if hm:m=("append":Str) then (V0 f apos pos o (hb _) as).map fun r=>⟨r.1,fun env up h=>by subst hm;exact r.2 env up h⟩
 else if hm:m=("extend":Str) then (V1 f apos pos o (hb _) as).map fun r=>⟨r.1,fun env up h=>by subst hm;exact r.2 env up h⟩
 else if hm:m=("pop":Str) then (V4 f apos pos o (hb _) as).map fun r=>⟨r.1,fun env up h=>by subst hm;exact r.2 env up h⟩
 else none
noncomputable def V8 (m:Str):Bool:=m==("append":Str)||m==("extend":Str)||m==("pop":Str)
noncomputable def rFs {sc:Scope} {vs:Vs} (f:(e:Expr)→Option (Good K sc vs e)):(es:List Expr)→Option { as:List Ex // ∀ env up,Agree env sc→FAll K ⟨env,vs,up⟩ es as }
 | []=>some ⟨[],fun _ _ _=>.nil⟩
 | .Constant (.str s) _ _::r=>(rFs f r).map fun as=>⟨Ad s::as.1,fun env up h=>.cons Nl (as.2 env up h)⟩
 | .FormattedValue e (.negSucc 0) none _::r=>(f e).bind fun a=>(rFs f r).map fun as=>⟨a.1.v::as.1,fun env up h=>.cons (SL (a.2 env up h).ok) (as.2 env up h)⟩
 | _=>none
noncomputable def V9 {sc:Scope} {vs:Vs} (f:(e:Expr)→Option (Good K sc vs e)) (p:Pos):(es:List Expr)→Option (Good K sc vs (.JoinedStr es p))
 | e::e'::es=>(rFs f (e::e'::es)).map fun as=>⟨rv (Ld as.1 Str.empty),fun env up h=>gv (fun _ _=>rfl) (fun _ _=>rfl) (fun _ _=>rfl) (TT (as.2 env up h))⟩
 | _=>none
noncomputable def U4 {sc:Scope} {vs:Vs} (f:(e:Expr)→Option (Good K sc vs e)) (m:Str) (apos pos:Pos) (s:Str) (k:Nat) (cp:Pos):(as:List Expr)→Option (Good K sc vs (.Call (.Attribute (.Constant (.str s) k cp) m apos) as [] pos))
 | [a]=>if hm:m=("join":Str) then if hl:(apos.endLine==pos.line)=true then (f a).map fun y=>⟨rv (G3 s y.1.v),fun env up h=>by subst hm;exact gv (fun _ _=>rfl) (fun _ _=>rfl) (fun _ _=>rfl) (RI hl (y.2 env up h).star (y.2 env up h).ok)⟩ else none else none
 | _=>none
noncomputable def Ve (B:Bg K G fa mg mb) {sc:Scope} {vs:Vs} (f:(e:Expr)→Option (Good K sc vs e)) (m:Str) (apos pos:Pos):(o:Expr)→(as:List Expr)→Option (Good K sc vs (.Call (.Attribute o m apos) as [] pos))
 | .Name o po,as=>if V8 m=true then rM1 f m apos pos (.Name o po) (fun _ _=>rfl) as else VT B f m apos pos o po as
 | .Constant (.str s) k cp,as=>U4 f m apos pos s k cp as
 | .Subscript o i po,as=>rM1 f m apos pos (.Subscript o i po) (fun _ _=>rfl) as
 | .Attribute o x po,as=>rM1 f m apos pos (.Attribute o x po) (fun _ _=>rfl) as
 | .Call (.Attribute o x pa) bs ks po,as=>rM1 f m apos pos (.Call (.Attribute o x pa) bs ks po) (fun _ _=>rfl) as
 | _,_=>none
noncomputable def Vm (B:Bg K G fa mg mb) {sc:Scope} {vs:Vs} (m:Str) (pos:Pos):(o:Expr)→Option (Good K sc vs (.Attribute o m pos))
 | .Name o po=>(P5 (G.lookup AW)).bind fun c=>if hm:m∈CE then (Qq B sc vs o po).map fun x=>⟨rv (A9 c.1.1 m x.1.v),fun env up h=>gv (fun _ _=>rfl) (fun _ _=>rfl) (fun _ _=>rfl) (RB B.g c.2 hm (x.2 env up h).ok)⟩ else none
 | _=>none
noncomputable def VS {sc:Scope} {vs:Vs} (f:(e:Expr)→Option (Good K sc vs e)) (pos:Pos) (op:BoolOp):(es:List Expr)→Option (Good K sc vs (.BoolOp op es pos))
 | []=>none
 | e::es=>(f e).bind fun a=>(rL f es).bind fun as=>(match op with
  | .And=>some ⟨⟨FV true (vals (a.1::as.1)),Dn (Jx (a.1::as.1))⟩,fun env up h=>⟨fun _ _=>rfl,fun _ _=>rfl,UP ((as.2 env up h).B (a.2 env up h)),Q3 (AllG.cons (a.2 env up h) (as.2 env up h)).all.2.1⟩⟩
  | .Or=>some ⟨⟨FV false (vals (a.1::as.1)),tOr (Jx (a.1::as.1))⟩,fun env up h=>⟨fun _ _=>rfl,fun _ _=>rfl,Vh ((as.2 env up h).B (a.2 env up h)),UT (AllG.cons (a.2 env up h) (as.2 env up h)).all.2.1⟩⟩)
noncomputable def WH {sc:Scope} {vs:Vs} (f:(e:Expr)→Option (Good K sc vs e)) (pos:Pos) (l:Expr) (ops:List CmpOp):(es:List Expr)→Option (Good K sc vs (.Compare l ops es pos))
 | []=>none
 | e::es=>if hm:lastMarks ops (e::es)=false then if hl:ops.length=(e::es).length then (f l).bind fun x=>(f e).bind fun a=>(rL f es).map fun as=>
   ⟨⟨xOf (AT x.1.v ops (vals (a.1::as.1))),AT x.1.v ops (vals (a.1::as.1))⟩,fun env up h=>⟨fun _ _=>rfl,fun _ _=>rfl,Tl hm (x.2 env up h).ok ((as.2 env up h).C (a.2 env up h) hl),SB hm (x.2 env up h).ok ((as.2 env up h).C (a.2 env up h) hl)⟩⟩ else none else none
noncomputable def rUn {sc:Scope} {vs:Vs} (f:(e:Expr)→Option (Good K sc vs e)) (pos:Pos) (x:Expr):(op:UnaryOp)→Option (Good K sc vs (.UnaryOp op x pos))
 | .USub=>(f x).map fun a=>⟨rv (J6 a.1.v),fun env up h=>gv (fun _ _=>rfl) (fun _ _=>rfl) (fun _ _=>rfl) (TW (a.2 env up h).ok)⟩
 | .Not=>(f x).map fun (a:Good K sc vs x)=>⟨RE.mk (TB a.1.v) (CD a.1.t),fun env up h=>⟨fun _ _=>rfl,fun _ _=>rfl,TP (a.2 env up h).ok,RQ (a.2 env up h).test⟩⟩
 | _=>none
noncomputable def rLC (B:Bg K G fa mg mb) (nx:Nat) (ff:Rdr K) (sc:Scope) (vs:Vs) (elt:Expr) (csc:Scope) (pos:Pos):(gs:List Comprehension)→Option (Good K sc vs (.ListComp elt gs csc pos))
 | [⟨.Name x px,iter,ifs,0⟩]=>(S0 B nx ff sc vs elt x px iter ifs csc).map fun r=>⟨rv (Au r.1.a nx r.1.k r.1.as r.1.ts),fun env up h=>have q:=r.2 env up h
   gv (fun _ _=>rfl) (fun _ _=>rfl) (fun _ _=>rfl) (Mi q.sc q.fold q.src q.kind q.elt q.ifs)⟩
 | _=>none
noncomputable def rE (B:Bg K G fa mg mb) (S:SortR K G) (nx:Nat):Nat→Rdr K
 | 0,_,_,_=>none
 | n+1,sc,vs,e=>match e with
  | .Constant c _ _=>UX c
  | .Name x p=>Qq B sc vs x p
  | .BinOp l op r _=>(rOp op).bind fun o=>(rE B S nx n sc vs l).bind fun a=>(rE B S nx n sc vs r).map fun b=>⟨rv (AL o.1 a.1.v b.1.v),fun env up h=>gv (fun _ _=>rfl) (fun _ _=>rfl) (fun _ _=>rfl) (by obtain ⟨o,ho⟩:=o;subst ho;exact UB (a.2 env up h).ok (b.2 env up h).ok)⟩
  | .UnaryOp op x p=>rUn (rE B S nx n sc vs) p x op
  | .BoolOp op es p=>VS (rE B S nx n sc vs) p op es
  | .Compare l ops es p=>WH (rE B S nx n sc vs) p l ops es
  | .Tuple es _ _=>if hz:es.length≤1000 then (rL (rE B S nx n sc vs) es).map fun as=>⟨rv (Ak (vals as.1)),fun env up h=>gv (fun _ _=>rfl) (fun _ _=>rfl) (fun _ _=>rfl) (Uf (as.2 env up h).all.1 hz)⟩ else none
  | .List es _=>if hz:es.length≤1000 then (rL (rE B S nx n sc vs) es).map fun as=>⟨rv (Ap (vals as.1)),fun env up h=>gv (fun _ _=>rfl) (fun _ _=>rfl) (fun _ _=>rfl) (SJ (as.2 env up h).all.1 hz)⟩ else none
  | .Subscript a i p=>WB B (rE B S nx n sc vs) p a i
  | .Call (.Name x pf) as [] p=>U6 B S (rE B S nx n sc vs) x pf p as
  | .Call (.Attribute o m ap) as [] p=>Ve B (rE B S nx n sc vs) m ap p o as
  | .JoinedStr es p=>V9 (rE B S nx n sc vs) p es
  | .ListComp elt gs csc p=>rLC B nx (rE B S nx n) sc vs elt csc p gs
  | .Attribute o m p=>Vm B m p o
  | .Dict [] [] _=>some ⟨rv Ly,fun _ _ _=>gv (fun _ _=>rfl) (fun _ _=>rfl) (fun _ _=>rfl) (Rx B.g)⟩
  | _=>none
abbrev E8 (K:Ctx) (sc:Scope) (vs:Vs) (st:Stmt):Type:={ a:Sx // ∀ env up,env.scope=sc→SOk K ⟨env,vs,env::up⟩ st a }
abbrev T0 (K:Ctx) (sc:Scope) (vs:Vs) (st:List Stmt):Type:={ a:List Sx // ∀ env up,env.scope=sc→SsOk K ⟨env,vs,env::up⟩ st a }
noncomputable def VJ {sc:Scope} {vs:Vs} {st:Stmt}:E8 K sc vs st:=⟨UQ,fun _ _ _ _ _ _ _ _ _ q=>q.elim⟩
noncomputable def rSs {sc:Scope} {vs:Vs} (f:(st:Stmt)→Option (E8 K sc vs st)):(sts:List Stmt)→T0 K sc vs sts
 | []=>⟨[],fun _ _ _=>QT⟩
 | s::ss=>have a:=(f s).getD VJ;have as:=rSs f ss;⟨a.1::as.1,fun env up h=>Nm (a.2 env up h) (as.2 env up h)⟩
noncomputable def P0 (sc:Scope) (vs:Vs):(es:List Expr)→Option { is:List Nat // ∀ env up,env.scope=sc→CNames ⟨env,vs,up⟩ es is }
 | []=>some ⟨[],fun _ _ _=>.nil⟩
 | .Name x _::r=>if ho:F1 sc x=true then (Nn (vs.lookup x)).bind fun i=>(P0 sc vs r).map fun is=>⟨i.1::is.1,fun env up h=>.cons i.2 (by have:=Cn ho;rw [← h] at this;exact this) (is.2 env up h)⟩ else none
 | _=>none
noncomputable def UK (sc:Scope) (vs:Vs):(e:Expr)→Option { p:Pat // ∀ env up,env.scope=sc→CPat ⟨env,vs,up⟩ e p∧(assignEach [e] env).map (·.2)=[assign e env] }
 | .Name x _=>if ho:F1 sc x=true then (Nn (vs.lookup x)).map fun i=>⟨.var i.1,fun env up h=>⟨.name i.2 (by have:=Cn ho;rw [← h] at this;exact this),rfl⟩⟩ else none
 | .Tuple es _ _=>(P0 sc vs es).map fun is=>⟨.tup is.1,fun env up h=>⟨.tup (is.2 env up h),rfl⟩⟩
 | _=>none
noncomputable def Nt:Expr→Bool
 | .ListComp .. | .SetComp .. | .DictComp ..=>true
 | _=>false
theorem DF (h:Nt e=false):Pc e:=by
 cases e <;> first | exact fun _ _ _=>rfl | cases h
theorem S9 (h:S1 value=false):swappedStores [t] value env=pure none:=by
 unfold swappedStores
 cases t <;> first | rfl | (cases value <;> first | rfl | (exfalso;cases h))
noncomputable def V3 {sc:Scope} {vs:Vs} (f:(e:Expr)→Option (Good K sc vs e)) (p:Pos) (value t:Expr):Option (E8 K sc vs (.Assign [t] value p)):=
 if hl:Nt value=false then if ht:S1 value=false then (UK sc vs t).bind fun q=>(f value).map fun a=>⟨AP q.1 a.1.v,fun env up h=>Ej (DF hl _ _ _) (S9 ht) (q.2 env (env::up) h).2 (q.2 env (env::up) h).1 (a.2 env (env::up) (.of_eq h)).ok⟩ else none else none
noncomputable def Uo {sc:Scope} {vs:Vs} (f:(e:Expr)→Option (Good K sc vs e)) (p:Pos) (value:Expr) (y:Str) (py:Pos):Option (E8 K sc vs (.Assign [.Name y py] value p)):=
 if hl:Nt value=false then (UK sc vs (.Name y py)).bind fun q=>(f value).map fun a=>⟨AP q.1 a.1.v,fun env up h=>Ej (DF hl _ _ _) rfl (q.2 env (env::up) h).2 (q.2 env (env::up) h).1 (a.2 env (env::up) (.of_eq h)).ok⟩ else none
noncomputable def VM (B:Bg K G fa mg mb) (nx:Nat) (ff:Rdr K) (sc:Scope) (vs:Vs) (p:Pos) (elt:Expr) (csc:Scope) (pc:Pos) (y:Str) (py:Pos):(gs:List Comprehension)→Option (E8 K sc vs (.Assign [.Name y py] (.ListComp elt gs csc pc) p))
 | [⟨.Name x px,iter,ifs,0⟩]=>if ho:F1 sc y=true then (Nn (vs.lookup y)).bind fun i=>(S0 B nx ff sc vs elt x px iter ifs csc).map fun r=>⟨AP (.var i.1) (Au r.1.a nx r.1.k r.1.as r.1.ts),fun env up h=>by
   have q:=r.2 env (env::up) (.of_eq h)
   have hk:=Cn ho
   rw [← h] at hk
   obtain ⟨b,hb,hl⟩:∃ b,swapsWith (.ListComp elt [⟨.Name x px,iter,ifs,0⟩] csc pc) (some (.Name y py)) p.line env=pure b∧(b=true→env.kindOf y=some .local):=
    ⟨_,rfl,fun e=>beq_iff_eq.mp (Bool.and_eq_true_iff.mp (Bool.and_eq_true_iff.mp (Bool.and_eq_true_iff.mp e).1).1).2⟩
   cases b with
   | true=>exact PG q.sc q.fold q.src q.kind q.elt q.ifs i.2 (hl rfl) hb
   | false=>exact Ej hb rfl rfl (.name i.2 hk) (Mi q.sc q.fold q.src q.kind q.elt q.ifs)⟩ else none
 | _=>none
noncomputable def Ux {sc:Scope} {vs:Vs} (f:(e:Expr)→Option (Good K sc vs e)) (p:Pos) (value o i:Expr) (q:Pos):Option (E8 K sc vs (.Assign [.Subscript o i q] value p)):=
 if hl:Nt value=false then (f o).bind fun a=>(f i).bind fun b=>(f value).map fun e=>⟨Hv a.1.v b.1.v e.1.v,fun env up h=>OZ (DF hl _ _ _) (a.2 env (env::up) (.of_eq h)).ok (b.2 env (env::up) (.of_eq h)).ok (e.2 env (env::up) (.of_eq h)).ok⟩ else none
noncomputable def WI (B:Bg K G fa mg mb) {sc:Scope} {vs:Vs} (f:(e:Expr)→Option (Good K sc vs e)) (p:Pos) (value o:Expr) (m:Str) (q:Pos):Option (E8 K sc vs (.Assign [.Attribute o m q] value p)):=
 if hl:Nt value=false then (P5 (G.lookup AW)).bind fun c=>if hm:m∈CE then (f o).bind fun a=>(f value).map fun e=>⟨Ji c.1.1 m a.1.v e.1.v,fun env up h=>Qr B.g c.2 hm (DF hl _ _ _) (a.2 env (env::up) (.of_eq h)).ok (e.2 env (env::up) (.of_eq h)).ok⟩ else none else none
noncomputable def Vb:(c:Const)→Option { v:V // Px c=some v }:=fun c=>Nn (Px c)
noncomputable def rHs (B:Bg K G fa mg mb) (sc:Scope) (vs:Vs):(hs:List ExceptHandler)→Option { as:List (List Nat × V × Option Nat) // ∀ env up,env.scope=sc→HOk K ⟨env,vs,env::up⟩ hs as }
 | []=>some ⟨[],fun _ _ _=>Rs⟩
 | .ExceptHandler (some (.Name x _)) none [.Return (some (.Constant c _ _)) _] _::r=>if hg:(Bb sc x&&CS x)=true then (So (G.lookup x)).bind fun k=>(Vb c).bind fun v=>(rHs B sc vs r).map fun as=>⟨(k.1.2,v.1,none)::as.1,fun env up h=>
   have hg:=Bool.and_eq_true_iff.mp hg
   OH B.g k.2 (((Agree.of_eq h).glob x).trans hg.1) hg.2 v.2 (as.2 env up h)⟩ else none
 | _=>none
noncomputable def SQ (B:Bg K G fa mg mb) (nx:Nat) (ff:Rdr K) (sc:Scope) (vs:Vs) (p:Pos) (value:Expr):(t:Expr)→Option (E8 K sc vs (.Assign [t] value p))
 | .Name y py=>(match value with
  | .ListComp elt gs csc pc=>VM B nx ff sc vs p elt csc pc y py gs
  | value=>Uo (ff sc vs) p value y py)
 | .Subscript o i q=>Ux (ff sc vs) p value o i q
 | .Attribute o m q=>WI B (ff sc vs) p value o m q
 | t=>V3 (ff sc vs) p value t
noncomputable def rS (B:Bg K G fa mg mb) (S:SortR K G) (nx:Nat) (sc:Scope) (vs:Vs) (m:Nat):Nat→(st:Stmt)→Option (E8 K sc vs st)
 | 0,_=>none
 | n+1,st=>match st with
  | .Expr e _=>if hl:Nt e=false then (rE B S nx m sc vs e).map fun a=>⟨A5 a.1.v,fun env up h=>Pk (DF hl) (a.2 env (env::up) (.of_eq h)).ok⟩ else none
  | .Return none _=>some ⟨Sg,fun _ _ _=>OI⟩
  | .Return (some e) _=>(rE B S nx m sc vs e).map fun a=>⟨AU a.1.v,fun env up h=>R1 (a.2 env (env::up) (.of_eq h)).ok⟩
  | .Assign [t] value p=>SQ B nx (rE B S nx m) sc vs p value t
  | .If test b o _=>(rE B S nx m sc vs test).bind fun a=>have b':=rSs (rS B S nx sc vs m n) b;have o':=rSs (rS B S nx sc vs m n) o;some ⟨sIf a.1.t b'.1 o'.1,fun env up h=>T9 (a.2 env (env::up) (.of_eq h)).test (b'.2 env up h) (o'.2 env up h)⟩
  | .For t iter body [] _=>(UK sc vs t).bind fun p=>(Um B (rE B S nx m sc vs) t iter).bind fun s=>have b:=rSs (rS B S nx sc vs m n) body;some ⟨Bt p.1 s.1.1 (vals s.1.2) b.1,fun env up h=>ST rfl (s.2 env (env::up) (.of_eq h)).2 (p.2 env (env::up) h).1 (s.2 env (env::up) (.of_eq h)).1 (b.2 env up h)⟩
  | .Raise (some (.Call (.Name x _) [e] [] _)) none _=>if hg:(Bb sc x&&CS x)=true then (So (G.lookup x)).bind fun k=>(rE B S nx m sc vs e).map fun a=>⟨Cz k.1.1 a.1.v,fun env up h=>
    have hg:=Bool.and_eq_true_iff.mp hg
    M1 B.g k.2 (((Agree.of_eq h).glob x).trans hg.1) hg.2 (a.2 env (env::up) (.of_eq h)).star (a.2 env (env::up) (.of_eq h)).ok⟩ else none
  | .Try body (h::hs) [] [] _=>(rHs B sc vs (h::hs)).map fun a=>have b:=rSs (rS B S nx sc vs m n) body;⟨Uc b.1 a.1,fun env up h=>Rb rfl (b.2 env up h) (a.2 env up h)⟩
  | .Pass _=>some ⟨PQ,fun _ _ _=>OY⟩
  | .While test body [] _=>(rE B S nx m sc vs test).bind fun a=>have b:=rSs (rS B S nx sc vs m n) body;some ⟨Ds a.1.t b.1,fun env up h=>Mw rfl (a.2 env (env::up) (.of_eq h)).test (b.2 env up h)⟩
  | _=>none
structure FnOk (K:Ctx) (cd:Value) (ql:Str) (params:Arguments) (body:List Stmt) (sc:Scope) (fn:Fn) (args:List Arg):Prop where
 params:params=⟨[],args,none,[],[],none,[]⟩
 len:fn.params=(args.map (·.arg)).length
 ok:DefOk sc (args.map (·.arg))
 body:∀ env up,env.scope=sc→env.code=cd→env.qual=ql→QX K ⟨env,CV (args.map (·.arg)) sc,env::up⟩ body fn.body
noncomputable def rFn (B:Bg K G fa mg mb) (S:SortR K G) (extra:Nat) (body:List Stmt) (sc:Scope):(params:Arguments)→Option { fn:Fn // ∃ args,∀ cd ql,FnOk K cd ql params body sc fn args }
 | ⟨[],args,none,[],[],none,[]⟩=>
  if hc:(decide ((args.map (·.arg)).Nodup)&&(BE (args.map (·.arg)) sc).all (F1 sc)&&(sc.kind==.function)&&!sc.isCoroutine&&!sc.isGenerator)=true then
   have b:=rSs (rS B S (BE (args.map (·.arg)) sc).length sc (CV (args.map (·.arg)) sc) 40 20) body
   some ⟨⟨(args.map (·.arg)).length,(BE (args.map (·.arg)) sc).length+extra,b.1⟩,args,by
    simp only [Bool.and_eq_true,decide_eq_true_eq,Bool.not_eq_true',List.all_eq_true,beq_iff_eq] at hc
    exact fun _ _=>⟨rfl,rfl,⟨hc.1.1.1.1,hc.1.1.1.2,hc.1.1.2,hc.1.2,hc.2⟩,fun env up h _ _=>(b.2 env up h).f⟩⟩
  else none
 | _=>none
end
end Mine.Internal
namespace Mine.Internal
open PySem PySem.Calls PyProof.Rows PySem.W
set_option maxRecDepth 100000
noncomputable def Ll (rs:List (List Int)) (i j:Nat):Bool:=Aa (rs.getD i []) (rs.getD j [])
theorem Jc (rs:List (List Int)):Weak (Ll rs) where
 irr:=fun i=>H7 _
 asy:=fun i j=>EJ _ _
 neg:=fun i j k=>Fb _ _ _
theorem OB {lt:Nat→Nat→Bool} {n:Nat} {α:Type} {cmp:Nat→Nat→(Bool→Shared→Prop)→Shared→Prop} {s:Shared} (hc:∀ i j (C:Bool→Shared→Prop),i<n→j<n→C (lt i j) s→cmp i j C s) {Qt:α→Prop} {Q:α→Shared→Prop} (hq:∀ a,Qt a→Q a s) :
  ∀ {t:KasT α},Tr lt n t Qt→t.kasWp cmp Q s
 | .ret a,h=>hq a h
 | .ask i j k,h=>hc i j _ h.1 h.2.1 (OB hc hq (t:=k (lt i j)) h.2.2)
section
variable {prog:Program} {w:World} {A:Around} {E:Value→Shared→Prop} {s:Shared}
theorem OV {fin:Bool} (a b:List Int) (vs us:List Value) (i:Nat) (ha:IntsAre vs a) (hb:IntsAre us b) (hf:fin=decide (vs.length<us.length)) (q:Q (Aa a b) s):KatLex prog w A true fin Q (vs.zip us) i s:=by
 induction ha generalizing b us i with
 | nil=>
  refine kat_nil ?_
  subst hf
  cases hb with
  | nil=>exact q
  | cons y u hb=>exact q
 | cons x t ha ih=>
  cases hb with
  | nil=>
   refine kat_nil ?_
   subst hf
   exact q
  | cons y u hb=>
   rw [List.zip_cons_cons]
   refine kat_cons (wpAny_eqBool_int ?_)
   rw [Aa] at q
   by_cases e:x=y
   ·rw [if_pos e] at q
    rw [show (x==y)=true from beq_iff_eq.mpr e]
    exact kat_yes (ih _ _ (i+1) hb (hf.trans (decide_eq_decide.mpr Nat.succ_lt_succ_iff)) q)
   ·rw [if_neg e] at q
    rw [show (x==y)=false from beq_eq_false_iff_ne.mpr e]
    refine kat_no ?_
    cases i with
    | zero=>exact oneLt_int q
    | succ i=>exact kat_one _ _ (PyProof.Rows.lt_int q)
noncomputable def RowsAre (h:Heap):List Value→List (List Int)→Prop
 | [],[]=>True
 | v::vs,r::rs=>(∃ a items n,v=.ref a∧h.get? a=some { cls:=.type "tuple", data:=.seq items n }∧IntsAre items.toList r)∧RowsAre h vs rs
 | _,_=>False
theorem RowsAre.keeps (k:∀ b o,o.cls=.type "tuple"→h.get? b=some o→h'.get? b=some o):∀ {vs:List Value} {rs:List (List Int)},RowsAre h vs rs→RowsAre h' vs rs
 | [],[],_=>trivial
 | _::_,_::_,x=>⟨let ⟨a,it,n,e,g,i⟩:=x.1;⟨a,it,n,e,k a _ rfl g,i⟩,x.2.keeps k⟩
 | [],_::_,x=>x.elim
 | _::_,[],x=>x.elim
theorem RowsAre.at':∀ {vs:List Value} {rs:List (List Int)},RowsAre h vs rs→∀ {i:Nat},i<vs.length→∃ a items n,vs.getD i .none=.ref a∧h.get? a=some { cls:=.type "tuple", data:=.seq items n }∧IntsAre items.toList (rs.getD i [])
 | [],[],_,i,hi=>by simp at hi
 | _::_,_::_,x,0,_=>by simpa using x.1
 | _::vs,_::rs,x,i+1,hi=>by
  refine Af (x.2.at' (i:=i) (by simpa using hi)) fun a it n h1 h2 h3=>?_
  exact ⟨a,it,n,by simpa using h1,h2,by simpa using h3⟩
 | [],_::_,x,_,_=>x.elim
 | _::_,[],x,_,_=>x.elim
theorem RowsAre.tups:∀ {vs:List Value} {rs:List (List Int)},RowsAre h vs rs→(∀ r∈rs,r≠[])→∃ fs,KatTups h vs fs∧fs.length=vs.length∧∀ v∈fs,∃ i t,v=Value.int i t
 | [],[],_,_=>⟨[],trivial,rfl,fun v hv=>by cases hv⟩
 | _::_,r::_,x,hne=>by
  obtain ⟨⟨a,it,n,rfl,g,hi⟩,x2⟩:=x
  refine Ae (x2.tups fun r hr=>hne r (List.mem_cons_of_mem _ hr)) fun fs t hl hv=>?_
  have hr:=hne r List.mem_cons_self
  obtain ⟨y,rr,rfl⟩:∃ y rr,r=y::rr:=by
   cases r with
   | nil=>exact absurd rfl hr
   | cons y rr=>exact ⟨y,rr,rfl⟩
  generalize hL:it.toList=L at hi
  cases hi with
  | cons i tk hrest=>
   refine ⟨.int y tk::fs,KatTups.cons g rfl rfl (by rw [← Array.getElem?_toList,hL];rfl) t,by simp [hl],fun v hv'=>?_⟩
   rcases List.mem_cons.mp hv' with rfl | hv'
   ·exact ⟨_,_,rfl⟩
   ·exact hv v hv'
 | [],_::_,x,_=>x.elim
 | _::_,[],x,_=>x.elim
theorem H0:Looks M h (typeOf (.int i t)) (.type "int"):=fun A Q E s _ q=>wpAny_typeOf (typeIs_int s i t) q
theorem Na (ho:s.heap.get? a=some (seqObj "list" vs.toArray n)) (hr:RowsAre s.heap vs rs) (hne:∀ r∈rs,r≠[]) (h64:vs.length<64)
  (h:∀ p:List Nat,p.Perm (List.range vs.length)→p.Pairwise (A4 rs)→P (.done (.ret .none)) { s with heap:=sortedHeap s.heap a vs (p.map fun i=>vs.getD i Value.none).toArray }) :
  wpAny (model prog w) A (Builtin.«list.sort» ⟨[.ref a],[]⟩) P E s:=by
 rw [list_sort_plain]
 have hsl:vs.length≤sizeLine:=by rw [sizeLine_eq];exact an1 .le .v0 (.n 16777216) (.t .v0 (.n 64) .e) rfl h64
 refine wpAny_bind (listItems_at ho rfl ?_)
 refine wpAny_bind (listUpdate_at ho rfl ?_ (by rw [List.size_toArray];exact hsl) (Nat.zero_le _))
 obtain ⟨e1,ho1⟩:∃ e1,(s.heap.update a (Obj.mapSeq fun _=>(#[]:Array Value))).get? a=some (seqObj "list" #[] e1):=⟨_,get?_update_seq ho (fun _=>#[])⟩
 refine wpAny_bind (seqEpoch_at ho1 rfl ?_)
 refine wpAny_bind (wpAny_newTuple ?_ (by show vs.length≤_;exact hsl))
 refine wpAny_bind (wpAny_newList ?_ (Nat.zero_le _))
 refine wpAny_holding ?_
 have ho6:(((s.heap.update a (Obj.mapSeq fun _=>(#[]:Array Value))).push (seqObj "tuple" vs.toArray 0)).push (seqObj "list" #[] 0)).get? a=some (seqObj "list" #[] e1):=Heap.get?_push_of_some _ (Heap.get?_push_of_some _ ho1)
 have hr6:RowsAre (((s.heap.update a (Obj.mapSeq fun _=>(#[]:Array Value))).push (seqObj "tuple" vs.toArray 0)).push (seqObj "list" #[] 0)) vs rs:=hr.keeps fun b o hc e=>by
  refine Heap.get?_push_of_some _ (Heap.get?_push_of_some _ ?_)
  refine (Heap.get?_update_ne _ _ _ _ fun hb=>?_).trans e
  rw [hb,ho] at e;cases e;exact absurd hc (by simp [seqObj])
 show wpAny (model prog w) A _ P E { s with heap:=((s.heap.update a (Obj.mapSeq fun _=>(#[]:Array Value))).push (seqObj "tuple" vs.toArray 0)).push (seqObj "list" #[] 0) }
 dsimp only
 have hrange:(List.range vs.length).map (fun i=>vs.getD i Value.none)=vs:=by
  apply List.ext_getElem?
  intro i
  rw [List.getElem?_map]
  by_cases hi:i<vs.length
  ·simp [hi]
  ·simp [hi]
 by_cases h2:vs.toArray.size<2
 ·rw [if_pos h2,if_pos h2]
  refine wpAny_bind (wpAny_pure ?_)
  rw [StateT.run_pure]
  refine wpAny_bind (wpAny_pure ?_)
  dsimp only
  refine wpAny_bind (seqEpoch_at ho6 rfl ?_)
  refine wpAny_bind (listUpdate_at ho6 rfl ?_ (Nat.zero_le _) (by rw [Array.size_map];show (pairsOf vs).size≤_;rw [pairsOf_size,sizeLine_eq];exact an1 .le .v0 (.a (.n 16777216) .n1) (.t .v0 (.n 64) .e) rfl h64))
  simp only [bne_self_eq_false,Bool.false_eq_true,if_false]
  refine wpAny_pure ?_
  have e:(arrOf (SortSt.mk' general' (vs.toArray.zip vs.toArray) #[] 7 none)).map (·.2)=((List.range vs.length).map fun i=>vs.getD i Value.none).toArray:=by
   rw [hrange]
   show (vs.toArray.zip vs.toArray).map (·.2)=vs.toArray
   apply Array.toList_inj.mp
   simp [List.map_snd_zip]
  have hp:=h (List.range vs.length) (List.Perm.refl _) ?_
  ·rw [← e] at hp;exact hp
  ·have hlt:vs.length<2:=by simpa using h2
   match hv:vs.length,hlt with
   | 0,_=>simp
   | 1,_=>simp
 ·rw [if_neg h2,if_neg h2]
  have h2':2≤vs.length:=by simp only [List.size_toArray] at h2;exact an1 .le .n2 .v0 (.o .v0 .n2 .e) rfl h2
  refine Ae (hr6.tups hne) fun fs tup hfl hfi=>?_
  refine wpAny_bind (kat_kind tup (by exact an2 .lt .n0 .v0 (.l .n2 .v1 (.p .v0 .v1 .e)) rfl h2' hfl) (T:=.type "int") (fun v hv=>by refine Az (hfi v hv) fun i t ze1=>?_;subst ze1;exact H0) rfl ?_)
  refine wpAny_bind (wpAny_mono (kat_run (Q:=fun st' s'=>s'={ s with heap:=((s.heap.update a (Obj.mapSeq fun _=>(#[]:Array Value))).push (seqObj "tuple" vs.toArray 0)).push (seqObj "list" #[] 0) }∧∃ p:Array Nat,arrOf st'=p.map (kas_item (vs.toArray.zip vs.toArray))∧failedOf st'=none∧p.toList.Perm (List.range vs.length)∧p.toList.Pairwise (Bf (Ll rs)))
   (G:=fun p s'=>s'={ s with heap:=((s.heap.update a (Obj.mapSeq fun _=>(#[]:Array Value))).push (seqObj "tuple" vs.toArray 0)).push (seqObj "list" #[] 0) }∧p.toList.Perm (List.range vs.length)∧p.toList.Pairwise (Bf (Ll rs)))
   rfl h2' h64 (fun p st' s' _ a2 a3 a4=>⟨a4.1,p,a2,a3,a4.2.1,a4.2.2⟩) (OB (lt:=Ll rs) (fun i j C hi hj hC=>?_) (fun p hp=>⟨rfl,hp.1,hp.2⟩) (Mj (Jc rs) (by exact an1 .le .n1 .v0 (.l .n2 .v0 .e) rfl h2')))) ?_ fun _ _ e=>e)
  ·refine Af (hr6.at' hi) fun x ix nx ex gx hx=>?_
   refine Af (hr6.at' hj) fun y iy ny ey gy hy=>?_
   show wpAny _ _ (keyLt' _ (vs.getD i Value.none) (vs.getD j Value.none)) _ _ _
   rw [ex,ey]
   refine kat_lt (b:=true) gx rfl gy rfl (OV _ _ _ _ 0 hx hy (by simp) hC)
  ·rintro ⟨⟨⟩,st'⟩ s' ⟨rfl,p,har,hf,hp1,hp2⟩
   dsimp only
   have hout:=kat_snds (ks:=vs) rfl har
   have hsz:(List.toArray (p.toList.map fun i=>vs.getD i Value.none)).size=vs.length:=by rw [List.size_toArray,List.length_map,hp1.length_eq,List.length_range]
   refine wpAny_bind (seqEpoch_at ho6 rfl ?_)
   refine wpAny_bind (listUpdate_at ho6 rfl ?_ (Nat.zero_le _) (by rw [hout];exact Nat.le_trans (Nat.le_of_eq hsz) (Nat.le_succ_of_le hsl)))
   rw [hf]
   simp only [bne_self_eq_false,Bool.false_eq_true,if_false]
   rw [hout]
   exact wpAny_pure (h p.toList hp1 hp2)
end
end Mine.Internal
namespace Mine.Internal
open PySem PySem.Calls PyProof.Rows PySem.W
set_option maxRecDepth 100000
theorem Fj (x:IntsAre vs xs):RelL h φ (xs.map V.int) vs:=by
 induction x with
 | nil=>exact .nil
 | cons n t _ ih=>exact ⟨⟨t,rfl⟩,ih⟩
theorem GD:∀ {ns:List Int} {vs:List Value},RelL h φ (ns.map .int) vs→IntsAre vs ns
 | [],[],_=>.nil
 | _::_,_::_,⟨⟨t,e⟩,r⟩=>e▸.cons _ t (GD r)
theorem Lv:∀ {vs:List Value},RelL h φ (rs.map fun r=>.tup (r.map .int)) vs→RowsAre h vs rs:=by
 induction rs with
 | nil=>intro vs r;cases vs with
  | nil=>trivial
  | cons _ _=>exact r.elim
 | cons _ rs ih=>intro vs r;cases vs with
  | nil=>exact r.elim
  | cons v vs=>exact ⟨Af r.1 fun x it n e g rl=>⟨x,it,n,e,g,GD rl⟩,ih r.2⟩
theorem Fd {Vs:List V} (r:RelL h φ Vs vs):∀ (p:List Nat),(∀ i∈p,i<Vs.length)→RelL h φ (p.map fun i=>Vs.getD i .none) (p.map fun i=>vs.getD i Value.none)
 | [],_=>.nil
 | i::p,hp=>by
  refine ⟨?_,Fd r p fun j hj=>hp j (List.mem_cons_of_mem _ hj)⟩
  have hi:=hp i List.mem_cons_self
  refine AF (r.get (List.getElem?_eq_getElem hi)) fun v e rl=>?_
  show Rel h φ (Vs.getD i V.none) (vs.getD i Value.none)
  rw [List.getD_eq_getElem?_getD,List.getD_eq_getElem?_getD,e,List.getElem?_eq_getElem hi]
  exact rl
theorem PV.listIn {K:Ctx} {c:Cf K.h₀} {Q:AO} {Vs:List V} {items:Array Value} {a:Addr} {h':Heap} {s':Shared} {n:Nat} (r:RelL c.s.heap c.φ Vs items.toList) (hz:Vs.length≤CC) (ha:c.s.heap.get? a=none) (k:∀ b ob,c.s.heap.get? b=some ob→h'.get? b=some ob)
  (e:h'.get? a=some { cls:=.type "list", data:=.seq items n }) (only:s'.os=c.s.os∧s'.gens=c.s.gens) (q:Q (.ref c.σ.length) (c.σ++[.list Vs])):PV c Q (.ref a) { s' with heap:=h' }:=
 PV.mk ⟨{ s' with heap:=h' },c.φ++[a],c.σ++[.list Vs],(c.keep { s' with heap:=h' } k).sim.add (o:=.list Vs) (c.sim.out ha) (c.sim.none₀ ha) ⟨items,n,e,RelL.keep (O2 k) (List.prefix_refl _) _ _ r,hz⟩⟩ (.ref c.σ.length)
  ⟨⟨only,List.prefix_append _ _,fun b o _ _ e=>⟨o,k b o e,.refl o⟩,fun _ m=>(Bj m).imp id fun e=>(congrArg c.s.heap.get? e).trans ha⟩,fun b o e=>⟨o,k b o e⟩⟩ ⟨a,rfl,by rw [← c.sim.len];exact List.getElem?_concat_length⟩ q
section
variable {prog:Program} {w:World} {s:Shared} {A:Around} {E:Value→Shared→Prop}
theorem DX:h.get? (h.objs.size+1)=none∧(∃ c,(sortedAll h vs out).get? (h.objs.size+1)=some { cls:=.type "list", data:=.seq out c })∧∀ b o,h.get? b=some o→(sortedAll h vs out).get? b=some o:=by
 have hsz:((h.push (seqObj "list" #[] 0)).update h.objs.size (Obj.mapSeq (·++vs.toArray))).objs.size=h.objs.size+1:=by rw [Heap.size_update,size_push']
 have g0:(((h.push (seqObj "list" #[] 0)).update h.objs.size (Obj.mapSeq (·++vs.toArray))).push (seqObj "list" vs.toArray 0)).get? (h.objs.size+1)=some (seqObj "list" vs.toArray 0):=by rw [← hsz];exact Heap.get?_push_size _ rfl
 obtain ⟨c1,g1⟩:∃ c1,((((h.push (seqObj "list" #[] 0)).update h.objs.size (Obj.mapSeq (·++vs.toArray))).push (seqObj "list" vs.toArray 0)).update (h.objs.size+1) (Obj.mapSeq fun _=>(#[]:Array Value))).get? (h.objs.size+1)=some (seqObj "list" #[] c1):=⟨_,get?_update_seq g0 fun _=>#[]⟩
 have g2:=Heap.get?_push_of_some (seqObj "list" #[] 0) (Heap.get?_push_of_some (seqObj "tuple" vs.toArray 0) g1)
 refine ⟨Heap.get?_none_of_le (Nat.le_succ _),⟨_,get?_update_seq g2 fun _=>out⟩,fun b o e=>?_⟩
 have hb:b<h.objs.size:=Heap.lt_size e
 have h1:b≠h.objs.size:=Nat.ne_of_lt hb
 have h2:b≠h.objs.size+1:=Nat.ne_of_lt (Nat.lt_succ_of_lt hb)
 unfold sortedAll sortedHeap
 rw [Heap.get?_update_ne _ _ _ _ h2]
 refine Heap.get?_push_of_some _ (Heap.get?_push_of_some _ ?_)
 rw [Heap.get?_update_ne _ _ _ _ h2]
 refine Heap.get?_push_of_some _ ?_
 rw [Heap.get?_update_ne _ _ _ _ h1]
 exact Heap.get?_push_of_some _ e
theorem J8 (hl:s.heap.IsList l vs.toArray) (hr:RowsAre s.heap vs rs) (hne:∀ r∈rs,r≠[]) (h64:vs.length<64)
  (h:∀ p:List Nat,p.Perm (List.range vs.length)→p.Pairwise (A4 rs)→P (.ref (s.heap.objs.size+1)) { s with heap:=sortedAll s.heap vs (p.map fun i=>vs.getD i Value.none).toArray }) :
  wpAny (model prog w) A (call (.builtin "sorted") [.ref l]) P E s:=by
 refine Calls.call_function_entry kind_sorted plain_sorted entry_sorted (args_sorted1 _) ?_
 unfold Builtin.«sorted»
 refine wpAny_bind (m:=checkCount "sorted" 1 1 _) (wpAny_pure ?_)
 refine wpAny_bind (collect_list hl ?_ (by rw [sizeLine_eq];exact an1 .le .v0 (.n 16777216) (.t .v0 (.n 64) .e) rfl h64))
 refine wpAny_bind (wpAny_newList ?_ (by rw [sizeLine_eq];exact an1 .le .v0 (.n 16777216) (.t .v0 (.n 64) .e) rfl h64))
 have hsz:((s.heap.push (seqObj "list" #[] 0)).update s.heap.objs.size (Obj.mapSeq (·++vs.toArray))).objs.size=s.heap.objs.size+1:=by
  rw [Heap.size_update,size_push']
 have hoL:(((s.heap.push (seqObj "list" #[] 0)).update s.heap.objs.size (Obj.mapSeq (·++vs.toArray))).push (seqObj "list" vs.toArray 0)).get? (s.heap.objs.size+1)=some (seqObj "list" vs.toArray 0):=by
  rw [← hsz];exact Heap.get?_push_size _ rfl
 have hr':RowsAre (((s.heap.push (seqObj "list" #[] 0)).update s.heap.objs.size (Obj.mapSeq (·++vs.toArray))).push (seqObj "list" vs.toArray 0)) vs rs:=hr.keeps fun b o _ e=>by
  refine Heap.get?_push_of_some _ ?_
  rw [Heap.get?_update_ne _ _ _ _ (Nat.ne_of_lt (Heap.lt_size e))]
  exact Heap.get?_push_of_some _ e
 show wpAny _ _ _ _ _ { s with heap:=((s.heap.push (seqObj "list" #[] 0)).update s.heap.objs.size (Obj.mapSeq (·++vs.toArray))).push (seqObj "list" vs.toArray 0) }
 rw [hsz]
 refine wpAny_bind (wpAny_holding (wpAny_call_entry (s:={ s with heap:=((s.heap.push (seqObj "list" #[] 0)).update s.heap.objs.size (Obj.mapSeq (·++vs.toArray))).push (seqObj "list" vs.toArray 0) }) slot_list_sort ⟨_,hoL,rfl⟩ entry_list_sort
  (Na (s:={ s with heap:=((s.heap.push (seqObj "list" #[] 0)).update s.heap.objs.size (Obj.mapSeq (·++vs.toArray))).push (seqObj "list" vs.toArray 0) }) hoL hr' hne h64 fun p a1 a2=>⟨_,rfl,?_⟩) (args_list_sort _)))
 exact wpAny_pure ⟨_,rfl,h p a1 a2⟩
end
section
variable {K:Ctx} {L:Loc} {G:GlT} {fa:Nat→Addr} {mg mb:Str→Option Value}
theorem Nq {A:Around} {E:Value→Shared→Prop} {c:Cf K.h₀} {Q:AO} {V:V} {v:Value} (r:Rel c.s.heap c.φ V v) (q:SortK c.σ Q false V):wpAny K.M A (call (.builtin "sorted") [v]) (PV c Q) E c.s:=by
 cases q with
 | @«ints» n ns en hl q=>
  apply Cf.listE en r;intro a items k _ g rl z
  have gl:c.s.heap.IsList a items.toList.toArray:=by rw [Array.toArray_toList];exact g.isList
  have hi:=GD rl
  refine sorted_ints gl hi (by rw [IntsAre.length hi];exact hl) fun out ns' a1 a2 a3=>?_
  refine A7 (DX (h:=c.s.heap) (vs:=items.toList) (out:=out)) fun f1 zt1 f3=>AX zt1 fun _ f2=>?_
  exact PV.listIn (s':=c.s) (Fj a1) (by rw [List.length_map,a2.length_eq,← List.length_map (f:=V.int)];exact z) f1 f3 f2 ⟨rfl,rfl⟩ (q ns' a2 a3)
 | @rows n rs en hl hne q=>
  apply Cf.listE en r;intro a items k _ g rl z
  have gl:c.s.heap.IsList a items.toList.toArray:=by rw [Array.toArray_toList];exact g.isList
  have hsz:items.toList.length=rs.length:=by rw [← rl.length,List.length_map]
  refine J8 gl (Lv rl) hne (by rw [hsz];exact hl) fun p a1 a2=>?_
  refine A7 (DX (h:=c.s.heap) (vs:=items.toList) (out:=(p.map fun i=>items.toList.getD i Value.none).toArray)) fun f1 zt1 f3=>AX zt1 fun _ f2=>?_
  rw [hsz] at a1
  have hin:∀ i∈p,i<rs.length:=fun i hi=>List.mem_range.mp (a1.mem_iff.mp hi)
  have hts:(p.map fun i=>rs.getD i []).map (fun r=>V.tup (r.map V.int))=p.map fun i=>(rs.map fun r=>V.tup (r.map V.int)).getD i .none:=by
   rw [List.map_map]
   refine List.map_congr_left fun i hi=>?_
   rw [Function.comp_apply,List.getD_eq_getElem?_getD,List.getD_eq_getElem?_getD,List.getElem?_map,List.getElem?_eq_getElem (hin i hi)];rfl
  have hperm:(p.map fun i=>rs.getD i []).Perm rs:=by
   refine (a1.map fun i=>rs.getD i []).trans (List.Perm.of_eq ?_)
   apply List.ext_getElem (by rw [List.length_map,List.length_range])
   intro i h1 h2
   rw [List.getElem_map,List.getElem_range,List.getD_eq_getElem?_getD,List.getElem?_eq_getElem h2];rfl
  refine PV.listIn (s':=c.s) (Vs:=(p.map fun i=>rs.getD i []).map fun r=>V.tup (r.map V.int)) ?_ ?_ f1 f3 f2 ⟨rfl,rfl⟩ (q _ hperm ?_)
  ·rw [hts];exact Fd rl p fun i hi=>by rw [List.length_map];exact hin i hi
  ·rw [List.length_map,hperm.length_eq,← List.length_map (f:=fun r:List Int=>V.tup (r.map V.int))];exact z
  ·rw [List.pairwise_map]
   exact a2.imp fun {i j} hb=>Bf.no (Jc rs) (i:=i) (j:=j) hb
theorem JR {A:Around} {E:Value→Shared→Prop} {c:Cf K.h₀} {Q:AO} {ns:List Int} {D:Addr} {ks:List Int} (hh:A.handled=none) (R:SetR K.prog K.w c.s.heap D (B3 K.w) ks) (h64:ks.length<64) (hm:∀ x,x∈ks↔x∈ns)
  (q:∀ ms:List Int,ms.Pairwise (·<·)→(∀ x,x∈ms↔x∈ns)→Q (.ref c.σ.length) (c.σ++[.list (ms.map .int)])):wpAny K.M A (call (.builtin "sorted") [.ref D]) (PV c Q) E c.s:=by
 have hnd:ks.Nodup:=by refine HI R fun _ _ _ _ _ _ _ _ _ h _=>?_;exact h
 refine Ln hh R h64 fun D' out ms h' s' n a1 a2 a3 f1 f2 f3 ho hg=>?_
 refine PV.listIn (Fj a1) (by rw [List.length_map,a2.length_eq];exact Nat.le_trans (Nat.le_of_lt h64) (by decide)) f1 f3 f2 ⟨ho,hg⟩ (q ms ?_ fun x=>(a2.mem_iff).trans (hm x))
 have hn:ms.Nodup:=a2.nodup_iff.mpr hnd
 exact (a3.and hn).imp fun {x y} h=>Int.lt_iff_le_and_ne.mpr h
noncomputable def T1 (P:V→AD→Prop):List V→AD→Prop
 | [v],σ=>P v σ
 | _,_=>False
theorem Jt:∀ {vs:List V},T1 P vs σ→∃ v,vs=[v]∧P v σ
 | [v],h=>⟨v,rfl,h⟩
variable (K) in
inductive SetAt (c:Cf K.h₀) (Q:AO):Value→Shared→Prop
 | mk (c₁:Cf K.h₀) (D:Addr) (ks ns:List Int):Stp AS c c₁→SetR K.prog K.w c₁.s.heap D (B3 K.w) ks→ks.length<64→(∀ x,x∈ks↔x∈ns)→(∀ ms:List Int,ms.Pairwise (·<·)→(∀ x,x∈ms↔x∈ns)→Q (.ref c₁.σ.length) (c₁.σ++[.list (ms.map .int)]))→SetAt c Q (.ref D) c₁.s
theorem R7 (g:Gnd K G fa mg mb):SortR K G where
 one {L e a pf pos} hf hn he:=fun A c ρ Q X R F q=>by
  rw [CY]
  refine wpAny_bind (Bw g F hf (by decide) D7 (Du (.inr ⟨_,rfl⟩) R hn (BL hn BS) (Di hn he E1) F (Q:=T1 fun v σ=>SortK σ Q false v) q fun c₁ Vs vals s₁ r y=>?_))
  refine AF (Jt y) fun V ze1 y=>?_;subst ze1
  refine AF r.one fun v ze1 r'=>?_;subst ze1
  exact fin s₁ (Nq r' y)
 set {L e a pf pf' pos pos'} hf hf' hn he:=fun A c ρ Q X R F q=>by
  rw [CY]
  have hns:Aw (.Call (.Name ("set":Str) pf') [e] [] pos'):=fun _ _=>rfl
  refine wpAny_bind (Bw g F hf (by decide) D7 (callWith_builtin (BL hns BS L.env pos) ?_))
  have inner:wpAny K.M A (eval (.Call (.Name ("set":Str) pf') [e] [] pos') L.env) (SetAt K c Q) (PX c X) c.s:=by
   rw [CY]
   refine wpAny_bind (Bw g F hf' (by decide) N9 (Du (.inl ⟨_,rfl⟩) R hn (BL hn BS) (Di hn he E1) F (Q:=T1 fun v σ=>SortK σ Q true v) q fun c₁ Vs vals s₁ r y=>?_))
   refine AF (Jt y) fun V ze1 y=>?_;subst ze1
   refine AF r.one fun v ze1 r'=>?_;subst ze1
   cases y with
   | @set n ns en hl y'=>
    apply Cf.listE en r';intro l items k _ gl rr z
    have hsz:items.size=ns.length:=by rw [← Array.length_toList,← rr.length,List.length_map]
    refine Qn R.hd gl.isList (GD rr) (by rw [hsz];exact Nat.lt_of_lt_of_le (Nat.succ_lt_succ hl) (by decide)) fun h' tk ks hS hm hkl kk=>?_
    exact .mk (c₁.keep { c₁.s with heap:=h',toks:=tk } fun b o e=>kk b o (Heap.lt_size e) e) _ ks ns (s₁.trans (Cf.keep_stp ⟨rfl,rfl⟩)) hS (Nat.lt_of_le_of_lt (hsz▸hkl) hl) hm y'
  have hl':wpAny K.M A (spliced (backTo pos (starEach [.Call (.Name ("set":Str) pf') [e] [] pos'] L.env))) (fun vals s₁=>wpAny K.M A (call (.builtin "sorted") ([]++vals) []) (PV c Q) (PX c X) s₁) (PX c X) c.s:=
   wpAny_items_cons (wpAny_mono inner (fun x s₁ y=>y.casesOn fun c₁ D ks ns s₁ hS hkl hm y=>wpAny_items_nil (fin s₁ (JR R.hd hS hkl hm y))) fun _ _ e=>e) (hns [] L.env)
  rw [hns [] L.env] at hl' ⊢
  exact evalArgs_plain hl'
end
end Mine.Internal
namespace Mine.Internal
open PySem PySem.Calls PyProof.Rows PySem.W
set_option maxRecDepth 100000
set_option genSizeOf false
set_option genInjectivity false
theorem Lq (vs:List Value):(List.range vs.length).map (fun i=>vs.getD i Value.none)=vs:=by
 apply List.ext_getElem?
 intro i
 rw [List.getElem?_map]
 by_cases hi:i<vs.length
 ·simp [hi]
 ·simp [hi]
section
variable {prog:Program} {w:World} {A:Around} {E:Value→Shared→Prop} {s:Shared}
theorem RC {a kS:Addr} {vs kvs:List Value} {rs:List (List Int)} {e e1:Nat} {P:PySem.Fin→Shared→Prop} (hkS:s.heap.get? kS=some (seqObj "list" kvs.toArray e)) (ha:s.heap.get? a=some (seqObj "list" #[] e1)) (hne:a≠kS) (hl:kvs.length=vs.length)
  (hr:RowsAre s.heap kvs rs) (hnr:∀ r∈rs,r≠[]) (h64:vs.length<64)
  (h:∀ p:List Nat,p.Perm (List.range vs.length)→p.Pairwise (A4 rs)→∀ h' c,h'.get? a=some (seqObj "list" (p.map fun i=>vs.getD i Value.none).toArray c)→(∀ b o,b≠a→b≠kS→s.heap.get? b=some o→h'.get? b=some o)→(∃ o,h'.get? kS=some o)→P (.done (.ret .none)) { s with heap:=h' }) :
  wpAny (model prog w) A (ksk_end a false vs.toArray e1 (.ref kS) kvs.toArray) P E s:=by
 have tail:∀ (st:SortSt) (p:List Nat),(arrOf st).map (·.2)=(p.map fun i=>vs.getD i Value.none).toArray→failedOf st=none→p.Perm (List.range vs.length)→p.Pairwise (A4 rs)→wpAny (model prog w) A (ksk_tail a false e1 (.ref kS) st) P E s:=fun st p hout hf hp1 hp2=>by
  unfold ksk_tail
  dsimp only
  rw [hout]
  have hsz:(p.map fun i=>vs.getD i Value.none).toArray.size=vs.length:=by rw [List.size_toArray,List.length_map,hp1.length_eq,List.length_range]
  obtain ⟨ck,hck⟩:∃ ck,(s.heap.update kS (Obj.mapSeq fun _=>(#[]:Array Value))).get? kS=some (seqObj "list" #[] ck):=⟨_,get?_update_seq hkS fun _=>#[]⟩
  have ha1:(s.heap.update kS (Obj.mapSeq fun _=>(#[]:Array Value))).get? a=some (seqObj "list" #[] e1):=(Heap.get?_update_ne _ _ _ _ hne).trans ha
  obtain ⟨c2,hc2⟩:∃ c2,((s.heap.update kS (Obj.mapSeq fun _=>(#[]:Array Value))).update a (Obj.mapSeq fun _=>(p.map fun i=>vs.getD i Value.none).toArray)).get? a=some (seqObj "list" (p.map fun i=>vs.getD i Value.none).toArray c2):=⟨_,get?_update_seq ha1 fun _=>(p.map fun i=>vs.getD i Value.none).toArray⟩
  refine wpAny_bind (listUpdate_at hkS rfl ?_ (by rw [List.size_toArray,sizeLine_eq];exact an2 .le .v0 (.n 16777216) (.q .v0 .v1 (.t .v1 (.n 64) .e)) rfl hl h64) (Nat.zero_le _))
  refine wpAny_bind (wpAny_letGo ?_)
  refine wpAny_bind (seqEpoch_at ha1 rfl ?_)
  refine wpAny_bind (listUpdate_at ha1 rfl ?_ (Nat.zero_le _) (Nat.le_trans (Nat.le_of_eq hsz) (by rw [sizeLine_eq];exact an1 .le .v0 (.a (.n 16777216) .n1) (.t .v0 (.n 64) .e) rfl h64)))
  rw [hf]
  simp only [bne_self_eq_false,Bool.false_eq_true,if_false]
  refine wpAny_pure (h p hp1 hp2 _ c2 hc2 (fun b o h1 h2 eb=>?_) ⟨_,(Heap.get?_update_ne _ _ _ _ (Ne.symm hne)).trans hck⟩)
  exact (Heap.get?_update_ne _ _ _ _ h1).trans ((Heap.get?_update_ne _ _ _ _ h2).trans eb)
 unfold ksk_end
 dsimp only
 simp only [Bool.false_eq_true,if_false]
 by_cases h2:vs.toArray.size<2
 ·rw [if_pos h2,if_pos h2]
  refine wpAny_bind (wpAny_pure ?_)
  rw [StateT.run_pure]
  refine wpAny_bind (wpAny_pure ?_)
  dsimp only
  refine tail _ (List.range vs.length) ?_ rfl (List.Perm.refl _) ?_
  ·rw [Lq]
   show (kvs.toArray.zip vs.toArray).map (·.2)=vs.toArray
   apply Array.toList_inj.mp
   simp [List.map_snd_zip,hl]
  ·have hlt:vs.length<2:=by simpa using h2
   match hv:vs.length,hlt with
   | 0,_=>simp
   | 1,_=>simp
 ·rw [if_neg h2,if_neg h2]
  have h2':2≤vs.length:=by simp only [List.size_toArray] at h2;exact an1 .le .n2 .v0 (.o .v0 .n2 .e) rfl h2
  refine Ae (hr.tups hnr) fun fs tup hfl hfi=>?_
  refine wpAny_bind (kat_kind tup (by exact an3 .lt .n0 .v0 (.l .n2 .v1 (.p .v2 .v1 (.p .v0 .v2 .e))) rfl h2' hl hfl) (T:=.type "int") (fun v hv=>by refine Az (hfi v hv) fun i t ze1=>?_;subst ze1;exact H0) rfl ?_)
  refine wpAny_bind (wpAny_mono (kat_run (ks:=kvs) (vs:=vs) (Q:=fun st' s'=>s'=s∧∃ p:Array Nat,arrOf st'=p.map (kas_item (kvs.toArray.zip vs.toArray))∧failedOf st'=none∧p.toList.Perm (List.range vs.length)∧p.toList.Pairwise (Bf (Ll rs)))
   (G:=fun p s'=>s'=s∧p.toList.Perm (List.range vs.length)∧p.toList.Pairwise (Bf (Ll rs)))
   hl h2' h64 (fun p st' s' _ a2 a3 a4=>⟨a4.1,p,a2,a3,a4.2.1,a4.2.2⟩) (OB (lt:=Ll rs) (fun i j C hi hj hC=>?_) (fun p hp=>⟨rfl,hp.1,hp.2⟩) (Mj (Jc rs) (by exact an1 .le .n1 .v0 (.l .n2 .v0 .e) rfl h2')))) ?_ fun _ _ e=>e)
  ·refine Af (hr.at' (i:=i) (by exact an3 .lt .v0 .v1 (.t .v0 .v2 (.p .v1 .v2 .e)) rfl hi hl)) fun x ix nx ex gx hx=>?_
   refine Af (hr.at' (i:=j) (by exact an3 .lt .v0 .v1 (.t .v0 .v2 (.p .v1 .v2 .e)) rfl hj hl)) fun y iy ny ey gy hy=>?_
   show wpAny _ _ (keyLt' _ (kvs.getD i Value.none) (kvs.getD j Value.none)) _ _ _
   rw [ex,ey]
   exact kat_lt (b:=true) gx rfl gy rfl (OV _ _ _ _ 0 hx hy (by simp) hC)
  ·rintro ⟨⟨⟩,st'⟩ s' ⟨rfl,p,har,hf,hp1,hp2⟩
   exact tail st' p.toList (kat_snds (ks:=kvs) hl har) hf hp1 hp2
end
noncomputable def Outs {h₀:Bs} (c:Cf h₀) (φ₀:List Addr) (kS:Addr) (objs:List (Addr × Obj)):Prop:=φ₀<+:c.φ∧∀ p∈objs,c.s.heap.get? p.1=some p.2∧p.1∉c.φ∧p.1≠kS∧∀ es ep,p.2.data≠.dict es ep
section
variable {K:Ctx} {L:Loc} {A:Around}
theorem Outs.step (x:Outs c φ₀ kS objs) (st:WStp own c c') (ho:∀ b,own b→b=kS):Outs c' φ₀ kS objs:=⟨x.1.trans st.pre,fun p hp=>
 let ⟨h1,h2,h3,h4⟩:=x.2 p hp
 ⟨st.keepE h2 (fun m=>h3 (ho _ m)) h4 h1,st.out h1 h2,h3,h4⟩⟩
theorem KH (h0:K.h₀.get? kS=none)
  (hkey:∀ (c:Cf K.h₀) (V:V) (v:Value) (R:AO),Fr c L ρ→Outs c φ₀ kS objs→Rel c.s.heap c.φ V v→turn V c.σ R→wpAny K.M A (call f [v]) (PV c R) NX c.s)
  (hb:∀ x (s:Shared) (Q':ForInStep PUnit→Shared→Prop),wpAny K.M A (call f [x]) (fun k s'=>∃ kvs e,s'.heap.get? kS=some (seqObj "list" kvs.toArray e)∧kvs.length<64 ∧
   ∀ c,(s'.heap.update kS (Obj.mapSeq (·.push k))).get? kS=some (seqObj "list" (kvs++[k]).toArray c)→Q' (.yield ⟨⟩) { s' with heap:=s'.heap.update kS (Obj.mapSeq (·.push k)) }) NX s→wpAny K.M A (body x ⟨⟩) Q' E s) :
  ∀ (vs:List Value) (Vs:List V) (c:Cf K.h₀) (acc:List V),Fr c L ρ→Outs c φ₀ kS objs→AccAt c kS acc→acc.length+vs.length<64→RelL c.s.heap c.φ Vs vs→Hn turn Vs acc c.σ Qk →
   wpAny K.M A (forIn vs PUnit.unit body) (fun _ s'=>∃ (c':Cf K.h₀) (acc':List V),c'.s=s'∧Stp (·=kS) c c'∧Fr c' L ρ∧Outs c' φ₀ kS objs∧AccAt c' kS acc'∧acc'.length=acc.length+vs.length∧Qk acc' c'.σ) E c.s
 | [],Vs,c,acc,F,O,ac,hl,rv,q=>by
  cases List.length_eq_zero_iff.mp rv.length
  rw [List.forIn_nil]
  exact wpAny_pure ⟨c,acc,rfl,.refl c,F,O,ac,rfl,q⟩
 | v::vs,[],c,acc,F,O,ac,hl,rv,q=>rv.elim
 | v::vs,V::Vs,c,acc,F,O,ac,hl,rv,q=>by
  rw [List.length_cons] at hl
  rw [List.forIn_cons]
  refine wpAny_bind (hb v c.s _ (wpAny_mono (hkey c V v _ F O rv.1 q) (fun u s₁ y=>?_) fun _ _ x=>x))
  refine y.casesOn fun c₁ U s₁ ru q₁=>?_
  have ac₁:=ac.step s₁
  refine ac₁.casesOn fun arr e oD eD rD=>?_
  have hz:arr.toList.length=acc.length:=rD.length.symm
  refine ⟨arr.toList,e,by rw [Array.toArray_toList];exact eD,by exact an3 .lt .v0 (.n 64) (.q .v0 .v1 (.t (.a .v1 (.a .v2 .n1)) (.n 64) .e)) rfl hz hl,fun k hk=>?_⟩
  have ho:∀ b,b=kS→A8 c₁.s.heap b∧b∉c₁.φ∧K.h₀.get? b=none:=fun b e=>e▸⟨Mine.Internal.noTup eD BR,oD,h0⟩
  have kk:∀ b o,¬ b=kS→c₁.s.heap.get? b=some o→(c₁.s.heap.update kS (Obj.mapSeq (·.push u))).get? b=some o:=fun b o h e=>(Heap.get?_update_ne _ _ _ _ h).trans e
  have s₂:Stp (·=kS) c₁ (c₁.keepOwn { c₁.s with heap:=c₁.s.heap.update kS (Obj.mapSeq (·.push u)) } kk ho):=Cf.keepOwn_stp ⟨rfl,rfl⟩ fun b _ e _=>⟨_,(congrArg (Heap.get? (c₁.s.heap.update kS (Obj.mapSeq (·.push u)))) e).trans hk⟩
  have F₂:=(F.step s₁).keep s₂.toWStp (fun b e=>(ho b e).1) (fun f _ n _ e=>ac₁.noNs (e▸n)) fun b _ ic e=>ac₁.noCell (e▸ic)
  have O₂:=(O.step s₁.toWStp fun _ f=>f.elim).step s₂.toWStp fun _ h=>h
  have rk:∀ {Ws us},RelL c₁.s.heap c₁.φ Ws us→RelL (c₁.s.heap.update kS (Obj.mapSeq (·.push u))) c₁.φ Ws us:=fun r=>r.own s₂.toWStp fun b e=>(ho b e).1
  refine wpAny_mono (KH h0 hkey hb vs Vs (c₁.keepOwn { c₁.s with heap:=c₁.s.heap.update kS (Obj.mapSeq (·.push u)) } kk ho) (acc++[U]) F₂ O₂ (.mk _ k oD hk (by rw [List.toList_toArray];exact rk (rD.append ⟨ru,trivial⟩))) (by rw [List.length_append,List.length_singleton];exact an2 .lt (.a (.a .v0 .n1) .v1) (.n 64) (.t (.a .v0 (.a .v1 .n1)) (.n 64) .e) rfl hl) (rk (rv.2.step s₁)) q₁) (fun _ s' y=>?_) fun _ _ x=>x
  refine Jh y fun c' acc' e1 st F' O' ac' hl' q'=>?_
  exact ⟨c',acc',e1,(s₁.any.trans s₂).trans st,F',O',ac',by rw [hl',List.length_append,List.length_singleton,List.length_cons];exact Nat.le_antisymm (an2 .le (.a (.a .v0 .n1) .v1) (.a .v0 (.a .v1 .n1)) .e rfl) (an2 .le (.a .v0 (.a .v1 .n1)) (.a (.a .v0 .n1) .v1) .e rfl),q'⟩
theorem QN {E:Value→Shared→Prop} {f:Value} {c:Cf K.h₀} {a:Addr} {objs:List (Addr × Obj)} {turn:V→AD→AO→Prop} {ρ:List V} {Vs:List V} {vs:List Value} {n:Nat} {P:PySem.Fin→Shared→Prop} {Q:AO} {c₀:Cf K.h₀}
  (st₀:Stp AS c₀ c) (ha0:c₀.s.heap.get? a=none) (haφ:a∉c.φ) (F:Fr c L ρ) (hO:∀ p∈objs,c.s.heap.get? p.1=some p.2∧p.1∉c.φ∧p.1≠a∧∀ es ep,p.2.data≠.dict es ep) (ha:c.s.heap.get? a=some (seqObj "list" vs.toArray n)) (rv:RelL c.s.heap c.φ Vs vs) (h64:vs.length<64)
  (hkey:∀ (kS:Addr) (t:Cf K.h₀) (V:V) (v:Value) (R:AO),Fr t L ρ→Outs t c.φ kS objs→Rel t.s.heap t.φ V v→turn V t.σ R→wpAny K.M A (call f [v]) (PV t R) NX t.s)
  (q:Hn turn Vs [] c.σ fun ks σ₂=>∃ rs:List (List Int),ks=rs.map (fun r=>.tup (r.map .int))∧(∀ r∈rs,r≠[])∧∀ p:List Nat,p.Perm (List.range Vs.length)→p.Pairwise (A4 rs)→Q (.ref σ₂.length) (σ₂++[.list (p.map fun i=>Vs.getD i .none)]))
  (h:∀ s',PV c₀ Q (.ref a) s'→P (.done (.ret .none)) s'):wpAny K.M A (ksk_tree a f false) P E c.s:=by
 have hlen:Vs.length=vs.length:=rv.length
 have haS:a<c.s.heap.objs.size:=Heap.lt_size ha
 have hsl:vs.length≤sizeLine:=by rw [sizeLine_eq];exact an1 .le .v0 (.n 16777216) (.t .v0 (.n 64) .e) rfl h64
 obtain ⟨e1,ha1⟩:∃ e1,(c.s.heap.update a (Obj.mapSeq fun _=>(#[]:Array Value))).get? a=some (seqObj "list" #[] e1):=⟨_,get?_update_seq ha fun _=>#[]⟩
 have hsz:((c.s.heap.update a (Obj.mapSeq fun _=>(#[]:Array Value))).push (seqObj "tuple" vs.toArray 0)).objs.size=c.s.heap.objs.size+1:=by rw [size_push',Heap.size_update]
 generalize hh₁:((c.s.heap.update a (Obj.mapSeq fun _=>(#[]:Array Value))).push (seqObj "tuple" vs.toArray 0)).push (seqObj "list" #[] 0)=h₁
 have kk:∀ b o,¬ b=a→c.s.heap.get? b=some o→h₁.get? b=some o:=fun b o hb e=>by
  rw [← hh₁]
  exact Heap.get?_push_of_some _ (Heap.get?_push_of_some _ ((Heap.get?_update_ne _ _ _ _ hb).trans e))
 have ga:h₁.get? a=some (seqObj "list" #[] e1):=by rw [← hh₁];exact Heap.get?_push_of_some _ (Heap.get?_push_of_some _ ha1)
 have gk:h₁.get? (c.s.heap.objs.size+1)=some (seqObj "list" ([]:List Value).toArray 0):=by rw [← hh₁,← hsz];exact Heap.get?_push_size _ rfl
 have hka:c.s.heap.objs.size+1≠a:=Nat.ne_of_gt (Nat.lt_succ_of_lt haS)
 have fk:c.s.heap.get? (c.s.heap.objs.size+1)=none:=BU (Nat.le_succ _)
 have ho:∀ b,b=a→A8 c.s.heap b∧b∉c.φ∧K.h₀.get? b=none:=fun b e=>e▸⟨Mine.Internal.noTup ha BR,haφ,c₀.sim.none₀ ha0⟩
 have ac₀:AccAt c a Vs:=.mk _ n haφ ha (by rw [List.toList_toArray];exact rv)
 have s₁:Stp (·=a) c (c.keepOwn { c.s with heap:=h₁ } kk ho):=Cf.keepOwn_stp ⟨rfl,rfl⟩ fun b _ e _=>e▸⟨_,ga⟩
 have F₁:=F.keep s₁.toWStp (fun b e=>(ho b e).1) (fun f _ n _ e=>ac₀.noNs (e▸n)) fun b _ ic e=>ac₀.noCell (e▸ic)
 have rv₁:RelL h₁ c.φ Vs vs:=rv.own s₁.toWStp fun b e=>(ho b e).1
 unfold ksk_tree
 refine wpAny_bind (listItems_at ha rfl ?_)
 refine wpAny_bind (listUpdate_at ha rfl ?_ (by rw [List.size_toArray];exact hsl) (Nat.zero_le _))
 refine wpAny_bind (seqEpoch_at ha1 rfl ?_)
 refine wpAny_bind (wpAny_newTuple ?_ (by show vs.length≤_;exact hsl))
 refine wpAny_bind (wpAny_newList ?_ (Nat.zero_le _))
 refine wpAny_holding ?_
 show wpAny K.M A (ksk_rest a f false vs.toArray e1 (.ref ((c.s.heap.update a (Obj.mapSeq fun _=>(#[]:Array Value))).push (seqObj "tuple" vs.toArray 0)).objs.size)) P E { c.s with heap:=((c.s.heap.update a (Obj.mapSeq fun _=>(#[]:Array Value))).push (seqObj "tuple" vs.toArray 0)).push (seqObj "list" #[] 0) }
 rw [hsz,hh₁]
 unfold ksk_rest
 refine wpAny_bind (wpAny_rule ?_)
 first
  | rw [List.forIn_toArray]
  | (rw [← Array.forIn_toList];simp only [List.toList_toArray])
  | rw [← Array.forIn_toList]
 generalize hkS:c.s.heap.objs.size+1=kS at *
 have hks:∀ b o,c.s.heap.get? b=some o→b≠kS:=fun b o e=>by rw [← hkS];exact Nat.ne_of_lt (Nat.lt_succ_of_lt (Heap.lt_size e))
 have O₁:Outs (c.keepOwn { c.s with heap:=h₁ } kk ho) c.φ kS ((a,seqObj "list" #[] e1)::objs):=⟨List.prefix_refl _,fun p hp=>by
  rcases List.mem_cons.mp hp with rfl | hp
  ·exact ⟨ga,haφ,Ne.symm hka,nofun⟩
  ·refine GS (hO p hp) fun o1 o2 o3 o4=>?_
   exact ⟨kk p.1 p.2 o3 o1,o2,hks _ _ o1,o4⟩⟩
 refine wpAny_bind (wpAny_mono (KH (L:=L) (ρ:=ρ) (kS:=kS) (objs:=(a,seqObj "list" #[] e1)::objs) (turn:=turn) (c.sim.none₀ fk) (fun t V v R F O r k=>hkey kS t V v R F ⟨O.1,fun p hp=>O.2 p (List.mem_cons_of_mem _ hp)⟩ r k) (fun x s' Q' hx=>?_) vs Vs (c.keepOwn { c.s with heap:=h₁ } kk ho) [] F₁ O₁ (.mk #[] 0 (c.sim.out fk) gk trivial) (by rw [List.length_nil];exact an1 .lt (.a .n0 .v0) (.n 64) (.t .v0 (.n 64) .e) rfl h64) rv₁ q) (fun _ s' y=>?_) fun _ _ x=>x)
 ·refine wpAny_bind (wpAny_attempt (wpAny_mono hx (fun k s'' hk=>?_) fun _ _ hF=>hF.elim))
  refine BC hk fun kvs e g hz hQ=>?_
  have ea:kvs.toArray.push k=(kvs++[k]).toArray:=by simp
  obtain ⟨c2,hc2⟩:∃ c2,(s''.heap.update kS (Obj.mapSeq (·.push k))).get? kS=some (seqObj "list" (kvs++[k]).toArray c2):=⟨_,by rw [← ea];exact get?_update_seq g (·.push k)⟩
  try dsimp only
  refine wpAny_bind (listUpdate_at g rfl ?_ (by rw [List.size_toArray,sizeLine_eq];exact an1 .le .v0 (.n 16777216) (.t .v0 (.n 64) .e) rfl hz) (Nat.le_trans (Nat.le_of_eq (Array.size_push ..)) (by rw [List.size_toArray,sizeLine_eq];exact an1 .le (.a .v0 .n1) (.a (.n 16777216) .n1) (.t .v0 (.n 64) .e) rfl hz)))
  exact wpAny_pure (hQ c2 hc2)
 ·refine GP y fun c' acc' e1' st' F' O' ac' hl' rs hrs hne q'=>?_
  subst e1' hrs
  refine ac'.casesOn fun arr z oK eK rK=>?_
  try dsimp only
  have eK':c'.s.heap.get? kS=some (seqObj "list" arr.toList.toArray z):=by rw [Array.toArray_toList];exact eK
  refine wpAny_bind (listItems_at eK rfl ?_)
  have hl'':arr.toList.length=vs.length:=by rw [← rK.length,hl',List.length_nil,Nat.zero_add]
  have oa:=O'.2 (a,seqObj "list" #[] e1) List.mem_cons_self
  have key:=RC (prog:=K.h₀.prog) (w:=K.h₀.w) (A:=A) (E:=E) (P:=P) eK' oa.1 (Ne.symm hka) hl'' (Lv rK) hne h64 fun p hp1 hp2 h' c2 f1 f2 f3=>h _ ?_
  ·rw [Array.toArray_toList] at key;exact key
  have hoK:∀ b,(b=a∨b=kS)→A8 c'.s.heap b∧b∉c'.φ∧K.h₀.get? b=none:=fun b hb=>by
   rcases hb with rfl | rfl
   ·exact ⟨Mine.Internal.noTup oa.1 BR,oa.2.1,c₀.sim.none₀ ha0⟩
   ·exact ⟨Mine.Internal.noTup eK BR,oK,c.sim.none₀ fk⟩
  have kk':∀ b o,¬ (b=a∨b=kS)→c'.s.heap.get? b=some o→h'.get? b=some o:=fun b o hb e=>f2 b o (fun h=>hb (.inl h)) (fun h=>hb (.inr h)) e
  have s₃:Stp (fun b=>b=a∨b=kS) c' (c'.keepOwn { c'.s with heap:=h' } kk' hoK):=Cf.keepOwn_stp ⟨rfl,rfl⟩ fun b o hb _=>hb.elim (fun e=>e▸⟨_,f1⟩) fun e=>e▸f3
  have stF:Stp AS c₀ (c'.keepOwn { c'.s with heap:=h' } kk' hoK):=((st₀.transNew s₁.toWStp fun b e=>e▸ha0).transNew st'.toWStp fun b e=>e▸st₀.gone fk).transNew s₃.toWStp fun b hb=>hb.elim (fun e=>e▸ha0) fun e=>e▸st₀.gone fk
  have rvF:RelL h' c'.φ Vs vs:=((rv₁.own st'.toWStp fun b e=>e▸Mine.Internal.noTup gk BR:RelL c'.s.heap c'.φ Vs vs)).own s₃.toWStp fun b e=>(hoK b e).1
  rw [← hlen] at hp1
  have hin:∀ i∈p,i<Vs.length:=fun i hi=>List.mem_range.mp (hp1.mem_iff.mp hi)
  refine B6 (Made.join (D:=a) (acc:=p.map fun i=>Vs.getD i .none) stF ha0 (by rw [List.length_map,hp1.length_eq,List.length_range];unfold Ab;exact an2 .le .v0 (.n 1000000) (.q .v0 .v1 (.t .v1 (.n 64) .e)) rfl hlen h64) (.mk (c:=c'.keepOwn { c'.s with heap:=h' } kk' hoK) _ c2 oa.2.1 f1 (by rw [List.toList_toArray];exact Fd rvF p hin))) fun c₄ g1 g2 g3 s₄ r₄=>?_
  have:=PV.mk (c:=c₀) (Q:=Q) c₄ _ s₄ r₄ (by rw [g3];exact q' p hp1 hp2)
  rw [g1] at this;exact this
end
end Mine.Internal
namespace Mine.Internal
open PySem PySem.Calls PyProof.Rows PySem.W
set_option maxRecDepth 100000
set_option genSizeOf false
set_option genInjectivity false
structure LamOk (params:Arguments) (scope:Scope) (x:Str) (arg:Arg):Prop where
 plain:params=⟨[],[arg],none,[],[],none,[]⟩
 name:arg.arg=x
 co:scope.isCoroutine=false
 gen:scope.isGenerator=false
noncomputable abbrev Oc (L:Loc) (scope:Scope) (N:Addr) (q:Str) (f:Addr) (cv:Value):Env:=newEnv scope N mainGlobals (CO L.env scope.names []) (q++".<locals>.") (some f) cv none builtinsNs
noncomputable abbrev R6 (L:Loc) (scope:Scope) (vs':Vs) (N:Addr) (q:Str) (f:Addr) (cv:Value):Loc:=⟨Oc L scope N q f cv,vs',Oc L scope N q f cv::L.up⟩
section
variable {K:Ctx} {L:Loc} {A:Around} {vs':Vs} {G:GlT} {fa:Nat→Addr} {mg mb:Str→Option Value}
theorem My {V:V} (cs:CompSc L scope vs' x i) (F:Fr c L ρ) (st:WStp AS c c') (n:c'.s.heap.Ns N m) (hN:c.s.heap.get? N=none) (ho:N∉c'.φ) (hm:m x=some v) (rv:Rel c'.s.heap c'.φ V v) :
  Fr c' (R6 L scope vs' N q f cv) (ρ.set i V) where
 fn:=cs.kind
 glob:=rfl
 blt:=rfl
 locNew:=c.sim.none₀ hN
 locOut:=ho
 inj y z j hy hz:=by
  rcases cs.vars y j hy with ⟨rfl,rfl⟩ | ⟨h1,_,h2,h3⟩
  ·rcases cs.vars z _ hz with ⟨rfl,_⟩ | ⟨_,_,_,h3⟩
   ·rfl
   ·exact absurd rfl h3
  ·rcases cs.vars z j hz with ⟨rfl,rfl⟩ | ⟨_,_,h4,_⟩
   ·exact absurd rfl h3
   ·exact F.inj y z j h2 h4
 ns:=.mk m n fun y j hy hk=>by
  rcases cs.vars y j hy with ⟨rfl,rfl⟩ | ⟨_,hf,_,_⟩
  ·exact fun W hW _=>⟨v,hm,CU hW▸rv⟩
  ·cases (show scope.names.lookup y=some .local from hk).symm.trans hf
 cell y j hy hk:=by
  rcases cs.vars y j hy with ⟨rfl,rfl⟩ | ⟨_,hf,hv,hj⟩
  ·rw [show (R6 L scope vs' N q f cv).env.kindOf y=some .local from cs.var] at hk;refine Or.elim hk (fun q=>?_) (fun q=>?_) <;> cases q
  ·obtain ⟨ca,hl⟩:=Ce cs F hf hv
   exact match ca with
   | .mk a ov e1 e2 e3 ic rr=>.mk a ov (hl a e1) (let ⟨_,e,_⟩:=ic;st.out e e2) e3 (st.keepC e2 (fun f=>f) ic) ((rr.own st fun _ f=>f.elim).other (Ne.symm hj))
 cellInj y z j j' a hy hz h1 h2:=by
  have nx:(CO L.env scope.names []).lookup x=none:=EB L.env scope.names [] x rfl cs.once
  rcases cs.vars y j hy with ⟨rfl,rfl⟩ | ⟨_,hf,hv,_⟩
  ·cases nx.symm.trans h1
  ·rcases cs.vars z j' hz with ⟨rfl,rfl⟩ | ⟨_,hf',hv',_⟩
   ·cases nx.symm.trans h2
   ·obtain ⟨⟨a1,_,e1,_⟩,l1⟩:=Ce cs F hf hv
    obtain ⟨⟨a2,_,e2,_⟩,l2⟩:=Ce cs F hf' hv'
    cases (l1 a1 e1).symm.trans h1
    cases (l2 a2 e2).symm.trans h2
    exact F.cellInj y z j j' _ hv hv' e1 e2
 up e m':=(List.mem_cons.mp m').elim (fun q=>by subst q;exact ⟨(fun q=>nomatch cs.kind.symm.trans q),_,_,rfl,c.sim.none₀ hN,ho,n⟩) fun m'=>(F.up e m').keep st fun _ _ _ _ f=>f
theorem OO (g:Gnd K G fa mg mb) {c:Cf K.h₀} {ρ:List V} {f c':Addr} {qual:Str} {params:Arguments} {body:Expr} {scope:Scope} {pm ctv:Value} {x:Str} {i:Nat} {arg:Arg} {b:Ex} {V:V} {v:Value} {Q:AO}
  (lo:LamOk params scope x arg) (cs:CompSc L scope vs' x i) (hh:A.handled=none) (hd:A.depth+3*K.d<901) (hu:A.units+12*K.d<9003) (hfr:A.frames=some L.up) (F:Fr c L ρ)
  (hf:c.s.heap.get? f=some (kla_obj "<lambda>" qual params body scope (CO L.env scope.names []) pm c' ctv)) (hcd:c.s.heap.CodeRec (.ref c') qual) (r:Rel c.s.heap c.φ V v)
  (hB:∀ N f cv,EOk K (R6 L scope vs' N qual f cv) body b) (q:b K.C (ρ.set i V) c.σ Q noX):wpAny K.M A (call (.ref f) [v]) (PV c Q) NX c.s:=by
 have hroom:A.depth<recursionLimit:=Nat.lt_of_lt_of_le (Nat.lt_of_le_of_lt (Nat.le_add_right _ _) hd) (by decide)
 refine wpAny_call (kla_callFunE (fd:=kla_fn "<lambda>" qual params body scope (CO L.env scope.names []) pm (.ref c') ctv) hroom hf rfl lo.co lo.gen rfl hcd ?_)
 have hb:bindArgs (kla_fn "<lambda>" qual params body scope (CO L.env scope.names []) pm (.ref c') ctv) ⟨[v],[]⟩=pure [(x,v)]:=by
  have:=D9 (fd:=kla_fn "<lambda>" qual params body scope (CO L.env scope.names []) pm (.ref c') ctv) (args:=[arg]) (vals:=[v]) lo.plain rfl rfl (by simp)
  rw [this,← lo.name];rfl
 rw [hb]
 refine wpAny_pure (wpAny_newFunctionEnv cs.cell (fun y hy=>by rw [List.mem_singleton.mp hy];exact cs.var) (fun h₁ hns hsb=>⟨(g.nolimit.keeps c.sim.keep).fresh _ hsb,?_⟩) cs.kind)
 have kk:∀ b o,c.s.heap.get? b=some o→h₁.get? b=some o:=fun b o e=>hsb.extBut b o (Nat.ne_of_lt (Heap.lt_size e)) (Heap.get?_push_of_some _ e)
 have st₁:Stp AS c (c.keep { c.s with heap:=h₁,toks:=c.s.toks+[(x,v)].length } kk):=Cf.keep_stp ⟨rfl,rfl⟩
 have F':=My (q:=qual) (f:=f) (cv:=.ref c') (V:=V) (v:=v) cs F st₁.toWStp hns Ag (c.sim.out Ag) (by show List.lookup x [(x,v)]=_;rw [List.lookup_cons,beq_self_eq_true]) (r.step st₁)
 refine kla_codeExpr (wpAny_mono (hB _ _ _ (A.deeper _) (c.keep { c.s with heap:=h₁,toks:=c.s.toks+[(x,v)].length } kk) (ρ.set i V) Q noX ⟨hh,by show A.depth+1+3*K.d<902;exact an2 .lt (.a (.a .v0 .n1) (.m 3 .v1)) (.n 902) (.t (.a .v0 (.m 3 .v1)) (.n 901) .e) rfl hd,by show A.units+3+12*K.d<9006;exact an2 .lt (.a (.a .v0 .n3) (.m 12 .v1)) (.n 9006) (.t (.a .v0 (.m 12 .v1)) (.n 9003) .e) rfl hu,by show A.frames.map _=_;rw [hfr];rfl⟩ F' q) (fun u s' y=>y.lift st₁) fun _ _ e=>UU e)
inductive LamAt (c:Cf K.h₀) (K':Nat→AD→Prop) (f:Addr) (mk:Addr→Value→Obj) (qual:Str):Shared→Prop
 | mk (c₂:Cf K.h₀) (m:Nat) (c':Addr) (ctv:Value):Stp AS c c₂→K' m c₂.σ→c₂.s.heap.get? f=some (mk c' ctv)→f∉c₂.φ→c₂.φ[m]?=some c'→c₂.σ[m]?=some (.code qual)→LamAt c K' f mk qual c₂.s
theorem Pl (g:Gnd K G fa mg mb) {c:Cf K.h₀} {ρ:List V} {cN P:Addr} {qual:Str} {params:Arguments} {body:Expr} {scope:Scope} {x:Str} {i:Nat} {lpos:Pos} {K':Nat→AD→Prop} {Q:Value→Shared→Prop} {E:Value→Shared→Prop}
  (hG:G.lookup ("<lambda>":Str)=some (.tabl cN P)) (hdef:defaultsOf params L.env=([],[])) (cs:CompSc L scope vs' x i) (F:Fr c L ρ) (hcode:L.env.code=.ref cN) (hq:L.env.qual++"<lambda>"=qual) (tw:TabW P qual lpos.line lpos.col c.σ K')
  (h:∀ f s',LamAt c K' f (fun c' ctv=>kla_obj "<lambda>" qual params body scope (CO L.env scope.names []) ((mg "__name__").getD .none) c' ctv) qual s'→Q (.ref f) s'):wpAny K.M A (eval (.Lambda params body scope lpos) L.env) Q E c.s:=by
 refine A7 (g.lam cN P hG) fun hC hb hgP=>?_
 have hb':c.s.heap.BuiltinsAt mg P:=by refine BQ hb fun bm ob b1 b2 b3 b4 b5 b6=>?_;exact ⟨bm,ob,b1,b2,b3,b4,c.sim.keep _ _ b5,b6⟩
 refine kla_eval hdef ?_
 rw [hq]
 rcases tw with ⟨e1,k⟩ | ⟨m,e1,e2,k⟩
 ·refine Ae (c.sim.obj 1 _ e1) fun aP ea ze1 gP=>?_;subst ze1
  refine kla_makeFunction (mg:=mg) (Ca cs F) F.glob (g.ns.keeps c.sim.keep) hcode (hC.keeps c.sim.keep) gP trivial rfl hgP hb' fun c' ctv h' tk hext hge hlt hrec htb=>h _ _ ?_
  refine GO hrec fun c₂' oc ocv tq e2 hoc hocd hocq=>?_
  cases e2
  have nc:c.s.heap.get? c'=none:=BU hge
  have kk:∀ b o,b≠aP→c.s.heap.get? b=some o→(h'.push (kla_obj "<lambda>" qual params body scope (CO L.env scope.names []) ((mg "__name__").getD .none) c' ctv)).get? b=some o:=fun b o hb e=>Heap.get?_push_of_some _ (hext b o hb e)
  refine Bd (Cf.setO (c:=c) (o:=.gone) (tk:=tk) ea (by decide) kk fun _=>⟨_,Heap.get?_push_of_some _ htb⟩) fun ca f1 f2 f3 sa=>?_
  have Sb:Sim K.h₀ ca.s.heap (ca.φ++[c']) (ca.σ++[.code qual]):=ca.sim.add (o:=.code qual) (f2▸c.sim.out nc) (c.sim.none₀ nc) ⟨oc,ocv,tq,by rw [f1];exact Heap.get?_push_of_some _ hoc,hocd,hocq⟩
  have sb:Stp AS c ⟨ca.s,ca.φ++[c'],ca.σ++[.code qual],Sb⟩:=⟨⟨sa.only,sa.pre.trans (List.prefix_append _ _),sa.keep,fun a m=>(Bj m).elim (sa.fresh a) fun e=>.inr (e▸nc)⟩,sa.pres⟩
  have hlen:c.φ.length=c.σ.length:=c.sim.len
  obtain ⟨cc,g1,g2,g3,sc⟩:=Cf.setO (c:=⟨ca.s,ca.φ++[c'],ca.σ++[.code qual],Sb⟩) (n:=1) (a:=aP) (o:=.row aP lpos.line lpos.col c.σ.length) (tk:=ca.s.toks) (B0 (List.prefix_append _ _) (f2▸ea)) (by decide) (h':=ca.s.heap) (fun _ _ _ e=>e)
   fun _=>⟨rfl,c',by show (ca.φ++[c'])[c.σ.length]?=_;rw [f2,← hlen];exact List.getElem?_concat_length,by rw [f1];exact Heap.get?_push_of_some _ htb⟩
  have hσ:cc.σ=c.σ.set 1 (.row aP lpos.line lpos.col c.σ.length)++[.code qual]:=by
   rw [g3]
   show (ca.σ++[O.code qual]).set 1 _=_
   rw [f3,List.set_append_left _ _ (by rw [List.length_set];exact (List.getElem?_eq_some_iff.mp e1).1),List.set_set]
  have hs:cc.s={ c.s with heap:=h'.push (kla_obj "<lambda>" qual params body scope (CO L.env scope.names []) ((mg "__name__").getD .none) c' ctv),toks:=tk }:=by rw [g1,f1]
  have:=LamAt.mk (c:=c) (K':=K') (f:=h'.objs.size) (mk:=fun c' ctv=>kla_obj "<lambda>" qual params body scope (CO L.env scope.names []) ((mg "__name__").getD .none) c' ctv) (qual:=qual) cc c.σ.length c' ctv (sb.trans sc) (by rw [hσ];exact k) (by rw [hs];exact Heap.get?_push_size _ rfl)
   (by rw [g2];show _∉ca.φ++[c'];rw [f2];exact fun m=>(Bj m).elim (c.sim.out (BU (Nat.le_trans hge (Nat.le_of_lt hlt)))) fun e=>Nat.ne_of_gt hlt e) (by rw [g2];show (ca.φ++[c'])[c.σ.length]?=_;rw [f2,← hlen];exact List.getElem?_concat_length)
   (by rw [hσ,List.getElem?_append_right (by rw [List.length_set];exact Nat.le_refl _),List.length_set,Nat.sub_self];rfl)
  rw [hs] at this;exact this
 ·refine KI (c.sim.obj 1 _ e1) fun aP ea ze1 c' ec gP=>?_;subst ze1
  refine kla_makeFunctionHit (mg:=mg) (cv:=.ref c') (Ca cs F) F.glob (g.ns.keeps c.sim.keep) hcode (hC.keeps c.sim.keep) gP ?_ ?_ hb' fun ctv h' tk hk hsz=>h _ _ ?_
  ·exact trivial
  ·show (if _=true then _ else _)=_
   rw [if_pos (by simp)]
  ·have s₂:Stp AS c (c.keep { c.s with heap:=h'.push { cls:=.type "function", data:=.func (kla_fn "<lambda>" qual params body scope (CO L.env scope.names []) ((mg "__name__").getD .none) (.ref c') ctv) },toks:=tk } fun b o e=>Heap.get?_push_of_some _ (hk b o e)):=Cf.keep_stp ⟨rfl,rfl⟩
   exact .mk (c.keep _ _) m c' ctv s₂ k (Heap.get?_push_size _ rfl) (c.sim.out (BU hsz)) ec e2
end
end Mine.Internal
namespace Mine.Internal
open PySem PySem.Calls PyProof.Rows PySem.W
set_option maxRecDepth 100000
set_option genSizeOf false
set_option genInjectivity false
section
variable {K:Ctx} {L:Loc} {A:Around} {vs':Vs} {G:GlT} {fa:Nat→Addr} {mg mb:Str→Option Value}
theorem NK (P:RelP h φ kvs us) (hi:ItemsOf (fun i v=>∃ k x,us[i]?=some (k,x)∧(strKind prog w).is k v=true) acc us.length):RelL h φ (kvs.map fun p=>V.str p.1) acc.toList:=by
 have:∀ (ks:List V) (vs:List Value),ks.length=vs.length→(∀ (i:Nat) (V:V) (v:Value),ks[i]?=some V→vs[i]?=some v→Rel h φ V v)→RelL h φ ks vs:=by
  intro ks
  induction ks with
  | nil=>intro vs hl _;cases vs with | nil=>trivial | cons=>cases hl
  | cons k ks ih=>intro vs hl hv;cases vs with
   | nil=>cases hl
   | cons v vs=>exact ⟨hv 0 k v rfl rfl,ih vs (Nat.succ.inj hl) fun i V v h1 h2=>hv (i+1) V v h1 h2⟩
 refine this _ _ (by rw [List.length_map];exact (P.len.symm.trans hi.1.symm).trans Array.length_toList.symm) fun i V v h1 h2=>?_
 refine BM (P.key h1) fun k x e1 ze1=>?_;subst ze1
 rw [Array.getElem?_toList] at h2
 refine BM (hi.2 i v h2) fun k' x' e2 hk=>?_
 cases e1.symm.trans e2
 refine AX (Value.isStrOf_shape hk) fun t ze1=>?_;subst ze1
 exact Bh
theorem TabW.ext {ln col:Int} {K:Nat→AD→Prop} (h:TabW P q ln col σ K):TabW P q ln col σ fun m σ₂=>(∀ n o,n≠1→σ[n]?=some o→σ₂[n]?=some o)∧K m σ₂:=by
 rcases h with ⟨e,k⟩ | ⟨m,e1,e2,k⟩
 ·refine .inl ⟨e,fun n o hn e'=>?_,k⟩
  rw [List.getElem?_append_left (by rw [List.length_set];exact (List.getElem?_eq_some_iff.mp e').1),EX (Ne.symm hn)]
  exact e'
 ·exact .inr ⟨m,e1,e2,fun _ _ _ e=>e,k⟩
theorem LI (g:Gnd K G fa mg mb) {c:Cf K.h₀} {ρ:List V} {cN P:Addr} {qual:Str} {params:Arguments} {e body:Expr} {scope:Scope} {x:Str} {i:Nat} {arg:Arg} {lpos kp pf pos:Pos} {a b:Ex} {Q:AO} {X:AY}
  (hG:G.lookup ("<lambda>":Str)=some (.tabl cN P)) (hs:Ai G L.env.scope ("sorted":Str)=true) (hn:Aw e) (he:EOk K L e a) (lo:LamOk params scope x arg) (cs:CompSc L scope vs' x i) (hdef:defaultsOf params L.env=([],[])) (hcode:L.env.code=.ref cN) (hq:L.env.qual++"<lambda>"=qual)
  (hB:∀ N f cv,EOk K (R6 L scope vs' N qual f cv) body b) (R:RFun K L.up A) (F:Fr c L ρ) (q:I8 P qual lpos.line lpos.col a i b K.C ρ c.σ Q X) :
  wpAny K.M A (eval (.Call (.Name ("sorted":Str) pf) [e] [⟨some "key", .Lambda params body scope lpos,kp⟩] pos) L.env) (PV c Q) (PX c X) c.s:=by
 show wpAny K.M A (do callWith pos (← eval (.Name ("sorted":Str) pf) L.env) [] (backTo pos (starEach [e] L.env)) (backToKw pos (keywordEach [⟨some "key", .Lambda params body scope lpos,kp⟩] L.env))) _ _ c.s
 refine wpAny_bind (Bw g F hs (by decide) D7 ?_)
 refine callWith_kw ?_ (by rw [hn [] L.env];rfl) (BL hn BS L.env pos) rfl rfl
 refine Jk (.refl c) (Di hn he E1 A c ρ (fun vs σ₁=>∃ items,KeySrc σ₁ (vs.headD .none) items∧items.length<64∧TabW P qual lpos.line lpos.col σ₁ fun m σ₂=>Hn (fun y σ R=>σ[m]?=some (.code qual)∧b K.C (ρ.set i y) σ R noX) items [] σ₂ fun ks σ₃=>
   ∃ rs:List (List Int),ks=rs.map (fun r=>.tup (r.map .int))∧(∀ r∈rs,r≠[])∧∀ p:List Nat,p.Perm (List.range items.length)→p.Pairwise (A4 rs)→Q (.ref σ₃.length) (σ₃++[.list (p.map fun i=>items.getD i .none)])) X pos R.ok F (by unfold I8 at q;exact q)) fun c₁ Vs vals s₁ _ rl q₁=>?_
 refine FD q₁ fun hl1 items ks h64 tw=>?_
 refine AX (List.length_eq_one_iff.mp hl1) fun V ze0=>?_;subst ze0
 refine AF rl.one fun v' ze1 r=>?_;subst ze1
 refine kws_cons (Pl (body:=body) (params:=params) g hG hdef cs (F.step s₁) hcode hq tw.ext fun f s' y=>kws_nil ?_)
 refine y.casesOn fun c₂ m c' ctv s₂ zp00 gf fo ec ek=>?_
 have hext:=zp00.1
 have k:=zp00.2
 have r₂:Rel c₂.s.heap c₂.φ V v':=r.step s₂
 obtain ⟨n,ep,kvs,rfl,rfl,en⟩:∃ n ep kvs,V=.ref n∧items=kvs.map (fun p=>.str p.1)∧c₂.σ[n]?=some (.dict ep kvs):=by
  cases ks with
  | @dict n ep kvs hn1 en=>exact ⟨n,ep,kvs,rfl,rfl,hext n _ hn1 en⟩
 refine BQ (Cf.dict en r₂) fun d us ze1 ed D Pd hz hsm=>?_;subst ze1
 show wpAny K.M A (call (.builtin "sorted") [.ref d] [(Str.ofString "key", .ref f)]) _ _ c₂.s
 refine call_function_entry_kw kind_sorted plain_sorted entry_sorted (ksk_s1 _ _) ?_
 unfold Builtin.«sorted»
 refine wpAny_bind (m:=checkCount "sorted" 1 1 _) (wpAny_pure ?_)
 refine wpAny_bind (kdu_collect (kdl_dict (knd:=strKind K.h₀.prog K.h₀.w) (kvs:=us) (ep:=ep) hsm) R.hd D (by rw [Pd.len];exact CL hz) fun h₃ tk acc hk hi=>?_)
 have hl:acc.toList.length<64:=by rw [Array.length_toList,hi.1,Pd.len];rw [List.length_map] at h64;exact h64
 have s₃:Stp AS c₂ (c₂.keep { c₂.s with heap:=h₃,toks:=tk } hk):=Cf.keep_stp ⟨rfl,rfl⟩
 refine wpAny_bind (wpAny_newList ?_ (by rw [sizeLine_eq];exact an1 .le .v0 (.n 16777216) (.t .v0 (.n 64) .e) rfl hl))
 have s₄:Stp AS (c₂.keep { c₂.s with heap:=h₃,toks:=tk } hk) ((c₂.keep { c₂.s with heap:=h₃,toks:=tk } hk).keep { c₂.s with heap:=h₃.push (seqObj "list" acc.toList.toArray 0),toks:=tk } BG):=Cf.keep_stp ⟨rfl,rfl⟩
 have hoL:(h₃.push (seqObj "list" acc.toList.toArray 0)).get? h₃.objs.size=some (seqObj "list" acc.toList.toArray 0):=Heap.get?_push_size _ rfl
 have nD:c₂.s.heap.get? h₃.objs.size=none:=s₃.gone (Ag (h:=h₃))
 have F₄:=(((F.step s₁).step s₂).step s₃).step s₄
 refine wpAny_bind (wpAny_holding (wpAny_call_entry_kw (s:={ c₂.s with heap:=h₃.push (seqObj "list" acc.toList.toArray 0),toks:=tk }) slot_list_sort ⟨_,hoL,rfl⟩ entry_list_sort ?_ (ksk_l1 _ _)))
 rw [ksk_t1]
 refine QN (L:=L) (ρ:=ρ) (c:=(c₂.keep { c₂.s with heap:=h₃,toks:=tk } hk).keep { c₂.s with heap:=h₃.push (seqObj "list" acc.toList.toArray 0),toks:=tk } BG) (c₀:=c₂) (Vs:=kvs.map fun p=>.str p.1) (turn:=fun y σ R=>σ[m]?=some (.code qual)∧b K.C (ρ.set i y) σ R noX) (Q:=Q)
  (objs:=[(f,kla_obj "<lambda>" qual params body scope (CO L.env scope.names []) ((mg "__name__").getD .none) c' ctv)]) (s₃.trans s₄) nD (c₂.sim.out nD) F₄ (fun p hp=>?_) hoL ((NK Pd hi).step (s₃.trans s₄)) hl (fun kS t V v Rt Ft O r k=>?_) k fun s' hpv=>⟨_,rfl,wpAny_pure ⟨_,rfl,(hpv.lift (s₁.trans s₂))⟩⟩
 ·cases List.mem_singleton.mp hp
  exact ⟨BG _ _ (hk _ _ gf),fo,(fun (e:f=h₃.objs.size)=>by rw [e,nD] at gf;cases gf),nofun⟩
 ·have o1:=O.2 _ List.mem_cons_self
  refine Eo (t.sim.obj m _ k.1) fun a' ea' o vs tq e1 e2 e3=>?_
  cases (B0 O.1 ec).symm.trans ea'
  have hu:=R.units
  exact OO g lo cs R.hd R.depth (by show A.units+1+1+12*K.d<9003;exact an2 .lt (.a (.a (.a .v0 .n1) .n1) (.m 12 .v1)) (.n 9003) (.t (.a .v0 (.m 12 .v1)) (.n 9000) .e) rfl hu) R.fr Ft o1.1 ⟨c',o,vs,tq,rfl,e1,e2,e3⟩ r hB k.2
end
end Mine.Internal
namespace Mine.Internal
open PySem PySem.Calls
set_option genSizeOf false
set_option genInjectivity false
section
variable {K:Ctx} {G:GlT} {fa:Nat→Addr} {mg mb:Str→Option Value}
noncomputable def MH:Str:="Rack.names.<locals>.<lambda>"
noncomputable def Uy:(g:Option Gl)→Option { p:Addr × Addr // g=some (.tabl p.1 p.2) }
 | some (.tabl c P)=>some ⟨(c,P),rfl⟩
 | _=>none
noncomputable def Th:(p:Arguments)→Option { a:Arg // p=⟨[],[a],none,[],[],none,[]⟩ }
 | ⟨[],[a],none,[],[],none,[]⟩=>some ⟨a,rfl⟩
 | _=>none
noncomputable def JC (sc:Scope) (args:List Arg):Bool:=decide ((args.map (·.arg)).Nodup)&&(BE (args.map (·.arg)) sc).all (F1 sc)&&(sc.kind==.function)&&!sc.isCoroutine&&!sc.isGenerator
theorem LJ (h:JC sc args=true):DefOk sc (args.map (·.arg)):=by
 simp only [JC,Bool.and_eq_true,decide_eq_true_eq,Bool.not_eq_true',List.all_eq_true,beq_iff_eq] at h
 exact ⟨h.1.1.1.1,h.1.1.1.2,h.1.1.2,h.1.2,h.2⟩
abbrev VP (G:GlT) (cd:Value) (ql:Str):Prop:=(∀ c P,G.lookup ("<lambda>":Str)=some (.tabl c P)→cd=.ref c)∧ql++"<lambda>"=MH
abbrev VC (K:Ctx) (G:GlT) (body:List Stmt) (sc:Scope) (params:Arguments):Type:={ r:Fn × Bool // ∃ args,∀ cd ql,(r.2=true→VP G cd ql)→FnOk K cd ql params body sc r.1 args }
noncomputable def V5 (B:Bg K G fa mg mb) (S:SortR K G) (extra:Nat) (sc:Scope) (args:List Arg):(body:List Stmt)→Option (VC K G body sc ⟨[],args,none,[],[],none,[]⟩)
 | [.Return (some (.Call (.Name f _) [e] [⟨some kn,.Lambda lp lb lsc lpos,_⟩] _)) _]=>
  if hc:(JC sc args&&Ai G sc ("sorted":Str)&&!lsc.isCoroutine&&!lsc.isGenerator)=true then if hf:f=("sorted":Str)∧kn=("key":Str) then
   (Th lp).bind fun a=>(Uy (G.lookup ("<lambda>":Str))).bind fun t=>
    if ho:JV sc (CV (args.map (·.arg)) sc) lsc a.1.arg (BE (args.map (·.arg)) sc).length=true then
     (rE B S (BE (args.map (·.arg)) sc).length 40 sc (CV (args.map (·.arg)) sc) e).bind fun x=>
      (rE B S ((BE (args.map (·.arg)) sc).length+1) 40 lsc (CM lsc (CV (args.map (·.arg)) sc) a.1.arg (BE (args.map (·.arg)) sc).length) lb).map fun y=>
       ⟨(⟨(args.map (·.arg)).length,(BE (args.map (·.arg)) sc).length+extra,[AU (I8 t.1.2 MH lpos.line lpos.col x.1.v (BE (args.map (·.arg)) sc).length y.1.v)]⟩,true),args,fun cd ql hk=>by
        have hk:=hk rfl
        have g1:=Bool.and_eq_true_iff.mp hc
        have g2:=Bool.and_eq_true_iff.mp g1.1
        have g3:=Bool.and_eq_true_iff.mp g2.1
        obtain ⟨rfl,rfl⟩:=hf
        refine ⟨rfl,rfl,LJ g3.1,fun env up he hcd hql A c ρ Q R F q=>?_⟩
        have hA:=Agree.of_eq he
        refine wpAny_execs_cons (wpAny_Return_some (wpAny_mono (LI (vs':=CM lsc (CV (args.map (·.arg)) sc) a.1.arg (BE (args.map (·.arg)) sc).length) (x:=a.1.arg) (arg:=a.1) (cN:=t.1.1) (Q:=fun v σ=>Q (.ret v) ρ σ) (X:=fun k σ=>Q (.exc k) ρ σ) B.g t.2 (hA.free g3.2) (x.2 env (env::up) hA).star (x.2 env (env::up) hA).ok ⟨a.2,rfl,(Bool.not_eq_true' _).mp g2.2,(Bool.not_eq_true' _).mp g1.2⟩ (MK hA.cf ho) (by rw [a.2];rfl) (hcd.trans (hk.1 _ _ t.2)) (by rw [hql];exact hk.2) (fun N f' cv=>(y.2 _ _ (Agree.of_eq rfl)).ok) R F q) (fun v s z=>?_) fun e s z=>z.toE F))
        cases z with
        | mk c₁ V s₁ r q₁=>exact .ret c₁ ρ V v s₁.any (F.step s₁) r q₁⟩
    else none else none else none
 | _=>none
noncomputable def WF (B:Bg K G fa mg mb) (S:SortR K G) (extra:Nat) (body:List Stmt) (sc:Scope):(params:Arguments)→Option (VC K G body sc params)
 | ⟨[],args,none,[],[],none,[]⟩=>match V5 B S extra sc args body with
  | some r=>some r
  | none=>(rFn B S extra body sc ⟨[],args,none,[],[],none,[]⟩).map fun r=>⟨(r.1,false),let ⟨a,h⟩:=r.2;⟨a,fun cd ql _=>h cd ql⟩⟩
 | _=>none
end
end Mine.Internal
namespace Mine.Internal
open PySem PySem.Calls PySem.W PyProof.Rows
set_option genSizeOf false
set_option genInjectivity false
structure Lw where
 h₀:Bs
 excs:List Nat
 G:GlT
 fa:Nat→Addr
 mg:Str→Option Value
 mb:Str→Option Value
abbrev Lw.K (l:Lw) (P:List Fn) (d:Nat):Ctx:=⟨l.h₀,callW P d,d,l.excs⟩
structure FunAt (l:Lw) (P:List Fn) (i:Nat) (fn:Fn) (o:Obj) (fd:FuncData) (body:List Stmt):Prop where
 get:l.h₀.get? (l.fa i)=some o
 data:o.data=.func fd
 code:l.h₀.heap.CodeRec fd.code fd.qualname
 glob:fd.globals=mainGlobals
 blt:fd.builtins=builtinsNs
 bod:fd.body=.stmts body
 clo:fd.closure=[]
 dfl:fd.defaults=.none
 ok:∀ d,Bg (l.K P d) l.G l.fa l.mg l.mb→SortR (l.K P d) l.G→∃ args,FnOk (l.K P d) fd.code (fd.qualname++".<locals>.") fd.params body fd.scope fn args
structure LwOk (l:Lw) (P:List Fn):Prop where
 g:∀ d,Gnd (l.K P d) l.G l.fa l.mg l.mb
 so:∀ d,SortR (l.K P d) l.G
 fn:∀ x i fn,l.G.lookup x=some (.fn i)→P[i]?=some fn→∃ o fd body,FunAt l P i fn o fd body
theorem Po {l:Lw} {P:List Fn} {d:Nat} {c:Cf l.h₀} {Q:AO} {X:AY}:∀ {r:Result} {s:Shared},KM (l.K P d) c Q X r s→KM (l.K P (d+1)) c Q X r s
 | .ok (.ret _),_,y=>by cases (y:PV _ _ _ _) with | mk c' V st r q=>exact PV.mk (K:=l.K P (d+1)) c' V st r q
 | .ok .next,_,y=>y
 | .ok .brk,_,y=>y
 | .ok .cont,_,y=>y
 | .error _,_,y=>by cases (y:PX _ _ _ _) with | mk c' k a fp n hk st e q=>exact PX.mk (K:=l.K P (d+1)) c' k a fp n hk st e q
theorem QE (h:LwOk l P):∀ d,GY (l.K P d) l.G l.fa
 | 0=>fun _ _ _ _ _ _ _ _ _ _ _ _ _ q=>(QB q).elim
 | d+1=>fun x i hx A up c Vs vals Q X R hup r q=>by
  refine Ae (Mp q) fun fn e hl q=>?_
  refine Ck (h.fn x i fn hx e) fun o fd body fa=>?_
  refine AX (fa.ok d ⟨h.g d,QE h d⟩ (h.so d)) fun args ok=>?_
  refine codeAny_mono (SN (K:=l.K P d) (c:=c) (Q:=Q) (X:=X) rfl (fd:=fd) (body:=body) ok.params ok.ok fa.glob fa.blt fa.bod fa.clo fa.dfl hup ⟨R.hd,R.depth,R.units,R.fr⟩ (c.sim.keep _ _ fa.get) fa.data ((h.g d).nolimit.keeps c.sim.keep) (fa.code.keeps c.sim.keep) r (ok.len.symm.trans hl.symm)
   (fun env he hc hq=>ok.body env up he hc hq) q) fun _ _ y=>Po y
end Mine.Internal
namespace Mine.Internal
open PySem PySem.Calls PySem.W PyProof.Rows
set_option genSizeOf false
set_option genInjectivity false
structure FRec where
 name:Str
 params:Arguments
 body:List Stmt
 scope:Scope
noncomputable def To (d:DefRec):FRec:=⟨d.name,d.params,d.body,d.scope⟩
noncomputable def S5 (m:MethRec):FRec:=⟨AW++"."++m.name,m.params,m.body,m.scope⟩
noncomputable def DB (p:Program) (c:ClsRec):List FRec:=(recsOf p).map To++c.meths.map S5
structure XRec where
 name:Str
 k:Nat
 kids:List Nat
 mro:List Value
structure Wh where
 C:Addr
 i:Nat
 cN:Addr
 tP:Addr
 xt:List XRec
noncomputable def IJ:Nat→List FRec→GlT
 | _,[]=>[]
 | n,d::r=>(d.name,.fn n)::IJ (n+1) r
theorem Gu:∀ (ds:List FRec) (n:Nat) {x:Str} {g:Gl},(IJ n ds).lookup x=some g→∃ j d,g=.fn (n+j)∧ds[j]?=some d∧d.name=x
 | y::r,n,x,g,h=>by
  rw [IJ,List.lookup_cons] at h
  cases e:x==y.name with
  | true=>rw [e] at h;exact ⟨0,y,(Option.some.inj h).symm,rfl,(beq_iff_eq.mp e).symm⟩
  | false=>rw [e] at h;refine BC (Gu r (n+1) h) fun j d h1 h2 h3=>?_;exact ⟨j+1,d,h1.trans (by rw [Nat.add_assoc,Nat.add_comm 1]),h2,h3⟩
noncomputable def Si (x:Str):Option PyData→Option (Str × Gl)
 | some (.str z)=>some (x,.str z)
 | some (.int i)=>some (x,.int i)
 | _=>none
noncomputable def Tc (p:Program):GlT:=(litsOf p).filterMap fun x=>Si x.1 (valOf p x.1)
noncomputable def Dl (p:Program) (c:ClsRec) (wh:Wh):GlT:=IJ 0 (DB p c)++((AW,.cls wh.C wh.i)::("<lambda>", .tabl wh.cN wh.tP)::wh.xt.map fun e=>(e.name,.exc e.k e.kids))++Tc p
theorem Ei {α:Type} {x:Str}:∀ (a b:List (Str × α)) {v:α},(a++b).lookup x=some v→a.lookup x=some v∨b.lookup x=some v
 | [],_,_,h=>.inr h
 | (y,w)::a,b,v,h=>by
  rw [List.cons_append,List.lookup_cons] at h
  rw [List.lookup_cons]
  cases e:x==y with
  | true=>rw [e] at h;exact .inl h
  | false=>rw [e] at h;exact Ei a b h
theorem Nr:∀ {o:Option PyData},Si x o=some (y,g)→x=y∧((∃ z,g=.str z∧o=some (.str z))∨∃ i,g=.int i∧o=some (.int i))
 | some (.str z),h=>by cases h;exact ⟨rfl,.inl ⟨z,rfl,rfl⟩⟩
 | some (.int z),h=>by cases h;exact ⟨rfl,.inr ⟨z,rfl,rfl⟩⟩
inductive GlIs (p:Program) (c:ClsRec) (wh:Wh) (x:Str):Gl→Prop
 | fn (i:Nat) (d:FRec):(DB p c)[i]?=some d→d.name=x→GlIs p c wh x (.fn i)
 | cls:x=AW→GlIs p c wh x (.cls wh.C wh.i)
 | lam:GlIs p c wh x (.tabl wh.cN wh.tP)
 | exc (e:XRec):e∈wh.xt→e.name=x→GlIs p c wh x (.exc e.k e.kids)
 | str (z:Str):valOf p x=some (.str z)→GlIs p c wh x (.str z)
 | int (z:Int):valOf p x=some (.int z)→GlIs p c wh x (.int z)
theorem Nu (h:(Dl p c wh).lookup x=some g):GlIs p c wh x g:=by
 refine Or.elim (Ei _ _ h) (fun h=>?_) (fun h=>?_)
 ·refine Or.elim (Ei _ _ h) (fun h=>?_) (fun h=>?_)
  ·refine BC (Gu _ 0 h) fun j d ze1 h2 h3=>?_;subst ze1
   exact .fn _ d (by rw [Nat.zero_add];exact h2) h3
  ·have h:=mem_of_lookup h
   refine Or.elim (List.mem_cons.mp h) (fun e=>?_) (fun h=>?_)
   ·cases e;exact .cls rfl
   refine Or.elim (List.mem_cons.mp h) (fun e=>?_) (fun h=>?_)
   ·cases e;exact .lam
   refine AF (List.mem_map.mp h) fun e he q=>?_
   cases q;exact .exc e he rfl
 ·refine AF (List.mem_filterMap.mp (mem_of_lookup h)) fun y _ e=>?_
  obtain ⟨rfl,⟨z,rfl,q⟩ | ⟨z,rfl,q⟩⟩:=Nr e
  ·exact .str z q
  ·exact .int z q
noncomputable def JP (mg:Str→Option Value) (x:Str):Addr:=match mg x with
 | some (.ref a)=>a
 | _=>0
theorem He (e:mg x=some (.ref a)):JP mg x=a:=by unfold JP;rw [e]
noncomputable def C1 (mg mN:Str→Option Value) (p:Program) (c:ClsRec) (i:Nat):Addr:=match (recsOf p)[i]? with
 | some d=>JP mg d.name
 | none=>match c.meths[i - (recsOf p).length]? with
  | some m=>JP mN m.name
  | none=>0
theorem OU (h:(DB p c)[i]?=some d):(∃ e,(recsOf p)[i]?=some e∧d=To e)∨((recsOf p)[i]?=none∧∃ m,c.meths[i - (recsOf p).length]?=some m∧d=S5 m):=by
 unfold DB at h
 refine Or.elim (Nat.lt_or_ge i (recsOf p).length) (fun hi=>?_) (fun hi=>?_)
 ·rw [List.getElem?_append_left (by rw [List.length_map];exact hi),List.getElem?_map] at h
  refine AF (Option.map_eq_some_iff.mp h) fun e he q=>?_
  exact .inl ⟨e,he,q.symm⟩
 ·rw [List.getElem?_append_right (by rw [List.length_map];exact hi),List.length_map,List.getElem?_map] at h
  refine AF (Option.map_eq_some_iff.mp h) fun m hm q=>?_
  exact .inr ⟨List.getElem?_eq_none hi,m,hm,q.symm⟩
noncomputable def GlF (p:Program) (c:ClsRec) (wh:Wh) (x:Str):Gl→Prop
 | .fn i=>∃ d:FRec,(DB p c)[i]?=some d∧d.name=x
 | .cls C i=>C=wh.C∧i=wh.i
 | .tabl a b=>a=wh.cN∧b=wh.tP
 | .exc k ks=>∃ e:XRec,e∈wh.xt∧e.name=x∧e.k=k∧e.kids=ks
 | .str z=>valOf p x=some (.str z)
 | .int z=>valOf p x=some (.int z)
theorem CK (h:(Dl p c wh).lookup x=some g):GlF p c wh x g:=by
 cases Nu h with
 | fn i d a b=>exact ⟨d,a,b⟩
 | cls _=>exact ⟨rfl,rfl⟩
 | lam=>exact ⟨rfl,rfl⟩
 | exc e a b=>exact ⟨e,a,b,rfl,rfl⟩
 | str z a=>exact a
 | int z a=>exact a
noncomputable def U9:Value→Bool
 | .str _ _=>true
 | _=>false
noncomputable def UN:Value→Bool
 | .int _ _=>true
 | _=>false
noncomputable def Sf:Value→Bool
 | .bool _=>true
 | _=>false
noncomputable def U8:Value→Option Addr
 | .ref a=>some a
 | _=>none
noncomputable def Tv:Data→Option (Array Value)
 | .fields vs=>some vs
 | _=>none
noncomputable def Ta:Data→Option ClassData
 | .cls c=>some c
 | _=>none
noncomputable def Vd:Data→Option FuncData
 | .func f=>some f
 | _=>none
theorem GF {α:Type} {x:α} {P:Prop} (h:(none:Option α)=some x):P:=nomatch h
theorem GB {P:Prop} (h:false=true):P:=(Bool.false_ne_true h).elim
theorem RA (h:U9 v=true):∃ x t,v=.str x t:=by
 cases v with
 | str x t=>exact ⟨x,t,rfl⟩
 | _=>exact GB h
theorem Lu (h:UN v=true):∃ x t,v=.int x t:=by
 cases v with
 | int x t=>exact ⟨x,t,rfl⟩
 | _=>exact GB h
theorem PY (h:Sf v=true):∃ x,v=.bool x:=by
 cases v with
 | bool x=>exact ⟨x,rfl⟩
 | _=>exact GB h
theorem Rc (h:U8 v=some a):v=.ref a:=by
 cases v with
 | ref b=>exact congrArg Value.ref (Option.some.inj h)
 | _=>exact GF h
theorem MU (h:Tv d=some vs):d=.fields vs:=by
 cases d with
 | fields us=>exact congrArg Data.fields (Option.some.inj h)
 | _=>exact GF h
theorem Mf (h:Ta d=some c):d=.cls c:=by
 cases d with
 | cls b=>exact congrArg Data.cls (Option.some.inj h)
 | _=>exact GF h
theorem Q1 (h:Vd d=some f):d=.func f:=by
 cases d with
 | func b=>exact congrArg Data.func (Option.some.inj h)
 | _=>exact GF h
theorem B2 {α:Type} {o:Option α} {p:α→Bool} (h:o.any p=true):∃ x,o=some x∧p x=true:=by
 cases o with
 | none=>exact GB h
 | some x=>exact ⟨x,rfl,h⟩
noncomputable def Tu (h:Heap) (c P:Addr):Bool:=(h.get? c).any fun o=>decide (o.cls=.type "code")&&(Tv o.data).any fun vs=>decide (vs[11]?=some (.ref P))&&(U9 (vs.getD 18 .none)&&(UN (vs.getD 7 .none)&&(Sf (vs.getD 9 .none)&&(UN (vs.getD 10 .none)&&decide (c≠P)))))
noncomputable def UH (h:Heap) (P:Addr):Bool:=(h.get? P).any fun o=>decide (o.cls=.none)&&(o.dict.isNone&&(decide (o.slots.size=0)&&(Tv o.data).any fun vs=>decide (vs.size=0)))
noncomputable def Uv (h:Heap) (k:Addr) (mro:List Value):Bool:=(h.get? k).any fun o=>(Ta o.data).any fun cd=>decide (cd.mro=mro)
noncomputable def Qd (h:Heap) (C cN:Addr):Bool:=(h.get? C).any fun o=>(Ta o.data).any fun cd=>h.isNs cd.ns&&((h.nsMap cd.ns "names").bind U8).any fun f=>(h.get? f).any fun o=>(Vd o.data).any fun fd=>decide (fd.code=.ref cN)
noncomputable def IV (wh:Wh) (s:Shared):Bool:=decide (s.heap.nsMap mainGlobals AW=some (.ref wh.C))&&(wh.xt.all fun e=>decide (s.heap.nsMap mainGlobals e.name=some (.ref e.k))&&Uv s.heap e.k e.mro)&&Qd s.heap wh.C wh.cN&&Tu s.heap wh.cN wh.tP&&UH s.heap wh.tP
structure SeenP (wh:Wh) (mg:Str→Option Value) (h:Heap):Prop where
 cls:mg AW=some (.ref wh.C)
 exc:∀ e∈wh.xt,mg e.name=some (.ref e.k)∧∃ o cd,h.get? e.k=some o∧o.data=.cls cd∧cd.mro=e.mro
 names:∃ oC cd m f o fd,h.get? wh.C=some oC∧oC.data=.cls cd∧h.Ns cd.ns m∧m "names"=some (.ref f)∧h.get? f=some o∧o.data=.func fd∧fd.code=.ref wh.cN
 code:CodeHd h wh.cN wh.tP
 tab:h.get? wh.tP=some (tabObj #[])
theorem seen_of (h:IV wh s=true):SeenP wh (s.heap.nsMap mainGlobals) s.heap:=by
 unfold IV at h
 simp only [Bool.and_eq_true,decide_eq_true_eq,List.all_eq_true] at h
 obtain ⟨⟨⟨⟨h1,h2⟩,h3⟩,h4⟩,h5⟩:=h
 refine ⟨h1,fun e he=>⟨(h2 e he).1,?_⟩,?_,?_,?_⟩
 ·refine AF (B2 (h2 e he).2) fun o hg h=>?_
  refine AF (B2 h) fun cd hd h=>?_
  exact ⟨o,cd,hg,Mf hd,of_decide_eq_true h⟩
 ·refine AF (B2 h3) fun oC hg h=>?_
  refine AF (B2 h) fun cd hd h=>?_
  have h:=Bool.and_eq_true_iff.mp h
  refine AF (B2 h.2) fun f hf h'=>?_
  refine AF (Option.bind_eq_some_iff.mp hf) fun v hv hr=>?_
  refine AF (B2 h') fun o hfd h'=>?_
  refine AF (B2 h') fun fd he h'=>?_
  exact ⟨oC,cd,_,f,o,fd,hg,Mf hd,.of_isNs h.1,hv.trans (congrArg some (Rc hr)),hfd,Q1 he,of_decide_eq_true h'⟩
 ·refine AF (B2 h4) fun o hg h=>?_
  have h:=Bool.and_eq_true_iff.mp h
  refine AF (B2 h.2) fun vs hd h'=>?_
  have h':=Bool.and_eq_true_iff.mp h'
  have b1:=Bool.and_eq_true_iff.mp h'.2
  have b2:=Bool.and_eq_true_iff.mp b1.2
  have b3:=Bool.and_eq_true_iff.mp b2.2
  have b4:=Bool.and_eq_true_iff.mp b3.2
  have k1:=of_decide_eq_true h'.1
  refine Az (RA b1.1) fun _ _ k2=>?_
  refine Az (Lu b2.1) fun _ _ k3=>?_
  refine AX (PY b3.1) fun _ k4=>?_
  refine Az (Lu b4.1) fun _ _ k5=>?_
  exact ⟨_,vs,_,_,_,_,_,_,_,hg,of_decide_eq_true h.1,MU hd,k1,by rw [Array.getD_eq_getD_getElem?,k1];rfl,k2,k3,k4,k5,of_decide_eq_true b4.2⟩
 ·refine AF (B2 h5) fun o hg h=>?_
  have h:=Bool.and_eq_true_iff.mp h
  have b1:=Bool.and_eq_true_iff.mp h.2
  have b2:=Bool.and_eq_true_iff.mp b1.2
  refine AF (B2 b2.2) fun vs hd h'=>?_
  rw [hg]
  show some (⟨o.cls,o.dict,o.data,o.slots⟩:Obj)=_
  rw [of_decide_eq_true h.1,Option.isNone_iff_eq_none.mp b1.1,Array.eq_empty_of_size_eq_zero (of_decide_eq_true b2.1),MU hd,Array.eq_empty_of_size_eq_zero (of_decide_eq_true h')]
theorem SeenP.keeps (x:SeenP wh mg h) (k:∀ b o,h.get? b=some o→h'.get? b=some o):SeenP wh mg h' where
 cls:=x.cls
 exc e he:=by refine EF (x.exc e he) fun a o cd e1 r=>?_;exact ⟨a,o,cd,k _ _ e1,r⟩
 names:=by refine GR x.names fun oC cd m f o fd e1 e2 n e3 e4 r=>?_;exact ⟨oC,cd,m,f,o,fd,k _ _ e1,e2,n.keeps k,e3,k _ _ e4,r⟩
 code:=x.code.keeps k
 tab:=k _ _ x.tab
end Mine.Internal
namespace Mine.Internal
open PySem PySem.Calls PySem.W PyProof.Rows
set_option genSizeOf false
set_option genInjectivity false
section
variable {h:Heap} {P:Addr} (hP:h.get? P=some (tabObj #[]))
include hP
theorem hid (e:h.get? b=some o) (hd:o.data≠.fields #[]):(h.hide P).get? b=some o:=
 (Heap.hide_ne _ fun q=>by rw [q,hP] at e;cases e;exact hd rfl).trans e
theorem Fm (x:h.Ns a m):(h.hide P).Ns a m:=by refine Af x fun o es ep e d r=>?_;exact ⟨o,es,ep,hid hP e (by rw [d];nofun),d,r⟩
theorem U1 (x:h.Ns a m):a≠P:=fun q=>by
 refine Af x fun o es ep e d r=>?_
 rw [q,hP] at e;cases e;cases d
theorem SD (x:h.CodeRec v q):(h.hide P).CodeRec v q:=by
 refine GO x fun c o vs t e g d r=>?_
 refine ⟨c,o,vs,t,e,hid hP g fun z=>?_,d,r⟩
 rw [d] at z;cases z;simp at r
theorem Qv (x:OwnTail h bmB bm):OwnTail (h.hide P) bmB bm:=by
 induction x with
 | base=>exact .base
 | own e n i _ ih=>exact .own (hid hP e nofun) (Fm hP n) i ih
theorem Rj (x:ClsAt h C N mN):ClsAt (h.hide P) C N mN:=
 by refine A2 x.obj fun nm q bs sn sub col dd k0 k1 k2 k3 k5 e=>?_;exact ⟨⟨nm,q,bs,sn,sub,col,dd,k0,k1,k2,k3,k5,hid hP e nofun⟩,Fm hP x.ns⟩
theorem Tw (x:CodeHd h c P):CodeHd (h.hide P) c P:=by
 refine Fu x fun o vs file tf flags tg inF text tt e1 e2 e3 e4 r=>?_
 refine ⟨o,vs,file,tf,flags,tg,inF,text,tt,hid hP e1 fun z=>?_,e2,e3,e4,r⟩
 rw [e3] at z;cases z;simp at e4
end
theorem Q8 (m:Str):(AW++"."++m:Str).cps.toList=(AW.cps.toList++[46])++m.cps.toList:=by
 show ((AW.cps++(⟨#[46]⟩:Str).cps)++m.cps).toList=_
 rw [Array.toList_append,Array.toList_append]
theorem L5 (e:AW++"."++a=AW++"."++b):a=b:=by
 have:=congrArg (fun s:Str=>s.cps.toList) e
 simp only [Q8] at this
 have:=Array.toList_inj.mp (List.append_cancel_left this)
 cases a;cases b
 simp only at this
 rw [this]
structure TextOk (p:Program) (loose:List Str) (c:ClsRec) (wh:Wh):Prop where
 mem:c∈plainsOf p loose
 name:c.name=AW
 quiet:Ir.all (c.withCmp.quiet.contains ·)=true
 dots:((recsOf p).all fun d=>J9 d.name)=true
 init:R2 ((Dl p c wh).lookup (AW++"."++"__init__")) wh.i=true
 owns:(wh.xt.all fun e=>(ownsOf p).any fun o=>o.name==e.name&&o.bm==bmV&&o.newId=="ValueError.__new__")=true
 kids:(wh.xt.all fun e=>wh.xt.all fun e'=>e'.mro.contains (.ref e.k)==e.kids.contains e'.k)=true
 blt:(By.all fun x=>!(startupNames.contains x||loose.contains x||((recsOf p).map (·.name)).contains x||((litsOf p).map (·.1)).contains x||((clssOf p loose).map (·.name)).contains x)||((Dl p c wh).lookup x).isSome)=true
 lit:((litsOf p).all fun x=>((recsOf p).map (·.name)).contains x.1==false)=true
theorem Tf {h:Heap} {a:Addr} {m m':Str→Option Value} (x:h.Ns a m) (y:h.Ns a m'):m=m':=by
 refine CH x fun o es ep e d _ f=>?_
 refine CH y fun o' es' ep' e' d' _ f'=>?_
 cases e.symm.trans e';cases d.symm.trans d'
 funext n;rw [← f,← f']
section
variable {p q:Program} {w:World} {loose:List Str} {mean:ExcName→Option Value} {mg mb:Str→Option Value} {h:Heap} {c:ClsRec} {wh:Wh}
noncomputable abbrev Tt (p q:Program) (w:World) (c:ClsRec) (wh:Wh) (h:Heap) (mg mb mN:Str→Option Value):Lw:=⟨⟨h.hide wh.tP,p,w⟩,wh.xt.map (·.k),Dl q c wh,C1 mg mN q c,mg,mb⟩
theorem MM (T:Top q loose mean mg mb h) (A:PlainAt h c.withCmp wh.C N mN) (hd:(DB q c)[i]?=some d) (hn:c.name=AW) :
  ∃ o fd,h.get? (C1 mg mN q c i)=some o∧o.data=.func fd∧h.CodeRec fd.code fd.qualname∧fd.globals=mainGlobals∧fd.builtins=builtinsNs∧fd.body=.stmts d.body∧fd.closure=[]∧fd.defaults=.none∧fd.params=d.params∧fd.scope=d.scope ∧
   ((∃ e,(recsOf q)[i]?=some e∧d=To e∧mg e.name=some (.ref (C1 mg mN q c i)))∨∃ m∈c.meths,d=S5 m∧mN m.name=some (.ref (C1 mg mN q c i))∧o.cls=.type "function"∧fd.qualname=AW++"."++m.name):=by
 rcases OU hd with ⟨e,he,rfl⟩ | ⟨h0,m,hm,rfl⟩
 ·refine KB (T.fn e (List.mem_of_getElem? he)) fun a o pm cd doc h1 h2 h3 h4=>?_
  have ha:C1 mg mN q c i=a:=by unfold C1;rw [he];exact He h1
  rw [ha]
  exact ⟨o,_,h2,h3,h4,rfl,rfl,rfl,rfl,rfl,rfl,rfl,.inl ⟨e,he,rfl,h1⟩⟩
 ·refine JH (A.meths m (List.mem_of_getElem? hm)) fun f o pm cd doc e1 e2 e3 e4 e5=>?_
  have ha:C1 mg mN q c i=f:=by unfold C1;rw [h0];dsimp only;rw [hm];exact He e1
  rw [ha]
  exact ⟨o,_,e2,e4,e5,rfl,rfl,rfl,rfl,rfl,rfl,rfl,.inr ⟨m,List.mem_of_getElem? hm,rfl,e1,e3,by show c.name++"."++m.name=_;rw [hn]⟩⟩
theorem Pt (T:Top q loose mean mg mb h) (S:SeenP wh mg h) (A:PlainAt h c.withCmp wh.C N mN) (ok:TextOk q loose c wh):Gnd ((Tt p q w c wh h mg mb mN).K P d) (Dl q c wh) (C1 mg mN q c) mg mb where
 ns:=Fm S.tab T.g
 nsb:=Fm S.tab T.b
 nolimit:=by refine AF T.nolimit fun mc a b=>?_;exact ⟨mc,Fm S.tab a,b⟩
 fn x i hx hm:=by
  refine AF (CK hx) fun d hd he=>?_
  ·obtain ⟨o,fd,_,_,_,_,_,_,_,_,_,_,⟨e,_,rfl,h1⟩ | ⟨m,_,rfl,_⟩⟩:=MM T A hd ok.name
   ·exact he▸h1
   ·exact absurd he.symm (hm m.name)
 isfn x i hx:=by
  refine AF (CK hx) fun d hd he=>?_
  ·refine BC (MM T A hd ok.name) fun o fd h1 h2 _=>?_
   exact ⟨o,fd,hid S.tab h1 (by rw [h2];nofun),h2⟩
 str x z hx:=by
  have hv:=CK hx
  refine AF (T.const x _ hv) fun v hv r=>?_;cases r h;exact ⟨_,hv⟩
 int x z hx:=by
  have hv:=CK hx
  refine AF (T.const x _ hv) fun v hv r=>?_;cases r h;exact ⟨_,hv⟩
 blt x hx hn:=by
  have:=List.all_eq_true.mp ok.blt x hx
  rw [hn] at this
  simp only [Option.isSome_none,Bool.or_false,Bool.not_eq_true',Bool.or_eq_false_iff] at this
  obtain ⟨⟨⟨⟨a1,a2⟩,a3⟩,a4⟩,a5⟩:=this
  exact T.free x (fun m=>Bool.eq_false_iff.mp a1 (List.contains_iff_mem.mpr m)) (fun m=>Bool.eq_false_iff.mp a2 (List.contains_iff_mem.mpr m)) (fun m=>Bool.eq_false_iff.mp a3 (List.contains_iff_mem.mpr m)) (fun m=>Bool.eq_false_iff.mp a4 (List.contains_iff_mem.mpr m)) (fun m=>Bool.eq_false_iff.mp a5 (List.contains_iff_mem.mpr m))
 bv:=T.builtins
 cls C i hx:=by
  have key:∀ m j,(Dl q c wh).lookup (AW++"."++m)=some (.fn j)→K5 (h.hide wh.tP) mN m (C1 mg mN q c j):=fun m j hj=>by
   refine AF (CK hj) fun d hd he=>?_
   ·obtain ⟨o,fd,h1,h2,_,_,_,_,_,_,_,_,⟨e,he',rfl,_⟩ | ⟨m',_,rfl,h3,h4,_⟩⟩:=MM T A hd ok.name
    ·exact absurd he (E9 (List.all_eq_true.mp ok.dots e (List.mem_of_getElem? he')) m)
    ·cases L5 he
     exact ⟨h3,o,fd,hid S.tab h1 (by rw [h2];nofun),h4,h2⟩
  obtain ⟨rfl,rfl⟩:=CK hx
  exact ⟨S.cls,N,mN,Rj S.tab A.cls,fun n hn=>A.quiet n (List.contains_iff_mem.mp (List.all_eq_true.mp ok.quiet n hn)),key,key _ _ (Mm ok.init)⟩
 exc x k ks hx:=by
  refine Bd (CK hx) fun e he hn zk zs=>?_
  ·subst zk;subst zs
   refine ⟨hn▸(S.exc e he).1,List.mem_map.mpr ⟨e,he,rfl⟩,fun k' hk'=>?_⟩
   refine AF (List.mem_map.mp hk') fun e' he' ze1=>?_;subst ze1
   refine B8 (S.exc e' he') fun b1 o cd b2 b3 b4=>?_
   refine AF (List.any_eq_true.mp (List.all_eq_true.mp ok.owns e' he')) fun ow ho hq=>?_
   simp only [Bool.and_eq_true,beq_iff_eq] at hq
   obtain ⟨⟨q1,q2⟩,q3⟩:=hq
   refine AF (T.own ow ho) fun C' O _=>?_
   have O':=O.own
   cases (q1▸O'.bound).symm.trans b1
   refine C2 O'.obj fun bm N' nm qn bs hdct sn sub ab col dd k0 k1 k2 k3 k5 mN' hC hN hni TL=>?_
   rw [q3] at hC
   cases hC.symm.trans b2
   cases b3
   refine ⟨e'.mro,.mk bm N' nm qn bs hdct sn sub ab col dd k0 k1 k2 k3 k5 mN' (hid S.tab hC nofun) (Fm S.tab hN) hni (Qv S.tab (q2▸TL)) b4,?_⟩
   exact beq_iff_eq.mp (List.all_eq_true.mp (List.all_eq_true.mp ok.kids e he) e' he')
 lam cN P' hx:=by
  obtain ⟨rfl,rfl⟩:=CK hx
  ·refine ⟨Tw S.tab S.code,?_,U1 S.tab T.g⟩
   refine BQ T.bmain fun bm ob b1 b2 b3 b4 b5 b6=>?_
   refine ⟨bm,ob,b1,b2,fun z=>?_,fun z=>?_,hid S.tab b3 (by rw [b6];nofun),b4,b5,b6⟩
   ·refine Af T.g fun o' es ep e dd _=>?_
    rw [z,e] at b3;cases b3;rw [b6] at dd;cases dd
   ·rw [z,S.tab] at b3;cases b3;cases b6
abbrev Reads (G:GlT) (ds:List FRec) (extra:Nat) (P:List (Fn × Bool)):Prop:=∀ (K:Ctx) (fa:Nat→Addr) (mg mb:Str→Option Value) (B:Bg K G fa mg mb) (S:SortR K G),F5 (fun d:FRec=>(WF B S extra d.body d.scope d.params).map Subtype.val) ds=some P
theorem QC {α β:Type} {f:α→Option β} (as:List α):∀ {bs:List β} {i:Nat} {b:β},F5 f as=some bs→bs[i]?=some b→∃ a,as[i]?=some a∧f a=some b:=by
 induction as with
 | nil=>intro bs i b h hb;rw [← Option.some.inj h] at hb;exact absurd hb.symm (Option.some_ne_none b)
 | cons a as ih=>
  intro bs i b h hb
  refine AF (Option.bind_eq_some_iff.mp h) fun y hy h=>?_
  refine AF (Option.map_eq_some_iff.mp h) fun ys hys ze1=>?_
  rw [← ze1] at hb
  cases i with
  | zero=>exact ⟨a,rfl,Option.some.inj hb▸hy⟩
  | succ i=>exact ih hys hb
theorem VE {N:Addr} {mN:Str→Option Value} {P:List (Fn × Bool)} {extra:Nat} (T:Top q loose mean mg mb h) (S:SeenP wh mg h) (A:PlainAt h c.withCmp wh.C N mN) (ok:TextOk q loose c wh) (hP:Reads (Dl q c wh) (DB q c) extra P)
  (hk:∀ (i:Nat) (r:Fn × Bool),P[i]?=some r→r.2=true→∃ d:FRec,(DB q c)[i]?=some d∧d.name=AW++"."++"names"):LwOk (Tt p q w c wh h mg mb mN) (P.map (·.1)) where
 g d:=Pt T S A ok
 so d:=R7 (Pt (P:=P.map (·.1)) (d:=d) T S A ok)
 fn x i fn hx hi:=by
  rw [List.getElem?_map] at hi
  refine AF (Option.map_eq_some_iff.mp hi) fun r hr ze1=>?_;subst ze1
  refine AF (CK hx) fun d hd he=>?_
  refine F4 (MM T A hd ok.name) fun o fd h1 h2 h3 h4 h5 h6 h7 h8 h9 h10 alt=>?_
  refine ⟨o,fd,d.body,hid S.tab h1 (by rw [h2];nofun),h2,SD S.tab h3,h4,h5,h6,h7,h8,fun n B S'=>?_⟩
  refine AF (QC _ (hP _ _ _ _ B S') hr) fun d' hd' e=>?_
  cases hd.symm.trans hd'
  refine AF (Option.map_eq_some_iff.mp e) fun z _ e=>?_
  refine AX (z.2) fun args hz=>?_
  rw [h9,h10]
  refine ⟨args,e▸hz _ _ fun hb=>?_⟩
  refine AF (hk i r hr (e▸hb)) fun d'' hd'' hn=>?_
  cases hd.symm.trans hd''
  rcases alt with ⟨e',he',rfl,_⟩ | ⟨m,_,rfl,hm,_,hq⟩
  ·exact absurd hn (E9 (List.all_eq_true.mp ok.dots e' (List.mem_of_getElem? he')) _)
  ·have hmn:m.name="names":=L5 hn
   refine ⟨fun c' P' hl=>?_,by rw [hq,hmn];decide +kernel⟩
   obtain ⟨rfl,rfl⟩:=CK hl
   ·refine Bn S.names fun oC cd m' f o' fd' g1 g2 g3 g4 g5 g6 g7=>?_
    refine A2 A.cls.obj fun nm q' bs sn sub col dd k0 k1 k2 k3 k5 gC=>?_
    cases gC.symm.trans g1
    cases g2
    cases Tf g3 A.cls.ns
    rw [hmn] at hm
    cases hm.symm.trans g4
    cases h1.symm.trans g5
    cases h2.symm.trans g6
    exact g7
end
theorem Jq:∀ {vs:List Value} {xs:List Int},WellAll P h vs (ofPys (xs.map PyData.int))→IntsAre vs xs
 | _,[],x=>by rw [List.map_nil,ofPys] at x;cases x;exact .nil
 | _,i::xs,x=>by
  rw [List.map_cons,ofPys,ofPy] at x
  cases x with
  | cons a b=>cases a;exact .cons i _ (Jq b)
theorem well_ints (x:Well P h (.ref l) (ofPy (.list (xs.map PyData.int)))):∃ vs,h.get? l=some { cls:=.type "list", data:=.seq vs.toArray }∧IntsAre vs xs:=by
 rw [ofPy] at x
 cases x with
 | list e a=>exact ⟨_,e,Jq a⟩
section
variable {p q:Program} {w:World} {loose:List Str} {mean:ExcName→Option Value} {mg mb:Str→Option Value} {c:ClsRec} {wh:Wh}
noncomputable def VU {s:Shared} {l:Addr} {vs:List Value} {xs:List Int} {P:Addr} (hl:s.heap.get? l=some { cls:=.type "list", data:=.seq vs.toArray }) (hv:IntsAre vs xs) (hz:xs.length≤63) (hP:s.heap.get? P=some (tabObj #[])):Cf ⟨s.heap.hide P,p,w⟩:=
 ⟨s,[l,P],[.list (xs.map .int),.tab P],fun _ _ e=>Heap.of_hide e,rfl,List.nodup_cons.mpr ⟨(fun m=>by rw [List.mem_singleton.mp m,hP] at hl;cases hl),List.nodup_cons.mpr ⟨List.not_mem_nil,List.nodup_nil⟩⟩,fun n a e=>match n,e with
  | 0,e=>Option.some.inj e▸Heap.hide_self _ _,fun n o e=>match n,e with
  | 0,e=>⟨l,rfl,Option.some.inj e▸⟨vs.toArray,0,hl,Fj hv,by rw [List.length_map];exact Nat.le_trans hz (by decide)⟩⟩
  | 1,e=>⟨P,rfl,Option.some.inj e▸⟨rfl,hP⟩⟩⟩
theorem law_go
  (T:Top q loose mean mg mb s₁.heap) (TE:TopE q loose mg s₁.heap) (S:SeenP wh mg s₁.heap) (ok:TextOk q loose c wh) (hP:Reads (Dl q c wh) (DB q c) extra P) (hk:∀ (i:Nat) (r:Fn × Bool),P[i]?=some r→r.2=true→∃ d:FRec,(DB q c)[i]?=some d∧d.name=AW++"."++"names")
  (hi:(Dl q c wh).lookup name=some (.fn i)) (hdot:J9 name=true) (hd:d≤100) (hmg:mg name=some (.ref a)) (hg:s₁.gens=#[])
  (hl:s₁.heap.get? l=some { cls:=.type "list", data:=.seq vs.toArray }) (hv:IntsAre vs xs) (hz:xs.length≤63)
  (hr:∀ cls,cl.raises args cls=false) (hpost:cl.post args (.bool true) args=true)
  (plain:callW (P.map (·.1)) d i [.ref 0] [.list (xs.map .int),.tab wh.tP] (fun v σ=>v=.bool true∧∃ o,σ[1]?=some o∧(o=.tab wh.tP∨∃ ln col m,o=.row wh.tP ln col m)) (fun _ _=>False)) :
  codeAny (model p w) callerA (.call (.ref a) ⟨[.ref l],[]⟩) (GoodWG cl cw mean args s₁) s₁:=by
 refine EK (TE c ok.mem) fun C N mN hC A=>?_
 cases (ok.name▸hC).symm.trans S.cls
 have lo:=VE (p:=p) (w:=w) T S A ok hP hk
 have g:=lo.g d
 cases hmg.symm.trans (g.fn name i hi (E9 hdot))
 have R:RCall ((Tt p q w c wh s₁.heap mg mb mN).K (P.map (·.1)) d) [] callerA:=⟨rfl,by show 1+claimMargin+3*d<903;unfold claimMargin;exact an1 .lt (.a (.a .n1 (.n 300)) (.m 3 .v0)) (.n 903) (.w 3 (.l .v0 (.n 100) .e)) rfl hd,by show 4+12*d<9009;exact an1 .lt (.a (.n 4) (.m 12 .v0)) (.n 9009) (.w 12 (.l .v0 (.n 100) .e)) rfl hd,rfl⟩
 refine codeAny_mono (QE lo d name i hi callerA [] (VU hl hv hz S.tab) [.ref 0] [.ref l] _ _ R (fun _ m=>(nomatch m)) ⟨⟨l,rfl,rfl⟩,trivial⟩ plain) fun r s' y=>?_
 match r,y with
 | .ok (.ret v),y=>
  obtain ⟨c',V,st,r,rfl,o,ho,hrow⟩:=(y:PV _ _ _ _)
  cases r
  have eP:c'.φ[1]?=some wh.tP:=B0 st.pre rfl
  have hus:∃ us,c'.s.heap.get? wh.tP=some (tabObj us):=by
   refine AF (c'.sim.obj 1 o ho) fun a' ea ra=>?_
   cases eP.symm.trans ea
   rcases hrow with rfl | ⟨ln,col,m,rfl⟩
   ·exact ⟨_,ra.2⟩
   ·refine CR ra fun _ _ _ e=>?_;exact ⟨_,e⟩
  refine AX hus fun us hus=>?_
  have kp:∀ b o,b≠wh.tP→s₁.heap.get? b=some o→c'.s.heap.get? b=some o:=fun b o hb e=>c'.sim.keep b o ((Heap.hide_ne _ hb).trans e)
  refine ⟨.inl ⟨.bool true,.bool true,[],rfl,hr,.bool true,hpost,fun _=>⟨List.nodup_nil,fun _ h=>nomatch h⟩⟩,⟨fun b o e=>?_,fun b o e=>?_⟩,st.only.1,.of_eq (st.only.2.trans hg)⟩
  ·by_cases hb:b=wh.tP
   ·subst hb
    rw [S.tab] at e;cases e
    exact .inr (.inl ⟨(S.code.tab S.tab).isCodeTable,rfl,#[],us,rfl,by rw [hus];simp⟩)
   ·exact .inl (kp b o hb e)
  ·by_cases hb:b=wh.tP
   ·subst hb;exact ⟨_,hus⟩
   ·exact ⟨o,kp b o hb e⟩
 | .error e,y=>exact (PX.no (fun _ _ f=>f) (y:PX _ _ _ _)).elim
end
end Mine.Internal
namespace Mine.Internal
open PySem PySem.Calls PySem.W PyProof.Rows
noncomputable def UZ (p q:Program) (Xt:Shared→Bool) (N:Nat) (w:World) (os:OsState):=match (boot_heap w.params).isNs mainGlobals with
 | true=>(F8 p w 11 ((boot_heap w.params).nsMap mainGlobals "__annotations__") N ⟨Gs w.params,11,{},Array.mk [],boot_drawn,boot_toks,os⟩ (topStub p)).bind fun s₁=>
   match staticsOk (PySem.W.Fast.tw5923862056798008813 p.main.body) (boot_heap w.params) s₁.abs.heap&&namesBound p s₁.abs.heap&&gensDone s₁.abs&&laidKept (boot_heap w.params) s₁.abs.heap with
   | true=>some (PySem.W.Fast.tw4187177175401517315 q [] (PySem.W.Fast.tw5923862056798008813 p.main.body) Xt true s₁.abs)
   | false=>none
 | false=>none
theorem TG (e:opening p=plainProg p.main.scope.names) (hN:Nat.ble 600 N=true) (f:∀ s,fenceModules? p s=some s)
  (run:∀ w os,UZ p q Xt N w os=some (openGood q [])):LeftO p q [] Xt (fun _=>()) (fun _=>()) N:=fun w=>by
 obtain ⟨⟨h,gs,d,k,os⟩,e1,e2⟩:=Option.map_eq_some_iff.mp (boot_open e hN f w)
 obtain ⟨rfl,rfl,rfl,rfl⟩:h=boot_heap w.params∧gs=Array.mk []∧d=boot_drawn∧k=boot_toks:=by simpa using e2
 unfold openEnds
 rw [e1]
 have r:=run w os
 unfold UZ at r
 rw [← PySem.W.Fast.te5923862056798008813,← PySem.W.Fast.te4187177175401517315] at r
 show (topFrom treeTable p w N _).map _=_
 unfold topFrom
 cases h1:(boot_heap w.params).isNs mainGlobals with
 | false=>rw [h1] at r;cases r
 | true=>
  rw [h1] at r
  dsimp only at r ⊢
  obtain ⟨s₁,r1,r2⟩:=Option.bind_eq_some_iff.mp r
  have r1:=G4 r1
  show ((topRun treeTable p w (boot_heap w.params).objs.size ((boot_heap w.params).nsMap mainGlobals (Str.ofString "__annotations__")) N ⟨boot_heap w.params,Array.mk [],boot_drawn,boot_toks,os⟩ (topStub p)).bind _).map _=_
  have r1':topRun treeTable p w (boot_heap w.params).objs.size ((boot_heap w.params).nsMap mainGlobals (Str.ofString "__annotations__")) N ⟨boot_heap w.params,Array.mk [],boot_drawn,boot_toks,os⟩ (topStub p)=some s₁.abs:=by
   rw [show (⟨boot_heap w.params,Array.mk [],boot_drawn,boot_toks,os⟩:Shared)=SharedT.abs ⟨Gs w.params,11,{},Array.mk [],boot_drawn,boot_toks,os⟩ from congrArg (fun h=>(⟨h,Array.mk [],boot_drawn,boot_toks,os⟩:Shared)) (Kg w.params)]
   exact r1
  rw [r1']
  cases h2:(staticsOk (importedModules p.main.body) (boot_heap w.params) s₁.abs.heap&&namesBound p s₁.abs.heap&&gensDone s₁.abs&&laidKept (boot_heap w.params) s₁.abs.heap) with
  | false=>rw [h2] at r2;cases r2
  | true=>
   rw [h2] at r2
   show ((match (staticsOk (importedModules p.main.body) (boot_heap w.params) s₁.abs.heap&&namesBound p s₁.abs.heap&&gensDone s₁.abs&&laidKept (boot_heap w.params) s₁.abs.heap) with | true=>some s₁.abs | false=>none):Option Shared).map _=_
   rw [h2]
   exact congrArg (fun x=>some (x,())) (Option.some.inj r2)
end Mine.Internal
namespace Mine.Internal
open PySem
set_option genSizeOf false
set_option genInjectivity false
noncomputable def def?:V→Bool
 | .undef=>false
 | _=>true
section
variable {C:B1} {ρ:List V} {σ:AD} {P:AO} {X:AY} {i:Nat}
theorem Fw (h:ρ[i]?=some v) (hd:def? v=true) (q:P v σ):AA i C ρ σ P X:=by
 unfold AA;rw [h]
 cases v with
 | undef=>cases hd
 | _=>exact q
end
section
variable {σ:AD} {K:Bool→Prop} {x y:Int} {n:Nat}
theorem Gc {x y:Str} (hx:PyData.strOk x=true) (hy:PyData.strOk y=true) (q:K (x==y)):CmpK σ K .Eq (.str x) (.str y):=.eq (x:=.str x) (y:=.str y) rfl rfl hx hy q
theorem JG {a b:V} {x:PyData} (ha:toD σ 6 a=some x) (hb:toD σ 6 b=some x) (hc:x.canLay0=true) (q:K false):CmpK σ K .NotEq a b:=.ne ha hb hc hc (by rw [PySem.SeqAt.eqv_refl x hc];exact q)
variable {Q:AO}
theorem BZ (h:-1000000000000000≤x) (h':x≤1000000000000000):Ay x=true:=Bool.and_eq_true_iff.mpr ⟨decide_eq_true (Int.le_trans (by decide) h),decide_eq_true (Int.lt_of_le_of_lt h' (by decide))⟩
theorem Tm (h:Ay (OfNat.ofNat k)=true) (q:Q (.int (x*OfNat.ofNat k)) σ):BinK σ Q .mul (.int x) (.int (OfNat.ofNat k)):=.mul (.inr h) q
theorem Va (h:(-1000000000000000≤x∧x≤1000000000000000)∨(-1000000000000000≤y∧y≤1000000000000000)) (q:Q (.int (x*y)) σ):BinK σ Q .mul (.int x) (.int y):=.mul (h.imp (fun h=>BZ h.1 h.2) fun h=>BZ h.1 h.2) q
theorem KY (h:0<y) (q:Q (.int (x % y)) σ):BinK σ Q .mod (.int x) (.int y):=.mod (Int.ne_of_gt h) (Int.fmod_eq_emod_of_nonneg x (Int.le_of_lt h)▸q)
theorem Ue (h:decide ((0:Int)<OfNat.ofNat k)=true) (q:Q (.int (x % OfNat.ofNat k)) σ):BinK σ Q .mod (.int x) (.int (OfNat.ofNat k)):=KY (of_decide_eq_true h) q
theorem Se (h:0<y∧y≤1000000000000000) (q:Q (.int (x / y)) σ):BinK σ Q .floordiv (.int x) (.int y):=
 .div (Int.ne_of_gt h.1) (BZ (Int.le_trans (by decide) (Int.le_of_lt h.1)) h.2) (Int.fdiv_eq_ediv_of_nonneg x (Int.le_of_lt h.1)▸q)
theorem TJ (h:(decide ((0:Int)<OfNat.ofNat k)&&decide ((OfNat.ofNat k:Int)≤1000000000000000))=true) (q:Q (.int (x / OfNat.ofNat k)) σ):BinK σ Q .floordiv (.int x) (.int (OfNat.ofNat k)):=
 have h:=Bool.and_eq_true_iff.mp h
 Se ⟨of_decide_eq_true h.1,of_decide_eq_true h.2⟩ q
theorem Ml (h:0≤k) (h':k.toNat<m):Idx k m k.toNat:=.inl ⟨(Int.toNat_of_nonneg h).symm,h'⟩
theorem An (e:σ[n]?=some (.list vs)) (h:0≤k) (h':vs[k.toNat]?=some v) (q:Q v σ):SubK σ Q (.ref n) (.int k):=.list e (Ml h (List.getElem?_eq_some_iff.mp h').1) h' q
theorem E4 (e:σ[n]?=some (.list vs)) (h:decide (0≤k)=true) (h':vs[k.toNat]?=some v) (q:Q v σ):SubK σ Q (.ref n) (.int k):=An e (of_decide_eq_true h) h' q
theorem VQ (q:Q (.int (max x y)) σ):PrimK σ Q .max [.int x,.int y]:=.max (by
 by_cases h:y > x
 ·rw [if_pos h];rw [Int.max_eq_right (Int.le_of_lt h)] at q;exact q
 ·rw [if_neg h];rw [Int.max_eq_left (Int.not_lt.mp h)] at q;exact q)
theorem FS (e:σ[n]?=some (.list vs)) (q:B):isList σ (.ref n)∧B:=⟨⟨n,vs,rfl,e⟩,q⟩
theorem CB (e:σ[n]?=some (.list vs)) (hn:n≠0) (hz:vs.length<1000000) (q:Q .none (σ.set n (.list (vs++[v])))):AppK σ Q v (.ref n):=.mk e (Nat.lt_trans hz (by decide)) hn q
variable {A B:Prop}
theorem Jl (x:b=true→A) (y:b=false→B):brW A B b:=by
 cases b with
 | true=>exact x rfl
 | false=>exact y rfl
theorem Aj [Decidable c] (a:c→A) (b:¬ c→B):brW A B (decide c):=Jl (fun h=>a (of_decide_eq_true h)) fun h=>b (of_decide_eq_false h)
theorem Ov [Decidable c] (a:¬ c→A) (b:c→B):brW B A (decide c):=Aj b a
theorem FK [Decidable c] (a:¬ c→A) (b:c→B):brW A B (!decide c):=by
 by_cases h:c
 ·rw [decide_eq_true h];exact b h
 ·rw [decide_eq_false h];exact a h
end
section
variable {σ:AD} {Q:AO} {K:Bool→Prop}
theorem V7 (h:def? v=true) (q:p):dfK p v:=by
 cases v with
 | undef=>cases h
 | _=>exact q
end
theorem H5 (n:Nat) (I:List V→AD→Prop)
  (h:∀ R:List V→AD→Prop,(∀ ρ' σ',I ρ' σ'→R ρ' σ')→BP (l.take n) C ρ σ (KV R Q))
  (rest:∀ ρ' σ',I ρ' σ'→BP (l.drop n) C ρ' σ' Q):BP l C ρ σ Q:=by
 have key:∀ (n:Nat) (l:List Sx) (ρ:List V) (σ:AD),BP (l.take n) C ρ σ (KV (fun ρ' σ'=>BP (l.drop n) C ρ' σ' Q) Q)=BP l C ρ σ Q:=by
  intro n
  induction n with
  | zero=>intro l ρ σ;rfl
  | succ n ih=>
   intro l ρ σ
   cases l with
   | nil=>rfl
   | cons s ss=>
    refine congrArg (s C ρ σ) (funext fun fl=>funext fun ρ₁=>funext fun σ₁=>?_)
    cases fl <;> first | rfl | exact ih ss ρ₁ σ₁
 exact key n l ρ σ▸h _ rest
noncomputable def Er (xs:List Int) (k:Int):Int:=xs.getD k.toNat 0
end Mine.Internal
namespace Mine.Internal
open PySem
section
variable {turn:V→List V→AD→Br→Prop} {same:AD→Prop} {Q:Br}
theorem Dz (I:Nat→List V→AD→Prop):∀ (items:List V) (k:Nat) (ρ:List V) (σ:AD),
  (∀ i v ρ σ (R:List V→AD→Prop),items[i]?=some v→I (k+i) ρ σ→(∀ ρ' σ',same σ'→I (k+i+1) ρ' σ'→R ρ' σ')→turn v ρ σ (C9 R Q)) →
  (∀ ρ σ,I (k+items.length) ρ σ→Q .next ρ σ)→I k ρ σ→Fk turn same items ρ σ Q
 | [],k,ρ,σ,_,fin,h0=>fin ρ σ h0
 | v::vs,k,ρ,σ,step,fin,h0=>step 0 v ρ σ _ rfl h0 fun ρ' σ' s i=>⟨s,Dz I vs (k+1) ρ' σ' (fun j v ρ σ K hv hI h1=>by
   have e:k+1+j=k+(j+1):=by rw [Nat.add_assoc,Nat.add_comm 1]
   rw [e] at hI h1
   exact step (j+1) v ρ σ K hv hI h1) (fun ρ σ h=>fin ρ σ (by rw [List.length_cons,Nat.add_comm vs.length,← Nat.add_assoc];exact h)) i⟩
theorem Fh:∀ (n:Nat) (a:Int) (i:Nat) (v:V),(Cv a n)[i]?=some v→v=.int (a+i)∧i<n
 | n+1,a,0,v,h=>⟨by rw [← Option.some.inj h];exact congrArg V.int (Int.add_zero a).symm,Nat.succ_pos n⟩
 | n+1,a,i+1,v,h=>let ⟨h1,h2⟩:=Fh n (a+1) i v h;⟨h1.trans (congrArg V.int (by exact Int.le_antisymm (ai3 .le (.a (.a .v0 .n1) .v1) (.a .v0 .v2) (.p .v2 (.a .v1 .n1) .e) rfl (Int.natCast_add _ _)) (ai3 .le (.a .v0 .v1) (.a (.a .v0 .n1) .v2) (.q .v1 (.a .v2 .n1) .e) rfl (Int.natCast_add _ _)))),Nat.succ_lt_succ h2⟩
theorem Cm:∀ (n:Nat) (a:Int),(Cv a n).length=n
 | 0,_=>rfl
 | n+1,a=>congrArg (·+1) (Cm n _)
theorem KJ:∀ (vs:List V) (a:Int) (i:Nat) (u:V),(G5 a vs)[i]?=some u→∃ v,vs[i]?=some v∧u=.tup [.int (a+i),v]
 | v::vs,a,0,u,h=>⟨v,rfl,by rw [← Option.some.inj h,show a+((0:Nat):Int)=a from Int.add_zero a]⟩
 | v::vs,a,i+1,u,h=>let ⟨w,h1,h2⟩:=KJ vs (a+1) i u h;⟨w,h1,h2.trans (by rw [show a+1+(i:Int)=a+((i+1:Nat):Int) by exact Int.le_antisymm (ai3 .le (.a (.a .v0 .n1) .v1) (.a .v0 .v2) (.p .v2 (.a .v1 .n1) .e) rfl (Int.natCast_add _ _)) (ai3 .le (.a .v0 .v1) (.a (.a .v0 .n1) .v2) (.q .v1 (.a .v2 .n1) .e) rfl (Int.natCast_add _ _))])⟩
theorem Hq:∀ (vs:List V) (a:Int),(G5 a vs).length=vs.length
 | [],_=>rfl
 | _::vs,_=>congrArg (·+1) (Hq vs _)
variable {ρ:List V} {σ:AD}
theorem OJ (hb:-1000000≤b):-(2 ^ 62)≤b:=Int.le_trans (by decide) hb
theorem E5 (I:Nat→List V→AD→Prop) (hb:-1000000≤b∧b≤1000000) (h0:I 0 ρ σ)
  (step:∀ (i:Nat) ρ σ (R:List V→AD→Prop),(i:Int)<b→I i ρ σ→(∀ ρ' σ',I (i+1) ρ' σ'→R ρ' σ')→turn (.int i) ρ σ (C9 R Q))
  (fin:∀ ρ σ,I b.toNat ρ σ→Q .next ρ σ):∃ items same,SrcK σ .range [.int b] items same∧Fk turn same items ρ σ Q:=
 ⟨_,_,.range (OJ hb.1) hb.2,Dz I _ 0 ρ σ (fun i v ρ σ K hv hI h1=>by
  obtain ⟨rfl,hi⟩:=Fh _ _ _ _ hv
  rw [Nat.zero_add] at hI h1
  rw [Int.zero_add]
  exact step i ρ σ K (Int.lt_toNat.mp hi) hI fun ρ' σ' h=>h1 ρ' σ' trivial h) (fun ρ σ h=>fin ρ σ (by rw [Cm,Nat.zero_add] at h;exact h)) h0⟩
theorem BH (I:Nat→List V→AD→Prop) (e:σ[n]?=some (.list vs)) (h0:I 0 ρ σ)
  (step:∀ (i:Nat) v ρ σ (R:List V→AD→Prop),vs[i]?=some v→I i ρ σ→(∀ ρ' σ',σ'[n]?=some (.list vs)→I (i+1) ρ' σ'→R ρ' σ')→turn v ρ σ (C9 R Q))
  (fin:∀ ρ σ,I vs.length ρ σ→Q .next ρ σ):∃ items same,SrcK σ .plain [.ref n] items same∧Fk turn same items ρ σ Q:=
 ⟨_,_,.list e,Dz I _ 0 ρ σ (fun i v ρ σ K hv hI h1=>by rw [Nat.zero_add] at hI h1;exact step i v ρ σ K hv hI h1) (fun ρ σ h=>fin ρ σ (by rw [Nat.zero_add] at h;exact h)) h0⟩
theorem Ud (I:Nat→List V→AD→Prop) (e:σ[n]?=some (.list vs)) (h0:I 0 ρ σ)
  (step:∀ (i:Nat) v ρ σ (R:List V→AD→Prop),vs[i]?=some v→I i ρ σ→(∀ ρ' σ',σ'[n]?=some (.list vs)→I (i+1) ρ' σ'→R ρ' σ')→turn (.tup [.int i,v]) ρ σ (C9 R Q))
  (fin:∀ ρ σ,I vs.length ρ σ→Q .next ρ σ):∃ items same,SrcK σ .enum [.ref n] items same∧Fk turn same items ρ σ Q:=
 ⟨_,_,.enum e,Dz I _ 0 ρ σ (fun i v ρ σ K hv hI h1=>by
  refine AF (KJ _ _ _ _ hv) fun u hu ze1=>?_;subst ze1
  rw [Nat.zero_add] at hI h1
  rw [Int.zero_add]
  exact step i u ρ σ K hu hI h1) (fun ρ σ h=>fin ρ σ (by rw [Hq,Nat.zero_add] at h;exact h)) h0⟩
end
section
variable {turn:V→AD→(Option V→AD→Prop)→Prop} {same:AD→Prop} {Q:List V→AD→Prop}
theorem FZ (I:Nat→List V→AD→Prop):∀ (items:List V) (k:Nat) (acc:List V) (σ:AD),
  (∀ i v acc σ (K:Option V→AD→Prop),items[i]?=some v→I (k+i) acc σ→(∀ r σ',same σ'→I (k+i+1) (acc++r.toList) σ'→K r σ')→turn v σ K) →
  (∀ acc σ,I (k+items.length) acc σ→Q acc σ)→I k acc σ→Bi turn same items acc σ Q
 | [],k,acc,σ,_,fin,h0=>fin acc σ h0
 | v::vs,k,acc,σ,step,fin,h0=>step 0 v acc σ _ rfl h0 fun r σ' s i=>⟨s,FZ I vs (k+1) _ σ' (fun j v acc σ K hv hI h1=>by
   have e:k+1+j=k+(j+1):=by rw [Nat.add_assoc,Nat.add_comm 1]
   rw [e] at hI h1
   exact step (j+1) v acc σ K hv hI h1) (fun acc σ h=>fin acc σ (by rw [List.length_cons,Nat.add_comm vs.length,← Nat.add_assoc];exact h)) i⟩
theorem EC {α:Type} {σ:AD} {g:α→V} (f:α→Option V) (hs:same σ):∀ (l:List α) (acc:List V),(∀ x∈l,∀ K:Option V→AD→Prop,K (f x) σ→turn (g x) σ K)→Q (acc++l.filterMap f) σ→Bi turn same (l.map g) acc σ Q
 | [],acc,_,q=>by rw [List.filterMap_nil,List.append_nil] at q;exact q
 | v::vs,acc,h,q=>h v List.mem_cons_self _ ⟨hs,EC f hs vs _ (fun u hu=>h u (List.mem_cons_of_mem _ hu)) (by
  rw [List.append_assoc]
  cases hv:f v with
  | none=>rw [List.filterMap_cons_none hv] at q;exact q
  | some x=>rw [List.filterMap_cons_some hv] at q;exact q)⟩
variable {σ:AD}
theorem LK {α:Type} {n:Nat} {l:List α} {g:α→V} (f:α→Option V) (e:σ[n]?=some (.list (l.map g))) (hz:l.length≤1000000) (h:∀ x∈l,∀ K:Option V→AD→Prop,K (f x) σ→turn (g x) σ K)
  (q:Q (l.filterMap f) σ):∃ items same,SrcK σ .plain [.ref n] items same∧items.length≤Ab∧Bi turn same items [] σ Q:=
 ⟨_,_,.list e,by rw [List.length_map];exact hz,EC f e l [] h q⟩
theorem H2:∀ (n:Nat) (a:Nat),Cv a n=(List.range' a n).map fun k:Nat=>V.int k
 | 0,_=>rfl
 | n+1,a=>congrArg (V.int a::·) (H2 n (a+1))
theorem R5 (f:Nat→Option V) (hb:-1000000≤b∧b≤1000000) (h:∀ k:Nat,(k:Int)<b→∀ K:Option V→AD→Prop,K (f k) σ→turn (.int k) σ K)
  (q:Q ((List.range b.toNat).filterMap f) σ):∃ items same,SrcK σ .range [.int b] items same∧items.length≤Ab∧Bi turn same items [] σ Q:=
 ⟨_,_,.range (OJ hb.1) hb.2,by rw [Cm];exact Int.toNat_le.mpr hb.2,by
  rw [show Cv 0 b.toNat=(List.range b.toNat).map fun k:Nat=>V.int k by rw [List.range_eq_range'];exact H2 _ 0]
  exact EC f trivial _ [] (fun k hk=>h k (Int.lt_toNat.mp (List.mem_range.mp hk))) q⟩
end
theorem AC {σ τ:AD} {n:Nat} {o:O} (h:σ[n]?=some o):(σ++τ)[n]?=some o:=by
 rw [List.getElem?_append_left (List.getElem?_eq_some_iff.mp h).1];exact h
theorem AN {σ σ':AD} (p:σ<+:σ') {n:Nat} {o:O} (h:σ[n]?=some o):σ'[n]?=some o:=let ⟨_,e⟩:=p;e▸AC h
theorem AH:σ<+:σ++τ:=List.prefix_append _ _
theorem AG:(σ++[o])[σ.length]?=some o:=List.getElem?_concat_length
theorem AI {σ:AD} {n m:Nat} {o x:O} (hn:n≠m) (h:σ[m]?=some o):(σ.set n x)[m]?=some o:=by
 rw [List.getElem?_set_ne hn];exact h
theorem AZ {σ:AD} {n:Nat} {o x:O} (h:σ[n]?=some o):(σ.set n x)[n]?=some x:=by
 rw [List.getElem?_set_self (List.getElem?_eq_some_iff.mp h).1]
theorem KF {α:Type} {f:V→Option PyData} {g:α→V} {dat:α→PyData}:∀ l:List α,(∀ x∈l,f (g x)=some (dat x))→F5 f (l.map g)=some (l.map dat)
 | [],_=>rfl
 | r::rs,h=>by rw [List.map_cons,F5,KF rs fun x hx=>h x (List.mem_cons_of_mem _ hx),h r List.mem_cons_self];rfl
theorem JL {α:Type} {σ:AD} {n m:Nat} {l:List α} {g:α→V} {dat:α→PyData} (e:σ[n]?=some (.list (l.map g))) (h:∀ x∈l,toD σ m (g x)=some (dat x)):toD σ (m+1) (.ref n)=some (.list (l.map dat)):=by
 show QL (toD σ m) σ[n]?=_
 rw [e]
 show Option.map _ (F5 (toD σ m) (l.map g))=_
 rw [KF l h];rfl
theorem G1 {α:Type} {dat:α→PyData}:∀ l:List α,(∀ x∈l,(dat x).canLay0=true)→PyData.canLayAll0 (l.map dat)=true
 | [],_=>rfl
 | r::rs,h=>by rw [List.map_cons,PyData.canLayAll0,G1 rs fun x hx=>h x (List.mem_cons_of_mem _ hx),h r List.mem_cons_self];rfl
theorem IM {α:Type} {l:List α} {dat:α→PyData} (h:∀ x∈l,(dat x).canLay0=true):(PyData.list (l.map dat)).canLay0=true:=by
 rw [PyData.canLay0];exact G1 l h
noncomputable def hab (b:Bool):V:=.str (if b then Str.ofString "low" else Str.ofString "left")
noncomputable def Vo (b:Bool):PyData:=.str (if b then Str.ofString "low" else Str.ofString "left")
theorem Gg:PyData.strOk (Str.ofString "low")=true:=by decide +kernel
theorem FH:PyData.strOk (Str.ofString "left")=true:=by decide +kernel
theorem OQ:(Str.ofString "left"==Str.ofString "low")=false:=by decide +kernel
theorem OW:(Str.ofString "low"==Str.ofString "left")=false:=by decide +kernel
theorem Gm:∀ {b:Bool},K b→CmpK σ K .Eq (hab b) (.str (Str.ofString "low"))
 | true,q=>Gc (x:=Str.ofString "low") Gg Gg (by rw [beq_self_eq_true];exact q)
 | false,q=>Gc (x:=Str.ofString "left") FH Gg (by rw [OQ];exact q)
theorem IB:∀ {b:Bool},K (!b)→CmpK σ K .Eq (hab b) (.str (Str.ofString "left"))
 | true,q=>Gc (x:=Str.ofString "low") Gg FH (by rw [OW];exact q)
 | false,q=>Gc (x:=Str.ofString "left") FH FH (by rw [beq_self_eq_true];exact q)
theorem Ro:∀ {b:Bool},(Vo b).canLay0=true
 | true=>Gg
 | false=>FH
end Mine.Internal
namespace Mine.Internal
noncomputable def BK (size b:Int) (r:Int × Int):Int:=if r.1<b+size∧r.2 > b then r.2 else b
noncomputable def CP (size:Int) (rows:List (Int × Int)) (b:Int):Prop:=∀ r∈rows,¬ (r.1<b+size∧r.2 > b)
theorem DD:CP size (done++[r]) c↔CP size done c∧¬ (r.1<c+size∧r.2 > c):=
 ⟨fun h=>⟨fun x hx=>h x (List.mem_append_left _ hx),h r (List.mem_append_right _ List.mem_cons_self)⟩,fun h x hx=>(List.mem_append.mp hx).elim (h.1 x) fun hx=>List.mem_singleton.mp hx▸h.2⟩
theorem SF (rest:List (Int × Int)):∀ (done:List (Int × Int)) (b:Int),(done++rest).Pairwise (fun x y=>x.1≤y.1)→CP size done b→(∀ c,0≤c→c<b→¬ CP size done c)→0≤b →
  CP size (done++rest) (rest.foldl (BK size) b)∧0≤rest.foldl (BK size) b∧(∀ c,0≤c→c<rest.foldl (BK size) b→¬ CP size (done++rest) c):=by
 induction rest with
 | nil=>intro done b _ h1 h2 h3;rw [List.append_nil];exact ⟨h1,h3,h2⟩
 | cons r rest ih=>
  intro done b hp h1 h2 h3
  have hle:∀ x∈done,x.1≤r.1:=fun x hx=>(List.pairwise_append.mp hp).2.2 x hx r List.mem_cons_self
  rw [List.append_cons] at hp ⊢
  by_cases hc:r.1<b+size∧r.2 > b
  ·have:=ih (done++[r]) r.2 hp (DD.mpr ⟨fun x hx hn=>h1 x hx ⟨Int.lt_of_le_of_lt (hle x hx) hc.1,Int.lt_trans hc.2 hn.2⟩,fun hn=>Int.lt_irrefl _ hn.2⟩)
    (fun c hc0 hc1 hf=>(Int.lt_or_le c b).elim (fun hcb=>h2 c hc0 hcb (DD.mp hf).1) fun hcb=>(DD.mp hf).2 ⟨Int.lt_of_lt_of_le hc.1 (Int.add_le_add_right hcb size),hc1⟩) (Int.le_trans h3 (Int.le_of_lt hc.2))
   rw [List.foldl_cons,show BK size b r=r.2 from if_pos hc];exact this
  ·have:=ih (done++[r]) b hp (DD.mpr ⟨h1,hc⟩) (fun c hc0 hc1 hf=>h2 c hc0 hc1 (DD.mp hf).1) h3
   rw [List.foldl_cons,show BK size b r=b from if_neg hc];exact this
theorem S2 (rest:List (Int × Int)):∀ b:Int,rest.foldl (BK size) b=b∨∃ r∈rest,rest.foldl (BK size) b=r.2:=by
 induction rest with
 | nil=>exact fun b=>.inl rfl
 | cons r rest ih=>
  intro b
  refine Or.elim (ih (BK size b r)) (fun h=>?_) fun h=>.inr (h.elim fun x hx=>⟨x,List.mem_cons_of_mem _ hx.1,hx.2⟩)
  by_cases hc:r.1<b+size∧r.2 > b
  ·exact .inr ⟨r,List.mem_cons_self,h.trans (if_pos hc)⟩
  ·exact .inl (h.trans (if_neg hc))
structure IsGap (size room:Int) (rows:List (Int × Int)) (g:Option Int):Prop where
 some:∀ b,g=some b→0≤b∧b+size≤room∧CP size rows b∧(∀ c,0≤c→CP size rows c→b≤c)∧(b=0∨∃ r∈rows,b=r.2)
 none:g=none→∀ c,0≤c→c+size≤room→¬ CP size rows c
theorem VK {size room:Int} {rows ts:List (Int × Int)} (hp:ts.Perm rows) (hs:ts.Pairwise (fun x y=>x.1≤y.1)) {g:Int} (hg:g=ts.foldl (BK size) 0) :
  IsGap size room rows (if g+size > room then none else some g):=by
 subst hg
 refine A7 (SF (size:=size) ts [] 0 hs (fun _ h=>nomatch h) (fun c h h'=>absurd h' (Int.not_lt.mpr h)) (Int.le_refl 0)) fun h1 h2 h3=>?_
 have hf:∀ c,CP size ts c↔CP size rows c:=fun c=>⟨fun h x hx=>h x (hp.mem_iff.mpr hx),fun h x hx=>h x (hp.mem_iff.mp hx)⟩
 by_cases hg:ts.foldl (BK size) 0+size > room
 ·rw [if_pos hg]
  exact ⟨nofun,fun _ c h h' hn=>h3 c h (Int.lt_of_add_lt_add_right (Int.lt_of_le_of_lt h' hg)) ((hf c).mpr hn)⟩
 ·rw [if_neg hg]
  refine ⟨fun b hb=>?_,nofun⟩
  rw [← Option.some.inj hb]
  exact ⟨h2,Int.not_lt.mp hg,(hf _).mp h1,fun c hc hfc=>Int.not_lt.mp fun hlt=>h3 c hc hlt ((hf c).mpr hfc),(S2 ts 0).imp id fun h=>h.elim fun r h=>⟨r,hp.mem_iff.mp h.1,h.2⟩⟩
structure Bx where
 p:Int
 s:Int
 pl:Int
 sl:Int
noncomputable def Av (a b p s:Int) (o:Bx):Prop:=p+a≤o.p∨o.p+o.pl≤p∨s+b≤o.s∨o.s+o.sl≤s
structure Gd (O:List Bx) (P S a b p s:Int):Prop where
 p0:0≤p
 s0:0≤s
 p1:p+a≤P
 s1:s+b≤S
 clear:∀ o∈O,Av a b p s o
structure IsMin (G:Int→Int→Prop) (p s:Int):Prop where
 good:G p s
 least:∀ p' s',G p' s'→p<p'∨(p=p'∧s≤s')
noncomputable def Cg (G:Int→Int→Prop):Option (Int × Int)→Prop
 | none=>∀ p s,¬ G p s
 | some (p,s)=>IsMin G p s
theorem I0 (hx:Cg G x) (hy:Cg G y):x=y:=by
 cases x with
 | none=>
  cases y with
  | none=>rfl
  | some y=>exact absurd (IsMin.good hy) (hx y.1 y.2)
 | some x=>
  cases y with
  | none=>exact absurd (IsMin.good hx) (hy x.1 x.2)
  | some y=>
   have h:=GM Int.lt_asymm Int.lt_irrefl (IsMin.least hx _ _ (IsMin.good hy)) (IsMin.least hy _ _ (IsMin.good hx))
   exact congrArg some (Prod.ext h.1 (Int.le_antisymm h.2.1 h.2.2))
theorem Gf {O:List Bx} (g:Gd O P S a b p s):∃ e,e≤p∧(e=0∨(0<e∧∃ o∈O,e=o.p+o.pl))∧Gd O P S a b e s:=by
 have key:∀ (L:List Bx),∃ e,0≤e∧e≤p∧(e=0∨(0<e∧∃ o∈L,e=o.p+o.pl))∧∀ o∈L,o.p+o.pl≤p→o.p+o.pl≤e:=by
  intro L
  induction L with
  | nil=>exact ⟨0,Int.le_refl 0,g.p0,.inl rfl,fun _ h=>nomatch h⟩
  | cons x L ih=>
   refine Bd ih fun e h0 h1 h2 h3=>?_
   by_cases hx:x.p+x.pl≤p∧e<x.p+x.pl
   ·exact ⟨x.p+x.pl,Int.le_trans h0 (Int.le_of_lt hx.2),hx.1,.inr ⟨Int.lt_of_le_of_lt h0 hx.2,x,List.mem_cons_self,rfl⟩,List.forall_mem_cons.mpr ⟨fun _=>Int.le_refl _,fun o ho hp=>Int.le_trans (h3 o ho hp) (Int.le_of_lt hx.2)⟩⟩
   ·exact ⟨e,h0,h1,h2.imp id fun h=>⟨h.1,h.2.elim fun o h=>⟨o,List.mem_cons_of_mem _ h.1,h.2⟩⟩,List.forall_mem_cons.mpr ⟨fun hp=>Int.not_lt.mp fun h=>hx ⟨hp,h⟩,h3⟩⟩
 refine Bd (key O) fun e h0 h1 h2 h3=>?_
 have a1:=Int.add_le_add_right h1 a
 exact ⟨e,h1,h2,h0,g.s0,Int.le_trans a1 g.p1,g.s1,fun o ho=>(g.clear o ho).imp (Int.le_trans a1) fun h=>h.imp (h3 o ho) id⟩
theorem Ht:Av a b p s o↔(o.p<p+a→p<o.p+o.pl→¬ (o.s<s+b∧o.s+o.sl > s)):=
 ⟨fun h h1 h2 h3=>G0 h (fun h=>Int.not_lt.mpr h h1) (fun h=>Int.not_lt.mpr h h2) (fun h=>Int.not_lt.mpr h h3.1) (fun h=>Int.not_lt.mpr h h3.2),
  fun h=>(Int.lt_or_le o.p (p+a)).elim (fun h1=>(Int.lt_or_le p (o.p+o.pl)).elim (fun h2=>(Int.lt_or_le o.s (s+b)).elim (fun h3=>.inr (.inr (.inr (Int.not_lt.mp fun h4=>h h1 h2 ⟨h3,h4⟩)))) fun h=>.inr (.inr (.inl h))) fun h=>.inr (.inl h)) .inl⟩
noncomputable def Li (a p:Int) (O:List Bx):List Bx:=O.filter fun o=>decide (o.p<p+a)&&decide (p<o.p+o.pl)
noncomputable def CG (O:List Bx):List (Int × Int):=O.map fun o=>(o.s,o.s+o.sl)
theorem Fc {O:List Bx}:CP b (CG (Li a p O)) s↔∀ o∈O,Av a b p s o:=
 ⟨fun h o ho=>Ht.mpr fun h1 h2=>h (o.s,o.s+o.sl) (List.mem_map.mpr ⟨o,List.mem_filter.mpr ⟨ho,Bool.and_eq_true_iff.mpr ⟨decide_eq_true h1,decide_eq_true h2⟩⟩,rfl⟩),
  fun h r hr=>AF (List.mem_map.mp hr) fun o ho e=>by
   have hb:=Bool.and_eq_true_iff.mp (List.mem_filter.mp ho).2
   rw [← e];exact Ht.mp (h o (List.mem_filter.mp ho).1) (of_decide_eq_true hb.1) (of_decide_eq_true hb.2)⟩
inductive Search (O:List Bx) (P S a b:Int):List Int→Option (Int × Int)→Prop
 | nil:Search O P S a b [] none
 | hit {p s:Int} {ms:List Int}:IsGap b S (CG (Li a p O)) (some s)→p+a≤P→Search O P S a b (p::ms) (some (p,s))
 | miss {p:Int} {ms:List Int} {g:Option Int} {r:Option (Int × Int)}:IsGap b S (CG (Li a p O)) g→(g=none∨¬ p+a≤P)→Search O P S a b ms r→Search O P S a b (p::ms) r
noncomputable def VL (O:List Bx) (P S a b:Int) (ms:List Int):Option (Int × Int)→Prop
 | none=>∀ e∈ms,∀ s',¬ Gd O P S a b e s'
 | some (p,s)=>p∈ms∧Gd O P S a b p s∧(s=0∨∃ o∈O,s=o.s+o.sl)∧∀ e∈ms,∀ s',Gd O P S a b e s'→p<e∨(p=e∧s≤s')
theorem Jd {O:List Bx} (h:Search O P S a b ms r) (hs:ms.Pairwise (·<·)) (h0:∀ m∈ms,0≤m):VL O P S a b ms r:=by
 induction h with
 | nil=>exact fun _ h=>nomatch h
 | @hit p s ms g hp=>
  refine FC (g.some s rfl) fun g0 g1 g2 g3 g4=>?_
  exact ⟨List.mem_cons_self,⟨h0 p List.mem_cons_self,g0,hp,g1,Fc.mp g2⟩,g4.imp id fun h=>AF h fun r hr h=>AF (List.mem_map.mp hr) fun o ho e=>⟨o,(List.mem_filter.mp ho).1,h.trans (congrArg Prod.snd e).symm⟩,
   List.forall_mem_cons.mpr ⟨fun s' gd=>.inr ⟨rfl,g3 s' gd.s0 (Fc.mpr gd.clear)⟩,fun e he s' _=>.inl ((List.pairwise_cons.mp hs).1 e he)⟩⟩
 | @miss p ms g r hg hn _ ih=>
  have hno:∀ s',¬ Gd O P S a b p s':=fun s' gd=>hn.elim (fun hn=>hg.none hn s' gd.s0 gd.s1 (Fc.mpr gd.clear)) fun hn=>hn gd.p1
  have ih:=ih (List.pairwise_cons.mp hs).2 fun m hm=>h0 m (List.mem_cons_of_mem _ hm)
  cases r with
  | none=>exact List.forall_mem_cons.mpr ⟨hno,ih⟩
  | some x=>exact ⟨List.mem_cons_of_mem _ ih.1,ih.2.1,ih.2.2.1,List.forall_mem_cons.mpr ⟨fun s' gd=>absurd gd (hno s'),ih.2.2.2⟩⟩
noncomputable def C3 (O:List Bx) (a P:Int):List Int:=0::(O.map fun o=>o.p+o.pl).filter fun e=>decide (0<e)&&decide (e≤P - a)
noncomputable def Da (O:List Bx):Option (Int × Int)→Prop
 | none=>True
 | some (p,s)=>(p=0∨∃ o∈O,p=o.p+o.pl)∧(s=0∨∃ o∈O,s=o.s+o.sl)
theorem CZ {O:List Bx} (h:Search O P S a b ms r) (hs:ms.Pairwise (·<·)) (hm:∀ x,x∈ms↔x∈C3 O a P):Cg (Gd O P S a b) r∧Da O r:=by
 have hmem:∀ x,x∈C3 O a P↔x=0∨(0<x∧x≤P - a∧∃ o∈O,x=o.p+o.pl):=by
  exact fun x=>List.mem_cons.trans (or_congr Iff.rfl ⟨fun h=>by
   have a:=List.mem_filter.mp h
   have b:=Bool.and_eq_true_iff.mp a.2
   exact (List.mem_map.mp a.1).elim fun o ho=>⟨of_decide_eq_true b.1,of_decide_eq_true b.2,o,ho.1,ho.2.symm⟩,fun h=>
   List.mem_filter.mpr ⟨List.mem_map.mpr (h.2.2.elim fun o ho=>⟨o,ho.1,ho.2.symm⟩),Bool.and_eq_true_iff.mpr ⟨decide_eq_true h.1,decide_eq_true h.2.1⟩⟩⟩)
 have h0:∀ m∈ms,0≤m:=fun m hm'=>((hmem m).mp ((hm m).mp hm')).elim (fun h=>Int.le_of_eq h.symm) fun h=>Int.le_of_lt h.1
 have h1:=Jd h hs h0
 have hd:∀ p s,Gd O P S a b p s→∃ e∈ms,e≤p∧Gd O P S a b e s:=fun p s g=>Ae (Gf g) fun e e1 e2 e3=>
  ⟨e,(hm e).mpr ((hmem e).mpr (e2.imp id fun h=>⟨h.1,Int.le_sub_right_of_add_le e3.p1,h.2⟩)),e1,e3⟩
 cases r with
 | none=>exact ⟨fun p s g=>Ae (hd p s g) fun e he _ ge=>h1 e he s ge,trivial⟩
 | some r=>
  refine ⟨⟨h1.2.1,fun p' s' g=>Ae (hd p' s' g) fun e he hle ge=>?_⟩,((hmem _).mp ((hm _).mp h1.1)).imp id fun h=>h.2.2,h1.2.2.1⟩
  have:=h1.2.2.2 e he s' ge
  exact (Int.lt_or_eq_of_le hle).elim (fun h=>.inl (this.elim (fun z=>Int.lt_trans z h) fun z=>z.1.symm▸h)) fun h=>h▸this
noncomputable def Bx.by (o:Bx) (m n:Int):Bx:=⟨o.p*m,o.s*n,o.pl*m,o.sl*n⟩
theorem Ci {x y m:Int} (hm:0<m):x*m≤y*m↔x≤y:=⟨fun h=>Int.le_of_mul_le_mul_right h hm,fun h=>Int.mul_le_mul_of_nonneg_right h (Int.le_of_lt hm)⟩
theorem KG {a b p s m n:Int} (hm:0<m) (hn:0<n):Av (a*m) (b*n) (p*m) (s*n) (o.by m n)↔Av a b p s o:=by
 unfold Av Bx.by
 dsimp only
 rw [← Int.add_mul,← Int.add_mul,← Int.add_mul,← Int.add_mul,Ci hm,Ci hm,Ci hn,Ci hn]
theorem MX {O:List Bx} {P S a b p s m n:Int} (hm:0<m) (hn:0<n):Gd (O.map (·.by m n)) (P*m) (S*n) (a*m) (b*n) (p*m) (s*n)↔Gd O P S a b p s:=by
 have z:∀ {x k:Int},0<k→(0≤x*k↔0≤x):=fun {x k} hk=>by have:=Ci (x:=0) (y:=x) hk;rwa [Int.zero_mul] at this
 constructor
 ·intro g
  refine ⟨(z hm).mp g.p0,(z hn).mp g.s0,(Ci hm).mp (by rw [Int.add_mul];exact g.p1),(Ci hn).mp (by rw [Int.add_mul];exact g.s1),fun o ho=>(KG hm hn).mp (g.clear _ (List.mem_map.mpr ⟨o,ho,rfl⟩))⟩
 ·intro g
  refine ⟨(z hm).mpr g.p0,(z hn).mpr g.s0,by rw [← Int.add_mul];exact (Ci hm).mpr g.p1,by rw [← Int.add_mul];exact (Ci hn).mpr g.s1,fun o ho=>?_⟩
  refine AF (List.mem_map.mp ho) fun o ho' ze1=>?_;subst ze1
  exact (KG hm hn).mpr (g.clear o ho')
noncomputable def byO (m n:Int):Option (Int × Int)→Option (Int × Int)
 | none=>none
 | some (p,s)=>some (p*m,s*n)
theorem Qh {O:List Bx} {m n p:Int} {f:Bx→Int} {k:Int} (hf:∀ o:Bx,f (o.by m n)=f o*k) (h:p=0∨∃ o∈O.map (·.by m n),p=f o):∃ p',p=p'*k:=
 h.elim (fun h=>⟨0,h.trans (Int.zero_mul _).symm⟩) fun h=>AF h fun o ho h=>AF (List.mem_map.mp ho) fun o' _ e=>⟨f o',h.trans (e▸hf o')⟩
theorem Jn {O:List Bx} {P S a b m n:Int} (hm:0<m) (hn:0<n) (h:Cg (Gd (O.map (·.by m n)) (P*m) (S*n) (a*m) (b*n)) r) (he:Da (O.map (·.by m n)) r) (hd:Cg (Gd O P S a b) d):r=byO m n d:=by
 have key:∃ r',r=byO m n r':=by
  cases r with
  | none=>exact ⟨none,rfl⟩
  | some r=>exact (Qh (f:=fun o=>o.p+o.pl) (fun o=>(Int.add_mul _ _ _).symm) he.1).elim fun p hp=>(Qh (f:=fun o=>o.s+o.sl) (fun o=>(Int.add_mul _ _ _).symm) he.2).elim fun s hs=>⟨some (p,s),congrArg some (Prod.ext hp hs)⟩
 refine AX key fun r' ze1=>?_;subst ze1
 refine congrArg (byO m n) (I0 ?_ hd)
 cases r' with
 | none=>exact fun p s g=>h _ _ ((MX hm hn).mpr g)
 | some r=>exact ⟨(MX hm hn).mp (IsMin.good h),fun p' s' g=>(IsMin.least h _ _ ((MX hm hn).mpr g)).imp (fun h=>Int.lt_of_mul_lt_mul_right h (Int.le_of_lt hm)) fun h=>⟨Int.eq_of_mul_eq_mul_right (Int.ne_of_gt hm) h.1,(Ci hn).mp h.2⟩⟩
end Mine.Internal
namespace Mine.Internal
noncomputable def D8 (x y:Int × Int):Prop:=x.1<y.1∨(x.1=y.1∧x.2≤y.2)
theorem NL (h:¬ D8 x y):D8 y x:=by unfold D8 at *;exact Classical.or_iff_not_imp_left.mpr fun z0=>⟨Int.le_antisymm (ai2 .le .v0 .v1 (.o .v1 .v0 .e) rfl (not_or.mp h).1) (ai2 .le .v0 .v1 (.o .v1 .v0 .e) rfl z0),Or.elim (Classical.not_and_iff_not_or_not.mp (not_or.mp h).2) (fun z1=>Or.elim (Int.lt_or_gt_of_ne z1) (fun z2=>(aj2 (.t .v0 .v1 (.o .v0 .v1 .e)) rfl z2 (not_or.mp h).1).elim) (fun z2=>(aj2 (.t .v0 .v1 (.o .v0 .v1 .e)) rfl z2 z0).elim)) (fun z1=>ai2 .le .v0 .v1 (.m .v1 .v0 .e) rfl z1)⟩
noncomputable def Bm (G:Int→Int→Prop) (L:List (Int × Int)) (d:Option (Int × Int)):Prop:=Cg (fun p s=>G p s∧(p,s)∈L) d
theorem Kb:Bm G [] none:=fun _ _ h=>by cases h.2
theorem I1 (h:Bm G L none) (hy:G y.1 y.2):Bm G (L++[y]) (some y):=by
 refine ⟨⟨hy,by simp⟩,fun p s g=>?_⟩
 refine Or.elim (List.mem_append.mp g.2) (fun m=>?_) (fun m=>?_)
 ·exact absurd ⟨g.1,m⟩ (h p s)
 ·have:=List.mem_singleton.mp m;subst this;exact .inr ⟨rfl,Int.le_refl _⟩
theorem JU (h:Bm G L d) (hy:¬ G y.1 y.2):Bm G (L++[y]) d:=by
 have e:∀ p s,(G p s∧(p,s)∈L++[y])→G p s∧(p,s)∈L:=fun p s g=>by
  refine Or.elim (List.mem_append.mp g.2) (fun m=>?_) (fun m=>?_)
  ·exact ⟨g.1,m⟩
  ·have:=List.mem_singleton.mp m;subst this;exact absurd g.1 hy
 match d,h with
 | none,h=>exact fun p s g=>h p s (e p s g)
 | some (p,s),h=>exact ⟨⟨h.good.1,by simp [h.good.2]⟩,fun p' s' g=>h.least p' s' (e p' s' g)⟩
theorem JO (h:Bm G L (some x)) (hy:D8 x y):Bm G (L++[y]) (some x):=by
 refine ⟨⟨h.good.1,by simp [h.good.2]⟩,fun p s g=>?_⟩
 refine Or.elim (List.mem_append.mp g.2) (fun m=>?_) (fun m=>?_)
 ·exact h.least p s ⟨g.1,m⟩
 ·have:=List.mem_singleton.mp m;subst this;exact hy
theorem Jf (h:Bm G L (some x)) (hg:G y.1 y.2) (hy:D8 y x):Bm G (L++[y]) (some y):=by
 refine ⟨⟨hg,by simp⟩,fun p s g=>?_⟩
 refine Or.elim (List.mem_append.mp g.2) (fun m=>?_) (fun m=>?_)
 ·have:=h.least p s ⟨g.1,m⟩
  unfold D8 at hy;exact Classical.or_iff_not_imp_left.mpr fun z0=>⟨Or.elim this (fun z1=>Or.elim hy (fun z2=>Int.le_antisymm (ai3 .le .v0 .v1 (.t .v0 .v2 (.t .v2 .v1 .e)) rfl z2 z1) (ai2 .le .v0 .v1 (.o .v1 .v0 .e) rfl z0)) (fun z2=>Int.le_antisymm (ai3 .le .v0 .v1 (.q .v0 .v2 (.t .v2 .v1 .e)) rfl z2.1 z1) (ai2 .le .v0 .v1 (.o .v1 .v0 .e) rfl z0))) (fun z1=>Or.elim hy (fun z2=>Int.le_antisymm (ai3 .le .v0 .v1 (.t .v0 .v2 (.q .v2 .v1 .e)) rfl z2 z1.1) (ai2 .le .v0 .v1 (.o .v1 .v0 .e) rfl z0)) (fun z2=>Int.le_antisymm (ai3 .le .v0 .v1 (.q .v0 .v2 (.q .v2 .v1 .e)) rfl z2.1 z1.1) (ai2 .le .v0 .v1 (.o .v1 .v0 .e) rfl z0))),Or.elim this (fun z1=>Or.elim hy (fun z2=>(aj3 (.t .v0 .v1 (.o .v0 .v2 (.t .v1 .v2 .e))) rfl z2 z0 z1).elim) (fun z2=>(aj3 (.q .v0 .v1 (.o .v0 .v2 (.t .v1 .v2 .e))) rfl z2.1 z0 z1).elim)) (fun z1=>Or.elim hy (fun z2=>(aj3 (.t .v0 .v1 (.o .v0 .v2 (.q .v1 .v2 .e))) rfl z2 z0 z1.1).elim) (fun z2=>ai3 .le .v0 .v1 (.l .v0 .v2 (.l .v2 .v1 .e)) rfl z2.2 z1.2))⟩
 ·have:=List.mem_singleton.mp m;subst this;exact .inr ⟨rfl,Int.le_refl _⟩
noncomputable def Db (S P:Int):List (Int × Int):=(List.range (S*P).toNat).map fun (k:Nat)=>((k:Int) / S,(k:Int) % S)
theorem Ia (hS:0<S):(Db S P).Pairwise D8:=by
 refine List.pairwise_map.mpr (List.Pairwise.imp ?_ List.pairwise_lt_range)
 intro a b h
 have h1:(a:Int) / S≤(b:Int) / S:=Int.ediv_le_ediv hS (by exact ai2 .le .v0 .v1 (.t .v0 .v1 .e) rfl (Int.ofNat_lt.mpr h))
 by_cases e:(a:Int) / S=(b:Int) / S
 ·refine .inr ⟨e,?_⟩
  have ha:=Int.mul_ediv_add_emod (a:Int) S
  have hb:=Int.mul_ediv_add_emod (b:Int) S
  rw [e] at ha
  show (a:Int) % S≤(b:Int) % S
  exact ai5 .le .v0 .v1 (.q (.a .v2 .v0) .v3 (.p (.a .v2 .v1) .v4 (.t .v3 .v4 .e))) rfl ha hb (Int.ofNat_lt.mpr h)
 ·exact .inl (by show (a:Int) / S<(b:Int) / S;exact Or.elim (Int.lt_or_gt_of_ne e) (fun z0=>ai2 .lt .v0 .v1 (.t .v0 .v1 .e) rfl z0) (fun z0=>ai2 .lt .v0 .v1 (.w 2 (.l .v0 .v1 (.t .v1 .v0 .e))) rfl h1 z0))
theorem H1 (h0:0≤p) (h1:p<P) (h2:0≤s) (h3:s<S):(p,s)∈Db S P:=by
 have hn:0≤p*S:=Int.mul_nonneg h0 (by exact ai2 .le .n0 .v0 (.t .v1 .v0 (.l .n0 .v1 .e)) rfl h3 h2)
 have hle:(p+1)*S≤P*S:=Int.mul_le_mul_of_nonneg_right (by exact ai2 .le (.a .v0 .n1) .v1 (.t .v0 .v1 .e) rfl h1) (by exact ai2 .le .n0 .v0 (.t .v1 .v0 (.l .n0 .v1 .e)) rfl h3 h2)
 rw [Int.add_mul,Int.mul_comm P S] at hle
 have hq:p*S+s<S*P:=Int.lt_of_lt_of_le (Int.add_lt_add_left (by rw [Int.one_mul];exact h3) _) hle
 have hp:=Int.lt_of_le_of_lt (Int.add_nonneg hn h2) hq
 refine List.mem_map.mpr ⟨(p*S+s).toNat,List.mem_range.mpr ((Int.toNat_lt_toNat hp).mpr hq),?_⟩
 have e:(((p*S+s).toNat:Nat):Int)=s+p*S:=by exact Int.le_antisymm (ai3 .le .v0 (.a .v1 .v2) (.q .v0 (.a .v2 .v1) .e) rfl (Int.toNat_of_nonneg (ai2 .le .n0 (.a .v0 .v1) (.l .n0 .v1 (.l .n0 .v0 .e)) rfl h2 hn))) (ai3 .le (.a .v0 .v1) .v2 (.p .v2 (.a .v1 .v0) .e) rfl (Int.toNat_of_nonneg (ai2 .le .n0 (.a .v0 .v1) (.l .n0 .v1 (.l .n0 .v0 .e)) rfl h2 hn)))
 rw [e,Int.add_mul_ediv_right _ _ (by exact fun z0=>aj2 (.q .v0 .n0 (.t .v1 .v0 (.l .n0 .v1 .e))) rfl z0 h3 h2),Int.add_mul_emod_self_right,Int.ediv_eq_zero_of_lt h2 h3,Int.emod_eq_of_lt h2 h3,Int.zero_add]
theorem Jj {O:List Bx} (ha:0<a) (hb:0<b):∃ d,Cg (Gd O P S a b) d:=by
 have hdec:∀ p s,Gd O P S a b p s∨¬ Gd O P S a b p s:=fun _ _=>Classical.em _
 have key:∀ L:List (Int × Int),∃ d,Bm (Gd O P S a b) L d:=by
  intro L
  have:∀ (L' L:List (Int × Int)),(∃ d,Bm (Gd O P S a b) L d)→∃ d,Bm (Gd O P S a b) (L++L') d:=by
   intro L'
   induction L' with
   | nil=>intro L h;simpa using h
   | cons y L' ih=>
    intro L ⟨d,h⟩
    rw [show L++y::L'=(L++[y])++L' by simp]
    refine ih _ ?_
    refine Or.elim (hdec y.1 y.2) (fun hy=>?_) (fun hy=>?_)
    ·match d,h with
     | none,h=>exact ⟨_,I1 h hy⟩
     | some x,h=>
      by_cases hx:D8 x y
      ·exact ⟨_,JO h hx⟩
      ·exact ⟨_,Jf h hy (NL hx)⟩
    ·exact ⟨_,JU h hy⟩
  simpa using this L [] ⟨none,Kb⟩
 refine AX (key (Db S P)) fun d h=>?_
 refine ⟨d,?_⟩
 have hm:∀ p s,Gd O P S a b p s→(p,s)∈Db S P:=fun p s g=>H1 g.p0 (by have:=g.p1;exact ai3 .lt .v0 .v1 (.l (.a .v0 .v2) .v1 (.t .n0 .v2 .e)) rfl this ha) g.s0 (by have:=g.s1;exact ai3 .lt .v0 .v1 (.l (.a .v0 .v2) .v1 (.t .n0 .v2 .e)) rfl this hb)
 match d,h with
 | none,h=>exact fun p s g=>h p s ⟨g,hm p s g⟩
 | some (p,s),h=>exact ⟨h.good.1,fun p' s' g=>h.least p' s' ⟨g,hm p' s' g⟩⟩
end Mine.Internal
namespace Mine.Internal
open PySem
noncomputable def Oj:Option Int→V
 | none=>.none
 | some b=>.int b
noncomputable def Co (r:Int × Int):V:=.tup [.int r.1,.int r.2]
noncomputable def Do:Option (Int × Int)→V
 | none=>.none
 | some (p,s)=>.tup [.int p,.int s]
noncomputable def Sy:Option (Int × Int)→V
 | none=>.none
 | some (p,s)=>.tup [.int s,.int p]
structure Ot where
 l:Int
 u:Int
 w:Int
 h:Int
noncomputable def Ot.v (o:Ot):V:=.tup [.int o.l,.int o.u,.int o.w,.int o.h]
noncomputable def Ot.low (o:Ot):Bx:=⟨o.u,o.l,o.h,o.w⟩
noncomputable def Ot.lef (o:Ot):Bx:=⟨o.l,o.u,o.w,o.h⟩
noncomputable def Dq:Option (Int × Int)→Option (Int × Int)
 | none=>none
 | some (p,s)=>some (s,p)
theorem F0:∀ r,Dq (Dq r)=r
 | none=>rfl
 | some _=>rfl
theorem PZ:∀ {r},Sy r=Do (Dq r)
 | none=>rfl
 | some _=>rfl
noncomputable def FO (os:List Ot) (W H w h:Int):Bool→Option (Int × Int)→Prop
 | true,r=>Cg (Gd (os.map Ot.low) H W h w) r∧Da (os.map Ot.low) r
 | false,r=>Cg (Gd (os.map Ot.lef) W H w h) (Dq r)∧Da (os.map Ot.lef) (Dq r)
theorem List.mem_map_get {α β:Type} {f:α→β} {l:List α} {i:Nat} {y:β} (h:(l.map f)[i]?=some y):∃ x,l[i]?=some x∧y=f x:=by
 rw [List.getElem?_map] at h
 refine AF (Option.map_eq_some_iff.mp h) fun x hx e=>?_
 exact ⟨x,hx,e.symm⟩
theorem Ct {α:Type} {l:List α} {i:Nat} {x:α} (h:l[i]?=some x):l.drop i=x::l.drop (i+1):=by
 refine AX (List.getElem?_eq_some_iff.mp h) fun hi ze1=>?_;subst ze1
 exact List.drop_eq_getElem_cons hi
theorem CW {α β:Type} {f:α→Bool} {g:α→β}:∀ l:List α,l.filterMap (fun x=>if f x=true then some (g x) else none)=(l.filter f).map g
 | []=>rfl
 | x::l=>by
  cases h:f x with
  | true=>rw [List.filter_cons_of_pos h,List.filterMap_cons_some (by rw [h];rfl),CW l];rfl
  | false=>rw [List.filter_cons_of_neg (by rw [h];exact Bool.false_ne_true),List.filterMap_cons_none (by rw [h];rfl),CW l]
theorem Bu {α β:Type} {f:α→β}:∀ l:List α,l.filterMap (fun x=>some (f x))=l.map f
 | []=>rfl
 | x::l=>congrArg (f x::·) (Bu l)
section
variable {turn:V→AD→(Option V→AD→Prop)→Prop} {Q:List V→AD→Prop} {σ:AD}
theorem Dt {α β:Type} {n:Nat} {l:List α} {g:α→V} (f:α→β) (k:β→V) (e:σ[n]?=some (.list (l.map g))) (hz:l.length≤1000000) (h:∀ x∈l,∀ K:Option V→AD→Prop,K (some (k (f x))) σ→turn (g x) σ K)
  (q:Q ((l.map f).map k) σ):∃ items same,SrcK σ .plain [.ref n] items same∧items.length≤Ab∧Bi turn same items [] σ Q:=
 LK (fun x=>some (k (f x))) e hz h (by rw [Bu];rw [List.map_map] at q;exact q)
theorem Bz {α:Type} {n:Nat} {l:List α} {g:α→V} (p:α→Bool) (e:σ[n]?=some (.list (l.map g))) (hz:l.length≤1000000) (h:∀ x∈l,∀ K:Option V→AD→Prop,(p x=true→K (some (g x)) σ)→(p x=false→K none σ)→turn (g x) σ K)
  (q:Q ((l.filter p).map g) σ):∃ items same,SrcK σ .plain [.ref n] items same∧items.length≤Ab∧Bi turn same items [] σ Q:=
 LK (fun x=>if p x=true then some (g x) else none) e hz (fun x hx K hK=>h x hx K (fun e=>by rw [if_pos e] at hK;exact hK) fun e=>by rw [if_neg (Bool.eq_false_iff.mp e)] at hK;exact hK) (by rw [CW];exact q)
end
theorem LL {turn:V→AD→(Option V→AD→Prop)→Prop} {Q:List V→AD→Prop} {σ:AD} {β:Type} {b:Int} (f:Nat→β) (k:β→V) (hb:-1000000≤b∧b≤1000000) (h:∀ i:Nat,(i:Int)<b→∀ K:Option V→AD→Prop,K (some (k (f i))) σ→turn (.int i) σ K)
  (q:Q (((List.range b.toNat).map f).map k) σ):∃ items same,SrcK σ .range [.int b] items same∧items.length≤Ab∧Bi turn same items [] σ Q:=
 R5 (fun i=>some (k (f i))) hb h (by rw [Bu];rw [List.map_map] at q;exact q)
theorem PD (e:σ[n]?=some (.list [.str (Str.ofString "low"),.str (Str.ofString "left")])) (h:0≤k∧k<2) (q:∀ b,Q (hab b) σ):SubK σ Q (.ref n) (.int k):=by
 rcases (by exact Classical.or_iff_not_imp_left.mpr fun z0=>Or.elim (Int.lt_or_gt_of_ne z0) (fun z1=>Int.le_antisymm (ai1 .le .v0 .n1 (.t .v0 .n0 .e) rfl z1) (ai1 .le .n1 .v0 (.w 2 (.l .n0 .v0 (.t .v0 .n0 .e))) rfl h.1 z1)) (fun z1=>Int.le_antisymm (ai1 .le .v0 .n1 (.t .v0 .n2 .e) rfl h.2) (ai1 .le .n1 .v0 (.t .n0 .v0 .e) rfl z1)):k=0∨k=1) with rfl | rfl
 ·exact An e (by decide) rfl (q true)
 ·exact An e (by decide) rfl (q false)
theorem Ur {α:Type} {R:α→α→Prop} {l:List α} {i:Nat} {y:α} (h:l.Pairwise R) (hy:l[i]?=some y):∀ x∈l.take i,R x y:=fun x hx=>by
 rw [← List.take_append_drop i l,Ct hy] at h
 exact (List.pairwise_append.mp h).2.2 x hx y List.mem_cons_self
theorem BN {α:Type} {l:List α} {i:Nat} {y:α} (hy:l[i]?=some y):l.take (i+1)=l.take i++[y]:=by rw [List.take_add_one,hy];rfl
theorem GL {os:List Ot} {W H w h l u:Int} (g:Gd (os.map Ot.low) H W h w u l):Gd (os.map Ot.lef) W H w h l u:=
 ⟨g.s0,g.p0,g.s1,g.p1,fun o ho=>by
  refine AF (List.mem_map.mp ho) fun x hx ze1=>?_;subst ze1
  have:=g.clear x.low (List.mem_map.mpr ⟨x,hx,rfl⟩)
  unfold Av Ot.low at this;unfold Av Ot.lef;dsimp only at this ⊢
  refine G0 this (fun h=>?_) (fun h=>?_) (fun h=>?_) (fun h=>?_)
  ·exact .inr (.inr (.inl h))
  ·exact .inr (.inr (.inr h))
  ·exact .inl h
  ·exact .inr (.inl h)⟩
theorem Qg {os:List Ot} {W H w h l u:Int} (g:Gd (os.map Ot.lef) W H w h l u):Gd (os.map Ot.low) H W h w u l:=
 ⟨g.s0,g.p0,g.s1,g.p1,fun o ho=>by
  refine AF (List.mem_map.mp ho) fun x hx ze1=>?_;subst ze1
  have:=g.clear x.lef (List.mem_map.mpr ⟨x,hx,rfl⟩)
  unfold Av Ot.lef at this;unfold Av Ot.low;dsimp only at this ⊢
  refine G0 this (fun h=>?_) (fun h=>?_) (fun h=>?_) (fun h=>?_)
  ·exact .inr (.inr (.inl h))
  ·exact .inr (.inr (.inr h))
  ·exact .inl h
  ·exact .inr (.inl h)⟩
theorem OF {x y:Int × Int} (h:Aa [y.1,y.2] [x.1,x.2]=false):x.1≤y.1:=by
 unfold Aa at h
 by_cases e:y.1=x.1
 ·exact Int.le_of_eq e.symm
 ·rw [if_neg e] at h;exact Int.not_lt.mp (of_decide_eq_false h)
theorem Mz (hp:ts.Perm (rows.map fun r=>[r.1,r.2])) (hs:ts.Pairwise fun a b=>Aa b a=false):∃ rs:List (Int × Int),ts=(rs.map fun r=>[r.1,r.2])∧rs.Perm rows∧rs.Pairwise fun x y=>x.1≤y.1:=by
 have e:ts=(ts.map fun l=>(l.getD 0 0,l.getD 1 0)).map fun r:Int × Int=>[r.1,r.2]:=by
  rw [List.map_map]
  refine (List.map_id ts).symm.trans (List.map_congr_left fun l hl=>?_)
  refine AF (List.mem_map.mp (hp.mem_iff.mp hl)) fun r _ ze1=>?_;subst ze1;rfl
 refine ⟨_,e,?_,?_⟩
 ·have:=hp.map fun l=>(l.getD 0 0,l.getD 1 0)
  rw [List.map_map] at this
  exact this.trans (List.Perm.of_eq (List.map_id rows))
 ·rw [e,List.pairwise_map] at hs
  exact hs.imp OF
end Mine.Internal
namespace Mine.Internal
open PySem
abbrev Pl3:=Int × Int × Bool
noncomputable def DU:Option (Int × Int)→Option (Int × Int)→Option Pl3
 | none,none=>none
 | some x,none=>some (x.1,x.2,false)
 | none,some y=>some (y.1,y.2,true)
 | some x,some y=>if y.1<x.1∨(y.1=x.1∧y.2<x.2) then some (y.1,y.2,true) else some (x.1,x.2,false)
structure Two (O:List Bx) (P S a b:Int) (turns:Bool) (d:Option Pl3):Prop where
 ex:∃ d1 d2,Cg (Gd O P S a b) d1∧(turns=true→Cg (Gd O P S b a) d2)∧(turns=false→d2=none)∧d=DU d1 d2
structure TwoE (O:List Bx) (P S a b:Int) (turns:Bool) (d:Option Pl3):Prop where
 ex:∃ d1 d2,Cg (Gd O P S a b) d1∧Da O d1∧(turns=true→Cg (Gd O P S b a) d2∧Da O d2)∧(turns=false→d2=none)∧d=DU d1 d2
noncomputable def by3 (m:Int):Option Pl3→Option Pl3
 | none=>none
 | some (p,s,t)=>some (p*m,s*m,t)
theorem GT {x y m:Int} (hm:0<m):x*m<y*m↔x<y:=by
 rw [← Int.not_le,← Int.not_le,Ci hm]
theorem QZ {x y m:Int} (hm:0<m):x*m=y*m↔x=y:=⟨fun h=>Int.eq_of_mul_eq_mul_right (Int.ne_of_gt hm) h,fun h=>h▸rfl⟩
theorem Q2 {m:Int} (hm:0<m):∀ d1 d2,DU (byO m m d1) (byO m m d2)=by3 m (DU d1 d2)
 | none,none=>rfl
 | some _,none=>rfl
 | none,some _=>rfl
 | some x,some y=>by
  unfold DU byO
  dsimp only
  by_cases h:y.1<x.1∨(y.1=x.1∧y.2<x.2)
  ·rw [if_pos h,if_pos (h.imp (GT hm).mpr fun h=>⟨h.1▸rfl,(GT hm).mpr h.2⟩)];rfl
  ·rw [if_neg h,if_neg fun h'=>h (h'.imp (GT hm).mp fun h=>⟨(QZ hm).mp h.1,(GT hm).mp h.2⟩)];rfl
theorem Ph {O:List Bx} (hm:0<m) (h:TwoE (O.map (·.by m m)) (P*m) (S*m) (a*m) (b*m) turns r) (h':Two O P S a b turns d):r=by3 m d:=by
 refine HV h.ex fun r1 r2 f1 o1 f2 f3 ze1=>?_;subst ze1
 refine Bk h'.ex fun d1 d2 g1 g2 g3 ze1=>?_;subst ze1
 rw [← Q2 hm,Jn hm hm f1 o1 g1]
 cases turns with
 | true=>rw [Jn hm hm (f2 rfl).1 (f2 rfl).2 (g2 rfl)]
 | false=>rw [f3 rfl,g3 rfl];rfl
section
variable {O:List Bx} {P S a b:Int} {turns:Bool}
theorem NN (ha:0<a) (hb:0<b) (g:Gd O P S a b p s):(p,s)∈Db S P:=H1 g.p0 (by have:=g.p1;exact ai3 .lt .v0 .v1 (.l (.a .v0 .v2) .v1 (.t .n0 .v2 .e)) rfl this ha) g.s0 (by have:=g.s1;exact ai3 .lt .v0 .v1 (.l (.a .v0 .v2) .v1 (.t .n0 .v2 .e)) rfl this hb)
end
structure Sh where
 W:Int
 H:Int
 b:Bool
noncomputable def Sh.v (s:Sh):V:=.tup [.int s.W,.int s.H,hab s.b]
noncomputable def Sh.by (m:Int) (s:Sh):Sh:=⟨s.W*m,s.H*m,s.b⟩
noncomputable def Ot.by (m:Int) (o:Ot):Ot:=⟨o.l*m,o.u*m,o.w*m,o.h*m⟩
noncomputable def EQ:Option Pl3→Option Pl3
 | none=>none
 | some (p,s,t)=>some (s,p,t)
noncomputable def OnL (w h:Int) (turns:Bool) (sh:Sh) (os:List Ot) (r:Option Pl3):Prop:=match sh.b with
 | true=>Two (os.map Ot.low) sh.H sh.W h w turns r
 | false=>Two (os.map Ot.lef) sh.W sh.H w h turns (EQ r)
noncomputable def OnP (w h:Int) (turns:Bool) (sh:Sh) (os:List Ot) (r:Option Pl3):Prop:=match sh.b with
 | true=>TwoE (os.map Ot.low) sh.H sh.W h w turns r
 | false=>TwoE (os.map Ot.lef) sh.W sh.H w h turns (EQ r)
theorem QY (h:EQ r=by3 m (EQ d)):r=by3 m d:=by
 have e1:EQ (EQ r)=r:=by cases r <;> rfl
 have e2:EQ (by3 m (EQ d))=by3 m d:=by cases d <;> rfl
 exact e1.symm.trans ((congrArg EQ h).trans e2)
theorem Qf {w h m:Int} {turns:Bool} {sh:Sh} {os:List Ot} {r d:Option Pl3} (hm:0<m) (x:OnP (w*m) (h*m) turns (sh.by m) (os.map (Ot.by m)) r) (y:OnL w h turns sh os d):r=by3 m d:=by
 obtain ⟨W,H,b⟩:=sh
 cases b with
 | true=>
  have e:(os.map (Ot.by m)).map Ot.low=(os.map Ot.low).map (·.by m m):=by rw [List.map_map,List.map_map];rfl
  have x:TwoE ((os.map (Ot.by m)).map Ot.low) _ _ _ _ _ _:=x
  rw [e] at x
  exact Ph hm x y
 | false=>
  have e:(os.map (Ot.by m)).map Ot.lef=(os.map Ot.lef).map (·.by m m):=by rw [List.map_map,List.map_map];rfl
  have x:TwoE ((os.map (Ot.by m)).map Ot.lef) _ _ _ _ _ _:=x
  rw [e] at x
  exact QY (Ph hm x y)
noncomputable def NG:Bool→Int × Int→Int × Int→Prop
 | true,y,x=>y.1<x.1∨(y.1=x.1∧y.2<x.2)
 | false,y,x=>y.2<x.2∨(y.2=x.2∧y.1<x.1)
inductive Best (b:Bool):Option (Int × Int)→Option (Int × Int)→Option Pl3→Prop
 | no:Best b none none none
 | up {x:Int × Int}:Best b (some x) none (some (x.1,x.2,false))
 | turned {y:Int × Int}:Best b none (some y) (some (y.1,y.2,true))
 | less {x y:Int × Int}:NG b y x→Best b (some x) (some y) (some (y.1,y.2,true))
 | more {x y:Int × Int}:¬ NG b y x→Best b (some x) (some y) (some (x.1,x.2,false))
theorem Best.low (h:Best true r1 r2 r):r=DU r1 r2:=by
 cases h with
 | less h=>exact (if_pos h).symm
 | more h=>exact (if_neg h).symm
 | _=>rfl
theorem Best.left (h:Best false r1 r2 r):EQ r=DU (Dq r1) (Dq r2):=by
 cases h with
 | less h=>exact (if_pos h).symm
 | more h=>exact (if_neg h).symm
 | _=>rfl
theorem Ev {w h:Int} {turns:Bool} {sh:Sh} {os:List Ot} {r1 r2:Option (Int × Int)} {r:Option Pl3} (f1:FO os sh.W sh.H w h sh.b r1) (f2:turns=true→FO os sh.W sh.H h w sh.b r2) (f3:turns=false→r2=none) (hb:Best sh.b r1 r2 r):OnP w h turns sh os r:=by
 obtain ⟨W,H,b⟩:=sh
 cases b with
 | true=>exact ⟨r1,r2,f1.1,f1.2,fun e=>⟨(f2 e).1,(f2 e).2⟩,f3,hb.low⟩
 | false=>exact ⟨Dq r1,Dq r2,f1.1,f1.2,fun e=>⟨(f2 e).1,(f2 e).2⟩,fun e=>congrArg Dq (f3 e),hb.left⟩
noncomputable def G7 (b:Bool) (n:Int) (x:Int × Int) (t:Bool):List Int:=if b then [n,x.1,x.2,b2i t] else [n,x.2,x.1,b2i t]
theorem MR:Aa [n,a,b,1] [n,c,d,0]=true↔a<c∨(a=c∧b<d):=by
 rw [show Aa [n,a,b,1] [n,c,d,0]=if a=c then (if b=d then false else decide (b<d)) else decide (a<c) from if_pos rfl]
 by_cases h:a=c
 ·rw [if_pos h]
  by_cases h':b=d
  ·rw [if_pos h']
   exact ⟨nofun,fun e=>(e.elim (fun z=>Int.ne_of_lt z h) fun z=>Int.ne_of_lt z.2 h').elim⟩
  ·rw [if_neg h',decide_eq_true_iff];exact ⟨fun z=>.inr ⟨h,z⟩,fun z=>z.elim (fun z=>absurd h (Int.ne_of_lt z)) And.right⟩
 ·rw [if_neg h,decide_eq_true_iff];exact ⟨.inl,fun z=>z.elim id fun z=>absurd z.1 h⟩
theorem KS:∀ {b:Bool},Aa (G7 b n y true) (G7 b n x false)=true↔NG b y x
 | true=>MR
 | false=>MR
abbrev Pl4:=Int × Int × Int × Bool
inductive FP (On:Sh→List Ot→Option Pl3→Prop):Nat→List (Sh × List Ot)→Option Pl4→Prop
 | nil {n:Nat}:FP On n [] none
 | hit {n:Nat} {sh:Sh} {os:List Ot} {l:List (Sh × List Ot)} {p:Pl3}:On sh os (some p)→FP On n ((sh,os)::l) (some ((n:Int),p.1,p.2.1,p.2.2))
 | miss {n:Nat} {sh:Sh} {os:List Ot} {l:List (Sh × List Ot)} {r:Option Pl4}:On sh os none→FP On (n+1) l r→FP On n ((sh,os)::l) r
noncomputable def by4 (m:Int):Option Pl4→Option Pl4
 | none=>none
 | some (n,p,s,t)=>some (n,p*m,s*m,t)
theorem FP.cons_inv (h:FP On n (x::l) r):(∃ p,On x.1 x.2 (some p)∧r=some ((n:Int),p.1,p.2.1,p.2.2))∨(On x.1 x.2 none∧FP On (n+1) l r):=by
 cases h with
 | hit o=>exact .inl ⟨_,o,rfl⟩
 | miss o h=>exact .inr ⟨o,h⟩
theorem Vg {w h m:Int} {turns:Bool} (hm:0<m) {n:Nat} {l:List (Sh × List Ot)} {r d:Option Pl4} (hr:FP (OnP (w*m) (h*m) turns) n (l.map fun x=>(x.1.by m,x.2.map (Ot.by m))) r) (hd:FP (OnL w h turns) n l d):r=by4 m d:=by
 induction hd with
 | nil=>cases hr;rfl
 | hit o=>exact hr.cons_inv.elim (fun h=>h.elim fun p h=>h.2.trans (Option.some.inj (Qf hm h.1 o)▸rfl)) fun h=>nomatch Qf hm h.1 o
 | miss o _ ih=>exact hr.cons_inv.elim (fun h=>h.elim fun p h=>nomatch Qf hm h.1 o) fun h=>ih h.2
noncomputable def FN:Option Pl4→V
 | none=>.none
 | some (n,u,l,t)=>.tup [.int n,.int u,.int l,.bool t]
noncomputable def Tj (n:Nat):Option Pl3→V
 | none=>.none
 | some (u,l,t)=>.tup [.int n,.int u,.int l,.bool t]
noncomputable def Kt (σ:AD) (ks:List Nat) (oss:List (List Ot)):Prop:=ks.length=oss.length∧∀ (i:Nat) k os,ks[i]?=some k→oss[i]?=some os→σ[k]?=some (.list (os.map Ot.v))
noncomputable def Kp (σ σ':AD):Prop:=∀ (x:Nat) (o:O),σ[x]?=some o→σ'[x]?=some o
theorem Ul (I:Nat→List V→AD→Prop) (hb:-1000000≤b∧b≤1000000) (h0:I 0 [] σ)
  (step:∀ (i:Nat) acc σ (K:Option V→AD→Prop),(i:Int)<b→I i acc σ→(∀ v σ',I (i+1) (acc++[v]) σ'→K (some v) σ')→turn (.int i) σ K)
  (fin:∀ acc σ',I b.toNat acc σ'→Q acc σ'):∃ items same,SrcK σ .range [.int b] items same∧items.length≤Ab∧Bi turn same items [] σ Q:=
 ⟨_,_,.range (OJ hb.1) hb.2,by rw [Cm];exact Int.toNat_le.mpr hb.2,FZ I _ 0 [] σ (fun i v acc σ K hv hI h1=>by
  obtain ⟨rfl,hi⟩:=Fh _ _ _ _ hv
  rw [Nat.zero_add] at hI h1
  rw [Int.zero_add]
  exact step i acc σ K (Int.lt_toNat.mp hi) hI fun v σ' h=>h1 (some v) σ' trivial h) (fun acc σ h=>fin acc σ (by rw [Cm,Nat.zero_add] at h;exact h)) h0⟩
theorem Ub (I:Nat→List V→AD→Prop) (e:σ[n]?=some (.list vs)) (hz:vs.length≤1000000) (h0:I 0 [] σ)
  (step:∀ (i:Nat) v acc σ (K:Option V→AD→Prop),vs[i]?=some v→I i acc σ→(∀ v σ',σ'[n]?=some (.list vs)→I (i+1) (acc++[v]) σ'→K (some v) σ')→turn v σ K)
  (fin:∀ acc σ',I vs.length acc σ'→Q acc σ'):∃ items same,SrcK σ .plain [.ref n] items same∧items.length≤Ab∧Bi turn same items [] σ Q:=
 ⟨_,_,.list e,hz,FZ I _ 0 [] σ (fun i v acc σ K hv hI h1=>by
  rw [Nat.zero_add] at hI h1
  exact step i v acc σ K hv hI fun v σ' h h'=>h1 (some v) σ' h h') (fun acc σ h=>fin acc σ (by rw [Nat.zero_add] at h;exact h)) h0⟩
end Mine.Internal
namespace Mine.Internal
open PySem
set_option genSizeOf false
set_option genInjectivity false
section
variable {C:B1} {ρ:List V} {σ:AD} {Q:Br} {P:AO} {X:AY} {e a b:Ex} {es:List Ex} {ss:List Sx} {c:Addr} {x:Str} {k:Nat} {hs:List (List Nat × V × Option Nat)}
end
section
variable {σ:AD} {K:Bool→Prop} {x y:Str}
theorem Rp (h:(PyData.strOk x&&(x==y))=true) (q:K false):CmpK σ K .NotEq (.str x) (.str y):=by
 have h:=Bool.and_eq_true_iff.mp h
 have e:=eq_of_beq h.2
 subst e
 exact JG (x:=.str x) rfl rfl h.1 q
end
noncomputable def Eb (S B P:Nat):List (Str × V):=[("shelves", .ref S),("boxes", .ref B),("places", .ref P)]
structure RackAt (C:Addr) (σ:AD) (r S B P:Nat):Prop where
 ex:∃ m,σ[r]?=some (.inst C m)∧σ[m]?=some (.ns (Eb S B P))
theorem R9:(Eb S B P).lookup ("shelves":Str)=some (.ref S):=rfl
theorem RU:(Eb S B P).lookup ("boxes":Str)=some (.ref B):=rfl
theorem R8:(Eb S B P).lookup ("places":Str)=some (.ref P):=rfl
noncomputable def K2 (x:Str):Bool:=!(x=="shelves")&&!(x=="boxes")&&!(x=="places")
theorem SH (h:K2 x=true):(Eb S B P).lookup x=none:=by
 unfold K2 at h
 simp only [Bool.and_eq_true,Bool.not_eq_true'] at h
 unfold Eb
 rw [List.lookup_cons,h.1.1,List.lookup_cons,h.1.2,List.lookup_cons,h.2];rfl
section
variable {C:Addr} {σ:AD} {r S B P:Nat} {Q:AO} {A:Prop} {x:Str}
theorem Vl (R:RackAt C σ r S B P) (q:Q (.ref S) σ):AttrK σ Q C "shelves" (.ref r):=let ⟨_,h1,h2⟩:=R.ex;.mk h1 h2 R9 q
theorem Vz (R:RackAt C σ r S B P) (q:Q (.ref B) σ):AttrK σ Q C "boxes" (.ref r):=let ⟨_,h1,h2⟩:=R.ex;.mk h1 h2 RU q
theorem V2 (R:RackAt C σ r S B P) (q:Q (.ref P) σ):AttrK σ Q C "places" (.ref r):=let ⟨_,h1,h2⟩:=R.ex;.mk h1 h2 R8 q
theorem TO (R:RackAt C σ r S B P) (h:K2 x=true) (q:A):QP σ C x (.ref r)∧A:=let ⟨m,h1,h2⟩:=R.ex;⟨⟨r,m,_,rfl,h1,h2,SH h⟩,q⟩
end
theorem As (p:σ<+:σ'):Kp σ σ':=fun _ _ h=>AN p h
theorem RackAt.keeps (R:RackAt C σ r S B P) (k:Kp σ σ'):RackAt C σ' r S B P:=let ⟨m,h1,h2⟩:=R.ex;⟨m,k _ _ h1,k _ _ h2⟩
theorem TV (R:RackAt C σ r S B P):RackAt C (σ++τ) r S B P:=R.keeps (As AH)
structure En where
 name:Str
 w:Int
 h:Int
 t:Bool
 n:Nat
 u:Int
 l:Int
 r:Bool
noncomputable def En.box (e:En):V:=.tup [.str e.name,.int e.w,.int e.h,.bool e.t]
noncomputable def En.pl (e:En):V:=.tup [.int e.n,.int e.u,.int e.l,.bool e.r]
noncomputable def En.ot (e:En):Ot:=if e.r=true then ⟨e.l,e.u,e.h,e.w⟩ else ⟨e.l,e.u,e.w,e.h⟩
noncomputable def B5 (es:List En):List (Str × V):=es.map fun e=>(e.name,e.box)
noncomputable def Bq (es:List En):List (Str × V):=es.map fun e=>(e.name,e.pl)
structure Rk (C:Addr) (σ:AD) (r:Nat) (shs:List Sh) (es:List En) (S B P epB epP:Nat):Prop where
 at_:RackAt C σ r S B P
 sh:σ[S]?=some (.list (shs.map Sh.v))
 bx:σ[B]?=some (.dict epB (B5 es))
 pl:σ[P]?=some (.dict epP (Bq es))
section
variable {C:Addr} {σ σ':AD} {r S B P epB epP:Nat} {shs:List Sh} {es:List En}
theorem Rk.keeps (R:Rk C σ r shs es S B P epB epP) (k:Kp σ σ'):Rk C σ' r shs es S B P epB epP:=⟨R.at_.keeps k,k _ _ R.sh,k _ _ R.bx,k _ _ R.pl⟩
end
theorem CX {f:En→V} {es:List En} {e:En} (hn:(es.map (·.name)).Nodup) (hm:e∈es):(es.map fun e=>(e.name,f e)).lookup e.name=some (f e):=by
 induction es with
 | nil=>cases hm
 | cons x xs ih=>
  rw [List.map_cons,List.lookup_cons]
  rw [List.map_cons] at hn
  have hn:=List.nodup_cons.mp hn
  rcases List.mem_cons.mp hm with rfl | hm
  ·rw [beq_self_eq_true]
  ·have hne:(e.name==x.name)=false:=beq_eq_false_iff_ne.mpr fun q=>hn.1 (q▸List.mem_map.mpr ⟨e,hm,rfl⟩)
   rw [hne]
   exact ih hn.2 hm
theorem IZ {f:En→V} {es:List En} {k:Str}:((es.map fun e=>(e.name,f e)).any fun p=>decide (p.1=k))=decide (k∈es.map (·.name)):=by
 rw [List.any_map]
 rw [Bool.eq_iff_iff,List.any_eq_true,decide_eq_true_iff,List.mem_map]
 exact ⟨fun ⟨e,h,q⟩=>⟨e,h,of_decide_eq_true q⟩,fun ⟨e,h,q⟩=>⟨e,h,decide_eq_true q⟩⟩
noncomputable def B7 (skip:Option Str) (x:Str):Bool:=!(skip==some x)
noncomputable def Al (es:List En) (skip:Option Str) (i:Nat):List Ot:=(es.filter fun e=>decide (e.n=i)&&B7 skip e.name).map En.ot
noncomputable def AV (n:Nat) (es:List En) (skip:Option Str):List (List Ot):=(List.range n).map (Al es skip)
noncomputable def Qo:Option Str→V
 | none=>.none
 | some s=>.str s
theorem At:(AV n es skip).length=n:=by rw [AV,List.length_map,List.length_range]
theorem CI (h:i<n):(AV n es skip)[i]?=some (Al es skip i):=by
 rw [AV,List.getElem?_map,List.getElem?_range h];rfl
theorem Hl:Al (es++[e]) skip i=if (decide (e.n=i)&&B7 skip e.name)=true then Al es skip i++[e.ot] else Al es skip i:=by
 unfold Al
 rw [List.filter_append,List.map_append]
 by_cases h:(decide (e.n=i)&&B7 skip e.name)=true
 ·rw [if_pos h,List.filter_cons_of_pos (p:=fun e:En=>decide (e.n=i)&&B7 skip e.name) h];rfl
 ·rw [if_neg h,List.filter_cons_of_neg (p:=fun e:En=>decide (e.n=i)&&B7 skip e.name) h];exact List.append_nil _
theorem LA (hk:B7 skip e.name=true):AV n (es++[e]) skip=(AV n es skip).set e.n (Al es skip e.n++[e.ot]):=by
 apply List.ext_getElem?
 intro i
 refine Or.elim (Nat.lt_or_ge i n) (fun hi=>?_) (fun hi=>?_)
 ·rw [CI hi,Hl,hk,Bool.and_true]
  by_cases h:e.n=i
  ·rw [h,List.getElem?_set_self (by rw [At];exact hi),if_pos (decide_eq_true rfl)]
  ·rw [List.getElem?_set_ne h,CI hi,if_neg (by rw [decide_eq_true_iff];exact h)]
 ·rw [List.getElem?_eq_none (by rw [At];exact hi),List.getElem?_eq_none (by rw [List.length_set,At];exact hi)]
theorem KW (hk:B7 skip e.name=false):AV n (es++[e]) skip=AV n es skip:=by
 unfold AV
 exact List.map_congr_left fun i _=>by rw [Hl,hk,Bool.and_false];rfl
theorem LH:AV n [] skip=List.replicate n []:=by
 exact List.eq_replicate_iff.mpr ⟨At,fun b hb=>by refine AF (List.mem_map.mp hb) fun i _ ze1=>?_;subst ze1;rfl⟩
noncomputable def JK (os:List Ot):O:=.list (os.map Ot.v)
theorem MV {σ:AD} {L T:List O} {i:Nat} {o:O} (h:L[i]?=some o):(σ++L++T)[σ.length+i]?=some o:=by
 have hi:=(List.getElem?_eq_some_iff.mp h).1
 rw [List.append_assoc,List.getElem?_append_right (Nat.le_add_right _ _),Nat.add_sub_cancel_left,List.getElem?_append_left hi];exact h
theorem L9 {σ:AD} {L T:List O} {i:Nat} {o:O} (h:i<L.length):(σ++L++T).set (σ.length+i) o=σ++L.set i o++T:=by
 rw [List.append_assoc,List.set_append_right _ _ (Nat.le_add_right _ _),Nat.add_sub_cancel_left,List.set_append_left _ _ h,List.append_assoc]
theorem MT (h:L.length=n):(σ++L++[o])[σ.length+n]?=some o:=by
 rw [← h,← List.length_append];exact AG
theorem Lg {σ:AD} {oss:List (List Ot)} {T:List O} {n:Nat} (h:oss.length=n):Kt (σ++oss.map JK++T) (List.range' σ.length n) oss:=by
 refine ⟨by rw [List.length_range',h],fun i k os h1 h2=>?_⟩
 have hi:i<n:=h▸(List.getElem?_eq_some_iff.mp h2).1
 rw [List.getElem?_range' hi,Nat.one_mul] at h1
 cases h1
 exact MV (by rw [List.getElem?_map,h2];rfl)
noncomputable def Cr:List Nat:=(Str.ofString "abcdefghijklmnopqrstuvwxyz0123456789").cps.toList
noncomputable def Ar (x:Str):Bool:=decide (0<x.length)&&(decide (x.length≤12)&&x.cps.toList.all fun c=>decide (c∈Cr))
theorem Sm (f:Nat→V) (hx:x.cps.all (·<128)=true) (hl:x.length≤1000) (h:∀ c∈x.cps.toList,∀ K:Option V→AD→Prop,K (some (f c)) σ→turn (.str (EW c)) σ K)
  (q:Q (x.cps.toList.map f) σ):∃ items same,SrcK σ .plain [.str x] items same∧items.length≤Ab∧Bi turn same items [] σ Q:=
 ⟨_,_,.str hx,by rw [List.length_map];exact Nat.le_trans hl (by decide),EC (g:=fun c=>.str (EW c)) (fun c=>some (f c)) trivial _ [] h (by rw [Bu];exact q)⟩
end Mine.Internal
namespace Mine.Internal
open PySem
set_option genSizeOf false
set_option genInjectivity false
structure Shx where
 W:Int
 H:Int
 s:Str
noncomputable def Shx.v (x:Shx):V:=.tup [.int x.W,.int x.H,.str x.s]
noncomputable def Sh.x (s:Sh):Shx:=⟨s.W,s.H,if s.b then Str.ofString "low" else Str.ofString "left"⟩
structure Shx.Good (x:Shx):Prop where
 w:1≤x.W∧x.W≤1000000
 h:1≤x.H∧x.H≤1000000
 s:x.s=Str.ofString "low"∨x.s=Str.ofString "left"
structure Fit (xs:List Shx):Prop where
 n:1≤xs.length∧xs.length≤9
 all:∀ x∈xs,x.Good
theorem F9:PyData.eqv (.str x) (.str y)=(x==y):=rfl
theorem PP (hs:PyData.strOk s=true) (q:(s=Str.ofString "low"∨s=Str.ofString "left")→K false) (q':¬ (s=Str.ofString "low"∨s=Str.ofString "left")→K true):CmpK σ K .NotIn (.str s) (.tup [.str (Str.ofString "low"),.str (Str.ofString "left")]):=by
 refine .ninT (x:=.str s) (ys:=[.str (Str.ofString "low"),.str (Str.ofString "left")]) rfl rfl hs (by decide +kernel) ?_
 rw [List.any_cons,List.any_cons,List.any_nil,F9,F9,Bool.or_false]
 by_cases h:s=Str.ofString "low"∨s=Str.ofString "left"
 ·rw [show ((Str.ofString "low"==s)||(Str.ofString "left"==s))=true from Bool.or_eq_true_iff.mpr (h.imp (fun e=>beq_iff_eq.mpr e.symm) fun e=>beq_iff_eq.mpr e.symm)]
  exact q h
 ·rw [show ((Str.ofString "low"==s)||(Str.ofString "left"==s))=false from Bool.or_eq_false_iff.mpr ⟨beq_eq_false_iff_ne.mpr fun e=>h (.inl e.symm),beq_eq_false_iff_ne.mpr fun e=>h (.inr e.symm)⟩]
  exact q' h
theorem TD:put "shelves" v []=[(("shelves":Str),v)]:=rfl
theorem S6:put "boxes" v [(("shelves":Str),u)]=[(("shelves":Str),u),(("boxes":Str),v)]:=rfl
theorem US:put "places" v [(("shelves":Str),u),(("boxes":Str),w)]=[(("shelves":Str),u),(("boxes":Str),w),(("places":Str),v)]:=rfl
noncomputable def KpB (m:Nat) (σ σ':AD):Prop:=∀ (x:Nat) (o:O),x≠m→σ[x]?=some o→σ'[x]?=some o
end Mine.Internal
namespace Mine.Internal
open PySem
set_option genSizeOf false
set_option genInjectivity false
theorem UI (I:Nat→List V→AD→Prop) (e:σ[n]?=some (.dict ep kvs)) (h0:I 0 ρ σ)
  (step:∀ (i:Nat) (p:Str × V) ρ σ (R:List V→AD→Prop),kvs[i]?=some p→I i ρ σ→(∀ ρ' σ',σ'[n]?=some (.dict ep kvs)→I (i+1) ρ' σ'→R ρ' σ')→turn (.str p.1) ρ σ (C9 R Q))
  (fin:∀ ρ σ,I kvs.length ρ σ→Q .next ρ σ):∃ items same,SrcK σ .plain [.ref n] items same∧Fk turn same items ρ σ Q:=
 ⟨_,_,.dict e,Dz I _ 0 ρ σ (fun i v ρ σ K hv hI h1=>by
  rw [Nat.zero_add] at hI h1
  refine AF (List.mem_map_get hv) fun p hp ze1=>?_;subst ze1
  exact step i p ρ σ K hp hI h1) (fun ρ σ h=>fin ρ σ (by rw [Nat.zero_add,List.length_map] at h;exact h)) h0⟩
theorem Rh (hx:PyData.strOk x=true) (hs:∀ s,skip=some s→PyData.strOk s=true) (q:K (B7 skip x)):N8 σ K .NotEq (.str x) (Qo skip):=by
 cases skip with
 | none=>exact .ne (x:=.str x) (y:=.none) rfl rfl hx rfl q
 | some s=>exact .ne (x:=.str x) (y:=.str s) rfl rfl hx (hs s rfl) (by
  have e:B7 (some s) x=!(PyData.eqv (.str x) (.str s)):=by
   rw [F9]
   show (!(s==x))=!(x==s)
   rw [Bool.beq_comm]
  rw [e] at q;exact q)
theorem Qm:∀ {skip:Option Str},def? (Qo skip)=true
 | none=>rfl
 | some _=>rfl
abbrev Be (k:Int):Prop:=1≤k∧k≤1000000
theorem SI (h:(l.any fun p=>decide (p.1=k))=false):put k v l=l++[(k,v)]:=by
 unfold put;rw [if_neg (by rw [h];exact Bool.false_ne_true)]
theorem MB {f:En→V} (h:e.name∉es.map (·.name)):put e.name (f e) (es.map fun e=>(e.name,f e))=(es++[e]).map fun e=>(e.name,f e):=by
 rw [SI (by rw [IZ];exact decide_eq_false h),List.map_append];rfl
noncomputable def stood (σ:AD) (B P ep1 ep2:Nat) (es:List En):AD:=(σ.set B (.dict ep1 (B5 es))).set P (.dict ep2 (Bq es))
theorem Rk.stood (R:Rk C σ r shs es S B P epB epP) (h:B≠P) (ep1 ep2:Nat):Rk C (stood σ B P ep1 ep2 es') r shs es' S B P ep1 ep2:=by
 have kp:∀ (x:Nat) (o:O),σ[x]?=some o→(∀ ep kvs,o≠.dict ep kvs)→(Mine.Internal.stood σ B P ep1 ep2 es')[x]?=some o:=fun x o e hd=>
  AI (fun z=>by rw [← z,R.pl] at e;cases e;exact hd _ _ rfl) (AI (fun z=>by rw [← z,R.bx] at e;cases e;exact hd _ _ rfl) e)
 refine AF R.at_.ex fun m h1 h2=>?_
 exact ⟨⟨m,kp _ _ h1 nofun,kp _ _ h2 nofun⟩,kp _ _ R.sh nofun,AI h.symm (AZ R.bx),AZ (AI h R.pl)⟩
theorem Rq (h:FP On n l r):∀ p:Pl4,r=some p→∃ k:Nat,p.1=k∧n≤k∧k<n+l.length:=by
 induction h with
 | nil=>intro p e;cases e
 | @hit n sh os l q _=>intro p e;cases e;exact ⟨n,rfl,Nat.le_refl _,Nat.lt_add_of_pos_right (Nat.zero_lt_succ _)⟩
 | @miss n sh os l r _ _ ih=>intro p e;refine Ae (ih p e) fun k e1 h1 h2=>?_;exact ⟨k,e1,Nat.le_of_succ_le h1,Nat.lt_of_lt_of_eq h2 (Nat.succ_add_eq_add_succ n l.length)⟩
theorem Ig (h:FP On n l (some p)):∃ k:Nat,p.1=k∧n≤k∧k<n+l.length:=Rq h p rfl
structure Esok (shs:List Sh) (es:List En):Prop where
 nodup:(es.map (·.name)).Nodup
 num:∀ e∈es,e.n<shs.length
 str:∀ e∈es,PyData.strOk e.name=true
 len:es.length<63
end Mine.Internal
namespace Mine.Internal
open PySem
set_option genSizeOf false
set_option genInjectivity false
noncomputable def En.key (shs:List Sh) (e:En):List Int:=G7 ((shs.getD e.n ⟨0,0,false⟩).b) e.n (e.u,e.l) e.r
theorem HZ {α:Type} {turn:V→AD→AO→Prop} {g:α→V} {σ:AD} (f:α→V) {Q:List V→AD→Prop}:∀ (l:List α) (acc:List V),(∀ x∈l,∀ K:AO,K (f x) σ→turn (g x) σ K)→Q (acc++l.map f) σ→Hn turn (l.map g) acc σ Q
 | [],acc,_,q=>by rw [List.map_nil,List.append_nil] at q;exact q
 | x::l,acc,h,q=>h x List.mem_cons_self _ (HZ f l _ (fun y hy=>h y (List.mem_cons_of_mem _ hy)) (by rw [List.append_assoc];exact q))
inductive TabAt (T:Addr) (σ:AD) (ln col:Int) (q:Str):Prop
 | tab:σ[1]?=some (.tab T)→TabAt T σ ln col q
 | row (m:Nat):σ[1]?=some (.row T ln col m)→σ[m]?=some (.code q)→TabAt T σ ln col q
theorem TabAt.w (t:TabAt T σ ln col q) (h:∀ m σ',KpB 1 σ σ'→σ'[m]?=some (.code q)→σ'[1]?=some (.row T ln col m)→K m σ'):TabW T q ln col σ K:=by
 cases t with
 | tab e=>exact .inl ⟨e,h _ _ (fun x o hx hh=>AC (AI hx.symm hh)) (by
   rw [List.getElem?_append_right (by rw [List.length_set];exact Nat.le_refl _),List.length_set,Nat.sub_self];rfl) (AC (AZ e))⟩
 | row m e e'=>exact .inr ⟨m,e,e',h m σ (fun _ _ _ hh=>hh) e' e⟩
theorem Rk.keepsB (R:Rk C σ r shs es S B P epB epP) (t:TabAt T σ ln col q) (k:KpB 1 σ σ'):Rk C σ' r shs es S B P epB epP:=by
 have kp:∀ (x:Nat) (o:O),(∀ T ln col m,o≠.tab T∧o≠.row T ln col m)→σ[x]?=some o→σ'[x]?=some o:=fun x o hd e=>k x o (fun z=>by
  subst z
  cases t with
  | tab e'=>rw [e'] at e;cases e;exact (hd T 0 0 0).1 rfl
  | row m e' _=>rw [e'] at e;cases e;exact (hd T ln col m).2 rfl) e
 refine AF R.at_.ex fun m h1 h2=>?_
 exact ⟨⟨m,kp _ _ (fun _ _ _ _=>⟨nofun,nofun⟩) h1,kp _ _ (fun _ _ _ _=>⟨nofun,nofun⟩) h2⟩,kp _ _ (fun _ _ _ _=>⟨nofun,nofun⟩) R.sh,kp _ _ (fun _ _ _ _=>⟨nofun,nofun⟩) R.bx,kp _ _ (fun _ _ _ _=>⟨nofun,nofun⟩) R.pl⟩
theorem Rk.pl_ne (R:Rk C σ r shs es S B P epB epP) (t:TabAt T σ ln col q):P≠1:=fun z=>by
 have:=R.pl
 rw [z] at this
 cases t with
 | tab e'=>rw [e'] at this;cases this
 | row m e' _=>rw [e'] at this;cases this
theorem T7 {shs:List Sh} {e:En}:e.key shs≠[]:=by unfold En.key G7;split <;> exact List.cons_ne_nil _ _
end Mine.Internal
namespace Mine.Internal
set_option genSizeOf false
set_option genInjectivity false
structure Qp where
 n:Nat
 p:Int
 s:Int
 r:Bool
noncomputable def Qp.le (x y:Qp):Prop:=x.n<y.n∨(x.n=y.n∧(x.p<y.p∨(x.p=y.p∧(x.s<y.s∨(x.s=y.s∧(x.r=true→y.r=true))))))
theorem Qp.ext {x y:Qp} (h1:x.n=y.n) (h2:x.p=y.p) (h3:x.s=y.s) (h4:x.r=y.r):x=y:=congr (congr (congr (congrArg Qp.mk h1) h2) h3) h4
theorem Qp.le_refl (x:Qp):x.le x:=.inr ⟨rfl,.inr ⟨rfl,.inr ⟨rfl,id⟩⟩⟩
theorem Qp.le_trans {x y z:Qp} (h:x.le y) (h':y.le z):x.le z:=
 FM Nat.lt_trans (FM Int.lt_trans (FM Int.lt_trans fun h g z=>g (h z))) h h'
theorem Qp.le_antisymm {x y:Qp} (h:x.le y) (h':y.le x):x=y:=by
 have a:=GM Nat.lt_asymm Nat.lt_irrefl h h'
 have b:=GM Int.lt_asymm Int.lt_irrefl a.2.1 a.2.2
 have c:=GM Int.lt_asymm Int.lt_irrefl b.2.1 b.2.2
 exact Qp.ext a.1 b.1 c.1 (Bool.eq_iff_iff.mpr ⟨c.2.1,c.2.2⟩)
theorem Qp.le_np {x y:Qp} (h:x.le y):x.n<y.n∨(x.n=y.n∧x.p≤y.p):=by
 rcases h with h | ⟨h1,h | ⟨h2,_⟩⟩
 ·exact .inl h
 ·exact .inr ⟨h1,Int.le_of_lt h⟩
 ·exact .inr ⟨h1,Int.le_of_eq h2⟩
theorem Qp.between {x y z:Qp} (h:x.le y) (h':y.le z) (e:z.n=x.n∧z.p=x.p):y.n=x.n∧y.p=x.p:=by
 have a:=Qp.le_np h
 have b:=Qp.le_np h'
 clear h h'
 exact ⟨Or.elim b (fun z0=>Or.elim a (fun z1=>Nat.le_antisymm (an3 .le .v0 .v1 (.t .v0 .v2 (.q .v2 .v1 .e)) rfl z0 e.1) (an2 .le .v0 .v1 (.t .v0 .v1 .e) rfl z1)) (fun z1=>Nat.le_antisymm (an2 .le .v0 .v1 (.p .v1 .v0 .e) rfl z1.1) (an2 .le .v0 .v1 (.q .v0 .v1 .e) rfl z1.1))) (fun z0=>Nat.le_antisymm (an3 .le .v0 .v1 (.q .v0 .v2 (.q .v2 .v1 .e)) rfl z0.1 e.1) (an3 .le .v0 .v1 (.p .v2 .v0 (.p .v1 .v2 .e)) rfl e.1 z0.1)),Or.elim b (fun z0=>Or.elim a (fun z1=>(am3 (.t .v0 .v1 (.t .v1 .v2 (.q .v2 .v0 .e))) rfl z1 z0 e.1).elim) (fun z1=>(am3 (.q .v0 .v1 (.t .v1 .v2 (.q .v2 .v0 .e))) rfl z1.1 z0 e.1).elim)) (fun z0=>Or.elim a (fun z1=>(am3 (.t .v0 .v1 (.q .v1 .v2 (.q .v2 .v0 .e))) rfl z1 z0.1 e.1).elim) (fun z1=>Int.le_antisymm (ai3 .le .v0 .v1 (.l .v0 .v2 (.q .v2 .v1 .e)) rfl z0.2 e.2) (ai2 .le .v0 .v1 (.l .v0 .v1 .e) rfl z1.2)))⟩
theorem Qp.le_s {x y:Qp} (h:x.le y) (e:y.n=x.n∧y.p=x.p):x.s≤y.s:=by
 rcases h with h | ⟨_,h | ⟨_,h | ⟨h,_⟩⟩⟩
 ·exact absurd e.1.symm (Nat.ne_of_lt h)
 ·exact absurd e.2.symm (Int.ne_of_lt h)
 ·exact Int.le_of_lt h
 ·exact Int.le_of_eq h
abbrev Cfg:=Nat→Qp
section
variable (A B:Nat→Nat→Bool→Int) (Ins:Nat→Qp→Prop) (N:Nat)
noncomputable def Apart (i j:Nat) (x y:Qp):Prop:=x.n≠y.n∨x.p+A i x.n x.r≤y.p∨y.p+A j y.n y.r≤x.p∨x.s+B i x.n x.r≤y.s∨y.s+B j y.n y.r≤x.s
structure Sound (X:Cfg):Prop where
 ins:∀ i,i<N→Ins i (X i)
 apart:∀ i j,i<N→j<N→i≠j→Apart A B i j (X i) (X j)
structure Step (i:Nat) (X Y:Cfg):Prop where
 lt:i<N
 other:∀ j,j≠i→Y j=X j
 ins:Ins i (Y i)
 free:∀ j,j<N→j≠i→Apart A B i j (Y i) (X j)
 least:∀ q,Ins i q→(∀ j,j<N→j≠i→Apart A B i j q (X j))→(Y i).le q
inductive Steps:List Nat→Cfg→Cfg→Prop
 | nil {X:Cfg}:Steps [] X X
 | cons {i:Nat} {is:List Nat} {X Y Z:Cfg}:Step A B Ins N i X Y→Steps is Y Z→Steps (i::is) X Z
end
section
variable {A B:Nat→Nat→Bool→Int} {Ins:Nat→Qp→Prop} {N:Nat}
theorem Apart.symm (h:Apart A B i j x y):Apart A B j i y x:=by
 refine Pb h (fun h=>?_) (fun h=>?_) (fun h=>?_) (fun h=>?_) (fun h=>?_)
 ·exact .inl h.symm
 ·exact .inr (.inr (.inl h))
 ·exact .inr (.inl h)
 ·exact .inr (.inr (.inr (.inr h)))
 ·exact .inr (.inr (.inr (.inl h)))
theorem Step.sound (h:Step A B Ins N i X Y) (s:Sound A B Ins N X):Sound A B Ins N Y where
 ins j hj:=by
  by_cases e:j=i
  ·rw [e];exact h.ins
  ·rw [h.other j e];exact s.ins j hj
 apart j k hj hk hjk:=by
  by_cases e:j=i
  ·subst e
   rw [h.other k hjk.symm];exact h.free k hk hjk.symm
  ·by_cases e':k=i
   ·subst e'
    rw [h.other j hjk];exact (h.free j hj hjk).symm
   ·rw [h.other j e,h.other k e'];exact s.apart j k hj hk hjk
theorem Step.le (h:Step A B Ins N i X Y) (s:Sound A B Ins N X) (j:Nat):(Y j).le (X j):=by
 by_cases e:j=i
 ·subst e
  exact h.least _ (s.ins j h.lt) fun k hk hkj=>s.apart j k h.lt hk hkj.symm
 ·rw [h.other j e];exact Qp.le_refl _
theorem Steps.sound (h:Steps A B Ins N is X Y) (s:Sound A B Ins N X):Sound A B Ins N Y:=by
 induction h with
 | nil=>exact s
 | cons h _ ih=>exact ih (h.sound s)
theorem Steps.le (h:Steps A B Ins N is X Y) (s:Sound A B Ins N X) (j:Nat):(Y j).le (X j):=by
 induction h with
 | nil=>exact Qp.le_refl _
 | cons h _ ih=>exact Qp.le_trans (ih (h.sound s)) (h.le s j)
theorem N1 (hA:∀ i n r,0<A i n r) (hB:∀ i n r,0<B i n r) (s:Sound A B Ins N F) (L:List Nat) (hN:∀ i∈L,i<N) (hp:L.Pairwise (fun x y=>(F y).s≤(F x).s)) (h0:L≠[]) :
  ∃ c∈L,∀ d∈L,d≠c→(F d).n=(F c).n→¬ ((F d).s<(F c).s+B c (F c).n (F c).r∧(F d).p<(F c).p+A c (F c).n (F c).r):=by
 induction L with
 | nil=>exact absurd rfl h0
 | cons m L ih=>
  by_cases hl:L=[]
  ·subst hl;exact ⟨m,List.mem_cons_self,fun d hd hne=>absurd (List.mem_singleton.mp hd) hne⟩
  have hp':=List.pairwise_cons.mp hp
  refine AF (ih (fun i hi=>hN i (List.mem_cons_of_mem _ hi)) hp'.2 hl) fun c hc hmin=>?_
  have hcm:=hp'.1 c hc
  by_cases hcm':m≠c∧(F m).n=(F c).n∧(F m).s<(F c).s+B c (F c).n (F c).r∧(F m).p<(F c).p+A c (F c).n (F c).r
  ·refine GS hcm' fun hne hn h1 h2=>?_
   have ap:=s.apart c m (hN c (List.mem_cons_of_mem _ hc)) (hN m List.mem_cons_self) hne.symm
   have hBm:=hB m (F m).n (F m).r
   have hAm:=hA m (F m).n (F m).r
   have hAc:=hA c (F c).n (F c).r
   have hv:(F m).p+A m (F m).n (F m).r≤(F c).p:=by
    refine Pb ap (fun h=>?_) (fun h=>?_) (fun h=>?_) (fun h=>?_) (fun h=>?_)
    ·exact absurd hn.symm h
    ·exact (aj3 (.l (.a .v0 .v1) .v2 (.t .v2 (.a .v0 .v1) .e)) rfl h h2).elim
    ·exact h
    ·exact (aj3 (.l (.a .v0 .v1) .v2 (.t .v2 (.a .v0 .v1) .e)) rfl h h1).elim
    ·exact (aj3 (.l (.a .v0 .v1) .v2 (.l .v2 .v0 (.t .n0 .v1 .e))) rfl h hcm hBm).elim
   refine ⟨m,List.mem_cons_self,fun d hd hdm hdn hh=>?_⟩
   have hd':=(List.mem_cons.mp hd).resolve_left hdm
   by_cases hdc:d=c
   ·subst hdc;exact aj3 (.l (.a .v0 .v1) .v2 (.t .v2 (.a .v0 .v1) .e)) rfl hv hh.2
   ·have h3:=hp'.1 d hd'
    exact hmin d hd' hdc (hdn.trans hn) ⟨by exact ai4 .lt .v0 (.a .v1 .v2) (.t .v3 (.a .v1 .v2) (.l .v0 .v3 .e)) rfl h1 h3,by exact ai5 .lt .v0 (.a .v1 .v2) (.t .v0 (.a .v3 .v4) (.l (.a .v3 .v4) .v1 (.t .n0 .v2 .e))) rfl hh.2 hv hAc⟩
  ·refine ⟨c,List.mem_cons_of_mem _ hc,fun d hd hdc hdn hh=>?_⟩
   refine Or.elim (List.mem_cons.mp hd) (fun e=>?_) (fun hd'=>?_)
   ·subst e;exact hcm' ⟨hdc,hdn,hh⟩
   ·exact hmin d hd' hdc hdn hh
theorem Steps.done {F:Cfg} {c:Nat} {S:Nat→Prop} (hc:c<N) (sF:Sound A B Ins N F) (hS:∀ d,d<N→d≠c→S d→(F d).n=(F c).n→¬ ((F d).s<(F c).s+B c (F c).n (F c).r∧(F d).p<(F c).p+A c (F c).n (F c).r)) {is:List Nat} {X Y:Cfg} (h:Steps A B Ins N is X Y) (sX:Sound A B Ins N X)
  (hFY:∀ j,(F j).le (Y j)) (hprim:∀ j,j<N→(X j).n=(F j).n∧(X j).p=(F j).p) (hX:∀ j,j<N→¬ S j→X j=F j) (hA:∀ i n r,0<A i n r) (hin:c∈is):Y c=F c:=by
 induction h with
 | nil=>cases hin
 | @cons i is X Z Y st rest ih=>
  have sZ:=st.sound sX
  have hle:∀ j,(F j).le (Z j):=fun j=>Qp.le_trans (hFY j) (rest.le sZ j)
  have hp':∀ j,j<N→(Z j).n=(F j).n∧(Z j).p=(F j).p:=fun j hj=>Qp.between (hle j) (st.le sX j) (hprim j hj)
  have hX':∀ j,j<N→¬ S j→Z j=F j:=fun j hj hs=>by
   have h2:=st.le sX j
   rw [hX j hj hs] at h2
   exact Qp.le_antisymm h2 (hle j)
  by_cases e:c=i
  ·subst e
   have hfree:∀ j,j<N→j≠c→Apart A B c j (F c) (X j):=fun j hj hjc=>by
    by_cases hs:S j
    ·by_cases hn:(X j).n=(F c).n
     ·have hp:=hprim j hj
      have hle':=Qp.le_trans (hle j) (st.le sX j)
      have key:=hS j hj hjc hs (hp.1▸hn)
      have hs':(F j).s≤(X j).s:=Qp.le_s hle' hp
      by_cases h1:(F c).s+B c (F c).n (F c).r≤(X j).s
      ·exact .inr (.inr (.inr (.inl h1)))
      ·refine .inr (.inl ?_)
       rw [hp.2]
       refine Or.elim (Int.lt_or_le (F j).p ((F c).p+A c (F c).n (F c).r)) (fun h2=>?_) (fun h2=>?_)
       ·exact absurd ⟨by exact ai4 .lt .v0 (.a .v1 .v2) (.l .v0 .v3 (.m (.a .v1 .v2) .v3 .e)) rfl hs' h1,h2⟩ key
       ·exact h2
     ·exact .inl fun z=>hn z.symm
    ·rw [hX j hj hs];exact sF.apart c j hc hj hjc.symm
   have h1:=st.least (F c) (sF.ins c hc) hfree
   have e:Z c=F c:=Qp.le_antisymm h1 (hle c)
   have h2:=rest.le sZ c
   rw [e] at h2
   exact Qp.le_antisymm h2 (hFY c)
  ·exact ih sZ hFY hp' hX' ((List.mem_cons.mp hin).resolve_left e)
end
theorem Nf {α:Type} {p q:α→Bool} {l:List α} (h1:∀ x∈l,p x=true→q x=true) (h2:∃ x∈l,q x=true∧p x=false):l.countP p<l.countP q:=by
 refine Ae h2 fun x hx hq hp=>?_
 refine (List.append_of_mem hx).elim fun s h=>h.elim fun t e=>?_
 subst e
 rw [List.countP_append,List.countP_append,List.countP_cons_of_neg (fun z=>nomatch hp.symm.trans z),List.countP_cons_of_pos hq]
 exact Nat.add_lt_add_of_le_of_lt (List.countP_mono_left fun y hy=>h1 y (List.mem_append_left _ hy)) (Nat.lt_succ_of_le (List.countP_mono_left fun y hy=>h1 y (List.mem_append_right _ (List.mem_cons_of_mem _ hy))))
noncomputable def DK (f:Nat→Nat):Nat→Nat
 | 0=>0
 | n+1=>DK f n+f n
theorem MW (h:∀ i,i<n→f i≤g i):DK f n≤DK g n:=by
 induction n with
 | zero=>exact Nat.le_refl _
 | succ n ih=>exact Nat.add_le_add (ih fun i hi=>h i (Nat.lt_succ_of_lt hi)) (h n (Nat.lt_succ_self n))
theorem Q6 (h:∀ i,i<n→f i≤g i) (e:DK g n≤DK f n) (i:Nat) (hi:i<n):f i=g i:=by
 induction n with
 | zero=>exact absurd hi (Nat.not_lt_zero _)
 | succ n ih=>
  have h2:=h n (Nat.lt_succ_self n)
  refine Or.elim (Nat.lt_succ_iff_lt_or_eq.mp hi) (fun hl=>?_) (fun hl=>?_)
  ·exact ih (fun i hi=>h i (Nat.lt_succ_of_lt hi)) (Nat.le_of_add_le_add_right (Nat.le_trans e (Nat.add_le_add_left h2 _))) hl
  ·rw [hl];exact Nat.le_antisymm h2 (Nat.le_of_add_le_add_left (Nat.le_trans e (Nat.add_le_add_right (MW fun i hi=>h i (Nat.lt_succ_of_lt hi)) _)))
theorem Kr (h:∀ i,i<n→f i≤b):DK f n≤n*b:=by
 induction n with
 | zero=>exact Nat.zero_le _
 | succ n ih=>rw [Nat.succ_mul];exact Nat.add_le_add (ih fun i hi=>h i (Nat.lt_succ_of_lt hi)) (h n (Nat.lt_succ_self n))
section
variable {A B:Nat→Nat→Bool→Int} {Ins:Nat→Qp→Prop} {N:Nat}
open Classical in
noncomputable def L7 (N:Nat) (F X:Cfg):Nat:=(List.range N).countP fun i=>decide (X i≠F i)
structure Round (A B:Nat→Nat→Bool→Int) (Ins:Nat→Qp→Prop) (N:Nat) (X Y:Cfg):Prop where
 ex:∃ is,Steps A B Ins N is X Y∧∀ i,i<N→i∈is
theorem Round.sound (h:Round A B Ins N X Y) (s:Sound A B Ins N X):Sound A B Ins N Y:=h.ex.elim fun _ h=>h.1.sound s
theorem Round.le (h:Round A B Ins N X Y) (s:Sound A B Ins N X) (j:Nat):(Y j).le (X j):=h.ex.elim fun _ h=>h.1.le s j
theorem Round.fewer (hA:∀ i n r,0<A i n r) (hB:∀ i n r,0<B i n r) (h:Round A B Ins N X Y) (sF:Sound A B Ins N F) (sX:Sound A B Ins N X) (hFY:∀ j,(F j).le (Y j)) (hprim:∀ j,j<N→(X j).n=(F j).n∧(X j).p=(F j).p)
  (ho:∃ i,i<N∧X i≠F i):L7 N F Y<L7 N F X:=by
 classical
 refine AF h.ex fun is st hall=>?_
 have hYX:=st.le sX
 let L:=((List.range N).filter fun i=>decide (X i≠F i)).mergeSort fun x y=>decide ((F y).s≤(F x).s)
 have hmem:∀ i,i∈L↔i<N∧X i≠F i:=fun i=>by
  rw [List.mem_mergeSort,List.mem_filter,List.mem_range,decide_eq_true_iff]
 have hsort:L.Pairwise fun x y=>(F y).s≤(F x).s:=by
  have:=List.pairwise_mergeSort (le:=fun x y=>decide ((F y).s≤(F x).s)) (by intro a b c;simp only [decide_eq_true_eq];exact fun z0=>fun z1=>ai3 .le .v0 .v1 (.l .v0 .v2 (.l .v2 .v1 .e)) rfl z1 z0) (by intro a b;simp only [Bool.or_eq_true,decide_eq_true_eq];exact Classical.or_iff_not_imp_left.mpr fun z0=>ai2 .le .v0 .v1 (.m .v1 .v0 .e) rfl z0) ((List.range N).filter fun i=>decide (X i≠F i))
  exact this.imp fun h=>of_decide_eq_true h
 refine AF ho fun i0 h0 h0'=>?_
 refine AF (N1 hA hB sF L (fun i hi=>((hmem i).mp hi).1) hsort (List.ne_nil_of_mem ((hmem i0).mpr ⟨h0,h0'⟩))) fun c hc hmin=>?_
 obtain ⟨hcN,hcX⟩:=(hmem c).mp hc
 have hY:Y c=F c:=st.done (S:=fun d=>X d≠F d) hcN sF (fun d hd hdc hs=>hmin d ((hmem d).mpr ⟨hd,hs⟩) hdc) sX hFY hprim (fun j _ hs=>Classical.not_not.mp hs) hA (hall c hcN)
 refine Nf (fun x hx hp=>?_) ⟨c,List.mem_range.mpr hcN,decide_eq_true hcX,decide_eq_false (not_not_intro hY)⟩
 rw [decide_eq_true_iff] at hp ⊢
 intro e
 have h1:=hYX x
 rw [e] at h1
 exact hp (Qp.le_antisymm h1 (hFY x))
variable {Yk:Nat→Cfg} {M:Nat}
theorem ED (h0:Sound A B Ins N (Yk 0)) (hr:∀ k,k<M→Round A B Ins N (Yk k) (Yk (k+1))):∀ k,k≤M→Sound A B Ins N (Yk k)
 | 0,_=>h0
 | k+1,h=>(hr k h).sound (ED h0 hr k (Nat.le_of_succ_le h))
theorem Gb (h0:Sound A B Ins N (Yk 0)) (hr:∀ k,k<M→Round A B Ins N (Yk k) (Yk (k+1))):∀ d,j+d≤M→∀ i,(Yk (j+d) i).le (Yk j i)
 | 0,_,_=>Qp.le_refl _
 | d+1,h,i=>Qp.le_trans ((hr (j+d) h).le (ED h0 hr _ (Nat.le_of_succ_le h)) i) (Gb h0 hr d (Nat.le_of_succ_le h) i)
theorem Lm (hA:∀ i n r,0<A i n r) (hB:∀ i n r,0<B i n r) (h0:Sound A B Ins N (Yk 0)) (hr:∀ k,k<M→Round A B Ins N (Yk k) (Yk (k+1))∧∃ i,i<N∧Yk (k+1) i≠Yk k i) {j e:Nat} (hj:j+e≤M)
  (hprim:∀ i,i<N→(Yk j i).n=(Yk (j+e) i).n∧(Yk j i).p=(Yk (j+e) i).p):e≤N:=by
 have hr':∀ k,k<M→Round A B Ins N (Yk k) (Yk (k+1)):=fun k hk=>(hr k hk).1
 have sd:=ED h0 hr'
 have key:∀ d,d≤e→L7 N (Yk (j+e)) (Yk (j+d))+d≤N:=by
  intro d
  induction d with
  | zero=>
   intro _
   refine Nat.le_trans (List.countP_le_length) ?_
   rw [List.length_range];exact Nat.le_refl _
  | succ d ih=>
   intro hd
   have ih:=ih (Nat.le_of_succ_le hd)
   have hlt:j+d<M:=Nat.lt_of_lt_of_le (Nat.add_lt_add_left hd j) hj
   have hle1:∀ i,(Yk (j+e) i).le (Yk (j+d+1) i):=fun i=>by
    have e':j+d+1+(e - (d+1))=j+e:=(Nat.add_assoc j (d+1) _).trans (congrArg (j+·) (Nat.add_sub_cancel' hd))
    have:=Gb h0 hr' (j:=j+d+1) (e - (d+1)) (Nat.le_trans (Nat.le_of_eq e') hj) i
    rw [e'] at this;exact this
   have hle2:=fun i=>Gb h0 hr' (j:=j) d (Nat.le_of_lt hlt) i
   have hle3:∀ i,(Yk (j+e) i).le (Yk (j+d) i):=fun i=>Qp.le_trans (hle1 i) ((hr' (j+d) hlt).le (sd _ (Nat.le_of_lt hlt)) i)
   have hp:∀ i,i<N→(Yk (j+d) i).n=(Yk (j+e) i).n∧(Yk (j+d) i).p=(Yk (j+e) i).p:=fun i hi=>by
    exact Qp.between (hle3 i) (hle2 i) (hprim i hi)
   have hne:∃ i,i<N∧Yk (j+d) i≠Yk (j+e) i:=by
    refine AF ((hr (j+d) hlt).2) fun i hi hn=>?_
    refine ⟨i,hi,fun z=>hn ?_⟩
    have h1:=(hr' (j+d) hlt).le (sd _ (Nat.le_of_lt hlt)) i
    have h2:=hle1 i
    rw [z] at h1
    rw [z];exact Qp.le_antisymm h1 h2
   have:=(hr (j+d) hlt).1.fewer hA hB (sd (j+e) hj) (sd _ (Nat.le_of_lt hlt)) hle1 hp hne
   show L7 N (Yk (j+e)) (Yk (j+d+1))+(d+1)≤N
   exact an4 .le (.a .v0 (.a .v1 .n1)) .v2 (.t .v0 .v3 (.l (.a .v3 .v1) .v2 .e)) rfl this ih
 have:=key e (Nat.le_refl _)
 exact an3 .le .v0 .v1 (.l (.a .v2 .v0) .v1 .e) rfl this
theorem IY (hA:∀ i n r,0<A i n r) (hB:∀ i n r,0<B i n r) (h0:Sound A B Ins N (Yk 0)) (hr:∀ k,k<M→Round A B Ins N (Yk k) (Yk (k+1))∧∃ i,i<N∧Yk (k+1) i≠Yk k i) (idx:Qp→Nat)
  (hi:∀ i x y,Ins i x→Ins i y→x.le y→idx x≤idx y∧(idx x=idx y→x.n=y.n∧x.p=y.p)):∀ j,j≤M→j+DK (fun i=>idx (Yk j i)) N*(N+1)≤DK (fun i=>idx (Yk 0 i)) N*(N+1)+N:=by
 have hr':∀ k,k<M→Round A B Ins N (Yk k) (Yk (k+1)):=fun k hk=>(hr k hk).1
 have sd:=ED h0 hr'
 have mono:∀ a d,a+d≤M→∀ i,i<N→idx (Yk (a+d) i)≤idx (Yk a i):=fun a d h i hN=>(hi i _ _ ((sd _ h).ins i hN) ((sd _ (Nat.le_of_add_right_le h)).ins i hN) (Gb h0 hr' d h i)).1
 have same:∀ a d,a+d≤M→DK (fun i=>idx (Yk a i)) N≤DK (fun i=>idx (Yk (a+d) i)) N→d≤N:=fun a d h hs=>
  Lm hA hB h0 hr h fun i hN=>by
   have e:=Q6 (fun i hN=>mono a d h i hN) hs i hN
   have:=(hi i _ _ ((sd _ h).ins i hN) ((sd _ (Nat.le_of_add_right_le h)).ins i hN) (Gb h0 hr' d h i)).2 e
   exact ⟨this.1.symm,this.2.symm⟩
 have go:∀ n j,j≤n→j≤M→j+DK (fun i=>idx (Yk j i)) N*(N+1)≤DK (fun i=>idx (Yk 0 i)) N*(N+1)+N:=by
  intro n
  induction n with
  | zero=>intro j hj _;cases Nat.le_zero.mp hj;exact an2 .le (.a .n0 .v0) (.a .v0 .v1) .e rfl
  | succ n ih=>
   intro j hj hM
   refine Or.elim (Nat.lt_or_ge N j) (fun hl=>?_) (fun hl=>?_)
   ·have hc:j - (N+1)+(N+1)=j:=Nat.sub_add_cancel hl
    have hlt:DK (fun i=>idx (Yk j i)) N<DK (fun i=>idx (Yk (j - (N+1)) i)) N:=by
     refine Nat.lt_of_not_le fun h=>?_
     have:=same (j - (N+1)) (N+1) (hc.symm▸hM) (hc.symm▸h)
     exact am1 (.l (.a .v0 .n1) .v0 .e) rfl this
    have h1:=ih (j - (N+1)) (by exact an4 .le .v0 .v1 (.q (.a .v0 (.a .v2 .n1)) .v3 (.l .v3 (.a .v1 .n1) .e)) rfl hc hj) (by exact an4 .le .v0 .v1 (.q (.a .v0 (.a .v2 .n1)) .v3 (.l .v3 .v1 .e)) rfl hc hM)
    have h2:(DK (fun i=>idx (Yk j i)) N+1)*(N+1)≤DK (fun i=>idx (Yk (j - (N+1)) i)) N*(N+1):=Nat.mul_le_mul_right _ hlt
    rw [Nat.add_mul,Nat.one_mul] at h2
    exact an6 .le (.a .v0 .v1) (.a .v2 .v3) (.l (.a .v1 (.a .v3 .n1)) .v4 (.l (.a .v5 .v4) (.a .v2 .v3) (.p (.a .v5 (.a .v3 .n1)) .v0 .e))) rfl h2 h1 hc
   ·have h1:DK (fun i=>idx (Yk j i)) N≤DK (fun i=>idx (Yk 0 i)) N:=MW fun i hN=>by
     have:=mono 0 j (by exact an2 .le (.a .n0 .v0) .v1 (.l .v0 .v1 .e) rfl hM) i hN
     rw [Nat.zero_add] at this;exact this
    have:=Nat.mul_le_mul_right (N+1) h1
    exact an4 .le (.a .v0 .v1) (.a .v2 .v3) (.l .v1 .v2 (.l .v0 .v3 .e)) rfl this hl
 exact fun j hj=>go j j (Nat.le_refl _) hj
end
end Mine.Internal
namespace Mine.Internal
open PySem
set_option genSizeOf false
set_option genInjectivity false
noncomputable def hbt (ss:List Sh) (n:Nat):Bool:=(ss.getD n ⟨0,0,false⟩).b
theorem LF (h:ss[n]?=some sh):hbt ss n=sh.b:=by unfold hbt;rw [List.getD_eq_getElem?_getD,h];rfl
noncomputable def exA (b r:Bool) (w h:Int):Int:=if b=r then w else h
noncomputable def exB (b r:Bool) (w h:Int):Int:=if b=r then h else w
noncomputable def En.qp (ss:List Sh) (e:En):Qp:=⟨e.n,if hbt ss e.n=true then e.u else e.l,if hbt ss e.n=true then e.l else e.u,e.r⟩
abbrev Dm:=Int × Int × Bool
noncomputable def En.dm (e:En):Dm:=(e.w,e.h,e.t)
noncomputable def HM (D:List Dm) (i:Nat):Dm:=D.getD i (1,1,false)
noncomputable def EM (ss:List Sh) (D:List Dm) (i n:Nat) (r:Bool):Int:=exA (hbt ss n) r (HM D i).1 (HM D i).2.1
noncomputable def EN (ss:List Sh) (D:List Dm) (i n:Nat) (r:Bool):Int:=exB (hbt ss n) r (HM D i).1 (HM D i).2.1
noncomputable def shP (sh:Sh):Int:=if sh.b=true then sh.H else sh.W
noncomputable def shS (sh:Sh):Int:=if sh.b=true then sh.W else sh.H
structure InSh (ss:List Sh) (D:Dm) (q:Qp) (sh:Sh):Prop where
 at_:ss[q.n]?=some sh
 turn:q.r=true→D.2.2=true
 p0:0≤q.p
 s0:0≤q.s
 p1:q.p+exA sh.b q.r D.1 D.2.1≤shP sh
 s1:q.s+exB sh.b q.r D.1 D.2.1≤shS sh
noncomputable def Hb (ss:List Sh) (D:List Dm) (i:Nat) (q:Qp):Prop:=∃ sh,InSh ss (HM D i) q sh
noncomputable def dfl:En:=⟨"", 1,1,false,0,0,0,false⟩
noncomputable def cfg (ss:List Sh) (hs:List En):Cfg:=fun i=>(hs.getD i dfl).qp ss
noncomputable def dms (hs:List En):List Dm:=hs.map En.dm
structure Snd (ss:List Sh) (hs:List En):Prop where
 ins:∀ e∈hs,∃ sh,InSh ss e.dm (e.qp ss) sh
 apart:hs.Pairwise fun a b=>a.n=b.n→Av a.ot.h a.ot.w a.ot.u a.ot.l b.ot.low
 sz:∀ e∈hs,0<e.w∧0<e.h
theorem EI (hw:0<w) (hh:0<h):0<exA b r w h:=by unfold exA;split <;> assumption
theorem FJ (hw:0<w) (hh:0<h):0<exB b r w h:=by unfold exB;split <;> assumption
theorem CT (h:hs[i]?=some e):HM (dms hs) i=e.dm:=by
 unfold HM dms;rw [List.getD_eq_getElem?_getD,List.getElem?_map,h];rfl
theorem BI (h:hs[i]?=some e):cfg ss hs i=e.qp ss:=by
 unfold cfg;rw [List.getD_eq_getElem?_getD,h];rfl
theorem DJ (h:∀ e∈hs,0<e.w∧0<e.h) (i:Nat):0<(HM (dms hs) i).1∧0<(HM (dms hs) i).2.1:=by
 unfold HM dms
 rw [List.getD_eq_getElem?_getD,List.getElem?_map]
 cases e:hs[i]? with
 | none=>exact ⟨by decide,by decide⟩
 | some x=>exact h x (List.mem_of_getElem? e)
theorem Dg {e:En} {b:Bool} (hb:b=true):exA b e.r e.w e.h=e.ot.h∧exB b e.r e.w e.h=e.ot.w:=by
 subst hb;unfold exA exB En.ot;cases e.r <;> exact ⟨rfl,rfl⟩
theorem EA {e:En} {b:Bool} (hb:b=false):exA b e.r e.w e.h=e.ot.w∧exB b e.r e.w e.h=e.ot.h:=by
 subst hb;unfold exA exB En.ot;cases e.r <;> exact ⟨rfl,rfl⟩
theorem Ja {e:En}:e.ot.u=e.u∧e.ot.l=e.l:=by unfold En.ot;cases e.r <;> exact ⟨rfl,rfl⟩
theorem D0:(A∨B∨C∨D)↔(C∨D∨A∨B):=⟨fun h=>G0 h (fun h=>.inr (.inr (.inl h))) (fun h=>.inr (.inr (.inr h))) .inl fun h=>.inr (.inl h),fun h=>G0 h (fun h=>.inr (.inr (.inl h))) (fun h=>.inr (.inr (.inr h))) .inl fun h=>.inr (.inl h)⟩
theorem HW {ss:List Sh} {a b:En} {A B A' B':Int} (hA:A=exA (hbt ss a.n) a.r a.w a.h) (hB:B=exB (hbt ss a.n) a.r a.w a.h) (hA':A'=exA (hbt ss b.n) b.r b.w b.h) (hB':B'=exB (hbt ss b.n) b.r b.w b.h) :
  ((a.qp ss).n≠(b.qp ss).n∨(a.qp ss).p+A≤(b.qp ss).p∨(b.qp ss).p+A'≤(a.qp ss).p∨(a.qp ss).s+B≤(b.qp ss).s∨(b.qp ss).s+B'≤(a.qp ss).s)↔(a.n=b.n→Av a.ot.h a.ot.w a.ot.u a.ot.l b.ot.low):=by
 subst hA hB hA' hB'
 by_cases hn:a.n=b.n
 ·have hq:(a.qp ss).n=(b.qp ss).n:=hn
  have h1:(∀ P:Prop,(a.n=b.n→P)↔P):=fun P=>⟨fun h=>h hn,fun h _=>h⟩
  rw [h1]
  unfold Av Ot.low
  rw [(Ja (e:=a)).1,(Ja (e:=a)).2,(Ja (e:=b)).1,(Ja (e:=b)).2]
  cases hb:hbt ss a.n with
  | true=>
   have hb':hbt ss b.n=true:=hn▸hb
   rw [hb',(Dg (e:=a) rfl).1,(Dg (e:=a) rfl).2,(Dg (e:=b) rfl).1,(Dg (e:=b) rfl).2]
   unfold En.qp;rw [hb,hb']
   exact ⟨fun h=>h.resolve_left (not_not_intro hn),.inr⟩
  | false=>
   have hb':hbt ss b.n=false:=hn▸hb
   rw [hb',(EA (e:=a) rfl).1,(EA (e:=a) rfl).2,(EA (e:=b) rfl).1,(EA (e:=b) rfl).2]
   unfold En.qp;rw [hb,hb']
   exact ⟨fun h=>D0.mp (h.resolve_left (not_not_intro hn)),fun h=>.inr (D0.mp h)⟩
 ·exact ⟨fun _ h=>absurd h hn,fun _=>.inl hn⟩
theorem Eg {a b:En} (h:a.n=b.n→Av a.ot.h a.ot.w a.ot.u a.ot.l b.ot.low) (e:b.n=a.n):Av b.ot.h b.ot.w b.ot.u b.ot.l a.ot.low:=
 G0 (h e.symm) (fun h=>.inr (.inl h)) .inl (fun h=>.inr (.inr (.inr h))) fun h=>.inr (.inr (.inl h))
abbrev MQ (ss:List Sh) (D:List Dm) (N:Nat) (X:Cfg):Prop:=Sound (EM ss D) (EN ss D) (Hb ss D) N X
theorem Jw {ss:List Sh} {hs:List En} {i j:Nat} {a b:En} (ha:hs[i]?=some a) (hb:hs[j]?=some b):Apart (EM ss (dms hs)) (EN ss (dms hs)) i j (cfg ss hs i) (cfg ss hs j)↔(a.n=b.n→Av a.ot.h a.ot.w a.ot.u a.ot.l b.ot.low):=by
 rw [BI ha,BI hb]
 unfold Apart
 exact HW (by unfold EM;rw [CT ha];rfl) (by unfold EN;rw [CT ha];rfl) (by unfold EM;rw [CT hb];rfl) (by unfold EN;rw [CT hb];rfl)
theorem Snd.sound {ss:List Sh} {hs:List En} (h:Snd ss hs):MQ ss (dms hs) hs.length (cfg ss hs) where
 ins i hi:=by
  have e:=List.getElem?_eq_getElem hi
  refine AX (h.ins _ (List.mem_of_getElem? e)) fun sh h=>?_
  rw [BI e]
  exact ⟨sh,by rw [CT e];exact h⟩
 apart i j hi hj hij:=by
  have ei:=List.getElem?_eq_getElem hi
  have ej:=List.getElem?_eq_getElem hj
  rw [Jw ei ej]
  have hp:=List.pairwise_iff_getElem.mp h.apart
  refine Or.elim (Nat.lt_or_ge i j) (fun hl=>?_) (fun hl=>?_)
  ·exact hp i j hi hj hl
  ·exact Eg (hp j i hj hi (Nat.lt_of_le_of_ne hl hij.symm))
theorem Sound.snd (h:MQ ss (dms hs) hs.length (cfg ss hs)) (hz:∀ e∈hs,0<e.w∧0<e.h):Snd ss hs where
 ins e he:=by
  refine AX (List.mem_iff_getElem?.mp he) fun i hi=>?_
  refine AX (h.ins i (List.getElem?_eq_some_iff.mp hi).1) fun sh h=>?_
  rw [BI hi,CT hi] at h
  exact ⟨sh,h⟩
 apart:=List.pairwise_iff_getElem.mpr fun i j hi hj hl=>(Jw (List.getElem?_eq_getElem hi) (List.getElem?_eq_getElem hj)).mp (h.apart i j hi hj (Nat.ne_of_lt hl))
 sz:=hz
noncomputable def exT (r:Bool) (a b:Int):Int:=if r=true then b else a
theorem Qs {p p' s s':Int} {R:Prop} (h:p<p'∨(p=p'∧s≤s')) (hr:R):p<p'∨(p=p'∧(s<s'∨(s=s'∧R))):=h.imp id fun h=>⟨h.1,(Int.lt_or_eq_of_le h.2).imp id fun e=>⟨e,hr⟩⟩
theorem Vk {p p' s s':Int} {R:Prop} (h:p<p'∨(p=p'∧s<s')):p<p'∨(p=p'∧(s<s'∨(s=s'∧R))):=h.imp id fun h=>⟨h.1,.inl h.2⟩
theorem RH {x y u v:Int} (n:¬ (y<x∨(y=x∧v<u))):x<y∨(x=y∧u≤v):=
 (Int.lt_or_le x y).elim .inl fun h=>(fun e:x=y=>.inr ⟨e,Int.not_lt.mp fun z=>n (.inr ⟨e.symm,z⟩)⟩) (Int.le_antisymm (Int.not_lt.mp fun z=>n (.inl z)) h)
noncomputable def Py (O:List Bx) (P S a b:Int) (t:Bool):Option Pl3→Prop
 | none=>∀ p' s' r',(r'=true→t=true)→¬ Gd O P S (exT r' a b) (exT r' b a) p' s'
 | some (p,s,r)=>(r=true→t=true)∧Gd O P S (exT r a b) (exT r b a) p s ∧
  ∀ p' s' r',(r'=true→t=true)→Gd O P S (exT r' a b) (exT r' b a) p' s'→p<p'∨(p=p'∧(s<s'∨(s=s'∧(r=true→r'=true))))
theorem FG {C:Bool→Prop} (h0:C false) (h1:C true):∀ r,C r:=Bool.rec h0 h1
theorem Dw {O:List Bx} {P S a b:Int} {t:Bool} (h:Two O P S a b t d):Py O P S a b t d:=by
 refine Bk h.ex fun d1 d2 f1 f2 f3 e=>?_
 subst e
 cases d2 with
 | none=>
  cases d1 with
  | none=>exact fun p' s'=>FG (fun _=>f1 p' s') fun hr=>f2 (hr rfl) p' s'
  | some x=>exact ⟨nofun,IsMin.good f1,fun p' s'=>FG (fun _ g=>Qs (IsMin.least f1 p' s' g) nofun) fun hr g=>absurd g (f2 (hr rfl) p' s')⟩
 | some y=>
  have ht:t=true:=by
   cases t with
   | true=>rfl
   | false=>exact nomatch f3 rfl
  have f2:=f2 ht
  cases d1 with
  | none=>exact ⟨fun _=>ht,IsMin.good f2,fun p' s'=>FG (fun _ g=>absurd g (f1 p' s')) fun _ g=>Qs (IsMin.least f2 p' s' g) fun _=>rfl⟩
  | some x=>
   by_cases hlt:y.1<x.1∨(y.1=x.1∧y.2<x.2)
   ·rw [show DU (some x) (some y)=some (y.1,y.2,true) from if_pos hlt]
    exact ⟨fun _=>ht,IsMin.good f2,fun p' s'=>FG (fun _ g=>Vk (FM Int.lt_trans Int.lt_of_lt_of_le hlt (IsMin.least f1 p' s' g))) fun _ g=>Qs (IsMin.least f2 p' s' g) fun _=>rfl⟩
   ·rw [show DU (some x) (some y)=some (x.1,x.2,false) from if_neg hlt]
    exact ⟨nofun,IsMin.good f1,fun p' s'=>FG (fun _ g=>Qs (IsMin.least f1 p' s' g) nofun) fun _ g=>Qs (FM Int.lt_trans Int.le_trans (RH hlt) (IsMin.least f2 p' s' g)) nofun⟩
theorem UV {O:List Bx} (ha:0<a) (hb:0<b):∃ d,Two O P S a b t d:=by
 refine AX (Jj (O:=O) (P:=P) (S:=S) ha hb) fun d1 f1=>?_
 refine AX (Jj (O:=O) (P:=P) (S:=S) hb ha) fun d2 f2=>?_
 cases t with
 | true=>exact ⟨_,d1,d2,f1,fun _=>f2,nofun,rfl⟩
 | false=>exact ⟨_,d1,none,f1,nofun,fun _=>rfl,rfl⟩
noncomputable def HU (b:Bool) (os:List Ot):List Bx:=if b=true then os.map Ot.low else os.map Ot.lef
noncomputable def DY (b:Bool):Pl3→Pl3
 | (u,l,r)=>if b=true then (u,l,r) else (l,u,r)
theorem Ic {w h:Int} {t:Bool} {sh:Sh} {os:List Ot} {r:Option Pl3}:OnL w h t sh os r↔Two (HU sh.b os) (shP sh) (shS sh) (exA sh.b false w h) (exB sh.b false w h) t (r.map (DY sh.b)):=by
 obtain ⟨W,H,b⟩:=sh
 cases b with
 | true=>cases r with
  | none=>exact Iff.rfl
  | some x=>exact Iff.rfl
 | false=>cases r with
  | none=>exact Iff.rfl
  | some x=>exact Iff.rfl
theorem L4:exT r (exA b false w h) (exB b false w h)=exA b r w h∧exT r (exB b false w h) (exA b false w h)=exB b r w h:=by
 unfold exT exA exB;cases b <;> cases r <;> exact ⟨rfl,rfl⟩
theorem Tz {w h:Int} {t:Bool} {sh:Sh} {os:List Ot} (hw:0<w) (hh:0<h):∃ r,OnL w h t sh os r:=by
 refine AX (UV (O:=HU sh.b os) (P:=shP sh) (S:=shS sh) (t:=t) (EI (b:=sh.b) (r:=false) hw hh) (FJ (b:=sh.b) (r:=false) hw hh)) fun d hd=>?_
 refine ⟨d.map (DY sh.b),Ic.mpr ?_⟩
 have:∀ x:Pl3,DY sh.b (DY sh.b x)=x:=fun ⟨u,l,r⟩=>by unfold DY;cases sh.b <;> rfl
 rw [Option.map_map]
 have e:(DY sh.b ∘ DY sh.b)=id:=funext this
 rw [e,Option.map_id];exact hd
theorem P9 {w h:Int} {t:Bool} (hw:0<w) (hh:0<h):∀ (l:List (Sh × List Ot)) (n:Nat),∃ r,FP (OnL w h t) n l r
 | [],_=>⟨_,.nil⟩
 | (sh,os)::l,n=>by
  refine AX (Tz (t:=t) (sh:=sh) (os:=os) hw hh) fun r hr=>?_
  cases r with
  | some p=>exact ⟨_,.hit hr⟩
  | none=>
   refine AX (P9 (t:=t) hw hh l (n+1)) fun r' h'=>?_
   exact ⟨r',.miss hr h'⟩
theorem LP (h:FP On n l r) :
  (r=none∧∀ x∈l,On x.1 x.2 none)∨(∃ k x p,l[k]?=some x∧On x.1 x.2 (some p)∧r=some (((n+k:Nat):Int),p.1,p.2.1,p.2.2)∧∀ j y,j<k→l[j]?=some y→On y.1 y.2 none):=by
 induction h with
 | nil=>exact .inl ⟨rfl,fun x h=>nomatch h⟩
 | @hit n sh os l p o=>exact .inr ⟨0,(sh,os),p,rfl,o,rfl,fun j y hj=>absurd hj (Nat.not_lt_zero j)⟩
 | @miss n sh os l r o _ ih=>
  refine ih.elim (fun h=>.inl ⟨h.1,List.forall_mem_cons.mpr ⟨o,h.2⟩⟩) fun h=>CH h fun k x p h1 h2 h3 h4=>?_
  refine .inr ⟨k+1,x,p,h1,h2,h3.trans (by rw [Nat.succ_add_eq_add_succ]),fun j y hj hy=>?_⟩
  cases j with
  | zero=>exact Option.some.inj hy▸o
  | succ j=>exact h4 j y (Nat.lt_of_succ_lt_succ hj) hy
theorem NO {b:Bool} {os:List Ot} {P:Bx→Prop}:(∀ o∈HU b os,P o)↔∀ o∈os,P (if b=true then o.low else o.lef):=by
 cases b with
 | true=>exact List.forall_mem_map
 | false=>exact List.forall_mem_map
noncomputable def En.to (e:En) (n:Nat) (u l:Int) (r:Bool):En:={ e with n:=n,u:=u,l:=l,r:=r }
noncomputable def Bl (ss:List Sh) (e:En) (q:Qp):En:=e.to q.n (if hbt ss q.n=true then q.p else q.s) (if hbt ss q.n=true then q.s else q.p) q.r
theorem ES:(Bl ss e q).qp ss=q:=by
 unfold Bl En.to En.qp
 cases h:hbt ss q.n <;> simp [h]
theorem P4 {ss:List Sh} {hs:List En} {skip:Option Str} {e:En} {sh:Sh} (hsh:ss[e.n]?=some sh):Gd (HU sh.b (Al hs skip e.n)) (shP sh) (shS sh) (exA sh.b e.r e.w e.h) (exB sh.b e.r e.w e.h) (e.qp ss).p (e.qp ss).s ↔
  (0≤(e.qp ss).p∧0≤(e.qp ss).s∧(e.qp ss).p+exA sh.b e.r e.w e.h≤shP sh∧(e.qp ss).s+exB sh.b e.r e.w e.h≤shS sh)∧∀ x∈hs,x.n=e.n→B7 skip x.name=true→Av e.ot.h e.ot.w e.ot.u e.ot.l x.ot.low:=by
 have hb:=LF hsh
 have key:(∀ o∈HU sh.b (Al hs skip e.n),Av (exA sh.b e.r e.w e.h) (exB sh.b e.r e.w e.h) (e.qp ss).p (e.qp ss).s o)↔∀ x∈hs,x.n=e.n→B7 skip x.name=true→Av e.ot.h e.ot.w e.ot.u e.ot.l x.ot.low:=by
  rw [NO]
  have h1:∀ x:En,x.n=e.n→(Av (exA sh.b e.r e.w e.h) (exB sh.b e.r e.w e.h) (e.qp ss).p (e.qp ss).s (if sh.b=true then x.ot.low else x.ot.lef)↔Av e.ot.h e.ot.w e.ot.u e.ot.l x.ot.low):=fun x hn=>by
   unfold En.qp
   rw [hb]
   cases hbb:sh.b with
   | true=>
    rw [(Dg (e:=e) rfl).1,(Dg (e:=e) rfl).2,(Ja (e:=e)).1,(Ja (e:=e)).2]
    exact Iff.rfl
   | false=>
    rw [(EA (e:=e) rfl).1,(EA (e:=e) rfl).2,(Ja (e:=e)).1,(Ja (e:=e)).2]
    exact D0
  refine ⟨fun h x hx hn hk=>(h1 x hn).mp (h x.ot (List.mem_map.mpr ⟨x,List.mem_filter.mpr ⟨hx,by rw [decide_eq_true hn,hk];rfl⟩,rfl⟩)),fun h o ho=>?_⟩
  refine AF (List.mem_map.mp ho) fun x hx ze1=>?_;subst ze1
  obtain ⟨hx,hp⟩:=List.mem_filter.mp hx
  have hp:=Bool.and_eq_true_iff.mp hp
  exact (h1 x (of_decide_eq_true hp.1)).mpr (h x hx (of_decide_eq_true hp.1) hp.2)
 exact ⟨fun g=>⟨⟨g.p0,g.s0,g.p1,g.s1⟩,key.mp g.clear⟩,fun g=>⟨g.1.1,g.1.2.1,g.1.2.2.1,g.1.2.2.2,key.mpr g.2⟩⟩
structure Ok (ss:List Sh) (hs:List En) (skip:Option Str) (e:En):Prop where
 ins:∃ sh,InSh ss e.dm (e.qp ss) sh
 clear:∀ x∈hs,x.n=e.n→B7 skip x.name=true→Av e.ot.h e.ot.w e.ot.u e.ot.l x.ot.low
theorem Iv {ss:List Sh} {hs:List En} {skip:Option Str} {k:Nat} {x:Sh × List Ot} (h:(ss.zip (AV ss.length hs skip))[k]?=some x):ss[k]?=some x.1∧x.2=Al hs skip k:=by
 rw [List.getElem?_zip_eq_some] at h
 obtain ⟨h1,h2⟩:=h
 rw [CI (List.getElem?_eq_some_iff.mp h1).1] at h2
 exact ⟨h1,(Option.some.inj h2).symm⟩
theorem FT {ss:List Sh} {hs:List En} {skip:Option Str} {k:Nat} {sh:Sh} (h:ss[k]?=some sh):(ss.zip (AV ss.length hs skip))[k]?=some (sh,Al hs skip k):=by
 rw [List.getElem?_zip_eq_some]
 exact ⟨h,CI (List.getElem?_eq_some_iff.mp h).1⟩
theorem R3:(if b=true then (DY b p).1 else (DY b p).2.1)=p.1∧(if b=true then (DY b p).2.1 else (DY b p).1)=p.2.1∧(DY b p).2.2=p.2.2:=by
 cases b <;> exact ⟨rfl,rfl,rfl⟩
theorem Dj {ss:List Sh} {hs:List En} {skip:Option Str} {e:En} {r:Option Pl4} (F:FP (OnL e.w e.h e.t) 0 (ss.zip (AV ss.length hs skip)) r) :
  (r=none∧∀ q:Qp,¬ Ok ss hs skip (Bl ss e q))∨(∃ q:Qp,r=some ((q.n:Int),(Bl ss e q).u,(Bl ss e q).l,q.r)∧Ok ss hs skip (Bl ss e q)∧∀ q':Qp,Ok ss hs skip (Bl ss e q')→q.le q'):=by
 have gd:∀ {q:Qp} {sh},ss[q.n]?=some sh→Ok ss hs skip (Bl ss e q)→(q.r=true→e.t=true)∧Gd (HU sh.b (Al hs skip q.n)) (shP sh) (shS sh) (exT q.r (exA sh.b false e.w e.h) (exB sh.b false e.w e.h)) (exT q.r (exB sh.b false e.w e.h) (exA sh.b false e.w e.h)) q.p q.s:=fun {q sh} hsh ok=>by
  refine AX ok.ins fun sh' i=>?_
  have g:=P4 (ss:=ss) (hs:=hs) (skip:=skip) (e:=Bl ss e q) hsh
  rw [ES] at i g
  rw [L4.1,L4.2]
  have i:InSh ss (Bl ss e q).dm q sh:=Option.some.inj (i.at_.symm.trans hsh)▸i
  exact ⟨i.turn,g.mpr ⟨⟨i.p0,i.s0,i.p1,i.s1⟩,ok.clear⟩⟩
 have nog:∀ (q:Qp) sh,ss[q.n]?=some sh→OnL e.w e.h e.t sh (Al hs skip q.n) none→¬ Ok ss hs skip (Bl ss e q):=fun q sh hsh o ok=>Dw (Ic.mp o) q.p q.s q.r (gd hsh ok).1 (gd hsh ok).2
 have hin:∀ {q:Qp},Ok ss hs skip (Bl ss e q)→∃ sh,ss[q.n]?=some sh:=fun {q} ok=>AX ok.ins fun sh i=>by rw [ES] at i;exact ⟨sh,i.at_⟩
 refine (LP F).elim (fun h=>.inl ⟨h.1,fun q ok=>(hin ok).elim fun sh i=>nog q sh i (h.2 _ (List.mem_of_getElem? (FT i))) ok⟩) fun h=>.inr (CH h fun k x p h1 h2 h3 h4=>?_)
 refine (Iv h1).elim fun hs1 hs2=>?_
 have T:=Dw (Ic.mp h2)
 have hbk:hbt ss k=x.1.b:=LF hs1
 have un:=R3 (b:=x.1.b) (p:=p)
 have qe:(k:Int)=((0+k:Nat):Int):=by rw [Nat.zero_add]
 rw [hs2] at T
 have g:=P4 (ss:=ss) (hs:=hs) (skip:=skip) (e:=Bl ss e ⟨k,(DY x.1.b p).1,(DY x.1.b p).2.1,(DY x.1.b p).2.2⟩) hs1
 have T2:=T.2.1
 rw [L4.1,L4.2] at T2
 rw [ES] at g
 refine ⟨⟨k,(DY x.1.b p).1,(DY x.1.b p).2.1,(DY x.1.b p).2.2⟩,?_,⟨⟨x.1,?_⟩,(g.mp T2).2⟩,fun q' ok=>?_⟩
 ·rw [h3,← qe]
  unfold Bl En.to
  dsimp only
  rw [hbk,un.1,un.2.1,un.2.2]
 ·rw [ES];exact ⟨hs1,T.1,T2.p0,T2.s0,T2.p1,T2.s1⟩
 ·refine (hin ok).elim fun sh' i=>?_
  refine Jr (Nat.lt_trichotomy q'.n k) (fun hlt=>?_) (fun heq=>?_) .inl
  ·exact absurd ok (nog q' sh' i (h4 q'.n _ hlt (FT i)))
  ·have g':=gd (heq.symm▸hs1) ok
   rw [heq] at g'
   exact .inr ⟨heq.symm,T.2.2 q'.p q'.s q'.r g'.1 g'.2⟩
end Mine.Internal
namespace Mine.Internal
open PySem
set_option genSizeOf false
set_option genInjectivity false
structure FirstOf (ss:List Sh) (hs:List En) (e e':En):Prop where
 to:e'=e.to e'.n e'.u e'.l e'.r
 fp:FP (OnL e.w e.h e.t) 0 (ss.zip (AV ss.length hs (some e.name))) (some ((e'.n:Int),e'.u,e'.l,e'.r))
theorem Ff:Bl ss e (e.qp ss)=e:=by
 unfold Bl En.to En.qp
 cases hbt ss e.n <;> rfl
theorem Fo {α:Type} {l:List α} {i:Nat} {x y:α} (h:l[i]?=some x):(l.set i y)[i]?=some y:=List.getElem?_set_self (List.getElem?_eq_some_iff.mp h).1
theorem Q5 (h:j≠i):cfg ss (hs.set i e) j=cfg ss hs j:=by
 unfold cfg;rw [List.getD_eq_getElem?_getD,List.getD_eq_getElem?_getD,List.getElem?_set_ne h.symm]
theorem Dv {α:Type} {l:List α} {i:Nat} {x:α} (h:l[i]?=some x):l.set i x=l:=by
 refine AX (List.getElem?_eq_some_iff.mp h) fun hi ze1=>?_;subst ze1
 exact List.set_getElem_self hi
theorem Lx (h:hs[i]?=some e) (hd:e'.dm=e.dm):dms (hs.set i e')=dms hs:=by
 unfold dms
 rw [List.map_set,hd]
 exact Dv (by rw [List.getElem?_map,h];rfl)
theorem Fe {hs:List En} {i:Nat} {e e':En} (h:hs[i]?=some e) (hd:e'.name=e.name):(hs.set i e').map (·.name)=hs.map (·.name):=by
 rw [List.map_set,hd]
 exact Dv (by rw [List.getElem?_map,h];rfl)
theorem GH {hs:List En} {i j:Nat} {a b:En} (hn:(hs.map (·.name)).Nodup) (ha:hs[i]?=some a) (hb:hs[j]?=some b) (h:j≠i):b.name≠a.name:=fun e=>by
 refine h ((List.getElem?_inj (by rw [List.length_map];exact (List.getElem?_eq_some_iff.mp hb).1) hn).mp ?_)
 rw [List.getElem?_map,List.getElem?_map,ha,hb]
 exact congrArg some e
theorem EH:B7 (some x) y=true↔y≠x:=by
 unfold B7
 rw [Bool.not_eq_true',beq_eq_false_iff_ne]
 exact ⟨fun h e=>h (congrArg some e.symm),fun h e=>h (Option.some.inj e).symm⟩
abbrev Qy (ss:List Sh) (D:List Dm) (N i:Nat) (X Y:Cfg):Prop:=Step (EM ss D) (EN ss D) (Hb ss D) N i X Y
abbrev SM (ss:List Sh) (D:List Dm) (N:Nat) (is:List Nat) (X Y:Cfg):Prop:=Steps (EM ss D) (EN ss D) (Hb ss D) N is X Y
theorem GX {ss:List Sh} {hs:List En} {i:Nat} {e:En} {q:Qp} (hn:(hs.map (·.name)).Nodup) (hi:hs[i]?=some e):(∀ x∈hs,x.n=(Bl ss e q).n→B7 (some e.name) x.name=true→Av (Bl ss e q).ot.h (Bl ss e q).ot.w (Bl ss e q).ot.u (Bl ss e q).ot.l x.ot.low) ↔
  ∀ j,j<hs.length→j≠i→Apart (EM ss (dms hs)) (EN ss (dms hs)) i j q (cfg ss hs j):=by
 have key:∀ j x,hs[j]?=some x→(Apart (EM ss (dms hs)) (EN ss (dms hs)) i j q (cfg ss hs j)↔((Bl ss e q).n=x.n→Av (Bl ss e q).ot.h (Bl ss e q).ot.w (Bl ss e q).ot.u (Bl ss e q).ot.l x.ot.low)):=fun j x hx=>by
  have:=HW (ss:=ss) (a:=Bl ss e q) (b:=x) (A:=EM ss (dms hs) i q.n q.r) (B:=EN ss (dms hs) i q.n q.r) (A':=EM ss (dms hs) j x.n x.r) (B':=EN ss (dms hs) j x.n x.r) (by unfold EM;rw [CT hi];rfl) (by unfold EN;rw [CT hi];rfl) (by unfold EM;rw [CT hx];rfl) (by unfold EN;rw [CT hx];rfl)
  rw [ES] at this
  rw [BI hx];exact this
 refine ⟨fun h j hj hji=>?_,fun h x hx hxn hk=>?_⟩
 ·have hx:=List.getElem?_eq_getElem hj
  exact (key j _ hx).mpr fun hxn=>h _ (List.mem_of_getElem? hx) hxn.symm (EH.mpr (GH hn hi hx hji))
 ·refine AX (List.mem_iff_getElem?.mp hx) fun j hj=>?_
  refine (key j x hj).mp (h j (List.getElem?_eq_some_iff.mp hj).1 fun z=>EH.mp hk ?_) hxn.symm
  subst z
  rw [hi] at hj;cases hj;rfl
theorem Hc (s:Snd ss hs) (hn:(hs.map (·.name)).Nodup) (hi:hs[i]?=some e) (F:FP (OnL e.w e.h e.t) 0 (ss.zip (AV ss.length hs (some e.name))) r) :
  ∃ e',r=some ((e'.n:Int),e'.u,e'.l,e'.r)∧FirstOf ss hs e e'∧Qy ss (dms hs) hs.length i (cfg ss hs) (cfg ss (hs.set i e')):=by
 have hlt:=(List.getElem?_eq_some_iff.mp hi).1
 have so:=s.sound
 rcases Dj F with ⟨e1,h⟩ | ⟨q,e1,ok,least⟩
 ·exfalso
  refine h (e.qp ss) ⟨?_,(GX hn hi).mpr fun j hj hji=>?_⟩
  ·rw [Ff];exact s.ins e (List.mem_of_getElem? hi)
  ·have:=so.apart i j hlt hj hji.symm
   rw [BI hi] at this;exact this
 ·refine ⟨Bl ss e q,e1,⟨rfl,e1▸F⟩,⟨hlt,fun j hj=>Q5 hj,?_,fun j hj hji=>?_,fun q' hin hfree=>?_⟩⟩
  ·rw [BI (Fo hi),ES]
   refine AX ok.ins fun sh h=>?_
   rw [ES] at h
   exact ⟨sh,by rw [CT hi];exact h⟩
  ·rw [BI (Fo hi),ES]
   exact (GX hn hi).mp ok.clear j hj hji
  ·rw [BI (Fo hi),ES]
   refine AX hin fun sh h=>?_
   rw [CT hi] at h
   exact least q' ⟨⟨sh,by rw [ES];exact h⟩,(GX hn hi).mpr hfree⟩
inductive Rnd (ss:List Sh):List Nat→List En→List (En × En)→List En→Prop
 | nil {hs:List En}:Rnd ss [] hs [] hs
 | stay {i:Nat} {is:List Nat} {hs hs':List En} {e:En} {mv:List (En × En)}:hs[i]?=some e→FirstOf ss hs e e→Rnd ss is hs mv hs'→Rnd ss (i::is) hs mv hs'
 | move {i:Nat} {is:List Nat} {hs hs':List En} {e e':En} {mv:List (En × En)}:hs[i]?=some e→FirstOf ss hs e e'→e'.qp ss≠e.qp ss→Rnd ss is (hs.set i e') mv hs'→Rnd ss (i::is) hs ((e,e')::mv) hs'
theorem Rnd.append (h:Rnd ss is hs mv hs') (h':Rnd ss js hs' mv' hs''):Rnd ss (is++js) hs (mv++mv') hs'':=by
 induction h with
 | nil=>exact h'
 | stay a b _ ih=>exact .stay a b (ih h')
 | move a b c _ ih=>exact .move a b c (ih h')
theorem FirstOf.dm (h:FirstOf ss hs e e'):e'.dm=e.dm∧e'.name=e.name:=by rw [h.to];exact ⟨rfl,rfl⟩
theorem Rnd.same {ss:List Sh} {is:List Nat} {hs hs':List En} {mv:List (En × En)} (h:Rnd ss is hs mv hs'):dms hs'=dms hs∧hs'.map (·.name)=hs.map (·.name)∧mv.length≤is.length∧(mv=[]→hs'=hs∧∀ i∈is,∃ e,hs[i]?=some e∧FirstOf ss hs e e):=by
 induction h with
 | nil=>exact ⟨rfl,rfl,Nat.le_refl _,fun _=>⟨rfl,fun _ h=>nomatch h⟩⟩
 | stay a b _ ih=>exact ⟨ih.1,ih.2.1,Nat.le_succ_of_le ih.2.2.1,fun hm=>⟨(ih.2.2.2 hm).1,fun j hj=>(List.mem_cons.mp hj).elim (fun z=>z▸⟨_,a,b⟩) ((ih.2.2.2 hm).2 j)⟩⟩
 | move a b c _ ih=>exact ⟨ih.1.trans (Lx a b.dm.1),ih.2.1.trans (Fe a b.dm.2),Nat.succ_le_succ ih.2.2.1,fun hm=>nomatch hm⟩
theorem Df (h:dms hs'=dms hs):hs'.length=hs.length:=by
 have:=congrArg List.length h
 unfold dms at this
 rwa [List.length_map,List.length_map] at this
theorem Uk (h:dms hs'=dms hs) (hz:∀ e∈hs,0<e.w∧0<e.h):∀ e∈hs',0<e.w∧0<e.h:=fun e he=>by
 have:e.dm∈dms hs':=List.mem_map.mpr ⟨e,he,rfl⟩
 rw [h] at this
 refine AF (List.mem_map.mp this) fun x hx e1=>?_
 have:=hz x hx
 have e2:x.w=e.w∧x.h=e.h:=⟨congrArg (·.1) e1,congrArg (fun d:Dm=>d.2.1) e1⟩
 rw [e2.1,e2.2] at this;exact this
theorem Gy (s:Snd ss hs) (hn:(hs.map (·.name)).Nodup) (hi:hs[i]?=some e) (F:FirstOf ss hs e e'):Qy ss (dms hs) hs.length i (cfg ss hs) (cfg ss (hs.set i e')):=by
 refine Ae (Hc s hn hi F.fp) fun e'' h1 h2 h3=>?_
 have:e'=e'':=by
  rw [F.to,h2.to]
  have h1:=Option.some.inj h1
  rw [Prod.mk.injEq,Prod.mk.injEq,Prod.mk.injEq] at h1
  rw [Int.ofNat.inj h1.1,h1.2.1,h1.2.2.1,h1.2.2.2]
 rw [this];exact h3
theorem Rnd.steps {ss:List Sh} {is:List Nat} {hs hs':List En} {mv:List (En × En)} (h:Rnd ss is hs mv hs') (s:Snd ss hs) (hn:(hs.map (·.name)).Nodup):SM ss (dms hs) hs.length is (cfg ss hs) (cfg ss hs')∧Snd ss hs'∧(mv≠[]→∃ i,i<hs.length∧cfg ss hs' i≠cfg ss hs i):=by
 induction h with
 | nil=>exact ⟨.nil,s,fun h=>absurd rfl h⟩
 | @stay i is hs hs' e mv a b _ ih=>
  refine A7 (ih s hn) fun h1 h2 h3=>?_
  refine ⟨.cons ?_ h1,h2,h3⟩
  have:=Gy s hn a b
  rw [Dv a] at this;exact this
 | @move i is hs hs' e e' mv a b c rest ih=>
  have st:=Gy s hn a b
  have hd:=Lx a b.dm.1
  have hl:(hs.set i e').length=hs.length:=List.length_set ..
  have s':Snd ss (hs.set i e'):=Sound.snd (by rw [hd,hl];exact st.sound s.sound) (Uk hd s.sz)
  refine A7 (ih s' (by rw [Fe a b.dm.2];exact hn)) fun h1 h2 h3=>?_
  rw [hd,hl] at h1
  refine ⟨.cons st h1,h2,fun _=>⟨i,st.lt,fun z=>c ?_⟩⟩
  have l1:=h1.le (st.sound s.sound) i
  rw [z] at l1
  have l2:=st.le s.sound i
  have:=Qp.le_antisymm l2 l1
  rw [BI (Fo a),BI a] at this;exact this
inductive Rnds (ss:List Sh) (hs:List En):Nat→List (En × En)→List En→Prop
 | nil:Rnds ss hs 0 [] hs
 | next {k:Nat} {mv mv':List (En × En)} {hs' hs'':List En} {p:List Nat}:Rnds ss hs k mv hs'→p.Perm (List.range hs'.length)→p.Pairwise (A4 (hs'.map (En.key ss)))→Rnd ss p hs' mv' hs''→mv'≠[]→Rnds ss hs (k+1) (mv++mv') hs''
theorem Rnds.same (h:Rnds ss hs k mv hs'):dms hs'=dms hs∧hs'.map (·.name)=hs.map (·.name)∧mv.length≤k*hs.length:=by
 induction h with
 | nil=>exact ⟨rfl,rfl,by simp⟩
 | @next k mv mv' hs' hs'' p _ hp _ hr _ ih=>
  have:=hr.same
  refine ⟨this.1.trans ih.1,this.2.1.trans ih.2.1,?_⟩
  have h1:=this.2.2.1
  rw [hp.length_eq,List.length_range,Df ih.1] at h1
  rw [List.length_append,Nat.succ_mul]
  exact Nat.add_le_add ih.2.2 h1
theorem Rnds.seq (h:Rnds ss hs k mv hs') (s:Snd ss hs) (hn:(hs.map (·.name)).Nodup):Snd ss hs'∧∃ Y:Nat→Cfg,Y 0=cfg ss hs∧Y k=cfg ss hs' ∧
  ∀ j,j<k→Round (EM ss (dms hs)) (EN ss (dms hs)) (Hb ss (dms hs)) hs.length (Y j) (Y (j+1))∧∃ i,i<hs.length∧Y (j+1) i≠Y j i:=by
 induction h with
 | nil=>exact ⟨s,fun _=>cfg ss hs,rfl,rfl,fun j hj=>absurd hj (Nat.not_lt_zero j)⟩
 | @next k mv mv' hs' hs'' p h hp _ hr hm ih=>
  refine FD ih fun s' Y y0 yk yr=>?_
  have hsame:=h.same
  refine A7 (hr.steps s' (by rw [hsame.2.1];exact hn)) fun h1 h2 h3=>?_
  have hl:=Df hsame.1
  rw [hsame.1,hl] at h1
  rw [hl] at h3 hp
  have hY:∃ Y':Nat→Cfg,(∀ j,j≤k→Y' j=Y j)∧Y' (k+1)=cfg ss hs'':=⟨fun j=>if j≤k then Y j else cfg ss hs'',fun j h=>if_pos h,if_neg (Nat.not_succ_le_self k)⟩
  refine AF hY fun Y' y1 y2=>⟨h2,Y',(y1 0 (Nat.zero_le k)).trans y0,y2,fun j hj=>?_⟩
  refine Or.elim (Nat.lt_succ_iff_lt_or_eq.mp hj) (fun hlt=>?_) (fun e=>?_)
  ·rw [y1 j (Nat.le_of_lt hlt),y1 (j+1) hlt];exact yr j hlt
  ·rw [e,y1 k (Nat.le_refl k),y2,yk]
   exact ⟨⟨p,h1,fun i hi=>hp.mem_iff.mpr (List.mem_range.mpr hi)⟩,h3 hm⟩
noncomputable def EU (N L K:Nat):Nat:=N*(L*K)*(N+1)+N
theorem Rnds.bound {k:Nat} {K:Nat} (h:Rnds ss hs k mv hs') (s:Snd ss hs) (hn:(hs.map (·.name)).Nodup) (hK:∀ sh∈ss,shP sh≤K):k≤EU hs.length ss.length K:=by
 refine FD (h.seq s hn) fun _ Y y0 _ yr=>?_
 have hz:=DJ s.sz
 have low:∀ i x,Hb ss (dms hs) i x→x.n<ss.length∧0≤x.p∧x.p.toNat<K:=fun i x h=>h.elim fun sh h=>
  ⟨(List.getElem?_eq_some_iff.mp h.at_).1,h.p0,(Int.toNat_lt h.p0).mpr (Int.lt_of_lt_of_le (Int.lt_add_of_pos_right _ (EI (hz i).1 (hz i).2)) (Int.le_trans h.p1 (hK sh (List.mem_of_getElem? h.at_))))⟩
 have so:Sound (EM ss (dms hs)) (EN ss (dms hs)) (Hb ss (dms hs)) hs.length (Y 0):=y0▸s.sound
 have:=IY (M:=k) (Yk:=Y) (fun i n r=>EI (hz i).1 (hz i).2) (fun i n r=>FJ (hz i).1 (hz i).2) so yr (fun q=>q.n*K+q.p.toNat) (fun i x y hx hy hxy=>by
  have h1:=low i x hx
  have h2:=low i y hy
  refine (Qp.le_np hxy).elim (fun hlt=>?_) fun heq=>?_
  ·have:(x.n+1)*K≤y.n*K:=Nat.mul_le_mul_right K hlt
   rw [Nat.succ_mul] at this
   have lt:=Nat.lt_of_lt_of_le (Nat.add_lt_add_left h1.2.2 _) (Nat.le_trans this (Nat.le_add_right _ y.p.toNat))
   exact ⟨Nat.le_of_lt lt,fun e=>absurd e (Nat.ne_of_lt lt)⟩
  ·rw [heq.1]
   exact ⟨Nat.add_le_add_left (Int.toNat_le_toNat heq.2) _,fun e=>⟨rfl,(Int.toNat_of_nonneg h1.2.1).symm.trans ((congrArg Nat.cast (Nat.add_left_cancel e)).trans (Int.toNat_of_nonneg h2.2.1))⟩⟩) k (Nat.le_refl _)
 have h0:DK (fun i=>(Y 0 i).n*K+(Y 0 i).p.toNat) hs.length≤hs.length*(ss.length*K):=Kr fun i hi=>by
  have h1:=low i _ (so.ins i hi)
  have:((Y 0 i).n+1)*K≤ss.length*K:=Nat.mul_le_mul_right K h1.1
  rw [Nat.succ_mul] at this
  exact Nat.le_trans (Nat.add_le_add_left (Nat.le_of_lt h1.2.2) _) this
 have h2:=Nat.mul_le_mul_right (hs.length+1) h0
 unfold EU
 exact an5 .le .v0 (.a .v1 .v2) (.l (.a .v0 .v3) (.a .v4 .v2) (.l .v4 .v1 .e)) rfl this h2
end Mine.Internal
namespace Mine.Internal
open PySem
set_option genSizeOf false
set_option genInjectivity false
noncomputable def En.by (m:Int) (e:En):En:=⟨e.name,e.w*m,e.h*m,e.t,e.n,e.u*m,e.l*m,e.r⟩
theorem En.by_ot {m:Int} {e:En}:(e.by m).ot=e.ot.by m:=by unfold En.ot En.by Ot.by;cases e.r <;> rfl
theorem BV {m:Int} {hs:List En}:(hs.map (En.by m)).map (·.name)=hs.map (·.name):=by rw [List.map_map];rfl
theorem Jo {m:Int} {hs:List En} {skip:Option Str} {i:Nat}:Al (hs.map (En.by m)) skip i=(Al hs skip i).map (Ot.by m):=by
 unfold Al
 rw [List.filter_map,List.map_map,List.map_map]
 exact List.map_congr_left fun e _=>En.by_ot
theorem TX {m:Int} {ss:List Sh} {hs:List En} {skip:Option Str}:(ss.map (Sh.by m)).zip (AV (ss.map (Sh.by m)).length (hs.map (En.by m)) skip)=(ss.zip (AV ss.length hs skip)).map fun x=>(x.1.by m,x.2.map (Ot.by m)):=by
 have e:AV (ss.map (Sh.by m)).length (hs.map (En.by m)) skip=(AV ss.length hs skip).map (List.map (Ot.by m)):=by
  unfold AV
  rw [List.length_map,List.map_map]
  exact List.map_congr_left fun i _=>Jo
 rw [e,List.zip_map]
 exact List.map_congr_left fun ⟨_,_⟩ _=>rfl
theorem H3 {m:Int} {ss:List Sh} {hs:List En} {skip:Option Str} {w h:Int} {t:Bool} {r d:Option Pl4} (hm:0<m) (F:FP (OnP (w*m) (h*m) t) 0 ((ss.map (Sh.by m)).zip (AV (ss.map (Sh.by m)).length (hs.map (En.by m)) skip)) r)
  (G:FP (OnL w h t) 0 (ss.zip (AV ss.length hs skip)) d):r=by4 m d:=by
 rw [TX] at F
 exact Vg hm F G
theorem UJ:((ss.map (Sh.by m)).getD n ⟨0,0,false⟩).b=hbt ss n:=by
 unfold hbt
 rw [List.getD_eq_getElem?_getD,List.getD_eq_getElem?_getD,List.getElem?_map]
 cases ss[n]? <;> rfl
noncomputable def Ny (q:Qp):List Int:=[(q.n:Int),q.p,q.s,b2i q.r]
theorem Ee {ss:List Sh} {e:En}:e.key ss=Ny (e.qp ss):=by
 unfold En.key G7 Ny En.qp
 show (if hbt ss e.n=true then _ else _)=_
 cases hbt ss e.n <;> rfl
theorem Pf {m:Int} {ss:List Sh} {e:En}:(e.by m).key (ss.map (Sh.by m))=[((e.qp ss).n:Int),(e.qp ss).p*m,(e.qp ss).s*m,b2i e.r]:=by
 unfold En.key G7 En.qp En.by
 rw [UJ]
 dsimp only
 cases hbt ss e.n <;> rfl
theorem TN:b2i a<b2i b↔a=false∧b=true:=by cases a <;> cases b <;> decide
theorem I9:Aa [n,p,s,b2i r] [n',p',s',b2i r']=true↔n<n'∨(n=n'∧(p<p'∨(p=p'∧(s<s'∨(s=s'∧(r=false∧r'=true)))))):=by
 unfold Aa
 by_cases h:n=n'
 ·rw [if_pos h]
  unfold Aa
  by_cases h':p=p'
  ·rw [if_pos h']
   unfold Aa
   by_cases h'':s=s'
   ·rw [if_pos h'']
    unfold Aa
    by_cases h3:b2i r=b2i r'
    ·rw [if_pos h3]
     refine ⟨(fun e=>nomatch e),fun e=>?_⟩
     have e:=e.resolve_left (by exact ai2 .nlt .v0 .v1 (.p .v0 .v1 .e) rfl h)
     have e:=e.2.resolve_left (by exact ai2 .nlt .v0 .v1 (.p .v0 .v1 .e) rfl h')
     have e:=e.2.resolve_left (by exact ai2 .nlt .v0 .v1 (.p .v0 .v1 .e) rfl h'')
     rw [e.2.1,e.2.2] at h3;cases h3
    ·rw [if_neg h3,decide_eq_true_iff,TN]
     exact ⟨fun e=>.inr ⟨h,.inr ⟨h',.inr ⟨h'',e⟩⟩⟩,fun e=>(((e.resolve_left (by exact ai2 .nlt .v0 .v1 (.p .v0 .v1 .e) rfl h)).2.resolve_left (by exact ai2 .nlt .v0 .v1 (.p .v0 .v1 .e) rfl h')).2.resolve_left (by exact ai2 .nlt .v0 .v1 (.p .v0 .v1 .e) rfl h'')).2⟩
   ·rw [if_neg h'',decide_eq_true_iff]
    exact ⟨fun e=>.inr ⟨h,.inr ⟨h',.inl e⟩⟩,fun e=>(((e.resolve_left (by exact ai2 .nlt .v0 .v1 (.p .v0 .v1 .e) rfl h)).2.resolve_left (by exact ai2 .nlt .v0 .v1 (.p .v0 .v1 .e) rfl h')).2).resolve_right fun z=>h'' z.1⟩
  ·rw [if_neg h',decide_eq_true_iff]
   exact ⟨fun e=>.inr ⟨h,.inl e⟩,fun e=>(e.resolve_left (by exact ai2 .nlt .v0 .v1 (.p .v0 .v1 .e) rfl h)).2.resolve_right fun z=>h' z.1⟩
 ·rw [if_neg h,decide_eq_true_iff]
  exact ⟨fun e=>.inl e,fun e=>e.resolve_right fun z=>h z.1⟩
theorem Qp.total (x y:Qp):x.le y∨y.le x:=by
 unfold Qp.le
 refine Jr (Nat.lt_trichotomy x.n y.n) (fun h=>?_) (fun h=>?_) (fun h=>?_)
 ·exact .inl (.inl h)
 ·refine Jr (Int.lt_trichotomy x.p y.p) (fun h1=>?_) (fun h1=>?_) (fun h1=>?_)
  ·exact .inl (.inr ⟨h,.inl h1⟩)
  ·refine Jr (Int.lt_trichotomy x.s y.s) (fun h2=>?_) (fun h2=>?_) (fun h2=>?_)
   ·exact .inl (.inr ⟨h,.inr ⟨h1,.inl h2⟩⟩)
   ·cases hx:x.r with
    | false=>exact .inl (.inr ⟨h,.inr ⟨h1,.inr ⟨h2,nofun⟩⟩⟩)
    | true=>exact .inr (.inr ⟨h.symm,.inr ⟨h1.symm,.inr ⟨h2.symm,fun _=>rfl⟩⟩⟩)
   ·exact .inr (.inr ⟨h.symm,.inr ⟨h1.symm,.inl h2⟩⟩)
  ·exact .inr (.inr ⟨h.symm,.inl h1⟩)
 ·exact .inr (.inl h)
theorem F6:Aa (Ny x) (Ny y)=true↔x.le y∧x≠y:=by
 unfold Ny
 rw [I9]
 constructor
 ·intro h
  refine ⟨?_,fun e=>?_⟩
  ·unfold Qp.le
   rcases h with h | ⟨h1,h | ⟨h2,h | ⟨h3,h4,h5⟩⟩⟩
   ·exact .inl (Int.ofNat_lt.mp h)
   ·exact .inr ⟨Int.ofNat.inj h1,.inl h⟩
   ·exact .inr ⟨Int.ofNat.inj h1,.inr ⟨h2,.inl h⟩⟩
   ·exact .inr ⟨Int.ofNat.inj h1,.inr ⟨h2,.inr ⟨h3,fun _=>h5⟩⟩⟩
  ·subst e
   rcases h with h | ⟨h1,h | ⟨h2,h | ⟨h3,h4,h5⟩⟩⟩
   ·exact aj1 (.t .v0 .v0 .e) rfl h
   ·exact aj1 (.t .v0 .v0 .e) rfl h
   ·exact aj1 (.t .v0 .v0 .e) rfl h
   ·rw [h4] at h5;cases h5
 ·rintro ⟨h,hne⟩
  unfold Qp.le at h
  rcases h with h | ⟨h1,h | ⟨h2,h | ⟨h3,h4⟩⟩⟩
  ·exact .inl (by exact ai2 .lt .v0 .v1 (.t .v0 .v1 .e) rfl (Int.ofNat_lt.mpr h))
  ·exact .inr ⟨congrArg Int.ofNat h1,.inl h⟩
  ·exact .inr ⟨congrArg Int.ofNat h1,.inr ⟨h2,.inl h⟩⟩
  ·refine .inr ⟨congrArg Int.ofNat h1,.inr ⟨h2,.inr ⟨h3,?_⟩⟩⟩
   cases hx:x.r with
   | true=>exact absurd (Qp.ext h1 h2 h3 (hx.trans (h4 hx).symm)) hne
   | false=>
    cases hy:y.r with
    | false=>exact absurd (Qp.ext h1 h2 h3 (hx.trans hy.symm)) hne
    | true=>exact ⟨rfl,rfl⟩
theorem P7 {m:Int} {ss:List Sh} {e e':En} (hm:0<m):Aa ((e'.by m).key (ss.map (Sh.by m))) ((e.by m).key (ss.map (Sh.by m)))=Aa (e'.key ss) (e.key ss):=by
 rw [Bool.eq_iff_iff,Pf,Pf,Ee,Ee]
 unfold Ny
 have h1:=fun x y:Int=>GT (x:=x) (y:=y) hm
 have h2:=fun x y:Int=>QZ (x:=x) (y:=y) hm
 have e1:(e'.qp ss).r=e'.r:=rfl
 have e2:(e.qp ss).r=e.r:=rfl
 rw [I9,I9,h1,h1,h2,h2,e1,e2]
theorem G8 {m:Int} {ss:List Sh} {hs:List En} {p:List Nat} (hm:0<m) (hp:∀ i∈p,i<hs.length) (h:p.Pairwise (A4 ((hs.map (En.by m)).map (En.key (ss.map (Sh.by m)))))):p.Pairwise (A4 (hs.map (En.key ss))):=by
 refine List.Pairwise.imp_of_mem (fun {a b} ha hb h=>?_) h
 have key:∀ i,i<hs.length→∃ e:En,(hs.map (En.key ss)).getD i []=e.key ss∧((hs.map (En.by m)).map (En.key (ss.map (Sh.by m)))).getD i []=(e.by m).key (ss.map (Sh.by m)):=fun i hi=>by
  refine ⟨hs[i],?_,?_⟩
  ·rw [List.getD_eq_getElem?_getD,List.getElem?_map,List.getElem?_eq_getElem hi];rfl
  ·rw [List.getD_eq_getElem?_getD,List.getElem?_map,List.getElem?_map,List.getElem?_eq_getElem hi];rfl
 refine AF (key a (hp a ha)) fun x x1 x2=>?_
 refine AF (key b (hp b hb)) fun y y1 y2=>?_
 unfold A4 at h ⊢
 rw [x2,y2,P7 hm,P7 hm] at h
 rw [x1,y1];exact h
theorem Esok.by {m:Int} {ss:List Sh} {hs:List En} (E:Esok ss hs):Esok (ss.map (Sh.by m)) (hs.map (En.by m)) where
 nodup:=by rw [BV];exact E.nodup
 num e he:=by refine AF (List.mem_map.mp he) fun x hx ze1=>?_;subst ze1;rw [List.length_map];exact E.num x hx
 str e he:=by refine AF (List.mem_map.mp he) fun x hx ze1=>?_;subst ze1;exact E.str x hx
 len:=by rw [List.length_map];exact E.len
theorem RN {f:En→V} {es:List En} {i:Nat} {e e':En} (hn:(es.map (·.name)).Nodup) (hi:es[i]?=some e) (he:e'.name=e.name):put e.name (f e') (es.map fun e=>(e.name,f e))=(es.set i e').map fun e=>(e.name,f e):=by
 unfold put
 rw [if_pos (by rw [IZ];exact decide_eq_true (List.mem_map.mpr ⟨e,List.mem_of_getElem? hi,rfl⟩)),List.map_map]
 apply List.ext_getElem?
 intro j
 rw [List.getElem?_map,List.getElem?_map]
 by_cases hj:j=i
 ·subst hj
  rw [hi,Fo hi]
  show some (if e.name=e.name then (e.name,f e') else _)=some (e'.name,f e')
  rw [if_pos rfl,he]
 ·rw [List.getElem?_set_ne (Ne.symm hj)]
  cases hx:es[j]? with
  | none=>rfl
  | some x=>
   show some (if x.name=e.name then (x.name,f e') else (x.name,f x))=some (x.name,f x)
   rw [if_neg (GH hn hi hx hj)]
theorem MZ {f:En→V} {es:List En} {x:Str}:del x (es.map fun e=>(e.name,f e))=(es.filter fun e=>decide (e.name≠x)).map fun e=>(e.name,f e):=by
 unfold del
 rw [List.filter_map];rfl
noncomputable def KpR (B P:Nat) (σ σ':AD):Prop:=∀ (x:Nat) (o:O),x≠1→x≠B→x≠P→σ[x]?=some o→σ'[x]?=some o
theorem KpR.refl:KpR B P σ σ:=fun _ _ _ _ _ h=>h
theorem KpR.trans (h:KpR B P σ σ') (h':KpR B P σ' σ''):KpR B P σ σ'':=fun x o h1 h2 h3 e=>h' x o h1 h2 h3 (h x o h1 h2 h3 e)
theorem KpR.pre (h:σ<+:σ'):KpR B P σ σ':=fun _ _ _ _ _ e=>AN h e
theorem KpR.kpB (h:KpB 1 σ σ'):KpR B P σ σ':=fun x o h1 _ _ e=>h x o h1 e
theorem KpR.setP:KpR B P σ (σ.set P o):=fun _ _ _ _ h3 e=>AI (Ne.symm h3) e
theorem TabAt.set {T:Addr} {σ:AD} {ln col:Int} {q:Str} {n:Nat} {o o':O} (t:TabAt T σ ln col q) (e:σ[n]?=some o) (h:∀ T ln col m,o≠.tab T∧o≠.row T ln col m) (hc:∀ q,o≠.code q):TabAt T (σ.set n o') ln col q:=by
 cases t with
 | tab e1=>exact .tab (AI (fun z=>by subst z;rw [e1] at e;cases e;exact (h T 0 0 0).1 rfl) e1)
 | row m e1 e2=>exact .row m (AI (fun z=>by subst z;rw [e1] at e;cases e;exact (h T ln col m).2 rfl) e1) (AI (fun z=>by subst z;rw [e2] at e;cases e;exact hc q rfl) e2)
theorem TabAt.pre (t:TabAt T σ ln col q) (p:σ<+:σ'):TabAt T σ' ln col q:=by
 cases t with
 | tab e1=>exact .tab (AN p e1)
 | row m e1 e2=>exact .row m (AN p e1) (AN p e2)
theorem Rk.setO (R:Rk C σ r shs es S B P epB epP) (e:σ[n]?=some (.list vs)) (hn:n≠S):Rk C (σ.set n o) r shs es S B P epB epP:=by
 have kp:∀ (x:Nat) (ob:O),σ[x]?=some ob→(∀ vs,ob≠.list vs)→(σ.set n o)[x]?=some ob:=fun x ob h hd=>AI (fun z=>by subst z;rw [e] at h;cases h;exact hd _ rfl) h
 refine AF R.at_.ex fun m h1 h2=>?_
 exact ⟨⟨m,kp _ _ h1 nofun,kp _ _ h2 nofun⟩,AI hn R.sh,kp _ _ R.bx nofun,kp _ _ R.pl nofun⟩
theorem Rk.setP (R:Rk C σ r shs es S B P epB epP) (hBP:B≠P) (hb:B5 es'=B5 es):Rk C (σ.set P (.dict ep (Bq es'))) r shs es' S B P epB ep:=by
 have kp:∀ (x:Nat) (ob:O),σ[x]?=some ob→(∀ ep vs,ob≠.dict ep vs)→(σ.set P (.dict ep (Bq es')))[x]?=some ob:=fun x ob h hd=>AI (fun z=>by subst z;rw [R.pl] at h;cases h;exact hd _ _ rfl) h
 refine AF R.at_.ex fun m h1 h2=>?_
 exact ⟨⟨m,kp _ _ h1 nofun,kp _ _ h2 nofun⟩,kp _ _ R.sh nofun,hb▸AI hBP.symm R.bx,AZ R.pl⟩
noncomputable def mvV (m:Int) (x:En × En):V:=.tup [.str x.1.name,(x.1.by m).pl,(x.2.by m).pl]
theorem QF {m:Int} {hs:List En} {i:Nat} {e e':En} (hi:hs[i]?=some e) (hd:e'.dm=e.dm) (hn:e'.name=e.name):B5 ((hs.set i e').map (En.by m))=B5 (hs.map (En.by m)):=by
 unfold B5
 rw [List.map_map,List.map_map,List.map_set]
 refine Dv ?_
 rw [List.getElem?_map,hi]
 have h1:e'.w=e.w:=congrArg (·.1) hd
 have h2:e'.h=e.h:=congrArg (fun d:Dm=>d.2.1) hd
 have h3:e'.t=e.t:=congrArg (fun d:Dm=>d.2.2) hd
 show some (e.name,En.box (e.by m))=some (e'.name,En.box (e'.by m))
 unfold En.box En.by
 rw [hn,h1,h2,h3]
theorem SV (n:Nat) (q:GW C t ss Q n ρ σ):Ds t ss C ρ σ Q:=⟨n,q⟩
theorem EZ (I:Nat→List V→AD→Prop) (M:Nat) (bound:∀ k ρ σ,I k ρ σ→k≤M)
  (turn:∀ k ρ σ (R:List V→AD→Prop),I k ρ σ→(∀ ρ' σ',I (k+1) ρ' σ'→R ρ' σ')→t C ρ σ (fun b σ₁=>brW (BP ss C ρ σ₁ (C9 R Q)) (Q .next ρ σ₁) b) (fun c σ₁=>Q (.exc c) ρ σ₁)):∀ (n k:Nat) ρ σ,k+n=M+1→I k ρ σ→GW C t ss Q n ρ σ
 | 0,k,ρ,σ,hk,h=>by have:=bound k ρ σ h;exact (am2 (.l .v0 .v1 (.p (.a .v0 .n0) (.a .v1 .n1) .e)) rfl this hk).elim
 | n+1,k,ρ,σ,hk,h=>turn k ρ σ _ h fun ρ' σ' h'=>EZ I M bound turn n (k+1) ρ' σ' (by exact Nat.le_antisymm (an3 .le (.a (.a .v0 .n1) .v1) (.a .v2 .n1) (.q (.a .v0 (.a .v1 .n1)) (.a .v2 .n1) .e) rfl hk) (an3 .le (.a .v0 .n1) (.a (.a .v1 .n1) .v2) (.p (.a .v1 (.a .v2 .n1)) (.a .v0 .n1) .e) rfl hk)) h'
theorem OG {σ:AD} {n ep:Nat} {kvs:List (Str × V)} {A:Prop} (e:σ[n]?=some (.dict ep kvs)) (q:A):(∃ m ep kvs,V.ref n=.ref m∧σ[m]?=some (.dict ep kvs))∧A:=⟨⟨n,ep,kvs,rfl,e⟩,q⟩
end Mine.Internal
namespace Mine.Internal
open PySem
set_option genSizeOf false
set_option genInjectivity false
noncomputable def Bp (l:List Nat):Str:=⟨l.toArray⟩
theorem Fq:(Bp l).length=l.length:=by
 show l.toArray.size=_
 exact List.size_toArray ..
theorem D6 {x y:Str}:(x++y).cps.toList=x.cps.toList++y.cps.toList:=by
 show (x.cps++y.cps).toList=_
 exact Array.toList_append
theorem Ey {x:Str}:x.length=x.cps.toList.length:=by
 show x.cps.size=_
 exact Array.length_toList.symm
theorem KZ {x:Str}:x.cps.all (·<128)=true↔∀ c∈x.cps.toList,c<128:=by
 rw [← Array.all_toList,List.all_eq_true]
 exact ⟨fun h c hc=>of_decide_eq_true (h c hc),fun h c hc=>decide_eq_true (h c hc)⟩
theorem MI {α:Type} {l:List α} {a b:Nat} {x:α} (h:x∈cut l a b):x∈l:=List.mem_of_mem_take (List.mem_of_mem_drop h)
theorem GC {α:Type} {l:List α} {a b:Nat}:(cut l a b).length≤l.length:=by
 unfold cut
 rw [List.length_drop,List.length_take];exact an3 .le .v0 .v1 (.l .v0 .v2 (.l .v2 .v1 .e)) rfl (Nat.sub_le _ _) (Nat.min_le_right _ _)
theorem Cs (h:0≤k) (h':k≤1000000):BoundK n d (some (.int k)) (min k.toNat n):=by
 have:=BoundK.pos (n:=n) (d:=d) (i:=k.toNat) (j:=min k.toNat n) (BZ (Int.le_trans (by decide) (Int.natCast_nonneg _)) (Int.le_trans (Int.toNat_of_nonneg h▸h') (by decide))) rfl
 rwa [Int.toNat_of_nonneg h] at this
theorem U3 (h:0≤k) (hk:k<1000000) (e:s.cps[k.toNat]?=some c) (q:Q (.str (EW c)) σ):SubK σ Q (.str s) (.int k):=
 .str (BZ (Int.le_trans (by decide) h) (Int.le_trans (Int.le_of_lt hk) (by decide))) (Ml h (by
  have:=(Array.getElem?_eq_some_iff.mp e).1
  exact this)) e q
theorem VN (hs:s.length≤1000) (h:0≤k) (hk:k≤1000000) (q:Q (.str (Bp (cut s.cps.toList 0 (min k.toNat s.length)))) σ):SliceK σ Q (.str s) none (some (.int k)):=
 .str (Nat.le_trans hs (by decide)) .no (Cs h hk) q
theorem Ut (hs:s.length≤1000) (h:0≤k) (hk:k≤1000000) (q:Q (.str (Bp (cut s.cps.toList (min k.toNat s.length) s.length))) σ):SliceK σ Q (.str s) (some (.int k)) none:=
 .str (Nat.le_trans hs (by decide)) (Cs h hk) .no q
theorem SG {α β:Type} {f:α→β} {l:List α} {a b:Nat}:cut (l.map f) a b=(cut l a b).map f:=by
 unfold cut;rw [← List.map_take,← List.map_drop]
section
variable {σ:AD} {Q:AO} {n:Nat} {vs:List V} {k:Int}
theorem Os (e:σ[n]?=some (.list vs)) (h:0≤k) (hk:k≤1000000) (q:Q (.ref σ.length) (σ++[.list (cut vs 0 (min k.toNat vs.length))])):SliceK σ Q (.ref n) none (some (.int k)):=.list e .no (Cs h hk) q
theorem S7 (e:σ[n]?=some (.list vs)) (h:0≤k) (hk:k≤1000000) (q:Q (.ref σ.length) (σ++[.list (cut vs (min k.toNat vs.length) vs.length)])):SliceK σ Q (.ref n) (some (.int k)) none:=.list e (Cs h hk) .no q
end
theorem VB {s:Sh}:PyData.strOk s.x.s=true:=Ro (b:=s.b)
end Mine.Internal
namespace Mine.Internal
open PySem
set_option genSizeOf false
set_option genInjectivity false
end Mine.Internal
namespace Mine.Internal
open PySem
noncomputable def CN (shs:List Sh) (es:List En) (skip:Option Str) (e:En):Prop:=∃ sh,shs[e.n]?=some sh∧(e.r=true→e.t=true)∧Gd ((Al es skip e.n).map Ot.low) sh.H sh.W e.ot.h e.ot.w e.ot.u e.ot.l
end Mine.Internal
namespace Mine.Internal
open PySem
set_option genSizeOf false
set_option genInjectivity false
noncomputable def En.one (e:En):V:=.tup [.str e.name,.int e.w,.int e.h,.bool e.t,e.pl]
noncomputable def En.plD (e:En):PyData:=.tuple [.int e.n,.int e.u,.int e.l,.bool e.r]
noncomputable def En.oneD (e:En):PyData:=.tuple [.str e.name,.int e.w,.int e.h,.bool e.t,e.plD]
theorem IF {e:En}:e.plD.canLay0=true:=rfl
theorem Mc {e:En} (h:PyData.strOk e.name=true):e.oneD.canLay0=true:=by
 unfold En.oneD
 simp only [PyData.canLay0,PyData.canLayAll0,h,IF,Bool.and_self]
section
variable {σ:AD} {K:Bool→Prop} {e:En}
theorem MJ (q:K false):CmpK σ K .NotEq e.pl e.pl:=JG (x:=e.plD) rfl rfl IF q
theorem FE {n:Nat} {hs:List En} (e:σ[n]?=some (.list (hs.map En.one))):toD σ 6 (.ref n)=some (.list (hs.map En.oneD)):=JL (m:=5) e fun _ _=>rfl
theorem GU {n m:Nat} {hs:List En} (e:σ[n]?=some (.list (hs.map En.one))) (e':σ[m]?=some (.list [])) (hstr:∀ x∈hs,PyData.strOk x.name=true) (q:hs≠[]→K true) (q':hs=[]→K false):CmpK σ K .NotEq (.ref n) (.ref m):=by
 have h2:toD σ 6 (.ref m)=some (.list []):=FE (hs:=[]) e'
 refine .ne (FE e) h2 (IM fun x hx=>Mc (hstr x hx)) rfl ?_
 cases hs with
 | nil=>exact q' rfl
 | cons x l=>exact q (List.cons_ne_nil _ _)
theorem OP {n m:Nat} {hs:List En} (e:σ[n]?=some (.list (hs.map En.one))) (e':σ[m]?=some (.list [])) (hstr:∀ x∈hs,PyData.strOk x.name=true) (q:hs≠[]→K false) (q':hs=[]→K true):CmpK σ K .Eq (.ref n) (.ref m):=by
 have h2:toD σ 6 (.ref m)=some (.list []):=FE (hs:=[]) e'
 refine .eq (FE e) h2 (IM fun x hx=>Mc (hstr x hx)) rfl ?_
 cases hs with
 | nil=>exact q' rfl
 | cons x l=>exact q (List.cons_ne_nil _ _)
theorem DA (hx:PyData.strOk x=true) (hy:PyData.strOk y=true) (q:x=y→K true) (q':x≠y→K false):CmpK σ K .Eq (.str x) (.str y):=Gc hx hy (by
 by_cases h:x=y
 ·rw [beq_iff_eq.mpr h];exact q h
 ·rw [beq_eq_false_iff_ne.mpr h];exact q' h)
theorem HG (hx:PyData.strOk x=true) (hy:PyData.strOk y=true) (q:x≠y→K true) (q':x=y→K false):CmpK σ K .NotEq (.str x) (.str y):=.ne (x:=.str x) (y:=.str y) rfl rfl hx hy (by
 rw [F9]
 by_cases h:x=y
 ·rw [beq_iff_eq.mpr h];exact q' h
 ·rw [beq_eq_false_iff_ne.mpr h];exact q h)
end
theorem MA (q:Q (.tup [a,b,c,d]) σ):SliceK σ Q (.tup [a,b,c,d,e]) none (some (.int 4)):=
 .tup (x:=0) (y:=4) (show 5≤Ab by decide) .no (BoundK.pos (i:=4) (by decide) rfl) (by show 4<5;decide) q
theorem Ry (q:Q (.tup [b,c,d]) σ):SliceK σ Q (.tup [a,b,c,d]) (some (.int 1)) none:=
 .tup (x:=1) (y:=4) (show 4≤Ab by decide) (BoundK.pos (i:=1) (by decide) rfl) .no (by show 3<4;decide) q
structure GoodName (x:Str):Prop where
 low:x.cps.all (·<128)=true
 len:x.length≤1000
 good:Ar x=true
 str:PyData.strOk x=true
theorem K6 (h:x.cps.all (·<128)=true):PyData.strOk x=true:=by
 show x.cps.all (·<0x110000)=true
 rw [← Array.all_toList,List.all_eq_true]
 exact fun c hc=>decide_eq_true (Nat.lt_of_lt_of_le (KZ.mp h c hc) (by decide))
theorem Ng:∀ c∈Cr,c<128:=by decide +kernel
theorem Qx (hw:∀ c∈w,c∈Cr) (hl:w.length≤11) (hk:k≤w.length) (hc:c∈Cr):GoodName (Bp (cut w 0 k)++EW c++Bp (cut w k w.length)):=by
 have e:(Bp (cut w 0 k)++EW c++Bp (cut w k w.length)).cps.toList=cut w 0 k++[c]++cut w k w.length:=by rw [D6,D6];rfl
 have hall:∀ x∈cut w 0 k++[c]++cut w k w.length,x∈Cr:=fun x hx=>by
  refine Or.elim (List.mem_append.mp hx) (fun h=>?_) (fun h=>?_)
  ·refine Or.elim (List.mem_append.mp h) (fun h=>?_) (fun h=>?_)
   ·exact hw x (MI h)
   ·exact List.mem_singleton.mp h▸hc
  ·exact hw x (MI h)
 have hlen:(cut w 0 k++[c]++cut w k w.length).length=w.length+1:=by
  unfold cut
  rw [List.length_append,List.length_append,List.length_drop,List.length_take,List.length_drop,List.length_take,List.length_singleton,Nat.min_eq_left hk,Nat.min_self,Nat.sub_zero,Nat.add_right_comm,Nat.add_sub_cancel' hk]
 have hlow:(Bp (cut w 0 k)++EW c++Bp (cut w k w.length)).cps.all (·<128)=true:=KZ.mpr fun x hx=>Ng x (hall x (e▸hx))
 refine ⟨hlow,?_,?_,?_⟩
 ·rw [Ey,e,hlen];exact an1 .le (.a .v0 .n1) (.n 1000) (.l .v0 (.n 11) .e) rfl hl
 ·unfold Ar
  rw [Ey,e,hlen]
  simp only [Bool.and_eq_true,decide_eq_true_eq,List.all_eq_true]
  exact ⟨by exact an1 .lt .n0 (.a .v0 .n1) .e rfl,by exact an1 .le (.a .v0 .n1) (.n 12) (.l .v0 (.n 11) .e) rfl hl,fun x hx=>hall x hx⟩
 ·exact K6 hlow
noncomputable def F7:List Nat:=(Str.ofString "abcdxyz0189mno").cps.toList
theorem Pn:F7.Nodup∧F7.length=14∧∀ c∈F7,c∈Cr:=by decide +kernel
structure Names14 (ns:List Str):Prop where
 len:ns.length=14
 nodup:ns.Nodup
 good:∀ x∈ns,GoodName x
theorem Ms (hw:∀ c∈w,c∈Cr) (hl:w.length≤11) (hk:k≤w.length):Names14 (F7.map fun c=>Bp (cut w 0 k)++EW c++Bp (cut w k w.length)):=by
 refine ⟨by rw [List.length_map];exact Pn.2.1,?_,fun x hx=>?_⟩
 ·refine List.pairwise_map.mpr (List.Pairwise.imp (fun {a b} h e=>h ?_) Pn.1)
  have e1:=congrArg (fun s:Str=>s.cps.toList) e
  simp only [D6] at e1
  have e2:=List.append_cancel_right e1
  have e3:=List.append_cancel_left e2
  exact List.head_eq_of_cons_eq (show [a]=[b] from e3)
 ·refine AF (List.mem_map.mp hx) fun c hc ze1=>?_;subst ze1
  exact Qx hw hl hk (Pn.2.2 c hc)
theorem O6 (h:j<36):∃ c,(Str.ofString "abcdefghijklmnopqrstuvwxyz0123456789").cps[j]?=some c∧c∈Cr:=by
 have hl:Cr.length=36:=by decide +kernel
 have e:(Str.ofString "abcdefghijklmnopqrstuvwxyz0123456789").cps[j]?=Cr[j]?:=Array.getElem?_toList.symm
 rw [e,List.getElem?_eq_getElem (hl▸h)]
 exact ⟨_,rfl,List.getElem_mem _⟩
structure ShB (w h:Int) (s:Sh):Prop where
 w:1≤s.W∧s.W≤w
 h:1≤s.H∧s.H≤h
end Mine.Internal
namespace Mine.Internal
open PySem
set_option genSizeOf false
set_option genInjectivity false
section
variable {ss:List Sh} {hs:List En} {skip:Option Str} {e:En} {m:Int}
theorem Pv:CN ss hs skip e↔Ok ss hs skip e:=by
 have hu:=Ja (e:=e)
 have key:∀ sh,ss[e.n]?=some sh→((0≤e.ot.u∧0≤e.ot.l∧e.ot.u+e.ot.h≤sh.H∧e.ot.l+e.ot.w≤sh.W)↔(0≤(e.qp ss).p∧0≤(e.qp ss).s∧(e.qp ss).p+exA sh.b e.r e.w e.h≤shP sh∧(e.qp ss).s+exB sh.b e.r e.w e.h≤shS sh)):=fun sh hsh=>by
  unfold En.qp shP shS
  rw [LF hsh,hu.1,hu.2]
  cases hb:sh.b with
  | true=>rw [(Dg (e:=e) rfl).1,(Dg (e:=e) rfl).2];simp only [if_true]
  | false=>rw [(EA (e:=e) rfl).1,(EA (e:=e) rfl).2];simp only [Bool.false_eq_true,if_false];exact ⟨fun h=>⟨h.2.1,h.1,h.2.2.2,h.2.2.1⟩,fun h=>⟨h.2.1,h.1,h.2.2.2,h.2.2.1⟩⟩
 constructor
 ·rintro ⟨sh,hsh,ht,g⟩
  have h:=(key sh hsh).mp ⟨g.p0,g.s0,g.p1,g.s1⟩
  exact ⟨⟨sh,hsh,ht,h.1,h.2.1,h.2.2.1,h.2.2.2⟩,fun x hx hn hk=>g.clear _ (List.mem_map.mpr ⟨x.ot,List.mem_map.mpr ⟨x,List.mem_filter.mpr ⟨hx,by rw [decide_eq_true hn,hk];rfl⟩,rfl⟩,rfl⟩)⟩
 ·rintro ⟨⟨sh,i⟩,cl⟩
  have h:=(key sh i.at_).mpr ⟨i.p0,i.s0,i.p1,i.s1⟩
  refine ⟨sh,i.at_,i.turn,h.1,h.2.1,h.2.2.1,h.2.2.2,fun o ho=>?_⟩
  refine AF (List.mem_map.mp ho) fun y hy ze1=>?_;subst ze1
  refine AF (List.mem_map.mp hy) fun x hx ze1=>?_;subst ze1
  obtain ⟨hx,hp⟩:=List.mem_filter.mp hx
  have hp:=Bool.and_eq_true_iff.mp hp
  exact cl x hx (of_decide_eq_true hp.1) hp.2
theorem PC (hm:0<m):CN (ss.map (Sh.by m)) (hs.map (En.by m)) skip (e.by m)↔CN ss hs skip e:=by
 have key:∀ sh:Sh,(Gd ((Al (hs.map (En.by m)) skip e.n).map Ot.low) (sh.by m).H (sh.by m).W (e.by m).ot.h (e.by m).ot.w (e.by m).ot.u (e.by m).ot.l↔Gd ((Al hs skip e.n).map Ot.low) sh.H sh.W e.ot.h e.ot.w e.ot.u e.ot.l):=fun sh=>by
  have e1:(Al (hs.map (En.by m)) skip e.n).map Ot.low=((Al hs skip e.n).map Ot.low).map (·.by m m):=by
   rw [Jo,List.map_map,List.map_map];rfl
  rw [e1,En.by_ot]
  exact MX hm hm
 constructor
 ·rintro ⟨sh,hsh,ht,g⟩
  have hsh:(ss.map (Sh.by m))[e.n]?=some sh:=hsh
  rw [List.getElem?_map] at hsh
  refine AF (Option.map_eq_some_iff.mp hsh) fun s hs1 ze1=>?_;subst ze1
  exact ⟨s,hs1,ht,(key s).mp g⟩
 ·rintro ⟨sh,hsh,ht,g⟩
  exact ⟨sh.by m,by show (ss.map (Sh.by m))[e.n]?=_;rw [List.getElem?_map,hsh];rfl,ht,(key sh).mpr g⟩
theorem N3 (h:x∉hs.map (·.name)):Al hs (some x) i=Al hs none i:=by
 unfold Al
 refine congrArg (List.map En.ot) (List.filter_congr fun y hy=>?_)
 have hk:B7 (some x) y.name=true:=EH.mpr fun z=>h (by rw [← z];exact List.mem_map.mpr ⟨y,hy,rfl⟩)
 rw [hk];rfl
theorem QR (h:x∉hs.map (·.name)):AV n hs (some x)=AV n hs none:=by
 unfold AV;exact List.map_congr_left fun i _=>N3 h
theorem Snd.add (s:Snd ss hs) (h:Ok ss hs none e) (hz:0<e.w∧0<e.h):Snd ss (hs++[e]) where
 ins x hx:=(List.mem_append.mp hx).elim (s.ins x) fun z=>List.mem_singleton.mp z▸h.ins
 apart:=List.pairwise_append.mpr ⟨s.apart,List.pairwise_singleton ..,fun a ha b hb=>by
  cases List.mem_singleton.mp hb
  exact Eg fun z=>h.clear a ha z.symm rfl⟩
 sz x hx:=(List.mem_append.mp hx).elim (s.sz x) fun z=>List.mem_singleton.mp z▸hz
theorem Snd.filter (s:Snd ss hs):Snd ss (hs.filter p):=⟨fun e he=>s.ins e (List.mem_filter.mp he).1,s.apart.filter p,fun e he=>s.sz e (List.mem_filter.mp he).1⟩
theorem Esok.add (E:Esok ss hs) (hn:e.name∉hs.map (·.name)) (hs1:PyData.strOk e.name=true) (hlt:e.n<ss.length) (hl:hs.length<62):Esok ss (hs++[e]) where
 nodup:=by
  rw [List.map_append]
  exact List.nodup_append.mpr ⟨E.nodup,List.pairwise_singleton ..,fun a ha b hb z=>by
   cases List.mem_singleton.mp hb
   have z:a=e.name:=z
   exact hn (by rw [← z];exact ha)⟩
 num x hx:=(List.mem_append.mp hx).elim (E.num x) fun z=>List.mem_singleton.mp z▸hlt
 str x hx:=(List.mem_append.mp hx).elim (E.str x) fun z=>List.mem_singleton.mp z▸hs1
 len:=by rw [List.length_append,List.length_singleton];exact an1 .lt (.a .v0 .n1) (.n 63) (.t .v0 (.n 62) .e) rfl hl
theorem Esok.filter (E:Esok ss hs):Esok ss (hs.filter p) where
 nodup:=(List.filter_sublist.map _).nodup E.nodup
 num x hx:=E.num x (List.mem_filter.mp hx).1
 str x hx:=E.str x (List.mem_filter.mp hx).1
 len:=Nat.lt_of_le_of_lt (List.length_filter_le ..) E.len
theorem Hw:(hs.map (En.by m)).filter (fun y=>decide (y.name≠x))=(hs.filter fun y=>decide (y.name≠x)).map (En.by m):=by
 rw [List.filter_map];rfl
end
end Mine.Internal
namespace Mine.Internal
open PySem
set_option genSizeOf false
set_option genInjectivity false
section
variable {m:Int} {ss:List Sh} {ns:List Str} {B P:Nat}
end
theorem EL {α:Type} [DecidableEq α]:∀ {l l':List α},l.Nodup→(∀ x∈l,x∈l')→l.length≤l'.length
 | [],_,_,_=>Nat.zero_le _
 | x::l,l',hn,hs=>by
  have hn':=List.nodup_cons.mp hn
  have hx:=hs x List.mem_cons_self
  have h1:=EL (l:=l) (l':=l'.erase x) hn'.2 fun y hy=>(List.mem_erase_of_ne (show y≠x from fun z=>hn'.1 (by rw [← z];exact hy))).mpr (hs y (List.mem_cons_of_mem _ hy))
  have h2:=List.length_erase_of_mem hx
  have h3:=List.length_pos_of_mem hx
  rw [List.length_cons];exact an4 .le (.a .v0 .n1) .v1 (.l .v0 .v2 (.q .v2 .v3 (.q (.a .v3 .n1) .v1 .e))) rfl h1 h2 (Nat.sub_add_cancel (an1 .le .n1 .v0 (.t .n0 .v0 .e) rfl h3))
theorem BF (R:Rk C σ r shs es S B P epB epP) (t:TabAt T σ ln col kq) (e:σ[x]?=some (.list vs)):x≠1∧x≠B∧x≠P:=by
 refine ⟨fun z=>?_,fun z=>?_,fun z=>?_⟩
 ·subst z
  cases t with
  | tab h=>rw [h] at e;cases e
  | row m h _=>rw [h] at e;cases e
 ·subst z;rw [R.bx] at e;cases e
 ·subst z;rw [R.pl] at e;cases e
section
variable {hs:List En} {e:En} {x:Str}
theorem Go (hn:(hs.map (·.name)).Nodup) (he:e∈hs):(hs.filter fun y=>decide (y.name=e.name))=[e]:=by
 induction hs with
 | nil=>cases he
 | cons y l ih=>
  rw [List.map_cons] at hn
  have hn':=List.nodup_cons.mp hn
  rcases List.mem_cons.mp he with rfl | he
  ·rw [List.filter_cons_of_pos (p:=fun y:En=>decide (y.name=e.name)) (decide_eq_true rfl)]
   refine congrArg (e::·) (List.filter_eq_nil_iff.mpr fun z hz hd=>hn'.1 ?_)
   rw [← of_decide_eq_true hd];exact List.mem_map.mpr ⟨z,hz,rfl⟩
  ·rw [List.filter_cons_of_neg (p:=fun y:En=>decide (y.name=e.name)) (fun hd=>hn'.1 (by rw [of_decide_eq_true hd];exact List.mem_map.mpr ⟨e,he,rfl⟩))]
   exact ih hn'.2 he
theorem NR (h:x∉hs.map (·.name)):(hs.filter fun y=>decide (y.name=x))=[]:=
 List.filter_eq_nil_iff.mpr fun z hz hd=>h (by rw [← of_decide_eq_true hd];exact List.mem_map.mpr ⟨z,hz,rfl⟩)
end
end Mine.Internal
namespace Mine.Internal
open PySem
set_option genSizeOf false
set_option genInjectivity false
theorem Sl:∀ {xs ys:List Int} {i:Nat},xs.length=ys.length→(∀ j,j<i→xs.getD j 0=ys.getD j 0)→i<xs.length→xs.getD i 0≠ys.getD i 0→Aa xs ys=decide (xs.getD i 0<ys.getD i 0)
 | [],_,_,_,_,h,_=>absurd h (Nat.not_lt_zero _)
 | _::_,[],_,h,_,_,_=>nomatch h
 | a::as,b::bs,0,_,_,_,hne=>by
  unfold Aa
  rw [if_neg (show ¬ a=b from hne)];rfl
 | a::as,b::bs,i+1,hl,he,hi,hne=>by
  unfold Aa
  rw [if_pos (show a=b from he 0 (Nat.zero_lt_succ _))]
  exact Sl (Nat.succ.inj hl) (fun j hj=>he (j+1) (Nat.succ_lt_succ hj)) (Nat.lt_of_succ_lt_succ hi) hne
theorem QJ:∀ {xs ys:List Int},xs.length=ys.length→(∀ j,j<xs.length→xs.getD j 0=ys.getD j 0)→Aa xs ys=false
 | [],[],_,_=>rfl
 | [],_::_,h,_=>nomatch h
 | _::_,[],h,_=>nomatch h
 | a::as,b::bs,hl,he=>by
  unfold Aa
  rw [if_pos (show a=b from he 0 (Nat.zero_lt_succ _))]
  exact QJ (Nat.succ.inj hl) fun j hj=>he (j+1) (Nat.succ_lt_succ hj)
theorem L2 {ss:List Sh} {e:En}:(e.key ss).length=4:=by rw [Ee];rfl
theorem La {i j:Nat} (s:Snd ss hs) (hx:hs[i]?=some x) (hy:hs[j]?=some y) (hij:i≠j) (h:Aa (y.key ss) (x.key ss)=false):Aa (x.key ss) (y.key ss)=true:=by
 rw [Ee,Ee] at h ⊢
 rw [F6]
 have hne:x.qp ss≠y.qp ss:=fun e=>by
  have ap:=s.sound.apart i j (List.getElem?_eq_some_iff.mp hx).1 (List.getElem?_eq_some_iff.mp hy).1 hij
  rw [BI hx,BI hy,e] at ap
  have h1:=EI (b:=hbt ss (y.qp ss).n) (r:=(y.qp ss).r) (DJ s.sz i).1 (DJ s.sz i).2
  have h2:=FJ (b:=hbt ss (y.qp ss).n) (r:=(y.qp ss).r) (DJ s.sz i).1 (DJ s.sz i).2
  have h3:=EI (b:=hbt ss (y.qp ss).n) (r:=(y.qp ss).r) (DJ s.sz j).1 (DJ s.sz j).2
  have h4:=FJ (b:=hbt ss (y.qp ss).n) (r:=(y.qp ss).r) (DJ s.sz j).1 (DJ s.sz j).2
  refine Pb ap (fun h=>?_) (fun h=>?_) (fun h=>?_) (fun h=>?_) (fun h=>?_)
  ·exact h rfl
  ·unfold EM at h;exact aj2 (.l (.a .v0 .v1) .v0 (.t .n0 .v1 .e)) rfl h h1
  ·unfold EM at h;exact aj2 (.l (.a .v0 .v1) .v0 (.t .n0 .v1 .e)) rfl h h3
  ·unfold EN at h;exact aj2 (.l (.a .v0 .v1) .v0 (.t .n0 .v1 .e)) rfl h h2
  ·unfold EN at h;exact aj2 (.l (.a .v0 .v1) .v0 (.t .n0 .v1 .e)) rfl h h4
 refine ⟨?_,hne⟩
 refine Or.elim (Qp.total (x.qp ss) (y.qp ss)) (fun h1=>?_) (fun h1=>?_)
 ·exact h1
 ·have:=F6.mpr ⟨h1,hne.symm⟩
  rw [this] at h;cases h
end Mine.Internal
namespace Mine.Internal
open PySem
noncomputable def Bx.sw (o:Bx):Bx:=⟨o.s,o.p,o.sl,o.pl⟩
theorem U2 {O:List Bx} (g:Gd O P S a b p s):Gd (O.map Bx.sw) S P b a s p:=⟨g.s0,g.p0,g.s1,g.p1,List.forall_mem_map.mpr fun o ho=>D0.mp (g.clear o ho)⟩
theorem UD {O:List Bx} (g:Gd (O.map Bx.sw) S P b a s p):Gd O P S a b p s:=⟨g.s0,g.p0,g.s1,g.p1,fun o ho=>D0.mp (g.clear _ (List.mem_map.mpr ⟨o,ho,rfl⟩))⟩
noncomputable def VY (O:List Bx) (p:Int):Prop:=p=0∨∃ o∈O,p=o.p+o.pl
noncomputable def Vj (O:List Bx) (s:Int):Prop:=s=0∨∃ o∈O,s=o.s+o.sl
theorem O5 {O:List Bx} (g:Gd O P S a b p s) (h:∀ p' s',Gd O P S a b p' s'→p<p'∨(p=p'∧s≤s')):VY O p∧Vj O s:=
 ⟨Ae (Gf g) fun e e1 e2 e3=>(h e s e3).elim (fun z=>absurd e1 (Int.not_le.mpr z)) fun z=>z.1▸e2.imp id fun h=>h.2,
  Ae (Gf (U2 g)) fun e e1 e2 e3=>(h p e (UD e3)).elim (fun z=>absurd z (Int.lt_irrefl p)) fun z=>Int.le_antisymm z.2 e1▸e2.imp id fun h=>AF h.2 fun o ho he=>AF (List.mem_map.mp ho) fun o' ho' e'=>⟨o',ho',he.trans (e'▸rfl)⟩⟩
theorem KC {O:List Bx} (h:Py O P S a b t (some p)):VY O p.1∧Vj O p.2.1:=
 O5 h.2.1 fun p' s' g=>(h.2.2 p' s' p.2.2 h.1 g).imp id fun z=>⟨z.1,z.2.elim Int.le_of_lt fun z=>Int.le_of_eq z.1⟩
noncomputable def VO (x y:Int × Int):Prop:=x.1<y.1∨(x.1=y.1∧x.2<y.2)
noncomputable def M3 (T:List (Int × Int)) (x:Int × Int):Prop:=∃ A B,T=A++x::B∧∀ y∈A,VO y x
theorem Qz (hp:T.Pairwise D8) (hx:x∈T):M3 T x:=by
 refine BM (List.eq_append_cons_of_mem hx) fun A B e n=>⟨A,B,e,fun y hy=>?_⟩
 rw [e] at hp
 exact Or.imp id (fun h:y.1=x.1∧y.2≤x.2=>⟨h.1,(Int.lt_or_eq_of_le h.2).resolve_right fun z=>n (Prod.ext (x:=y) (y:=x) h.1 z▸hy)⟩) ((List.pairwise_append.mp hp).2.2 y hy x List.mem_cons_self)
theorem L8 {x:Int} (hp:l.Pairwise (·≤·)) (hx:x∈l):∃ A B,l=A++x::B∧∀ y∈A,y<x:=by
 refine BM (List.eq_append_cons_of_mem hx) fun A B e n=>⟨A,B,e,fun y hy=>?_⟩
 rw [e] at hp
 exact (Int.lt_or_eq_of_le ((List.pairwise_append.mp hp).2.2 y hy x List.mem_cons_self)).resolve_right fun z=>n (z▸hy)
noncomputable def pairsOf (us ls:List Int):List (Int × Int):=us.flatMap fun u=>ls.map fun l=>(u,l)
theorem G6 {u l:Int} (hu:us.Pairwise (·≤·)) (hl:ls.Pairwise (·≤·)) (mu:u∈us) (ml:l∈ls):M3 (pairsOf us ls) (u,l):=by
 refine BM (L8 hu mu) fun A B e h=>BM (L8 hl ml) fun A' B' e' h'=>?_
 refine ⟨pairsOf A ls++A'.map fun l=>(u,l),(B'.map fun l=>(u,l))++pairsOf B ls,?_,fun y hy=>?_⟩
 ·unfold pairsOf
  rw [e,List.flatMap_append,List.flatMap_cons,← List.append_assoc]
  conv=>lhs;lhs;rhs;rw [e']
  rw [List.map_append,List.map_cons,List.append_assoc,List.append_assoc,List.append_assoc];rfl
 ·refine (List.mem_append.mp hy).elim (fun hy=>?_) fun hy=>?_
  ·exact AF (List.mem_flatMap.mp hy) fun a ha hy=>AF (List.mem_map.mp hy) fun b _ e=>.inl (e▸h a ha)
  ·exact AF (List.mem_map.mp hy) fun b hb e=>e▸.inr ⟨rfl,h' b hb⟩
noncomputable def psK (b:Bool) (x:Int × Int):Int × Int:=if b=true then x else (x.2,x.1)
noncomputable def GdU (os:List Ot) (W H w h:Int) (tr:Bool) (u l:Int):Prop:=Gd (os.map Ot.low) H W (exT tr h w) (exT tr w h) u l
section
variable {w h:Int} {t:Bool} {sh:Sh} {os:List Ot}
theorem Kw (o:OnL w h t sh os none) (u l:Int) (tr:Bool) (hr:tr=true→t=true):¬ GdU os sh.W sh.H w h tr u l:=by
 obtain ⟨W,H,b⟩:=sh
 cases b with
 | true=>exact Dw o u l tr hr
 | false=>exact fun g=>Dw o l u tr hr (GL g)
theorem Ep (o:OnL w h t sh os (some d)):(d.2.2=true→t=true)∧GdU os sh.W sh.H w h d.2.2 d.1 d.2.1∧∀ u l tr,(tr=true→t=true)→GdU os sh.W sh.H w h tr u l→D8 (psK sh.b (d.1,d.2.1)) (psK sh.b (u,l))∧(d.1=u→d.2.1=l→d.2.2=true→tr=true):=by
 have key:∀ {p s p' s':Int} {A:Prop},p<p'∨(p=p'∧(s<s'∨(s=s'∧A)))→D8 (p,s) (p',s')∧(p=p'→s=s'→A):=fun h=>
  ⟨h.imp id fun h=>⟨h.1,h.2.elim Int.le_of_lt fun h=>Int.le_of_eq h.1⟩,fun e1 e2=>h.elim (fun z=>absurd e1 (Int.ne_of_lt z)) fun z=>z.2.elim (fun z=>absurd e2 (Int.ne_of_lt z)) fun z=>z.2⟩
 obtain ⟨W,H,b⟩:=sh
 cases b with
 | true=>
  have o:=Dw o
  exact ⟨o.1,o.2.1,fun u l tr hr g=>key (o.2.2 u l tr hr g)⟩
 | false=>
  have o:Py (os.map Ot.lef) W H w h t (some (d.2.1,d.1,d.2.2)):=Dw o
  exact ⟨o.1,Qg o.2.1,fun u l tr hr g=>by
   have k:=key (o.2.2 l u tr hr (GL g))
   exact ⟨k.1,fun e1 e2=>k.2 e2 e1⟩⟩
theorem MY:psK b (psK b x)=x:=by cases b <;> rfl
theorem Oq (o:OnL w h t sh os (some d)) (hs:M3 T (psK sh.b (d.1,d.2.1))):∃ A B,T.map (psK sh.b)=A++(d.1,d.2.1)::B∧∀ y∈A,∀ tr,(tr=true→t=true)→¬ GdU os sh.W sh.H w h tr y.1 y.2:=by
 refine BM hs fun A B e hA=>⟨A.map (psK sh.b),B.map (psK sh.b),?_,fun y hy tr hr g=>?_⟩
 ·rw [e,List.map_append,List.map_cons,MY]
 ·refine AF (List.mem_map.mp hy) fun x hx e'=>?_
  have k:=((Ep o).2.2 y.1 y.2 tr hr g).1
  rw [show psK sh.b (y.1,y.2)=x from (congrArg (psK sh.b) e'.symm).trans MY] at k
  exact (FM (x:=x.1) Int.lt_trans (T:=x.2<x.2) Int.lt_of_lt_of_le (hA x hx) k).elim (Int.lt_irrefl _) fun z=>Int.lt_irrefl _ z.2
theorem T3 (g:GdU os sh.W sh.H w h tr u l):∃ O a b,(a=w∨a=h)∧(b=w∨b=h)∧Gd O (shP sh) (shS sh) a b (psK sh.b (u,l)).1 (psK sh.b (u,l)).2:=by
 obtain ⟨W,H,b⟩:=sh
 cases tr <;> cases b
 ·exact ⟨_,_,_,.inl rfl,.inr rfl,GL g⟩
 ·exact ⟨_,_,_,.inr rfl,.inl rfl,g⟩
 ·exact ⟨_,_,_,.inr rfl,.inl rfl,GL g⟩
 ·exact ⟨_,_,_,.inl rfl,.inr rfl,g⟩
theorem Nw (hw:0<w) (hh:0<h) (hS:0<shS sh) (o:OnL w h t sh os (some d)):M3 (Db (shS sh) (shP sh)) (psK sh.b (d.1,d.2.1)):=
 Qz (Ia hS) (Af (T3 (Ep o).2.1) fun _ a b ha hb g=>NN (a:=a) (b:=b) (ha.elim (·▸hw) (·▸hh)) (hb.elim (·▸hw) (·▸hh)) g)
noncomputable def It (b:Bool) (us ls:List Int):List (Int × Int):=if b=true then pairsOf us ls else pairsOf ls us
theorem Pa (hu:us.Pairwise (·≤·)) (hl:ls.Pairwise (·≤·)) (mu:∀ x,x∈us↔x∈0::os.map fun o=>o.u+o.h) (ml:∀ x,x∈ls↔x∈0::os.map fun o=>o.l+o.w) (o:OnL w h t sh os (some d)):M3 (It sh.b us ls) (psK sh.b (d.1,d.2.1)):=by
 have go:∀ {f:Ot→Int} {k:Bx→Int} {q:Ot→Bx} {x:Int},(∀ o,k (q o)=f o)→(x=0∨∃ o∈os.map q,x=k o)→x∈0::os.map f:=fun hk hx=>
  hx.elim (fun e=>e▸List.mem_cons_self) fun hx=>AF hx fun o' ho e=>AF (List.mem_map.mp ho) fun y hy e'=>List.mem_cons_of_mem _ (List.mem_map.mpr ⟨y,hy,(hk y).symm.trans ((congrArg _ e').trans e.symm)⟩)
 obtain ⟨W,H,b⟩:=sh
 cases b with
 | true=>
  have e:=KC (Dw o)
  exact G6 hu hl ((mu _).mpr (go (k:=fun o=>o.p+o.pl) (fun _=>rfl) e.1)) ((ml _).mpr (go (k:=fun o=>o.s+o.sl) (fun _=>rfl) e.2))
 | false=>
  have e:=KC (p:=(d.2.1,d.1,d.2.2)) (Dw o)
  exact G6 hl hu ((ml _).mpr (go (k:=fun o=>o.p+o.pl) (fun _=>rfl) e.1)) ((mu _).mpr (go (k:=fun o=>o.s+o.sl) (fun _=>rfl) e.2))
end
section
variable {w h:Int} {t:Bool} {ss:List Sh} {hs:List En} {skip:Option Str} {r:Option Pl4}
theorem SS (F:FP (OnL w h t) 0 (ss.zip (AV ss.length hs skip)) r) {i:Nat} (hi:ss[i]?=some sh) (hr:∀ x,r=some x→(i:Int)≤x.1) :
  (OnL w h t sh (Al hs skip i) none∧∀ x,r=some x→((i+1:Nat):Int)≤x.1)∨(∃ p,OnL w h t sh (Al hs skip i) (some p)∧r=some ((i:Int),p.1,p.2.1,p.2.2)):=by
 refine (LP F).elim (fun z=>.inl ⟨z.2 _ (List.mem_of_getElem? (FT hi)),fun x e=>Fz (z.1.symm.trans e)⟩) fun z=>CH z fun k x p h1 h2 h3 h4=>?_
 rw [Nat.zero_add] at h3
 have hk:=hr _ h3
 refine (Nat.lt_or_eq_of_le (Int.ofNat_le.mp hk)).elim (fun hlt=>?_) fun e=>?_
 ·exact .inl ⟨h4 i _ hlt (FT hi),fun x e=>by rw [h3] at e;rw [← Option.some.inj e];exact Int.ofNat_le.mpr hlt⟩
 ·subst e
  have:=Option.some.inj (h1.symm.trans (FT hi))
  subst this
  exact .inr ⟨p,h2,h3⟩
theorem Tk (F:FP (OnL w h t) 0 (ss.zip (AV ss.length hs skip)) r) (hr:∀ x,r=some x→(ss.length:Int)≤x.1):r=none:=by
 refine (LP F).elim (fun z=>z.1) fun z=>CH z fun k x p h1 h2 h3 h4=>?_
 rw [Nat.zero_add] at h3
 have:=Int.ofNat_le.mp (hr _ h3)
 exact absurd (List.getElem?_eq_some_iff.mp (Iv h1).1).1 (Nat.not_lt.mpr this)
end
end Mine.Internal
namespace Mine.Internal
open PySem
theorem Sz {O O':List Bx} (h:∀ o,o∈O↔o∈O'):Gd O P S a b=Gd O' P S a b:=by
 funext p s
 exact propext ⟨fun g=>⟨g.p0,g.s0,g.p1,g.s1,fun o ho=>g.clear o ((h o).mpr ho)⟩,fun g=>⟨g.p0,g.s0,g.p1,g.s1,fun o ho=>g.clear o ((h o).mp ho)⟩⟩
theorem DQ {α β:Type} {f:α→β} {l l':List α} (h:∀ x,x∈l↔x∈l') (y:β):y∈l.map f↔y∈l'.map f:=by
 rw [List.mem_map,List.mem_map]
 exact ⟨fun z=>AF z fun x hx e=>⟨x,(h x).mp hx,e⟩,fun z=>AF z fun x hx e=>⟨x,(h x).mpr hx,e⟩⟩
theorem Kc {O O':List Bx} (h:∀ o,o∈O↔o∈O') (x:Two O P S a b t d):Two O' P S a b t d:=
 let ⟨d1,d2,f1,f2,f3,f4⟩:=x.ex;⟨d1,d2,Sz (P:=P) (S:=S) (a:=a) (b:=b) h▸f1,fun e=>Sz (P:=P) (S:=S) (a:=b) (b:=a) h▸f2 e,f3,f4⟩
theorem Qu {w h:Int} {t:Bool} {sh:Sh} {os os':List Ot} {r:Option Pl3} (hm:∀ o,o∈os↔o∈os') (x:OnL w h t sh os r):OnL w h t sh os' r:=by
 obtain ⟨W,H,b⟩:=sh
 cases b with
 | true=>exact Kc (DQ hm) x
 | false=>exact Kc (DQ hm) x
theorem Q0 (F:FP On n l r):∀ {l':List (Sh × List Ot)},l'.length=l.length→(∀ (i:Nat) (x:Sh × List Ot),l[i]?=some x→∃ os,l'[i]?=some (x.1,os)∧∀ r,On x.1 x.2 r→On x.1 os r)→FP On n l' r:=by
 induction F with
 | nil=>intro l' hl _;rw [List.length_eq_zero_iff.mp hl];exact .nil
 | @hit n sh os l p o=>
  intro l' hl h
  refine AF (h 0 (sh,os) rfl) fun os' e1 e2=>?_
  cases l' with
  | nil=>exact Fz e1
  | cons y l'=>cases Option.some.inj e1;exact .hit (e2 _ o)
 | @miss n sh os l r o _ ih=>
  intro l' hl h
  refine AF (h 0 (sh,os) rfl) fun os' e1 e2=>?_
  cases l' with
  | nil=>exact Fz e1
  | cons y l'=>cases Option.some.inj e1;exact .miss (e2 _ o) (ih (Nat.succ.inj hl) fun i x hx=>h (i+1) x hx)
theorem LZ (h:∀ e,e∈hs↔e∈hs') (o:Ot):o∈Al hs skip i↔o∈Al hs' skip i:=by
 unfold Al
 exact DQ (fun x=>by rw [List.mem_filter,List.mem_filter,h x]) o
theorem MD {w h:Int} {t:Bool} {ss:List Sh} {hs hs':List En} {skip:Option Str} {r:Option Pl4} (hp:∀ e,e∈hs↔e∈hs') (F:FP (OnL w h t) 0 (ss.zip (AV ss.length hs skip)) r):FP (OnL w h t) 0 (ss.zip (AV ss.length hs' skip)) r:=
 Q0 F (by rw [List.length_zip,List.length_zip,At,At]) fun i x hx=>⟨Al hs' skip i,FT (Iv hx).1,fun r o=>Qu (LZ hp) ((Iv hx).2▸o)⟩
theorem Snd.perm (s:Snd ss hs) (hp:hs.Perm hs'):Snd ss hs':=
 ⟨fun e he=>s.ins e (hp.mem_iff.mpr he),(hp.pairwise_iff fun {a b} h e=>Eg h e).mp s.apart,fun e he=>s.sz e (hp.mem_iff.mpr he)⟩
theorem Esok.perm (E:Esok ss hs) (hp:hs.Perm hs'):Esok ss hs':=
 ⟨(hp.map _).nodup_iff.mp E.nodup,fun e he=>E.num e (hp.mem_iff.mpr he),fun e he=>E.str e (hp.mem_iff.mpr he),hp.length_eq▸E.len⟩
theorem Mq {α:Type} {R:α→α→Prop} (hR:∀ {a b},R a b→R b a→False) {p:List α}:∀ {q:List α},p.Perm q→p.Pairwise R→q.Pairwise R→p=q:=by
 induction p with
 | nil=>intro q h _ _;exact h.nil_eq
 | cons a p ih=>
  intro q h hp hq
  cases q with
  | nil=>exact absurd h.symm (List.not_perm_nil_cons _ _)
  | cons b q=>
   have hp:=List.pairwise_cons.mp hp
   have hq:=List.pairwise_cons.mp hq
   have e:a=b:=Classical.byContradiction fun hne=>hR (hp.1 b ((List.mem_cons.mp (h.mem_iff.mpr List.mem_cons_self)).resolve_left fun z=>hne z.symm)) (hq.1 a ((List.mem_cons.mp (h.mem_iff.mp List.mem_cons_self)).resolve_left hne))
   subst e
   rw [ih h.cons_inv hp.2 hq.2]
theorem GK {hs:List En} {i:Nat} {e:En} (h:hs[i]?=some e):hs.getD i dfl=e:=by rw [List.getD_eq_getElem?_getD,h];rfl
theorem DE {hs:List En} {p:List Nat} (hp:p.Perm (List.range hs.length)):(p.map fun i=>hs.getD i dfl).Perm hs:=by
 refine (hp.map _).trans (List.Perm.of_eq ?_)
 apply List.ext_getElem?
 intro i
 rw [List.getElem?_map]
 by_cases hi:i<hs.length
 ·rw [List.getElem?_range hi,List.getElem?_eq_getElem hi,Option.map_some,List.getD_eq_getElem?_getD,List.getElem?_eq_getElem hi];rfl
 ·rw [List.getElem?_eq_none (by rw [List.length_range];exact Nat.not_lt.mp hi),List.getElem?_eq_none (Nat.not_lt.mp hi)];rfl
theorem Jm {ss:List Sh} {hs:List En} {p:List Nat} (s:Snd ss hs) (hp:p.Perm (List.range hs.length)) (ho:p.Pairwise (A4 (hs.map (En.key ss)))):(p.map fun i=>hs.getD i dfl).Pairwise fun a b=>Aa (a.key ss) (b.key ss)=true:=by
 rw [List.pairwise_map]
 have hn:p.Nodup:=hp.nodup_iff.mpr List.nodup_range
 refine List.Pairwise.imp_of_mem ?_ (List.Pairwise.and ho hn)
 intro i j hi hj h
 have hi:=List.mem_range.mp (hp.mem_iff.mp hi)
 have hj:=List.mem_range.mp (hp.mem_iff.mp hj)
 have ei:=List.getElem?_eq_getElem hi
 have ej:=List.getElem?_eq_getElem hj
 have k:∀ {i:Nat} {e:En},hs[i]?=some e→(hs.map (En.key ss)).getD i []=e.key ss:=fun {i e} h=>by rw [List.getD_eq_getElem?_getD,List.getElem?_map,h];rfl
 have h1:=h.1
 unfold A4 at h1
 rw [k ei,k ej] at h1
 rw [GK ei,GK ej]
 exact h1.elim id fun z=>La s ei ej h.2 z.1
theorem Gv {ss:List Sh} {hs hl:List En} {p q:List Nat} (s:Snd ss hs) (hh:hl.Perm hs) (hp:p.Perm (List.range hs.length)) (ho:p.Pairwise (A4 (hs.map (En.key ss)))) (hq:q.Perm (List.range hl.length)) (hr:q.Pairwise (A4 (hl.map (En.key ss)))):(q.map fun i=>hl.getD i dfl)=p.map fun i=>hs.getD i dfl:=
 Mq (R:=fun a b=>Aa (a.key ss) (b.key ss)=true) (fun h h'=>KP (h'.symm.trans (EJ _ _ h))) ((DE hq).trans (hh.trans (DE hp).symm)) (Jm (s.perm hh.symm) hq hr) (Jm s hp ho)
inductive RF (ss:List Sh):List En→List (En × En)→List En→Prop
 | last {hs:List En} {p:List Nat}:p.Perm (List.range hs.length)→p.Pairwise (A4 (hs.map (En.key ss)))→Rnd ss p hs [] hs→RF ss hs [] hs
 | next {hs hs₁ hs':List En} {mv mv':List (En × En)} {p:List Nat}:p.Perm (List.range hs.length)→p.Pairwise (A4 (hs.map (En.key ss)))→Rnd ss p hs mv hs₁→mv≠[]→RF ss hs₁ mv' hs'→RF ss hs (mv++mv') hs'
theorem Rnds.front (h:Rnds ss hs k mv hs'):∀ {mv':List (En × En)} {hs'':List En},RF ss hs' mv' hs''→RF ss hs (mv++mv') hs'':=by
 induction h with
 | nil=>exact fun h=>h
 | next _ hp ho r hm ih=>exact fun h=>by rw [List.append_assoc];exact ih (.next hp ho r hm h)
structure Mov (ss:List Sh) (hs:List En) (x:En × En):Prop where
 mem:x.1∈hs
 fst:FirstOf ss hs x.1 x.2
 ne:x.2.qp ss≠x.1.qp ss
theorem Rnd.head (h:Rnd ss is hs mv hs'):∀ {x l},mv=x::l→Mov ss hs x:=by
 induction h with
 | nil=>exact fun e=>nomatch e
 | stay _ _ _ ih=>exact ih
 | move a b c _ _=>exact fun e=>by cases e;exact ⟨List.mem_of_getElem? a,b,c⟩
theorem RF.head (h:RF ss hs mv hs') (e:mv=x::l):Mov ss hs x:=by
 cases h with
 | last _ _ _=>cases e
 | @next hs hs₁ hs' mv mv' p _ _ r hm _=>
  cases mv with
  | nil=>exact absurd rfl hm
  | cons y mv=>rw [List.cons_append] at e;injection e with e1 e2;subst e1;exact r.head rfl
structure Rd (ss:List Sh) (p:List Nat) (hs:List En) (mv:List (En × En)) (hs₁:List En) (rest:List (En × En)) (hs':List En):Prop where
 rnd:Rnd ss p hs mv hs₁
 rest:rest≠[]→RF ss hs₁ rest hs'
theorem Rd.head {ss:List Sh} {p:List Nat} {hs hs₁ hs':List En} {mv rest:List (En × En)} (h:Rd ss p hs mv hs₁ rest hs') {x:En × En} {l:List (En × En)} (e:mv++rest=x::l):Mov ss hs x:=by
 cases mv with
 | nil=>
  have e:rest=x::l:=e
  have:=h.rest (by rw [e];exact List.cons_ne_nil _ _)
  rw [(h.rnd.same.2.2.2 rfl).1] at this
  exact this.head e
 | cons y mv=>rw [List.cons_append] at e;injection e with e1 e2;subst e1;exact h.rnd.head rfl
theorem SX {ss:List Sh} {hs:List En} {e:En} {skip:Option Str} {r r':Option Pl4} (F:FP (OnL e.w e.h e.t) 0 (ss.zip (AV ss.length hs skip)) r) (F':FP (OnL e.w e.h e.t) 0 (ss.zip (AV ss.length hs skip)) r'):r=r':=
 (Dj F).elim (fun h=>(Dj F').elim (fun h'=>h.1.trans h'.1.symm) fun h'=>Ae h' fun q' _ ok' _=>absurd ok' (h.2 q')) fun h=>Ae h fun q e1 ok least=>(Dj F').elim (fun h'=>absurd ok (h'.2 q)) fun h'=>Ae h' fun q' e2 ok' least'=>e1.trans (Qp.le_antisymm (least q' ok') (least' q ok)▸e2.symm)
theorem HB {ss:List Sh} {hs:List En} {e a b:En} (h:FirstOf ss hs e a) (h':FirstOf ss hs e b):a=b:=by
 have k:=Option.some.inj (SX h.fp h'.fp)
 rw [h.to,h'.to,Int.ofNat.inj (congrArg (·.1) k),show a.u=b.u from congrArg (·.2.1) k,show a.l=b.l from congrArg (·.2.2.1) k,show a.r=b.r from congrArg (·.2.2.2) k]
theorem Rd.other {ss:List Sh} {p:List Nat} {hs hs₁ hs':List En} {mv rest:List (En × En)} {e:En} (h:Rd ss p hs mv hs₁ rest hs') (hn:(hs.map (·.name)).Nodup) (he:e∈hs) (f:FirstOf ss hs e e) {x:En × En} {l:List (En × En)} (q:mv++rest=x::l):x.1.name≠e.name:=fun z=>by
 have m:=h.head q
 have e1:x.1=e:=by
  obtain ⟨i,hi⟩:=List.mem_iff_getElem?.mp m.mem
  obtain ⟨j,hj⟩:=List.mem_iff_getElem?.mp he
  by_cases ij:j=i
  ·subst ij;exact Option.some.inj (hi.symm.trans hj)
  ·exact absurd z.symm (GH hn hi hj ij)
 have e2:x.2=e:=HB (e1▸m.fst) f
 exact m.ne (by rw [e1,e2])
inductive Turn (ss:List Sh) (i:Nat) (p:List Nat) (hs:List En) (mv:List (En × En)) (hs₁:List En):Prop
 | stay (e:En):hs[i]?=some e→FirstOf ss hs e e→Rnd ss p hs mv hs₁→Turn ss i p hs mv hs₁
 | move (e e':En) (mv':List (En × En)):hs[i]?=some e→FirstOf ss hs e e'→e'.qp ss≠e.qp ss→mv=(e,e')::mv'→Rnd ss p (hs.set i e') mv' hs₁→Turn ss i p hs mv hs₁
theorem Rnd.turn (h:Rnd ss (i::p) hs mv hs₁):Turn ss i p hs mv hs₁:=by
 cases h with
 | stay a b c=>exact .stay _ a b c
 | move a b c d=>exact .move _ _ _ a b c rfl d
theorem LO {hs:List En} {e:En} {i:Nat} (hn:(hs.map (·.name)).Nodup) (hi:hs[i]?=some e) (e':En):((hs.filter fun y=>decide (y.name≠e.name))++[e']).Perm (hs.set i e'):=by
 induction hs generalizing i with
 | nil=>exact Fz hi
 | cons x l ih=>
  have hn:=List.nodup_cons.mp hn
  cases i with
  | zero=>
   cases Option.some.inj hi
   rw [List.filter_cons_of_neg (by simp),List.set_cons_zero,List.filter_eq_self.mpr]
   ·exact List.perm_append_comm (l₂:=[e'])
   ·exact fun y hy=>decide_eq_true fun z=>hn.1 (List.mem_map.mpr ⟨y,hy,z⟩)
  | succ i=>
   have hi:l[i]?=some e:=hi
   have hx:x.name≠e.name:=fun z=>hn.1 (List.mem_map.mpr ⟨e,List.mem_of_getElem? hi,z.symm⟩)
   rw [List.filter_cons_of_pos (by exact decide_eq_true hx),List.set_cons_succ,List.cons_append]
   exact (ih hn.2 hi).cons x
theorem Hg {hs hl:List En} {e:En} {i:Nat} (hh:hl.Perm hs) (hn:(hs.map (·.name)).Nodup) (hi:hs[i]?=some e) (e':En):((hl.filter fun y=>decide (y.name≠e.name))++[e']).Perm (hs.set i e'):=
 ((hh.filter _).append_right [e']).trans (LO hn hi e')
inductive Nx (ss:List Sh) (hs:List En) (all:List (En × En)) (hs':List En):Prop
 | mk (p:List Nat) (mv:List (En × En)) (hs₁:List En) (rest:List (En × En)):p.Perm (List.range hs.length)→p.Pairwise (A4 (hs.map (En.key ss)))→all=mv++rest→Rd ss p hs mv hs₁ rest hs'→((mv=[]∧rest=[]∧hs₁=hs∧hs'=hs)∨(mv≠[]∧RF ss hs₁ rest hs'))→Nx ss hs all hs'
theorem RF.nx (h:RF ss hs mv hs'):Nx ss hs mv hs':=by
 cases h with
 | @last _ p hp ho r=>exact .mk p [] hs [] hp ho rfl ⟨r,fun h=>absurd rfl h⟩ (.inl ⟨rfl,rfl,rfl,rfl⟩)
 | @next _ hs₁ _ mv mv' p hp ho r hm f=>exact .mk p mv hs₁ mv' hp ho rfl ⟨r,fun _=>f⟩ (.inr ⟨hm,f⟩)
theorem Tn {K:List (List Int)} {q:List Nat} {k a:Nat} (hp:q.Perm (List.range k)) (hs:q.Pairwise (A4 K)) (h1:∀ j∈q.drop a,Aa (K.getD k []) (K.getD j [])=true) (h2:a=0∨∃ i,q[a - 1]?=some i∧Aa (K.getD k []) (K.getD i [])=false) :
  (q.take a++k::q.drop a).Perm (List.range (k+1))∧(q.take a++k::q.drop a).Pairwise (A4 K):=by
 have lt:∀ i∈q,i<k:=fun i hi=>List.mem_range.mp (hp.mem_iff.mp hi)
 constructor
 ·refine List.perm_middle.trans ?_
  rw [List.take_append_drop,List.range_succ]
  exact (List.Perm.cons k hp).trans (List.perm_append_comm (l₁:=[k]))
 ·have hs':=hs
  rw [← List.take_append_drop a q] at hs'
  have hs':=List.pairwise_append.mp hs'
  have key:∀ i∈q.take a,A4 K i k:=fun i hi=>by
   refine .inr ⟨?_,lt i (List.mem_of_mem_take hi)⟩
   rcases h2 with z | ⟨z,hz,hn⟩
   ·rw [z] at hi;exact absurd hi List.not_mem_nil
   ·have ha:a=a - 1+1:=by
     cases a with
     | zero=>exact absurd hi List.not_mem_nil
     | succ a=>rfl
    rw [ha,BN hz] at hi
    refine (List.mem_append.mp hi).elim (fun hi=>?_) fun hi=>List.mem_singleton.mp hi▸hn
    have hz':Aa (K.getD z []) (K.getD i [])=false:=(Ur hs hz i hi).elim (fun h=>EJ _ _ h) fun h=>h.1
    cases e:Aa (K.getD k []) (K.getD i []) with
    | false=>rfl
    | true=>exact (Fb _ (K.getD z []) _ e).elim (fun h=>KP (h.symm.trans hn)) fun h=>KP (h.symm.trans hz')
  refine List.pairwise_append.mpr ⟨hs'.1,List.pairwise_cons.mpr ⟨fun j hj=>.inl (h1 j hj),hs'.2.1⟩,fun i hi j hj=>?_⟩
  exact (List.mem_cons.mp hj).elim (fun e=>e▸key i hi) fun hj=>hs'.2.2 i hi j hj
end Mine.Internal
namespace Mine.Internal
open PySem
noncomputable def Cp:Str:="Rack.names.<locals>.<lambda>"
noncomputable def Sd:Fn:=⟨1,2,[
  Ds (BA (A3 true)) [PQ]]⟩
noncomputable def L3:Fn:=⟨2,8,[
  AP (.tup [2,3,4,5]) (AA 1),
  AP (.var 6) (AB 0),
  sIf (BA (AA 5)) [AP (.var 6) (AB 1)] [],
  sIf (AT (AJ (AJ (AA 0) (AA 2)) (AB 2)) [.Eq] [(Ad (Str.ofString "low"))]) [AU (Ak [(AA 2),(AA 3),(AA 4),(AA 6)])] [],
  AU (Ak [(AA 2),(AA 4),(AA 3),(AA 6)])]⟩
noncomputable def Hd:Fn:=⟨3,4,[
  AU (xOf (AT (AQ 1 [(AA 0),(AA 1)]) [.Lt] [(AQ 1 [(AA 0),(AA 2)])]))]⟩
noncomputable def MP:Fn:=⟨3,7,[
  AP (.var 3) (AB 0),
  Bt (.tup [4,5]) .plain [(E6 false (AA 0))] [sIf (Dn [(AT (AA 4) [.Lt] [(AL .add (AA 3) (AA 1))]),(AT (AA 5) [.Gt] [(AA 3)])]) [AP (.var 3) (AA 5)] []],
  sIf (AT (AL .add (AA 3) (AA 1)) [.Gt] [(AA 2)]) [AU A1] [],
  AU (AA 3)]⟩
noncomputable def MG:Fn:=⟨3,4,[
  AU (E6 true (AL .add (Ap [(AB 0)]) (Au (AA 3) 3 .plain [(AA 0)] [(AT (AB 0) [.Lt,.LtE] [(AA 3),(AL .sub (AA 2) (AA 1))])])))]⟩
noncomputable def MC:Fn:=⟨5,9,[
  Bt (.var 5) .plain [(AQ 4 [(Au (AL .add (AJ (AA 8) (AB 1)) (AJ (AA 8) (AB 3))) 8 .plain [(AA 0)] []),(AA 4),(AA 2)])] [AP (.var 6) (Au (AA 8) 8 .plain [(AA 0)] [(Dn [(AT (AJ (AA 8) (AB 1)) [.Lt] [(AL .add (AA 5) (AA 4))]),(AT (AA 5) [.Lt] [(AL .add (AJ (AA 8) (AB 1)) (AJ (AA 8) (AB 3)))])])]),AP (.var 7) (AQ 3 [(Au (Ak [(AJ (AA 8) (AB 0)),(AL .add (AJ (AA 8) (AB 0)) (AJ (AA 8) (AB 2)))]) 8 .plain [(AA 6)] []),(AA 3),(AA 1)]),sIf (Dn [(AT (AA 7) [.IsNot] [A1]),(AT (AL .add (AA 5) (AA 4)) [.LtE] [(AA 2)])]) [AU (Ak [(AA 5),(AA 7)])] []],
  AU A1]⟩
noncomputable def MF:Fn:=⟨5,9,[
  Bt (.var 5) .plain [(AQ 4 [(Au (AL .add (AJ (AA 8) (AB 0)) (AJ (AA 8) (AB 2))) 8 .plain [(AA 0)] []),(AA 3),(AA 1)])] [AP (.var 6) (Au (AA 8) 8 .plain [(AA 0)] [(Dn [(AT (AJ (AA 8) (AB 0)) [.Lt] [(AL .add (AA 5) (AA 3))]),(AT (AA 5) [.Lt] [(AL .add (AJ (AA 8) (AB 0)) (AJ (AA 8) (AB 2)))])])]),AP (.var 7) (AQ 3 [(Au (Ak [(AJ (AA 8) (AB 1)),(AL .add (AJ (AA 8) (AB 1)) (AJ (AA 8) (AB 3)))]) 8 .plain [(AA 6)] []),(AA 4),(AA 2)]),sIf (Dn [(AT (AA 7) [.IsNot] [A1]),(AT (AL .add (AA 5) (AA 3)) [.LtE] [(AA 1)])]) [AU (Ak [(AA 7),(AA 5)])] []],
  AU A1]⟩
noncomputable def L1:Fn:=⟨4,8,[
  AP (.tup [4,5,6]) (AA 1),
  sIf (AT (AA 6) [.Eq] [(Ad (Str.ofString "low"))]) [AU (AQ 5 [(AA 0),(AA 4),(AA 5),(AA 2),(AA 3)])] [],
  AU (AQ 6 [(AA 0),(AA 4),(AA 5),(AA 2),(AA 3)])]⟩
noncomputable def MS:Fn:=⟨6,10,[
  AP (.var 6) A1,
  AP (.var 7) (AQ 7 [(AA 2),(AJ (AA 0) (AA 1)),(AA 3),(AA 4)]),
  sIf (AT (AA 7) [.IsNot] [A1]) [AP (.var 6) (Ak [(AA 1),(AJ (AA 7) (AB 0)),(AJ (AA 7) (AB 1)),(A3 false)])] [],
  sIf (CD (BA (AA 5))) [AU (AA 6)] [],
  AP (.var 7) (AQ 7 [(AA 2),(AJ (AA 0) (AA 1)),(AA 4),(AA 3)]),
  sIf (AT (AA 7) [.IsNot] [A1]) [AP (.var 8) (Ak [(AA 1),(AJ (AA 7) (AB 0)),(AJ (AA 7) (AB 1)),(A3 true)]),sIf (tOr [(AT (AA 6) [.Is] [A1]),(BA (AQ 2 [(AA 0),(AA 8),(AA 6)]))]) [AP (.var 6) (AA 8)] []] [],
  AU (AA 6)]⟩
noncomputable def Lz:Fn:=⟨5,8,[
  Bt (.var 5) .range [(Ah .len [(AA 0)])] [AP (.var 6) (AQ 8 [(AA 0),(AA 5),(AJ (AA 1) (AA 5)),(AA 2),(AA 3),(AA 4)]),sIf (AT (AA 6) [.IsNot] [A1]) [AU (AA 6)] []],
  AU A1]⟩
noncomputable def IR:Fn:=⟨2,11,[
  AP (.tup [2,3,4,5]) (AA 0),
  AP (.tup [6,7,8,9]) (AA 1),
  sIf (tOr [(AT (AL .add (AA 2) (AA 4)) [.LtE] [(AA 6)]),(AT (AL .add (AA 6) (AA 8)) [.LtE] [(AA 2)])]) [AU (A3 false)] [],
  AU (FV true [(xOf (AT (AA 3) [.Lt] [(AL .add (AA 7) (AA 9))])),(xOf (AT (AA 7) [.Lt] [(AL .add (AA 3) (AA 5))]))])]⟩
noncomputable def Ij:Fn:=⟨3,8,[
  AP (.tup [3,4,5,6]) (AA 0),
  AU (FV true [(xOf (AT (AA 3) [.GtE] [(AB 0)])),(xOf (AT (AA 4) [.GtE] [(AB 0)])),(xOf (AT (AL .add (AA 3) (AA 5)) [.LtE] [(AA 1)])),(xOf (AT (AL .add (AA 4) (AA 6)) [.LtE] [(AA 2)]))])]⟩
noncomputable def IN:Fn:=⟨2,5,[
  Bt (.tup [2,3]) .enum [(AA 0)] [sIf (BA (AQ 10 [(AA 3),(AA 1)])) [AU (AA 2)] []],
  AU A1]⟩
noncomputable def Ik:Fn:=⟨4,5,[
  AU (FV true [(AQ 11 [(AA 1),(AA 2),(AA 3)]),(xOf (AT (AQ 12 [(AA 0),(AA 1)]) [.Is] [A1]))])]⟩
noncomputable def Je:Fn:=⟨1,2,[
  AU (xOf (AT (AB 1) [.LtE,.LtE] [(AA 0),(AB 1000000)]))]⟩
noncomputable def JS:Fn:=⟨1,2,[
  AU (FV true [(Ah (.isinst .str) [(AA 0)]),(xOf (AT (AB 0) [.Lt,.LtE] [(Ah .len [(AA 0)]),(AB 12)])),(Ah .all [(Au (xOf (AT (AA 1) [.In] [(Ad (Str.ofString "abcdefghijklmnopqrstuvwxyz0123456789"))])) 1 .plain [(AA 0)] [])])])]⟩
noncomputable def ID:Fn:=⟨2,3,[
  sIf (BA (AJ (AA 1) (AB 3))) [AU (Ak [(AJ (AA 1) (AB 2)),(AJ (AA 1) (AB 1)),(AJ (AA 0) (AB 2)),(AJ (AA 0) (AB 1))])] [],
  AU (Ak [(AJ (AA 1) (AB 2)),(AJ (AA 1) (AB 1)),(AJ (AA 0) (AB 1)),(AJ (AA 0) (AB 2))])]⟩
noncomputable def I3:Fn:=⟨2,13,[
  AP (.tup [2,3,4,5]) (Ax 311 "box" 56 (AA 0) [(AA 1)]),
  AP (.tup [6,7,8,9]) (Ax 311 "where" 55 (AA 0) [(AA 1)]),
  AP (.var 10) (Ad (Str.ofString "stays")),
  sIf (BA (AA 5)) [AP (.var 10) (Ad (Str.ofString "turns"))] [],
  AP (.var 11) (Ad (Str.ofString "upright")),
  sIf (BA (AA 9)) [AP (.var 11) (Ad (Str.ofString "turned"))] [],
  AU (Ld [(Ad (Str.ofString "box ")),(AA 2),(Ad (Str.ofString " ")),(AA 3),(Ad (Str.ofString " ")),(AA 4),(Ad (Str.ofString " ")),(AA 10),(Ad (Str.ofString " ")),(AA 6),(Ad (Str.ofString " ")),(AA 7),(Ad (Str.ofString " ")),(AA 8),(Ad (Str.ofString " ")),(AA 11),(Ad (Str.ofString "\n"))] Str.empty)]⟩
noncomputable def IK:Fn:=⟨1,7,[
  AP (.var 1) (Ap []),
  Bt (.tup [2,3,4]) .plain [(A9 311 "shelves" (AA 0))] [A5 (Fa (AA 1) (Ld [(Ad (Str.ofString "shelf ")),(AA 2),(Ad (Str.ofString " ")),(AA 3),(Ad (Str.ofString " ")),(AA 4),(Ad (Str.ofString "\n"))] Str.empty))],
  Bt (.var 5) .plain [(Ax 311 "names" 58 (AA 0) [])] [A5 (Fa (AA 1) (AQ 17 [(AA 0),(AA 5)]))],
  AU (G3 (Str.ofString "") (AA 1))]⟩
noncomputable def Id:Fn:=⟨1,2,[
  sIf (AT (AL .mod (AA 0) (AB 3)) [.Eq] [(AB 0)]) [AU (AB 1)] [],
  AU (AL .add (AB 1) (AL .mod (AL .floordiv (AA 0) (AB 3)) (AB 160000)))]⟩
noncomputable def IH:Fn:=⟨2,3,[
  sIf (AT (AA 1) [.Lt] [(Ah .len [(AA 0)])]) [AU (AJ (AA 0) (AA 1))] [],
  AU (AB 0)]⟩
noncomputable def Ib:Fn:=⟨3,4,[
  sIf (AT (Ah .len [(AA 0)]) [.Gt] [(AB 63)]) [AU (AA 2)] [],
  AU (AA 1)]⟩
noncomputable def Fg:Fn:=⟨3,4,[
  AU (FV false [(xOf (AT (AL .add (AJ (AA 0) (AA 2)) (AJ (AA 0) (AL .add (AA 2) (AB 2)))) [.LtE] [(AJ (AA 1) (AA 2))])),(xOf (AT (AL .add (AJ (AA 1) (AA 2)) (AJ (AA 1) (AL .add (AA 2) (AB 2)))) [.LtE] [(AJ (AA 0) (AA 2))]))])]⟩
noncomputable def IA:Fn:=⟨4,6,[
  sIf (tOr [(AT (AJ (AA 1) (AB 0)) [.Lt] [(AB 0)]),(AT (AJ (AA 1) (AB 1)) [.Lt] [(AB 0)]),(AT (AL .add (AJ (AA 1) (AB 0)) (AJ (AA 1) (AB 2))) [.Gt] [(AA 2)]),(AT (AL .add (AJ (AA 1) (AB 1)) (AJ (AA 1) (AB 3))) [.Gt] [(AA 3)])]) [AU (A3 false)] [],
  Bt (.var 4) .plain [(AA 0)] [sIf (Dn [(CD (BA (AQ 22 [(AA 1),(AA 4),(AB 0)]))),(CD (BA (AQ 22 [(AA 1),(AA 4),(AB 1)])))]) [AU (A3 false)] []],
  AU (A3 true)]⟩
noncomputable def H9:Fn:=⟨1,2,[
  sIf (AT (AJ (AA 0) (AB 2)) [.Eq] [(Ad (Str.ofString "low"))]) [AU (Au (Ak [(AL .floordiv (AA 1) (AJ (AA 0) (AB 0))),(AL .mod (AA 1) (AJ (AA 0) (AB 0)))]) 1 .range [(AL .mul (AJ (AA 0) (AB 0)) (AJ (AA 0) (AB 1)))] [])] [],
  AU (Au (Ak [(AL .mod (AA 1) (AJ (AA 0) (AB 1))),(AL .floordiv (AA 1) (AJ (AA 0) (AB 1)))]) 1 .range [(AL .mul (AJ (AA 0) (AB 0)) (AJ (AA 0) (AB 1)))] [])]⟩
noncomputable def Ie:Fn:=⟨1,3,[
  AP (.var 1) (AJ (AA 0) (AB 4)),
  sIf (BA (AJ (AA 1) (AB 3))) [AU (Ak [(AJ (AA 1) (AB 2)),(AJ (AA 1) (AB 1)),(AJ (AA 0) (AB 2)),(AJ (AA 0) (AB 1))])] [],
  AU (Ak [(AJ (AA 1) (AB 2)),(AJ (AA 1) (AB 1)),(AJ (AA 0) (AB 1)),(AJ (AA 0) (AB 2))])]⟩
noncomputable def JJ:Fn:=⟨3,4,[
  AU (Au (AQ 25 [(AA 3)]) 3 .plain [(AA 0)] [(Dn [(AT (AJ (AJ (AA 3) (AB 4)) (AB 0)) [.Eq] [(AA 1)]),(AT (AJ (AA 3) (AB 0)) [.NotEq] [(AA 2)])])])]⟩
noncomputable def IT:Fn:=⟨1,5,[
  AP (.var 2) (Au (Ak [(AB 1),(AB 1),(Ad (Str.ofString "low"))]) 4 .range [(Ah .max [(AB 0),(AL .sub (AL .mod (AL .floordiv (AQ 20 [(AA 0),(AB 1)]) (AB 3)) (AB 14)) (AB 7))])] []),
  Bt (.var 1) .range [(AL .add (AB 1) (AL .mod (AQ 20 [(AA 0),(AB 1)]) (AB 3)))] [AP (.var 3) (AL .mod (AL .add (AL .mul (AQ 20 [(AA 0),(AL .add (AB 2) (AA 1))]) (AB 48271)) (AB 11)) (AB 2147483647)),A5 (Fa (AA 2) (Ak [(AL .add (AB 1) (AL .mod (AA 3) (AB 5))),(AL .add (AB 1) (AL .mod (AL .floordiv (AA 3) (AB 5)) (AB 4))),(AJ (Ap [(Ad (Str.ofString "low")),(Ad (Str.ofString "left"))]) (AL .mod (AL .floordiv (AA 3) (AB 20)) (AB 2)))]))],
  AU (AA 2)]⟩
noncomputable def II:Fn:=⟨2,3,[
  AU (Au (Ak [(AL .mul (AJ (AA 2) (AB 0)) (AA 1)),(AL .mul (AJ (AA 2) (AB 1)) (AA 1)),(AJ (AA 2) (AB 2))]) 2 .plain [(AA 0)] [])]⟩
noncomputable def Fp:Fn:=⟨2,3,[
  AU (Ak [(AJ (AA 0) (AB 0)),(AL .mul (AJ (AA 0) (AB 1)) (AA 1)),(AL .mul (AJ (AA 0) (AB 2)) (AA 1)),(AJ (AA 0) (AB 3))])]⟩
noncomputable def Gh:Fn:=⟨3,7,[
  AP (.var 3) (Ap [(AJ (AA 1) (AB 0)),(AJ (AA 1) (AB 1)),(AJ (AA 1) (AB 2)),(Ah .int [(AJ (AA 1) (AB 3))])]),
  AP (.var 4) (Ap [(AJ (AA 2) (AB 0)),(AJ (AA 2) (AB 1)),(AJ (AA 2) (AB 2)),(Ah .int [(AJ (AA 2) (AB 3))])]),
  sIf (AT (AJ (AJ (AA 0) (AJ (AA 1) (AB 0))) (AB 2)) [.Eq] [(Ad (Str.ofString "left"))]) [AP (.var 3) (Ap [(AJ (AA 1) (AB 0)),(AJ (AA 1) (AB 2)),(AJ (AA 1) (AB 1)),(Ah .int [(AJ (AA 1) (AB 3))])])] [],
  sIf (AT (AJ (AJ (AA 0) (AJ (AA 2) (AB 0))) (AB 2)) [.Eq] [(Ad (Str.ofString "left"))]) [AP (.var 4) (Ap [(AJ (AA 2) (AB 0)),(AJ (AA 2) (AB 2)),(AJ (AA 2) (AB 1)),(Ah .int [(AJ (AA 2) (AB 3))])])] [],
  Bt (.var 5) .range [(AB 4)] [sIf (AT (AJ (AA 3) (AA 5)) [.NotEq] [(AJ (AA 4) (AA 5))]) [AU (xOf (AT (AJ (AA 3) (AA 5)) [.Lt] [(AJ (AA 4) (AA 5))]))] []],
  AU (A3 false)]⟩
noncomputable def Ii:Fn:=⟨1,6,[
  AP (.var 1) (Ad (Str.ofString "abcdefghijklmnopqrstuvwxyz0123456789")),
  AP (.var 2) (Ad (Str.ofString "")),
  AP (.var 3) (AL .mod (AL .floordiv (AA 0) (AB 12)) (AB 12)),
  Bt (.var 4) .range [(AL .mod (AA 0) (AB 12))] [AP (.var 0) (AL .mod (AL .add (AL .mul (AA 0) (AB 48271)) (AB 11)) (AB 2147483647)),AP (.var 2) (AL .add (AA 2) (AJ (AA 1) (AL .mod (AA 0) (AB 36))))],
  AU (Au (AL .add (AL .add (BW (AA 2) none (some (AA 3))) (AA 5)) (BW (AA 2) (some (AA 3)) none)) 5 .plain [(Ad (Str.ofString "abcdxyz0189mno"))] [])]⟩
noncomputable def FQ:Fn:=⟨2,8,[
  AP (.var 2) (E6 false (AL .add (Ap [(AB 0)]) (Au (AL .add (AJ (AA 7) (AB 1)) (AJ (AA 7) (AB 3))) 7 .plain [(AA 0)] []))),
  AP (.var 3) (E6 false (AL .add (Ap [(AB 0)]) (Au (AL .add (AJ (AA 7) (AB 0)) (AJ (AA 7) (AB 2))) 7 .plain [(AA 0)] []))),
  AP (.var 4) (Ap []),
  sIf (AT (AJ (AA 1) (AB 2)) [.Eq] [(Ad (Str.ofString "low"))]) [Bt (.var 5) .plain [(AA 2)] [AP (.var 4) (AL .add (AA 4) (Au (Ak [(AA 5),(AA 7)]) 7 .plain [(AA 3)] []))]] [Bt (.var 6) .plain [(AA 3)] [AP (.var 4) (AL .add (AA 4) (Au (Ak [(AA 7),(AA 6)]) 7 .plain [(AA 2)] []))]],
  AU (AA 4)]⟩
noncomputable def Iw:Fn:=⟨3,4,[
  sIf (BA (AA 2)) [AU (AQ 32 [(AA 0),(AA 1)])] [],
  AU (AQ 24 [(AA 1)])]⟩
noncomputable def IC:Fn:=⟨2,4,[
  AP (.var 0) (AL .mod (AL .add (AL .add (AL .mul (AA 0) (AB 48271)) (AL .mul (AB 11) (AA 1))) (AB 5)) (AB 2147483647)),
  AP (.var 2) (AL .mod (AL .mul (AA 0) (AB 69621)) (AB 2147483647)),
  AU (Ak [(AL .add (AB 1) (AL .mod (AA 0) (AB 1000))),(AL .add (AB 1) (AL .mod (AA 2) (AB 1000))),(AJ (Ap [(Ad (Str.ofString "low")),(Ad (Str.ofString "left"))]) (AL .mod (AL .floordiv (AA 0) (AB 1000)) (AB 2)))])]⟩
noncomputable def Im:Fn:=⟨5,12,[
  Bt (.var 5) .range [(Ah .len [(AA 0)])] [AP (.var 6) (AQ 26 [(AA 1),(AA 5),(AJ (AA 2) (AB 0))]),Bt (.var 7) .plain [(AQ 33 [(AA 6),(AJ (AA 0) (AA 5)),(AA 4)])] [Bt (.var 8) .plain [(BW (Ap [(A3 false),(A3 true)]) none (some (AL .add (AB 1) (Ah .int [(AJ (AA 2) (AB 3))]))))] [AP (.var 9) (Ak [(AA 5),(AJ (AA 7) (AB 0)),(AJ (AA 7) (AB 1)),(AA 8)]),AP (.var 10) (AQ 23 [(AA 6),(AQ 25 [(AL .add (AA 2) (Ak [(AA 9)]))]),(AJ (AJ (AA 0) (AA 5)) (AB 0)),(AJ (AJ (AA 0) (AA 5)) (AB 1))]),sIf (AT (AA 9) [.Eq] [(AA 3)]) [AU (AA 10)] [],sIf (BA (AA 10)) [AU (A3 false)] []]]],
  AU (xOf (AT (AA 3) [.Is] [A1]))]⟩
noncomputable def JT:Fn:=⟨1,2,[
  AU (FV true [(Ah (.isinst .int) [(AA 0)]),(TB (Ah (.isinst .bool) [(AA 0)]))])]⟩
noncomputable def IO:Fn:=⟨1,2,[
  sIf (tOr [(CD (BA (Ah (.isinst .tuple) [(AA 0)]))),(AT (Ah .len [(AA 0)]) [.NotEq] [(AB 4)]),(CD (BA (Ah (.isinst .bool) [(AJ (AA 0) (AB 3))])))]) [AU (A3 false)] [],
  AU (FV true [(AQ 36 [(AJ (AA 0) (AB 0))]),(AQ 36 [(AJ (AA 0) (AB 1))]),(AQ 36 [(AJ (AA 0) (AB 2))])])]⟩
noncomputable def D4:Fn:=⟨4,6,[
  Uc [sIf (AT (AA 2) [.Is] [A1]) [A5 (Ax 311 "put" 51 (AA 0) [(AJ (AA 1) (AB 0)),(AL .mul (AJ (AA 1) (AB 1)) (AA 3)),(AL .mul (AJ (AA 1) (AB 2)) (AA 3)),(AJ (AA 1) (AB 3))])] [A5 (Ax 311 "put_at" 52 (AA 0) [(AJ (AA 1) (AB 0)),(AL .mul (AJ (AA 1) (AB 1)) (AA 3)),(AL .mul (AJ (AA 1) (AB 2)) (AA 3)),(AJ (AA 1) (AB 3)),(AQ 29 [(AA 2),(AA 3)])])]] [([68],.none,none),([80],.none,none)],
  AP (.var 4) (Ax 311 "where" 55 (AA 0) [(AJ (AA 1) (AB 0))]),
  AU (Ak [(AJ (AA 4) (AB 0)),(AL .floordiv (AJ (AA 4) (AB 1)) (AA 3)),(AL .floordiv (AJ (AA 4) (AB 2)) (AA 3)),(AJ (AA 4) (AB 3))])]⟩
noncomputable def Cy:Fn:=⟨6,13,[
  AP (.var 2) (AL .mod (AL .add (AL .mul (AA 2) (AB 48271)) (AB 11)) (AB 2147483647)),
  AP (.var 6) (AJ (AA 3) (AL .mod (AL .mod (AL .mul (AA 2) (AB 69621)) (AB 2147483647)) (AB 14))),
  AP (.var 7) (Ak [(AA 6),(AL .add (AB 1) (AL .mod (AL .floordiv (AA 2) (AB 8)) (AB 3))),(AL .add (AB 1) (AL .mod (AL .floordiv (AA 2) (AB 24)) (AB 3))),(xOf (AT (AL .mod (AL .floordiv (AA 2) (AB 72)) (AB 2)) [.Eq] [(AB 1)]))]),
  AP (.var 8) (AL .mod (AL .floordiv (AA 2) (AB 144)) (AB 6)),
  AP (.var 9) (AL .floordiv (AA 2) (AB 864)),
  sIf (Dn [(AT (AA 8) [.Eq] [(AB 0)]),(AT (Au (AA 12) 12 .plain [(AA 1)] [(AT (AJ (AA 12) (AB 0)) [.Eq] [(AA 6)])]) [.NotEq] [(Ap [])])]) [A5 (Ax 311 "take_out" 54 (AA 0) [(AA 6)]),AU (Au (AA 12) 12 .plain [(AA 1)] [(AT (AJ (AA 12) (AB 0)) [.NotEq] [(AA 6)])])] [],
  AP (.var 10) (Ak [(AL .sub (AA 5) (AB 1)),(AL .mod (AL .floordiv (AA 9) (AB 3)) (AB 4)),(AL .mod (AL .floordiv (AA 9) (AB 12)) (AB 5)),(xOf (AT (AL .mod (AL .floordiv (AA 9) (AB 60)) (AB 2)) [.Eq] [(AB 1)]))]),
  sIf (AT (AL .mod (AA 9) (AB 3)) [.Eq] [(AB 0)]) [AP (.var 10) (AL .add (Ak [(AL .mod (AL .floordiv (AA 9) (AB 120)) (AA 5))]) (BW (AA 10) (some (AB 1)) none))] [],
  sIf (AT (AA 8) [.Eq] [(AB 1)]) [AP (.var 10) A1] [],
  AP (.var 11) (AQ 38 [(AA 0),(AA 7),(AA 10),(AA 4)]),
  sIf (AT (AA 11) [.Is] [A1]) [AU (AA 1)] [],
  AU (AL .add (AA 1) (Ap [(AL .add (AA 7) (Ak [(AA 11)]))]))]⟩
noncomputable def I5:Fn:=⟨5,14,[
  AP (.var 2) (AL .mod (AL .add (AL .mul (AA 2) (AB 48271)) (AB 11)) (AB 2147483647)),
  AP (.var 5) (AL .mod (AL .mul (AA 2) (AB 69621)) (AB 2147483647)),
  AP (.var 6) (AL .mod (AL .mul (AA 5) (AB 16807)) (AB 2147483647)),
  AP (.var 7) (Ak [(AJ (AA 3) (AL .mod (AA 2) (AB 14))),(AL .add (AB 1) (AL .mod (AA 5) (AB 400))),(AL .add (AB 1) (AL .mod (AA 6) (AB 400))),(xOf (AT (AL .mod (AL .floordiv (AA 2) (AB 14)) (AB 2)) [.Eq] [(AB 1)]))]),
  AP (.var 8) (AL .mod (AL .floordiv (AA 2) (AB 28)) (Ah .len [(AA 4)])),
  AP (.var 9) (AL .mod (AL .floordiv (AA 5) (AB 400)) (AJ (AJ (AA 4) (AA 8)) (AB 1))),
  AP (.var 10) (AL .mod (AL .floordiv (AA 6) (AB 400)) (AJ (AJ (AA 4) (AA 8)) (AB 0))),
  AP (.var 11) (Ak [(AA 8),(AA 9),(AA 10),(xOf (AT (AL .mod (AL .floordiv (AA 2) (AB 252)) (AB 2)) [.Eq] [(AB 1)]))]),
  sIf (AT (Au (AA 13) 13 .plain [(AA 1)] [(AT (AJ (AA 13) (AB 0)) [.Eq] [(AJ (AA 7) (AB 0))])]) [.NotEq] [(Ap [])]) [AU (AA 1)] [],
  AP (.var 12) (AQ 38 [(AA 0),(AA 7),(AA 11),(AB 1)]),
  sIf (AT (AA 12) [.Is] [A1]) [AU (AA 1)] [],
  AU (AL .add (AA 1) (Ap [(AL .add (AA 7) (Ak [(AA 12)]))]))]⟩
noncomputable def JZ:Fn:=⟨5,11,[
  AP (.var 5) (Ap []),
  Bt (.tup [6,7]) .enum [(Ap [(Ak [(AB 1),(AB 1),(AB 0),(AB 0)]),(Ak [(AB 1),(AB 2),(AB 0),(AB 2)]),(Ak [(AB 2),(AB 1),(AB 1),(AB 0)])])] [sIf (CD (BA (AA 1))) [AP (.var 7) (Ak [(AJ (AA 7) (AB 1)),(AJ (AA 7) (AB 0)),(AJ (AA 7) (AB 3)),(AJ (AA 7) (AB 2))])] [],AP (.var 8) (Ak [(AJ (AA 3) (AA 6)),(AJ (AA 7) (AB 0)),(AJ (AA 7) (AB 1)),(A3 false)]),AP (.var 9) (Ak [(AA 2),(AJ (AA 7) (AB 2)),(AJ (AA 7) (AB 3)),(A3 false)]),A5 (Ax 311 "put_at" 52 (AA 0) [(AJ (AA 8) (AB 0)),(AL .mul (AJ (AA 8) (AB 1)) (AA 4)),(AL .mul (AJ (AA 8) (AB 2)) (AA 4)),(A3 false),(AQ 29 [(AA 9),(AA 4)])]),A5 (Fa (AA 5) (AL .add (AA 8) (Ak [(AA 9)])))],
  AU (AA 5)]⟩
noncomputable def Il:Fn:=⟨2,6,[
  AP (.var 2) (Ap []),
  Bt (.var 3) .plain [(AA 1)] [AP (.var 4) (Ah .len [(AA 2)]),Ds (Dn [(AT (AA 4) [.Gt] [(AB 0)]),(BA (AQ 30 [(AA 0),(AJ (AA 3) (AB 4)),(AJ (AJ (AA 2) (AL .sub (AA 4) (AB 1))) (AB 4))]))]) [AP (.var 4) (AL .sub (AA 4) (AB 1))],AP (.var 2) (AL .add (AL .add (BW (AA 2) none (some (AA 4))) (Ap [(AA 3)])) (BW (AA 2) (some (AA 4)) none))],
  AU (Au (AJ (AA 5) (AB 0)) 5 .plain [(AA 2)] [])]⟩
noncomputable def IP:Fn:=⟨6,12,[
  Bt (.var 6) .plain [(AQ 42 [(AA 0),(AA 1)])] [AP (.var 7) (AJ (Au (AA 11) 11 .plain [(AA 1)] [(AT (AJ (AA 11) (AB 0)) [.Eq] [(AA 6)])]) (AB 0)),AP (.var 8) (AJ (AA 7) (AB 4)),sIf (Dn [(AT (AA 3) [.Lt] [(Ah .len [(AA 2)])]),(BA (Ah (.isinst .tuple) [(AJ (AA 2) (AA 3))])),(AT (AJ (AJ (AA 2) (AA 3)) (AB 0)) [.Eq] [(AA 6)])]) [AP (.var 9) (AJ (AJ (AA 2) (AA 3)) (J6 (AB 1))),AP (.var 8) (Ak [(AJ (AA 9) (AB 0)),(AL .floordiv (AJ (AA 9) (AB 1)) (AA 4)),(AL .floordiv (AJ (AA 9) (AB 2)) (AA 4)),(AJ (AA 9) (AB 3))]),AP (.var 10) (Ak [(AA 6),(AQ 29 [(AJ (AA 7) (AB 4)),(AA 4)]),(AQ 29 [(AA 8),(AA 4)])]),sIf (tOr [(AT (AJ (AA 2) (AA 3)) [.NotEq] [(AA 10)]),(AT (AA 8) [.Eq] [(AJ (AA 7) (AB 4))]),(CD (BA (AQ 37 [(AJ (AJ (AA 2) (AA 3)) (AB 1))]))),(CD (BA (AQ 37 [(AA 9)])))]) [AU (Ak [A1,(AA 3)])] [],AP (.var 3) (AL .add (AA 3) (AB 1))] [],sIf (CD (BA (AQ 35 [(AA 0),(AA 1),(BW (AA 7) none (some (AB 4))),(AA 8),(AA 5)]))) [AU (Ak [A1,(AA 3)])] [],AP (.var 1) (AL .add (Au (AA 11) 11 .plain [(AA 1)] [(AT (AJ (AA 11) (AB 0)) [.NotEq] [(AA 6)])]) (Ap [(AL .add (BW (AA 7) none (some (AB 4))) (Ak [(AA 8)]))]))],
  AU (Ak [(AA 1),(AA 3)])]⟩
noncomputable def Ix:Fn:=⟨3,10,[
  AP (.var 3) (Ap []),
  Bt (.var 4) .plain [(AA 0)] [AP (.var 5) (Ap [(Ad (Str.ofString "shelf")),(Ah .str [(AL .mul (AJ (AA 4) (AB 0)) (AA 2))]),(Ah .str [(AL .mul (AJ (AA 4) (AB 1)) (AA 2))]),(AJ (AA 4) (AB 2))]),A5 (Fa (AA 3) (G3 (Str.ofString " ") (AA 5)))],
  Bt (.var 6) .plain [(AQ 42 [(AA 0),(AA 1)])] [AP (.var 7) (AJ (Au (AA 9) 9 .plain [(AA 1)] [(AT (AJ (AA 9) (AB 0)) [.Eq] [(AA 6)])]) (AB 0)),AP (.var 8) (AQ 29 [(AJ (AA 7) (AB 4)),(AA 2)]),AP (.var 5) (Ap [(Ad (Str.ofString "box")),(AA 6),(Ah .str [(AL .mul (AJ (AA 7) (AB 1)) (AA 2))]),(Ah .str [(AL .mul (AJ (AA 7) (AB 2)) (AA 2))]),(AJ (Ap [(Ad (Str.ofString "stays")),(Ad (Str.ofString "turns"))]) (Ah .int [(AJ (AA 7) (AB 3))]))]),AP (.var 5) (AL .add (AA 5) (Ap [(Ah .str [(AJ (AA 8) (AB 0))]),(Ah .str [(AJ (AA 8) (AB 1))]),(Ah .str [(AJ (AA 8) (AB 2))])])),A5 (Fa (AA 5) (AJ (Ap [(Ad (Str.ofString "upright")),(Ad (Str.ofString "turned"))]) (Ah .int [(AJ (AA 8) (AB 3))]))),A5 (Fa (AA 3) (G3 (Str.ofString " ") (AA 5)))],
  AU (G3 (Str.ofString "") (Au (AL .add (AA 9) (Ad (Str.ofString "\n"))) 9 .plain [(AA 3)] []))]⟩
noncomputable def FW:Fn:=⟨4,6,[
  sIf (tOr [(AT (Ax 311 "names" 58 (AA 0) []) [.NotEq] [(AQ 42 [(AA 1),(AA 2)])]),(AT (AQ 18 [(AA 0)]) [.NotEq] [(AQ 44 [(AA 1),(AA 2),(AA 3)])])]) [AU (A3 false)] [],
  Bt (.var 4) .plain [(AA 2)] [sIf (AT (Ax 311 "where" 55 (AA 0) [(AJ (AA 4) (AB 0))]) [.NotEq] [(AQ 29 [(AJ (AA 4) (AB 4)),(AA 3)])]) [AU (A3 false)] []],
  sIf (AT (Ax 311 "settle" 61 (AA 0) []) [.NotEq] [(Ap [])]) [AU (A3 false)] [],
  Bt (.var 4) .plain [(AA 2)] [sIf (AT (Ax 311 "take_out" 54 (AA 0) [(AJ (AA 4) (AB 0))]) [.NotEq] [(AQ 29 [(AJ (AA 4) (AB 4)),(AA 3)])]) [AU (A3 false)] []],
  AU (xOf (AT (Ax 311 "names" 58 (AA 0) []) [.Eq] [(Ap [])]))]⟩
noncomputable def Cw:Fn:=⟨1,15,[
  AP (.var 1) (AQ 19 [(AQ 20 [(AA 0),(AB 0)])]),
  AP (.var 2) (AQ 27 [(AA 0)]),
  AP (.var 3) (AQ 31 [(AQ 20 [(AA 0),(AB 5)])]),
  AP (.var 4) (AL .floordiv (AQ 20 [(AA 0),(AB 1)]) (AB 42)),
  AP (.var 5) (xOf (AT (AL .mod (AA 4) (AB 2)) [.Eq] [(AB 0)])),
  sIf (AT (AL .mod (AL .floordiv (AA 4) (AB 2)) (AB 3)) [.Eq] [(AB 0)]) [AP (.var 2) (AL .add (BW (AA 2) (some (AB 1)) none) (Ap [(Ak [(AL .add (AB 5) (AL .mod (AL .floordiv (AA 4) (AB 6)) (AB 2))),(AL .add (AB 2) (AL .mod (AL .floordiv (AA 4) (AB 12)) (AB 2))),(Ad (Str.ofString "low"))])])),sIf (CD (BA (AA 5))) [Hv (AA 2) (J6 (AB 1)) (Ak [(AJ (AJ (AA 2) (J6 (AB 1))) (AB 1)),(AJ (AJ (AA 2) (J6 (AB 1))) (AB 0)),(Ad (Str.ofString "left"))])] []] [],
  AP (.var 6) (xOf (AT (AL .mod (AL .floordiv (AA 4) (AB 2)) (AB 3)) [.Eq] [(AB 1)])),
  sIf (BA (AA 6)) [AP (.var 1) (AB 1),AP (.var 2) (Au (AQ 34 [(AQ 20 [(AA 0),(AL .add (AB 2) (AA 14))]),(AA 14)]) 14 .range [(AL .add (AB 1) (AL .mod (AQ 20 [(AA 0),(AB 1)]) (AB 3)))] [])] [],
  AP (.var 7) (TA 311 47 [(AQ 28 [(AA 2),(AA 1)])]),
  AP (.var 8) (Ap []),
  sIf (AT (AL .mod (AL .floordiv (AA 4) (AB 2)) (AB 3)) [.Eq] [(AB 0)]) [AP (.var 8) (AQ 41 [(AA 7),(AA 5),(AL .sub (Ah .len [(AA 2)]) (AB 1)),(AA 3),(AA 1)])] [],
  Bt (.var 9) .plain [(BW (AA 0) (some (AB 6)) (some (AL .add (AB 6) (AQ 21 [(AA 0),(AB 14),(AB 40)]))))] [sIf (BA (AA 6)) [AP (.var 8) (AQ 40 [(AA 7),(AA 8),(AA 9),(AA 3),(AA 2)])] [AP (.var 8) (AQ 39 [(AA 7),(AA 8),(AA 9),(AA 3),(AA 1),(Ah .len [(AA 2)])])]],
  AP (.var 10) (Ax 311 "settle" 61 (AA 7) []),
  sIf (CD (BA (Ah (.isinst .list) [(AA 10)]))) [AU (A3 false)] [],
  AP (.var 11) (J6 (AB 1)),
  AP (.var 12) (AB 0),
  Ds (Dn [(AT (AA 8) [.IsNot] [A1]),(AT (AA 11) [.Lt] [(AA 12)])]) [AP (.var 11) (AA 12),AP (.tup [8,12]) (AQ 43 [(AA 2),(AA 8),(AA 10),(AA 11),(AA 1),(AA 6)])],
  sIf (tOr [(AT (AA 8) [.Is] [A1]),(AT (AA 12) [.NotEq] [(Ah .len [(AA 10)])]),(AT (Ah .len [(Ax 311 "names" 58 (AA 7) [])]) [.NotEq] [(Ah .len [(AA 8)])])]) [AU (A3 false)] [],
  A5 (Fa (AA 10) (Ad (Str.ofString ""))),
  AP (.var 13) (Ah .len [(AA 10)]),
  AU (FV true [(AQ 45 [(AA 7),(AA 2),(AA 8),(AA 1)]),(xOf (AT (Ah .len [(AA 10)]) [.Eq] [(AA 13)]))])]⟩
noncomputable def IW:Fn:=⟨2,6,[
  sIf (CD (AT (AB 1) [.LtE,.LtE] [(Ah .len [(AA 1)]),(AB 9)])) [Cz 44 (Ad (Str.ofString "no shelves, or too many"))] [],
  Bt (.tup [2,3,4]) .plain [(AA 1)] [sIf (tOr [(CD (BA (AQ 14 [(AA 2)]))),(CD (BA (AQ 14 [(AA 3)]))),(AT (AA 4) [.NotIn] [(Ak [(Ad (Str.ofString "low")),(Ad (Str.ofString "left"))])])]) [Cz 44 (Ad (Str.ofString "no shelf"))] []],
  Ji 311 "shelves" (AA 0) (Ah .list [(AA 1)]),
  Ji 311 "boxes" (AA 0) Ly,
  Ji 311 "places" (AA 0) Ly]⟩
noncomputable def IL:Fn:=⟨2,6,[
  AP (.var 2) (Au (Ap []) 5 .plain [(A9 311 "shelves" (AA 0))] []),
  Bt (.var 3) .plain [(A9 311 "places" (AA 0))] [sIf (AT (AA 3) [.NotEq] [(AA 1)]) [AP (.var 4) (AJ (A9 311 "places" (AA 0)) (AA 3)),A5 (Fa (AJ (AA 2) (AJ (AA 4) (AB 0))) (AQ 16 [(AJ (A9 311 "boxes" (AA 0)) (AA 3)),(AA 4)]))] []],
  AU (AA 2)]⟩
noncomputable def JF:Fn:=⟨4,5,[
  sIf (tOr [(CD (BA (AQ 15 [(AA 1)]))),(CD (BA (AQ 14 [(AA 2)]))),(CD (BA (AQ 14 [(AA 3)])))]) [Cz 56 (Ad (Str.ofString "no box"))] [],
  sIf (AT (AA 1) [.In] [(A9 311 "boxes" (AA 0))]) [Cz 68 (Ad (Str.ofString "the name stands there"))] []]⟩
noncomputable def JE:Fn:=⟨3,4,[
  Hv (A9 311 "boxes" (AA 0)) (AJ (AA 1) (AB 0)) (AA 1),
  Hv (A9 311 "places" (AA 0)) (AJ (AA 1) (AB 0)) (AA 2)]⟩
noncomputable def I2:Fn:=⟨5,7,[
  A5 (Ax 311 "need_new" 49 (AA 0) [(AA 1),(AA 2),(AA 3)]),
  AP (.var 5) (AQ 9 [(A9 311 "shelves" (AA 0)),(Ax 311 "rows_without" 48 (AA 0) [A1]),(AA 2),(AA 3),(AA 4)]),
  sIf (AT (AA 5) [.Is] [A1]) [Cz 80 (Ad (Str.ofString "no place for it"))] [],
  A5 (Ax 311 "stand" 50 (AA 0) [(Ak [(AA 1),(AA 2),(AA 3),(AA 4)]),(AA 5)]),
  AU (AA 5)]⟩
noncomputable def IG:Fn:=⟨6,13,[
  A5 (Ax 311 "need_new" 49 (AA 0) [(AA 1),(AA 2),(AA 3)]),
  AP (.tup [6,7,8,9]) (AA 5),
  sIf (tOr [(CD (AT (AB 0) [.LtE,.Lt] [(AA 6),(Ah .len [(A9 311 "shelves" (AA 0))])])),(Dn [(BA (AA 9)),(CD (BA (AA 4)))])]) [Cz 80 (Ad (Str.ofString "no such place for it"))] [],
  AP (.var 10) (Ak [(AA 1),(AA 2),(AA 3),(AA 4)]),
  AP (.var 11) (AJ (A9 311 "shelves" (AA 0)) (AA 6)),
  sIf (CD (BA (AQ 13 [(AJ (Ax 311 "rows_without" 48 (AA 0) [A1]) (AA 6)),(AQ 16 [(AA 10),(AA 5)]),(AJ (AA 11) (AB 0)),(AJ (AA 11) (AB 1))]))) [Cz 80 (Ad (Str.ofString "it does not fit there"))] [],
  A5 (Ax 311 "stand" 50 (AA 0) [(AA 10),(AA 5)])]⟩
noncomputable def I7:Fn:=⟨2,3,[
  sIf (AT (AA 1) [.NotIn] [(A9 311 "boxes" (AA 0))]) [Cz 92 (Ad (Str.ofString "no box of that name"))] []]⟩
noncomputable def IQ:Fn:=⟨2,3,[
  A5 (Ax 311 "need" 53 (AA 0) [(AA 1)]),
  A5 (SO (A9 311 "boxes" (AA 0)) (AA 1)),
  AU (SO (A9 311 "places" (AA 0)) (AA 1))]⟩
noncomputable def Ip:Fn:=⟨2,3,[
  A5 (Ax 311 "need" 53 (AA 0) [(AA 1)]),
  AU (AJ (A9 311 "places" (AA 0)) (AA 1))]⟩
noncomputable def H8:Fn:=⟨2,3,[
  A5 (Ax 311 "need" 53 (AA 0) [(AA 1)]),
  AU (AJ (A9 311 "boxes" (AA 0)) (AA 1))]⟩
noncomputable def OM:Fn:=⟨2,3,[
  A5 (Ax 311 "need" 53 (AA 0) [(AA 1)]),
  AU (AQ 16 [(AJ (A9 311 "boxes" (AA 0)) (AA 1)),(AJ (A9 311 "places" (AA 0)) (AA 1))])]⟩
noncomputable def JD:Fn:=⟨1,2,[
  AU (I8 282 Cp 179 39 (A9 311 "places" (AA 0)) 1 (AQ 1 [(A9 311 "shelves" (AA 0)),(AJ (A9 311 "places" (AA 0)) (AA 1))]))]⟩
noncomputable def Og:Fn:=⟨2,3,[
  A5 (AQ 0 [(AB 0)])]⟩
noncomputable def Io:Fn:=⟨1,7,[
  AP (.var 1) (Ap []),
  Bt (.var 2) .plain [(Ax 311 "names" 58 (AA 0) [])] [AP (.var 3) (AJ (A9 311 "places" (AA 0)) (AA 2)),AP (.var 4) (AJ (A9 311 "boxes" (AA 0)) (AA 2)),AP (.var 5) (AQ 9 [(A9 311 "shelves" (AA 0)),(Ax 311 "rows_without" 48 (AA 0) [(AA 2)]),(AJ (AA 4) (AB 1)),(AJ (AA 4) (AB 2)),(AJ (AA 4) (AB 3))]),sIf (BA (AQ 2 [(A9 311 "shelves" (AA 0)),(AA 5),(AA 3)])) [Hv (A9 311 "places" (AA 0)) (AA 2) (AA 5),A5 (Fa (AA 1) (Ak [(AA 2),(AA 3),(AA 5)]))] []],
  AU (AA 1)]⟩
noncomputable def JA:Fn:=⟨1,4,[
  AP (.var 1) (Ap []),
  AP (.var 2) (Ax 311 "gone_round" 60 (AA 0) []),
  Ds (AT (Ah .len [(AA 2)]) [.Gt] [(AB 0)]) [A5 (UG (AA 1) (AA 2)),AP (.var 2) (Ax 311 "gone_round" 60 (AA 0) [])],
  AU (AA 1)]⟩
noncomputable def P12:List Fn:=[Sd,L3,Hd,MP,MG,MC,MF,L1,MS,Lz,IR,Ij,IN,Ik,Je,JS,ID,I3,IK,Id,IH,Ib,Fg,IA,H9,Ie,JJ,IT,II,Fp,Gh,Ii,FQ,Iw,IC,Im,JT,IO,D4,Cy,I5,JZ,Il,IP,Ix,FW,Cw,IW,IL,JF,JE,I2,IG,I7,IQ,Ip,H8,OM,JD,Og,Io,JA]
noncomputable def PB12:List (Fn × Bool):=[(Sd,false),(L3,false),(Hd,false),(MP,false),(MG,false),(MC,false),(MF,false),(L1,false),(MS,false),(Lz,false),(IR,false),(Ij,false),(IN,false),(Ik,false),(Je,false),(JS,false),(ID,false),(I3,false),(IK,false),(Id,false),(IH,false),(Ib,false),(Fg,false),(IA,false),(H9,false),(Ie,false),(JJ,false),(IT,false),(II,false),(Fp,false),(Gh,false),(Ii,false),(FQ,false),(Iw,false),(IC,false),(Im,false),(JT,false),(IO,false),(D4,false),(Cy,false),(I5,false),(JZ,false),(Il,false),(IP,false),(Ix,false),(FW,false),(Cw,false),(IW,false),(IL,false),(JF,false),(JE,false),(I2,false),(IG,false),(I7,false),(IQ,false),(Ip,false),(H8,false),(OM,false),(JD,true),(Og,false),(Io,false),(JA,false)]
end Mine.Internal
namespace Mine.Internal
open PySem PySem.Calls PySem.W PyProof.Rows
noncomputable def q12:Program:=view PySem.Challenge.pw_uf030015_12 [0,2,3,4,5,6,7,9,10,11,12,13,14,15,16,17,18,19,21,22,23,24,26,27,28,29,30,31,32,33,35,36,37,38,39,40,42,43,44,45,46,47,48,49,50,51,52,53,54,55,56,57,58,59,60,61,62,63,64,65,66,67,68,69]
noncomputable def c12:ClsRec:=match clsOf? q12 "Rack" with
 | some c=>c
 | none=>⟨"", none,[],[],0,[]⟩
noncomputable def PJ (k:Nat):List Value:=.ref k::.ref 31::[.type "ValueError", .type "Exception", .type "BaseException", .type "object"]
noncomputable def wh12:Wh:=⟨311,47,286,282,[⟨"ShelfError", 31,[31,44,56,68,80,92],[.ref 31,.type "ValueError", .type "Exception", .type "BaseException", .type "object"]⟩,
 ⟨"NoShelf", 44,[44],PJ 44⟩,⟨"NoBox", 56,[56],PJ 56⟩,⟨"Twice", 68,[68],PJ 68⟩,⟨"NoRoom", 80,[80],PJ 80⟩,⟨"Unknown", 92,[92],PJ 92⟩]⟩
set_option maxRecDepth 100000 in
theorem reads12:Reads (Dl q12 c12 wh12) (DB q12 c12) 1 PB12:=by
 intro K fa mg mb B S
 kernel_rfl
set_option maxRecDepth 100000 in
theorem text12:TextOk q12 [] c12 wh12 where
 mem:=by
  have e:(plainsOf q12 [])=[c12]:=by kernel_rfl
  rw [e];exact List.mem_singleton.mpr rfl
 name:=by kernel_rfl
 quiet:=by kernel_rfl
 dots:=by kernel_rfl
 init:=by kernel_rfl
 owns:=by kernel_rfl
 kids:=by kernel_rfl
 blt:=by kernel_rfl
 lit:=by kernel_rfl
theorem hk12:∀ (i:Nat) (r:Fn × Bool),PB12[i]?=some r→r.2=true→∃ d:FRec,(DB q12 c12)[i]?=some d∧d.name=AW++"."++"names":=by
 intro i r h hr
 have key:∀ i,i<62→i≠58→(PB12[i]?.map Prod.snd)=some false:=by decide
 have hlt:i<62:=(List.getElem?_eq_some_iff.mp h).1
 by_cases e:i=58
 ·subst e
  have e:((DB q12 c12).map (·.name))[58]?=some (AW++"."++"names"):=by kernel_rfl
  rw [List.getElem?_map] at e
  exact Option.map_eq_some_iff.mp e
 ·have:=key i hlt e
  rw [h] at this
  cases (show some r.2=some false from this).symm.trans (congrArg some hr)
end Mine.Internal
namespace Mine.Internal
open PySem
set_option maxHeartbeats 2000000
local macro_rules | `(tactic| wtm_at "mine rfl") => `(tactic| with_unfolding_all rfl)
local macro_rules | `(tactic| wtm_at "mine ref") => `(tactic| first | assumption | with_unfolding_all rfl | exact AG | (refine AC ?_; wtm_at "mine ref"))
local macro_rules | `(tactic| wtm_at "mine rk") => `(tactic| first | assumption | exact Rk.at_ (by assumption) | (apply TV; wtm_at "mine rk"))
local macro_rules | `(tactic| wtm_at "mine s") => `(tactic| first
  | (refine (?_ : AttrK _ _ _ _ _); with_reducible first | refine Vl (by wtm_at "mine rk") ?_ | refine Vz (by wtm_at "mine rk") ?_ | refine V2 (by wtm_at "mine rk") ?_)
  | (refine (?_ : _ ∧ _); with_reducible first | refine TO (by wtm_at "mine rk") (by decide +kernel) ?_ | refine FS (by wtm_at "mine ref") ?_)
  | (refine (?_ : BinK _ _ _ _ _); with_reducible first | (refine Tm ?_ ?_; · wtm_at "mine rfl") | (refine Va ?_ ?_; · omega) | (refine Ue ?_ ?_; · wtm_at "mine rfl") | (refine KY ?_ ?_; · omega) | (refine TJ ?_ ?_; · wtm_at "mine rfl") | (refine Se ?_ ?_; · omega) | refine BinK.addT (List.cons_ne_nil _ _) (List.cons_ne_nil _ _) (Nat.le_of_ble_eq_true rfl) ?_)
  | (refine (?_ : PrimK _ _ _ _); with_reducible first | refine PrimK.lenL (by wtm_at "mine ref") ?_ | refine PrimK.lenT (Nat.le_of_ble_eq_true rfl) ?_ | refine VQ ?_ | refine PrimK.list (by wtm_at "mine ref") ?_ | refine PrimK.intB ?_)
  | (refine (?_ : CmpK _ _ _ _ _); with_reducible first | refine cm_eqSt (by decide +kernel) ?_ | refine cm_eqSf (by decide +kernel) ?_)
  | (refine (?_ : SubK _ _ _ _); with_reducible refine E4 (by wtm_at "mine ref") (by wtm_at "mine rfl") (by wtm_at "mine rfl") ?_))
local macro_rules | `(tactic| wtm_at "mine") => `(tactic| repeat wtm_at "mine s")
section
variable {d:Nat} {σ:AD} {Q:AO} {X:AY}
theorem Sn (e:σ[n]?=some (.list (rows.map Co))) (hz:rows.length<64) (q:∀ g σ',σ<+:σ'→IsGap size room rows g→Q (Oj g) σ'):callW P12 (d+1) 3 [.ref n,.int size,.int room] σ Q X:=by
 refine AM (fn:=MP) rfl rfl ?_
 dsimp only [MP]
 refine SortK.rows (rs:=rows.map fun r=>[r.1,r.2]) (by rw [e,List.map_map];rfl) (by rw [List.length_map];exact hz) (fun r hr=>?_) fun ts hp hs=>?_
 ·obtain ⟨x,_,rfl⟩:=List.mem_map.mp hr;exact List.cons_ne_nil _ _
 obtain ⟨rs,rfl,hp,hs⟩:=Mz hp hs
 rw [List.map_map]
 refine BH (vs:=rs.map Co) (fun i ρ' σ'=>σ'=σ++[.list (rs.map Co)]∧∃ a b,ρ'=[.ref n,.int size,.int room,.int ((rs.take i).foldl (BK size) 0),a,b,.undef]) AG ⟨rfl,_,_,rfl⟩ (fun i v ρ' σ' R hv hI hR=>?_) fun ρ' σ' hI=>?_
 ·obtain ⟨rfl,a,b,rfl⟩:=hI
  obtain ⟨r,hr,rfl⟩:=List.mem_map_get hv
  have hn:(rs.take (i+1)).foldl (BK size) 0=if r.1<(rs.take i).foldl (BK size) 0+size∧r.2 > (rs.take i).foldl (BK size) 0 then r.2 else (rs.take i).foldl (BK size) 0:=by
   rw [List.take_add_one,hr,List.foldl_append];rfl
  dsimp only [Co]
  refine Aj (fun h1=>?_) fun h1=>?_
  ·refine Aj (fun h2=>?_) fun h2=>?_
   ·exact hR _ _ AG ⟨rfl,_,_,by rw [hn,if_pos ⟨h1,h2⟩];rfl⟩
   ·exact hR _ _ AG ⟨rfl,_,_,by rw [hn,if_neg fun h=>h2 h.2];rfl⟩
  ·exact hR _ _ AG ⟨rfl,_,_,by rw [hn,if_neg fun h=>h1 h.1];rfl⟩
 ·obtain ⟨rfl,a,b,rfl⟩:=hI
  rw [List.length_map,List.take_length]
  have hg:=VK (size:=size) (room:=room) hp hs rfl
  refine Aj (fun h=>?_) fun h=>?_
  ·rw [if_pos h] at hg
   exact q _ _ AH hg
  ·rw [if_neg h] at hg
   exact q _ _ AH hg
theorem KA {n:Nat} {es:List Int} {size room:Int} (e:σ[n]?=some (.list (es.map .int))) (hz:es.length<63)
  (q:∀ (ms:List Int) k σ',σ<+:σ'→ms.Pairwise (·<·)→(∀ x,x∈ms↔x∈0::es.filter fun e=>decide (0<e)&&decide (e≤room - size))→σ'[k]?=some (.list (ms.map .int))→Q (.ref k) σ'):callW P12 (d+1) 4 [.ref n,.int size,.int room] σ Q X:=by
 refine AM (fn:=MG) rfl rfl ?_
 dsimp only [MG]
 refine Bz (g:=.int) (fun e=>decide (0<e)&&decide (e≤room - size)) (AC e) (Nat.le_trans (Nat.le_of_lt hz) (by decide)) (fun x hx K hK hK'=>?_) ?_
 ·refine Aj (fun h1=>?_) fun h1=>?_
  ·refine Aj (fun h2=>?_) fun h2=>?_
   ·exact hK (by rw [decide_eq_true h1,decide_eq_true h2];rfl)
   ·exact hK' (by rw [decide_eq_false h2,Bool.and_false])
  ·exact hK' (by rw [decide_eq_false h1];rfl)
 ·refine BinK.addL (AC AG) AG ?_ ?_
  ·rw [List.length_map]
   exact Nat.le_trans (Nat.add_le_add_left (List.length_filter_le _ _) _) (Nat.le_trans (Nat.add_le_add_left (Nat.le_of_lt hz) _) (by decide))
  ·refine SortK.set (ns:=0::es.filter fun e=>decide (0<e)&&decide (e≤room - size)) AG ?_ fun ms h1 h2=>?_
   ·exact Nat.lt_of_le_of_lt (Nat.succ_le_succ (List.length_filter_le _ _)) (Nat.succ_lt_succ hz)
   ·exact q ms _ _ (AH.trans (AH.trans (AH.trans AH))) h1 h2 AG
theorem P8 {n:Nat} {os:List Ot} {W H w h:Int} (e:σ[n]?=some (.list (os.map Ot.v))) (hz:os.length<63)
  (q:∀ r σ',σ<+:σ'→Cg (Gd (os.map Ot.low) H W h w) r→Da (os.map Ot.low) r→Q (Do r) σ'):callW P12 (d+2) 5 [.ref n,.int W,.int H,.int w,.int h] σ Q X:=by
 refine AM (fn:=MC) rfl rfl ?_
 dsimp only [MC]
 refine Dt (g:=Ot.v) (fun o=>o.u+o.h) .int e (Nat.le_trans (Nat.le_of_lt hz) (by decide)) (fun x hx K hK=>?_) ?_
 ·dsimp only [Ot.v]
  exact hK
 refine KA AG (by rw [List.length_map];exact hz) fun ms k σ₁ p₁ h1 h2 e1=>?_
 have p₁:=AH.trans p₁
 refine BH (fun i ρ' σ'=>σ₁<+:σ'∧(∃ a b c,ρ'=[.ref n,.int W,.int H,.int w,.int h,a,b,c,.undef])∧∀ r,Search (os.map Ot.low) H W h w (ms.drop i) r→Search (os.map Ot.low) H W h w ms r) e1 ⟨List.prefix_refl _,⟨_,_,_,rfl⟩,fun r h=>h⟩ (fun i v ρ' σ' R hv hI hR=>?_) fun ρ' σ' hI=>?_
 ·refine A7 hI fun p₂ zt1 hS=>Ck zt1 fun a b c ze2=>?_;subst ze2
  refine AF (List.mem_map_get hv) fun p hp ze1=>?_;subst ze1
  have hd:ms.drop i=p::ms.drop (i+1):=Ct hp
  rw [hd] at hS
  refine Bz (g:=Ot.v) (fun o=>decide (o.u<p+h)&&decide (p<o.u+o.h)) (AN (p₁.trans p₂) e) (Nat.le_trans (Nat.le_of_lt hz) (by decide)) (fun x hx K hK hK'=>?_) ?_
  ·dsimp only [Ot.v]
   refine Aj (fun h1=>?_) fun h1=>?_
   ·refine Aj (fun h2=>?_) fun h2=>?_
    ·exact hK (by rw [decide_eq_true h1,decide_eq_true h2];rfl)
    ·exact hK' (by rw [decide_eq_false h2,Bool.and_false])
   ·exact hK' (by rw [decide_eq_false h1];rfl)
  refine Dt (g:=Ot.v) (fun o=>(o.l,o.l+o.w)) Co AG (Nat.le_trans (List.length_filter_le _ _) (Nat.le_trans (Nat.le_of_lt hz) (by decide))) (fun x hx K hK=>?_) ?_
  ·dsimp only [Ot.v]
   exact hK
  have hband:(os.filter fun o=>decide (o.u<p+h)&&decide (p<o.u+o.h)).map (fun o=>(o.l,o.l+o.w))=CG (Li h p (os.map Ot.low)):=by
   unfold CG Li
   rw [List.filter_map,List.map_map];rfl
  rw [hband]
  refine Sn AG (by rw [← hband,List.length_map];exact Nat.lt_of_le_of_lt (List.length_filter_le _ _) (Nat.lt_succ_of_lt hz)) fun g σ₃ p₃ hg=>?_
  have p₃:=AH.trans (AH.trans p₃)
  cases g with
  | none=>
   dsimp only [Oj]
   exact hR _ _ (AN (p₂.trans p₃) e1) ⟨p₂.trans p₃,⟨_,_,_,rfl⟩,fun r h=>hS r (.miss hg (.inl rfl) h)⟩
  | some s=>
   dsimp only [Oj]
   refine Aj (fun h3=>?_) fun h3=>?_
   ·obtain ⟨f1,f2⟩:=CZ (hS _ (.hit hg h3)) h1 fun x=>by rw [h2,C3,List.map_map];rfl
    exact q _ _ ((p₁.trans p₂).trans p₃) f1 f2
   ·exact hR _ _ (AN (p₂.trans p₃) e1) ⟨p₂.trans p₃,⟨_,_,_,rfl⟩,fun r h=>hS r (.miss hg (.inr h3) h)⟩
 ·refine A7 hI fun p₂ zt1 hS=>Ck zt1 fun a b c ze2=>?_;subst ze2
  rw [List.length_map,List.drop_length] at hS
  obtain ⟨f1,f2⟩:=CZ (hS _ .nil) h1 fun x=>by rw [h2,C3,List.map_map];rfl
  exact q _ _ (p₁.trans p₂) f1 f2
theorem LG {n:Nat} {os:List Ot} {W H w h:Int} (e:σ[n]?=some (.list (os.map Ot.v))) (hz:os.length<63)
  (q:∀ r σ',σ<+:σ'→Cg (Gd (os.map Ot.lef) W H w h) r→Da (os.map Ot.lef) r→Q (Sy r) σ'):callW P12 (d+2) 6 [.ref n,.int W,.int H,.int w,.int h] σ Q X:=by
 refine AM (fn:=MF) rfl rfl ?_
 dsimp only [MF]
 refine Dt (g:=Ot.v) (fun o=>o.l+o.w) .int e (Nat.le_trans (Nat.le_of_lt hz) (by decide)) (fun x hx K hK=>?_) ?_
 ·dsimp only [Ot.v]
  exact hK
 refine KA AG (by rw [List.length_map];exact hz) fun ms k σ₁ p₁ h1 h2 e1=>?_
 have p₁:=AH.trans p₁
 refine BH (fun i ρ' σ'=>σ₁<+:σ'∧(∃ a b c,ρ'=[.ref n,.int W,.int H,.int w,.int h,a,b,c,.undef])∧∀ r,Search (os.map Ot.lef) W H w h (ms.drop i) r→Search (os.map Ot.lef) W H w h ms r) e1 ⟨List.prefix_refl _,⟨_,_,_,rfl⟩,fun r h=>h⟩ (fun i v ρ' σ' R hv hI hR=>?_) fun ρ' σ' hI=>?_
 ·refine A7 hI fun p₂ zt1 hS=>Ck zt1 fun a b c ze2=>?_;subst ze2
  refine AF (List.mem_map_get hv) fun p hp ze1=>?_;subst ze1
  have hd:ms.drop i=p::ms.drop (i+1):=Ct hp
  rw [hd] at hS
  refine Bz (g:=Ot.v) (fun o=>decide (o.l<p+w)&&decide (p<o.l+o.w)) (AN (p₁.trans p₂) e) (Nat.le_trans (Nat.le_of_lt hz) (by decide)) (fun x hx K hK hK'=>?_) ?_
  ·dsimp only [Ot.v]
   refine Aj (fun h1=>?_) fun h1=>?_
   ·refine Aj (fun h2=>?_) fun h2=>?_
    ·exact hK (by rw [decide_eq_true h1,decide_eq_true h2];rfl)
    ·exact hK' (by rw [decide_eq_false h2,Bool.and_false])
   ·exact hK' (by rw [decide_eq_false h1];rfl)
  refine Dt (g:=Ot.v) (fun o=>(o.u,o.u+o.h)) Co AG (Nat.le_trans (List.length_filter_le _ _) (Nat.le_trans (Nat.le_of_lt hz) (by decide))) (fun x hx K hK=>?_) ?_
  ·dsimp only [Ot.v]
   exact hK
  have hband:(os.filter fun o=>decide (o.l<p+w)&&decide (p<o.l+o.w)).map (fun o=>(o.u,o.u+o.h))=CG (Li w p (os.map Ot.lef)):=by
   unfold CG Li
   rw [List.filter_map,List.map_map];rfl
  rw [hband]
  refine Sn AG (by rw [← hband,List.length_map];exact Nat.lt_of_le_of_lt (List.length_filter_le _ _) (Nat.lt_succ_of_lt hz)) fun g σ₃ p₃ hg=>?_
  have p₃:=AH.trans (AH.trans p₃)
  cases g with
  | none=>
   dsimp only [Oj]
   exact hR _ _ (AN (p₂.trans p₃) e1) ⟨p₂.trans p₃,⟨_,_,_,rfl⟩,fun r h=>hS r (.miss hg (.inl rfl) h)⟩
  | some s=>
   dsimp only [Oj]
   refine Aj (fun h3=>?_) fun h3=>?_
   ·obtain ⟨f1,f2⟩:=CZ (hS _ (.hit hg h3)) h1 fun x=>by rw [h2,C3,List.map_map];rfl
    exact q _ _ ((p₁.trans p₂).trans p₃) f1 f2
   ·exact hR _ _ (AN (p₂.trans p₃) e1) ⟨p₂.trans p₃,⟨_,_,_,rfl⟩,fun r h=>hS r (.miss hg (.inr h3) h)⟩
 ·refine A7 hI fun p₂ zt1 hS=>Ck zt1 fun a b c ze2=>?_;subst ze2
  rw [List.length_map,List.drop_length] at hS
  obtain ⟨f1,f2⟩:=CZ (hS _ .nil) h1 fun x=>by rw [h2,C3,List.map_map];rfl
  exact q _ _ (p₁.trans p₂) f1 f2
theorem Le {n:Nat} {os:List Ot} {W H w h:Int} (b:Bool) (e:σ[n]?=some (.list (os.map Ot.v))) (hz:os.length<63) (q:∀ r σ',σ<+:σ'→FO os W H w h b r→Q (Do r) σ'):callW P12 (d+3) 7 [.ref n,.tup [.int W,.int H,hab b],.int w,.int h] σ Q X:=by
 refine AM (fn:=L1) rfl rfl ?_
 dsimp only [L1]
 refine Gm ?_
 cases b with
 | true=>
  exact P8 e hz fun r σ' p h1 h2=>q r σ' p ⟨h1,h2⟩
 | false=>
  refine LG e hz fun r σ' p h1 h2=>?_
  rw [PZ]
  exact q (Dq r) σ' p ⟨by rw [F0];exact h1,by rw [F0];exact h2⟩
end
section
variable {d:Nat} {σ:AD} {Q:AO} {X:AY}
theorem Iu {n i:Nat} {shs:List Sh} {sh:Sh} {x:Int × Int} {t:Bool} (e:σ[n]?=some (.list (shs.map Sh.v))) (hi:shs[i]?=some sh) (q:Q (.tup ((G7 sh.b i x t).map .int)) σ):callW P12 (d+1) 1 [.ref n,.tup [.int i,.int x.1,.int x.2,.bool t]] σ Q X:=by
 refine AM (fn:=L3) rfl rfl ?_
 dsimp only [L3]
 have hv:(shs.map Sh.v)[(i:Int).toNat]?=some sh.v:=by rw [Int.toNat_natCast,List.getElem?_map,hi];rfl
 obtain ⟨W,H,b⟩:=sh
 cases t with
 | true=>
  refine An e (Int.natCast_nonneg i) hv ?_
  dsimp only [Sh.v]
  refine Gm ?_
  cases b with
  | true=>exact q
  | false=>exact q
 | false=>
  refine An e (Int.natCast_nonneg i) hv ?_
  dsimp only [Sh.v]
  refine Gm ?_
  cases b with
  | true=>exact q
  | false=>exact q
theorem SU {n i:Nat} {shs:List Sh} {sh:Sh} {x y:Int × Int} (e:σ[n]?=some (.list (shs.map Sh.v))) (hi:shs[i]?=some sh) (q:NG sh.b y x→Q (.bool true) σ) (q':¬ NG sh.b y x→Q (.bool false) σ) :
  callW P12 (d+2) 2 [.ref n,.tup [.int i,.int y.1,.int y.2,.bool true],.tup [.int i,.int x.1,.int x.2,.bool false]] σ Q X:=by
 refine AM (fn:=Hd) rfl rfl ?_
 dsimp only [Hd]
 refine Iu e hi ?_
 refine Iu e hi ?_
 refine CmpK.ltT ?_
 by_cases h:NG sh.b y x
 ·rw [KS.mpr h];exact q h
 ·rw [Bool.eq_false_iff.mpr fun z=>h (KS.mp z)];exact q' h
theorem N0 {n i k:Nat} {shs:List Sh} {sh:Sh} {os:List Ot} {w h:Int} {turns:Bool} (e:σ[n]?=some (.list (shs.map Sh.v))) (hi:shs[i]?=some sh) (ek:σ[k]?=some (.list (os.map Ot.v))) (hz:os.length<63)
  (q:∀ r σ',σ<+:σ'→OnP w h turns sh os r→Q (Tj i r) σ'):callW P12 (d+4) 8 [.ref n,.int i,.ref k,.int w,.int h,.bool turns] σ Q X:=by
 refine AM (fn:=MS) rfl rfl ?_
 dsimp only [MS]
 have hv:(shs.map Sh.v)[(i:Int).toNat]?=some sh.v:=by rw [Int.toNat_natCast,List.getElem?_map,hi];rfl
 refine An e (Int.natCast_nonneg i) hv ?_
 refine Le sh.b ek hz fun r1 σ₁ p₁ f1=>?_
 have e1:=AN p₁ e
 have ek1:=AN p₁ ek
 cases turns with
 | false=>
  cases r1 with
  | none=>
   dsimp only [Do]
   exact q none _ p₁ (Ev f1 (fun e=>(nomatch e)) (fun _=>rfl) .no)
  | some x=>
   dsimp only [Do]
   exact q (some (x.1,x.2,false)) _ p₁ (Ev f1 (fun e=>(nomatch e)) (fun _=>rfl) .up)
 | true=>
  cases r1 with
  | none=>
   dsimp only [Do]
   refine An e1 (Int.natCast_nonneg i) hv ?_
   refine Le sh.b ek1 hz fun r2 σ₂ p₂ f2=>?_
   cases r2 with
   | none=>
    dsimp only [Do]
    exact q none _ (p₁.trans p₂) (Ev f1 (fun _=>f2) (fun e=>(nomatch e)) .no)
   | some y=>
    dsimp only [Do]
    exact q (some (y.1,y.2,true)) _ (p₁.trans p₂) (Ev f1 (fun _=>f2) (fun e=>(nomatch e)) .turned)
  | some x=>
   dsimp only [Do]
   refine An e1 (Int.natCast_nonneg i) hv ?_
   refine Le sh.b ek1 hz fun r2 σ₂ p₂ f2=>?_
   cases r2 with
   | none=>
    dsimp only [Do]
    exact q (some (x.1,x.2,false)) _ (p₁.trans p₂) (Ev f1 (fun _=>f2) (fun e=>(nomatch e)) .up)
   | some y=>
    dsimp only [Do]
    refine SU (x:=x) (y:=y) (AN p₂ e1) hi (fun hl=>?_) fun hl=>?_
    ·exact q (some (y.1,y.2,true)) _ (p₁.trans p₂) (Ev f1 (fun _=>f2) (fun e=>(nomatch e)) (.less hl))
    ·exact q (some (x.1,x.2,false)) _ (p₁.trans p₂) (Ev f1 (fun _=>f2) (fun e=>(nomatch e)) (.more hl))
end
section
variable {d:Nat} {σ:AD} {Q:AO} {X:AY}
theorem FB {n m:Nat} {shs:List Sh} {ks:List Nat} {oss:List (List Ot)} {w h:Int} {turns:Bool} (e:σ[n]?=some (.list (shs.map Sh.v))) (em:σ[m]?=some (.list (ks.map .ref))) (A:Kt σ ks oss) (hl:shs.length=oss.length) (hs:shs.length≤1000) (hz:∀ os∈oss,os.length<63)
  (q:∀ r σ',σ<+:σ'→FP (OnP w h turns) 0 (shs.zip oss) r→Q (FN r) σ'):callW P12 (d+5) 9 [.ref n,.ref m,.int w,.int h,.bool turns] σ Q X:=by
 refine AM (fn:=Lz) rfl rfl ?_
 dsimp only [Lz]
 wtm_at "mine"
 rw [List.length_map]
 refine E5 (fun i ρ' σ'=>σ<+:σ'∧(∃ a c,ρ'=[.ref n,.ref m,.int w,.int h,.bool turns,a,c,.undef])∧∀ r,FP (OnP w h turns) i ((shs.zip oss).drop i) r→FP (OnP w h turns) 0 (shs.zip oss) r) (by exact ⟨ai1 .le (.g (.n 1000000)) .v0 (.l .n0 .v0 .e) rfl (Int.natCast_nonneg _),ai1 .le .v0 (.n 1000000) (.l .v0 (.n 1000) .e) rfl (Int.ofNat_le.mpr hs)⟩) ⟨List.prefix_refl _,⟨_,_,rfl⟩,fun r h=>h⟩ (fun i ρ' σ' R hi hI hR=>?_) fun ρ' σ' hI=>?_
 ·refine A7 hI fun p₁ zt1 hF=>Az zt1 fun a c ze2=>?_;subst ze2
  have i1:i<shs.length:=Int.ofNat_lt.mp hi
  have i2:i<oss.length:=by exact an3 .lt .v0 .v1 (.t .v0 .v2 (.q .v2 .v1 .e)) rfl i1 hl
  have i3:i<ks.length:=A.1▸i2
  have hk:=List.getElem?_eq_getElem i3
  have ho:=List.getElem?_eq_getElem i2
  have hd:(shs.zip oss).drop i=(shs[i],oss[i])::(shs.zip oss).drop (i+1):=Ct (List.getElem?_zip_eq_some.mpr ⟨List.getElem?_eq_getElem i1,ho⟩)
  rw [hd] at hF
  refine An (v:=.ref ks[i]) (AN p₁ em) (Int.natCast_nonneg i) (by rw [Int.toNat_natCast,List.getElem?_map,hk];rfl) ?_
  refine N0 (AN p₁ e) (List.getElem?_eq_getElem i1) (AN p₁ (A.2 i _ _ hk ho)) (hz _ (List.mem_of_getElem? ho)) fun r σ₂ p₂ on=>?_
  cases r with
  | none=>
   dsimp only [Tj]
   exact hR _ _ ⟨p₁.trans p₂,⟨_,_,rfl⟩,fun r h=>hF r (.miss on h)⟩
  | some x=>
   dsimp only [Tj]
   exact q (some (_,_,_,_)) _ (p₁.trans p₂) (hF _ (.hit on))
 ·refine A7 hI fun p₁ zt1 hF=>Az zt1 fun a c ze2=>?_;subst ze2
  rw [Int.toNat_natCast,List.drop_of_length_le (by rw [List.length_zip];exact Nat.min_le_left _ _)] at hF
  exact q none _ p₁ (hF _ .nil)
end
set_option maxHeartbeats 2000000
section
variable {d:Nat} {σ:AD} {Q:AO} {X:AY}
theorem JQ (q:1≤k∧k≤1000000→Q (.bool true) σ) (q':¬ (1≤k∧k≤1000000)→Q (.bool false) σ):callW P12 (d+1) 14 [.int k] σ Q X:=by
 refine AM (fn:=Je) rfl rfl ?_
 dsimp only [Je]
 refine Aj (fun h=>?_) fun h=>?_
 ·by_cases h':k≤1000000
  ·refine (?_:Q (.bool _) _);rw [decide_eq_true h'];exact q ⟨h,h'⟩
  ·refine (?_:Q (.bool _) _);rw [decide_eq_false h'];exact q' fun z=>h' z.2
 ·exact q' fun z=>h z.1
theorem TF (hx:x.cps.all (·<128)=true) (hl:x.length≤1000) (q:Ar x=true→∀ σ',σ<+:σ'→Q (.bool true) σ') (q':Ar x=false→∀ σ',σ<+:σ'→Q (.bool false) σ'):callW P12 (d+1) 15 [.str x] σ Q X:=by
 refine AM (fn:=JS) rfl rfl ?_
 dsimp only [JS]
 unfold Ar at q q'
 refine PrimK.isS ?_
 refine PrimK.lenS (Nat.le_trans hl (by decide)) ?_
 refine Aj (fun h1=>?_) fun h1=>?_
 ·refine Aj (fun h2=>?_) fun h2=>?_
  ·refine Sm (fun c=>.bool (decide (c∈Cr))) hx hl (fun c hc K hK=>?_) ?_
   ·refine CmpK.inS ?_
    exact hK
   ·refine PrimK.all (bs:=x.cps.toList.map fun c=>decide (c∈Cr)) (by rw [List.map_map];exact AG) ?_
    refine (?_:Q (.bool _) _)
    rw [List.all_map]
    cases hb:x.cps.toList.all (id ∘ fun c=>decide (c∈Cr)) with
    | true=>exact q (by rw [decide_eq_true (Int.ofNat_lt.mp h1:0<x.length),decide_eq_true (Int.ofNat_le.mp h2:x.length≤12)];exact hb) _ AH
    | false=>exact q' (by rw [decide_eq_true (Int.ofNat_lt.mp h1:0<x.length),decide_eq_true (Int.ofNat_le.mp h2:x.length≤12)];exact hb) _ AH
  ·refine (?_:Q (.bool _) _)
   rw [decide_eq_false h2]
   exact q' (by rw [decide_eq_true (Int.ofNat_lt.mp h1:0<x.length),decide_eq_false (fun z=>h2 (Int.ofNat_le.mpr z):¬ x.length≤12)];rfl) _ (List.prefix_refl _)
 ·exact q' (by rw [decide_eq_false (fun z=>h1 (Int.ofNat_lt.mpr z):¬ 0<x.length)];rfl) _ (List.prefix_refl _)
theorem Hi {e:En} (q:Q e.ot.v σ):callW P12 (d+1) 16 [e.box,e.pl] σ Q X:=by
 refine AM (fn:=ID) rfl rfl ?_
 dsimp only [ID,En.box,En.pl]
 unfold En.ot at q
 refine Jl (fun h=>?_) fun h=>?_
 ·rw [if_pos h] at q
  exact q
 ·rw [if_neg (by rw [h];exact Bool.false_ne_true)] at q
  exact q
theorem Uh (e:σ[n]?=some (.list (xs.map Shx.v))) (hs:∀ x∈xs,PyData.strOk x.s=true) (er:σ[r]?=some (.inst 311 m)) (em:σ[m]?=some (.ns [])) (hm:m≠0) (hz:xs.length≤1000)
  (q:Fit xs→∀ σ' S B P,KpB m σ σ'→σ'[m]?=some (.ns (Eb S B P))→σ'[S]?=some (.list (xs.map Shx.v))→σ'[B]?=some (.dict 0 [])→σ'[P]?=some (.dict 0 [])→B≠P→σ.length≤S→σ.length≤B→σ.length≤P→Q .none σ') (q':¬ Fit xs→X 44 σ):callW P12 (d+2) 47 [.ref r,.ref n] σ Q X:=by
 refine AM (fn:=IW) rfl rfl ?_
 dsimp only [IW]
 have no:¬ (1≤xs.length∧xs.length≤9)→X 44 σ:=fun h=>q' fun z=>h z.n
 wtm_at "mine"
 rw [List.length_map]
 refine Aj (fun h1=>?_) fun h1=>?_
 ·refine FK (fun h2=>?_) fun h2=>?_
  ·exact no fun z=>by exact aj1 (.m .v0 (.n 9) (.l .v0 (.n 9) .e)) rfl h2 (Int.ofNat_le.mpr z.2)
  refine BH (fun i ρ' σ'=>σ'=σ∧(∃ a b c,ρ'=[.ref r,.ref n,a,b,c,.undef])∧∀ x∈xs.take i,x.Good) e ⟨rfl,⟨_,_,_,rfl⟩,fun x hx=>by rw [List.take_zero] at hx;cases hx⟩ (fun i v ρ' σ' R hv hI hR=>?_) fun ρ' σ' hI=>?_
  ·refine A7 hI fun ze1 zt2 hg=>Ck zt2 fun a b c ze3=>?_;subst ze1;subst ze3
   refine AF (List.mem_map_get hv) fun x hx ze1=>?_;subst ze1
   have hmem:=List.mem_of_getElem? hx
   dsimp only [Shx.v]
   refine JQ (fun hw=>?_) fun hw=>?_
   ·refine JQ (fun hh=>?_) fun hh=>?_
    ·refine PP (hs x hmem) (fun hc=>?_) fun hc=>?_
     ·refine hR _ _ e ⟨rfl,⟨_,_,_,rfl⟩,fun y hy=>?_⟩
      rw [BN hx] at hy
      exact (List.mem_append.mp hy).elim (hg y) fun m=>List.mem_singleton.mp m▸⟨hw,hh,hc⟩
     ·exact q' fun z=>hc (z.all x hmem).s
    ·exact q' fun z=>hh (z.all x hmem).h
   ·exact q' fun z=>hw (z.all x hmem).w
  ·refine A7 hI fun ze1 zt2 hg=>Ck zt2 fun a b c ze3=>?_;subst ze1;subst ze3
   rw [List.length_map,List.take_length] at hg
   have hlt:∀ {x:Nat} {o:O},σ'[x]?=some o→x<σ'.length:=fun h=>(List.getElem?_eq_some_iff.mp h).1
   have hm':=hlt em
   have hne:m≠r:=fun z=>by rw [z,er] at em;cases em
   wtm_at "mine"
   refine PutK.mk (AC er) (AC em) hm (by decide) ?_
   rw [TD]
   refine PutK.mk (AC (AI hne (AC er))) (AC (AZ (AC em))) hm (Nat.le_of_ble_eq_true rfl) ?_
   rw [S6]
   refine PutK.mk (AC (AI hne (AC (AI hne (AC er))))) (AC (AZ (AC (AZ (AC em))))) hm (Nat.le_of_ble_eq_true rfl) ?_
   rw [US]
   have l2:∀ {τ:AD} {o u:O},((τ++[o]).set m u).length=τ.length+1:=fun {τ o u}=>by rw [List.length_set,List.length_append];rfl
   refine q ⟨⟨Int.ofNat_le.mp h1,Int.ofNat_le.mp h2⟩,hg⟩ _ _ _ _ (fun x o hx h=>AI (Ne.symm hx) (AC (AI (Ne.symm hx) (AC (AI (Ne.symm hx) (AC h)))))) (AZ (AC (AZ (AC (AZ (AC em)))))) ?_ ?_ ?_ ?_ ?_ ?_ ?_
   ·exact AI (by exact fun z0=>am2 (.p .v0 .v1 (.t .v0 .v1 .e)) rfl z0 hm') (AC (AI (by exact fun z0=>am2 (.p .v0 .v1 (.t .v0 .v1 .e)) rfl z0 hm') (AC (AI (by exact fun z0=>am2 (.p .v0 .v1 (.t .v0 .v1 .e)) rfl z0 hm') AG))))
   ·exact AI (by rw [l2];exact fun z0=>am2 (.p .v0 (.a .v1 .n1) (.t .v0 .v1 .e)) rfl z0 hm') (AC (AI (by rw [l2];exact fun z0=>am2 (.p .v0 (.a .v1 .n1) (.t .v0 .v1 .e)) rfl z0 hm') AG))
   ·exact AI (by rw [l2,l2];exact fun z0=>am2 (.p .v0 (.a (.a .v1 .n1) .n1) (.t .v0 .v1 .e)) rfl z0 hm') AG
   ·simp only [List.length_set,List.length_append,List.length_singleton];exact fun z0=>am1 (.p (.a .v0 .n1) (.a (.a .v0 .n1) .n1) .e) rfl z0
   ·exact Nat.le_refl _
   ·rw [l2];exact an1 .le .v0 (.a .v0 .n1) .e rfl
   ·rw [l2,l2];exact an1 .le .v0 (.a (.a .v0 .n1) .n1) .e rfl
 ·exact no fun z=>by exact aj1 (.m .n1 .v0 (.l .n1 .v0 .e)) rfl h1 (Int.ofNat_le.mpr z.1)
end
set_option maxHeartbeats 2000000
section
variable {d:Nat} {σ:AD} {Q:AO} {X:AY} {r S B P epB epP:Nat} {shs:List Sh} {es:List En}
theorem JW (R:Rk 311 σ r shs es S B P epB epP) (hs:shs.length≤1000) (E:Esok shs es) (hk:∀ s,skip=some s→PyData.strOk s=true) (h0:0<σ.length)
  (q:∀ kr ks σ',σ<+:σ'→σ'[kr]?=some (.list (ks.map .ref))→Kt σ' ks (AV shs.length es skip)→Q (.ref kr) σ'):callW P12 (d+2) 48 [.ref r,Qo skip] σ Q X:=by
 refine AM (fn:=IL) rfl rfl ?_
 dsimp only [IL]
 wtm_at "mine"
 refine Ub (fun i acc σ'=>σ'=σ++List.replicate i (.list [])∧acc=(List.range' σ.length i).map .ref) R.sh (by rw [List.length_map];exact an1 .le .v0 (.n 1000000) (.l .v0 (.n 1000) .e) rfl hs) ⟨(List.append_nil σ).symm,rfl⟩ (fun i v acc σ' K hv hI hK=>?_) fun acc σ' hI=>?_
 ·obtain ⟨rfl,rfl⟩:=hI
  refine hK _ _ (AC (AC R.sh)) ⟨?_,?_⟩
  ·rw [List.replicate_succ',List.append_assoc]
  ·rw [List.range'_concat,List.map_append,List.length_append,List.length_replicate,Nat.one_mul];rfl
 obtain ⟨rfl,rfl⟩:=hI
 rw [List.length_map]
 have e0:List.replicate shs.length (O.list [])=(AV shs.length (es.take 0) skip).map JK:=by rw [List.take_zero,LH,List.map_replicate];rfl
 rw [e0]
 wtm_at "mine"
 have el:∀ j,((AV shs.length (es.take j) skip).map JK).length=shs.length:=fun j=>by rw [List.length_map,At]
 have eL:(σ++(AV shs.length (es.take 0) skip).map JK).length=σ.length+shs.length:=by rw [List.length_append,el]
 rw [eL]
 refine UI (fun j ρ' σ'=>σ'=σ++(AV shs.length (es.take j) skip).map JK++[.list ((List.range' σ.length shs.length).map .ref)]∧∃ a b,ρ'=[.ref r,Qo skip,.ref (σ.length+shs.length),a,b,.undef]) (AC (AC R.pl)) ⟨rfl,_,_,rfl⟩ (fun j p ρ' σ' R' hp hI hR=>?_) fun ρ' σ' hI=>?_
 ·obtain ⟨rfl,a,b,rfl⟩:=hI
  refine AF (List.mem_map_get hp) fun x hx ze1=>?_;subst ze1
  have hm:=List.mem_of_getElem? hx
  have hn:=E.num x hm
  have Rn:Rk 311 (σ++(AV shs.length (es.take j) skip).map JK++[.list ((List.range' σ.length shs.length).map .ref)]) r shs es S B P epB epP:=R.keeps (As (AH.trans AH))
  refine V7 (v:=Qo skip) Qm ?_
  refine Rh (E.str x hm) hk ?_
  refine Jl (fun h=>?_) fun h=>?_
  ·wtm_at "mine"
   refine SubK.dict Rn.pl (CX E.nodup hm) ?_
   dsimp only [En.pl]
   refine An (v:=.ref (σ.length+x.n)) (MT (el j)) (Int.natCast_nonneg _) (by rw [Int.toNat_natCast,List.getElem?_map,List.getElem?_range' hn,Nat.one_mul];rfl) ?_
   have eg:(σ++(AV shs.length (es.take j) skip).map JK++[.list ((List.range' σ.length shs.length).map .ref)])[σ.length+x.n]?=some (.list ((Al (es.take j) skip x.n).map Ot.v)):=MV (by rw [List.getElem?_map,CI hn];rfl)
   refine FS eg ?_
   wtm_at "mine"
   refine SubK.dict Rn.bx (CX E.nodup hm) ?_
   refine Hi ?_
   refine CB eg (by exact fun z0=>am2 (.q (.a .v0 .v1) .n0 (.t .n0 .v0 .e)) rfl z0 h0) ?_ ?_
   ·have:(Al (es.take j) skip x.n).length≤es.length:=by
     unfold Al;rw [List.length_map];exact Nat.le_trans (List.length_filter_le _ _) (by rw [List.length_take];exact Nat.min_le_right _ _)
    rw [List.length_map];exact Nat.lt_of_le_of_lt this (Nat.lt_trans E.len (by decide))
   refine hR _ _ ?_ ⟨?_,_,_,rfl⟩
   ·rw [L9 (by rw [el];exact hn)];exact AC (AC R.pl)
   ·rw [L9 (by rw [el];exact hn),BN hx,LA h,List.map_set,show JK (Al (es.take j) skip x.n++[x.ot])=.list ((Al (es.take j) skip x.n).map Ot.v++[x.ot.v]) by rw [JK,List.map_append];rfl]
  ·exact hR _ _ Rn.pl ⟨by rw [BN hx,KW h],_,_,rfl⟩
 ·obtain ⟨rfl,a,b,rfl⟩:=hI
  have e1:es.take (Bq es).length=es:=by rw [Bq,List.length_map,List.take_length]
  refine q (σ.length+shs.length) (List.range' σ.length shs.length) _ ?_ ?_ ?_
  ·rw [List.append_assoc];exact AH
  ·exact MT (el _)
  ·rw [e1];exact Lg At
end
set_option maxHeartbeats 2000000
section
variable {d:Nat} {σ:AD} {Q:AO} {X:AY} {r S B P epB epP:Nat} {shs:List Sh} {es:List En}
theorem HX (R:Rk 311 σ r shs es S B P epB epP) (hx:x.cps.all (·<128)=true) (hl:x.length≤1000)
  (q:Ar x=true→Be w→Be h→x∉es.map (·.name)→∀ σ',σ<+:σ'→Q .none σ')
  (q1:¬ (Ar x=true∧Be w∧Be h)→∀ σ',σ<+:σ'→X 56 σ')
  (q2:Ar x=true→Be w→Be h→x∈es.map (·.name)→∀ σ',σ<+:σ'→X 68 σ'):callW P12 (d+2) 49 [.ref r,.str x,.int w,.int h] σ Q X:=by
 refine AM (fn:=JF) rfl rfl ?_
 dsimp only [JF]
 refine TF hx hl (fun hg σ₁ p=>?_) fun hg σ₁ p=>?_
 ·have R₁:=R.keeps (As p)
  refine JQ (fun hw=>?_) fun hw=>?_
  ·refine JQ (fun hh=>?_) fun hh=>?_
   ·wtm_at "mine"
    refine CmpK.inD R₁.bx ?_
    rw [B5,IZ]
    refine Aj (fun hm=>?_) fun hm=>?_
    ·exact q2 hg hw hh hm _ p
    ·exact q hg hw hh hm _ p
   ·exact q1 (fun z=>hh z.2.2) _ p
  ·exact q1 (fun z=>hw z.2.1) _ p
 ·exact q1 (fun z=>by rw [z.1] at hg;cases hg) _ p
theorem Mh (R:Rk 311 σ r shs es S B P epB epP) (hn:e.name∉es.map (·.name)) (hB:B≠0) (hP:P≠0) (hz:es.length<63) (hBP:B≠P) (q:∀ ep1 ep2,Q .none (stood σ B P ep1 ep2 (es++[e]))):callW P12 (d+1) 50 [.ref r,e.box,e.pl] σ Q X:=by
 refine AM (fn:=JE) rfl rfl ?_
 dsimp only [JE]
 wtm_at "mine"
 refine SetK.dict R.bx hB (by rw [B5,List.length_map];exact Nat.lt_trans hz (by decide)) fun ep1=>?_
 have eb:=MB (f:=En.box) hn
 have ep:=MB (f:=En.pl) hn
 unfold B5
 rw [eb]
 have R₁:RackAt 311 (σ.set B (.dict ep1 ((es++[e]).map fun e=>(e.name,e.box)))) r S B P:=by
  refine AF R.at_.ex fun m h1 h2=>?_
  exact ⟨m,AI (fun z=>by rw [← z,R.bx] at h1;cases h1) h1,AI (fun z=>by rw [← z,R.bx] at h2;cases h2) h2⟩
 wtm_at "mine"
 refine SetK.dict (AI hBP R.pl) hP (by rw [Bq,List.length_map];exact Nat.lt_trans hz (by decide)) fun ep2=>?_
 unfold Bq
 rw [ep]
 exact q ep1 ep2
theorem LM (R:Rk 311 σ r shs es S B P epB epP) (q:x∈es.map (·.name)→Q .none σ) (q':x∉es.map (·.name)→X 92 σ):callW P12 (d+1) 53 [.ref r,.str x] σ Q X:=by
 refine AM (fn:=I7) rfl rfl ?_
 dsimp only [I7]
 wtm_at "mine"
 refine CmpK.ninD R.bx ?_
 rw [B5,IZ]
 refine FK (fun hm=>?_) fun hm=>?_
 ·exact q' hm
 ·exact q hm
theorem IE (R:Rk 311 σ r shs es S B P epB epP) (hn:(es.map (·.name)).Nodup) (hm:e∈es) (q:Q e.pl σ):callW P12 (d+2) 55 [.ref r,.str e.name] σ Q X:=by
 refine AM (fn:=Ip) rfl rfl ?_
 dsimp only [Ip]
 wtm_at "mine"
 refine LM R (fun _=>?_) fun z=>absurd (List.mem_map.mpr ⟨e,hm,rfl⟩) z
 wtm_at "mine"
 refine SubK.dict R.pl (CX hn hm) ?_
 exact q
theorem Us (R:Rk 311 σ r shs es S B P epB epP) (hn:(es.map (·.name)).Nodup) (hm:e∈es) (q:Q e.box σ):callW P12 (d+2) 56 [.ref r,.str e.name] σ Q X:=by
 refine AM (fn:=H8) rfl rfl ?_
 dsimp only [H8]
 wtm_at "mine"
 refine LM R (fun _=>?_) fun z=>absurd (List.mem_map.mpr ⟨e,hm,rfl⟩) z
 wtm_at "mine"
 refine SubK.dict R.bx (CX hn hm) ?_
 exact q
end
set_option maxHeartbeats 2000000
section
variable {d:Nat} {σ:AD} {Q:AO} {X:AY} {r S B P epB epP:Nat} {shs:List Sh} {es:List En}
theorem NF {o x:Ot} (q:Av x.h x.w x.u x.l o.low→Q (.bool false) σ) (q':¬ Av x.h x.w x.u x.l o.low→Q (.bool true) σ):callW P12 (d+1) 10 [o.v,x.v] σ Q X:=by
 refine AM (fn:=IR) rfl rfl ?_
 dsimp only [IR,Ot.v]
 unfold Av Ot.low at q q'
 dsimp only at q q'
 refine Aj (fun h1=>?_) fun h1=>?_
 ·exact q (.inr (.inr (.inr h1)))
 ·refine Aj (fun h2=>?_) fun h2=>?_
  ·exact q (.inr (.inr (.inl h2)))
  ·refine Aj (fun h3=>?_) fun h3=>?_
   ·by_cases h4:x.u<o.u+o.h
    ·refine (?_:Q (.bool _) _);rw [decide_eq_true h4];exact q' fun z=>z.elim (fun z=>Int.not_le.mpr h3 z) fun z=>z.elim (fun z=>Int.not_le.mpr h4 z) fun z=>z.elim h2 h1
    ·refine (?_:Q (.bool _) _);rw [decide_eq_false h4];exact q (by exact .inr (.inl (ai3 .le (.a .v0 .v1) .v2 (.o .v2 (.a .v0 .v1) .e) rfl h4)))
   ·refine (?_:Q (.bool _) _);rw [decide_eq_false h3];exact q (by exact .inl (ai3 .le (.a .v0 .v1) .v2 (.o .v2 (.a .v0 .v1) .e) rfl h3))
theorem TS {n:Nat} {os:List Ot} {o:Ot} {W H:Int} (e:σ[n]?=some (.list (os.map Ot.v))) (q:Gd (os.map Ot.low) H W o.h o.w o.u o.l→Q (.bool true) σ) (q':¬ Gd (os.map Ot.low) H W o.h o.w o.u o.l→Q (.bool false) σ):callW P12 (d+3) 13 [.ref n,o.v,.int W,.int H] σ Q X:=by
 have hin:∀ {Q':AO},((0≤o.l∧0≤o.u∧o.l+o.w≤W∧o.u+o.h≤H)→Q' (.bool true) σ)→(¬ (0≤o.l∧0≤o.u∧o.l+o.w≤W∧o.u+o.h≤H)→Q' (.bool false) σ)→callW P12 (d+2) 11 [o.v,.int W,.int H] σ Q' X:=by
  intro Q' q q'
  refine AM (fn:=Ij) rfl rfl ?_
  dsimp only [Ij,Ot.v]
  refine Aj (fun h1=>?_) fun h1=>?_
  ·refine Aj (fun h2=>?_) fun h2=>?_
   ·refine Aj (fun h3=>?_) fun h3=>?_
    ·by_cases h4:o.u+o.h≤H
     ·refine (?_:Q' (.bool _) _);rw [decide_eq_true h4];exact q ⟨h1,h2,h3,h4⟩
     ·refine (?_:Q' (.bool _) _);rw [decide_eq_false h4];exact q' fun z=>h4 z.2.2.2
    ·refine (?_:Q' (.bool _) _);rw [decide_eq_false h3];exact q' fun z=>h3 z.2.2.1
   ·refine (?_:Q' (.bool _) _);rw [decide_eq_false h2];exact q' fun z=>h2 z.2.1
  ·refine (?_:Q' (.bool _) _);rw [decide_eq_false h1];exact q' fun z=>h1 z.1
 have hhit:∀ {Q':AO},((∀ x∈os,Av o.h o.w o.u o.l x.low)→Q' .none σ)→(∀ i:Nat,¬ (∀ x∈os,Av o.h o.w o.u o.l x.low)→Q' (.int i) σ)→callW P12 (d+2) 12 [.ref n,o.v] σ Q' X:=by
  intro Q' q q'
  refine AM (fn:=IN) rfl rfl ?_
  dsimp only [IN]
  refine Ud (fun i ρ' σ'=>σ'=σ∧(∃ a b,ρ'=[.ref n,o.v,a,b,.undef])∧∀ x∈os.take i,Av o.h o.w o.u o.l x.low) e ⟨rfl,⟨_,_,rfl⟩,fun x hx=>by rw [List.take_zero] at hx;cases hx⟩ (fun i v ρ' σ' R hv hI hR=>?_) fun ρ' σ' hI=>?_
  ·refine A7 hI fun ze1 zt2 hc=>Az zt2 fun a b ze3=>?_;subst ze1;subst ze3
   refine AF (List.mem_map_get hv) fun x hx ze1=>?_;subst ze1
   refine NF (fun h=>?_) fun h=>?_
   ·refine hR _ _ e ⟨rfl,⟨_,_,rfl⟩,fun y hy=>?_⟩
    rw [BN hx] at hy
    exact (List.mem_append.mp hy).elim (hc y) fun m=>List.mem_singleton.mp m▸h
   ·exact q' i fun z=>h (z x (List.mem_of_getElem? hx))
  ·refine A7 hI fun ze1 zt2 hc=>Az zt2 fun a b ze3=>?_;subst ze1;subst ze3
   rw [List.length_map,List.take_length] at hc
   exact q hc
 refine AM (fn:=Ik) rfl rfl ?_
 dsimp only [Ik]
 refine hin (fun h=>?_) fun h=>?_
 ·refine hhit (fun h'=>?_) fun i h'=>?_
  ·exact q ⟨h.2.1,h.1,h.2.2.2,h.2.2.1,fun x hx=>by refine AF (List.mem_map.mp hx) fun y hy ze1=>?_;subst ze1;exact h' y hy⟩
  ·exact q' fun g=>h' fun x hx=>g.clear x.low (List.mem_map.mpr ⟨x,hx,rfl⟩)
 ·exact q' fun g=>h ⟨g.s0,g.p0,g.s1,g.p1⟩
theorem VF (R:Rk 311 σ r shs es S B P epB epP) (hx:x.cps.all (·<128)=true) (hl:x.length≤1000) (hs:shs.length≤1000) (E:Esok shs es) (hB:B≠0) (hP:P≠0) (hBP:B≠P)
  (q:Ar x=true→Be w→Be h→x∉es.map (·.name)→∀ (e:En) σ' ep1 ep2,e.name=x→e.w=w→e.h=h→e.t=t→e.n<shs.length→σ<+:σ'→FP (OnP w h t) 0 (shs.zip (AV shs.length es none)) (some (e.n,e.u,e.l,e.r))→Q e.pl (stood σ' B P ep1 ep2 (es++[e])))
  (q1:¬ (Ar x=true∧Be w∧Be h)→∀ σ',σ<+:σ'→X 56 σ')
  (q2:Ar x=true→Be w→Be h→x∈es.map (·.name)→∀ σ',σ<+:σ'→X 68 σ')
  (q3:Ar x=true→Be w→Be h→x∉es.map (·.name)→FP (OnP w h t) 0 (shs.zip (AV shs.length es none)) none→∀ σ',σ<+:σ'→X 80 σ'):callW P12 (d+6) 51 [.ref r,.str x,.int w,.int h,.bool t] σ Q X:=by
 refine AM (fn:=I2) rfl rfl ?_
 dsimp only [I2]
 wtm_at "mine"
 refine HX R hx hl (fun g1 g2 g3 g4 σ₁ p₁=>?_) q1 q2
 have R₁:=R.keeps (As p₁)
 have h0:0<σ₁.length:=by have:=(List.getElem?_eq_some_iff.mp R₁.sh).1;exact an2 .lt .n0 .v0 (.t .v1 .v0 .e) rfl this
 wtm_at "mine"
 refine JW (skip:=none) R₁ hs E nofun h0 fun kr ks σ₂ p₂ ek A=>?_
 have R₂:=R₁.keeps (As p₂)
 refine FB R₂.sh ek A At.symm hs (fun os ho=>?_) fun rr σ₃ p₃ F=>?_
 ·refine AF (List.mem_map.mp ho) fun i hi ze1=>?_;subst ze1
  unfold Al
  rw [List.length_map]
  exact Nat.lt_of_le_of_lt (List.length_filter_le _ _) E.len
 have R₃:=R₂.keeps (As p₃)
 have pa:=(p₁.trans p₂).trans p₃
 cases rr with
 | none=>
  dsimp only [FN]
  exact q3 g1 g2 g3 g4 F _ pa
 | some p=>
  obtain ⟨n,u,l,tr⟩:=p
  refine Ae (Ig F) fun k ek' hk0 hk=>?_
  dsimp only at ek'
  subst ek'
  dsimp only [FN]
  wtm_at "mine"
  have hkl:k<shs.length:=by rw [List.length_zip,At,Nat.min_self] at hk;exact an2 .lt .v0 .v1 (.t .v0 (.a .n0 .v1) .e) rfl hk
  refine Mh (e:=⟨x,w,h,t,k,u,l,tr⟩) R₃ g4 hB hP E.len hBP fun ep1 ep2=>?_
  exact q g1 g2 g3 g4 ⟨x,w,h,t,k,u,l,tr⟩ _ ep1 ep2 rfl rfl rfl rfl hkl pa F
end
set_option maxHeartbeats 2000000
section
variable {d:Nat} {σ:AD} {Q:AO} {X:AY} {r S B P epB epP:Nat} {shs:List Sh} {es:List En}
theorem L6 {w h n u l:Int} {t tr:Bool} (R:Rk 311 σ r shs es S B P epB epP) (hx:x.cps.all (·<128)=true) (hl:x.length≤1000) (hs:shs.length≤1000) (E:Esok shs es) (hB:B≠0) (hP:P≠0) (hBP:B≠P)
  (q:Ar x=true→Be w→Be h→x∉es.map (·.name)→∀ (k:Nat) σ' ep1 ep2,n=k→CN shs es none ⟨x,w,h,t,k,u,l,tr⟩→σ<+:σ'→Q .none (stood σ' B P ep1 ep2 (es++[⟨x,w,h,t,k,u,l,tr⟩])))
  (q1:¬ (Ar x=true∧Be w∧Be h)→∀ σ',σ<+:σ'→X 56 σ')
  (q2:Ar x=true→Be w→Be h→x∈es.map (·.name)→∀ σ',σ<+:σ'→X 68 σ')
  (q3:Ar x=true→Be w→Be h→x∉es.map (·.name)→(∀ k:Nat,n=k→¬ CN shs es none ⟨x,w,h,t,k,u,l,tr⟩)→∀ σ',σ<+:σ'→X 80 σ') :
  callW P12 (d+4) 52 [.ref r,.str x,.int w,.int h,.bool t,.tup [.int n,.int u,.int l,.bool tr]] σ Q X:=by
 refine AM (fn:=IG) rfl rfl ?_
 dsimp only [IG]
 refine H5 3 (fun ρ' σ₁=>(Ar x=true∧Be w∧Be h∧x∉es.map (·.name))∧σ<+:σ₁∧(∃ k:Nat,n=k∧k<shs.length)∧(tr=true→t=true)∧ρ'=[.ref r,.str x,.int w,.int h,.bool t,.tup [.int n,.int u,.int l,.bool tr],.int n,.int u,.int l,.bool tr,.undef,.undef,.undef]) (fun R' hR'=>?_) fun ρ' σ₁ hI=>?_
 ·dsimp only [List.take]
  wtm_at "mine"
  refine HX R hx hl (fun g1 g2 g3 g4 σ₁ p₁=>?_) q1 q2
  have R₁:=R.keeps (As p₁)
  have q3':=q3 g1 g2 g3 g4
  have hout:(∀ k:Nat,n=k→¬ k<shs.length)→X 80 σ₁:=fun hh=>q3' (fun k ek ⟨sh,hsh,_⟩=>hh k ek (List.getElem?_eq_some_iff.mp hsh).1) _ p₁
  refine Aj (fun h1=>?_) fun h1=>?_
  ·wtm_at "mine"
   refine PrimK.lenL R₁.sh ?_
   rw [List.length_map]
   refine FK (fun h2=>?_) fun h2=>?_
   ·exact hout fun k ek hk=>h2 (by exact ai3 .lt .v0 .v1 (.q .v0 .v2 (.t .v2 .v1 .e)) rfl ek (Int.ofNat_lt.mpr hk))
   ·have hk:∃ k:Nat,n=k∧k<shs.length:=⟨n.toNat,by exact Int.le_antisymm (ai2 .le .v0 .v1 (.p .v1 .v0 .e) rfl (Int.toNat_of_nonneg (ai1 .le .n0 .v0 (.l .n0 .v0 .e) rfl h1))) (ai2 .le .v0 .v1 (.q .v0 .v1 .e) rfl (Int.toNat_of_nonneg (ai1 .le .n0 .v0 (.l .n0 .v0 .e) rfl h1))),(Int.toNat_lt h1).mpr h2⟩
    cases tr with
    | true=>
     cases t with
     | true=>exact hR' _ _ ⟨⟨g1,g2,g3,g4⟩,p₁,hk,fun _=>rfl,rfl⟩
     | false=>exact q3' (fun k ek ⟨sh,hsh,ht,_⟩=>Bool.false_ne_true (ht rfl)) _ p₁
    | false=>exact hR' _ _ ⟨⟨g1,g2,g3,g4⟩,p₁,hk,nofun,rfl⟩
  ·exact hout fun k ek hk=>h1 (by exact ai2 .le .n0 .v0 (.p .v0 .v1 (.l .n0 .v1 .e)) rfl ek (Int.natCast_nonneg _))
 ·refine FC hI fun zt1 p₁ zt2 ht ze3=>GS zt1 fun g1 g2 g3 g4=>AF zt2 fun k ze4 hk=>?_;subst ze3;subst ze4
  have q3':=q3 g1 g2 g3 g4
  have R₁:=R.keeps (As p₁)
  have h0:0<σ₁.length:=by have:=(List.getElem?_eq_some_iff.mp R₁.sh).1;exact an2 .lt .n0 .v0 (.t .v1 .v0 .e) rfl this
  dsimp only [List.drop]
  wtm_at "mine"
  refine An (v:=(shs[k]).v) R₁.sh (Int.natCast_nonneg k) (by rw [Int.toNat_natCast,List.getElem?_map,List.getElem?_eq_getElem hk];rfl) ?_
  wtm_at "mine"
  refine JW (skip:=none) R₁ hs E nofun h0 fun kr ks σ₂ p₂ ek A=>?_
  have R₂:=R₁.keeps (As p₂)
  have hkk:ks[k]?=some (ks[k]'(by rw [A.1,At];exact hk)):=List.getElem?_eq_getElem _
  have er:=A.2 k _ _ hkk (CI hk)
  refine An (v:=.ref (ks[k]'(by rw [A.1,At];exact hk))) ek (Int.natCast_nonneg k) (by rw [Int.toNat_natCast,List.getElem?_map,hkk];rfl) ?_
  refine Hi (e:=⟨x,w,h,t,k,u,l,tr⟩) ?_
  dsimp only [Sh.v]
  refine TS er (fun g=>?_) fun g=>?_
  ·wtm_at "mine"
   refine Mh (e:=⟨x,w,h,t,k,u,l,tr⟩) R₂ g4 hB hP E.len hBP fun ep1 ep2=>?_
   exact q g1 g2 g3 g4 k _ ep1 ep2 rfl ⟨shs[k],List.getElem?_eq_getElem hk,ht,g⟩ (p₁.trans p₂)
  ·refine q3' (fun k' ek' ⟨sh,hsh,_,g'⟩=>?_) _ (p₁.trans p₂)
   have:k'=k:=(Int.ofNat.inj ek').symm
   subst this
   dsimp only at hsh g'
   rw [List.getElem?_eq_getElem hk] at hsh
   cases hsh
   exact g g'
theorem Dx (R:Rk 311 σ r shs es S B P epB epP) (E:Esok shs es) (t:TabAt 282 σ 179 39 Cp)
  (q:∀ (p:List Nat) m σ',KpB 1 σ σ'→TabAt 282 σ' 179 39 Cp→p.Perm (List.range es.length)→p.Pairwise (A4 (es.map (En.key shs)))→σ'[m]?=some (.list (p.map fun i=>.str ((es.map (·.name)).getD i "")))→σ.length≤m→Q (.ref m) σ'):callW P12 (d+2) 58 [.ref r] σ Q X:=by
 refine AM (fn:=JD) rfl rfl ?_
 dsimp only [JD]
 wtm_at "mine"
 have ei:(Bq es).map (fun p=>V.str p.1)=es.map fun e=>V.str e.name:=by rw [Bq,List.map_map];rfl
 refine ⟨_,.dict (R.pl_ne t) R.pl,by rw [List.length_map,Bq,List.length_map];exact Nat.lt_succ_of_lt E.len,t.w fun m σ' kp em e1=>?_⟩
 have R':=R.keepsB t kp
 rw [ei]
 refine HZ (g:=fun e:En=>V.str e.name) (fun e=>.tup ((e.key shs).map .int)) es [] (fun e hm K hK=>⟨em,?_⟩) ?_
 ·wtm_at "mine"
  refine SubK.dict R'.pl (CX E.nodup hm) ?_
  have hn:=E.num e hm
  refine Iu (x:=(e.u,e.l)) (sh:=shs[e.n]) R'.sh (List.getElem?_eq_getElem hn) ?_
  unfold En.key at hK
  rw [List.getD_eq_getElem?_getD,List.getElem?_eq_getElem hn] at hK
  exact hK
 ·refine ⟨es.map (En.key shs),by rw [List.map_map];rfl,fun r hr=>by refine AF (List.mem_map.mp hr) fun e _ ze1=>?_;subst ze1;exact T7,fun p hp ho=>?_⟩
  rw [List.length_map] at hp
  have hlen:σ.length≤σ'.length:=Nat.le_of_not_lt fun z=>by
   have h1:=(List.getElem?_eq_some_iff.mp e1).1
   have hx:=List.getElem?_eq_getElem (l:=σ) (i:=σ'.length) z
   have:=(List.getElem?_eq_some_iff.mp (kp _ _ (by exact fun z0=>am1 (.q .v0 .n1 (.t .n1 .v0 .e)) rfl z0 h1) hx)).1
   exact Nat.lt_irrefl _ this
  refine q p _ _ (fun x o hx h=>AC (kp x o hx h)) (.row m (AC e1) (AC em)) hp ho ?_ hlen
  rw [AG]
  refine congrArg (fun l=>some (O.list l)) (List.map_congr_left fun i hi=>?_)
  have hi':i<es.length:=List.mem_range.mp (hp.mem_iff.mp hi)
  rw [List.getD_eq_getElem?_getD,List.getD_eq_getElem?_getD,List.getElem?_map,List.getElem?_map,List.getElem?_eq_getElem hi'];rfl
end
set_option maxHeartbeats 2000000
section
variable {d:Nat} {σ:AD} {Q:AO} {X:AY} {r S B P epB epP:Nat} {shs ss:List Sh} {es hs:List En} {m:Int}
theorem Pg {n:Nat} {a b:En} (e:σ[n]?=some (.list (shs.map Sh.v))) (ha:a.n<shs.length) (hb:b.n<shs.length) (q:Q (.bool (Aa (a.key shs) (b.key shs))) σ):callW P12 (d+2) 2 [.ref n,a.pl,b.pl] σ Q X:=by
 have key:∀ x:En,x.n<shs.length→∀ {Q:AO},Q (.tup ((x.key shs).map .int)) σ→callW P12 (d+1) 1 [.ref n,x.pl] σ Q X:=fun x hx {Q} q=>by
  refine Iu (x:=(x.u,x.l)) (sh:=shs[x.n]) e (List.getElem?_eq_getElem hx) ?_
  unfold En.key at q
  rw [List.getD_eq_getElem?_getD,List.getElem?_eq_getElem hx] at q
  exact q
 refine AM (fn:=Hd) rfl rfl ?_
 dsimp only [Hd]
 refine key a ha ?_
 refine key b hb ?_
 refine CmpK.ltT ?_
 exact q
theorem Hy (R:Rk 311 σ r shs es S B P epB epP) (hn:(es.map (·.name)).Nodup) (hm:e∈es) (hB:B≠0) (hP:P≠0) (hBP:B≠P) (q:∀ ep1 ep2,Q e.pl (stood σ B P ep1 ep2 (es.filter fun x=>decide (x.name≠e.name)))):callW P12 (d+2) 54 [.ref r,.str e.name] σ Q X:=by
 refine AM (fn:=IQ) rfl rfl ?_
 dsimp only [IQ]
 wtm_at "mine"
 refine LM R (fun _=>?_) fun z=>absurd (List.mem_map.mpr ⟨e,hm,rfl⟩) z
 wtm_at "mine"
 refine OG R.bx ?_
 refine PopK.mk R.bx hB (CX hn hm) fun ep1=>?_
 have R₁:RackAt 311 (σ.set B (.dict ep1 (del e.name (B5 es)))) r S B P:=by
  refine AF R.at_.ex fun m h1 h2=>?_
  exact ⟨m,AI (fun z=>by rw [← z,R.bx] at h1;cases h1) h1,AI (fun z=>by rw [← z,R.bx] at h2;cases h2) h2⟩
 have pl₁:(σ.set B (.dict ep1 (del e.name (B5 es))))[P]?=some (.dict epP (Bq es)):=AI hBP R.pl
 wtm_at "mine"
 refine OG pl₁ ?_
 refine PopK.mk pl₁ hP (CX hn hm) fun ep2=>?_
 have:=q ep1 ep2
 unfold stood at this
 unfold B5 Bq at this ⊢
 rw [MZ,MZ]
 exact this
inductive GR12 (σ:AD) (r:Nat) (ss:List Sh) (m:Int) (hs:List En) (S B P epB:Nat) (p:List Nat) (mN j:Nat):List V→AD→Prop
 | mk (mv:List (En × En)) (hs':List En) (epP':Nat) (a b c e:V) (σ':AD):Rnd ss (p.take j) hs mv hs'→KpR B P σ σ'→TabAt 282 σ' 179 39 Cp→Rk 311 σ' r (ss.map (Sh.by m)) (hs'.map (En.by m)) S B P epB epP'→σ'[σ.length]?=some (.list (mv.map (mvV m)))→σ'[mN]?=some (.list (p.map fun i=>V.str (((hs.map (En.by m)).map (·.name)).getD i "")))→0<σ'.length →
  GR12 σ r ss m hs S B P epB p mN j [.ref r,.ref σ.length,a,b,c,e,.undef] σ'
inductive SR12 (σ:AD) (r:Nat) (ss:List Sh) (m:Int) (hs:List En) (S B P epB j:Nat):List V→AD→Prop
 | mk (mv0:List (En × En)) (hs1:List En) (p:List Nat) (mv':List (En × En)) (hs2:List En) (epP' a:Nat) (σ':AD):Rnds ss hs j mv0 hs1→p.Perm (List.range hs1.length)→p.Pairwise (A4 (hs1.map (En.key ss)))→Rnd ss p hs1 mv' hs2→KpR B P σ σ'→TabAt 282 σ' 179 39 Cp→Rk 311 σ' r (ss.map (Sh.by m)) (hs2.map (En.by m)) S B P epB epP' →
  σ'[σ.length]?=some (.list (mv0.map (mvV m)))→σ'[a]?=some (.list (mv'.map (mvV m)))→a≠σ.length→SR12 σ r ss m hs S B P epB j [.ref r,.ref σ.length,.ref a,.undef] σ'
theorem Fy (R:Rk 311 σ r (ss.map (Sh.by m)) (hs.map (En.by m)) S B P epB epP) (hm:0<m) (hP:P≠0) (hBP:B≠P) (hsl:ss.length≤1000) (E:Esok ss hs) (s:Snd ss hs) (t:TabAt 282 σ 179 39 Cp)
  (q:∀ p mv hs' k σ' epP',p.Perm (List.range hs.length)→p.Pairwise (A4 (hs.map (En.key ss)))→Rnd ss p hs mv hs'→KpR B P σ σ'→TabAt 282 σ' 179 39 Cp→Rk 311 σ' r (ss.map (Sh.by m)) (hs'.map (En.by m)) S B P epB epP'→σ'[k]?=some (.list (mv.map (mvV m)))→σ.length≤k→k≠S→Q (.ref k) σ') :
  callW P12 (d+6) 60 [.ref r] σ Q X:=by
 refine AM (fn:=Io) rfl rfl ?_
 dsimp only [Io]
 have hS:S<σ.length:=(List.getElem?_eq_some_iff.mp R.sh).1
 have hr1:1<σ.length:=by
  cases t with
  | tab e=>exact (List.getElem?_eq_some_iff.mp e).1
  | row m e _=>exact (List.getElem?_eq_some_iff.mp e).1
 have R₀:=R.keeps (As (AH (τ:=[O.list []])))
 wtm_at "mine"
 refine Dx R₀ E.by (t.pre AH) fun p mN σ₁ kp₁ t₁ hp ho eN hmN=>?_
 have R₁:=R₀.keepsB (t.pre AH) kp₁
 rw [List.length_map] at hp
 have hpl:∀ i∈p,i<hs.length:=fun i hi=>List.mem_range.mp (hp.mem_iff.mp hi)
 have ho':=G8 hm hpl ho
 have ek:σ₁[σ.length]?=some (.list []):=kp₁ _ _ (by exact fun z0=>am1 (.q .v0 .n1 (.t .n1 .v0 .e)) rfl z0 hr1) AG
 refine BH (GR12 σ r ss m hs S B P epB p mN) eN (.mk [] hs epP _ _ _ _ _ .nil ((KpR.pre AH).trans (.kpB kp₁)) t₁ R₁ ek eN (Nat.zero_lt_of_lt (List.getElem?_eq_some_iff.mp eN).1)) (fun j v ρ' σ' R' hv hI hR=>?_) fun ρ' σ' hI=>?_
 ·cases hI with | mk mv hs' epP' a b c x σ' rn kp tt Rr em en h0=>
  refine AF (List.mem_map_get hv) fun i hi ze1=>?_;subst ze1
  have hil:=hpl i (List.mem_of_getElem? hi)
  have same:=rn.same
  have hl':=Df same.1
  have hn':(hs'.map (·.name)).Nodup:=same.2.1▸E.nodup
  refine A7 (rn.steps s E.nodup) fun _ s' _=>?_
  have hi':i<hs'.length:=hl'.symm▸hil
  have ei:hs'[i]?=some hs'[i]:=List.getElem?_eq_getElem hi'
  generalize hs'[i]=e at ei
  have enm:((hs.map (En.by m)).map (·.name)).getD i ("":Str)=(e.by m).name:=by
   rw [BV,← same.2.1,List.getD_eq_getElem?_getD,List.getElem?_map,ei];rfl
  rw [enm]
  have hmem:e.by m∈hs'.map (En.by m):=List.mem_map.mpr ⟨e,List.mem_of_getElem? ei,rfl⟩
  have hnb:((hs'.map (En.by m)).map (·.name)).Nodup:=by rw [BV];exact hn'
  have E':Esok ss hs':=⟨hn',fun x hx=>by refine AX (s'.ins x hx) fun sh h=>?_;exact (List.getElem?_eq_some_iff.mp h.at_).1,fun x hx=>by
    have:x.name∈hs.map (·.name):=same.2.1▸List.mem_map.mpr ⟨x,hx,rfl⟩
    refine AF (List.mem_map.mp this) fun y hy e1=>?_
    exact e1▸E.str y hy,hl'.symm▸E.len⟩
  have hstr:=E'.str e (List.mem_of_getElem? ei)
  wtm_at "mine"
  refine SubK.dict Rr.pl (CX hnb hmem) ?_
  wtm_at "mine"
  refine SubK.dict Rr.bx (CX hnb hmem) ?_
  wtm_at "mine"
  refine JW (skip:=some e.name) Rr (by rw [List.length_map];exact hsl) E'.by (fun z hz=>by cases hz;exact hstr) h0 fun kr ks σ₂ p₂ ek₂ A₂=>?_
  have R₂:=Rr.keeps (As p₂)
  dsimp only [En.box]
  refine FB R₂.sh ek₂ A₂ (by rw [At]) (by rw [List.length_map];exact hsl) (fun os ho=>?_) fun rr σ₃ p₃ F=>?_
  ·unfold AV at ho
   refine AF (List.mem_map.mp ho) fun z _ ze1=>?_;subst ze1
   unfold Al
   rw [List.length_map]
   refine Nat.lt_of_le_of_lt (List.length_filter_le ..) ?_
   rw [List.length_map,hl'];exact E.len
  have R₃:=R₂.keeps (As p₃)
  have hz:=s'.sz e (List.mem_of_getElem? ei)
  refine AX (P9 (t:=e.t) hz.1 hz.2 (ss.zip (AV ss.length hs' (some e.name))) 0) fun dd hdd=>?_
  have hr:=H3 hm F hdd
  refine Ae (Hc s' hn' ei hdd) fun e' hd fo st=>?_
  subst hd
  subst hr
  have hlt':e'.n<(ss.map (Sh.by m)).length:=by
   refine Ae (Ig hdd) fun k h1 _ h3=>?_
   have h1:(e'.n:Int)=k:=h1
   rw [List.length_map]
   exact Int.ofNat.inj h1▸Nat.lt_of_lt_of_le h3 (by rw [Nat.zero_add,List.length_zip];exact Nat.min_le_left ..)
  have hlt:e.n<(ss.map (Sh.by m)).length:=by rw [List.length_map];exact E'.num e (List.mem_of_getElem? ei)
  have kp₃:KpR B P σ' σ₃:=.pre (p₂.trans p₃)
  have em₃:=AN (p₂.trans p₃) em
  have en₃:=AN (p₂.trans p₃) en
  have t₃:=tt.pre (p₂.trans p₃)
  have h0₃:0<σ₃.length:=Nat.zero_lt_of_lt (List.getElem?_eq_some_iff.mp em₃).1
  have pt:p.take (j+1)=p.take j++[i]:=BN hi
  have epl:FN (by4 m (some ((e'.n:Int),e'.u,e'.l,e'.r)))=(e'.by m).pl:=rfl
  rw [epl]
  wtm_at "mine"
  refine Pg (a:=e'.by m) (b:=e.by m) R₃.sh hlt' hlt ?_
  rw [P7 hm,Ee,Ee]
  have hle:(e'.qp ss).le (e.qp ss):=by
   have:=st.le s'.sound i
   rw [BI (Fo ei),BI ei] at this;exact this
  refine Jl (fun h=>?_) fun h=>?_
  ·have hne:=(F6.mp h).2
   wtm_at "mine"
   refine SetK.dict R₃.pl hP (by rw [Bq,List.length_map,List.length_map,hl'];exact Nat.lt_trans E.len (by decide)) fun ep=>?_
   have ekv:put (e.by m).name (e'.by m).pl (Bq (hs'.map (En.by m)))=Bq ((hs'.set i e').map (En.by m)):=by
    unfold Bq
    have:=RN (f:=En.pl) (es:=hs'.map (En.by m)) (i:=i) (e:=e.by m) (e':=e'.by m) hnb (by rw [List.getElem?_map,ei];rfl) (show (e'.by m).name=(e.by m).name from fo.dm.2)
    refine this.trans (congrArg (List.map fun e:En=>(e.name,e.pl)) ?_)
    rw [List.map_set]
   rw [ekv]
   have R₄:=R₃.setP (ep:=ep) hBP (QF (m:=m) ei fo.dm.1 fo.dm.2)
   have em₄:(σ₃.set P (.dict ep (Bq ((hs'.set i e').map (En.by m)))))[σ.length]?=some (.list (mv.map (mvV m))):=AI (fun z=>by have:=R₃.pl;rw [z,em₃] at this;cases this) em₃
   have en₄:(σ₃.set P (.dict ep (Bq ((hs'.set i e').map (En.by m)))))[mN]?=some (.list (p.map fun i=>V.str (((hs.map (En.by m)).map (·.name)).getD i ""))):=AI (fun z=>by have:=R₃.pl;rw [z,en₃] at this;cases this) en₃
   have t₄:TabAt 282 (σ₃.set P (.dict ep (Bq ((hs'.set i e').map (En.by m))))) 179 39 Cp:=t₃.set R₃.pl (fun _ _ _ _=>⟨nofun,nofun⟩) nofun
   have hmvl:mv.length≤j:=Nat.le_trans same.2.2.1 (by rw [List.length_take];exact Nat.min_le_left ..)
   have hjl:j<63:=by
    have:=(List.getElem?_eq_some_iff.mp hi).1
    rw [hp.length_eq,List.length_range] at this
    exact Nat.lt_trans this E.len
   have hNm:mN≠σ.length:=by rw [List.length_append] at hmN;exact Nat.ne_of_gt hmN
   wtm_at "mine"
   refine CB em₄ (by exact fun z0=>am1 (.q .v0 .n0 (.t .n1 .v0 .e)) rfl z0 hr1) (by rw [List.length_map];exact Nat.lt_trans (Nat.lt_of_le_of_lt hmvl hjl) (by decide)) ?_
   refine hR _ _ (AI hNm.symm en₄) (.mk (mv++[(e,e')]) (hs'.set i e') ep _ _ _ _ _ (pt▸rn.append (.move ei fo hne .nil)) ?_ ?_ (R₄.setO em₄ (Nat.ne_of_gt hS)) ?_ (AI hNm.symm en₄) (by rw [List.length_set,List.length_set];exact h0₃))
   ·exact fun x o h1 h2 h3 hx=>AI (fun z=>by have:=(List.getElem?_eq_some_iff.mp hx).1;exact am2 (.t .v0 .v1 (.q .v1 .v0 .e)) rfl this z) (KpR.setP (B:=B) x o h1 h2 h3 ((kp.trans kp₃) x o h1 h2 h3 hx))
   ·exact t₄.set em₄ (fun _ _ _ _=>⟨nofun,nofun⟩) nofun
   ·rw [AZ em₄,List.map_append];rfl
  ·have heq:e'.qp ss=e.qp ss:=by
    refine Classical.byContradiction fun hne=>?_
    rw [F6.mpr ⟨hle,hne⟩] at h;cases h
   have hee:e'=e:=by
    have h1:=Ff (ss:=ss) (e:=e')
    have h3:Bl ss e' (e.qp ss)=Bl ss e (e.qp ss):=(congrArg (fun x=>Bl ss x (e.qp ss)) fo.to).trans rfl
    rw [heq,h3,Ff] at h1
    exact h1.symm
   subst hee
   exact hR _ _ en₃ (.mk mv hs' epP' _ _ _ _ _ (pt▸(by have:=rn.append (.stay ei fo .nil);rw [List.append_nil] at this;exact this)) (kp.trans kp₃) t₃ R₃ em₃ en₃ h0₃)
 ·cases hI with | mk mv hs' epP' a b c x σ' rn kp tt Rr em en h0=>
  rw [List.length_map,List.take_length] at rn
  exact q p mv hs' _ _ epP' hp ho' rn kp tt Rr em (Nat.le_refl _) (by exact fun z0=>am2 (.q .v0 .v1 (.t .v1 .v0 .e)) rfl z0 hS)
theorem J7 {K:Nat} (R:Rk 311 σ r (ss.map (Sh.by m)) (hs.map (En.by m)) S B P epB epP) (hm:0<m) (hP:P≠0) (hBP:B≠P) (hsl:ss.length≤1000) (E:Esok ss hs) (s:Snd ss hs) (t:TabAt 282 σ 179 39 Cp) (hK:∀ sh∈ss,shP sh≤K) (hbig:EU hs.length ss.length K*hs.length≤16000000)
  (q:∀ k mv hs' a σ' epP',Rnds ss hs k mv hs'→Snd ss hs'→(∀ e∈hs',FirstOf ss hs' e e)→(∃ p:List Nat,p.Perm (List.range hs'.length)∧p.Pairwise (A4 (hs'.map (En.key ss)))∧Rnd ss p hs' [] hs')→KpR B P σ σ'→TabAt 282 σ' 179 39 Cp→Rk 311 σ' r (ss.map (Sh.by m)) (hs'.map (En.by m)) S B P epB epP'→σ'[a]?=some (.list (mv.map (mvV m)))→σ.length≤a→Q (.ref a) σ') :
  callW P12 (d+7) 61 [.ref r] σ Q X:=by
 refine AM (fn:=JA) rfl rfl ?_
 dsimp only [JA]
 have hr1:1<σ.length:=by
  cases t with
  | tab e=>exact (List.getElem?_eq_some_iff.mp e).1
  | row m e _=>exact (List.getElem?_eq_some_iff.mp e).1
 have hS:S<σ.length:=(List.getElem?_eq_some_iff.mp R.sh).1
 have R₀:=R.keeps (As (AH (τ:=[O.list []])))
 wtm_at "mine"
 refine Fy R₀ hm hP hBP hsl E s (t.pre AH) fun p mv hs₁ k σ₁ epP₁ hp ho rn kp t₁ R₁ ek hk hkS=>?_
 refine SV (EU hs.length ss.length K+1) ?_
 refine EZ (M:=EU hs.length ss.length K) (SR12 σ r ss m hs S B P epB) (fun j ρ' σ' h=>?_) (fun j ρ' σ' R' hI hR=>?_) (EU hs.length ss.length K+1) 0 _ _ (Nat.zero_add _) (.mk [] hs p mv hs₁ epP₁ k _ .nil hp ho rn ((KpR.pre AH).trans kp) t₁ R₁ (kp _ _ (Nat.ne_of_gt hr1) (Nat.ne_of_gt (List.getElem?_eq_some_iff.mp R.bx).1) (Nat.ne_of_gt (List.getElem?_eq_some_iff.mp R.pl).1) AG) ek (by rw [List.length_append] at hk;exact Nat.ne_of_gt hk))
 ·cases h with | mk mv0 hs1 p mv' hs2 epP' a σ' h=>
  exact h.bound s E.nodup hK
 ·cases hI with | mk mv0 hs1 p mv' hs2 epP' a σ' h hp ho rn kp tt Rr ef em ha=>
  have same:=h.same
  have same2:=rn.same
  obtain ⟨s1,_⟩:=h.seq s E.nodup
  have hn1:(hs1.map (·.name)).Nodup:=same.2.1▸E.nodup
  obtain ⟨_,s2,_⟩:=rn.steps s1 hn1
  wtm_at "mine"
  rw [List.length_map]
  refine Aj (fun hpos=>?_) fun hpos=>?_
  ·have hne:mv'≠[]:=fun z=>by subst z;exact absurd hpos (by decide)
   have h':=Rnds.next h hp ho rn hne
   have hb:=h'.bound s E.nodup hK
   have hlen:=h'.same.2.2
   have hmul:=Nat.mul_le_mul_right hs.length hb
   have hn2:(hs2.map (·.name)).Nodup:=h'.same.2.1▸E.nodup
   have hl2:=Df h'.same.1
   have E2:Esok ss hs2:=⟨hn2,fun x hx=>by obtain ⟨sh,h⟩:=s2.ins x hx;exact (List.getElem?_eq_some_iff.mp h.at_).1,fun x hx=>by
    have:x.name∈hs.map (·.name):=h'.same.2.1▸List.mem_map.mpr ⟨x,hx,rfl⟩
    obtain ⟨y,hy,e1⟩:=List.mem_map.mp this
    exact e1▸E.str y hy,hl2.symm▸E.len⟩
   wtm_at "mine"
   refine ExtK.mk ef em (by rw [List.length_map,List.length_map,← List.length_append];exact Nat.le_trans hlen (Nat.le_trans hmul hbig)) (by exact fun z0=>am2 (.q .v0 .n0 (.t .v1 .v0 .e)) rfl z0 hS) ?_
   have hSf:σ.length≠S:=by exact fun z0=>am2 (.q .v0 .v1 (.t .v1 .v0 .e)) rfl z0 hS
   have R₃:=Rr.setO (o:=.list (mv0.map (mvV m)++mv'.map (mvV m))) ef hSf
   have t₃:TabAt 282 (σ'.set σ.length (.list (mv0.map (mvV m)++mv'.map (mvV m)))) 179 39 Cp:=tt.set ef (fun _ _ _ _=>⟨nofun,nofun⟩) nofun
   wtm_at "mine"
   refine Fy R₃ hm hP hBP hsl E2 s2 t₃ fun p3 mv3 hs3 k3 σ3 epP3 hp3 ho3 rn3 kp3 tt3 Rr3 ek3 hk3 hkS3=>?_
   have hlt:σ.length<(σ'.set σ.length (.list (mv0.map (mvV m)++mv'.map (mvV m)))).length:=by rw [List.length_set];exact (List.getElem?_eq_some_iff.mp ef).1
   have hBl:B≠σ.length:=fun z=>by have:=Rr.bx;rw [z,ef] at this;cases this
   have hPl:P≠σ.length:=fun z=>by have:=Rr.pl;rw [z,ef] at this;cases this
   refine hR _ _ (.mk (mv0++mv') hs2 p3 mv3 hs3 epP3 k3 _ h' hp3 ho3 rn3 (fun x o h1 h2 h3 hx=>kp3 x o h1 h2 h3 (AI (Nat.ne_of_gt (List.getElem?_eq_some_iff.mp hx).1) (kp x o h1 h2 h3 hx))) tt3 Rr3 (kp3 _ _ (Nat.ne_of_gt hr1) hBl.symm hPl.symm ?_) ek3 (Nat.ne_of_gt (Nat.lt_of_lt_of_le hlt hk3)))
   rw [AZ ef,List.map_append]
  ·have hne:mv'=[]:=by
    cases mv' with
    | nil=>rfl
    | cons x l=>exact absurd (by rw [List.length_cons];exact ai2 .lt .n0 .v0 (.p .v0 (.a .v1 .n1) (.l .n0 .v1 .e)) rfl (Int.natCast_add _ _) (Int.natCast_nonneg _)) hpos
   obtain ⟨e1,fo⟩:=same2.2.2.2 hne
   subst e1
   refine q j mv0 hs2 _ _ epP' h s2 (fun e he=>?_) ⟨p,hp,ho,hne▸rn⟩ kp tt Rr ef (Nat.le_refl _)
   obtain ⟨i,hi⟩:=List.mem_iff_getElem?.mp he
   obtain ⟨e2,h2,h3⟩:=fo i (hp.mem_iff.mpr (List.mem_range.mpr (List.getElem?_eq_some_iff.mp hi).1))
   rw [hi] at h2
   cases h2;exact h3
end
set_option maxHeartbeats 2000000
section
variable {d:Nat} {σ:AD} {Q:AO} {X:AY}
theorem Dk (h:σ[0]?=some (.list (xs.map .int))) (hk:0≤k) (q:Q (.int (Er xs k)) σ):callW P12 (d+1) 20 [.ref 0,.int k] σ Q X:=by
 refine AM (fn:=IH) rfl rfl ?_
 dsimp only [IH]
 unfold Er at q
 wtm_at "mine"
 rw [List.length_map]
 refine Aj (fun hl=>?_) fun hl=>?_
 ·have h9:=(Int.toNat_lt hk).mpr hl
  rw [List.getD_eq_getElem?_getD,List.getElem?_eq_getElem h9] at q
  refine An h hk (v:=.int xs[k.toNat]) ?_ ?_
  ·rw [List.getElem?_map,List.getElem?_eq_getElem h9];rfl
  ·exact q
 ·rw [List.getD_eq_getElem?_getD,List.getElem?_eq_none ((Int.le_toNat hk).mpr (Int.not_lt.mp hl))] at q
  exact q
theorem JB (q:Q (.bool true) σ):callW P12 (d+1) 36 [.int k] σ Q X:=by
 refine AM (fn:=JT) rfl rfl ?_
 dsimp only [JT]
 refine PrimK.isI ?_
 refine PrimK.isN ?_
 exact q
theorem Nb {o x:Ot} (q:o.l+o.w≤x.l∨x.l+x.w≤o.l→Q (.bool true) σ) (q':¬ (o.l+o.w≤x.l∨x.l+x.w≤o.l)→Q (.bool false) σ):callW P12 (d+1) 22 [o.v,x.v,.int 0] σ Q X:=by
 refine AM (fn:=Fg) rfl rfl ?_
 dsimp only [Fg,Ot.v]
 refine Ov (fun h=>?_) fun h=>?_
 ·by_cases h':x.l+x.w≤o.l
  ·refine (?_:Q (.bool _) _);rw [decide_eq_true h'];exact q (.inr h')
  ·refine (?_:Q (.bool _) _);rw [decide_eq_false h'];exact q' fun z=>z.elim h h'
 ·refine (?_:Q (.bool _) _);rw [decide_eq_true h];exact q (.inl h)
theorem N4 {o x:Ot} (q:o.u+o.h≤x.u∨x.u+x.h≤o.u→Q (.bool true) σ) (q':¬ (o.u+o.h≤x.u∨x.u+x.h≤o.u)→Q (.bool false) σ):callW P12 (d+1) 22 [o.v,x.v,.int 1] σ Q X:=by
 refine AM (fn:=Fg) rfl rfl ?_
 dsimp only [Fg,Ot.v]
 refine Ov (fun h=>?_) fun h=>?_
 ·by_cases h':x.u+x.h≤o.u
  ·refine (?_:Q (.bool _) _);rw [decide_eq_true h'];exact q (.inr h')
  ·refine (?_:Q (.bool _) _);rw [decide_eq_false h'];exact q' fun z=>z.elim h h'
 ·refine (?_:Q (.bool _) _);rw [decide_eq_true h];exact q (.inl h)
theorem TR {n:Nat} {os:List Ot} {o:Ot} {W H:Int} (e:σ[n]?=some (.list (os.map Ot.v))) (q:Gd (os.map Ot.low) H W o.h o.w o.u o.l→Q (.bool true) σ) (q':¬ Gd (os.map Ot.low) H W o.h o.w o.u o.l→Q (.bool false) σ):callW P12 (d+2) 23 [.ref n,o.v,.int W,.int H] σ Q X:=by
 refine AM (fn:=IA) rfl rfl ?_
 dsimp only [IA,Ot.v]
 refine Aj (fun h1=>?_) fun h1=>?_
 ·exact q' fun g=>absurd g.s0 (Int.not_le.mpr h1)
 refine Aj (fun h2=>?_) fun h2=>?_
 ·exact q' fun g=>absurd g.p0 (Int.not_le.mpr h2)
 refine Aj (fun h3=>?_) fun h3=>?_
 ·exact q' fun g=>absurd g.s1 (Int.not_le.mpr h3)
 refine Aj (fun h4=>?_) fun h4=>?_
 ·exact q' fun g=>absurd g.p1 (Int.not_le.mpr h4)
 refine BH (fun i ρ' σ'=>σ'=σ∧(∃ a,ρ'=[.ref n,o.v,.int W,.int H,a,.undef])∧∀ x∈os.take i,Av o.h o.w o.u o.l x.low) e ⟨rfl,⟨_,rfl⟩,fun x hx=>by rw [List.take_zero] at hx;cases hx⟩ (fun i v ρ' σ' R hv hI hR=>?_) fun ρ' σ' hI=>?_
 ·refine A7 hI fun ze1 zt2 hc=>AX zt2 fun a ze3=>?_;subst ze1;subst ze3
  refine AF (List.mem_map_get hv) fun x hx ze1=>?_;subst ze1
  have hn:Av o.h o.w o.u o.l x.low→∀ y∈os.take (i+1),Av o.h o.w o.u o.l y.low:=fun h y hy=>by
   rw [BN hx] at hy
   exact (List.mem_append.mp hy).elim (hc y) fun m=>List.mem_singleton.mp m▸h
  refine Nb (fun h5=>?_) fun h5=>?_
  ·exact hR _ _ e ⟨rfl,⟨_,rfl⟩,hn (h5.elim (fun h=>.inr (.inr (.inl h))) fun h=>.inr (.inr (.inr h)))⟩
  refine N4 (fun h6=>?_) fun h6=>?_
  ·exact hR _ _ e ⟨rfl,⟨_,rfl⟩,hn (h6.elim .inl fun h=>.inr (.inl h))⟩
  refine q' fun g=>?_
  refine G0 (g.clear x.low (List.mem_map.mpr ⟨x,List.mem_of_getElem? hx,rfl⟩)) (fun h=>?_) (fun h=>?_) (fun h=>?_) (fun h=>?_)
  ·exact h6 (.inl h)
  ·exact h6 (.inr h)
  ·exact h5 (.inl h)
  ·exact h5 (.inr h)
 ·refine A7 hI fun ze1 zt2 hc=>AX zt2 fun a ze3=>?_;subst ze1;subst ze3
  rw [List.length_map,List.take_length] at hc
  exact q ⟨Int.not_lt.mp h2,Int.not_lt.mp h1,Int.not_lt.mp h4,Int.not_lt.mp h3,fun y hy=>by refine AF (List.mem_map.mp hy) fun x hx ze1=>?_;subst ze1;exact hc x hx⟩
noncomputable def GE (W H:Int):Bool→List (Int × Int)
 | true=>Db W H
 | false=>(Db H W).map fun x=>(x.2,x.1)
theorem SW (hW:0<W∧W≤1000) (hH:0<H∧H≤1000) (hWH:-1000000≤W*H∧W*H≤1000000) (q:Q (.ref σ.length) (σ++[.list ((GE W H b).map Co)])):callW P12 (d+1) 24 [.tup [.int W,.int H,hab b]] σ Q X:=by
 refine AM (fn:=H9) rfl rfl ?_
 dsimp only [H9]
 refine Gm ?_
 cases b with
 | true=>
  wtm_at "mine"
  refine LL (fun i=>((i:Int) / W,(i:Int) % W)) Co hWH (fun i hi K hK=>?_) ?_
  ·wtm_at "mine"; exact hK
  ·exact q
 | false=>
  wtm_at "mine"
  refine LL (fun i=>((i:Int) % H,(i:Int) / H)) Co hWH (fun i hi K hK=>?_) ?_
  ·wtm_at "mine"; exact hK
  ·have e:GE W H false=(List.range (W*H).toNat).map fun i:Nat=>((i:Int) % H,(i:Int) / H):=by
    unfold GE Db;rw [List.map_map,Int.mul_comm H W];rfl
   rw [e] at q
   exact q
end
section
variable {d:Nat} {σ:AD} {Q:AO} {X:AY} {m:Int} {hs:List En} {ss:List Sh}
theorem TM {xs:List Int} {a b:Int} (h:σ[0]?=some (.list (xs.map .int))) (q:∀ k,k=a∨k=b→Q (.int k) σ):callW P12 (d+1) 21 [.ref 0,.int a,.int b] σ Q X:=by
 refine AM (fn:=Ib) rfl rfl ?_
 dsimp only [Ib]
 wtm_at "mine"
 refine Aj (fun _=>?_) fun _=>?_
 ·exact q b (.inr rfl)
 ·exact q a (.inl rfl)
theorem GZ {e:En} (q:Q e.ot.v σ):callW P12 (d+1) 25 [e.one] σ Q X:=by
 refine AM (fn:=Ie) rfl rfl ?_
 dsimp only [Ie,En.one,En.pl]
 unfold En.ot at q
 cases hr:e.r with
 | true=>rw [hr] at q;exact q
 | false=>rw [hr] at q;exact q
theorem Oi {n k:Nat} {x:Str} (e:σ[n]?=some (.list (hs.map En.one))) (hl:hs.length≤1000) (hstr:∀ y∈hs,PyData.strOk y.name=true) (hx:PyData.strOk x=true) (q:Q (.ref σ.length) (σ++[.list ((Al hs (some x) k).map Ot.v)])):callW P12 (d+2) 26 [.ref n,.int k,.str x] σ Q X:=by
 refine AM (fn:=JJ) rfl rfl ?_
 dsimp only [JJ]
 refine LK (fun y:En=>if (decide (y.n=k)&&B7 (some x) y.name)=true then some y.ot.v else none) e (by exact an1 .le .v0 (.n 1000000) (.l .v0 (.n 1000) .e) rfl hl) (fun y hy K hK=>?_) ?_
 ·dsimp only [En.one,En.pl]
  refine Aj (fun h=>?_) fun h=>?_
  ·have h':y.n=k:=Int.ofNat.inj h
   refine HG (hstr y hy) hx (fun h2=>?_) fun h2=>?_
   ·rw [decide_eq_true h',EH.mpr h2] at hK
    refine GZ (e:=y) ?_
    exact hK
   ·rw [show B7 (some x) y.name=false from Bool.eq_false_iff.mpr fun z=>EH.mp z h2,Bool.and_false] at hK
    exact hK
  ·rw [decide_eq_false (fun z=>h (congrArg Int.ofNat z)),Bool.false_and] at hK
   exact hK
 ·rw [CW (f:=fun y:En=>decide (y.n=k)&&B7 (some x) y.name) (g:=fun y:En=>y.ot.v)]
  unfold Al at q
  rw [List.map_map] at q
  exact q
theorem SR (e:σ[n]?=some (.list (ss.map Sh.v))) (hl:ss.length≤1000) (hm:1≤m∧m≤1000000) (q:Q (.ref σ.length) (σ++[.list ((ss.map (Sh.by m)).map Sh.v)])):callW P12 (d+1) 28 [.ref n,.int m] σ Q X:=by
 refine AM (fn:=II) rfl rfl ?_
 dsimp only [II]
 refine Dt (Sh.by m) Sh.v e (by exact an1 .le .v0 (.n 1000000) (.l .v0 (.n 1000) .e) rfl hl) (fun s hs K hK=>?_) ?_
 ·dsimp only [Sh.v]
  wtm_at "mine"
  exact hK
 ·exact q
theorem Km {e:En} (hm:1≤m∧m≤1000000) (q:Q (e.by m).pl σ):callW P12 (d+1) 29 [e.pl,.int m] σ Q X:=by
 refine AM (fn:=Fp) rfl rfl ?_
 dsimp only [Fp,En.pl]
 wtm_at "mine"
 exact q
theorem Oz {e:En} (q:Q (.bool true) σ):callW P12 (d+2) 37 [e.pl] σ Q X:=by
 refine AM (fn:=IO) rfl rfl ?_
 dsimp only [IO,En.pl]
 refine PrimK.isT ?_
 wtm_at "mine"
 refine PrimK.isB ?_
 refine JB ?_
 refine JB ?_
 refine JB ?_
 exact q
theorem Oa (q:∀ ns,Names14 ns→Q (.ref σ.length) (σ++[.list (ns.map .str)])):callW P12 (d+1) 31 [.int c] σ Q X:=by
 refine AM (fn:=Ii) rfl rfl ?_
 dsimp only [Ii]
 wtm_at "mine"
 refine E5 (fun i ρ' σ'=>σ'=σ∧∃ (w:List Nat) (c':Int) (a:V),(∀ c∈w,c∈Cr)∧w.length=i∧ρ'=[.int c',.str (Str.ofString "abcdefghijklmnopqrstuvwxyz0123456789"),.str (Bp w),.int (c / 12 % 12),a,.undef]) (by exact ⟨ai1 .le (.g (.n 1000000)) .v0 (.l .n0 .v0 .e) rfl (Int.emod_nonneg _ (by decide)),ai1 .le .v0 (.n 1000000) (.t .v0 (.n 12) .e) rfl (Int.emod_lt_of_pos _ (by decide))⟩) ⟨rfl,[],_,_,(fun _ h=>nomatch h),rfl,rfl⟩ (fun i ρ' σ' R hi hI hR=>?_) fun ρ' σ' hI=>?_
 ·obtain ⟨rfl,w,c',a,hw,hl,rfl⟩:=hI
  wtm_at "mine"
  refine AF (O6 (j:=(((c'*48271+11) % 2147483647) % 36).toNat) ((Int.toNat_lt' (by decide)).mpr (Int.emod_lt_of_pos _ (by decide)))) fun b eb hb=>?_
  refine U3 (c:=b) (by exact ai1 .le .n0 .v0 (.l .n0 .v0 .e) rfl (Int.emod_nonneg _ (by decide))) (by exact ai1 .lt .v0 (.n 1000000) (.t .v0 (.n 36) .e) rfl (Int.emod_lt_of_pos _ (by decide))) eb ?_
  refine BinK.addS ?_ ?_
  ·rw [Fq,hl]
   show i+1≤Ab
   exact Nat.le_trans (Int.ofNat_lt.mp (Int.lt_trans hi (Int.emod_lt_of_pos c (by decide))):i<12) (by decide)
  have epc:Bp w++EW b=Bp (w++[b]):=congrArg Str.mk (by show w.toArray++#[b]=(w++[b]).toArray;simp)
  rw [epc]
  exact hR _ _ ⟨rfl,w++[b],_,_,fun x hx=>(List.mem_append.mp hx).elim (hw x) fun z=>List.mem_singleton.mp z▸hb,by rw [List.length_append,hl];rfl,rfl⟩
 ·obtain ⟨rfl,w,c',a,hw,hl,rfl⟩:=hI
  have hl11:w.length≤11:=by rw [hl];exact Int.toNat_le.mpr (Int.lt_add_one_iff.mp (Int.emod_lt_of_pos _ (by decide):_<(11:Int)+1))
  have ew:(Bp w).cps.toList=w:=rfl
  have elen:(Bp w).length=w.length:=Fq
  refine Sm (fun s=>.str (Bp (cut w 0 (min (c / 12 % 12).toNat w.length))++EW s++Bp (cut w (min (c / 12 % 12).toNat w.length) w.length))) (by decide +kernel) (by decide +kernel) (fun s hs K hK=>?_) ?_
  ·have l1:∀ a b,(Bp (cut w a b)).length≤11:=fun a b=>by rw [Fq];exact Nat.le_trans GC hl11
   refine VN (by rw [elen];exact an1 .le .v0 (.n 1000) (.l .v0 (.n 11) .e) rfl hl11) (by exact ai1 .le .n0 .v0 (.l .n0 .v0 .e) rfl (Int.emod_nonneg _ (by decide))) (by exact ai1 .le .v0 (.n 1000000) (.t .v0 (.n 12) .e) rfl (Int.emod_lt_of_pos _ (by decide))) ?_
   refine BinK.addS (Nat.le_trans (Nat.add_le_add_right (l1 _ _) 1) (by decide)) ?_
   refine Ut (by rw [elen];exact an1 .le .v0 (.n 1000) (.l .v0 (.n 11) .e) rfl hl11) (by exact ai1 .le .n0 .v0 (.l .n0 .v0 .e) rfl (Int.emod_nonneg _ (by decide))) (by exact ai1 .le .v0 (.n 1000000) (.t .v0 (.n 12) .e) rfl (Int.emod_lt_of_pos _ (by decide))) ?_
   rw [elen]
   have l2:∀ a b,(Bp (cut w a b)++EW s).length≤12:=fun a b=>by
    rw [Ey,D6,List.length_append]
    have:=l1 a b
    rw [Ey] at this
    exact Nat.add_le_add_right this 1
   refine BinK.addS (Nat.le_trans (Nat.add_le_add (l2 _ _) (l1 _ _)) (by decide)) ?_
   exact hK
  ·have:=q _ (Ms hw hl11 (Nat.min_le_right (c / 12 % 12).toNat w.length))
   rw [List.map_map] at this
   exact this
end
set_option maxHeartbeats 2000000
section
variable {d:Nat} {σ:AD} {Q:AO} {X:AY} {m:Int} {hs:List En} {ss:List Sh}
theorem SA (q:∀ m,1≤m∧m≤160000→Q (.int m) σ):callW P12 (d+1) 19 [.int c] σ Q X:=by
 refine AM (fn:=Id) rfl rfl ?_
 dsimp only [Id]
 wtm_at "mine"
 refine Aj (fun _=>?_) fun _=>?_
 ·exact q 1 (by exact ⟨ari [] .le .n1 .n1 .e rfl,ari [] .le .n1 (.n 160000) .e rfl⟩)
 ·wtm_at "mine"; exact q _ (by exact ⟨ai1 .le .n1 (.a .n1 .v0) (.l .n0 .v0 .e) rfl (Int.emod_nonneg _ (by decide)),ai1 .le (.a .n1 .v0) (.n 160000) (.t .v0 (.n 160000) .e) rfl (Int.emod_lt_of_pos _ (by decide))⟩)
theorem LS {xs:List Int} (e:σ[0]?=some (.list (xs.map .int))) (q:∀ (ss:List Sh) (k:Nat) (σ':AD),KpB σ.length σ σ'→σ'[k]?=some (.list (ss.map Sh.v))→σ.length≤k→1≤ss.length→ss.length≤9→(∀ s∈ss,ShB 5 4 s)→Q (.ref k) σ'):callW P12 (d+2) 27 [.ref 0] σ Q X:=by
 refine AM (fn:=IT) rfl rfl ?_
 dsimp only [IT]
 refine Dk e (by decide) ?_
 wtm_at "mine"
 have hmx:max 0 (Er xs 1 / 3 % 14 - 7)≤6:=Int.max_le.mpr ⟨by decide,Int.sub_le_sub_right (Int.lt_add_one_iff.mp (Int.emod_lt_of_pos _ (by decide):_<(13:Int)+1)) 7⟩
 have h4:1+Er xs 1 % 3<4:=Int.add_lt_add_left (Int.emod_lt_of_pos _ (by decide)) 1
 refine LL (fun _=>(⟨1,1,true⟩:Sh)) Sh.v ⟨Int.le_trans (by decide) (Int.le_max_left _ _),Int.le_trans hmx (by decide)⟩ (fun i hi K hK=>?_) ?_
 ·exact hK
 have hk0:σ.length≠0:=Nat.ne_of_gt (List.getElem?_eq_some_iff.mp e).1
 generalize hss:(List.range _).map (fun _=>(⟨1,1,true⟩:Sh))=ss₀
 have hl₀:ss₀.length≤6:=by rw [← hss,List.length_map,List.length_range];exact Int.toNat_le.mpr hmx
 have ok₀:∀ s∈ss₀,ShB 5 4 s:=fun s hs=>by
  rw [← hss] at hs
  refine AF (List.mem_map.mp hs) fun _ _ ze1=>?_;subst ze1
  exact ⟨by decide,by decide⟩
 refine Dk (AC e) (by decide) ?_
 wtm_at "mine"
 refine E5 (fun i ρ' σ'=>KpB σ.length σ σ'∧∃ (ss:List Sh) (a c:V),ρ'=[.ref 0,a,.ref σ.length,c,.undef]∧i≤ss.length∧ss.length≤6+i∧(∀ s∈ss,ShB 5 4 s)∧σ'[σ.length]?=some (.list (ss.map Sh.v))) (by exact ⟨ai1 .le (.g (.n 1000000)) (.a .n1 .v0) (.l .n0 .v0 .e) rfl (Int.emod_nonneg _ (by decide)),ai1 .le (.a .n1 .v0) (.n 1000000) (.t .v0 .n3 .e) rfl (Int.emod_lt_of_pos _ (by decide))⟩) ⟨fun x o hx h=>AC h,ss₀,_,_,rfl,Nat.zero_le _,by exact an1 .le .v0 (.a (.n 6) .n0) (.l .v0 (.n 6) .e) rfl hl₀,ok₀,AG⟩ (fun i ρ' σ' R hi hI hR=>?_) fun ρ' σ' hI=>?_
 ·refine DZ hI fun kp ss a c ze1 hi' hl ok ek=>?_;subst ze1
  have e0:=kp 0 _ (Ne.symm hk0) e
  refine Dk e0 (by exact ai1 .le .n0 (.a .n2 .v0) (.l .n0 .v0 .e) rfl (Int.natCast_nonneg _)) ?_
  wtm_at "mine"
  generalize (Er xs (2+(i:Int))*48271+11) % 2147483647=dr
  refine PD AG (by exact ⟨ai1 .le .n0 .v0 (.l .n0 .v0 .e) rfl (Int.emod_nonneg _ (by decide)),ai1 .lt .v0 .n2 (.t .v0 .n2 .e) rfl (Int.emod_lt_of_pos _ (by decide))⟩) fun b=>?_
  refine CB (AC ek) hk0 (by rw [List.length_map];exact Nat.lt_of_le_of_lt hl (Nat.lt_trans (Nat.add_lt_add_left (Int.ofNat_lt.mp (Int.lt_trans hi h4):i<4) 6) (by decide))) ?_
  refine hR _ _ ⟨fun x o hx h=>AI (Ne.symm hx) (AC (kp x o hx h)),ss++[⟨1+dr % 5,1+dr / 5 % 4,b⟩],_,_,rfl,by rw [List.length_append];exact Nat.succ_le_succ hi',by rw [List.length_append];exact Nat.succ_le_succ hl,fun s hs=>(List.mem_append.mp hs).elim (ok s) fun z=>List.mem_singleton.mp z▸⟨by dsimp only;exact ⟨ai1 .le .n1 (.a .n1 .v0) (.l .n0 .v0 .e) rfl (Int.emod_nonneg _ (by decide)),ai1 .le (.a .n1 .v0) (.n 5) (.t .v0 (.n 5) .e) rfl (Int.emod_lt_of_pos _ (by decide))⟩,by dsimp only;exact ⟨ai1 .le .n1 (.a .n1 .v0) (.l .n0 .v0 .e) rfl (Int.emod_nonneg _ (by decide)),ai1 .le (.a .n1 .v0) (.n 4) (.t .v0 (.n 4) .e) rfl (Int.emod_lt_of_pos _ (by decide))⟩⟩,by rw [List.map_append];exact AZ (AC ek)⟩
 ·refine DZ hI fun kp ss a c ze1 hi' hl ok ek=>?_;subst ze1
  exact q ss _ _ kp ek (Nat.le_refl _) (Nat.le_trans (Int.lt_toNat.mpr (Int.lt_of_lt_of_le (by decide) (Int.le_add_of_nonneg_right (Int.emod_nonneg _ (by decide))))) hi') (Nat.le_trans hl (Nat.add_le_add_left (Int.toNat_le.mpr (Int.lt_add_one_iff.mp h4)) 6)) ok
end
set_option maxHeartbeats 2000000
section
variable {d:Nat} {σ:AD} {Q:AO} {X:AY} {m:Int} {hs:List En} {ss:List Sh}
theorem UM (q:∀ (sh:Sh) σ',σ<+:σ'→ShB 1000 1000 sh→Q sh.v σ'):callW P12 (d+1) 34 [.int c,.int k] σ Q X:=by
 refine AM (fn:=IC) rfl rfl ?_
 dsimp only [IC]
 wtm_at "mine"
 generalize (c*48271+11*k+5) % 2147483647=x
 generalize x*69621 % 2147483647=y
 refine PD AG ⟨Int.emod_nonneg _ (by decide),Int.emod_lt_of_pos _ (by decide)⟩ fun b=>?_
 refine q ⟨1+x % 1000,1+y % 1000,b⟩ _ AH ⟨⟨?_,?_⟩,?_,?_⟩
 ·exact ai1 .le .n1 (.a .n1 .v0) (.l .n0 .v0 .e) rfl (Int.emod_nonneg _ (by decide))
 ·exact ai1 .le (.a .n1 .v0) (.n 1000) (.t .v0 (.n 1000) .e) rfl (Int.emod_lt_of_pos _ (by decide))
 ·exact ai1 .le .n1 (.a .n1 .v0) (.l .n0 .v0 .e) rfl (Int.emod_nonneg _ (by decide))
 ·exact ai1 .le (.a .n1 .v0) (.n 1000) (.t .v0 (.n 1000) .e) rfl (Int.emod_lt_of_pos _ (by decide))
end
set_option maxHeartbeats 2000000
section
variable {d:Nat} {σ:AD} {Q:AO} {X:AY} {m:Int} {hs:List En} {ss:List Sh} {n k r S B P epB epP:Nat} {e:En}
theorem HD:pairsOf (us++[u]) ls=pairsOf us ls++ls.map fun l=>(u,l):=by
 unfold pairsOf;rw [List.flatMap_append,List.flatMap_singleton]
theorem NQ (hu:us.length<64) (hl:ls.length<64):(pairsOf us ls).length≤4096:=by
 unfold pairsOf
 rw [List.length_flatMap]
 have:(us.map fun u=>(ls.map fun l=>(u,l)).length)=us.map fun _=>ls.length:=List.map_congr_left fun u _=>List.length_map ..
 rw [this,List.map_const',List.sum_replicate_nat]
 exact Nat.le_trans (Nat.mul_le_mul (Nat.le_of_lt hu) (Nat.le_of_lt hl)) (by decide)
theorem Qb (eu:σ[a]?=some (.list (us.map .int))) (el:σ[a']?=some (.list (ls.map .int))) (hu:us.length<64) (hl:ls.length<64)
  (q:∀ x σ',σ<+:σ'→σ'[x]?=some (.list (((It b us ls).map (psK b)).map Co))→Q (.ref x) σ') :
  BP (FQ.body.drop 2) (callW P12 d) [.ref c,.tup [.int W,.int H,hab b],.ref a,.ref a',.undef,.undef,.undef,.undef] σ (FF Q X):=by
 have le:∀ {us ls:List Int} {i:Nat},us.length<64→ls.length<64→(pairsOf (us.take i) ls).length≤4096:=fun hu hl=>NQ (Nat.lt_of_le_of_lt (List.length_take_le' ..) hu) hl
 dsimp only [FQ,List.drop]
 refine Gm ?_
 cases b with
 | true=>
  refine BH (fun i ρ' σ'=>σ<+:σ'∧(∃ x a5,ρ'=[.ref c,.tup [.int W,.int H,hab true],.ref a,.ref a',.ref x,a5,.undef,.undef]∧σ'[x]?=some (.list ((pairsOf (us.take i) ls).map Co)))) (AC eu) ⟨AH,_,_,rfl,AG⟩ (fun i v ρ' σ' R hv hI hR=>?_) fun ρ' σ' hI=>?_
  ·refine EF hI fun p x a5 ze ex=>?_;subst ze
   refine AF (List.mem_map_get hv) fun u hi ze1=>?_;subst ze1
   refine Dt (g:=.int) (fun l=>(u,l)) Co (AN p el) (Nat.le_trans (Nat.le_of_lt hl) (by decide)) (fun x hx K hK=>?_) ?_
   ·exact hK
   refine BinK.addL (AC ex) AG (by rw [List.length_map,List.length_map,List.length_map];exact Nat.le_trans (Nat.add_le_add (le hu hl) (Nat.le_of_lt hl)) (by decide)) ?_
   refine hR _ _ (AC (AC (AN p eu))) ⟨p.trans (AH.trans AH),_,_,rfl,?_⟩
   rw [AG,BN hi,HD,List.map_append]
  ·refine EF hI fun p x a5 ze ex=>?_;subst ze
   rw [List.length_map,List.take_length] at ex
   refine q x σ' p ?_
   rw [ex]
   exact congrArg (fun l=>some (O.list (List.map Co l))) (List.map_id' (pairsOf us ls)).symm
 | false=>
  refine BH (fun i ρ' σ'=>σ<+:σ'∧(∃ x a5,ρ'=[.ref c,.tup [.int W,.int H,hab false],.ref a,.ref a',.ref x,.undef,a5,.undef]∧σ'[x]?=some (.list (((pairsOf (ls.take i) us).map (psK false)).map Co)))) (AC el) ⟨AH,_,_,rfl,AG⟩ (fun i v ρ' σ' R hv hI hR=>?_) fun ρ' σ' hI=>?_
  ·refine EF hI fun p x a5 ze ex=>?_;subst ze
   refine AF (List.mem_map_get hv) fun l hi ze1=>?_;subst ze1
   refine Dt (g:=.int) (fun u=>(u,l)) Co (AN p eu) (Nat.le_trans (Nat.le_of_lt hu) (by decide)) (fun x hx K hK=>?_) ?_
   ·exact hK
   refine BinK.addL (AC ex) AG (by rw [List.length_map,List.length_map,List.length_map,List.length_map];exact Nat.le_trans (Nat.add_le_add (le hl hu) (Nat.le_of_lt hu)) (by decide)) ?_
   refine hR _ _ (AC (AC (AN p el))) ⟨p.trans (AH.trans AH),_,_,rfl,?_⟩
   rw [AG,BN hi,HD,List.map_append,List.map_append,List.map_map (f:=fun u=>(l,u))];rfl
  ·refine EF hI fun p x a5 ze ex=>?_;subst ze
   rw [List.length_map,List.take_length] at ex
   exact q x σ' p ex
theorem RJ {c:Nat} {os:List Ot} {W H:Int} {b:Bool} (er:σ[c]?=some (.list (os.map Ot.v))) (hz:os.length<63)
  (q:∀ us ls a σ',σ<+:σ'→us.Pairwise (·≤·)→ls.Pairwise (·≤·)→(∀ x,x∈us↔x∈0::os.map fun o=>o.u+o.h)→(∀ x,x∈ls↔x∈0::os.map fun o=>o.l+o.w)→σ'[a]?=some (.list (((It b us ls).map (psK b)).map Co))→Q (.ref a) σ') :
  callW P12 (d+1) 32 [.ref c,.tup [.int W,.int H,hab b]] σ Q X:=by
 refine AM (fn:=FQ) rfl rfl ?_
 dsimp only [FQ]
 refine Dt (g:=Ot.v) (fun o=>o.u+o.h) .int (AC er) (Nat.le_trans (Nat.le_of_lt hz) (by decide)) (fun x hx K hK=>?_) ?_
 ·dsimp only [Ot.v]
  exact hK
 refine BinK.addL (AC AG) AG (by rw [List.length_map,List.length_map];exact Nat.le_trans (Nat.add_le_add_left (Nat.le_of_lt hz) 1) (by decide)) ?_
 refine SortK.ints (ns:=0::os.map fun o=>o.u+o.h) AG (by rw [List.length_cons,List.length_map];exact Nat.succ_lt_succ hz) fun us hpu hsu=>?_
 refine Dt (g:=Ot.v) (fun o=>o.l+o.w) .int (AC (AC (AC (AC (AC er))))) (Nat.le_trans (Nat.le_of_lt hz) (by decide)) (fun x hx K hK=>?_) ?_
 ·dsimp only [Ot.v]
  exact hK
 refine BinK.addL (AC AG) AG (by rw [List.length_map,List.length_map];exact Nat.le_trans (Nat.add_le_add_left (Nat.le_of_lt hz) 1) (by decide)) ?_
 refine SortK.ints (ns:=0::os.map fun o=>o.l+o.w) AG (by rw [List.length_cons,List.length_map];exact Nat.succ_lt_succ hz) fun ls hpl hsl=>?_
 refine Qb (AC (AC (AC (AC AG)))) AG (by rw [hpu.length_eq,List.length_cons,List.length_map];exact Nat.succ_lt_succ hz) (by rw [hpl.length_eq,List.length_cons,List.length_map];exact Nat.succ_lt_succ hz) fun x σ' p ex=>?_
 exact q us ls x σ' ((((((((AH.trans AH).trans AH).trans AH).trans AH).trans AH).trans AH).trans AH).trans p) hsu hsl (fun x=>hpu.mem_iff) (fun x=>hpl.mem_iff) ex
noncomputable def VW (os:List Ot) (sh:Sh) (T:List (Int × Int)):Prop:=∀ (w h:Int) (t:Bool) (d:Pl3),0<w→0<h→OnL w h t sh os (some d)→M3 T (psK sh.b (d.1,d.2.1))
theorem LW:(Db (shS sh) (shP sh)).map (psK sh.b)=GE sh.W sh.H sh.b:=by
 obtain ⟨W,H,b⟩:=sh
 cases b with
 | true=>exact List.map_id' _
 | false=>rfl
theorem RM {c:Nat} {os:List Ot} {sh:Sh} {far:Bool} (er:σ[c]?=some (.list (os.map Ot.v))) (hz:os.length<63) (ok:ShB 1000 1000 sh)
  (q:∀ T a σ',σ<+:σ'→VW os sh T→σ'[a]?=some (.list ((T.map (psK sh.b)).map Co))→Q (.ref a) σ'):callW P12 (d+2) 33 [.ref c,sh.v,.bool far] σ Q X:=by
 refine AM (fn:=Iw) rfl rfl ?_
 dsimp only [Iw,Sh.v]
 cases far with
 | true=>exact RJ (b:=sh.b) er hz fun us ls a σ' p h1 h2 h3 h4 ea=>q (It sh.b us ls) a σ' p (fun w h t d _ _ o=>Pa h1 h2 h3 h4 o) ea
 | false=>
  have hW:0<sh.W:=ok.w.1
  have hH:0<sh.H:=ok.h.1
  have hS:0<shS sh:=by unfold shS;split <;> assumption
  refine SW (b:=sh.b) ⟨hW,ok.w.2⟩ ⟨hH,ok.h.2⟩ ⟨Int.le_trans (by decide) (Int.mul_nonneg (Int.le_of_lt hW) (Int.le_of_lt hH)),Int.le_trans (Int.mul_le_mul ok.w.2 ok.h.2 (Int.le_of_lt hH) (by decide)) (by decide)⟩ ?_
  exact q (Db (shS sh) (shP sh)) _ _ AH (fun w h t d hw hh o=>Nw hw hh hS o) (by rw [LW];exact AG)
end
set_option maxHeartbeats 2000000
section
variable {d:Nat} {σ:AD} {Q:AO} {X:AY} {m:Int} {hs:List En} {ss:List Sh}
theorem Gj (q:r=some (n,u,l,tr)→K true) (q':r≠some (n,u,l,tr)→K false):N8 σ K .Eq (.tup [.int n,.int u,.int l,.bool tr]) (FN r):=by
 cases r with
 | none=>exact CmpK.eq (x:=.tuple [.int n,.int u,.int l,.bool tr]) (y:=.none) rfl rfl rfl rfl (q' nofun)
 | some p=>
  refine CmpK.eq (x:=.tuple [.int n,.int u,.int l,.bool tr]) (y:=.tuple [.int p.1,.int p.2.1,.int p.2.2.1,.bool p.2.2.2]) rfl rfl rfl rfl ?_
  show K ((n==p.1)&&((u==p.2.1)&&((l==p.2.2.1)&&((tr==p.2.2.2)&&true))))
  by_cases h:p=(n,u,l,tr)
  ·subst h
   rw [beq_self_eq_true,beq_self_eq_true,beq_self_eq_true,beq_self_eq_true]
   exact q rfl
  ·have:((n==p.1)&&((u==p.2.1)&&((l==p.2.2.1)&&((tr==p.2.2.2)&&true))))=false:=Bool.eq_false_iff.mpr fun z=>h (by
    have z:=Bool.and_eq_true_iff.mp z
    have z1:=Bool.and_eq_true_iff.mp z.2
    have z2:=Bool.and_eq_true_iff.mp z1.2
    have z3:=Bool.and_eq_true_iff.mp z2.2
    exact Prod.ext (beq_iff_eq.mp z.1).symm (Prod.ext (beq_iff_eq.mp z1.1).symm (Prod.ext (beq_iff_eq.mp z2.1).symm (beq_iff_eq.mp z3.1).symm)))
   rw [this]
   exact q' fun e=>h (Option.some.inj e)
abbrev OC:List Sx:=[AP (.var 9) (Ak [(AA 5),(AJ (AA 7) (AB 0)),(AJ (AA 7) (AB 1)),(AA 8)]),AP (.var 10) (AQ 23 [(AA 6),(AQ 25 [(AL .add (AA 2) (Ak [(AA 9)]))]),(AJ (AJ (AA 0) (AA 5)) (AB 0)),(AJ (AJ (AA 0) (AA 5)) (AB 1))]),sIf (AT (AA 9) [.Eq] [(AA 3)]) [AU (AA 10)] [],sIf (BA (AA 10)) [AU (A3 false)] []]
abbrev UE:List Sx:=[Bt (.var 8) .plain [(BW (Ap [(A3 false),(A3 true)]) none (some (AL .add (AB 1) (Ah .int [(AJ (AA 2) (AB 3))]))))] OC]
theorem NV {n k i c:Nat} {e:En} {os:List Ot} {W H:Int} {b tr far:Bool} {y:Int × Int} {a8 a9 a10:V} {r:Option Pl4} {Pr:Br} (es:σ[n]?=some (.list (ss.map Sh.v))) (hv:(ss.map Sh.v)[(i:Int).toNat]?=some (Sh.v ⟨W,H,b⟩)) (er:σ[c]?=some (.list (os.map Ot.v)))
  (hc:(r=some ((i:Int),y.1,y.2,tr)∧GdU os W H e.w e.h tr y.1 y.2∧∀ ρ₃,Pr (.ret (.bool true)) ρ₃ σ)∨(r≠some ((i:Int),y.1,y.2,tr)∧¬ GdU os W H e.w e.h tr y.1 y.2∧∀ b9 b10,Pr .next [.ref n,.ref k,e.box,FN r,.bool far,.int i,.ref c,Co y,.bool tr,b9,b10,.undef] σ)) :
  ET (callW P12 (d+2)) (.var 8) OC (.bool tr) [.ref n,.ref k,e.box,FN r,.bool far,.int i,.ref c,Co y,a8,a9,a10,.undef] σ Pr:=by
 dsimp only [Co,En.box] at hc ⊢
 wtm_at "mine"
 refine GZ (e:=e.to i y.1 y.2 tr) ?_
 refine An es (Int.natCast_nonneg i) hv ?_
 dsimp only [Sh.v]
 refine An es (Int.natCast_nonneg i) hv ?_
 dsimp only [Sh.v]
 have eu:(e.to i y.1 y.2 tr).ot.u=y.1∧(e.to i y.1 y.2 tr).ot.l=y.2∧(e.to i y.1 y.2 tr).ot.h=exT tr e.h e.w∧(e.to i y.1 y.2 tr).ot.w=exT tr e.w e.h:=by unfold En.ot En.to;cases tr <;> exact ⟨rfl,rfl,rfl,rfl⟩
 refine TR (o:=(e.to i y.1 y.2 tr).ot) er (fun g=>?_) fun g=>?_
 ·rw [eu.1,eu.2.1,eu.2.2.1,eu.2.2.2] at g
  cases r with
  | none=>
   refine Gj (r:=none) (fun h=>?_) fun h=>?_
   ·exact hc.elim (fun z=>z.2.2 _) fun z=>absurd h z.1
   ·exact hc.elim (fun z=>absurd z.1 h) fun z=>absurd g z.2.1
  | some p=>
   refine Gj (r:=some p) (fun h=>?_) fun h=>?_
   ·exact hc.elim (fun z=>z.2.2 _) fun z=>absurd h z.1
   ·exact hc.elim (fun z=>absurd z.1 h) fun z=>absurd g z.2.1
 ·rw [eu.1,eu.2.1,eu.2.2.1,eu.2.2.2] at g
  cases r with
  | none=>
   refine Gj (r:=none) (fun h=>?_) fun h=>?_
   ·exact hc.elim (fun z=>absurd z.2.1 g) fun z=>absurd h z.1
   ·exact hc.elim (fun z=>absurd z.1 h) fun z=>z.2.2 _ _
  | some p=>
   refine Gj (r:=some p) (fun h=>?_) fun h=>?_
   ·exact hc.elim (fun z=>absurd z.2.1 g) fun z=>absurd h z.1
   ·exact hc.elim (fun z=>absurd z.1 h) fun z=>z.2.2 _ _
theorem UL {n k i c:Nat} {e:En} {os:List Ot} {W H:Int} {b far:Bool} {y:Int × Int} {a7 a8 a9 a10:V} {r:Option Pl4} {Pq:Br} (es:σ[n]?=some (.list (ss.map Sh.v))) (hv:(ss.map Sh.v)[(i:Int).toNat]?=some (Sh.v ⟨W,H,b⟩)) (er:σ[c]?=some (.list (os.map Ot.v)))
  (hc:(∃ tr0,r=some ((i:Int),y.1,y.2,tr0)∧(tr0=true→e.t=true)∧GdU os W H e.w e.h tr0 y.1 y.2∧(tr0=true→¬ GdU os W H e.w e.h false y.1 y.2)∧∀ ρ₃ σ₃,σ<+:σ₃→Pq (.ret (.bool true)) ρ₃ σ₃) ∨
   ((∀ tr,r≠some ((i:Int),y.1,y.2,tr))∧(∀ tr,(tr=true→e.t=true)→¬ GdU os W H e.w e.h tr y.1 y.2)∧∀ σ₃,σ<+:σ₃→∀ b8 b9 b10,Pq .next [.ref n,.ref k,e.box,FN r,.bool far,.int i,.ref c,Co y,b8,b9,b10,.undef] σ₃)) :
  ET (callW P12 (d+2)) (.var 7) UE (Co y) [.ref n,.ref k,e.box,FN r,.bool far,.int i,.ref c,a7,a8,a9,a10,.undef] σ Pq:=by
 have eb:e.box=.tup [.str e.name,.int e.w,.int e.h,.bool e.t]:=rfl
 cases ht:e.t with
 | false=>
  rw [ht] at eb
  rw [eb]
  wtm_at "mine"
  refine Os AG (by decide) (by decide) ?_
  rw [← eb]
  refine ⟨_,_,.list AG,?_⟩
  refine NV (tr:=false) (AC (AC es)) hv (AC (AC er)) (hc.imp (fun z=>B6 z fun tr0 h1 h2 h3 h4 h5=>?_) fun z=>⟨z.1 false,z.2.1 false nofun,fun b9 b10=>⟨AG,z.2.2 _ (AH.trans AH) _ _ _⟩⟩)
  have:tr0=false:=Bool.eq_false_iff.mpr fun z=>KP ((h2 z).symm.trans ht)
  subst this
  exact ⟨h1,h3,fun ρ₃=>h5 ρ₃ _ (AH.trans AH)⟩
 | true=>
  rw [ht] at eb
  rw [eb]
  wtm_at "mine"
  refine Os AG (by decide) (by decide) ?_
  rw [← eb]
  refine ⟨_,_,.list AG,?_⟩
  refine hc.elim (fun z=>B6 z fun tr0 h1 h2 h3 h4 h5=>?_) fun z=>?_
  ·cases tr0 with
   | false=>exact NV (tr:=false) (AC (AC es)) hv (AC (AC er)) (.inl ⟨h1,h3,fun ρ₃=>h5 ρ₃ _ (AH.trans AH)⟩)
   | true=>
    refine NV (tr:=false) (AC (AC es)) hv (AC (AC er)) (.inr ⟨fun z=>?_,h4 rfl,fun b9 b10=>⟨AG,?_⟩⟩)
    ·exact KP (congrArg (·.2.2.2) (Option.some.inj (h1.symm.trans z)))
    ·exact NV (tr:=true) (AC (AC es)) hv (AC (AC er)) (.inl ⟨h1,h3,fun ρ₃=>h5 ρ₃ _ (AH.trans AH)⟩)
  ·refine NV (tr:=false) (AC (AC es)) hv (AC (AC er)) (.inr ⟨z.1 false,z.2.1 false nofun,fun b9 b10=>⟨AG,?_⟩⟩)
   exact NV (tr:=true) (AC (AC es)) hv (AC (AC er)) (.inr ⟨z.1 true,z.2.1 true fun _=>ht,fun b9 b10=>⟨AG,z.2.2 _ (AH.trans AH) _ _ _⟩⟩)
end
set_option maxHeartbeats 2000000
section
variable {d:Nat} {σ:AD} {Q:AO} {X:AY} {m:Int} {hs:List En} {ss:List Sh}
theorem RZ {n k:Nat} {e:En} {r:Option Pl4} {far:Bool} (F:FP (OnL e.w e.h e.t) 0 (ss.zip (AV ss.length hs (some e.name))) r) (es:σ[n]?=some (.list (ss.map Sh.v))) (eh:σ[k]?=some (.list (hs.map En.one))) (hl:ss.length≤9) (ok:∀ s∈ss,ShB 1000 1000 s) (hh:hs.length<63)
  (hstr:∀ y∈hs,PyData.strOk y.name=true) (hx:PyData.strOk e.name=true) (hw:0<e.w) (hht:0<e.h) (q:∀ σ',σ<+:σ'→Q (.bool true) σ'):callW P12 (d+3) 35 [.ref n,.ref k,e.box,FN r,.bool far] σ Q X:=by
 refine AM (fn:=Im) rfl rfl ?_
 dsimp only [Im]
 wtm_at "mine"
 rw [List.length_map]
 refine E5 (fun i ρ' σ'=>σ<+:σ'∧(∃ a5 a6 a7 a8 a9 a10,ρ'=[.ref n,.ref k,e.box,FN r,.bool far,a5,a6,a7,a8,a9,a10,.undef])∧∀ x,r=some x→(i:Int)≤x.1) ⟨Int.le_trans (by decide) (Int.natCast_nonneg _),Int.le_trans (Int.ofNat_le.mpr hl) (by decide)⟩ ⟨List.prefix_refl _,⟨_,_,_,_,_,_,rfl⟩,fun x hx=>?_⟩ (fun i ρ' σ' R hi hI hR=>?_) fun ρ' σ' hI=>?_
 ·subst hx
  exact Ae (Ig F) fun k hk _ _=>hk▸Int.natCast_nonneg k
 ·refine A7 hI fun p₁ zt hr=>?_
  refine Ck zt fun a5 a6 a7 zt=>Ck zt fun a8 a9 a10 ze=>?_;subst ze
  have i1:i<ss.length:=Int.ofNat_lt.mp hi
  have hsh:=List.getElem?_eq_getElem i1
  have hv:(ss.map Sh.v)[(i:Int).toNat]?=some ss[i].v:=by rw [Int.toNat_natCast,List.getElem?_map,hsh];rfl
  have ok:=ok _ (List.mem_of_getElem? hsh)
  have st:=SS F hsh hr
  have hz:(Al hs (some e.name) i).length<63:=by
   unfold Al;rw [List.length_map];exact Nat.lt_of_le_of_lt (List.length_filter_le ..) hh
  refine Oi (AN p₁ eh) (Nat.le_trans (Nat.le_of_lt hh) (by decide)) hstr hx ?_
  generalize ss[i]=sh at *
  generalize Al hs (some e.name) i=os at *
  refine An (AC (AN p₁ es)) (Int.natCast_nonneg i) hv ?_
  refine RM AG hz ok fun T a σ₁ p₂ hT ea=>?_
  have es₁:=AN p₂ (AC (AN p₁ es))
  have er₁:=AN p₂ (AG (σ:=σ') (o:=.list (os.map Ot.v)))
  have p₃:σ<+:σ₁:=p₁.trans (AH.trans p₂)
  refine st.elim (fun z=>?_) fun z=>?_
  ·refine BH (fun j ρ' σ''=>σ₁<+:σ''∧(∃ a7 a8 a9 a10,ρ'=[.ref n,.ref k,e.box,FN r,.bool far,.int i,.ref σ'.length,a7,a8,a9,a10,.undef])) ea ⟨List.prefix_refl _,_,_,_,_,rfl⟩ (fun j v ρ' σ'' R' hv' hI hR'=>?_) fun ρ' σ'' hI=>?_
   ·obtain ⟨p,a7,a8,a9,a10,rfl⟩:=hI
    refine AF (List.mem_map_get hv') fun y hy ze1=>?_;subst ze1
    refine UL (AN p es₁) hv (AN p er₁) (.inr ⟨fun tr e=>?_,fun tr hr=>Kw z.1 y.1 y.2 tr hr,fun σ₃ p₄ b8 b9 b10=>?_⟩)
    ·exact absurd (z.2 _ e) (Int.not_le.mpr (Int.lt_succ _))
    ·exact hR' _ _ (AN (p.trans p₄) ea) ⟨p.trans p₄,_,_,_,_,rfl⟩
   ·obtain ⟨p,a7,a8,a9,a10,rfl⟩:=hI
    exact hR _ _ ⟨p₃.trans p,⟨_,_,_,_,_,_,rfl⟩,z.2⟩
  ·refine AF z fun pp o hrr=>?_
   have so:=Ep o
   refine BM (Oq o (hT _ _ _ _ hw hht o)) fun A B eT hA=>?_
   rw [eT] at ea
   refine BH (fun j ρ' σ''=>σ₁<+:σ''∧(∃ a7 a8 a9 a10,ρ'=[.ref n,.ref k,e.box,FN r,.bool far,.int i,.ref σ'.length,a7,a8,a9,a10,.undef])∧j≤A.length) ea ⟨List.prefix_refl _,⟨_,_,_,_,rfl⟩,Nat.zero_le _⟩ (fun j v ρ' σ'' R' hv' hI hR'=>?_) fun ρ' σ'' hI=>?_
   ·obtain ⟨p,⟨a7,a8,a9,a10,rfl⟩,hj⟩:=hI
    refine AF (List.mem_map_get hv') fun y hy ze1=>?_;subst ze1
    refine (Nat.lt_or_eq_of_le hj).elim (fun hlt=>?_) fun e0=>?_
    ·rw [List.getElem?_append_left hlt] at hy
     have hA:=hA y (List.mem_of_getElem? hy)
     refine UL (AN p es₁) hv (AN p er₁) (.inr ⟨fun tr e=>?_,hA,fun σ₃ p₄ b8 b9 b10=>?_⟩)
     ·have e:=Option.some.inj (hrr.symm.trans e)
      have e1:pp.1=y.1:=congrArg (·.2.1) e
      have e2:pp.2.1=y.2:=congrArg (·.2.2.1) e
      exact hA _ so.1 (e1▸e2▸so.2.1)
     ·exact hR' _ _ (AN (p.trans p₄) ea) ⟨p.trans p₄,⟨_,_,_,_,rfl⟩,hlt⟩
    ·rw [e0,List.getElem?_append_right (Nat.le_refl _),Nat.sub_self] at hy
     have hy:=Option.some.inj hy
     subst hy
     exact UL (AN p es₁) hv (AN p er₁) (.inl ⟨pp.2.2,hrr,so.1,so.2.1,fun h g=>Sc ((so.2.2 _ _ false nofun g).2 rfl rfl h),fun ρ₃ σ₃ p₄=>q _ (p₃.trans (p.trans p₄))⟩)
   ·refine absurd hI.2.2 (Nat.not_le.mpr ?_)
    rw [List.length_map,List.length_append];exact Nat.lt_add_of_pos_right (Nat.zero_lt_succ _)
 ·refine A7 hI fun p₁ zt hr=>?_
  refine Ck zt fun a5 a6 a7 zt=>Ck zt fun a8 a9 a10 ze=>?_;subst ze
  rw [Int.toNat_natCast] at hr
  have:=Tk F hr
  subst this
  exact q _ p₁
end
set_option maxHeartbeats 2000000
section
variable {d:Nat} {σ:AD} {Q:AO} {X:AY} {m:Int} {hs:List En} {ss:List Sh} {ns:List Str} {n k a r S B P:Nat}
theorem Oh {x y:En} (es:σ[n]?=some (.list (ss.map Sh.v))) (hx:x.n<ss.length) (hy:y.n<ss.length) (q:∀ σ',σ<+:σ'→Q (.bool (Aa (x.key ss) (y.key ss))) σ'):callW P12 (d+1) 30 [.ref n,x.pl,y.pl] σ Q X:=by
 refine AM (fn:=Gh) rfl rfl ?_
 have keyOf:∀ z:En,z.n<ss.length→∃ b,(ss.map Sh.v)[(z.n:Int).toNat]?=some (.tup [.int (ss.getD z.n ⟨0,0,false⟩).W,.int (ss.getD z.n ⟨0,0,false⟩).H,hab b])∧z.key ss=if b then [(z.n:Int),z.u,z.l,b2i z.r] else [(z.n:Int),z.l,z.u,b2i z.r]:=fun z hz=>by
  refine ⟨(ss.getD z.n ⟨0,0,false⟩).b,?_,rfl⟩
  rw [Int.toNat_natCast,List.getElem?_map,List.getElem?_eq_getElem hz,List.getD_eq_getElem?_getD,List.getElem?_eq_getElem hz];rfl
 refine AF (keyOf x hx) fun bx ex kx=>?_
 refine AF (keyOf y hy) fun by' ey ky=>?_
 refine H5 4 (fun ρ' σ'=>σ<+:σ'∧∃ (i1 i2:Nat),σ'[i1]?=some (.list ((x.key ss).map .int))∧σ'[i2]?=some (.list ((y.key ss).map .int))∧ρ'=[.ref n,x.pl,y.pl,.ref i1,.ref i2,.undef,.undef]) (fun R' hR'=>?_) fun ρ' σ' hI=>?_
 ·dsimp only [Gh,List.take,En.pl]
  wtm_at "mine"
  refine An (AC (AC es)) (Int.natCast_nonneg _) ex ?_
  refine IB ?_
  cases bx with
  | true=>
   refine An (AC (AC es)) (Int.natCast_nonneg _) ey ?_
   refine IB ?_
   cases by' with
   | true=>exact hR' _ _ ⟨AH.trans AH,_,_,by rw [kx];exact AC AG,by rw [ky];exact AG,rfl⟩
   | false=>wtm_at "mine"; exact hR' _ _ ⟨(AH.trans AH).trans AH,_,_,by rw [kx];exact AC (AC AG),by rw [ky];exact AG,rfl⟩
  | false=>
   wtm_at "mine"
   refine An (AC (AC (AC es))) (Int.natCast_nonneg _) ey ?_
   refine IB ?_
   cases by' with
   | true=>exact hR' _ _ ⟨(AH.trans AH).trans AH,_,_,by rw [kx];exact AG,by rw [ky];exact AC AG,rfl⟩
   | false=>wtm_at "mine"; exact hR' _ _ ⟨((AH.trans AH).trans AH).trans AH,_,_,by rw [kx];exact AC AG,by rw [ky];exact AG,rfl⟩
 ·refine B8 hI fun p i1 i2 e1 e2 ze1=>?_;subst ze1
  dsimp only [Gh,List.drop]
  have l1:=L2 (ss:=ss) (e:=x)
  have l2:=L2 (ss:=ss) (e:=y)
  generalize x.key ss=ks at *
  generalize y.key ss=ls at *
  have at':∀ (l:List Int) (i:Nat),i<l.length→(l.map V.int)[(i:Int).toNat]?=some (.int (l.getD i 0)):=fun l i hi=>by
   rw [Int.toNat_natCast,List.getElem?_map,List.getD_eq_getElem?_getD,List.getElem?_eq_getElem hi];rfl
  refine E5 (fun i ρ' σ''=>σ''=σ'∧(∀ j,j<i→ks.getD j 0=ls.getD j 0)∧∃ a5,ρ'=[.ref n,x.pl,y.pl,.ref i1,.ref i2,a5,.undef]) (by decide) ⟨rfl,fun j hj=>absurd hj (Nat.not_lt_zero j),_,rfl⟩ (fun i ρ' σ'' R' hi hI hR=>?_) fun ρ' σ'' hI=>?_
  ·refine Lf hI fun ze1 he a5 ze2=>?_;subst ze1;subst ze2
   have hi1:i<ks.length:=by rw [l1];exact Int.ofNat_lt.mp hi
   have hi2:i<ls.length:=by exact an3 .lt .v0 .v1 (.t .v0 .v2 (.q .v2 (.n 4) (.p .v1 (.n 4) .e))) rfl hi1 l1 l2
   refine An e1 (Int.natCast_nonneg i) (at' ks i hi1) ?_
   refine An e2 (Int.natCast_nonneg i) (at' ls i hi2) ?_
   refine FK (fun h=>?_) fun h=>?_
   ·refine An e1 (Int.natCast_nonneg i) (at' ks i hi1) ?_
    refine An e2 (Int.natCast_nonneg i) (at' ls i hi2) ?_
    refine (?_:Q (.bool _) _)
    rw [← Sl (l1.trans l2.symm) he hi1 h]
    exact q _ p
   ·exact hR _ _ ⟨rfl,fun j hj=>(Nat.lt_succ_iff_lt_or_eq.mp hj).elim (he j) fun z=>z▸h,_,rfl⟩
  ·refine Lf hI fun ze1 he a5 ze2=>?_;subst ze1;subst ze2
   refine (?_:Q (.bool _) _)
   rw [← QJ (l1.trans l2.symm) fun j hj=>he j (show j<4 by rw [← l1];exact hj)]
   exact q _ p
end
set_option maxHeartbeats 2000000
section
variable {d:Nat} {σ σ':AD} {Q:AO} {X:AY} {m:Int} {hs:List En} {ss:List Sh} {n k:Nat} {e:En}
theorem Su {C:B1} {t:Tx} {ss:List Sx} {ρ:List V} {Q:Br} (I:Nat→List V→AD→Prop) (E:List V→AD→Prop) (M:Nat) (bound:∀ k ρ σ,I k ρ σ→k≤M) (h0:I 0 ρ σ)
  (turn:∀ k ρ σ (R:List V→AD→Prop) (Q:Br),I k ρ σ→(∀ ρ' σ',I (k+1) ρ' σ'→R ρ' σ')→(∀ ρ' σ',E ρ' σ'→Q .next ρ' σ')→t C ρ σ (fun b σ₁=>brW (BP ss C ρ σ₁ (C9 R Q)) (Q .next ρ σ₁) b) (fun c σ₁=>Q (.exc c) ρ σ₁))
  (fin:∀ ρ σ,E ρ σ→Q .next ρ σ):Ds t ss C ρ σ Q:=
 ⟨M+1,EZ I M bound (fun k ρ σ R h hR=>turn k ρ σ R Q h hR fin) (M+1) 0 ρ σ (Nat.zero_add _) h0⟩
theorem Ps {σ a b c d:AD}:σ<+:σ++a++b++c++d:=AH.trans (AH.trans (AH.trans AH))
theorem Lp {σ a b c d e:AD}:σ<+:σ++a++b++c++d++e:=AH.trans (AH.trans (AH.trans (AH.trans AH)))
theorem U7 (h:hs[i]?=some b):(hs.map (En.key ss)).getD i []=b.key ss:=by rw [List.getD_eq_getElem?_getD,List.getElem?_map,h];rfl
theorem Ea (es:σ[n]?=some (.list (ss.map Sh.v))) (ek:σ[k]?=some (.list (hs.map En.one))) (hb:hs.length≤60) (hn:∀ e∈hs,e.n<ss.length)
  (q:∀ (p:List Nat) a σ',σ<+:σ'→p.Perm (List.range hs.length)→p.Pairwise (A4 (hs.map (En.key ss)))→σ'[a]?=some (.list ((p.map fun i=>hs.getD i dfl).map fun e=>V.str e.name))→σ.length≤a→Q (.ref a) σ'):callW P12 (d+2) 42 [.ref n,.ref k] σ Q X:=by
 refine AM (fn:=Il) rfl rfl ?_
 dsimp only [Il]
 refine BH (fun i ρ' σ'=>σ<+:σ'∧∃ (p:List Nat) (fo:Nat),(∃ a3 a4,ρ'=[.ref n,.ref k,.ref fo,a3,a4,.undef])∧p.Perm (List.range i)∧p.Pairwise (A4 (hs.map (En.key ss)))∧σ'[fo]?=some (.list ((p.map fun i=>hs.getD i dfl).map En.one))) (AC ek) ⟨AH,[],_,⟨_,_,rfl⟩,List.Perm.refl _,List.Pairwise.nil,AG⟩ (fun i v ρ' σ' R' hv hI hR=>?_) fun ρ' σ' hI=>?_
 ·obtain ⟨p₁,p,fo,⟨a3,a4,rfl⟩,hp,ho,ef⟩:=hI
  refine AF (List.mem_map_get hv) fun b hbi ze1=>?_;subst ze1
  have hi:=(List.getElem?_eq_some_iff.mp hbi).1
  have hpl:p.length=i:=by rw [hp.length_eq,List.length_range]
  have hi60:i<60:=Nat.lt_of_lt_of_le hi hb
  have hbn:=hn b (List.mem_of_getElem? hbi)
  wtm_at "mine"
  rw [List.length_map,List.length_map]
  refine Su (fun j ρ' σ''=>σ'<+:σ''∧∃ a,a+j=i∧ρ'=[.ref n,.ref k,.ref fo,b.one,.int (a:Nat),.undef]∧∀ x∈p.drop a,Aa ((hs.map (En.key ss)).getD i []) ((hs.map (En.key ss)).getD x [])=true)
   (fun ρ' σ''=>σ'<+:σ''∧∃ a,a≤i∧ρ'=[.ref n,.ref k,.ref fo,b.one,.int (a:Nat),.undef]∧(∀ x∈p.drop a,Aa ((hs.map (En.key ss)).getD i []) ((hs.map (En.key ss)).getD x [])=true)∧(a=0∨∃ x,p[a - 1]?=some x∧Aa ((hs.map (En.key ss)).getD i []) ((hs.map (En.key ss)).getD x [])=false))
   i (fun j _ _ h=>by obtain ⟨_,a,h,_⟩:=h;exact h▸Nat.le_add_left _ _) ⟨List.prefix_refl _,i,rfl,by rw [hpl];rfl,by rw [← hpl,List.drop_length];exact Bo⟩ (fun j ρ' σ'' R Qw hI hR' hE=>?_) fun ρ' σ'' hE=>?_
  ·obtain ⟨p₂,a,ha,rfl,hd⟩:=hI
   have ha':a≤i:=ha▸Nat.le_add_right _ _
   have e1:=U7 (ss:=ss) hbi
   have ef':=AN p₂ ef
   refine Aj (fun h=>?_) fun h=>?_
   ·have ha0:0<a:=Int.ofNat_lt.mp h
    have hx9:a - 1<p.length:=hpl▸Nat.lt_of_lt_of_le (Nat.sub_lt ha0 Nat.one_pos) ha'
    have hx:=List.getElem?_eq_getElem hx9
    generalize p[a - 1]=x at hx
    have hxi:x<i:=List.mem_range.mp (hp.mem_iff.mp (List.mem_of_getElem? hx))
    have hb9:=Nat.lt_trans hxi hi
    have hbx:=List.getElem?_eq_getElem hb9
    generalize hs[x]=y at hbx
    have e2:=U7 (ss:=ss) hbx
    have hv:((p.map fun i=>hs.getD i dfl).map En.one)[((a:Int) - 1).toNat]?=some y.one:=by
     rw [show ((a:Int) - 1).toNat=a - 1 from Int.toNat_sub a 1,List.getElem?_map,List.getElem?_map,hx]
     show some (hs.getD x dfl).one=_
     rw [List.getD_eq_getElem?_getD,hbx];rfl
    have h1:0≤(a:Int) - 1:=Int.sub_nonneg_of_le h
    refine An ef' h1 hv ?_
    refine Oh (x:=b) (y:=y) (AN (p₁.trans p₂) es) hbn (hn y (List.mem_of_getElem? hbx)) fun τ pp=>?_
    refine Jl (fun g=>?_) fun g=>?_
    ·refine hR' _ _ ⟨p₂.trans pp,a - 1,by rw [← ha,Nat.add_comm j 1,← Nat.add_assoc,Nat.sub_add_cancel ha0],by rw [show ((a - 1:Nat):Int)=(a:Int) - 1 from Int.ofNat_sub ha0];rfl,fun w hw=>?_⟩
     rw [Ct hx,Nat.sub_add_cancel ha0] at hw
     refine (List.mem_cons.mp hw).elim (fun z=>?_) (hd w)
     rw [z,e1,e2];exact g
    ·exact hE _ _ ⟨p₂.trans pp,a,ha',rfl,hd,.inr ⟨x,hx,by rw [e1,e2];exact g⟩⟩
   ·exact hE _ _ ⟨p₂,a,ha',rfl,hd,.inl (Nat.le_zero.mp (Nat.le_of_not_lt fun z=>h (Int.ofNat_lt.mpr z)))⟩
  ·obtain ⟨p₂,a,ha,rfl,hd,hz⟩:=hE
   have en:=Tn hp ho hd hz
   have ef':=AN p₂ ef
   have hl:((p.map fun i=>hs.getD i dfl).map En.one).length=i:=by rw [List.length_map,List.length_map,hpl]
   have hmin:min (a:Int).toNat ((p.map fun i=>hs.getD i dfl).map En.one).length=a:=by rw [hl,Int.toNat_natCast];exact Nat.min_eq_left ha
   have a6:(a:Int)≤1000000:=Int.le_trans (Int.ofNat_le.mpr ha) (Int.le_trans (Int.ofNat_le.mpr (Nat.le_of_lt hi60)) (by decide))
   refine SliceK.list ef' .no (Cs (Int.natCast_nonneg a) a6) ?_
   rw [hmin]
   refine BinK.addL (AC AG) AG (Nat.le_trans (Nat.add_le_add_right (GC (b:=a)) 1) (by rw [hl];exact Nat.le_trans (Nat.succ_le_of_lt hi60) (by decide))) ?_
   refine SliceK.list (AC (AC (AC ef'))) (Cs (Int.natCast_nonneg a) a6) .no ?_
   rw [hmin]
   refine BinK.addL (AC AG) AG (Nat.le_trans (Nat.add_le_add (by rw [List.length_append];exact Nat.add_le_add_right (GC (b:=a)) 1) GC) (by rw [hl];exact Nat.le_trans (Nat.add_le_add (Nat.succ_le_of_lt hi60) (Nat.le_of_lt hi60)) (by decide))) ?_
   refine hR _ _ (AN (p₁.trans (p₂.trans Lp)) ek) ⟨p₁.trans (p₂.trans Lp),p.take a++i::p.drop a,_,⟨_,_,rfl⟩,en.1,en.2,?_⟩
   rw [AG]
   refine congrArg (fun l=>some (O.list l)) ?_
   have ecut:∀ {l:List V},l.length=i→cut l 0 a=l.take a∧cut l a l.length=l.drop a:=fun {l} _=>⟨rfl,by unfold cut;rw [List.take_length]⟩
   rw [(ecut hl).1,(ecut hl).2,List.map_append,List.map_append,List.map_cons,List.map_cons,← List.map_take,← List.map_take,← List.map_drop,← List.map_drop,List.append_assoc,List.getD_eq_getElem?_getD,hbi];rfl
 ·obtain ⟨p₁,p,fo,⟨a3,a4,rfl⟩,hp,ho,ef⟩:=hI
  rw [List.length_map] at hp
  refine Dt (g:=En.one) (fun e=>e.name) V.str ef (by rw [List.length_map,hp.length_eq,List.length_range];exact Nat.le_trans hb (by decide)) (fun x hx K hK=>?_) ?_
  ·dsimp only [En.one]
   exact hK
  refine q p _ _ (p₁.trans AH) hp ho ?_ p₁.length_le
  rw [AG]
  refine congrArg (fun l=>some (O.list l)) ?_
  rw [List.map_map (g:=V.str)];rfl
end
set_option maxHeartbeats 2000000
noncomputable def CF (i:Int):Str:=Str.ofString (toString i)
noncomputable def LY (t:Bool):Str:=if t then Str.ofString "turns" else Str.ofString "stays"
noncomputable def Ks (t:Bool):Str:=if t then Str.ofString "turned" else Str.ofString "upright"
noncomputable def Lo (t:Bool):Str:=if t then Str.ofString "low" else Str.ofString "left"
noncomputable def sp:Str:=Str.ofString " "
noncomputable def nl:Str:=Str.ofString "\n"
noncomputable def En.words (e:En):List Str:=[Str.ofString "box", e.name,CF e.w,CF e.h,LY e.t,CF e.n,CF e.u,CF e.l,Ks e.r]
noncomputable def Sh.words (s:Sh):List Str:=[Str.ofString "shelf", CF s.W,CF s.H,Lo s.b]
noncomputable def C7 (ws:List Str):Str:=Str.join sp ws++nl
noncomputable def Ju (shs:List Sh) (ts:List En):List Str:=(shs.map fun s=>C7 s.words)++ts.map fun e=>C7 e.words
theorem Dr (x y:Str) (r:List Str):Str.join sp (x::y::r)=x++sp++Str.join sp (y::r):=rfl
theorem Sr (x:Str):Str.join sp [x]=x:=rfl
theorem Mg (a b c d e f g h:Str):Str.empty++Str.ofString "box "++a++sp++b++sp++c++sp++d++sp++e++sp++f++sp++g++sp++h++nl=C7 [Str.ofString "box", a,b,c,d,e,f,g,h]:=by
 have e1:Str.ofString "box "=Str.ofString "box"++sp:=by decide +kernel
 unfold C7
 rw [e1,Str.empty_append,Dr,Dr,Dr,Dr,Dr,Dr,Dr,Dr,Sr]
 simp only [Str.append_assoc]
theorem Hs (a b c:Str):Str.empty++Str.ofString "shelf "++a++sp++b++sp++c++nl=C7 [Str.ofString "shelf", a,b,c]:=by
 have e1:Str.ofString "shelf "=Str.ofString "shelf"++sp:=by decide +kernel
 unfold C7
 rw [e1,Str.empty_append,Dr,Dr,Dr,Sr]
 simp only [Str.append_assoc]
theorem A0 (h:Ay i=true):(CF i).length≤65:=by
 unfold CF
 rw [ofString_length]
 exact int_text_length_le (k:=64) (by decide) (C6 h)
theorem Ba {a b:Nat} {T:Str→Prop} (ha:acc.length≤a) (hs:s.length≤b) (hk:a+b≤900000) (q:(acc++s).length≤a+b→T s):FmtK (fun s=>acc.length+s.length≤Ab∧T s) (.str s):=by
 have h:=Nat.add_le_add ha hs
 exact .str (Nat.le_trans hs (Nat.le_trans (Nat.le_add_left b a) (Nat.le_trans hk (by decide)))) ⟨Nat.le_trans h (Nat.le_trans hk (by decide)),q (by rw [Str.length_append];exact h)⟩
theorem Em {i:Int} {a:Nat} {T:Str→Prop} (ha:acc.length≤a) (hs:Ay i=true) (hk:a+65≤900000) (q:(acc++CF i).length≤a+65→T (CF i)):FmtK (fun s=>acc.length+s.length≤Ab∧T s) (.int i):=by
 have h:=Nat.add_le_add ha (A0 hs)
 exact .int hs ⟨Nat.le_trans h (Nat.le_trans hk (by decide)),q (by rw [Str.length_append];exact h)⟩
structure Wr (e:En):Prop where
 name:e.name.length≤12
 w:Ay e.w=true
 h:Ay e.h=true
 n:Ay e.n=true
 u:Ay e.u=true
 l:Ay e.l=true
theorem Gn:(LY t).length≤7:=by cases t <;> decide +kernel
theorem HF:(Ks t).length≤7:=by cases t <;> decide +kernel
theorem Gw:(Lo t).length≤7:=by cases t <;> decide +kernel
theorem Kh (h:Wr e):(C7 e.words).length≤500:=by
 have e1:=Mg e.name (CF e.w) (CF e.h) (LY e.t) (CF e.n) (CF e.u) (CF e.l) (Ks e.r)
 have l1:=A0 h.w
 have l2:=A0 h.h
 have l3:=A0 h.n
 have l4:=A0 h.u
 have l5:=A0 h.l
 have l6:=Gn (t:=e.t)
 have l7:=HF (t:=e.r)
 have l8:=h.name
 have s1:sp.length=1:=by decide +kernel
 have s2:nl.length=1:=by decide +kernel
 have s3:(Str.ofString "box ").length=4:=by decide +kernel
 have s4:Str.empty.length=0:=rfl
 unfold En.words
 rw [← e1]
 simp only [Str.length_append]
 apply Nat.le_trans
 ·repeat' first | assumption | exact Nat.le_of_eq (by assumption) | apply Nat.add_le_add
 ·decide
theorem Ki {s:Sh} (h:Ay s.W=true∧Ay s.H=true):(C7 s.words).length≤500:=by
 have e1:=Hs (CF s.W) (CF s.H) (Lo s.b)
 have l1:=A0 h.1
 have l2:=A0 h.2
 have l6:=Gw (t:=s.b)
 have s1:sp.length=1:=by decide +kernel
 have s2:nl.length=1:=by decide +kernel
 have s3:(Str.ofString "shelf ").length=6:=by decide +kernel
 have s4:Str.empty.length=0:=rfl
 unfold Sh.words
 rw [← e1]
 simp only [Str.length_append]
 apply Nat.le_trans
 ·repeat' first | assumption | exact Nat.le_of_eq (by assumption) | apply Nat.add_le_add
 ·decide
section
variable {d:Nat} {σ σ':AD} {Q:AO} {X:AY} {m:Int} {es hs:List En} {shs ss:List Sh} {n k r S B P epB epP:Nat} {e:En}
theorem Qa (h1:ρ[2]?=some (.str e.name)) (h2:ρ[3]?=some (.int e.w)) (h3:ρ[4]?=some (.int e.h)) (h4:ρ[10]?=some (.str (LY e.t))) (h5:ρ[6]?=some (.int e.n)) (h6:ρ[7]?=some (.int e.u)) (h7:ρ[8]?=some (.int e.l)) (h8:ρ[11]?=some (.str (Ks e.r))) (hw:Wr e) (q:Q (.str (C7 e.words)) σ) :
  Ld [(Ad (Str.ofString "box ")),(AA 2),(Ad (Str.ofString " ")),(AA 3),(Ad (Str.ofString " ")),(AA 4),(Ad (Str.ofString " ")),(AA 10),(Ad (Str.ofString " ")),(AA 6),(Ad (Str.ofString " ")),(AA 7),(Ad (Str.ofString " ")),(AA 8),(Ad (Str.ofString " ")),(AA 11),(Ad (Str.ofString "\n"))] Str.empty C ρ σ Q X:=by
 have s1:sp.length≤1:=by decide +kernel
 refine Ba (a:=0) (b:=4) (Nat.le_refl _) (by decide +kernel) (by decide) fun z=>?_
 refine Fw h1 rfl (Ba z hw.name (by decide) fun z=>?_)
 refine Ba z s1 (by decide) fun z=>?_
 refine Fw h2 rfl (Em z hw.w (by decide) fun z=>?_)
 refine Ba z s1 (by decide) fun z=>?_
 refine Fw h3 rfl (Em z hw.h (by decide) fun z=>?_)
 refine Ba z s1 (by decide) fun z=>?_
 refine Fw h4 rfl (Ba z Gn (by decide) fun z=>?_)
 refine Ba z s1 (by decide) fun z=>?_
 refine Fw h5 rfl (Em z hw.n (by decide) fun z=>?_)
 refine Ba z s1 (by decide) fun z=>?_
 refine Fw h6 rfl (Em z hw.u (by decide) fun z=>?_)
 refine Ba z s1 (by decide) fun z=>?_
 refine Fw h7 rfl (Em z hw.l (by decide) fun z=>?_)
 refine Ba z s1 (by decide) fun z=>?_
 refine Fw h8 rfl (Ba z HF (by decide) fun z=>?_)
 refine Ba (b:=1) z (by decide +kernel) (by decide) fun z=>?_
 refine (?_:Q (.str _) σ)
 have e1:=Mg e.name (CF e.w) (CF e.h) (LY e.t) (CF e.n) (CF e.u) (CF e.l) (Ks e.r)
 unfold En.words at q
 rw [← e1] at q
 exact q
theorem Qi (R:Rk 311 σ r shs es S B P epB epP) (hn:(es.map (·.name)).Nodup) (hm:e∈es) (hw:Wr e) (q:Q (.str (C7 e.words)) σ):callW P12 (d+3) 17 [.ref r,.str e.name] σ Q X:=by
 refine AM (fn:=I3) rfl rfl ?_
 dsimp only [I3]
 wtm_at "mine"
 refine Us R hn hm ?_
 dsimp only [En.box]
 wtm_at "mine"
 refine IE R hn hm ?_
 dsimp only [En.pl]
 have k:∀ t r',e.t=t→e.r=r'→Ld [(Ad (Str.ofString "box ")),(AA 2),(Ad (Str.ofString " ")),(AA 3),(Ad (Str.ofString " ")),(AA 4),(Ad (Str.ofString " ")),(AA 10),(Ad (Str.ofString " ")),(AA 6),(Ad (Str.ofString " ")),(AA 7),(Ad (Str.ofString " ")),(AA 8),(Ad (Str.ofString " ")),(AA 11),(Ad (Str.ofString "\n"))] Str.empty (callW P12 (d+2))
   [.ref r,.str e.name,.str e.name,.int e.w,.int e.h,.bool t,.int e.n,.int e.u,.int e.l,.bool r',.str (LY t),.str (Ks r'),.undef] σ Q X:=fun t r' ht hr=>by
  subst ht;subst hr
  exact Qa rfl rfl rfl rfl rfl rfl rfl rfl hw q
 cases ht:e.t with
 | true=>cases hr:e.r with
  | true=>exact k true true ht hr
  | false=>exact k true false ht hr
 | false=>cases hr:e.r with
  | true=>exact k false true ht hr
  | false=>exact k false false ht hr
end
set_option maxHeartbeats 2000000
section
variable {d:Nat} {σ σ':AD} {Q:AO} {X:AY} {m:Int} {es hs:List En} {shs ss:List Sh} {n k r S B P epB epP:Nat} {e:En}
theorem OK {l:List Str} {b:Nat} (h:∀ x∈l,x.length≤b):(l.map (·.length)).sum≤l.length*b:=by
 induction l with
 | nil=>exact Nat.zero_le _
 | cons x l ih=>
  rw [List.map_cons,List.sum_cons,List.length_cons,Nat.succ_mul,Nat.add_comm]
  exact Nat.add_le_add (ih fun y hy=>h y (List.mem_cons_of_mem _ hy)) (h x List.mem_cons_self)
theorem Hf {l:List Str} (h:∀ x∈l,x.length≤500) (hl:l.length≤100):(l.map (·.length)).sum+l.length*(Str.ofString "").length≤Ab:=by
 have h0:(Str.ofString "").length=0:=rfl
 rw [h0,Nat.mul_zero,Nat.add_zero]
 exact Nat.le_trans (OK h) (Nat.le_trans (Nat.mul_le_mul_right 500 hl) (by decide))
theorem Rk.kpL (R:Rk C σ r shs es S B P epB epP) (e:σ[k]?=some (.list vs)) (hk:k≠S) (kp:KpB k σ σ'):Rk C σ' r shs es S B P epB epP:=by
 refine AF R.at_.ex fun m h1 h2=>?_
 exact ⟨⟨m,kp _ _ (fun z=>by rw [z,e] at h1;cases h1) h1,kp _ _ (fun z=>by rw [z,e] at h2;cases h2) h2⟩,kp _ _ hk.symm R.sh,kp _ _ (fun z=>by have:=R.bx;rw [z,e] at this;cases this) R.bx,kp _ _ (fun z=>by have:=R.pl;rw [z,e] at this;cases this) R.pl⟩
theorem TabAt.kpL (t:TabAt T σ ln col q) (e:σ[k]?=some (.list vs)) (kp:KpB k σ σ'):TabAt T σ' ln col q:=by
 cases t with
 | tab h=>exact .tab (kp _ _ (fun z=>by rw [z,e] at h;cases h) h)
 | row m h1 h2=>exact .row m (kp _ _ (fun z=>by rw [z,e] at h1;cases h1) h1) (kp _ _ (fun z=>by rw [z,e] at h2;cases h2) h2)
theorem TabAt.keeps (t:TabAt T σ ln col q) (kp:Kp σ σ'):TabAt T σ' ln col q:=by
 cases t with
 | tab h=>exact .tab (kp _ _ h)
 | row m h1 h2=>exact .row m (kp _ _ h1) (kp _ _ h2)
abbrev UF:Str:=Str.ofString ""
theorem Nj (R:Rk 311 σ r shs es S B P epB epP) (E:Esok shs es) (t:TabAt 282 σ 179 39 Cp) (hs9:shs.length≤9) (hsm:∀ s∈shs,Ay s.W=true∧Ay s.H=true) (hw:∀ e∈es,Wr e) (h1:1<σ.length)
  (q:∀ (p:List Nat) σ',KpB 1 σ σ'→TabAt 282 σ' 179 39 Cp→p.Perm (List.range es.length)→p.Pairwise (A4 (es.map (En.key shs)))→Q (.str (Str.join UF (Ju shs (p.map fun i=>es.getD i dfl)))) σ'):callW P12 (d+4) 18 [.ref r] σ Q X:=by
 refine AM (fn:=IK) rfl rfl ?_
 dsimp only [IK]
 have hS:S<σ.length:=(List.getElem?_eq_some_iff.mp R.sh).1
 have R₀:=R.keeps (As (AH (τ:=[O.list []])))
 wtm_at "mine"
 refine BH (fun i ρ' σ'=>(∃ a2 a3 a4,ρ'=[.ref r,.ref σ.length,a2,a3,a4,.undef,.undef])∧Kp σ σ'∧σ'[σ.length]?=some (.list (((shs.take i).map fun s=>C7 s.words).map .str))) R₀.sh ⟨⟨_,_,_,rfl⟩,As AH,AG⟩ (fun i v ρ' σ' R' hv hI hR=>?_) fun ρ' σ' hI=>?_
 ·obtain ⟨⟨a2,a3,a4,rfl⟩,kp,ea⟩:=hI
  refine AF (List.mem_map_get hv) fun s hsi ze1=>?_;subst ze1
  have hi:=(List.getElem?_eq_some_iff.mp hsi).1
  have hsm:=hsm s (List.mem_of_getElem? hsi)
  have s1:sp.length≤1:=by decide +kernel
  dsimp only [Sh.v,hab]
  wtm_at "mine"
  refine Ba (a:=0) (b:=6) (Nat.le_refl _) (by decide +kernel) (by decide) fun z=>?_
  refine Em z hsm.1 (by decide) fun z=>?_
  refine Ba z s1 (by decide) fun z=>?_
  refine Em z hsm.2 (by decide) fun z=>?_
  refine Ba z s1 (by decide) fun z=>?_
  refine Ba (s:=Lo s.b) z Gw (by decide) fun z=>?_
  refine Ba (b:=1) z (by decide +kernel) (by decide) fun z=>?_
  refine CB ea (Nat.ne_of_gt (Nat.lt_trans Nat.zero_lt_one h1)) (by rw [List.length_map,List.length_map];exact Nat.lt_of_le_of_lt (List.length_take_le ..) (Nat.lt_of_lt_of_le hi (Nat.le_trans hs9 (by decide)))) ?_
  have hSk:S≠σ.length:=Nat.ne_of_lt hS
  refine hR _ _ (AI hSk.symm (kp _ _ R.sh)) ⟨⟨_,_,_,rfl⟩,fun x o h=>AI (Nat.ne_of_gt (List.getElem?_eq_some_iff.mp h).1) (kp x o h),?_⟩
  rw [AZ ea,BN hsi,List.map_append,List.map_append]
  have e1:=Hs (CF s.W) (CF s.H) (Lo s.b)
  exact congrArg (fun x:Str=>some (O.list ((((shs.take i).map fun s=>C7 s.words).map .str)++[V.str x]))) e1
 ·obtain ⟨⟨a2,a3,a4,rfl⟩,kp,ea⟩:=hI
  rw [List.length_map,List.take_length] at ea
  have R₁:=R.keeps kp
  have t₁:=t.keeps kp
  wtm_at "mine"
  refine Dx R₁ E t₁ fun p mN σ₁ kp₁ t₂ hp ho eN hmN=>?_
  have R₂:=R₁.keepsB t₁ kp₁
  have hpl:∀ i∈p,i<es.length:=fun i hi=>List.mem_range.mp (hp.mem_iff.mp hi)
  have ea₁:=kp₁ _ _ (Nat.ne_of_gt h1) ea
  have hmN':mN≠σ.length:=fun z=>by
   have:=(List.getElem?_eq_some_iff.mp ea).1
   exact absurd (z▸hmN:σ'.length≤σ.length) (Nat.not_le.mpr this)
  refine BH (fun i ρ' σ''=>(∃ a5,ρ'=[.ref r,.ref σ.length,a2,a3,a4,a5,.undef])∧KpB σ.length σ₁ σ''∧σ''[σ.length]?=some (.list (((shs.map fun s=>C7 s.words)++((p.take i).map fun i=>es.getD i dfl).map fun e=>C7 e.words).map .str))) eN ⟨⟨_,rfl⟩,fun _ _ _ h=>h,by rw [ea₁];exact congrArg (fun l=>some (O.list (List.map V.str l))) (List.append_nil _).symm⟩ (fun i v ρ' σ'' R' hv hI hR=>?_) fun ρ' σ'' hI=>?_
  ·obtain ⟨⟨a5,rfl⟩,kp₂,ea₂⟩:=hI
   refine AF (List.mem_map_get hv) fun j hj ze1=>?_;subst ze1
   have hjl:=hpl j (List.mem_of_getElem? hj)
   have ej:=List.getElem?_eq_getElem hjl
   generalize es[j]=e at ej
   have enm:(es.map (·.name)).getD j ("":Str)=e.name:=by rw [List.getD_eq_getElem?_getD,List.getElem?_map,ej];rfl
   rw [enm]
   have R₃:=R₂.kpL ea₁ (Nat.ne_of_gt hS) kp₂
   wtm_at "mine"
   refine Qi R₃ E.nodup (List.mem_of_getElem? ej) (hw e (List.mem_of_getElem? ej)) ?_
   refine CB ea₂ (Nat.ne_of_gt (Nat.lt_trans Nat.zero_lt_one h1)) ?_ ?_
   ·rw [List.length_map,List.length_append,List.length_map,List.length_map,List.length_map]
    have h2:(p.take i).length≤63:=Nat.le_trans (List.length_take_le' ..) (by rw [hp.length_eq,List.length_range];exact Nat.le_of_lt E.len)
    exact Nat.lt_of_le_of_lt (Nat.add_le_add hs9 h2) (by decide)
   refine hR _ _ (AI hmN'.symm (kp₂ _ _ hmN' eN)) ⟨⟨_,rfl⟩,fun x o hx h=>AI hx.symm (kp₂ x o hx h),?_⟩
   rw [AZ ea₂,BN hj,List.map_append (l₁:=p.take i),List.map_append (l₁:=(p.take i).map _),← List.append_assoc,List.map_append (l₂:=List.map _ (List.map _ [j]))]
   show some (O.list (_++[V.str (C7 e.words)]))=some (O.list (_++[V.str (C7 (es.getD j dfl).words)]))
   rw [GK ej]
  ·obtain ⟨⟨a5,rfl⟩,kp₂,ea₂⟩:=hI
   rw [List.length_map,List.take_length] at ea₂
   refine JoinK.mk ea₂ (Hf (fun x hx=>?_) ?_) ?_
   ·refine (List.mem_append.mp hx).elim (fun hx=>AF (List.mem_map.mp hx) fun s hs ze=>ze▸Ki (hsm s hs)) fun hx=>AF (List.mem_map.mp hx) fun e he ze=>ze▸Kh (hw e ?_)
    exact (DE hp).mem_iff.mp he
   ·rw [List.length_append,List.length_map,List.length_map,List.length_map,hp.length_eq,List.length_range]
    exact Nat.le_trans (Nat.add_le_add hs9 (Nat.le_of_lt E.len)) (by decide)
   refine q p σ'' (fun x o hx h=>kp₂ x o (Nat.ne_of_lt (List.getElem?_eq_some_iff.mp h).1) (kp₁ x o hx (kp x o h))) (t₂.kpL ea₁ kp₂) hp ho
end
set_option maxHeartbeats 2000000
section
variable {d:Nat} {σ σ':AD} {Q:AO} {X:AY} {m:Int} {es hs:List En} {shs ss:List Sh} {n k r S B P epB epP:Nat} {e:En}
theorem Sk (e:σ[n]?=some (.list [.str a,.str b])) (q:Q (.str (if t then b else a)) σ):SubK σ Q (.ref n) (.int (b2i t)):=by
 cases t with
 | true=>exact E4 e rfl rfl q
 | false=>exact E4 e rfl rfl q
theorem Hr {ws:List Str} (h:∀ x∈ws,x.length≤100) (hl:ws.length≤10):(ws.map (·.length)).sum+ws.length*(Str.ofString " ").length≤Ab:=by
 have h0:(Str.ofString " ").length=1:=by decide +kernel
 rw [h0,Nat.mul_one]
 exact Nat.le_trans (Nat.add_le_add (Nat.le_trans (OK h) (Nat.mul_le_mul_right 100 hl)) hl) (by decide)
theorem WG {a b c d:Str} {P:Str→Prop} (h1:P a) (h2:P b) (h3:P c) (h4:P d):∀ x∈[a,b,c,d],P x:=by
 intro x hx
 refine Or.elim (List.mem_cons.mp hx) (fun z=>?_) (fun hx=>?_)
 ·exact z▸h1
 refine Or.elim (List.mem_cons.mp hx) (fun z=>?_) (fun hx=>?_)
 ·exact z▸h2
 refine Or.elim (List.mem_cons.mp hx) (fun z=>?_) (fun hx=>?_)
 ·exact z▸h3
 exact List.mem_singleton.mp hx▸h4
theorem Tg (es:σ[n]?=some (.list (ss.map Sh.v))) (ek:σ[k]?=some (.list (hs.map En.one))) (E:Esok ss hs) (hb:hs.length≤60) (hs9:ss.length≤9) (hm:1≤m∧m≤1000000) (hsm:∀ s∈ss,Ay (s.W*m)=true∧Ay (s.H*m)=true) (hw:∀ e∈hs,Wr (e.by m)) (h0:0<σ.length)
  (q:∀ (p:List Nat) σ',Kp σ σ'→p.Perm (List.range hs.length)→p.Pairwise (A4 (hs.map (En.key ss)))→Q (.str (Str.join UF (Ju (ss.map (Sh.by m)) ((p.map fun i=>hs.getD i dfl).map (En.by m))))) σ'):callW P12 (d+3) 44 [.ref n,.ref k,.int m] σ Q X:=by
 refine AM (fn:=Ix) rfl rfl ?_
 dsimp only [Ix]
 have hk0:σ.length≠0:=Nat.ne_of_gt h0
 wtm_at "mine"
 refine BH (fun i ρ' σ'=>(∃ a4 a5,ρ'=[.ref n,.ref k,.int m,.ref σ.length,a4,a5,.undef,.undef,.undef,.undef])∧Kp σ σ'∧σ'[σ.length]?=some (.list (((ss.take i).map fun s=>Str.join sp (s.by m).words).map .str))) (AC es) ⟨⟨_,_,rfl⟩,As AH,AG⟩ (fun i v ρ' σ' R' hv hI hR=>?_) fun ρ' σ' hI=>?_
 ·refine A7 hI fun zt1 kp ea=>Az zt1 fun a4 a5 ze2=>?_;subst ze2
  refine AF (List.mem_map_get hv) fun s hsi ze1=>?_;subst ze1
  have hi:=(List.getElem?_eq_some_iff.mp hsi).1
  have hsm:=hsm s (List.mem_of_getElem? hsi)
  dsimp only [Sh.v,hab]
  wtm_at "mine"
  refine PrimK.str hsm.1 ?_
  wtm_at "mine"
  refine PrimK.str hsm.2 ?_
  wtm_at "mine"
  refine JoinK.mk (ss:=[Str.ofString "shelf", CF (s.W*m),CF (s.H*m),Lo s.b]) AG (Hr (WG (by decide +kernel) (Nat.le_trans (A0 hsm.1) (by decide)) (Nat.le_trans (A0 hsm.2) (by decide)) (Nat.le_trans Gw (by decide))) (show 4≤10 by decide)) ?_
  refine CB (AC ea) hk0 (by rw [List.length_map,List.length_map];exact Nat.lt_of_le_of_lt (List.length_take_le ..) (Nat.lt_of_lt_of_le hi (Nat.le_trans hs9 (by decide)))) ?_
  have hlt:n≠σ.length:=Nat.ne_of_lt (List.getElem?_eq_some_iff.mp es).1
  refine hR _ _ (AI hlt.symm (AC (kp _ _ es))) ⟨⟨_,_,rfl⟩,fun x o h=>AI (Nat.ne_of_gt (List.getElem?_eq_some_iff.mp h).1) (AC (kp x o h)),?_⟩
  rw [AZ (AC ea),BN hsi,List.map_append,List.map_append]
  rfl
 ·refine A7 hI fun zt1 kp ea=>Az zt1 fun a4 a5 ze2=>?_;subst ze2
  rw [List.length_map,List.take_length] at ea
  have hlt:∀ {x o},σ[x]?=some o→x≠σ.length:=fun h=>Nat.ne_of_lt (List.getElem?_eq_some_iff.mp h).1
  refine Ea (kp _ _ es) (kp _ _ ek) hb E.num fun p aN σ₁ p₁ hp ho eN hN=>?_
  have hpm:=DE hp
  have hN:aN≠σ.length:=Nat.ne_of_gt (Nat.lt_of_lt_of_le (List.getElem?_eq_some_iff.mp ea).1 hN)
  have q:=q p
  generalize (p.map fun i=>hs.getD i dfl)=ts at *
  have hmem:∀ {e},e∈ts→e∈hs:=fun h=>hpm.mem_iff.mp h
  refine BH (fun i ρ' σ''=>(∃ a5 a6 a7 a8,ρ'=[.ref n,.ref k,.int m,.ref σ.length,a4,a5,a6,a7,a8,.undef])∧KpB σ.length σ₁ σ''∧σ''[σ.length]?=some (.list (((ss.map fun s=>Str.join sp (s.by m).words)++(ts.take i).map fun e=>Str.join sp (e.by m).words).map .str))) eN ⟨⟨_,_,_,_,rfl⟩,fun _ _ _ h=>h,by rw [AN p₁ ea];exact congrArg (fun l=>some (O.list (List.map V.str l))) (List.append_nil _).symm⟩ (fun i v ρ' σ'' R' hv hI hR=>?_) fun ρ' σ'' hI=>?_
  ·refine A7 hI fun zt1 kp₂ ea₂=>Mk zt1 fun a5 a6 a7 a8 ze2=>?_;subst ze2
   refine AF (List.mem_map_get hv) fun e hei ze1=>?_;subst ze1
   have he:=hmem (List.mem_of_getElem? hei)
   have ek₂:=kp₂ _ _ (hlt ek) (AN p₁ (kp _ _ ek))
   have hw:=hw e he
   refine Bz (fun y:En=>decide (y.name=e.name)) ek₂ (Nat.le_trans hb (by decide)) (fun y hy K h1 h2=>?_) ?_
   ·dsimp only [En.one]
    wtm_at "mine"
    refine DA (E.str y hy) (E.str e he) (fun h=>?_) fun h=>?_
    ·exact h1 (decide_eq_true h)
    ·exact h2 (decide_eq_false h)
   rw [Go E.nodup he]
   refine E4 (v:=e.one) AG rfl rfl ?_
   dsimp only [En.one]
   wtm_at "mine"
   refine Km (e:=e) hm ?_
   dsimp only [En.pl,En.by]
   wtm_at "mine"
   refine PrimK.str hw.w ?_
   wtm_at "mine"
   refine PrimK.str hw.h ?_
   wtm_at "mine"
   refine Sk (t:=e.t) AG ?_
   wtm_at "mine"
   refine PrimK.str hw.n ?_
   wtm_at "mine"
   refine PrimK.str hw.u ?_
   wtm_at "mine"
   refine PrimK.str hw.l ?_
   refine BinK.addL (AC AG) AG (Nat.le_of_ble_eq_true rfl) ?_
   refine FS AG ?_
   wtm_at "mine"
   refine Sk (t:=e.r) AG ?_
   refine CB (AC AG) (by rw [List.length_append];exact Nat.succ_ne_zero _) (show 8<1000000 by decide) ?_
   have rl:∀ {x:Nat} {o:O},σ''[x]?=some o→∀ τ:AD,σ''<+:τ→∀ {j:Nat} {o':O},σ''.length≤j→(τ.set j o')[x]?=some o:=fun h τ pt j o' hj=>AI (Nat.ne_of_gt (Nat.lt_of_lt_of_le (List.getElem?_eq_some_iff.mp h).1 hj)) (AN pt h)
   have h9:∀ x∈(e.by m).words,x.length≤100:=by
    have w1:=A0 hw.w
    have w2:=A0 hw.h
    have w3:=A0 hw.n
    have w4:=A0 hw.u
    have w5:=A0 hw.l
    have w6:=Gn (t:=e.t)
    have w7:=HF (t:=e.r)
    have w8:=hw.name
    have w9:(Str.ofString "box").length≤100:=by decide +kernel
    intro x hx
    unfold En.words at hx
    simp only [List.mem_cons,List.not_mem_nil,or_false] at hx
    rcases hx with rfl | rfl | rfl | rfl | rfl | rfl | rfl | rfl | rfl <;> first | assumption | exact Nat.le_trans (by assumption) (by decide)
   refine FS (rl ea₂ _ (Lp.trans AH) Ps.length_le) ?_
   refine JoinK.mk (ss:=(e.by m).words) (AZ (AC AG)) (Hr h9 (show 9≤10 by decide)) ?_
   refine CB (rl ea₂ _ (Lp.trans AH) Ps.length_le) hk0 ?_ ?_
   ·rw [List.length_map,List.length_append,List.length_map,List.length_map]
    have h2:(ts.take i).length≤60:=Nat.le_trans (List.length_take_le' ..) (by rw [hpm.length_eq];exact hb)
    exact Nat.lt_of_le_of_lt (Nat.add_le_add hs9 h2) (by decide)
   refine hR _ _ (AI hN.symm (rl (kp₂ _ _ hN eN) _ (Lp.trans AH) Ps.length_le)) ⟨⟨_,_,_,_,rfl⟩,fun x o hx h=>AI hx.symm (rl (kp₂ x o hx h) _ (Lp.trans AH) Ps.length_le),?_⟩
   rw [AZ (rl ea₂ _ (Lp.trans AH) Ps.length_le),BN hei,List.map_append (l₁:=ts.take i),← List.append_assoc,List.map_append (l₂:=List.map _ [e])]
   rfl
  ·refine A7 hI fun zt1 kp₂ ea₂=>Mk zt1 fun a5 a6 a7 a8 ze2=>?_;subst ze2
   rw [List.length_map,List.take_length] at ea₂
   have hlen:((ss.map fun s=>Str.join sp (s.by m).words)++ts.map fun e=>Str.join sp (e.by m).words).length≤100:=by
    rw [List.length_append,List.length_map,List.length_map,hpm.length_eq]
    exact Nat.le_trans (Nat.add_le_add hs9 hb) (by decide)
   have hle:∀ x∈(ss.map fun s=>Str.join sp (s.by m).words)++ts.map fun e=>Str.join sp (e.by m).words,(x++nl).length≤500:=fun x hx=>by
    refine (List.mem_append.mp hx).elim (fun hx=>AF (List.mem_map.mp hx) fun s hs ze=>?_) fun hx=>AF (List.mem_map.mp hx) fun e he ze=>?_
    ·subst ze;exact Ki (s:=s.by m) (hsm s hs)
    ·subst ze;exact Kh (hw e (hmem he))
   refine Dt (g:=V.str) (fun x=>x++nl) V.str ea₂ (Nat.le_trans hlen (by decide)) (fun x hx K hK=>?_) ?_
   ·refine BinK.addS (Nat.le_trans (Nat.le_of_eq (Str.length_append _ _).symm) (Nat.le_trans (hle x hx) (by decide))) ?_
    exact hK
   refine JoinK.mk AG (Hf (fun x hx=>?_) (by rw [List.length_map];exact hlen)) ?_
   ·refine AF (List.mem_map.mp hx) fun y hy ze=>?_;subst ze;exact hle y hy
   have eT:(((ss.map fun s=>Str.join sp (s.by m).words)++ts.map fun e=>Str.join sp (e.by m).words).map fun x=>x++nl)=Ju (ss.map (Sh.by m)) (ts.map (En.by m)):=by
    unfold Ju
    rw [List.map_append,List.map_map,List.map_map,List.map_map,List.map_map];rfl
   rw [eT]
   exact q _ (fun x o h=>AC (kp₂ x o (hlt h) (AN p₁ (kp x o h)))) hp ho
end
set_option maxHeartbeats 2000000
structure LD (z m:Int) (K:Nat) (ss:List Sh):Prop where
 hm:1≤m∧m≤1000000
 zm:∀ y,1≤y∧y≤z→Be (y*m)
 shm:∀ s∈ss,Be (s.W*m)∧Be (s.H*m)
 len:1≤ss.length∧ss.length≤9
 sh:∀ s∈ss,ShB 1000 1000 s
 hK:∀ s∈ss,shP s≤K
 big:EU 14 ss.length K*14≤9000000
structure LE (ns:List Str) (B P:Nat):Prop where
 ns:Names14 ns
 b0:B≠0
 p0:P≠0
 bp:B≠P
structure LT (z m:Int) (ss:List Sh) (ns:List Str) (r n a S B P:Nat) (hs:List En) (k:Nat) (σ:AD):Prop where
 rk:∃ epB epP,Rk 311 σ r (ss.map (Sh.by m)) (hs.map (En.by m)) S B P epB epP
 tab:TabAt 282 σ 179 39 Cp
 sh:σ[n]?=some (.list (ss.map Sh.v))
 nm:σ[a]?=some (.list (ns.map .str))
 held:σ[k]?=some (.list (hs.map En.one))
 E:Esok ss hs
 s:Snd ss hs
 mem:∀ e∈hs,e.name∈ns
 sz:∀ e∈hs,(1≤e.w∧e.w≤z)∧(1≤e.h∧e.h≤z)
section
variable {d:Nat} {σ σ':AD} {Q:AO} {X:AY} {z m:Int} {K:Nat} {hs:List En} {ss:List Sh} {ns:List Str} {n k a r S B P:Nat}
theorem LT.pre' (L:LT z m ss ns r n a S B P hs k σ) (p:σ<+:σ'):LT z m ss ns r n a S B P hs k σ':=
 ⟨Az L.rk fun x y h=>⟨x,y,h.keeps (As p)⟩,L.tab.pre p,AN p L.sh,AN p L.nm,AN p L.held,L.E,L.s,L.mem,L.sz⟩
theorem LT.hs14 (L:LT z m ss ns r n a S B P hs k σ) (c:LE ns B P):hs.length≤14:=by
 have:=EL L.E.nodup (l':=ns) fun x hx=>AF (List.mem_map.mp hx) fun e he ze=>ze▸L.mem e he
 rw [List.length_map,c.ns.len] at this;exact this
theorem LT.put2 (L:LT z m ss ns r n a S B P hs k σ) (c:LE ns B P) (hn:e.name∉hs.map (·.name)) (hm:e.name∈ns) (ok:Ok ss hs none e) (hz:(1≤e.w∧e.w≤z)∧(1≤e.h∧e.h≤z))
  (p:stood σ B P ep1 ep2 ((hs++[e]).map (En.by m))<+:σ₂) (ek:σ₂[k']?=some (.list ((hs++[e]).map En.one))):LT z m ss ns r n a S B P (hs++[e]) k' σ₂:=by
 refine Az L.rk fun epB epP R=>?_
 have kp:∀ (x:Nat) (o:O),σ[x]?=some o→(∀ ep kvs,o≠.dict ep kvs)→∀ es',(stood σ B P ep1 ep2 es')[x]?=some o:=fun x o h hd es'=>
  AI (fun z=>by rw [← z,R.pl] at h;cases h;exact hd _ _ rfl) (AI (fun z=>by rw [← z,R.bx] at h;cases h;exact hd _ _ rfl) h)
 have h14:=L.hs14 c
 refine ⟨⟨ep1,ep2,(R.stood c.bp ep1 ep2).keeps (As p)⟩,?_,AN p (kp _ _ L.sh nofun _),AN p (kp _ _ L.nm nofun _),ek,L.E.add hn (c.ns.good _ hm).str (AX ok.ins fun sh h=>(List.getElem?_eq_some_iff.mp h.at_).1) (Nat.lt_of_le_of_lt h14 (by decide)),L.s.add ok ⟨hz.1.1,hz.2.1⟩,fun y hy=>(List.mem_append.mp hy).elim (L.mem y) fun z=>List.mem_singleton.mp z▸hm,fun y hy=>(List.mem_append.mp hy).elim (L.sz y) fun z=>List.mem_singleton.mp z▸hz⟩
 cases L.tab with
 | tab h=>exact .tab (AN p (kp _ _ h nofun _))
 | row m h h'=>exact .row m (AN p (kp _ _ h nofun _)) (AN p (kp _ _ h' nofun _))
theorem LT.take (L:LT z m ss ns r n a S B P hs k σ) (bp:B≠P) (p:stood σ B P ep1 ep2 ((hs.filter fun y=>decide (y.name≠x)).map (En.by m))<+:σ₂) (e:σ₂[k']?=some (.list ((hs.filter fun y=>decide (y.name≠x)).map En.one))):LT z m ss ns r n a S B P (hs.filter fun y=>decide (y.name≠x)) k' σ₂:=by
 refine Az L.rk fun epB epP R=>?_
 have kp:∀ (x:Nat) (o:O),σ[x]?=some o→(∀ ep kvs,o≠.dict ep kvs)→∀ es',(stood σ B P ep1 ep2 es')[x]?=some o:=fun x o h hd es'=>
  AI (fun z=>by rw [← z,R.pl] at h;cases h;exact hd _ _ rfl) (AI (fun z=>by rw [← z,R.bx] at h;cases h;exact hd _ _ rfl) h)
 refine ⟨⟨ep1,ep2,(R.stood bp ep1 ep2).keeps (As p)⟩,?_,AN p (kp _ _ L.sh nofun _),AN p (kp _ _ L.nm nofun _),e,L.E.filter,L.s.filter,fun y hy=>L.mem y (List.mem_filter.mp hy).1,fun y hy=>L.sz y (List.mem_filter.mp hy).1⟩
 cases L.tab with
 | tab h=>exact .tab (AN p (kp _ _ h nofun _))
 | row m h h'=>exact .row m (AN p (kp _ _ h nofun _)) (AN p (kp _ _ h' nofun _))
theorem Ez (h:N≤N') (h':L≤L'):EU N L K*N≤EU N' L' K*N':=by
 unfold EU
 exact Nat.mul_le_mul (Nat.add_le_add (Nat.mul_le_mul (Nat.mul_le_mul h (Nat.mul_le_mul_right K h')) (Nat.succ_le_succ h)) h) h
end
set_option maxHeartbeats 2000000
section
variable {d:Nat} {σ σ':AD} {Q:AO} {X:AY} {z m:Int} {K:Nat} {hs:List En} {ss:List Sh} {ns:List Str} {n k a r S B P epB epP:Nat} {e:En}
theorem PL {a u l:Int} {tr:Bool} (hm:1≤m∧m≤1000000) (q:Q (.tup [.int a,.int (u*m),.int (l*m),.bool tr]) σ):callW P12 (d+1) 29 [.tup [.int a,.int u,.int l,.bool tr],.int m] σ Q X:=by
 refine AM (fn:=Fp) rfl rfl ?_
 dsimp only [Fp]
 wtm_at "mine"
 exact q
theorem E3 (R:Rk C σ r shs es S B P epB epP):KpR B P σ (stood σ B P ep1 ep2 es'):=fun _ _ _ h2 h3 h=>AI (Ne.symm h3) (AI (Ne.symm h2) h)
theorem VD {ss:List Sh} {hs:List En} {b e:En} (hn:b.name∉hs.map (·.name)) (he:e=b.to e.n e.u e.l e.r) (F:FP (OnL b.w b.h b.t) 0 (ss.zip (AV ss.length hs (some b.name))) (some ((e.n:Int),e.u,e.l,e.r))):Ok ss hs none e:=by
 refine (Dj F).elim (fun h=>Sw h.1) fun h=>Ae h fun qq e1 ok _=>?_
 have e2:=Option.some.inj e1
 have:e=Bl ss b qq:=by
  rw [he,Int.ofNat.inj (congrArg (·.1) e2),show e.u=_ from congrArg (·.2.1) e2,show e.l=_ from congrArg (·.2.2.1) e2,show e.r=_ from congrArg (·.2.2.2) e2];rfl
 rw [← this] at ok
 exact ⟨ok.ins,fun x hx hxn _=>ok.clear x hx hxn (EH.mpr fun z=>hn (z▸List.mem_map.mpr ⟨x,hx,rfl⟩))⟩
theorem GA {x:Int} (hm:1≤m):x*m / m=x:=Int.mul_ediv_cancel _ (Int.ne_of_gt hm)
theorem RS (L : LT z m ss ns r n a S B P hs k σ) (c0 : LD z m K ss) (c : LE ns B P) (hx : e.name ∈ ns) (hz : (1 ≤ e.w ∧ e.w ≤ z) ∧ (1 ≤ e.h ∧ e.h ≤ z)) {pl : V} (hp : pl = .none ∨ ∃ (num u l : Int) (tr : Bool), pl = .tup [.int num, .int u, .int l, .bool tr])
    (q0 : ∀ σ', σ <+: σ' → Q .none σ') (q : ∀ e' σ' ep1 ep2, e' = e.to e'.n e'.u e'.l e'.r → e.name ∉ hs.map (·.name) → Ok ss hs none e' → σ <+: σ' → Q e'.pl (stood σ' B P ep1 ep2 ((hs ++ [e']).map (En.by m)))) :
    callW P12 (d + 7) 38 [.ref r, e.box, pl, .int m] σ Q X := by
  refine AM (fn := D4) rfl rfl ?_
  dsimp only [D4, En.box]
  have hm := c0.hm
  refine Az L.rk fun epB epP R => ?_
  have hg := c.ns.good _ hx
  have w1 : Be (e.w * m) := c0.zm _ hz.1
  have w2 : Be (e.h * m) := c0.zm _ hz.2
  have hsl : (ss.map (Sh.by m)).length ≤ 1000 := by rw [List.length_map]; exact Nat.le_trans c0.len.2 (by decide)
  have fin : ∀ e' σ' ep1 ep2, e' = e.to e'.n e'.u e'.l e'.r → e.name ∉ hs.map (·.name) → Ok ss hs none e' → σ <+: σ' → ∀ {ρ : List V}, ρ = [.ref r, .tup [.str e.name, .int e.w, .int e.h, .bool e.t], pl, .int m, .undef, .undef] → BP (D4.body.drop 1) (callW P12 (d + 6)) ρ (stood σ' B P ep1 ep2 ((hs ++ [e']).map (En.by m))) (FF Q X) := fun e' σ' ep1 ep2 he hn ok p ρ hρ => by
    subst hρ
    dsimp only [D4, List.drop]
    have R' := (R.keeps (As p)).stood (es' := (hs ++ [e']).map (En.by m)) c.bp ep1 ep2
    have en : e'.name = e.name := by rw [he]; rfl
    have hnd : (((hs ++ [e']).map (En.by m)).map (·.name)).Nodup := by
      rw [BV, List.map_append]
      refine List.nodup_append.mpr ⟨L.E.nodup, List.pairwise_singleton _ _, fun x hx y hy z => hn ?_⟩
      rw [← en, show e'.name = x from (List.mem_singleton.mp hy).symm.trans z.symm]; exact hx
    have := IE (d := d + 4) (e := e'.by m) (X := X) (Q := fun v σ'' => BP ((D4.body.drop 1).drop 1) (callW P12 (d + 6)) [.ref r, .tup [.str e.name, .int e.w, .int e.h, .bool e.t], pl, .int m, v, .undef] σ'' (FF Q X)) R' hnd (List.mem_map.mpr ⟨e', List.mem_append_right _ List.mem_cons_self, rfl⟩) (by
      dsimp only [D4, List.drop, En.pl, En.by]
      wtm_at "mine"
      refine (?_ : Q (.tup [.int e'.n, .int (e'.u * m / m), .int (e'.l * m / m), .bool e'.r]) _)
      rw [GA hm.1, GA hm.1]
      exact q e' σ' ep1 ep2 he hn ok p)
    rw [show (e'.by m).name = e.name from en] at this
    wtm_at "mine"
    exact this
  rcases hp with rfl | ⟨num, u, l, tr, rfl⟩
  · wtm_at "mine"
    refine VF R hg.low hg.len hsl L.E.by c.b0 c.p0 c.bp (fun _ _ _ hn e₁ σ' ep1 ep2 h1 h2 h3 h4 h5 p F => ?_) (fun h => absurd ⟨hg.good, w1, w2⟩ h) (fun _ _ _ hn σ' p => ?_) fun _ _ _ hn F σ' p => ?_
    · rw [BV] at hn
      refine AX (P9 (t := e.t) hz.1.1 hz.2.1 (ss.zip (AV ss.length hs (some e.name))) 0) fun dd G => ?_
      have G' := G
      rw [QR hn] at G'
      have hr := H3 hm.1 F G'
      cases dd with
      | none => exact Sw hr
      | some x =>
        refine Ae (Ig G) fun kk hk _ _ => ?_
        have hx' : x = ((kk : Int), x.2.1, x.2.2.1, x.2.2.2) := Prod.ext hk rfl
        have hr := Option.some.inj hr
        have e1 : e₁ = (e.to kk x.2.1 x.2.2.1 x.2.2.2).by m := congr (congr (congr (congr (congr (congr (congr (congrArg En.mk h1) h2) h3) h4) (Int.ofNat.inj ((congrArg (·.1) hr).trans hk))) (congrArg (·.2.1) hr)) (congrArg (·.2.2.1) hr)) (congrArg (·.2.2.2) hr)
        rw [e1]
        have := fin (e.to kk x.2.1 x.2.2.1 x.2.2.2) σ' ep1 ep2 rfl hn (VD hn rfl (hx' ▸ G)) p rfl
        rw [List.map_append] at this
        exact this
    · exact q0 _ p
    · exact q0 _ p
  · wtm_at "mine"
    refine PL hm ?_
    refine L6 R hg.low hg.len hsl L.E.by c.b0 c.p0 c.bp (fun _ _ _ hn kk σ' ep1 ep2 hk hc p => ?_) (fun h => absurd ⟨hg.good, w1, w2⟩ h) (fun _ _ _ hn σ' p => ?_) fun _ _ _ hn hc σ' p => ?_
    · rw [BV] at hn
      have hc' : CN ss hs none (e.to kk u l tr) := (PC (e := e.to kk u l tr) hm.1).mp hc
      have := fin (e.to kk u l tr) σ' ep1 ep2 rfl hn (Pv.mp hc') p rfl
      rw [List.map_append] at this
      exact this
    · exact q0 _ p
    · exact q0 _ p
end
set_option maxHeartbeats 2000000
section
variable {d:Nat} {σ σ':AD} {Q:AO} {X:AY} {z m:Int} {K:Nat} {hs:List En} {ss:List Sh} {ns:List Str} {n k a r S B P epB epP:Nat} {e:En}
theorem md3 (k:Int) (hk:0<k):1≤1+c % k∧1+c % k≤k:=⟨Int.le_add_of_nonneg_right (Int.emod_nonneg _ (Int.ne_of_gt hk)),Int.add_comm _ 1▸Int.add_one_le_of_lt (Int.emod_lt_of_pos _ hk)⟩
theorem KD (L:LT z m ss ns r n a S B P hs k σ) (c0:LD z m K ss) (c:LE ns B P) (hx:e.name∈ns) (hz:(1≤e.w∧e.w≤z)∧(1≤e.h∧e.h≤z)) (hp:pl=.none∨∃ (num u l:Int) (tr:Bool),pl=.tup [.int num,.int u,.int l,.bool tr]) (h0:∀ σ',σ<+:σ'→T .none σ') (h1:∀ e' σ',e'=e.to e'.n e'.u e'.l e'.r→(∀ k' σ₂,σ'<+:σ₂→σ₂[k']?=some (.list ((hs++[e']).map En.one))→LT z m ss ns r n a S B P (hs++[e']) k' σ₂)→KpR B P σ σ'→σ'[k]?=some (.list (hs.map En.one))→T e'.pl σ') :
  callW P12 (d+7) 38 [.ref r,e.box,pl,.int m] σ T X:=by
 refine Az L.rk fun epB epP R=>?_
 refine RS L c0 c hx hz hp h0 fun e' σ' ep1 ep2 he hn ok p=>?_
 have en:e'.name=e.name:=by rw [he];rfl
 have ez:e'.w=e.w∧e'.h=e.h:=by rw [he];exact ⟨rfl,rfl⟩
 have ne:=BF R L.tab L.held
 have kp:KpR B P σ (stood σ' B P ep1 ep2 ((hs++[e']).map (En.by m))):=(KpR.pre p).trans (E3 (R.keeps (As p)))
 exact h1 e' _ he (fun k' σ₂ p' ek=>(L.pre' p).put2 c (by rw [en];exact hn) (by rw [en];exact hx) ok (by rw [ez.1,ez.2];exact hz) p' ek) kp (kp _ _ ne.1 ne.2.1 ne.2.2 L.held)
theorem Td (hz:3≤z) (hmany:1≤many∧many≤9) (L:LT z m ss ns r n a S B P hs k σ) (c0:LD z m K ss) (c1:LE ns B P) (q:∀ hs' k' σ',LT z m ss ns r n a S B P hs' k' σ'→KpR B P σ σ'→Q (.ref k') σ') :
  callW P12 (d+8) 39 [.ref r,.ref k,.int c,.ref a,.int m,.int many] σ Q X:=by
 refine AM (fn:=Cy) rfl rfl ?_
 refine H5 6 (fun ρ' σ'=>σ<+:σ'∧∃ (w mo:Int) (c':Int) (e:En),e.name∈ns∧((1≤e.w∧e.w≤z)∧(1≤e.h∧e.h≤z))∧ρ'=[.ref r,.ref k,.int c',.ref a,.int m,.int many,.str e.name,e.box,.int w,.int mo,.undef,.undef,.undef]) (fun R' hR'=>?_) fun ρ' σ' hI=>?_
 ·dsimp only [Cy,List.take]
  wtm_at "mine"
  generalize (c*48271+11) % 2147483647=c'
  have hi:(c'*69621 % 2147483647 % 14).toNat<ns.length:=by rw [c1.ns.len];exact (Int.toNat_lt (Int.emod_nonneg _ (by decide))).mpr (Int.emod_lt_of_pos _ (by decide))
  have hix:=List.getElem?_eq_getElem hi
  have hx:=List.mem_of_getElem? hix
  generalize ns[(c'*69621 % 2147483647 % 14).toNat]=x at hix hx
  refine An (v:=.str x) L.nm (Int.emod_nonneg _ (by decide)) (by rw [List.getElem?_map,hix];rfl) ?_
  wtm_at "mine"
  have hgood:=c1.ns.good _ hx
  have hh6:hs.length≤1000000:=Nat.le_of_lt (Nat.lt_trans L.E.len (by decide))
  have I:∀ σ',σ<+:σ'→∀ w mo:Int,R' [.ref r,.ref k,.int c',.ref a,.int m,.int many,.str x,.tup [.str x,.int (1+c' / 8 % 3),.int (1+c' / 24 % 3),.bool (decide (c' / 72 % 2=1))],.int w,.int mo,.undef,.undef,.undef] σ':=fun σ' p w mo=>hR' _ _ ⟨p,w,mo,c',⟨x,1+c' / 8 % 3,1+c' / 24 % 3,decide (c' / 72 % 2=1),0,0,0,false⟩,hx,⟨⟨(md3 3 (by decide)).1,Int.le_trans (md3 3 (by decide)).2 hz⟩,(md3 3 (by decide)).1,Int.le_trans (md3 3 (by decide)).2 hz⟩,rfl⟩
  refine Aj (fun hw=>?_) fun hw=>?_
  ·refine Bz (fun y:En=>decide (y.name=x)) L.held hh6 (fun y hy K h1 h2=>?_) ?_
   ·dsimp only [En.one]
    wtm_at "mine"
    refine DA (L.E.str y hy) hgood.str (fun h=>?_) fun h=>?_
    ·exact h1 (decide_eq_true h)
    ·exact h2 (decide_eq_false h)
   refine GU (hs:=hs.filter fun y:En=>decide (y.name=x)) (AC AG) AG (fun y hy=>L.E.str y (List.mem_filter.mp hy).1) (fun hne=>?_) fun hne=>?_
   ·have hn:x∈hs.map (·.name):=Classical.byContradiction fun z=>hne (NR z)
    refine AF (List.mem_map.mp hn) fun y hy e1=>?_
    have L₁:=L.pre' (AH.trans (AH (σ:=σ++[.list ((hs.filter fun y:En=>decide (y.name=x)).map En.one)]) (τ:=[O.list []])))
    refine Az L₁.rk fun epB epP R=>?_
    subst e1
    wtm_at "mine"
    refine Hy (e:=y.by m) R (by rw [BV];exact L.E.nodup) (List.mem_map.mpr ⟨y,hy,rfl⟩) c1.b0 c1.p0 c1.bp fun ep1 ep2=>?_
    rw [show (y.by m).name=y.name from rfl,Hw]
    have kps:=E3 (ep1:=ep1) (ep2:=ep2) (es':=(hs.filter fun w=>decide (w.name≠y.name)).map (En.by m)) R
    have ne3:=BF R L₁.tab L₁.held
    have eh₂:=kps _ _ ne3.1 ne3.2.1 ne3.2.2 L₁.held
    have L₃:=fun σ₂ k' p e'=>L₁.take (x:=y.name) (ep1:=ep1) (ep2:=ep2) (k':=k') (σ₂:=σ₂) c1.bp p e'
    have kp₀:KpR B P σ _:=(KpR.pre (AH.trans (AH (σ:=σ++[.list ((hs.filter fun z:En=>decide (z.name=y.name)).map En.one)]) (τ:=[O.list []])))).trans kps
    generalize stood _ B P ep1 ep2 ((hs.filter fun w=>decide (w.name≠y.name)).map (En.by m))=σs at *
    refine Bz (fun w:En=>decide (w.name≠y.name)) eh₂ hh6 (fun w hw K h1 h2=>?_) ?_
    ·dsimp only [En.one]
     wtm_at "mine"
     refine HG (L.E.str w hw) hgood.str (fun h=>?_) fun h=>?_
     ·exact h1 (decide_eq_true h)
     ·exact h2 (decide_eq_false fun z=>z h)
    exact q _ _ _ (L₃ _ _ AH AG) (kp₀.trans (.pre AH))
   ·exact I _ (AH.trans AH) _ _
  ·exact I _ (List.prefix_refl _) _ _
 ·obtain ⟨p,w,mo,c',e,hx,hz',rfl⟩:=hI
  dsimp only [Cy,List.drop]
  have L₁:=L.pre' p
  have eb:e.box=.tup [.str e.name,.int e.w,.int e.h,.bool e.t]:=rfl
  have hh6:hs.length+1≤Ab:=Nat.le_trans (Nat.succ_le_succ (Nat.le_of_lt L.E.len)) (by decide)
  have go:∀ pl,(pl=.none∨∃ (num u l:Int) (tr:Bool),pl=.tup [.int num,.int u,.int l,.bool tr])→BP (Cy.body.drop 9) (callW P12 (d+7)) [.ref r,.ref k,.int c',.ref a,.int m,.int many,.str e.name,e.box,.int w,.int mo,pl,.undef,.undef] σ' (FF Q X):=fun pl hp=>by
   dsimp only [Cy,List.drop]
   have hd:dfK True pl:=by rcases hp with rfl | ⟨_,_,_,_,rfl⟩ <;> trivial
   have:=KD (d:=d) (X:=X) (T:=fun v σ''=>BP (Cy.body.drop 10) (callW P12 (d+7)) [.ref r,.ref k,.int c',.ref a,.int m,.int many,.str e.name,e.box,.int w,.int mo,pl,v,.undef] σ'' (FF Q X)) L₁ c0 c1 hx hz' hp (fun σ₂ p₂=>by
    dsimp only [Cy,List.drop]
    exact q hs k σ₂ (L₁.pre' p₂) (.pre (p.trans p₂))) (fun e' σ₂ he hL kp ek=>by
    dsimp only [Cy,List.drop,En.pl]
    rw [eb]
    wtm_at "mine"
    refine BinK.addL (AC ek) AG (by rw [List.length_map];exact hh6) ?_
    refine q (hs++[e']) _ _ (hL _ _ (AH.trans AH) ?_) ((KpR.pre p).trans (kp.trans (.pre (AH.trans AH))))
    rw [AG,List.map_append]
    rw [he];rfl)
   rcases hp with rfl | ⟨num,u,l,tr,rfl⟩
   ·exact this
   ·exact this
  wtm_at "mine"
  refine Aj (fun h1=>?_) fun h1=>?_
  ·wtm_at "mine"
   refine Ry ?_
   wtm_at "mine"
   refine Aj (fun h2=>?_) fun h2=>?_
   ·exact go _ (.inl rfl)
   ·exact go _ (.inr ⟨_,_,_,_,rfl⟩)
  ·refine Aj (fun h2=>?_) fun h2=>?_
   ·exact go _ (.inl rfl)
   ·exact go _ (.inr ⟨_,_,_,_,rfl⟩)
end
set_option maxHeartbeats 2000000
section
variable {d:Nat} {σ σ':AD} {Q:AO} {X:AY} {z m:Int} {K:Nat} {hs:List En} {ss:List Sh} {ns:List Str} {n k a r S B P epB epP:Nat} {e:En}
theorem Mv (hz:400≤z) (L:LT z 1 ss ns r n a S B P hs k σ) (c0:LD z 1 K ss) (c1:LE ns B P) (q:∀ hs' k' σ',LT z 1 ss ns r n a S B P hs' k' σ'→KpR B P σ σ'→Q (.ref k') σ') :
  callW P12 (d+8) 40 [.ref r,.ref k,.int c,.ref a,.ref n] σ Q X:=by
 refine AM (fn:=I5) rfl rfl ?_
 dsimp only [I5]
 have Lsh:=L.sh
 wtm_at "mine"
 generalize (c*48271+11) % 2147483647=c'
 generalize c'*69621 % 2147483647=mo
 generalize mo*16807 % 2147483647=la
 have hi:(c' % 14).toNat<ns.length:=by rw [c1.ns.len];exact (Int.toNat_lt (Int.emod_nonneg _ (by decide))).mpr (Int.emod_lt_of_pos _ (by decide))
 have hix:=List.getElem?_eq_getElem hi
 have hx:=List.mem_of_getElem? hix
 generalize ns[(c' % 14).toNat]=x at hix hx
 refine An (v:=.str x) L.nm (Int.emod_nonneg _ (by decide)) (by rw [List.getElem?_map,hix];rfl) ?_
 wtm_at "mine"
 have hlen:0<((ss.map Sh.v).length:Int):=by rw [List.length_map];exact Int.ofNat_lt.mpr c0.len.1
 refine KY hlen ?_
 have hnum:=Int.emod_nonneg (c' / 28) (Int.ne_of_gt hlen)
 have hnum2:=Int.emod_lt_of_pos (c' / 28) hlen
 rw [List.length_map] at hnum hnum2 ⊢
 generalize (c' / 28) % (ss.length:Int)=num at *
 have hs9:=(Int.toNat_lt hnum).mpr hnum2
 have hsh:=List.getElem?_eq_getElem hs9
 generalize ss[num.toNat]=sh at hsh
 have hv:(ss.map Sh.v)[num.toNat]?=some sh.v:=by rw [List.getElem?_map,hsh];rfl
 have hok:=c0.sh sh (List.mem_of_getElem? hsh)
 wtm_at "mine"
 refine An L.sh hnum hv ?_
 dsimp only [Sh.v]
 refine KY hok.h.1 ?_
 wtm_at "mine"
 refine An L.sh hnum hv ?_
 dsimp only [Sh.v]
 refine KY hok.w.1 ?_
 wtm_at "mine"
 have hgood:=c1.ns.good _ hx
 have hh6:hs.length≤1000000:=Nat.le_of_lt (Nat.lt_trans L.E.len (by decide))
 have hh7:hs.length+1≤Ab:=Nat.le_trans (Nat.succ_le_succ (Nat.le_of_lt L.E.len)) (by decide)
 refine Bz (fun y:En=>decide (y.name=x)) L.held hh6 (fun y hy K h1 h2=>?_) ?_
 ·dsimp only [En.one]
  wtm_at "mine"
  refine DA (L.E.str y hy) hgood.str (fun h=>?_) fun h=>?_
  ·exact h1 (decide_eq_true h)
  ·exact h2 (decide_eq_false h)
 refine GU (hs:=hs.filter fun y:En=>decide (y.name=x)) (AC AG) AG (fun y hy=>L.E.str y (List.mem_filter.mp hy).1) (fun hne=>?_) fun hne=>?_
 ·exact q _ _ _ (L.pre' (AH.trans AH)) (.pre (AH.trans AH))
 ·have L₁:=L.pre' (AH.trans (AH (σ:=σ++[.list ((hs.filter fun y:En=>decide (y.name=x)).map En.one)]) (τ:=[O.list []])))
  have kp₀:KpR B P σ _:=KpR.pre (AH.trans (AH (σ:=σ++[.list ((hs.filter fun y:En=>decide (y.name=x)).map En.one)]) (τ:=[O.list []])))
  generalize σ++[.list ((hs.filter fun y:En=>decide (y.name=x)).map En.one)]++[O.list []]=σ₁ at *
  have hz':(1≤1+mo % 400∧1+mo % 400≤z)∧(1≤1+la % 400∧1+la % 400≤z):=⟨⟨(md3 400 (by decide)).1,Int.le_trans (md3 400 (by decide)).2 hz⟩,(md3 400 (by decide)).1,Int.le_trans (md3 400 (by decide)).2 hz⟩
  refine KD (e:=⟨x,1+mo % 400,1+la % 400,decide (c' / 14 % 2=1),0,0,0,false⟩) L₁ c0 c1 hx hz' (.inr ⟨_,_,_,_,rfl⟩) (fun σ₂ p₂=>?_) fun e' σ₂ he hL kp ek=>?_
  ·exact q hs k σ₂ (L₁.pre' p₂) (kp₀.trans (.pre p₂))
  ·dsimp only [En.pl]
   wtm_at "mine"
   refine BinK.addL (AC ek) AG (by rw [List.length_map];exact hh7) ?_
   refine q (hs++[e']) _ _ (hL _ _ (AH.trans AH) ?_) (kp₀.trans (kp.trans (.pre (AH.trans AH))))
   rw [AG,List.map_append]
   rw [he];rfl
theorem LT.app (L:LT z m ss ns r n a S B P hs k σ) (c:LE ns B P) (hn:e.name∉hs.map (·.name)) (hm:e.name∈ns) (ok:Ok ss hs none e) (hz:(1≤e.w∧e.w≤z)∧(1≤e.h∧e.h≤z)) (kn:k≠n) (ka:k≠a) (kS:k≠S) :
  LT z m ss ns r n a S B P (hs++[e]) k ((stood σ B P ep1 ep2 ((hs++[e]).map (En.by m))).set k (.list ((hs++[e]).map En.one))):=by
 refine Az L.rk fun epB epP R=>?_
 have kp:∀ (x:Nat) (o:O),σ[x]?=some o→(∀ ep kvs,o≠.dict ep kvs)→∀ es',(stood σ B P ep1 ep2 es')[x]?=some o:=fun x o h hd es'=>
  AI (fun z=>by rw [← z,R.pl] at h;cases h;exact hd _ _ rfl) (AI (fun z=>by rw [← z,R.bx] at h;cases h;exact hd _ _ rfl) h)
 have eh:=kp _ _ L.held nofun ((hs++[e]).map (En.by m))
 have tb:TabAt 282 (stood σ B P ep1 ep2 ((hs++[e]).map (En.by m))) 179 39 Cp:=by
  cases L.tab with
  | tab h=>exact .tab (kp _ _ h nofun _)
  | row m h h'=>exact .row m (kp _ _ h nofun _) (kp _ _ h' nofun _)
 exact ⟨⟨ep1,ep2,(R.stood c.bp ep1 ep2).setO eh kS⟩,tb.set eh (fun _ _ _ _=>⟨nofun,nofun⟩) nofun,AI kn (kp _ _ L.sh nofun _),AI ka (kp _ _ L.nm nofun _),AZ eh,L.E.add hn (c.ns.good _ hm).str (AX ok.ins fun sh h=>(List.getElem?_eq_some_iff.mp h.at_).1) (Nat.lt_of_le_of_lt (L.hs14 c) (by decide)),L.s.add ok ⟨hz.1.1,hz.2.1⟩,fun y hy=>(List.mem_append.mp hy).elim (L.mem y) fun z=>List.mem_singleton.mp z▸hm,fun y hy=>(List.mem_append.mp hy).elim (L.sz y) fun z=>List.mem_singleton.mp z▸hz⟩
theorem FX (h:ss[e.n]?=some sh) (hr:e.r=false) (b:0≤e.u∧0≤e.l∧e.u+e.h≤sh.H∧e.l+e.w≤sh.W) (cl:∀ x∈hs,Av e.h e.w e.u e.l x.ot.low):CN ss hs none e:=by
 have eo:e.ot=⟨e.l,e.u,e.w,e.h⟩:=by unfold En.ot;rw [hr];rfl
 refine ⟨sh,h,fun z=>Sc (hr.symm.trans z),?_⟩
 rw [eo]
 refine ⟨b.1,b.2.1,b.2.2.1,b.2.2.2,fun o ho=>?_⟩
 refine AF (List.mem_map.mp ho) fun o' ho' ze=>?_;subst ze
 unfold Al at ho'
 refine AF (List.mem_map.mp ho') fun x hx ze=>?_;subst ze
 exact cl x (List.mem_filter.mp hx).1
abbrev Ol:List Sx:=[sIf (CD (BA (AA 1))) [AP (.var 7) (Ak [(AJ (AA 7) (AB 1)),(AJ (AA 7) (AB 0)),(AJ (AA 7) (AB 3)),(AJ (AA 7) (AB 2))])] [],AP (.var 8) (Ak [(AJ (AA 3) (AA 6)),(AJ (AA 7) (AB 0)),(AJ (AA 7) (AB 1)),(A3 false)]),AP (.var 9) (Ak [(AA 2),(AJ (AA 7) (AB 2)),(AJ (AA 7) (AB 3)),(A3 false)]),A5 (Ax 311 "put_at" 52 (AA 0) [(AJ (AA 8) (AB 0)),(AL .mul (AJ (AA 8) (AB 1)) (AA 4)),(AL .mul (AJ (AA 8) (AB 2)) (AA 4)),(A3 false),(AQ 29 [(AA 9),(AA 4)])]),A5 (Fa (AA 5) (AL .add (AA 8) (Ak [(AA 9)])))]
theorem Cc {low:Bool} {j:Nat} {w h u l:Int} (hb:if low then (w=e.w∧h=e.h∧u=e.u∧l=e.l) else (w=e.h∧h=e.w∧u=e.l∧l=e.u)) (hj:ns[j]?=some e.name) (hn:e.name∉hs.map (·.name)) (ht:e.t=false) (hr:e.r=false) (L:LT z m ss ns r n a S B P hs k σ) (c0:LD z m K ss) (c1:LE ns B P) (hz:(1≤e.w∧e.w≤z)∧(1≤e.h∧e.h≤z)) (can:CN ss hs none e) (k0:k≠0) (kn:k≠n) (ka:k≠a) (kS:k≠S)
  (q:∀ σ' b6 b7 b8 b9,LT z m ss ns r n a S B P (hs++[e]) k σ'→(∀ (x:Nat) (o:O),x≠1→x≠B→x≠P→x≠k→σ[x]?=some o→σ'[x]?=some o)→Pq .next [.ref r,.bool low,.int e.n,.ref a,.int m,.ref k,b6,b7,b8,b9,.undef] σ') :
  ET (callW P12 (d+7)) (.tup [6,7]) Ol (.tup [.int j,.tup [.int w,.int h,.int u,.int l]]) [.ref r,.bool low,.int e.n,.ref a,.int m,.ref k,a6,a7,a8,a9,.undef] σ Pq:=by
 have hg:=c1.ns.good _ (List.mem_of_getElem? hj)
 have hm:=c0.hm
 have go:BP (Ol.drop 1) (callW P12 (d+7)) [.ref r,.bool low,.int e.n,.ref a,.int m,.ref k,.int j,.tup [.int e.w,.int e.h,.int e.u,.int e.l],a8,a9,.undef] σ Pq:=by
  dsimp only [Ol,List.drop]
  refine An (v:=.str e.name) L.nm (Int.natCast_nonneg j) (by rw [Int.toNat_natCast,List.getElem?_map,hj];rfl) ?_
  refine Az L.rk fun epB epP R=>?_
  wtm_at "mine"
  refine PL hm ?_
  refine L6 (t:=false) (tr:=false) R hg.low hg.len (by rw [List.length_map];exact Nat.le_trans c0.len.2 (by decide)) L.E.by c1.b0 c1.p0 c1.bp (fun _ _ _ hn' kk σ' ep1 ep2 hk hc p=>?_) (fun h=>absurd ⟨hg.good,c0.zm _ hz.1,c0.zm _ hz.2⟩ h) (fun _ _ _ hn' σ' p=>absurd (by rw [BV] at hn';exact hn') hn) fun _ _ _ hn' hc σ' p=>?_
  ·have hke:kk=e.n:=(Int.ofNat.inj hk).symm
   subst hke
   have ee:(⟨e.name,e.w*m,e.h*m,false,e.n,e.u*m,e.l*m,false⟩:En)=e.by m:=by unfold En.by;rw [ht,hr]
   rw [ee,show hs.map (En.by m)++[e.by m]=(hs++[e]).map (En.by m) by rw [List.map_append];rfl]
   have L':=fun x=>(L.pre' p).app (ep1:=ep1) (ep2:=ep2) c1 hn (List.mem_of_getElem? hj) (Pv.mp can) hz kn ka x
   have R':=R.keeps (As p)
   have ne:=BF R L.tab L.held
   have kps:=E3 (ep1:=ep1) (ep2:=ep2) (es':=(hs++[e]).map (En.by m)) R'
   have eh:=kps _ _ ne.1 ne.2.1 ne.2.2 (AN p L.held)
   refine FS eh ?_
   wtm_at "mine"
   refine CB eh k0 (by rw [List.length_map];exact Nat.lt_trans L.E.len (by decide)) ?_
   have eo:(hs++[e]).map En.one=hs.map En.one++[V.tup [.str e.name,.int e.w,.int e.h,.bool false,.tup [.int e.n,.int e.u,.int e.l,.bool false]]]:=by
    rw [List.map_append];exact congrArg (fun x=>hs.map En.one++[x]) (by unfold En.one En.pl;rw [ht,hr])
   have t:=q _ (.int j) (.tup [.int e.w,.int e.h,.int e.u,.int e.l]) (.tup [.str e.name,.int e.w,.int e.h,.bool false]) (.tup [.int e.n,.int e.u,.int e.l,.bool false]) (L' kS) fun x o h1 h2 h3 h4 h=>AI h4.symm (kps x o h1 h2 h3 (AN p h))
   rw [eo] at t
   exact t
  ·refine absurd ?_ (hc e.n rfl)
   have:=(PC (e:=e) hm.1).mpr can
   have ee:(⟨e.name,e.w*m,e.h*m,false,e.n,e.u*m,e.l*m,false⟩:En)=e.by m:=by unfold En.by;rw [ht,hr]
   rw [ee];exact this
 cases low with
 | true=>
  obtain ⟨rfl,rfl,rfl,rfl⟩:=hb
  exact go
 | false=>
  obtain ⟨rfl,rfl,rfl,rfl⟩:=hb
  exact go
end
set_option maxHeartbeats 2000000
section
variable {d:Nat} {σ σ':AD} {Q:AO} {X:AY} {z m:Int} {K:Nat} {hs:List En} {ss:List Sh} {ns:List Str} {n k a r S B P epB epP:Nat} {e:En}
theorem Ao {a b:Int} (h:decide (a≤b)=true):a≤b:=of_decide_eq_true h
theorem LT.at {k':Nat} (L:LT z m ss ns r n a S B P hs k σ) (e:σ[k']?=some (.list (hs.map En.one))):LT z m ss ns r n a S B P hs k' σ:=⟨L.rk,L.tab,L.sh,L.nm,e,L.E,L.s,L.mem,L.sz⟩
theorem Q4 {low : Bool} {kk : Nat} {sh : Sh} (hz : 3 ≤ z) (hsh : ss[kk]? = some sh) (hl : if low then 5 ≤ sh.W ∧ 2 ≤ sh.H else 2 ≤ sh.W ∧ 5 ≤ sh.H) (L : LT z m ss ns r n a S B P [] k σ) (c0 : LD z m K ss) (c1 : LE ns B P) (q : ∀ hs' k' σ', LT z m ss ns r n a S B P hs' k' σ' → KpR B P σ σ' → Q (.ref k') σ') :
    callW P12 (d + 8) 41 [.ref r, .bool low, .int kk, .ref a, .int m] σ Q X := by
  refine AM (fn := JZ) rfl rfl ?_
  dsimp only [JZ]
  have hl' : ∀ i, i < 3 → ∃ x, ns[i]? = some x := fun i hi => ⟨_, List.getElem?_eq_getElem (by rw [c1.ns.len]; exact Nat.lt_trans hi (by decide))⟩
  obtain ⟨x0, h0⟩ := hl' 0 (by decide)
  obtain ⟨x1, h1⟩ := hl' 1 (by decide)
  obtain ⟨x2, h2⟩ := hl' 2 (by decide)
  have ne : ∀ {i j : Nat} {x y : Str}, ns[i]? = some x → ns[j]? = some y → i ≠ j → x ≠ y := fun {i j x y} hi hj hij e => hij ((List.getElem?_inj (List.getElem?_eq_some_iff.mp hi).1 c1.ns.nodup).mp (by rw [hi, hj, e]))
  have n01 := ne h0 h1 (by decide)
  have n02 := ne h0 h2 (by decide)
  have n12 := ne h1 h2 (by decide)
  refine Az L.rk fun epB epP R => ?_
  have hlt : ∀ {x o}, σ[x]? = some o → σ.length ≠ x := fun h => Nat.ne_of_gt (List.getElem?_eq_some_iff.mp h).1
  have k0 : σ.length ≠ 0 := Nat.ne_of_gt (Nat.zero_lt_of_lt (List.getElem?_eq_some_iff.mp R.sh).1)
  have kn := hlt L.sh
  have ka := hlt L.nm
  have kS := hlt R.sh
  have kB := hlt R.bx
  have kP := hlt R.pl
  have hr1 : 1 < σ.length := by
    cases L.tab with
    | tab e => exact (List.getElem?_eq_some_iff.mp e).1
    | row m e _ => exact (List.getElem?_eq_some_iff.mp e).1
  refine ⟨_, _, .enum AG, ?_⟩
  have L₀ := (L.at (k' := k) L.held).pre' (AH.trans (AH (σ := σ ++ [O.list []]) (τ := [O.list [.tup [.int 1, .int 1, .int 0, .int 0], .tup [.int 1, .int 2, .int 0, .int 2], .tup [.int 2, .int 1, .int 1, .int 0]]])))
  have L₀ := L₀.at (k' := σ.length) (AC AG)
  have el : (σ ++ [O.list []] ++ [O.list [.tup [.int 1, .int 1, .int 0, .int 0], .tup [.int 1, .int 2, .int 0, .int 2], .tup [.int 2, .int 1, .int 1, .int 0]]])[(σ ++ [O.list []]).length]? = some (.list [.tup [.int 1, .int 1, .int 0, .int 0], .tup [.int 1, .int 2, .int 0, .int 2], .tup [.int 2, .int 1, .int 1, .int 0]]) := AG
  have l1 : (σ ++ [O.list []]).length = σ.length + 1 := by rw [List.length_append]; rfl
  have lne : ∀ {x : Nat}, x < σ.length → (σ ++ [O.list []]).length ≠ x := fun h => by rw [l1]; exact Nat.ne_of_gt (Nat.lt_succ_of_lt h)
  have kp₀ : ∀ (x : Nat) (o : O), σ[x]? = some o → (σ ++ [O.list []] ++ [O.list [.tup [.int 1, .int 1, .int 0, .int 0], .tup [.int 1, .int 2, .int 0, .int 2], .tup [.int 2, .int 1, .int 1, .int 0]]])[x]? = some o := fun x o h => AC (AC h)
  generalize σ ++ [O.list []] ++ [O.list [.tup [.int 1, .int 1, .int 0, .int 0], .tup [.int 1, .int 2, .int 0, .int 2], .tup [.int 2, .int 1, .int 1, .int 0]]] = σ₁ at *
  have nb := lne (List.getElem?_eq_some_iff.mp R.bx).1
  have np := lne (List.getElem?_eq_some_iff.mp R.pl).1
  have n1 := lne hr1
  have nk : (σ ++ [O.list []]).length ≠ σ.length := by rw [l1]; exact Nat.succ_ne_self _
  have z1 : (1 ≤ (1 : Int) ∧ (1 : Int) ≤ z) := ⟨by decide, Int.le_trans (by decide) hz⟩
  have z2 : (1 ≤ (2 : Int) ∧ (2 : Int) ≤ z) := ⟨by decide, Int.le_trans (by decide) hz⟩
  have fin : ∀ hs' σ', LT z m ss ns r n a S B P hs' σ.length σ' → (∀ (x : Nat) (o : O), x ≠ 1 → x ≠ B → x ≠ P → x ≠ σ.length → σ₁[x]? = some o → σ'[x]? = some o) → Q (.ref σ.length) σ' := fun hs' σ' L' kp => q hs' _ σ' L' fun x o g1 g2 g3 h => kp x o g1 g2 g3 (hlt h).symm (kp₀ x o h)
  have nm1 : x1 ∉ ([⟨x0, 1, 1, false, kk, 0, 0, false⟩] : List En).map (·.name) := fun z => n01 (List.mem_singleton.mp z).symm
  cases low with
  | true =>
    refine Cc (j := 0) (e := ⟨x0, 1, 1, false, kk, 0, 0, false⟩) ⟨rfl, rfl, rfl, rfl⟩ h0 List.not_mem_nil rfl rfl L₀ c0 c1 ⟨z1, z1⟩ (FX hsh rfl ⟨by exact Ao rfl, by exact Ao rfl, Int.le_trans (by exact Ao rfl) hl.2, Int.le_trans (by exact Ao rfl) hl.1⟩ Bo) k0 kn ka kS fun σ₂ b6 b7 b8 b9 L₂ kp₂ => ⟨kp₂ _ _ n1 nb np nk el, ?_⟩
    refine Cc (j := 1) (e := ⟨x1, 1, 2, false, kk, 0, 2, false⟩) ⟨rfl, rfl, rfl, rfl⟩ h1 nm1 rfl rfl L₂ c0 c1 ⟨z1, z2⟩ (FX hsh rfl ⟨by exact Ao rfl, by exact Ao rfl, Int.le_trans (by exact Ao rfl) hl.2, Int.le_trans (by exact Ao rfl) hl.1⟩ fun x hx => by
      rw [List.mem_singleton.mp hx]; exact .inr (.inr (.inr (by exact Ao rfl)))) k0 kn ka kS fun σ₃ b6 b7 b8 b9 L₃ kp₃ => ⟨kp₃ _ _ n1 nb np nk (kp₂ _ _ n1 nb np nk el), ?_⟩
    refine Cc (j := 2) (e := ⟨x2, 2, 1, false, kk, 1, 0, false⟩) ⟨rfl, rfl, rfl, rfl⟩ h2 (fun z => (List.mem_cons.mp z).elim (fun e => n02 e.symm) fun z => n12 (List.mem_singleton.mp z).symm) rfl rfl L₃ c0 c1 ⟨z2, z1⟩ (FX hsh rfl ⟨by exact Ao rfl, by exact Ao rfl, Int.le_trans (by exact Ao rfl) hl.2, Int.le_trans (by exact Ao rfl) hl.1⟩ fun x hx => by
      refine (List.mem_cons.mp hx).elim (fun e => ?_) fun hx => ?_
      · rw [e]; exact .inr (.inl (by exact Ao rfl))
      · rw [List.mem_singleton.mp hx]; exact .inr (.inr (.inl (by exact Ao rfl)))) k0 kn ka kS fun σ₄ b6 b7 b8 b9 L₄ kp₄ => ⟨kp₄ _ _ n1 nb np nk (kp₃ _ _ n1 nb np nk (kp₂ _ _ n1 nb np nk el)), ?_⟩
    exact fin _ σ₄ L₄ fun x o g1 g2 g3 g4 h => kp₄ x o g1 g2 g3 g4 (kp₃ x o g1 g2 g3 g4 (kp₂ x o g1 g2 g3 g4 h))
  | false =>
    refine Cc (j := 0) (e := ⟨x0, 1, 1, false, kk, 0, 0, false⟩) ⟨rfl, rfl, rfl, rfl⟩ h0 List.not_mem_nil rfl rfl L₀ c0 c1 ⟨z1, z1⟩ (FX hsh rfl ⟨by exact Ao rfl, by exact Ao rfl, Int.le_trans (by exact Ao rfl) hl.2, Int.le_trans (by exact Ao rfl) hl.1⟩ Bo) k0 kn ka kS fun σ₂ b6 b7 b8 b9 L₂ kp₂ => ⟨kp₂ _ _ n1 nb np nk el, ?_⟩
    refine Cc (j := 1) (e := ⟨x1, 2, 1, false, kk, 2, 0, false⟩) ⟨rfl, rfl, rfl, rfl⟩ h1 nm1 rfl rfl L₂ c0 c1 ⟨z2, z1⟩ (FX hsh rfl ⟨by exact Ao rfl, by exact Ao rfl, Int.le_trans (by exact Ao rfl) hl.2, Int.le_trans (by exact Ao rfl) hl.1⟩ fun x hx => by
      rw [List.mem_singleton.mp hx]; exact .inr (.inl (by exact Ao rfl))) k0 kn ka kS fun σ₃ b6 b7 b8 b9 L₃ kp₃ => ⟨kp₃ _ _ n1 nb np nk (kp₂ _ _ n1 nb np nk el), ?_⟩
    refine Cc (j := 2) (e := ⟨x2, 1, 2, false, kk, 0, 1, false⟩) ⟨rfl, rfl, rfl, rfl⟩ h2 (fun z => (List.mem_cons.mp z).elim (fun e => n02 e.symm) fun z => n12 (List.mem_singleton.mp z).symm) rfl rfl L₃ c0 c1 ⟨z1, z2⟩ (FX hsh rfl ⟨by exact Ao rfl, by exact Ao rfl, Int.le_trans (by exact Ao rfl) hl.2, Int.le_trans (by exact Ao rfl) hl.1⟩ fun x hx => by
      refine (List.mem_cons.mp hx).elim (fun e => ?_) fun hx => ?_
      · rw [e]; exact .inr (.inr (.inr (by exact Ao rfl)))
      · rw [List.mem_singleton.mp hx]; exact .inl (by exact Ao rfl)) k0 kn ka kS fun σ₄ b6 b7 b8 b9 L₄ kp₄ => ⟨kp₄ _ _ n1 nb np nk (kp₃ _ _ n1 nb np nk (kp₂ _ _ n1 nb np nk el)), ?_⟩
    exact fin _ σ₄ L₄ fun x o g1 g2 g3 g4 h => kp₄ x o g1 g2 g3 g4 (kp₃ x o g1 g2 g3 g4 (kp₂ x o g1 g2 g3 g4 h))
end
set_option maxHeartbeats 2000000
section
variable {d:Nat} {σ σ':AD} {Q:AO} {X:AY} {z m:Int} {K:Nat} {hs hl:List En} {ss:List Sh} {ns:List Str} {n k a r S B P epB epP:Nat} {e:En}
inductive RI12 (σ₁:AD) (ss:List Sh) (m:Int) (far:Bool) (n mk:Nat) (hs hs₁ hsE:List En) (all rest:List (En × En)) (tot k0:Nat) (p:List Nat) (i:Nat):List V→AD→Prop
 | mk (hli hsi:List En) (mv:List (En × En)) (ai ki:Nat) (a6 a7 a8 a9 a10:V) (σ':AD):σ₁<+:σ'→hli.Perm hsi→Rd ss (p.drop i) hsi mv hs₁ rest hsE→all.drop ai=mv++rest→ai+mv.length=tot→σ'[ki]?=some (.list (hli.map En.one))→hsi.map (·.name)=hs.map (·.name)→Snd ss hsi→(ki=k0∨σ₁.length≤ki) →
  RI12 σ₁ ss m far n mk hs hs₁ hsE all rest tot k0 p i [.ref n,.ref ki,.ref mk,.int ai,.int m,.bool far,a6,a7,a8,a9,a10,.undef] σ'
theorem KT {α:Type} {l:List α} {i:Nat} {x:α} {r:List α} (h:l.drop i=x::r):l[i]?=some x:=by
 have:=List.getElem?_drop (xs:=l) (i:=i) (j:=0)
 rw [h,Nat.add_zero] at this
 exact this.symm
theorem ND {α:Type} {l:List α} {i:Nat} {x:α} {r:List α} (h:l.drop i=x::r):l.drop (i+1)=r:=by
 have h2:=Ct (KT h)
 rw [h] at h2
 exact (List.cons.inj h2).2.symm
abbrev Sv:List Sx:=[AP (.var 9) (AJ (AJ (AA 2) (AA 3)) (J6 (AB 1))),AP (.var 8) (Ak [(AJ (AA 9) (AB 0)),(AL .floordiv (AJ (AA 9) (AB 1)) (AA 4)),(AL .floordiv (AJ (AA 9) (AB 2)) (AA 4)),(AJ (AA 9) (AB 3))]),AP (.var 10) (Ak [(AA 6),(AQ 29 [(AJ (AA 7) (AB 4)),(AA 4)]),(AQ 29 [(AA 8),(AA 4)])]),sIf (tOr [(AT (AJ (AA 2) (AA 3)) [.NotEq] [(AA 10)]),(AT (AA 8) [.Eq] [(AJ (AA 7) (AB 4))]),(CD (BA (AQ 37 [(AJ (AJ (AA 2) (AA 3)) (AB 1))]))),(CD (BA (AQ 37 [(AA 9)])))]) [AU (Ak [A1,(AA 3)])] [],AP (.var 3) (AL .add (AA 3) (AB 1))]
theorem Gi {all:List (En × En)} {ai:Nat} {x:En × En} {Q:AO} {mk:Nat} (em:σ[mk]?=some (.list (all.map (mvV m)))) (h:all[ai]?=some x) (q:Q (.tup [.str x.1.name,(x.1.by m).pl,(x.2.by m).pl]) σ):SubK σ Q (.ref mk) (.int (ai:Int)):=
 An (v:=mvV m x) em (Int.natCast_nonneg ai) (by rw [Int.toNat_natCast,List.getElem?_map,h];rfl) q
theorem rdA {all:List (En × En)} {ai ki mk:Nat} {e e':En} {far:Bool} {a9 a10:V} {R:List V→AD→Prop} {Pq:Br} (em:σ[mk]?=some (.list (all.map (mvV m)))) (hx:all[ai]?=some (e,e')) (hm:1≤m∧m≤1000000) (hs:PyData.strOk e.name=true) (hne:e'≠e) (hto:e'=e.to e'.n e'.u e'.l e'.r)
  (q:R [.ref n,.ref ki,.ref mk,.int ((ai:Int)+1),.int m,.bool far,.str e.name,e.one,e'.pl,(e'.by m).pl,.tup [.str e.name,(e.by m).pl,(e'.by m).pl],.undef] σ) :
  BP Sv (callW P12 (d+3)) [.ref n,.ref ki,.ref mk,.int ai,.int m,.bool far,.str e.name,e.one,e.pl,a9,a10,.undef] σ (KV R Pq):=by
 have pe:∀ x:En,x.pl=.tup [.int x.n,.int x.u,.int x.l,.bool x.r]:=fun _=>rfl
 dsimp only [Sv]
 refine Gi em hx ?_
 refine SubK.tup (j:=2) (by decide) (.inr ⟨rfl,by decide⟩) rfl ?_
 dsimp only [En.pl,En.by,En.one]
 wtm_at "mine"
 refine Km (e:=e) hm ?_
 rw [GA hm.1,GA hm.1]
 refine Km (e:=e') hm ?_
 have hd:(PyData.tuple [.str e.name,(e.by m).plD,(e'.by m).plD]).canLay0=true:=by
  have h1:=IF (e:=e.by m)
  have h2:=IF (e:=e'.by m)
  show (PyData.strOk e.name&&((e.by m).plD.canLay0&&((e'.by m).plD.canLay0&&true)))=true
  rw [hs,h1,h2];rfl
 refine Gi em hx ?_
 refine JG (x:=.tuple [.str e.name,(e.by m).plD,(e'.by m).plD]) rfl rfl hd ?_
 refine Gj (r:=some ((e.n:Int),e.u,e.l,e.r)) (fun h=>?_) fun h=>?_
 ·refine absurd ?_ hne
  have h:=Option.some.inj h
  rw [hto,← Int.ofNat.inj (congrArg (·.1) h),← show e.u=e'.u from congrArg (·.2.1) h,← show e.l=e'.l from congrArg (·.2.2.1) h,← show e.r=e'.r from congrArg (·.2.2.2) h];rfl
 refine Gi em hx ?_
 refine Oz (e:=e.by m) ?_
 refine Oz (e:=e'.by m) ?_
 exact q
end
set_option maxHeartbeats 2000000
section
variable {d:Nat} {σ σ':AD} {Q:AO} {X:AY} {z m:Int} {K:Nat} {hs hl:List En} {ss:List Sh} {ns:List Str} {n k a r S B P epB epP:Nat} {e:En}
theorem rdB (es:σ[n]?=some (.list (ss.map Sh.v))) (ek:σ[ki]?=some (.list (hli.map En.one))) (c0:LD z m K ss) (F:FP (OnL e.w e.h e.t) 0 (ss.zip (AV ss.length hli (some e.name))) (some ((e'.n:Int),e'.u,e'.l,e'.r))) (hto:e'=e.to e'.n e'.u e'.l e'.r)
  (hh:hli.length<63) (hstr:∀ y∈hli,PyData.strOk y.name=true) (hx:PyData.strOk e.name=true) (hz:0<e.w∧0<e.h)
  (q:∀ k' σ' b7,σ<+:σ'→σ.length≤k'→σ'[k']?=some (.list (((hli.filter fun y=>decide (y.name≠e.name))++[e']).map En.one))→R [.ref n,.ref k',.ref mk,.int ai,.int m,.bool far,.str e.name,b7,e'.pl,a9,a10,.undef] σ') :
  BP [sIf (CD (BA (AQ 35 [(AA 0),(AA 1),(BW (AA 7) none (some (AB 4))),(AA 8),(AA 5)]))) [AU (Ak [A1,(AA 3)])] [],AP (.var 1) (AL .add (Au (AA 11) 11 .plain [(AA 1)] [(AT (AJ (AA 11) (AB 0)) [.NotEq] [(AA 6)])]) (Ap [(AL .add (BW (AA 7) none (some (AB 4))) (Ak [(AA 8)]))]))]
   (callW P12 (d+3)) [.ref n,.ref ki,.ref mk,.int ai,.int m,.bool far,.str e.name,e.one,e'.pl,a9,a10,.undef] σ (C9 R Pq):=by
 dsimp only [En.one]
 refine MA ?_
 refine RZ (e:=e) (r:=some ((e'.n:Int),e'.u,e'.l,e'.r)) F es ek c0.len.2 c0.sh hh hstr hx hz.1 hz.2 fun σ₁ p=>?_
 refine Bz (fun y:En=>decide (y.name≠e.name)) (AN p ek) (Nat.le_trans (Nat.le_of_lt hh) (by decide)) (fun y hy K h1 h2=>?_) ?_
 ·dsimp only [En.one]
  wtm_at "mine"
  refine HG (hstr y hy) hx (fun h=>?_) fun h=>?_
  ·exact h1 (decide_eq_true h)
  ·exact h2 (decide_eq_false fun z=>z h)
 refine MA ?_
 dsimp only [En.pl]
 wtm_at "mine"
 refine BinK.addL (AC AG) AG (by rw [List.length_map];exact Nat.le_trans (Nat.succ_le_succ (Nat.le_trans (List.length_filter_le ..) (Nat.le_of_lt hh))) (by decide)) ?_
 refine q _ _ _ (p.trans (AH.trans (AH.trans AH))) (p.trans (AH.trans AH)).length_le ?_
 rw [AG,List.map_append]
 rw [hto];rfl
theorem RO {all:List (En × En)} {at0 mk:Nat} {far:Bool} {hsE:List En} (es:σ[n]?=some (.list (ss.map Sh.v))) (ek:σ[k]?=some (.list (hl.map En.one))) (em:σ[mk]?=some (.list (all.map (mvV m)))) (hh:hl.Perm hs) (E:Esok ss hs) (s:Snd ss hs) (c0:LD z m K ss) (h14:hs.length≤14) (hat:at0≤all.length) (nx:Nx ss hs (all.drop at0) hsE)
  (q:∀ (hl' hs₁:List En) (at' k':Nat) σ',σ<+:σ'→hl'.Perm hs₁→hs₁.map (·.name)=hs.map (·.name)→Snd ss hs₁→((at'=at0∧at0=all.length∧hs₁=hsE)∨(at0<at'∧at'≤all.length∧RF ss hs₁ (all.drop at') hsE))→(k'=k∨σ.length≤k')→σ'[k']?=some (.list (hl'.map En.one))→Q (.tup [.ref k',.int (at':Nat)]) σ') :
  callW P12 (d+4) 43 [.ref n,.ref k,.ref mk,.int at0,.int m,.bool far] σ Q X:=by
 refine AM (fn:=IP) rfl rfl ?_
 dsimp only [IP]
 have hlen:hl.length≤60:=by rw [hh.length_eq];exact Nat.le_trans h14 (by decide)
 refine Ea es ek hlen (fun e he=>E.num e (hh.mem_iff.mp he)) fun pl aN σ₁ p₁ hpl hol eN _=>?_
 cases nx with
 | mk p mv hs₁ rest hp ho hall rd fin=>
 rw [Gv s hh hp ho hpl hol] at eN
 have hpi:∀ i∈p,i<hs.length:=fun i hi=>List.mem_range.mp (hp.mem_iff.mp hi)
 refine BH (RI12 σ₁ ss m far n mk hs hs₁ hsE all rest (at0+mv.length) k p) eN (.mk hl hs mv at0 k _ _ _ _ _ σ₁ (List.prefix_refl _) hh rd hall rfl (AN p₁ ek) rfl s (.inl rfl)) (fun i v ρ' σ' R' hv hI hR=>?_) fun ρ' σ' hI=>?_
 ·cases hI with
  | mk hli hsi mvi ai ki a6 a7 a8 a9 a10 σ' pi hhi rdi halli htot eki hnm si hki=>
  refine AF (List.mem_map_get hv) fun e0 he0 ze0=>?_
  subst ze0
  refine AF (List.mem_map_get he0) fun j hj ze0=>?_
  subst ze0
  have hjl:=hpi j (List.mem_of_getElem? hj)
  rw [Ct hj] at rdi
  have hnd:(hsi.map (·.name)).Nodup:=hnm▸E.nodup
  have hndl:(hli.map (·.name)).Nodup:=(hhi.map _).nodup_iff.mpr hnd
  have hlh:hsi.length=hs.length:=by have:=congrArg List.length hnm;rw [List.length_map,List.length_map] at this;exact this
  have h63:hli.length<63:=by rw [hhi.length_eq,hlh];exact E.len
  have hstr:∀ y∈hli,PyData.strOk y.name=true:=fun y hy=>by
   have:y.name∈hs.map (·.name):=hnm▸List.mem_map.mpr ⟨y,hhi.mem_iff.mp hy,rfl⟩
   exact AF (List.mem_map.mp this) fun w hw e1=>e1▸E.str w hw
  have nameOf:∀ {e:En},hsi[j]?=some e→(hs.getD j dfl).name=e.name:=fun {e} h=>by
   have h1:(hsi.map (·.name))[j]?=some e.name:=by rw [List.getElem?_map,h];rfl
   rw [hnm,List.getElem?_map,List.getElem?_eq_getElem hjl] at h1
   rw [GK (List.getElem?_eq_getElem hjl)]
   exact Option.some.inj h1
  have es':=AN (p₁.trans pi) es
  have em':=AN (p₁.trans pi) em
  have turn:=rdi.rnd.turn
  have pick:∀ {e:En} {T:AO},hsi[j]?=some e→(∀ τ,σ'<+:τ→T e.one τ)→AJ (Au (AA 11) 11 .plain [(AA 1)] [(AT (AJ (AA 11) (AB 0)) [.Eq] [(AA 6)])]) (AB 0) (callW P12 (d+3)) [.ref n,.ref ki,.ref mk,.int ai,.int m,.bool far,.str e.name,a7,a8,a9,a10,.undef] σ' T (fun c σ₁=>C9 R' (KV (fun ρ₁ σ₁=>AU (Ak [(AA 1),(AA 3)]) (callW P12 (d+3)) ρ₁ σ₁ (KV (fun ρ₁ σ₁=>FF Q X Fl.next ρ₁ σ₁) (FF Q X))) (FF Q X)) (.exc c) [.ref n,.ref ki,.ref mk,.int ai,.int m,.bool far,.str e.name,a7,a8,a9,a10,.undef] σ₁):=fun {e T} he hT=>by
   have hel:=hhi.mem_iff.mpr (List.mem_of_getElem? he)
   refine Bz (fun y:En=>decide (y.name=e.name)) eki (Nat.le_trans (Nat.le_of_lt h63) (by decide)) (fun y hy K h1 h2=>?_) ?_
   ·dsimp only [En.one]
    wtm_at "mine"
    refine DA (hstr y hy) (hstr e hel) (fun h=>?_) fun h=>?_
    ·exact h1 (decide_eq_true h)
    ·exact h2 (decide_eq_false h)
   rw [Go hndl hel]
   exact E4 (v:=e.one) AG rfl rfl (hT _ AH)
  cases turn with
  | stay e he fo rn=>
   rw [nameOf he]
   have hel:=hhi.mem_iff.mpr (List.mem_of_getElem? he)
   have rd':Rd ss (p.drop (i+1)) hsi mvi hs₁ rest hsE:=⟨rn,rdi.rest⟩
   refine pick he fun τ pτ=>?_
   have ekτ:=AN pτ eki
   have esτ:=AN pτ es'
   have emτ:=AN pτ em'
   have F:=MD (fun x=>hhi.mem_iff.symm) fo.fp
   have fin':∀ {Pq:Br},BP [sIf (CD (BA (AQ 35 [(AA 0),(AA 1),(BW (AA 7) none (some (AB 4))),(AA 8),(AA 5)]))) [AU (Ak [A1,(AA 3)])] [],AP (.var 1) (AL .add (Au (AA 11) 11 .plain [(AA 1)] [(AT (AJ (AA 11) (AB 0)) [.NotEq] [(AA 6)])]) (Ap [(AL .add (BW (AA 7) none (some (AB 4))) (Ak [(AA 8)]))]))]
     (callW P12 (d+3)) [.ref n,.ref ki,.ref mk,.int ai,.int m,.bool far,.str e.name,e.one,e.pl,a9,a10,.undef] τ (C9 R' Pq):=fun {Pq}=>
    rdB esτ ekτ c0 F fo.to h63 hstr (hstr e hel) (si.sz e (List.mem_of_getElem? he)) fun k' σ₃ b7 p₃ hk₃ ek₃=>
     hR _ _ (AN (pi.trans (pτ.trans p₃)) eN) (.mk _ hsi mvi ai k' _ _ _ _ _ σ₃ (pi.trans (pτ.trans p₃)) (by have:=Hg hhi hnd he e;rw [Dv he] at this;exact this) rd' halli htot ek₃ hnm si (.inr (Nat.le_trans (pi.trans pτ).length_le hk₃)))
   dsimp only [En.one]
   wtm_at "mine"
   rw [List.length_map]
   refine Aj (fun hlt=>?_) fun hlt=>?_
   ·have hlt:ai<all.length:=Int.ofNat_lt.mp hlt
    have hx:=List.getElem?_eq_getElem hlt
    generalize all[ai]=x at hx
    have hd:mvi++rest=x::all.drop (ai+1):=halli.symm.trans (Ct hx)
    have mo:=rd'.head hd
    refine Gi emτ hx ?_
    refine PrimK.isT ?_
    refine Gi emτ hx ?_
    refine DA (hstr x.1 (hhi.mem_iff.mpr mo.mem)) (hstr e hel) (fun h=>?_) fun h=>?_
    ·exact absurd h (rd'.other hnd (List.mem_of_getElem? he) fo hd)
    ·exact fin'
   ·exact fin'
  | move e e' mv' he fo hne hmv rn=>
   rw [nameOf he]
   have hel:=hhi.mem_iff.mpr (List.mem_of_getElem? he)
   rw [hmv] at halli htot
   have hx:all[ai]?=some (e,e'):=KT halli
   have hlt:ai<all.length:=(List.getElem?_eq_some_iff.mp hx).1
   refine pick he fun τ pτ=>?_
   have ekτ:=AN pτ eki
   have esτ:=AN pτ es'
   have emτ:=AN pτ em'
   have F:=MD (fun x=>hhi.mem_iff.symm) fo.fp
   have hee:e'≠e:=fun z=>hne (by rw [z])
   have rd':Rd ss (p.drop (i+1)) (hsi.set j e') mv' hs₁ rest hsE:=⟨rn,rdi.rest⟩
   have s':Snd ss (hsi.set j e'):=(Rnd.steps (.move he fo hne .nil:Rnd ss [j] hsi [(e,e')] (hsi.set j e')) si hnd).2.1
   dsimp only [En.one]
   wtm_at "mine"
   rw [List.length_map]
   refine Aj (fun _=>?_) fun h=>absurd (Int.ofNat_lt.mpr hlt) h
   refine Gi emτ hx ?_
   refine PrimK.isT ?_
   refine Gi emτ hx ?_
   refine DA (hstr e hel) (hstr e hel) (fun _=>?_) fun h=>absurd rfl h
   refine rdA (e:=e) (e':=e') emτ hx c0.hm (hstr e hel) hee fo.to ?_
   refine rdB (ai:=ai+1) (e:=e) (e':=e') esτ ekτ c0 F fo.to h63 hstr (hstr e hel) (si.sz e (List.mem_of_getElem? he)) fun k' σ₃ b7 p₃ hk₃ ek₃=>?_
   exact hR _ _ (AN (pi.trans (pτ.trans p₃)) eN) (.mk _ (hsi.set j e') mv' (ai+1) k' _ _ _ _ _ σ₃ (pi.trans (pτ.trans p₃)) (Hg hhi hnd he e') rd' (ND halli) (by rw [← htot,List.length_cons,Nat.add_assoc,Nat.add_comm 1]) ek₃ ((Fe he fo.dm.2).trans hnm) s' (.inr (Nat.le_trans (pi.trans pτ).length_le hk₃)))
 ·cases hI with
  | mk hli hsi mvi ai ki a6 a7 a8 a9 a10 σ' pi hhi rdi halli htot eki hnm si hki=>
  have hpd:p.drop ((p.map fun i=>hs.getD i dfl).map fun e=>V.str e.name).length=[]:=by rw [List.length_map,List.length_map,List.drop_length]
  rw [hpd] at rdi
  have rn:=rdi.rnd
  cases rn with
  | nil=>
   have htot:ai=at0+mv.length:=htot
   have halli:all.drop ai=rest:=halli
   refine q hli _ ai ki σ' (p₁.trans pi) hhi hnm si ?_ (hki.imp id fun h=>Nat.le_trans p₁.length_le h) eki
   refine fin.elim (fun f=>.inl ?_) fun f=>.inr ?_
   ·refine GS f fun f1 f2 f3 f4=>?_
    subst f1
    have e1:ai=at0:=htot
    rw [f2,e1] at halli
    exact ⟨e1,Nat.le_antisymm hat (List.drop_eq_nil_iff.mp halli),by rw [f3,f4]⟩
   ·obtain ⟨f1,f2⟩:=f
    have hpos:0<mv.length:=List.length_pos_iff.mpr f1
    refine ⟨by rw [htot];exact Nat.lt_add_of_pos_right hpos,?_,by rw [halli];exact f2⟩
    have h1:=congrArg List.length hall
    rw [List.length_drop,List.length_append] at h1
    rw [htot];exact Nat.add_le_of_le_sub' hat (h1▸Nat.le_add_right _ _)
end
set_option maxHeartbeats 2000000
section
theorem DP (hx:PyData.strOk x=true) (hy:PyData.strOk y=true):PyData.strOk (x++y)=true:=by
 unfold PyData.strOk at *
 rw [← Array.all_toList] at *
 rw [D6,List.all_append,hx,hy];rfl
theorem C0 (s:String):PyData.strOk (Str.ofString s)=true:=by
 unfold PyData.strOk
 rw [← Array.all_toList,PyProof.Rows.signs_ofString,List.all_eq_true]
 intro c hc
 refine AF (List.mem_map.mp hc) fun ch _ ze=>?_;subst ze
 refine decide_eq_true ?_
 exact ch.valid.elim (fun h=>Nat.lt_trans h (by decide)) fun h=>h.2
theorem E7 (hs:PyData.strOk sep=true):∀ {l:List Str},(∀ x∈l,PyData.strOk x=true)→PyData.strOk (Str.join sep l)=true
 | [],_=>(by decide +kernel:PyData.strOk Str.empty=true)
 | [x],h=>h x List.mem_cons_self
 | x::y::r,h=>DP (DP (h x List.mem_cons_self) hs) (E7 hs fun z hz=>h z (List.mem_cons_of_mem _ hz))
theorem RY {e:En} (h:PyData.strOk e.name=true):PyData.strOk (C7 e.words)=true:=by
 unfold C7
 refine DP (E7 (C0 _) fun x hx=>?_) (C0 _)
 unfold En.words at hx
 have h1:PyData.strOk (LY e.t)=true:=by cases e.t <;> exact C0 _
 have h2:PyData.strOk (Ks e.r)=true:=by cases e.r <;> exact C0 _
 simp only [List.mem_cons,List.not_mem_nil,or_false] at hx
 rcases hx with rfl | rfl | rfl | rfl | rfl | rfl | rfl | rfl | rfl <;> first | assumption | exact C0 _
theorem QW {s:Sh}:PyData.strOk (C7 s.words)=true:=by
 unfold C7
 refine DP (E7 (C0 _) fun x hx=>?_) (C0 _)
 unfold Sh.words at hx
 have h1:PyData.strOk (Lo s.b)=true:=by cases s.b <;> exact C0 _
 simp only [List.mem_cons,List.not_mem_nil,or_false] at hx
 rcases hx with rfl | rfl | rfl | rfl <;> first | assumption | exact C0 _
theorem PO {shs:List Sh} {ts:List En} (h:∀ e∈ts,PyData.strOk e.name=true):PyData.strOk (Str.join UF (Ju shs ts))=true:=
 E7 (C0 _) fun x hx=>(List.mem_append.mp hx).elim (fun hx=>AF (List.mem_map.mp hx) fun s _ ze=>ze▸QW) fun hx=>AF (List.mem_map.mp hx) fun e he ze=>ze▸RY (h e he)
end
section
variable {d:Nat} {σ σ':AD} {Q:AO} {X:AY} {z m:Int} {K:Nat} {hs hl:List En} {ss:List Sh} {ns:List Str} {n k a r S B P epB epP:Nat} {e:En}
theorem P6 {p:List Nat} (hp:p.Perm (List.range hs.length)):(p.map fun i=>V.str (((hs.map (En.by m)).map (·.name)).getD i ""))=(p.map fun i=>hs.getD i dfl).map fun e=>V.str e.name:=by
 rw [List.map_map (l:=p),BV]
 refine List.map_congr_left fun i hi=>?_
 have hi':i<hs.length:=List.mem_range.mp (hp.mem_iff.mp hi)
 rw [Function.comp_apply,List.getD_eq_getElem?_getD,List.getElem?_map,List.getElem?_eq_getElem hi',List.getD_eq_getElem?_getD,List.getElem?_eq_getElem hi'];rfl
theorem UY {p:List Nat} (hp:p.Perm (List.range hs.length)):(p.map fun i=>(hs.map (En.by m)).getD i dfl)=(p.map fun i=>hs.getD i dfl).map (En.by m):=by
 rw [List.map_map]
 refine List.map_congr_left fun i hi=>?_
 have hi':i<hs.length:=List.mem_range.mp (hp.mem_iff.mp hi)
 rw [Function.comp_apply,List.getD_eq_getElem?_getD,List.getElem?_map,List.getElem?_eq_getElem hi',List.getD_eq_getElem?_getD,List.getElem?_eq_getElem hi'];rfl
theorem Te {ts:List En} {a b:Nat} {K:Bool→Prop} (ea:σ[a]?=some (.list (ts.map fun e=>V.str e.name))) (eb:σ[b]?=some (.list (ts.map fun e=>V.str e.name))) (hstr:∀ e∈ts,PyData.strOk e.name=true) (q:K false):CmpK σ K .NotEq (.ref a) (.ref b):=
 JG (x:=.list (ts.map fun e=>.str e.name)) (JL (m:=5) ea fun _ _=>rfl) (JL (m:=5) eb fun _ _=>rfl) (IM (dat:=fun e:En=>.str e.name) fun e he=>hstr e he) q
theorem Uz (s:Snd ss hs) (c0:LD z m K ss) (he:e∈hs):(0≤e.u∧e.u≤1000)∧(0≤e.l∧e.l≤1000):=by
 obtain ⟨sh,h⟩:=s.ins e he
 have ok:=c0.sh sh (List.mem_of_getElem? h.at_)
 have hz:=s.sz e he
 have a1:=EI (b:=sh.b) (r:=(e.qp ss).r) hz.1 hz.2
 have a2:=FJ (b:=sh.b) (r:=(e.qp ss).r) hz.1 hz.2
 have h1:shP sh≤1000:=by unfold shP;split;exact ok.h.2;exact ok.w.2
 have h2:shS sh≤1000:=by unfold shS;split;exact ok.w.2;exact ok.h.2
 have p0:=h.p0
 have s0:=h.s0
 have p1:=Int.le_trans h.p1 h1
 have s1:=Int.le_trans h.s1 h2
 have p2:(e.qp ss).p≤1000:=Int.le_trans (Int.le_add_of_nonneg_right (Int.le_of_lt a1)) p1
 have s2:(e.qp ss).s≤1000:=Int.le_trans (Int.le_add_of_nonneg_right (Int.le_of_lt a2)) s1
 unfold En.qp at p0 s0 p2 s2
 cases hb:hbt ss e.n with
 | true=>rw [hb] at p0 s0 p2 s2;exact ⟨⟨p0,p2⟩,s0,s2⟩
 | false=>rw [hb] at p0 s0 p2 s2;exact ⟨⟨s0,s2⟩,p0,p2⟩
theorem J4 (hx:0≤x∧x≤1000000) (hy:0≤y∧y≤1000000):Ay (x*y)=true:=
 BZ (Int.le_trans (by decide) (Int.mul_nonneg hx.1 hy.1)) (Int.le_trans (Int.mul_le_mul hx.2 hy.2 hy.1 (by decide)) (by decide))
theorem Vi (s:Snd ss hs) (c0:LD z m K ss) (E:Esok ss hs) (hsz:∀ e∈hs,(1≤e.w∧e.w≤z)∧(1≤e.h∧e.h≤z)) (h12:∀ e∈hs,e.name.length≤12):∀ e∈hs,Wr (e.by m):=fun e he=>by
 have ul:=Uz s c0 he
 have hm:0≤m∧m≤1000000:=⟨Int.le_trans (by decide) c0.hm.1,c0.hm.2⟩
 have w1:Be (e.w*m):=c0.zm _ (hsz e he).1
 have w2:Be (e.h*m):=c0.zm _ (hsz e he).2
 have hn:(e.n:Int)≤9:=Int.ofNat_le.mpr (Nat.le_trans (Nat.le_of_lt (E.num e he)) c0.len.2)
 exact ⟨h12 e he,BZ (Int.le_trans (by decide) w1.1) (Int.le_trans w1.2 (by decide)),BZ (Int.le_trans (by decide) w2.1) (Int.le_trans w2.2 (by decide)),BZ (Int.le_trans (by decide) (Int.natCast_nonneg _)) (Int.le_trans hn (by decide)),J4 ⟨ul.1.1,Int.le_trans ul.1.2 (by decide)⟩ hm,J4 ⟨ul.2.1,Int.le_trans ul.2.2 (by decide)⟩ hm⟩
end
set_option maxHeartbeats 2000000
section
variable {d:Nat} {σ σ':AD} {Q:AO} {X:AY} {z m:Int} {K:Nat} {hs hl:List En} {ss:List Sh} {ns:List Str} {n k a r S B P epB epP:Nat} {e:En}
theorem Ni (h:Rnds ss hs k mv hs') (f:∀ e∈hs,FirstOf ss hs e e):mv=[]∧hs'=hs:=by
 induction h with
 | nil=>exact ⟨rfl,rfl⟩
 | @next k mv mv' hs' hs'' p _ _ _ rn hm ih=>
  obtain ⟨e1,e2⟩:=ih
  subst e2
  cases mv' with
  | nil=>exact absurd rfl hm
  | cons x l=>
   have mo:=rn.head rfl
   exact absurd (by rw [HB mo.fst (f _ mo.mem)]) mo.ne
structure LU (z m:Int) (ss:List Sh) (ns:List Str) (r n S B P:Nat) (hs hl:List En) (k:Nat) (σ:AD):Prop where
 rk:∃ epB epP,Rk 311 σ r (ss.map (Sh.by m)) (hs.map (En.by m)) S B P epB epP
 tab:TabAt 282 σ 179 39 Cp
 sh:σ[n]?=some (.list (ss.map Sh.v))
 held:σ[k]?=some (.list (hl.map En.one))
 perm:hl.Perm hs
 E:Esok ss hs
 s:Snd ss hs
 mem:∀ e∈hs,e.name∈ns
 sz:∀ e∈hs,(1≤e.w∧e.w≤z)∧(1≤e.h∧e.h≤z)
theorem LU.kp (L:LU z m ss ns r n S B P hs hl k σ) (kp:Kp σ σ'):LU z m ss ns r n S B P hs hl k σ':=
 ⟨Az L.rk fun x y h=>⟨x,y,h.keeps kp⟩,L.tab.keeps kp,kp _ _ L.sh,kp _ _ L.held,L.perm,L.E,L.s,L.mem,L.sz⟩
theorem LU.kpB (L:LU z m ss ns r n S B P hs hl k σ) (kp:KpB 1 σ σ') (t:TabAt 282 σ' 179 39 Cp):LU z m ss ns r n S B P hs hl k σ':=
 Az L.rk fun epB epP R=>⟨⟨epB,epP,R.keepsB L.tab kp⟩,t,kp _ _ (BF R L.tab L.sh).1 L.sh,kp _ _ (BF R L.tab L.held).1 L.held,L.perm,L.E,L.s,L.mem,L.sz⟩
theorem Ui (L:LU z m ss ns r n S B P hs hl k σ) (c0:LD z m K ss) (c:LE ns B P)
  (q:∀ σ',LU z m ss ns r n S B P hs hl k σ'→KpB 1 σ σ'→R' [.ref r,.ref n,.ref k,.int m,.undef,.undef] σ'):BP (FW.body.take 1) (callW P12 (d+4)) [.ref r,.ref n,.ref k,.int m,.undef,.undef] σ (KV R' Pq):=by
 dsimp only [FW,List.take]
 refine Az L.rk fun epB epP R=>?_
 have hr1:1<σ.length:=by
  cases L.tab with
  | tab e=>exact (List.getElem?_eq_some_iff.mp e).1
  | row m e _=>exact (List.getElem?_eq_some_iff.mp e).1
 have hm:0<m:=c0.hm.1
 have hlen:hs.length≤14:=by
  have:=EL L.E.nodup (l':=ns) fun x hx=>AF (List.mem_map.mp hx) fun e he ze=>ze▸L.mem e he
  rw [List.length_map,c.ns.len] at this;exact this
 have hll:hl.length≤60:=by rw [L.perm.length_eq];exact Nat.le_trans hlen (by decide)
 have El:=L.E.perm L.perm.symm
 have h12:∀ e∈hs,e.name.length≤12:=fun e he=>by
  have:=(c.ns.good _ (L.mem e he)).good
  unfold Ar at this
  exact of_decide_eq_true (Bool.and_eq_true_iff.mp (Bool.and_eq_true_iff.mp this).2).1
 have hw:=Vi L.s c0 L.E L.sz h12
 have hwl:∀ e∈hl,Wr (e.by m):=fun e he=>hw e (L.perm.mem_iff.mp he)
 have hsm:∀ s∈ss,Ay (s.W*m)=true∧Ay (s.H*m)=true:=fun s hs=>by
  have:=c0.shm s hs
  exact ⟨BZ (Int.le_trans (by decide) this.1.1) (Int.le_trans this.1.2 (by decide)),BZ (Int.le_trans (by decide) this.2.1) (Int.le_trans this.2.2 (by decide))⟩
 have t:=L.tab
 wtm_at "mine"
 refine Dx R L.E.by t fun p mN σ₁ kp₁ t₁ hp ho eN hmN=>?_
 have L₁:=L.kpB kp₁ t₁
 rw [List.length_map] at hp
 have ho':=G8 hm (fun i hi=>List.mem_range.mp (hp.mem_iff.mp hi)) ho
 rw [P6 hp] at eN
 refine Ea L₁.sh L₁.held hll El.num fun pl aN σ₂ p₂ hpl hol eL _=>?_
 have L₂:=L₁.kp (As p₂)
 rw [Gv L.s L.perm hp ho' hpl hol] at eL
 refine Te (AN p₂ eN) eL (fun e he=>L.E.str e ((DE hp).mem_iff.mp he)) ?_
 refine Az L₂.rk fun epB₂ epP₂ R₂=>?_
 have t₂:=L₂.tab
 refine Nj R₂ L.E.by t₂ (by rw [List.length_map];exact c0.len.2) (fun s hs=>by refine AF (List.mem_map.mp hs) fun s' hs' ze=>?_;subst ze;exact hsm s' hs') (fun e he=>by refine AF (List.mem_map.mp he) fun e' he' ze=>?_;subst ze;exact hw e' he') (by
  cases t₂ with
  | tab e=>exact (List.getElem?_eq_some_iff.mp e).1
  | row m e _=>exact (List.getElem?_eq_some_iff.mp e).1) fun p' σ₃ kp₃ t₃ hp' ho''=>?_
 have L₃:=L₂.kpB kp₃ t₃
 rw [List.length_map] at hp'
 have ho3:=G8 hm (fun i hi=>List.mem_range.mp (hp'.mem_iff.mp hi)) ho''
 refine Tg L₃.sh L₃.held El hll c0.len.2 c0.hm hsm hwl (by
  cases t₃ with
  | tab e=>exact Nat.zero_lt_of_lt (List.getElem?_eq_some_iff.mp e).1
  | row m e _=>exact Nat.zero_lt_of_lt (List.getElem?_eq_some_iff.mp e).1) fun pl' σ₄ kp₄ hpl' hol'=>?_
 rw [UY hp',Gv L.s L.perm hp' ho3 hpl' hol']
 refine Rp (Bool.and_eq_true_iff.mpr ⟨PO fun e he=>?_,beq_self_eq_true _⟩) ?_
 ·refine AF (List.mem_map.mp he) fun e' he' ze=>?_;subst ze
  exact L.E.str e' ((DE hp').mem_iff.mp he')
 exact q σ₄ (L₃.kp kp₄) fun x o hx h=>kp₄ _ _ (kp₃ x o hx (AN p₂ (kp₁ x o hx h)))
end
set_option maxHeartbeats 2000000
section
variable {d:Nat} {σ σ':AD} {Q:AO} {X:AY} {z m:Int} {K:Nat} {hs hl:List En} {ss:List Sh} {ns:List Str} {n k a r S B P epB epP:Nat} {e:En}
theorem M7 (R:Rk C σ r shs es S B P epB epP) (t:TabAt 282 σ 179 39 Cp):TabAt 282 (stood σ B P ep1 ep2 es') 179 39 Cp:=by
 have kp:∀ (x:Nat) (o:O),σ[x]?=some o→(∀ ep kvs,o≠.dict ep kvs)→(stood σ B P ep1 ep2 es')[x]?=some o:=fun x o h hd=>
  AI (fun z=>by rw [← z,R.pl] at h;cases h;exact hd _ _ rfl) (AI (fun z=>by rw [← z,R.bx] at h;cases h;exact hd _ _ rfl) h)
 cases t with
 | tab h=>exact .tab (kp _ _ h nofun)
 | row m h h'=>exact .row m (kp _ _ h nofun) (kp _ _ h' nofun)
noncomputable def left (hs hl:List En) (i:Nat):List En:=hs.filter fun y=>decide (y.name∉(hl.take i).map (·.name))
theorem M9 (hi:hl[i]?=some e):left hs hl (i+1)=(left hs hl i).filter fun y=>decide (y.name≠e.name):=by
 unfold left
 rw [List.filter_filter,BN hi,List.map_append]
 refine List.filter_congr fun y _=>?_
 rw [← Bool.decide_and]
 refine decide_eq_decide.mpr ?_
 rw [List.mem_append]
 exact ⟨fun h=>⟨fun z=>h (.inr (List.mem_singleton.mpr z)),fun z=>h (.inl z)⟩,fun h z=>z.elim h.2 fun z=>h.1 (List.mem_singleton.mp z)⟩
theorem OX (hn:(hl.map (·.name)).Nodup) (hp:hl.Perm hs) (hi:hl[i]?=some e):e∈left hs hl i:=by
 unfold left
 refine List.mem_filter.mpr ⟨hp.mem_iff.mp (List.mem_of_getElem? hi),decide_eq_true fun z=>?_⟩
 obtain ⟨y,hy,e1⟩:=List.mem_map.mp z
 obtain ⟨j,hj⟩:=List.mem_iff_getElem?.mp hy
 rw [List.getElem?_take] at hj
 split at hj
 ·rename_i hlt
  exact GH hn hi hj (Nat.ne_of_lt hlt) e1
 ·cases hj
theorem Vc (L:LU z m ss ns r n S B P hs hl k σ) (c0:LD z m K ss) (c:LE ns B P) (fo:∀ e∈hs,FirstOf ss hs e e) (q:∀ σ',KpR B P σ σ'→TabAt 282 σ' 179 39 Cp→Q (.bool true) σ'):callW P12 (d+8) 45 [.ref r,.ref n,.ref k,.int m] σ Q X:=by
 refine AM (fn:=FW) rfl rfl ?_
 refine H5 1 (fun ρ' σ'=>ρ'=[.ref r,.ref n,.ref k,.int m,.undef,.undef]∧LU z m ss ns r n S B P hs hl k σ'∧KpB 1 σ σ') (fun R' hR'=>Ui L c0 c fun σ' L' kp=>hR' _ _ ⟨rfl,L',kp⟩) fun ρ' σ' hI=>?_
 obtain ⟨rfl,L₁,kp₁⟩:=hI
 dsimp only [FW,List.drop]
 refine Az L₁.rk fun epB epP R=>?_
 have hm:=c0.hm
 have hnb:((hs.map (En.by m)).map (·.name)).Nodup:=by rw [BV];exact L.E.nodup
 have hndl:(hl.map (·.name)).Nodup:=(L.perm.map _).nodup_iff.mpr L.E.nodup
 have hlen:hs.length≤14:=by
  have:=EL L.E.nodup (l':=ns) fun x hx=>AF (List.mem_map.mp hx) fun e he ze=>ze▸L.mem e he
  rw [List.length_map,c.ns.len] at this;exact this
 refine BH (fun i ρ' σ''=>σ''=σ'∧∃ a4,ρ'=[.ref r,.ref n,.ref k,.int m,a4,.undef]) L₁.held ⟨rfl,_,rfl⟩ (fun i v ρ' σ'' R' hv hI hR=>?_) fun ρ' σ'' hI=>?_
 ·obtain ⟨rfl,a4,rfl⟩:=hI
  refine AF (List.mem_map_get hv) fun e hei ze1=>?_;subst ze1
  have he:=L.perm.mem_iff.mp (List.mem_of_getElem? hei)
  dsimp only [En.one]
  wtm_at "mine"
  refine IE (e:=e.by m) R hnb (List.mem_map.mpr ⟨e,he,rfl⟩) ?_
  refine Km (e:=e) hm ?_
  refine MJ (e:=e.by m) ?_
  exact hR _ _ L₁.held ⟨rfl,_,rfl⟩
 obtain ⟨rfl,a4,rfl⟩:=hI
 have t:=L₁.tab
 wtm_at "mine"
 refine J7 (K:=K) R hm.1 c.p0 c.bp (Nat.le_trans c0.len.2 (by decide)) L.E L.s t c0.hK (Nat.le_trans (Ez hlen (Nat.le_refl _)) (Nat.le_trans c0.big (by decide))) fun kk mv hs' a' σ₂ epP' rs s' fo' _ kp₂ t₂ R₂ ea hle=>?_
 obtain ⟨e1,e2⟩:=Ni rs fo
 subst e1;subst e2
 have ne:=BF R t L₁.held
 have eh₂:=kp₂ _ _ ne.1 ne.2.1 ne.2.2 L₁.held
 refine GU (hs:=[]) (AC ea) AG Bo (fun z=>absurd rfl z) fun _=>?_
 have R₃:=R₂.keeps (As (AH (τ:=[O.list []])))
 have t₃:=t₂.pre (AH (τ:=[O.list []]))
 have kp₃:KpR B P σ (σ₂++[.list []]):=((KpR.kpB kp₁).trans kp₂).trans (.pre AH)
 have eh₃:=AC (τ:=[O.list []]) eh₂
 generalize σ₂++[O.list []]=σ₃ at *
 have l0:left hs' hl 0=hs':=List.filter_eq_self.mpr fun y _=>decide_eq_true List.not_mem_nil
 refine BH (fun i ρ' σ''=>(∃ a4,ρ'=[.ref r,.ref n,.ref k,.int m,a4,.undef])∧KpR B P σ₃ σ''∧TabAt 282 σ'' 179 39 Cp∧∃ epB epP,Rk 311 σ'' r (ss.map (Sh.by m)) ((left hs' hl i).map (En.by m)) S B P epB epP) eh₃ ⟨⟨_,rfl⟩,.refl,t₃,_,_,by rw [l0];exact R₃⟩ (fun i v ρ' σ'' R' hv hI hR=>?_) fun ρ' σ'' hI=>?_
 ·obtain ⟨⟨a4,rfl⟩,kp,tt,epB₄,epP₄,Rr⟩:=hI
  refine AF (List.mem_map_get hv) fun e hei ze1=>?_;subst ze1
  have Ef:Esok ss (left hs' hl i):=L.E.filter
  have hmem:=OX hndl L.perm hei
  dsimp only [En.one]
  wtm_at "mine"
  refine Hy (e:=e.by m) Rr (by rw [BV];exact Ef.nodup) (List.mem_map.mpr ⟨e,hmem,rfl⟩) c.b0 c.p0 c.bp fun ep1 ep2=>?_
  rw [show (e.by m).name=e.name from rfl,Hw,← M9 hei]
  refine Km (e:=e) hm ?_
  refine MJ (e:=e.by m) ?_
  have kps:=E3 (ep1:=ep1) (ep2:=ep2) (es':=(left hs' hl (i+1)).map (En.by m)) Rr
  have kp':=kp.trans kps
  have ne₃:=BF R₃ t₃ eh₃
  exact hR _ _ (kp' _ _ ne₃.1 ne₃.2.1 ne₃.2.2 eh₃) ⟨⟨_,rfl⟩,kp',M7 Rr tt,ep1,ep2,Rr.stood c.bp ep1 ep2⟩
 obtain ⟨⟨a4',rfl⟩,kp,tt,epB₄,epP₄,Rr⟩:=hI
 have lE:left hs' hl (hl.map En.one).length=[]:=by
  unfold left
  rw [List.length_map,List.take_length]
  exact List.filter_eq_nil_iff.mpr fun y hy=>by
   rw [decide_eq_false fun z=>z (List.mem_map.mpr ⟨y,L.perm.mem_iff.mpr hy,rfl⟩)];exact nofun
 rw [lE] at Rr
 wtm_at "mine"
 refine Dx Rr (E:=⟨List.Pairwise.nil,Bo,Bo,show 0<63 by decide⟩) tt fun p mN σ₄ kp₄ t₄ hp _ eN _=>?_
 have hp0:p=[]:=hp.eq_nil
 subst hp0
 refine OP (hs:=[]) (AC eN) AG Bo (fun z=>absurd rfl z) fun _=>?_
 exact q _ (kp₃.trans (kp.trans ((KpR.kpB kp₄).trans (.pre AH)))) (t₄.pre AH)
end
set_option maxHeartbeats 2000000
section
variable {d:Nat} {σ σ':AD} {Q:AO} {X:AY} {z m:Int} {K:Nat} {hs hl:List En} {ss:List Sh} {ns:List Str} {n k a r S B P epB epP:Nat} {e:En}
theorem LU.setM {mk:Nat} (L:LU z m ss ns r n S B P hs hl k σ) (e:σ[mk]?=some (.list vs)) (hS:mk≠S) (hn:mk≠n) (hk:mk≠k):LU z m ss ns r n S B P hs hl k (σ.set mk o):=
 ⟨Az L.rk fun x y h=>⟨x,y,h.setO e hS⟩,L.tab.set e (fun _ _ _ _=>⟨nofun,nofun⟩) nofun,AI hn L.sh,AI hk L.held,L.perm,L.E,L.s,L.mem,L.sz⟩
theorem TabAt.ex (t:TabAt T σ ln col q):∃ o,σ[1]?=some o∧(o=.tab T∨∃ ln col m,o=.row T ln col m):=by
 cases t with
 | tab e=>exact ⟨_,e,.inl rfl⟩
 | row m e _=>exact ⟨_,e,.inr ⟨_,_,_,rfl⟩⟩
inductive WI12 (σ₂:AD) (ss:List Sh) (m:Int) (far:Bool) (n k0 mk:Nat) (hs hsE:List En) (all:List (En × En)) (w:List V) (a9 a13:V) (j:Nat):List V→AD→Prop
 | go (hl hsc:List En) (kl dn:Nat) (at0:Int) (σ':AD):σ₂<+:σ'→hl.Perm hsc→hsc.map (·.name)=hs.map (·.name)→Snd ss hsc→(kl=k0∨σ₂.length≤kl)→σ'[kl]?=some (.list (hl.map En.one))→j≤dn→dn≤all.length→at0<dn→RF ss hsc (all.drop dn) hsE→WI12 σ₂ ss m far n k0 mk hs hsE all w a9 a13 j (w++[.ref kl,a9,.ref mk,.int at0,.int dn,a13,.undef]) σ'
 | done (hl:List En) (kl:Nat) (σ':AD):σ₂<+:σ'→hl.Perm hsE→(kl=k0∨σ₂.length≤kl)→σ'[kl]?=some (.list (hl.map En.one))→j≤all.length+1→WI12 σ₂ ss m far n k0 mk hs hsE all w a9 a13 j (w++[.ref kl,a9,.ref mk,.int all.length,.int all.length,a13,.undef]) σ'
theorem NU (e:σ[n]?=some (.list (shs.map Sh.v))) (hl:1≤shs.length∧shs.length≤9) (hs:∀ s∈shs,Be s.W∧Be s.H) (q:∀ σ' S B P,Kp σ σ'→Rk 311 σ' (σ.length+1) shs [] S B P 0 0→B≠P→σ.length≤S→σ.length≤B→σ.length≤P→Q .none σ') :
  callW P12 (d+2) 47 [.ref (σ.length+1),.ref n] (σ++[.ns [],.inst 311 σ.length]) Q X:=by
 have ex:shs.map Sh.v=(shs.map Sh.x).map Shx.v:=by rw [List.map_map];rfl
 have h0:0<σ.length:=by have:=(List.getElem?_eq_some_iff.mp e).1;exact an2 .lt .n0 .v0 (.t .v1 .v0 .e) rfl this
 have em:(σ++[O.ns [],O.inst 311 σ.length])[σ.length]?=some (.ns []):=by rw [List.getElem?_append_right (Nat.le_refl _),Nat.sub_self];rfl
 have er:(σ++[O.ns [],O.inst 311 σ.length])[σ.length+1]?=some (.inst 311 σ.length):=by rw [List.getElem?_append_right (Nat.le_add_right _ _),Nat.add_sub_cancel_left];rfl
 have fit:Fit (shs.map Sh.x):=⟨by rw [List.length_map];exact hl,fun x hx=>by
  refine AF (List.mem_map.mp hx) fun s hs' ze1=>?_;subst ze1
  exact ⟨(hs s hs').1,(hs s hs').2,by unfold Sh.x;cases s.b;exact .inr rfl;exact .inl rfl⟩⟩
 rw [ex] at e
 refine Uh (AC e) (fun x hx=>by refine AF (List.mem_map.mp hx) fun s _ ze1=>?_;subst ze1;exact VB) er em (by exact fun z0=>am1 (.q .v0 .n0 (.t .n0 .v0 .e)) rfl z0 h0) (by rw [List.length_map];exact an1 .le .v0 (.n 1000) (.l .v0 (.n 9) .e) rfl hl.2) (fun _ σ' S B P kp eN eS eB eP hBP hS hB hP=>?_) fun z=>absurd fit z
 rw [← ex] at eS
 rw [List.length_append] at hS hB hP
 exact q σ' S B P (fun x o h=>kp x o (Nat.ne_of_lt (List.getElem?_eq_some_iff.mp h).1) (AC h)) ⟨⟨σ.length,kp _ _ (by exact fun z0=>am1 (.q (.a .v0 .n1) .v0 .e) rfl z0) er,eN⟩,eS,eB,eP⟩ hBP (by exact an3 .le .v0 .v1 (.l (.a .v0 .v2) .v1 .e) rfl hS) (by exact an3 .le .v0 .v1 (.l (.a .v0 .v2) .v1 .e) rfl hB) (by exact an3 .le .v0 .v1 (.l (.a .v0 .v2) .v1 .e) rfl hP)
theorem Uj {far low:Bool} {mo:Int} (L:LT z m ss ns r n a S B P hs k σ) (c0:LD z m K ss) (c:LE ns B P) (hn:n<σ.length) (q:∀ σ',TabAt 282 σ' 179 39 Cp→Q (.bool true) σ') :
  BP (Cw.body.drop 12) (callW P12 (d+9)) [.ref 0,.int m,.ref n,.ref a,.int mo,.bool low,.bool far,.ref r,.ref k,a9,.undef,.undef,.undef,.undef,.undef] σ (FF Q X):=by
 dsimp only [Cw,List.drop]
 refine Az L.rk fun epB epP R=>?_
 have h14:=L.hs14 c
 have hk14:=Nat.le_trans (Ez (L:=ss.length) (K:=K) h14 (Nat.le_refl _)) c0.big
 wtm_at "mine"
 refine J7 (K:=K) R c0.hm.1 c.p0 c.bp (Nat.le_trans c0.len.2 (by decide)) L.E L.s L.tab c0.hK (Nat.le_trans hk14 (by decide)) fun kk mv hsE mk σ₂ epP' rs s' fo' lastp kp₂ t₂ R₂ ea hle=>?_
 refine Ae lastp fun p hp ho rn=>?_
 have rf:RF ss hs mv hsE:=by have:=rs.front (.last hp ho rn);rw [List.append_nil] at this;exact this
 have same:=rs.same
 have hmv:mv.length<16000000:=by
  have hb:=rs.bound L.s L.E.nodup c0.hK
  exact Nat.lt_of_le_of_lt (Nat.le_trans same.2.2 (Nat.mul_le_mul_right _ hb)) (Nat.lt_of_le_of_lt hk14 (by decide))
 have ne1:=BF R L.tab L.sh
 have ne2:=BF R L.tab L.held
 have es₂:=kp₂ _ _ ne1.1 ne1.2.1 ne1.2.2 L.sh
 have ek₂:=kp₂ _ _ ne2.1 ne2.2.1 ne2.2.2 L.held
 have hmS:mk≠S:=Nat.ne_of_gt (Nat.lt_of_lt_of_le (List.getElem?_eq_some_iff.mp R.sh).1 hle)
 have hmn:mk≠n:=Nat.ne_of_gt (Nat.lt_of_lt_of_le (List.getElem?_eq_some_iff.mp L.sh).1 hle)
 have hmk:mk≠k:=Nat.ne_of_gt (Nat.lt_of_lt_of_le (List.getElem?_eq_some_iff.mp L.held).1 hle)
 have hml:=(List.getElem?_eq_some_iff.mp ea).1
 have nmOf:∀ {x},x∈hsE→∃ y∈hs,y.name=x.name:=fun {x} hx=>List.mem_map.mp (same.2.1▸List.mem_map.mpr ⟨x,hx,rfl⟩:x.name∈hs.map (·.name))
 have EE:Esok ss hsE:=⟨same.2.1▸L.E.nodup,fun x hx=>AX (s'.ins x hx) fun sh h=>(List.getElem?_eq_some_iff.mp h.at_).1,fun x hx=>AF (nmOf hx) fun y hy e1=>e1▸L.E.str y hy,(Df same.1).symm▸L.E.len⟩
 have szE:∀ e∈hsE,(1≤e.w∧e.w≤z)∧(1≤e.h∧e.h≤z):=fun x hx=>by
  have:x.dm∈dms hsE:=List.mem_map.mpr ⟨x,hx,rfl⟩
  rw [same.1] at this
  refine AF (List.mem_map.mp this) fun y hy e1=>?_
  have e2:y.w=x.w∧y.h=x.h:=⟨congrArg (·.1) e1,congrArg (fun d:Dm=>d.2.1) e1⟩
  have:=L.sz y hy
  rw [e2.1,e2.2] at this;exact this
 refine PrimK.isL (by assumption) ?_
 wtm_at "mine"
 refine Su (WI12 σ₂ ss m far n k mk hs hsE mv [.ref 0,.int m,.ref n,.ref a,.int mo,.bool low,.bool far,.ref r] a9 .undef)
  (fun ρ' σ'=>∃ (hl:List En) (kl:Nat),σ₂<+:σ'∧hl.Perm hsE∧(kl=k∨σ₂.length≤kl)∧σ'[kl]?=some (.list (hl.map En.one))∧ρ'=[.ref 0,.int m,.ref n,.ref a,.int mo,.bool low,.bool far,.ref r,.ref kl,a9,.ref mk,.int mv.length,.int mv.length,.undef,.undef])
  (mv.length+1) (fun j _ _ h=>by cases h with | go hl hsc kl dn at0 σ' _ _ _ _ _ _ h1 h2 _ _=>exact Nat.le_trans h1 (Nat.le_succ_of_le h2) | done hl kl σ' _ _ _ _ h=>exact h)
  (.go hs hs k 0 (-1) σ₂ (List.prefix_refl _) (List.Perm.refl _) rfl L.s (.inl rfl) ek₂ (Nat.le_refl _) (Nat.zero_le _) (by decide) (by rw [List.drop_zero];exact rf)) (fun j ρ' σ' R' Qw hI hR' hE=>?_) fun ρ' σ' hE=>?_
 ·cases hI with
  | go hl hsc kl dn at0 σ' p₃ hh hnm sc hkl ekl hj hdn hat rfc=>
   have hlh:hsc.length=hs.length:=by have:=congrArg List.length hnm;rw [List.length_map,List.length_map] at this;exact this
   have Ec:Esok ss hsc:=⟨hnm▸L.E.nodup,fun x hx=>AX (sc.ins x hx) fun sh h=>(List.getElem?_eq_some_iff.mp h.at_).1,fun x hx=>AF (List.mem_map.mp (hnm▸List.mem_map.mpr ⟨x,hx,rfl⟩:x.name∈hs.map (·.name))) fun y hy e1=>e1▸L.E.str y hy,hlh.symm▸L.E.len⟩
   refine Aj (fun _=>?_) fun h=>absurd hat h
   refine RO (AN p₃ es₂) ekl (AN p₃ ea) hh Ec sc c0 (hlh.symm▸h14) hdn rfc.nx fun hl' hs₁ at' k' σ₄ p₄ hh' hnm' s1 hc hk' ek'=>?_
   have hk'':k'=k∨σ₂.length≤k':=hk'.elim (fun z=>z▸hkl) fun z=>.inr (Nat.le_trans p₃.length_le z)
   refine hc.elim (fun h=>?_) fun h=>?_
   ·refine A7 h fun h1 h2 h3=>?_
    subst h1;subst h3
    have:=hR' _ _ (WI12.done (a9:=a9) (a13:=.undef) (w:=[.ref 0,.int m,.ref n,.ref a,.int mo,.bool low,.bool far,.ref r]) (j:=j+1) hl' k' σ₄ (p₃.trans p₄) hh' hk'' ek' (Nat.succ_le_succ (h2▸hj)))
    rw [← h2] at this
    exact this
   ·exact hR' _ _ (.go hl' hs₁ k' at' dn σ₄ (p₃.trans p₄) hh' (hnm'.trans hnm) s1 hk'' ek' (Nat.le_trans (Nat.succ_le_succ hj) h.1) h.2.1 (Int.ofNat_lt.mpr h.1) h.2.2)
  | done hl kl σ' p₃ hh hkl ekl hj=>
   refine Aj (fun h=>absurd h (Int.lt_irrefl _)) fun _=>?_
   exact hE _ _ ⟨hl,kl,p₃,hh,hkl,ekl,rfl⟩
 ·refine HV hE fun hl kl p₃ hh hkl ekl ze1=>?_;subst ze1
  have em:=AN p₃ ea
  have R₃:=R₂.keeps (As p₃)
  have t₃:=t₂.pre p₃
  have hmkl:mk≠kl:=hkl.elim (fun z=>z▸hmk) fun z=>Nat.ne_of_lt (Nat.lt_of_lt_of_le hml z)
  have LUs:LU z m ss ns r n S B P hsE hl kl σ':=⟨⟨_,_,R₃⟩,t₃,AN p₃ es₂,ekl,hh,EE,s',fun x hx=>AF (nmOf hx) fun y hy e1=>e1▸L.mem y hy,szE⟩
  wtm_at "mine"
  rw [List.length_map]
  refine FK (fun h=>absurd rfl h) fun _=>?_
  wtm_at "mine"
  refine Dx R₃ EE.by t₃ fun p mN σ₄ kp₄ t₄ hp _ eN _=>?_
  have L₄:=LUs.kpB kp₄ t₄
  have em₄:=kp₄ _ _ (BF R₃ t₃ em).1 em
  have ekl₄:=L₄.held
  wtm_at "mine"
  rw [List.length_map,List.length_map,hp.length_eq,List.length_range,List.length_map,hh.length_eq]
  refine FK (fun h=>absurd rfl h) fun _=>?_
  refine FS em₄ ?_
  refine AppK.mk em₄ (by rw [List.length_map];exact hmv) (Nat.ne_of_gt (Nat.lt_of_lt_of_le (Nat.zero_lt_of_lt (List.getElem?_eq_some_iff.mp R.sh).1) hle)) ?_
  have L₅:=L₄.setM (o:=.list (mv.map (mvV m)++[.str (Str.ofString "")])) em₄ hmS hmn hmkl
  have em₅:=AZ (x:=.list (mv.map (mvV m)++[.str (Str.ofString "")])) em₄
  generalize σ₄.set mk (.list (mv.map (mvV m)++[.str (Str.ofString "")]))=σ₅ at *
  wtm_at "mine"
  refine Vc L₅ c0 c fo' fun σ₆ kp₆ t₆=>?_
  refine Az L₅.rk fun epB₅ epP₅ R₅=>?_
  have ne:=BF R₅ L₅.tab em₅
  have em₆:=kp₆ _ _ ne.1 ne.2.1 ne.2.2 em₅
  wtm_at "mine"
  refine (?_:Q (.bool _) _)
  rw [decide_eq_true rfl]
  exact q _ t₆
end
set_option maxHeartbeats 2000000
section
variable {d:Nat} {σ σ':AD} {Q:AO} {X:AY} {z m:Int} {K:Nat} {hs hl:List En} {ss:List Sh} {ns:List Str} {n k a r S B P epB epP:Nat} {e:En}
theorem K9 (hy:1≤y∧y≤6) (hm:1≤m∧m≤160000):Be (y*m):=
 ⟨Int.le_trans (by decide) (Int.mul_le_mul hy.1 hm.1 (by decide) (Int.le_trans (by decide) hy.1)),Int.le_trans (Int.mul_le_mul hy.2 hm.2 (Int.le_trans (by decide) hm.1) (by decide)) (by decide)⟩
theorem LD.near (hm:1≤m∧m≤160000) (hl1:1≤ss.length) (hl9:ss.length≤9) (hss:∀ s∈ss,ShB 6 6 s):LD 3 m 6 ss where
 hm:=⟨hm.1,Int.le_trans hm.2 (by decide)⟩
 zm:=fun y hy=>K9 ⟨hy.1,Int.le_trans hy.2 (by decide)⟩ hm
 shm:=fun s hs=>⟨K9 (hss s hs).w hm,K9 (hss s hs).h hm⟩
 len:=⟨hl1,hl9⟩
 sh:=fun s hs=>⟨⟨(hss s hs).w.1,Int.le_trans (hss s hs).w.2 (by decide)⟩,(hss s hs).h.1,Int.le_trans (hss s hs).h.2 (by decide)⟩
 hK:=fun s hs=>by
  unfold shP
  split
  ·exact (hss s hs).h.2
  ·exact (hss s hs).w.2
 big:=Nat.le_trans (Ez (Nat.le_refl _) hl9) (by decide)
theorem LD.far (hl1:1≤ss.length) (hl3:ss.length≤3) (hss:∀ s∈ss,ShB 1000 1000 s):LD 400 1 1000 ss where
 hm:=by decide
 zm:=fun y hy=>by rw [Int.mul_one];exact ⟨hy.1,Int.le_trans hy.2 (by decide)⟩
 shm:=fun s hs=>by rw [Int.mul_one,Int.mul_one];exact ⟨⟨(hss s hs).w.1,Int.le_trans (hss s hs).w.2 (by decide)⟩,(hss s hs).h.1,Int.le_trans (hss s hs).h.2 (by decide)⟩
 len:=⟨hl1,Nat.le_trans hl3 (by decide)⟩
 sh:=hss
 hK:=fun s hs=>by
  unfold shP
  split
  ·exact (hss s hs).h.2
  ·exact (hss s hs).w.2
 big:=Nat.le_trans (Ez (Nat.le_refl _) hl3) (by decide)
inductive Beg12 (xs:List Int):List V→AD→Prop
 | mk (z m:Int) (K:Nat) (ss:List Sh) (ns:List Str) (far low:Bool) (mo:Int) (n a:Nat) (σ:AD):LD z m K ss→Names14 ns→(far=false→3≤z)→(far=true→400≤z∧m=1)→(mo / 2 % 3=0→far=false∧∃ sh,ss[ss.length - 1]?=some sh∧if low then 5≤sh.W∧2≤sh.H else 2≤sh.W∧5≤sh.H) →
  σ[0]?=some (.list (xs.map .int))→σ[1]?=some (.tab 282)→σ[n]?=some (.list (ss.map Sh.v))→σ[a]?=some (.list (ns.map .str)) →
  Beg12 xs [.ref 0,.int m,.ref n,.ref a,.int mo,.bool low,.bool far,.undef,.undef,.undef,.undef,.undef,.undef,.undef,.undef] σ
theorem Ti (xs:List Int) (hR:∀ ρ' σ',Beg12 xs ρ' σ'→R ρ' σ'):BP (Cw.body.take 8) (callW P12 59) [.ref 0,.undef,.undef,.undef,.undef,.undef,.undef,.undef,.undef,.undef,.undef,.undef,.undef,.undef,.undef] [.list (xs.map .int),.tab 282] (KV R Pq):=by
 have e0:([.list (xs.map .int),.tab 282]:AD)[0]?=some (.list (xs.map .int)):=rfl
 dsimp only [Cw,List.take]
 refine Dk e0 (by decide) ?_
 refine SA fun m hm=>?_
 refine LS e0 fun ss n σ₁ kp₁ en hn hl1 hl9 hss=>?_
 have z0:=kp₁ 0 _ (show (0:Nat)≠2 by decide) e0
 have z1:σ₁[1]?=some (.tab 282):=kp₁ 1 _ (show (1:Nat)≠2 by decide) rfl
 refine Dk z0 (by decide) ?_
 refine Oa fun ns hns=>?_
 have z0':=AC (τ:=[O.list (ns.map .str)]) z0
 have z1':=AC (τ:=[O.list (ns.map .str)]) z1
 have en':=AC (τ:=[O.list (ns.map .str)]) en
 have ea':(σ₁++[O.list (ns.map .str)])[σ₁.length]?=some (.list (ns.map .str)):=AG
 generalize σ₁++[O.list (ns.map .str)]=σ₂ at *
 refine Dk z0' (by decide) ?_
 wtm_at "mine"
 generalize Er xs 1 / 42=mo
 have hss':∀ s∈ss,ShB 6 6 s:=fun s hs=>⟨⟨(hss s hs).w.1,Int.le_trans (hss s hs).w.2 (by decide)⟩,(hss s hs).h.1,Int.le_trans (hss s hs).h.2 (by decide)⟩
 refine Aj (fun h=>?_) fun h=>?_
 ·have hfar:¬ mo / 2 % 3=1:=by rw [h];decide
  refine S7 en' (by decide) (by decide) ?_
  wtm_at "mine"
  have ecut:cut (ss.map Sh.v) (min (1:Int).toNat (ss.map Sh.v).length) (ss.map Sh.v).length=(ss.drop 1).map Sh.v:=by
   rw [List.length_map,show min (1:Int).toNat ss.length=1 from Nat.min_eq_left hl1]
   unfold cut
   rw [List.take_of_length_le (by rw [List.length_map];exact Nat.le_refl _),List.map_drop]
  rw [ecut]
  have hdl:(ss.drop 1).length+1=ss.length:=by rw [List.length_drop];exact Nat.sub_add_cancel hl1
  have hssd:∀ s∈ss.drop 1,ShB 6 6 s:=fun s hs=>hss' s (List.mem_of_mem_drop hs)
  refine BinK.addL (AC AG) AG (by rw [List.length_map];exact Nat.le_trans (Nat.le_of_eq hdl) (Nat.le_trans hl9 (by decide))) ?_
  have hW:5≤5+mo / 6 % 2∧5+mo / 6 % 2≤6:=⟨Int.le_add_of_nonneg_right (Int.emod_nonneg _ (by decide)),Int.add_le_add_left (Int.lt_add_one_iff.mp (Int.emod_lt_of_pos _ (by decide):_<(1:Int)+1)) 5⟩
  have hH:2≤2+mo / 12 % 2∧2+mo / 12 % 2≤3:=⟨Int.le_add_of_nonneg_right (Int.emod_nonneg _ (by decide)),Int.add_le_add_left (Int.lt_add_one_iff.mp (Int.emod_lt_of_pos _ (by decide):_<(1:Int)+1)) 2⟩
  generalize 5+mo / 6 % 2=W at *
  generalize 2+mo / 12 % 2=H at *
  have z0:=AC (τ:=[O.list ((ss.drop 1).map Sh.v)]) z0'
  have z0:=AC (τ:=[O.list [.tup [.int W,.int H,.str (Str.ofString "low")]]]) z0
  have z0:=AC (τ:=[O.list ((ss.drop 1).map Sh.v++[.tup [.int W,.int H,.str (Str.ofString "low")]])]) z0
  have z1:=AC (τ:=[O.list ((ss.drop 1).map Sh.v)]) z1'
  have z1:=AC (τ:=[O.list [.tup [.int W,.int H,.str (Str.ofString "low")]]]) z1
  have z1:=AC (τ:=[O.list ((ss.drop 1).map Sh.v++[.tup [.int W,.int H,.str (Str.ofString "low")]])]) z1
  have za:=AC (τ:=[O.list ((ss.drop 1).map Sh.v)]) ea'
  have za:=AC (τ:=[O.list [.tup [.int W,.int H,.str (Str.ofString "low")]]]) za
  have za:=AC (τ:=[O.list ((ss.drop 1).map Sh.v++[.tup [.int W,.int H,.str (Str.ofString "low")]])]) za
  have zl:=AG (σ:=σ₂++[O.list ((ss.drop 1).map Sh.v)]++[O.list [.tup [.int W,.int H,.str (Str.ofString "low")]]]) (o:=.list ((ss.drop 1).map Sh.v++[.tup [.int W,.int H,.str (Str.ofString "low")]]))
  have zn0:(σ₂++[O.list ((ss.drop 1).map Sh.v)]++[O.list [.tup [.int W,.int H,.str (Str.ofString "low")]]]).length≠0:=by rw [List.length_append];exact Nat.succ_ne_zero _
  have zn1:(σ₂++[O.list ((ss.drop 1).map Sh.v)]++[O.list [.tup [.int W,.int H,.str (Str.ofString "low")]]]).length≠1:=by rw [List.length_append,List.length_append];exact fun z=>Nat.succ_ne_zero _ (Nat.succ.inj z)
  have zna:(σ₂++[O.list ((ss.drop 1).map Sh.v)]++[O.list [.tup [.int W,.int H,.str (Str.ofString "low")]]]).length≠σ₁.length:=by
   have:=(List.getElem?_eq_some_iff.mp ea').1
   rw [List.length_append,List.length_append]
   exact Nat.ne_of_gt (Nat.lt_of_lt_of_le this (Nat.le_trans (Nat.le_add_right _ _) (Nat.le_add_right _ _)))
  generalize σ₂++[O.list ((ss.drop 1).map Sh.v)]++[O.list [.tup [.int W,.int H,.str (Str.ofString "low")]]]++[O.list ((ss.drop 1).map Sh.v++[.tup [.int W,.int H,.str (Str.ofString "low")]])]=σ₃ at *
  generalize (σ₂++[O.list ((ss.drop 1).map Sh.v)]++[O.list [.tup [.int W,.int H,.str (Str.ofString "low")]]]).length=j at *
  have fin:∀ (sh:Sh) (low:Bool) σ',sh=⟨if low then W else H,if low then H else W,low⟩→σ'[0]?=some (.list (xs.map .int))→σ'[1]?=some (.tab 282)→σ'[j]?=some (.list ((ss.drop 1++[sh]).map Sh.v))→σ'[σ₁.length]?=some (.list (ns.map .str))→R [.ref 0,.int m,.ref j,.ref σ₁.length,.int mo,.bool low,.bool false,.undef,.undef,.undef,.undef,.undef,.undef,.undef,.undef] σ':=fun sh low σ' hsh h0 h1 hj ha=>by
   have hl:(ss.drop 1++[sh]).length=ss.length:=by rw [List.length_append];exact hdl
   have hB:ShB 6 6 sh:=by
    have a1:1≤W∧W≤6:=⟨Int.le_trans (by decide) hW.1,hW.2⟩
    have a2:1≤H∧H≤6:=⟨Int.le_trans (by decide) hH.1,Int.le_trans hH.2 (by decide)⟩
    rw [hsh]
    cases low
    ·exact ⟨a2,a1⟩
    ·exact ⟨a1,a2⟩
   refine hR _ _ (.mk 3 m 6 (ss.drop 1++[sh]) ns false low mo j _ σ' (LD.near hm (hl.symm▸hl1) (hl.symm▸hl9) fun s hs=>(List.mem_append.mp hs).elim (hssd s) fun z=>List.mem_singleton.mp z▸hB) hns (fun _=>Int.le_refl _) nofun (fun _=>⟨rfl,sh,?_,?_⟩) h0 h1 hj ha)
   ·rw [hl,← hdl,Nat.add_sub_cancel,List.getElem?_append_right (Nat.le_refl _),Nat.sub_self];rfl
   ·rw [hsh]
    cases low with
    | true=>exact ⟨hW.1,hH.1⟩
    | false=>exact ⟨hH.1,hW.1⟩
  cases hlow:decide (mo % 2=0) with
  | true=>
   wtm_at "mine"
   refine (?_:brW _ (BP [] _ [.ref 0,.int m,.ref j,.ref σ₁.length,.int mo,.bool true,.bool (decide (mo / 2 % 3=1)),.undef,.undef,.undef,.undef,.undef,.undef,.undef,.undef] _ _) (decide (mo / 2 % 3=1)))
   rw [decide_eq_false hfar]
   exact fin ⟨W,H,true⟩ true σ₃ rfl z0 z1 (by rw [List.map_append];exact zl) za
  | false=>
   have hv:((ss.drop 1).map Sh.v++[V.tup [.int W,.int H,.str (Str.ofString "low")]])[(ss.drop 1).length]?=some (V.tup [.int W,.int H,.str (Str.ofString "low")]):=by
    rw [List.getElem?_append_right (by rw [List.length_map];exact Nat.le_refl _),List.length_map,Nat.sub_self];rfl
   have hix:Idx (-1) ((ss.drop 1).map Sh.v++[V.tup [.int W,.int H,.str (Str.ofString "low")]]).length (ss.drop 1).length:=Or.inr ⟨by rw [List.length_append,List.length_map];exact (Int.add_comm _ _).trans (Int.add_neg_cancel_right ((ss.drop 1).length:Int) 1),by decide⟩
   refine SubK.list zl hix hv ?_
   refine SubK.list zl hix hv ?_
   refine SetK.back (j:=(ss.drop 1).length) zl zn0 (by rw [List.length_append,List.length_map];rfl) ?_
   have eset:((ss.drop 1).map Sh.v++[V.tup [.int W,.int H,.str (Str.ofString "low")]]).set (ss.drop 1).length (V.tup [.int H,.int W,.str (Str.ofString "left")])=(ss.drop 1++[(⟨H,W,false⟩:Sh)]).map Sh.v:=by
    rw [List.set_append_right _ _ (by rw [List.length_map];exact Nat.le_refl _),List.length_map,Nat.sub_self,List.map_append];rfl
   rw [eset]
   wtm_at "mine"
   refine (?_:brW _ (BP [] _ [.ref 0,.int m,.ref j,.ref σ₁.length,.int mo,.bool false,.bool (decide (mo / 2 % 3=1)),.undef,.undef,.undef,.undef,.undef,.undef,.undef,.undef] _ _) (decide (mo / 2 % 3=1)))
   rw [decide_eq_false hfar]
   exact fin ⟨H,W,false⟩ false _ rfl (AI zn0 z0) (AI zn1 z1) (AZ zl) (AI zna za)
 ·wtm_at "mine"
  refine Aj (fun hf=>?_) fun hf=>?_
  ·refine Dk z0' (by decide) ?_
   wtm_at "mine"
   refine Ul (fun i acc σ'=>σ₂<+:σ'∧∃ ss':List Sh,acc=ss'.map Sh.v∧ss'.length=i∧∀ s∈ss',ShB 1000 1000 s) ⟨Int.le_trans (by decide) (md3 3 (by decide)).1,Int.le_trans (md3 3 (by decide)).2 (by decide)⟩ ⟨List.prefix_refl _,[],rfl,rfl,Bo⟩ (fun i acc σ' K hi hI hK=>?_) fun acc σ' hI=>?_
   ·refine FD hI fun p ss' ze1 hl ok=>?_;subst ze1
    refine Dk (AN p z0') (Int.add_nonneg (by decide) (Int.natCast_nonneg _)) ?_
    refine UM fun sh σ₂ p₂ hsh=>?_
    refine hK _ _ ⟨p.trans p₂,ss'++[sh],by rw [List.map_append];rfl,by rw [List.length_append,hl];rfl,fun s hs=>(List.mem_append.mp hs).elim (ok s) fun z=>List.mem_singleton.mp z▸hsh⟩
   ·refine FD hI fun p ss' ze1 hl ok=>?_;subst ze1
    have hr:=md3 (c:=Er xs 1) 3 (by decide)
    have hl1:1≤ss'.length:=hl▸Int.toNat_le_toNat hr.1
    have hl3:ss'.length≤3:=hl▸Int.toNat_le_toNat hr.2
    exact hR _ _ (.mk 400 1 1000 ss' ns _ _ mo _ _ _ (LD.far hl1 hl3 ok) hns (fun z=>absurd hf (of_decide_eq_false z)) (fun _=>⟨Int.le_refl _,rfl⟩) (fun z=>absurd z h) (AC (AN p z0')) (AC (AN p z1')) AG (AC (AN p ea')))
  ·exact hR _ _ (.mk 3 m 6 ss ns _ _ mo n _ _ (LD.near hm hl1 hl9 hss') hns (fun _=>Int.le_refl _) (fun z=>absurd (of_decide_eq_true z) hf) (fun z=>absurd z h) z0' z1' en' ea')
theorem T5 (xs:List Int):callW P12 60 46 [.ref 0] [.list (xs.map .int),.tab 282] (fun v σ=>v=.bool true∧∃ o,σ[1]?=some o∧(o=.tab 282∨∃ ln col m,o=.row 282 ln col m)) (fun _ _=>False):=by
 refine AM (fn:=Cw) rfl rfl ?_
 refine H5 8 (Beg12 xs) (fun R hR=>Ti xs hR) fun ρ' σ hI=>?_
 cases hI with | mk z m K ss ns far low mo n a σ c0 hns hz1 hz2 hbeg s0 s1 en ea=>
 dsimp only [Cw,List.drop]
 refine SR en (Nat.le_trans c0.len.2 (by decide)) c0.hm ?_
 have t0:=AC (τ:=[O.list ((ss.map (Sh.by m)).map Sh.v)]) s0
 have t1:=AC (τ:=[O.list ((ss.map (Sh.by m)).map Sh.v)]) s1
 have tn:=AC (τ:=[O.list ((ss.map (Sh.by m)).map Sh.v)]) en
 have ta:=AC (τ:=[O.list ((ss.map (Sh.by m)).map Sh.v)]) ea
 have th:(σ++[O.list ((ss.map (Sh.by m)).map Sh.v)])[σ.length]?=some (.list ((ss.map (Sh.by m)).map Sh.v)):=AG
 have hh1:=(List.getElem?_eq_some_iff.mp t1).1
 generalize σ++[O.list ((ss.map (Sh.by m)).map Sh.v)]=τ at *
 refine NU (shs:=ss.map (Sh.by m)) th (by rw [List.length_map];exact c0.len) (fun s hs=>AF (List.mem_map.mp hs) fun y hy ze=>ze▸c0.shm y hy) fun σ₂ S B P kp₂ R₂ hBP hS hB hP=>⟨rfl,?_⟩
 have c1:LE ns B P:=⟨hns,Nat.ne_of_gt (Nat.lt_of_lt_of_le (Nat.zero_lt_of_lt hh1) hB),Nat.ne_of_gt (Nat.lt_of_lt_of_le (Nat.zero_lt_of_lt hh1) hP),hBP⟩
 have L:LT z m ss ns (τ.length+1) n a S B P [] σ₂.length (σ₂++[.list []]):=⟨⟨0,0,R₂.keeps (As AH)⟩,.tab (AC (kp₂ _ _ t1)),AC (kp₂ _ _ tn),AC (kp₂ _ _ ta),AG,⟨List.nodup_nil,Bo,Bo,by decide⟩,⟨Bo,List.Pairwise.nil,Bo⟩,Bo,Bo⟩
 have s0:(σ₂++[O.list []])[0]?=some (.list (xs.map .int)):=AC (kp₂ _ _ t0)
 have go:∀ hs k σ',LT z m ss ns (τ.length+1) n a S B P hs k σ'→σ'[0]?=some (.list (xs.map .int))→BP (Cw.body.drop 11) (callW P12 59) [.ref 0,.int m,.ref n,.ref a,.int mo,.bool low,.bool far,.ref (τ.length+1),.ref k,.undef,.undef,.undef,.undef,.undef,.undef] σ' (FF (fun v σ=>v=.bool true∧∃ o,σ[1]?=some o∧(o=.tab 282∨∃ ln col m,o=.row 282 ln col m)) (fun _ _=>False)):=fun hs k σ' L s0=>by
  refine H5 1 (fun ρ' σ''=>∃ hs k' a9,LT z m ss ns (τ.length+1) n a S B P hs k' σ''∧ρ'=[.ref 0,.int m,.ref n,.ref a,.int mo,.bool low,.bool far,.ref (τ.length+1),.ref k',a9,.undef,.undef,.undef,.undef,.undef]) (fun R' hR'=>?_) fun ρ' σ'' hI=>?_
  ·dsimp only [Cw,List.take,List.drop]
   refine Az L.rk fun epB epP R=>?_
   refine TM s0 fun rm hrm=>?_
   have hrm':0≤6+rm∧6+rm≤1000:=by rcases hrm with rfl | rfl <;> decide
   refine SliceK.list s0 (Cs (k:=6) (by decide) (by decide)) (Cs (k:=6+rm) hrm'.1 (Int.le_trans hrm'.2 (by decide))) ?_
   rw [SG]
   generalize cut xs _ _=cs
   have hne:=BF (R.keeps (As (AH (τ:=[O.list (cs.map .int)])))) (L.tab.pre AH) AG
   refine BH (fun i ρ' σ''=>∃ hs k' a9,LT z m ss ns (τ.length+1) n a S B P hs k' σ''∧KpR B P (σ'++[.list (cs.map .int)]) σ''∧ρ'=[.ref 0,.int m,.ref n,.ref a,.int mo,.bool low,.bool far,.ref (τ.length+1),.ref k',a9,.undef,.undef,.undef,.undef,.undef]) AG ⟨hs,_,_,L.pre' AH,.refl,rfl⟩ (fun i v ρ' σ'' R₄ hv hI hR=>?_) fun ρ' σ'' hI=>?_
   ·refine Af hI fun hs k' a9 L' kp ze1=>?_;subst ze1
    refine AF (List.mem_map_get hv) fun c _ ze1=>?_;subst ze1
    cases far with
    | true=>
     obtain ⟨h1,h2⟩:=hz2 rfl
     subst h2
     exact Mv h1 L' c0 c1 fun hs2 k2 σ₄ L₂ kp₂=>hR _ _ ((kp.trans kp₂) _ _ hne.1 hne.2.1 hne.2.2 AG) ⟨hs2,k2,_,L₂,kp.trans kp₂,rfl⟩
    | false=>
     have Lsh:=L'.sh
     wtm_at "mine"
     rw [List.length_map]
     exact Td (hz1 rfl) ⟨Int.ofNat_le.mpr c0.len.1,Int.ofNat_le.mpr c0.len.2⟩ L' c0 c1 fun hs2 k2 σ₄ L₂ kp₂=>hR _ _ ((kp.trans kp₂) _ _ hne.1 hne.2.1 hne.2.2 AG) ⟨hs2,k2,_,L₂,kp.trans kp₂,rfl⟩
   ·refine Af hI fun hs k' a9 L' kp ze1=>?_;subst ze1
    exact hR' _ _ ⟨hs,k',a9,L',rfl⟩
  ·refine EK hI fun hs k' a9 L' ze1=>?_;subst ze1
   exact Uj L' c0 c1 (List.getElem?_eq_some_iff.mp L'.sh).1 fun σ₅ t₅=>⟨rfl,t₅.ex⟩
 wtm_at "mine"
 refine Aj (fun h=>?_) fun h=>?_
 ·refine CR (hbeg h) fun hf sh hsh hlow=>?_
  have Lsh:=L.sh
  wtm_at "mine"
  rw [List.length_map]
  refine (?_:callW P12 59 41 [.ref (τ.length+1),.bool low,.int ((ss.length:Int) - 1),.ref a,.int m] _ _ _)
  rw [show ((ss.length:Int) - 1)=((ss.length - 1:Nat):Int) from (Int.ofNat_sub c0.len.1).symm]
  refine Q4 (hz1 hf) hsh hlow L c0 c1 fun hs' k' σ₃ L₃ kp₃=>?_
  refine Az L.rk fun epB epP R=>?_
  have ne:=BF R L.tab s0
  exact go hs' k' σ₃ L₃ (kp₃ _ _ ne.1 ne.2.1 ne.2.2 s0)
 ·exact go [] _ _ L s0
theorem law12 (xs:List Int):callW (PB12.map (·.1)) 60 46 [.ref 0] [.list (xs.map .int),.tab 282] (fun v σ=>v=.bool true∧∃ o,σ[1]?=some o∧(o=.tab 282∨∃ ln col m,o=.row 282 ln col m)) (fun _ _=>False):=T5 xs
end
end Mine.Internal

namespace Mine.Internal
open PySem PySem.Calls PySem.W PyProof.Rows
set_option maxRecDepth 100000 in
theorem U0 : ∀ w os, UZ PySem.Challenge.pw_uf030015_12 q12 (IV wh12) 9000 w os = some (openGood q12 []) := by
  intro w os
  kernel_rfl
set_option maxRecDepth 100000 in
theorem left12 : LeftO PySem.Challenge.pw_uf030015_12 q12 [] (IV wh12) (fun _ => ()) (fun _ => ()) 9000 := TG rfl rfl (fun _ => rfl) U0
end Mine.Internal
open PySem PySem.W PyProof.Rows
set_option maxRecDepth 100000 in
set_option maxHeartbeats 8000000 in
theorem PySem.Challenge.cw_uf030015_12_holds : PySem.Challenge.rw_uf030015_12.Holds := by
  w_on
  refine holds_law Mine.Internal.said12 fun said => ?_
  refine PySem.W.holds_open (XP := Mine.Internal.SeenP Mine.Internal.wh12) (YP := fun _ _ => True) Mine.Internal.left12 (fun _ _ _ => trivial) (fun _ _ _ _ _ => trivial) (fun _ h => Mine.Internal.seen_of h) (fun _ _ _ x k => x.keeps k) (by rfl) (by rfl) (by rfl) (fun s _ => recFacts_nil rfl) (by rfl) (by assumption) (by decide +kernel) ⟨rfl, rfl, rfl, rfl, rfl, by decide +kernel⟩ ?hw ?hc
  case hw => w_witness2
  intro w s₀ s₁ mg mb G Y fa o pm cd doc dV kV ho hd hcd hD hmg hg args vals as hpre hlay hrd hwl hlo
  have T := Ground.T G
  have TE := Ground.TE G
  have X := Ground.X G
  wrow_args hpre hlay hrd hwl hlo
  refine enter_call ?_
  obtain ⟨vs, e, hv⟩ := Mine.Internal.well_ints ‹Well _ _ _ _›
  refine Mine.Internal.law_go (P := Mine.Internal.PB12) (extra := 1) (i := 46) (d := 60) T TE X Mine.Internal.text12 Mine.Internal.reads12 Mine.Internal.hk12 (by kernel_rfl) (by decide) (by decide) hmg hg e hv (by omega) (fun _ => rfl) ?_ (Mine.Internal.law12 _)
  wrow_post