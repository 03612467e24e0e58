import PyProof.Rows.All
import Wide.All
import OpenK.AllK
import Wide.FinOn
import PyProof.SetKind
import PyProof.SetScanFacts
import PyProof.Rows.SetFrom
import PyProof.Rows.SortPure
import PyProof.FactsAll.set_1
import PyProof.CollectWalk
import PyProof.FactsAll.set_2
import PyProof.Rows.SortShell
import KE.KSortTup
import PyProof.P3Statements
import PyProof.CompFree
import PyProof.CompUse
import PyProof.Walks
import PyProof.WalksMore
import PyProof.Calls
import PyProof.ListOps
import PyProof.Cells
import PyProof.Rules2
import PyProof.Rules3
import PyProof.DictIter
import PyProof.DictKinds
import PyProof.Ns1
import PyProof.StationsW
import PyProof.Rows.PlainStore
import PyProof.Rows.RuleB_floordiv
import PyProof.Rows.RuleB_mod
import PyProof.Rows.RuleB_sub
import PyProof.PureInt
import PyProof.AutoIntOps
import PyProof.Rows.Chain
import PyProof.MakeMany
import PyProof.TupleIter
import PyProof.TupleOps
import PyProof.Rows.TupMore
import PyProof.ListTruth
import PyProof.Truth
import PyProof.Rows.RuleU_int
import PyProof.Rows.IntRules
import PyProof.Rows.StrTemp
import PyProof.ListIndexNeg
import PyProof.Rows.StrRules
import PyProof.P3Eq
import PyProof.P3In
import PyProof.NeData
import PyProof.TupleKey
import PyProof.SliceList
import PyProof.ListMulRoad
import PyProof.DictStraight
import PyProof.StrLawsIn
import PyProof.StrOps
import PyProof.StrOps2
import PyProof.DefCall
import KE.KUnpack
import PyProof.RulesAssignMore
import PyProof.Raises
import PyProof.SeqWrite
import PyProof.ForAny
import PyProof.EnumFor
import PyProof.EnumMake
import PyProof.RangeFor
import PyProof.PvWalk
import PyProof.Boot
import PyProof.EnumStmt
import PyProof.StrWalks
import PyProof.DictWalks
import PyProof.TupleOfSeq
import PyProof.Rows.ListCopyD
import PyProof.WalkInts
import PyProof.Conv_int_bool
import PyProof.CallStr
import PyProof.IsiSeqPairs
import PyProof.IsiPairs
import PyProof.ForAppend
import KE.KItem
import PyProof.Dict
import PyProof.Rows.PlainObj
import PyProof.Rows.Own
import KE.KNest
import PyProof.ConsumeWalk
import PyProof.SliceStr2
import PyProof.SliceSyntax
import PyProof.LetGo
import PyProof.MeetsDictList
import PyProof.ExcClass2
import PyProof.ExcBaseAll.ValueError
import PyProof.InstStoreFacts
import PyProof.RulesAs
import PyProof.Rows.AttrNodeAny
import PyProof.Rows.Method
import PyProof.NsDelKeeps
import KE.KLam
import KE.KDictSum
import PyProof.Rows.CallKwBuiltin
import Wide.Tac
import PySem.Challenge.RW_uf030015_13
set_option Elab.async false
set_option compiler.extract_closed false
set_option backward.match.sparseCases false
set_option hygiene false
set_option linter.all false
set_option bootstrap.genMatcherCode false
set_option maxRecDepth 100000 in
theorem Mine.said13 : PySem.Challenge.rw_uf030015_13.wellSaid = true := by decide +kernel

namespace Mine
set_option genSizeOf false
set_option genInjectivity false
inductive AE where
 | v (i:Nat) | n (k:Nat) | a (x y:AE) | s (x y:AE) | m (k:Nat) (x:AE) | g (x:AE)
inductive AK where | le | lt | eq | qe | nle | nlt
inductive AR where
 | e
 | w (k:Nat) (t:AR)
 | c (k:AK) (x y:AE) (t:AR)
noncomputable def AR.l (x y:AE) (t:AR):AR:=.c .le x y t
noncomputable def AR.t (x y:AE) (t:AR):AR:=.c .lt x y t
noncomputable def AR.q (x y:AE) (t:AR):AR:=.c .eq x y t
noncomputable def AR.p (x y:AE) (t:AR):AR:=.c .qe x y t
noncomputable def AR.m (x y:AE) (t:AR):AR:=.c .nle x y t
noncomputable def AR.o (x y:AE) (t:AR):AR:=.c .nlt x y t
noncomputable def AE.v0:AE:=.v 0
noncomputable def AE.v1:AE:=.v 1
noncomputable def AE.v2:AE:=.v 2
noncomputable def AE.v3:AE:=.v 3
noncomputable def AE.v4:AE:=.v 4
noncomputable def AE.v5:AE:=.v 5
noncomputable def AE.n0:AE:=.n 0
noncomputable def AE.n1:AE:=.n 1
noncomputable def AE.n2:AE:=.n 2
noncomputable def AE.n3:AE:=.n 3
noncomputable def av (l:List Int):Nat→Int
 | 0=>l.headD 0
 | i + 1=>av l.tail i
noncomputable def avn (l:List Nat):Nat→Nat
 | 0=>l.headD 0
 | i + 1=>avn l.tail i
noncomputable def AE.di (l:List Int):AE→Int
 | .v i=>av l i
 | .n k=>(k:Int)
 | .a x y=>x.di l + y.di l
 | .s x y=>x.di l - y.di l
 | .m k x=>(k:Int) * x.di l
 | .g x=>-x.di l
noncomputable def AE.dn (l:List Nat):AE→Nat
 | .v i=>avn l i
 | .n k=>k
 | .a x y=>x.dn l + y.dn l
 | .s x _=>x.dn l
 | .m k x=>k * x.dn l
 | .g x=>x.dn l
noncomputable def AE.pos:AE→Bool
 | .v _=>true
 | .n _=>true
 | .a x y=>x.pos && y.pos
 | .s _ _=>false
 | .m _ x=>x.pos
 | .g _=>false
noncomputable def pa:List Int→List Int→List Int
 | [],q=>q
 | a :: p,q=>(a + q.headD 0) :: pa p q.tail
noncomputable def pm (k:Int) (p:List Int):List Int:=p.map (k * ·)
noncomputable def pu:Nat→List Int
 | 0=>[1]
 | i + 1=>0 :: pu i
noncomputable def AE.p:AE→List Int
 | .v i=>0 :: pu i
 | .n k=>[(k:Int)]
 | .a x y=>pa x.p y.p
 | .s x y=>pa x.p (pm (-1) y.p)
 | .m k x=>pm k x.p
 | .g x=>pm (-1) x.p
noncomputable def ev (l:List Int):List Int→Int
 | []=>0
 | a :: p=>a * l.headD 0 + ev l.tail p
theorem J7:∀ (p q l:List Int),ev l (pa p q)=ev l p + ev l q:=fun p=>by
 induction p with
 | nil=>exact fun q l=>(Int.zero_add _).symm
 | cons a p ih=>
  intro q l
  cases q with
  | nil=>show (a + 0) * _ + ev l.tail (pa p [])=(a * _ + ev l.tail p) + 0;rw [ih,Int.add_zero,Int.add_zero];exact congrArg (_ + ·) (Int.add_zero _)
  | cons b q=>show (a + b) * _ + ev l.tail (pa p q)=(a * _ + _) + (b * _ + _);rw [ih,Int.add_mul,Int.add_assoc,Int.add_assoc,Int.add_left_comm (b * _)]
theorem HE (k:Int):∀ (p l:List Int),ev l (pm k p)=k * ev l p:=fun p=>by
 induction p with
 | nil=>exact fun l=>(Int.mul_zero k).symm
 | cons a p ih=>exact fun l=>(congrArg (k * a * l.headD 0 + ·) (ih l.tail)).trans (by rw [Int.mul_assoc];exact (Int.mul_add ..).symm)
theorem Va:∀ (i:Nat) (l:List Int),ev l (pu i)=av l i:=fun i=>by
 induction i with
 | zero=>exact fun l=>(Int.add_zero _).trans (Int.one_mul _)
 | succ i ih=>exact fun l=>(congrArg (· + ev l.tail (pu i)) (Int.zero_mul _)).trans ((Int.zero_add _).trans (ih _))
theorem AE.ev (e:AE) (l:List Int):Mine.ev (1 :: l) e.p=e.di l:=by
 induction e with
 | v i=>exact (congrArg (· + _) (Int.zero_mul _)).trans ((Int.zero_add _).trans (Va i l))
 | n k=>exact (Int.add_zero _).trans (Int.mul_one _)
 | a x y hx hy=>exact (J7 ..).trans (by rw [hx,hy];rfl)
 | s x y hx hy=>exact (J7 ..).trans (by rw [HE,hx,hy,Int.neg_one_mul];rfl)
 | m k x hx=>exact (HE ..).trans (by rw [hx];rfl)
 | g x hx=>exact (HE ..).trans (by rw [hx];exact Int.neg_one_mul _)
noncomputable def AK.i:AK→Int→Int→Prop
 | .le,x,y=>x≤y
 | .lt,x,y=>x < y
 | .eq,x,y=>x=y
 | .qe,x,y=>x=y
 | .nle,x,y=>¬ x≤y
 | .nlt,x,y=>¬ x < y
noncomputable def AK.n:AK→Nat→Nat→Prop
 | .le,x,y=>x≤y
 | .lt,x,y=>x < y
 | .eq,x,y=>x=y
 | .qe,x,y=>x=y
 | .nle,x,y=>¬ x≤y
 | .nlt,x,y=>¬ x < y
noncomputable def AK.p:AK→List Int→List Int→List Int
 | .le,x,y=>pa x (pm (-1) y)
 | .lt,x,y=>pa [1] (pa x (pm (-1) y))
 | .eq,x,y=>pa x (pm (-1) y)
 | .qe,x,y=>pa y (pm (-1) x)
 | .nle,x,y=>pa [1] (pa y (pm (-1) x))
 | .nlt,x,y=>pa y (pm (-1) x)
noncomputable def AK.q:AK→List Int→List Int→List Int
 | .le,x,y=>AK.p .nle x y
 | .lt,x,y=>AK.p .nlt x y
 | .nle,x,y=>AK.p .le x y
 | .nlt,x,y=>AK.p .lt x y
 | _,_,_=>[]
theorem GH (x y l:List Int):ev l (pa x (pm (-1) y))=ev l x - ev l y:=by rw [J7,HE,Int.neg_one_mul];rfl
theorem MH (x y l:List Int):ev (1 :: l) (pa [1] (pa x (pm (-1) y)))=1 + (ev (1 :: l) x - ev (1 :: l) y):=by rw [J7,GH];rfl
theorem LP {x y:Int} (h:x < y):1 + (x - y)≤0:=by rw [← Int.add_sub_assoc,Int.add_comm];exact Int.sub_nonpos_of_le h
theorem AK.ok {k:AK} {x y l:List Int} (h:k.i (ev (1 :: l) x) (ev (1 :: l) y)):ev (1 :: l) (k.p x y)≤0:=by
 cases k with
 | le=>exact Int.le_trans (Int.le_of_eq (GH ..)) (Int.sub_nonpos_of_le h)
 | lt=>exact Int.le_trans (Int.le_of_eq (MH ..)) (LP h)
 | eq=>exact Int.le_trans (Int.le_of_eq (GH ..)) (Int.sub_nonpos_of_le (Int.le_of_eq h))
 | qe=>exact Int.le_trans (Int.le_of_eq (GH ..)) (Int.sub_nonpos_of_le (Int.le_of_eq h.symm))
 | nle=>exact Int.le_trans (Int.le_of_eq (MH ..)) (LP (Int.lt_of_not_ge h))
 | nlt=>exact Int.le_trans (Int.le_of_eq (GH ..)) (Int.sub_nonpos_of_le (Int.le_of_not_gt h))
theorem AK.no {k:AK} {x y l:List Int} (h:¬ ev (1 :: l) (k.q x y)≤0):k.i (ev (1 :: l) x) (ev (1 :: l) y):=by
 cases k with
 | le=>exact Int.not_lt.mp fun z=>h (AK.ok (k:=.nle) (Int.not_le.mpr z))
 | lt=>exact Int.not_le.mp fun z=>h (AK.ok (k:=.nlt) (Int.not_lt.mpr z))
 | eq=>exact absurd (Int.le_refl 0) h
 | qe=>exact absurd (Int.le_refl 0) h
 | nle=>exact fun z=>h (AK.ok (k:=.le) z)
 | nlt=>exact fun z=>h (AK.ok (k:=.lt) z)
noncomputable def pz (b:Bool):List Int→Bool
 | []=>true
 | a :: p=>(bif b then decide (0≤a) else decide (a=0)) && pz b p
noncomputable def AR.k (b:Bool):AR→Nat→List Int→Bool
 | .e,_,[]=>false
 | .e,_,a :: p=>decide (0 < a) && pz b p
 | .w k t,_,d=>t.k b k d
 | .c k x y t,n,d=>t.k b 1 (pa (pm n (k.p x.p y.p)) d)
noncomputable def AR.i (l:List Int):AR→Prop→Prop
 | .e,G=>G
 | .w _ t,G=>t.i l G
 | .c k x y t,G=>k.i (x.di l) (y.di l)→t.i l G
noncomputable def AR.n (l:List Nat):AR→Prop→Prop
 | .e,G=>G
 | .w _ t,G=>t.n l G
 | .c k x y t,G=>k.n (x.dn l) (y.dn l)→t.n l G
noncomputable def AR.pos:AR→Bool
 | .e=>true
 | .w _ t=>t.pos
 | .c _ x y t=>x.pos && (y.pos && t.pos)
theorem VP:∀ {p l:List Int},(b=true→∀ i,0≤av l i)→pz b p=true→0≤ev l p:=fun {p}=>by
 induction p with
 | nil=>exact fun _ _=>Int.le_refl 0
 | cons a p ih=>
  intro l hl h
  have h:=(Bool.and_eq_true _ _).mp h
  refine Int.add_nonneg ?_ (ih (fun e i=>hl e (i + 1)) h.2)
  cases b with
  | true=>exact Int.mul_nonneg (of_decide_eq_true h.1) (hl rfl 0)
  | false=>rw [of_decide_eq_true h.1,Int.zero_mul];exact Int.le_refl 0
theorem AR.ok {b:Bool} {l:List Int} (hl:b=true→∀ i,0≤av l i) {G:Prop} (r:AR):∀ (k:Nat) (D:List Int),r.k b k D=true→(¬ ev (1 :: l) D≤0→G)→r.i l G:=by
 induction r with
 | e=>
  intro k D h g
  cases D with
  | nil=>cases h
  | cons a p=>
   have h:=(Bool.and_eq_true _ _).mp h
   exact g (Int.not_le.mpr (Int.lt_of_lt_of_le (of_decide_eq_true h.1) (Int.le_trans (Int.le_of_eq ((Int.mul_one a).symm.trans (Int.add_zero _).symm)) (Int.add_le_add_left (VP hl h.2) _))))
 | w k t ih=>exact fun _ D=>ih k D
 | c k x y t ih=>
  intro n D h g p
  refine ih 1 _ h fun z=>g fun z'=>z ?_
  rw [J7,HE]
  rw [← AE.ev,← AE.ev] at p
  exact Int.add_le_add (Int.mul_nonpos_of_nonneg_of_nonpos (Int.natCast_nonneg n) (AK.ok p)) z'
theorem ari (l:List Int) (g:AK) (x y:AE) (r:AR) (h:r.k false 1 (g.q x.p y.p)=true):r.i l (g.i (x.di l) (y.di l)):=
 AR.ok (b:=false) (fun e=>nomatch e) r 1 _ h fun z=>by rw [← AE.ev,← AE.ev];exact AK.no z
theorem RB (l:List Int) (r:AR) (h:r.k false 1 []=true):r.i l False:=AR.ok (b:=false) (fun e=>nomatch e) r 1 _ h fun z=>z (Int.le_refl 0)
theorem II:∀ (i:Nat) (l:List Nat),av (l.map Nat.cast) i=(avn l i:Int):=fun i=>by
 induction i with
 | zero=>exact fun l=>by cases l <;> rfl
 | succ i ih=>exact fun l=>by cases l with
  | nil=>exact ih []
  | cons a l=>exact ih l
theorem AE.cast (l:List Nat) (e:AE) (h:e.pos=true):e.di (l.map Nat.cast)=(e.dn l:Int):=by
 induction e with
 | v i=>exact II i l
 | n k=>rfl
 | a x y hx hy=>have h:=(Bool.and_eq_true _ _).mp h;exact (congr (congrArg HAdd.hAdd (hx h.1)) (hy h.2)).trans (Int.natCast_add ..).symm
 | s x y=>cases h
 | m k x hx=>exact (congrArg (HMul.hMul _) (hx h)).trans (Int.natCast_mul ..).symm
 | g x=>cases h
theorem AK.cast {k:AK} {x y:Nat}:k.n x y ↔ k.i x y:=by
 cases k with
 | le=>exact Int.ofNat_le.symm
 | lt=>exact Int.ofNat_lt.symm
 | eq=>exact Int.ofNat_inj.symm
 | qe=>exact Int.ofNat_inj.symm
 | nle=>exact not_congr Int.ofNat_le.symm
 | nlt=>exact not_congr Int.ofNat_lt.symm
theorem AR.cast {l:List Nat} {G:Prop} (r:AR) (h:r.pos=true) (q:r.i (l.map Nat.cast) G):r.n l G:=by
 induction r with
 | e=>exact q
 | w k t ih=>exact ih h q
 | c k x y t ih=>
  intro p
  have h:=(Bool.and_eq_true _ _).mp h
  have h':=(Bool.and_eq_true _ _).mp h.2
  refine ih h'.2 (q ?_)
  rw [AE.cast l x h.1,AE.cast l y h'.1];exact AK.cast.mp p
theorem arw (l:List Nat) (w:Nat) (g:AK) (x y:AE) (r:AR) (h:((AR.c g x y r).pos && r.k true 1 (pm w (g.q x.p y.p)))=true):r.n l (g.n (x.dn l) (y.dn l)):=by
 have h:=(Bool.and_eq_true _ _).mp h
 have a:=(Bool.and_eq_true _ _).mp h.1
 have b:=(Bool.and_eq_true _ _).mp a.2
 refine r.cast b.2 (AR.ok (fun _ i=>?_) r 1 _ h.2 fun z=>?_)
 ·rw [II];exact Int.natCast_nonneg _
 ·rw [AK.cast,← AE.cast l x a.1,← AE.cast l y b.1,← AE.ev,← AE.ev]
  exact AK.no fun u=>z (by rw [HE];exact Int.mul_nonpos_of_nonneg_of_nonpos (Int.natCast_nonneg w) u)
theorem UF (l:List Nat) (r:AR) (h:(r.pos && r.k true 1 [])=true):r.n l False:=by
 have h:=(Bool.and_eq_true _ _).mp h
 exact r.cast h.1 (AR.ok (fun _ i=>by rw [II];exact Int.natCast_nonneg _) r 1 _ h.2 fun z=>z (Int.le_refl 0))
theorem an1 (g:AK) (x y:AE) (r:AR) (h:((AR.c g x y r).pos && r.k true 1 (pm (1:Nat) (g.q x.p y.p)))=true):r.n [a] (g.n (x.dn [a]) (y.dn [a])):=arw [a] 1 g x y r h
theorem am1 (r:AR) (h:(r.pos && r.k true 1 [])=true):r.n [a] False:=UF [a] r h
theorem ai1 (g:AK) (x y:AE) (r:AR) (h:r.k false 1 (g.q x.p y.p)=true):r.i [a] (g.i (x.di [a]) (y.di [a])):=ari [a] g x y r h
theorem aj1 (r:AR) (h:r.k false 1 []=true):r.i [a] False:=RB [a] r h
theorem an2 (g:AK) (x y:AE) (r:AR) (h:((AR.c g x y r).pos && r.k true 1 (pm (1:Nat) (g.q x.p y.p)))=true):r.n [a,b] (g.n (x.dn [a,b]) (y.dn [a,b])):=arw [a,b] 1 g x y r h
theorem am2 (r:AR) (h:(r.pos && r.k true 1 [])=true):r.n [a,b] False:=UF [a,b] r h
theorem ai2 (g:AK) (x y:AE) (r:AR) (h:r.k false 1 (g.q x.p y.p)=true):r.i [a,b] (g.i (x.di [a,b]) (y.di [a,b])):=ari [a,b] g x y r h
theorem aj2 (r:AR) (h:r.k false 1 []=true):r.i [a,b] False:=RB [a,b] r h
theorem an3 (g:AK) (x y:AE) (r:AR) (h:((AR.c g x y r).pos && r.k true 1 (pm (1:Nat) (g.q x.p y.p)))=true):r.n [a,b,c] (g.n (x.dn [a,b,c]) (y.dn [a,b,c])):=arw [a,b,c] 1 g x y r h
theorem am3 (r:AR) (h:(r.pos && r.k true 1 [])=true):r.n [a,b,c] False:=UF [a,b,c] r h
theorem ai3 (g:AK) (x y:AE) (r:AR) (h:r.k false 1 (g.q x.p y.p)=true):r.i [a,b,c] (g.i (x.di [a,b,c]) (y.di [a,b,c])):=ari [a,b,c] g x y r h
theorem aj3 (r:AR) (h:r.k false 1 []=true):r.i [a,b,c] False:=RB [a,b,c] r h
theorem an4 (g:AK) (x y:AE) (r:AR) (h:((AR.c g x y r).pos && r.k true 1 (pm (1:Nat) (g.q x.p y.p)))=true):r.n [a,b,c,d] (g.n (x.dn [a,b,c,d]) (y.dn [a,b,c,d])):=arw [a,b,c,d] 1 g x y r h
theorem ai4 (g:AK) (x y:AE) (r:AR) (h:r.k false 1 (g.q x.p y.p)=true):r.i [a,b,c,d] (g.i (x.di [a,b,c,d]) (y.di [a,b,c,d])):=ari [a,b,c,d] g x y r h
theorem an5 (g:AK) (x y:AE) (r:AR) (h:((AR.c g x y r).pos && r.k true 1 (pm (1:Nat) (g.q x.p y.p)))=true):r.n [a,b,c,d,e] (g.n (x.dn [a,b,c,d,e]) (y.dn [a,b,c,d,e])):=arw [a,b,c,d,e] 1 g x y r h
theorem ai5 (g:AK) (x y:AE) (r:AR) (h:r.k false 1 (g.q x.p y.p)=true):r.i [a,b,c,d,e] (g.i (x.di [a,b,c,d,e]) (y.di [a,b,c,d,e])):=ari [a,b,c,d,e] g x y r h
theorem aj5 (r:AR) (h:r.k false 1 []=true):r.i [a,b,c,d,e] False:=RB [a,b,c,d,e] r h
theorem an6 (g:AK) (x y:AE) (r:AR) (h:((AR.c g x y r).pos && r.k true 1 (pm (1:Nat) (g.q x.p y.p)))=true):r.n [a,b,c,d,e,f] (g.n (x.dn [a,b,c,d,e,f]) (y.dn [a,b,c,d,e,f])):=arw [a,b,c,d,e,f] 1 g x y r h
theorem Fd {α:Type} {lt:α→α→Prop} {x y z:α} {R S T:Prop} (tr:lt x y→lt y z→lt x z) (k:R→S→T) (h:lt x y∨x=y∧R) (g:lt y z∨y=z∧S):lt x z∨x=z∧T:=
 h.elim (fun h=>.inl (g.elim (tr h) fun g=>g.1▸h)) fun h=>g.elim (fun g=>.inl (h.1▸g)) fun g=>.inr ⟨h.1.trans g.1,k h.2 g.2⟩
theorem F0 {α:Type} {lt:α→α→Prop} {x y:α} {R S:Prop} (tr:lt x y→lt y x→False) (ir:∀ x,¬ lt x x) (h:lt x y∨x=y∧R) (g:lt y x∨y=x∧S):x=y∧R∧S:=
 h.elim (fun h=>g.elim (fun g=>(tr h g).elim) fun g=>(ir y (g.1.symm▸h)).elim) fun h=>g.elim (fun g=>(ir y (h.1▸g)).elim) fun g=>⟨h.1,h.2,g.2⟩
theorem CC {α:Type _} {P:α→Prop}:∀ a ∈ ([]:List α),P a:=fun _ h=>nomatch h
theorem Di {α:Type _} {a:α} {P:Prop} (h:none=some a):P:=nomatch h
theorem HD {α:Type _} {a:α} {P:Prop} (h:some a=none):P:=nomatch h
theorem Gu {P:Prop} (h:true=false):P:=nomatch h
theorem QY {P:Prop} (h:false=true):P:=nomatch h
end Mine
namespace Mine
universe u
theorem AU {α:Sort _} {p1:α→Prop} {c:Prop} (h:∃ x,p1 x) (k:∀ x,p1 x→c):c:=h.elim fun x h0=>k x h0
theorem Bm {p1 p2 p3:Prop} {c:Prop} (h:p1∧p2∧p3) (k:p1→p2→p3→c):c:=k h.1 h.2.1 h.2.2
theorem MC {α:Sort _} {p1:Prop} {p2:α→Prop} {c:Prop} (h:p1∧∃ x,p2 x) (k:p1→∀ x,p2 x→c):c:=h.2.elim fun x h1=>k h.1 x h1
theorem O4 {p q r c:Prop} (h:p∨q∨r) (k0:p→c) (k1:q→c) (k2:r→c):c:=h.elim k0 fun h=>h.elim k1 k2
theorem GF {p q r s c:Prop} (h:p∨q∨r∨s) (k0:p→c) (k1:q→c) (k2:r→c) (k3:s→c):c:=h.elim k0 fun h=>h.elim k1 fun h=>h.elim k2 k3
theorem Si {p q r s t c:Prop} (h:p∨q∨r∨s∨t) (k0:p→c) (k1:q→c) (k2:r→c) (k3:s→c) (k4:t→c):c:=h.elim k0 fun h=>h.elim k1 fun h=>h.elim k2 fun h=>h.elim k3 k4
theorem AF {α:Sort _} {p1 p2:α→Prop} {c:Prop} (h:∃ x,p1 x∧p2 x) (k:∀ x,p1 x→p2 x→c):c:=h.elim fun x h0=>k x h0.1 h0.2
theorem CL {α:Sort _} {β:Sort _} {p1:α→β→Prop} {c:Prop} (h:∃ x,∃ y,p1 x y) (k:∀ x,∀ y,p1 x y→c):c:=h.elim fun x h0=>h0.elim fun y h1=>k x y h1
theorem KS {p1 p2 p3 p4:Prop} {c:Prop} (h:p1∧p2∧p3∧p4) (k:p1→p2→p3→p4→c):c:=k h.1 h.2.1 h.2.2.1 h.2.2.2
theorem TF {α:Sort _} {p1 p2:Prop} {p3:α→Prop} {c:Prop} (h:p1∧p2∧∃ x,p3 x) (k:p1→p2→∀ x,p3 x→c):c:=h.2.2.elim fun x h2=>k h.1 h.2.1 x h2
theorem Cp {α:Sort _} {p1:Prop} {p2 p3:α→Prop} {c:Prop} (h:p1∧∃ x,p2 x∧p3 x) (k:p1→∀ x,p2 x→p3 x→c):c:=h.2.elim fun x h1=>k h.1 x h1.1 h1.2
theorem AZ {α:Sort _} {p1 p2 p3:α→Prop} {c:Prop} (h:∃ x,p1 x∧p2 x∧p3 x) (k:∀ x,p1 x→p2 x→p3 x→c):c:=h.elim fun x h0=>k x h0.1 h0.2.1 h0.2.2
theorem Gi {α:Sort _} {β:Sort _} {p1:α→Prop} {p2:α→β→Prop} {c:Prop} (h:∃ x,p1 x∧∃ y,p2 x y) (k:∀ x,p1 x→∀ y,p2 x y→c):c:=h.elim fun x h0=>h0.2.elim fun y h2=>k x h0.1 y h2
theorem BL {α:Sort _} {β:Sort _} {p1 p2:α→β→Prop} {c:Prop} (h:∃ x,∃ y,p1 x y∧p2 x y) (k:∀ x,∀ y,p1 x y→p2 x y→c):c:=h.elim fun x h0=>h0.elim fun y h1=>k x y h1.1 h1.2
theorem CH {α:Sort _} {β:Sort _} {γ:Sort _} {p1:α→β→γ→Prop} {c:Prop} (h:∃ x,∃ y,∃ z,p1 x y z) (k:∀ x,∀ y,∀ z,p1 x y z→c):c:=h.elim fun x h0=>h0.elim fun y h1=>h1.elim fun z h2=>k x y z h2
theorem F1 {p1 p2 p3 p4 p5:Prop} {c:Prop} (h:p1∧p2∧p3∧p4∧p5) (k:p1→p2→p3→p4→p5→c):c:=k h.1 h.2.1 h.2.2.1 h.2.2.2.1 h.2.2.2.2
theorem Ez {α:Sort _} {p1:Prop} {p2 p3 p4:α→Prop} {c:Prop} (h:p1∧∃ x,p2 x∧p3 x∧p4 x) (k:p1→∀ x,p2 x→p3 x→p4 x→c):c:=h.2.elim fun x h1=>k h.1 x h1.1 h1.2.1 h1.2.2
theorem DY {α:Sort _} {β:Sort _} {p1:Prop} {p2 p3:α→β→Prop} {c:Prop} (h:p1∧∃ x,∃ y,p2 x y∧p3 x y) (k:p1→∀ x,∀ y,p2 x y→p3 x y→c):c:=h.2.elim fun x h1=>h1.elim fun y h2=>k h.1 x y h2.1 h2.2
theorem MG {α:Sort _} {β:Sort _} {γ:Sort _} {p1:Prop} {p2:α→β→γ→Prop} {c:Prop} (h:p1∧∃ x,∃ y,∃ z,p2 x y z) (k:p1→∀ x,∀ y,∀ z,p2 x y z→c):c:=h.2.elim fun x h1=>h1.elim fun y h2=>h2.elim fun z h3=>k h.1 x y z h3
theorem BQ {α:Sort _} {p1 p2 p3 p4:α→Prop} {c:Prop} (h:∃ x,p1 x∧p2 x∧p3 x∧p4 x) (k:∀ x,p1 x→p2 x→p3 x→p4 x→c):c:=h.elim fun x h0=>k x h0.1 h0.2.1 h0.2.2.1 h0.2.2.2
theorem RA {α:Sort _} {β:Sort _} {p1 p2:α→Prop} {p3:α→β→Prop} {c:Prop} (h:∃ x,p1 x∧p2 x∧∃ y,p3 x y) (k:∀ x,p1 x→p2 x→∀ y,p3 x y→c):c:=h.elim fun x h0=>h0.2.2.elim fun y h3=>k x h0.1 h0.2.1 y h3
theorem Rc {α:Sort _} {β:Sort _} {p1:α→Prop} {p2 p3:α→β→Prop} {c:Prop} (h:∃ x,p1 x∧∃ y,p2 x y∧p3 x y) (k:∀ x,p1 x→∀ y,p2 x y→p3 x y→c):c:=h.elim fun x h0=>h0.2.elim fun y h2=>k x h0.1 y h2.1 h2.2
theorem DP {α:Sort _} {β:Sort _} {γ:Sort _} {p1:α→Prop} {p2:α→β→γ→Prop} {c:Prop} (h:∃ x,p1 x∧∃ y,∃ z,p2 x y z) (k:∀ x,p1 x→∀ y,∀ z,p2 x y z→c):c:=h.elim fun x h0=>h0.2.elim fun y h2=>h2.elim fun z h3=>k x h0.1 y z h3
theorem A3 {α:Sort _} {β:Sort _} {p1 p2 p3:α→β→Prop} {c:Prop} (h:∃ x,∃ y,p1 x y∧p2 x y∧p3 x y) (k:∀ x,∀ y,p1 x y→p2 x y→p3 x y→c):c:=h.elim fun x h0=>h0.elim fun y h1=>k x y h1.1 h1.2.1 h1.2.2
theorem EF {α:Sort _} {β:Sort _} {γ:Sort _} {p1 p2:α→β→γ→Prop} {c:Prop} (h:∃ x,∃ y,∃ z,p1 x y z∧p2 x y z) (k:∀ x,∀ y,∀ z,p1 x y z→p2 x y z→c):c:=h.elim fun x h0=>h0.elim fun y h1=>h1.elim fun z h2=>k x y z h2.1 h2.2
theorem MB {α:Sort _} {β:Sort _} {γ:Sort _} {δ:Sort _} {p1:α→β→γ→δ→Prop} {c:Prop} (h:∃ x,∃ y,∃ z,∃ w,p1 x y z w) (k:∀ x,∀ y,∀ z,∀ w,p1 x y z w→c):c:=h.elim fun x h0=>h0.elim fun y h1=>h1.elim fun z h2=>h2.elim fun w h3=>k x y z w h3
theorem O0 {α:Sort _} {β:Sort _} {p1:Prop} {p2:α→Prop} {p3 p4:α→β→Prop} {c:Prop} (h:p1∧∃ x,p2 x∧∃ y,p3 x y∧p4 x y) (k:p1→∀ x,p2 x→∀ y,p3 x y→p4 x y→c):c:=h.2.elim fun x h1=>h1.2.elim fun y h3=>k h.1 x h1.1 y h3.1 h3.2
theorem B7 {α:Sort _} {β:Sort _} {p1:Prop} {p2 p3 p4:α→β→Prop} {c:Prop} (h:p1∧∃ x,∃ y,p2 x y∧p3 x y∧p4 x y) (k:p1→∀ x,∀ y,p2 x y→p3 x y→p4 x y→c):c:=h.2.elim fun x h1=>h1.elim fun y h2=>k h.1 x y h2.1 h2.2.1 h2.2.2
theorem B3 {α:Sort _} {p1 p2 p3 p4 p5:α→Prop} {c:Prop} (h:∃ x,p1 x∧p2 x∧p3 x∧p4 x∧p5 x) (k:∀ x,p1 x→p2 x→p3 x→p4 x→p5 x→c):c:=h.elim fun x h0=>k x h0.1 h0.2.1 h0.2.2.1 h0.2.2.2.1 h0.2.2.2.2
theorem J8 {α:Sort _} {β:Sort _} {p1 p2:α→Prop} {p3 p4:α→β→Prop} {c:Prop} (h:∃ x,p1 x∧p2 x∧∃ y,p3 x y∧p4 x y) (k:∀ x,p1 x→p2 x→∀ y,p3 x y→p4 x y→c):c:=h.elim fun x h0=>h0.2.2.elim fun y h3=>k x h0.1 h0.2.1 y h3.1 h3.2
theorem Bk {α:Sort _} {β:Sort _} {p1 p2 p3 p4:α→β→Prop} {c:Prop} (h:∃ x,∃ y,p1 x y∧p2 x y∧p3 x y∧p4 x y) (k:∀ x,∀ y,p1 x y→p2 x y→p3 x y→p4 x y→c):c:=h.elim fun x h0=>h0.elim fun y h1=>k x y h1.1 h1.2.1 h1.2.2.1 h1.2.2.2
theorem G2 {α:Sort _} {β:Sort _} {γ:Sort _} {p1 p2:α→β→Prop} {p3:α→β→γ→Prop} {c:Prop} (h:∃ x,∃ y,p1 x y∧p2 x y∧∃ z,p3 x y z) (k:∀ x,∀ y,p1 x y→p2 x y→∀ z,p3 x y z→c):c:=h.elim fun x h0=>h0.elim fun y h1=>h1.2.2.elim fun z h4=>k x y h1.1 h1.2.1 z h4
theorem Ad {α:Sort _} {β:Sort _} {γ:Sort _} {p1 p2 p3:α→β→γ→Prop} {c:Prop} (h:∃ x,∃ y,∃ z,p1 x y z∧p2 x y z∧p3 x y z) (k:∀ x,∀ y,∀ z,p1 x y z→p2 x y z→p3 x y z→c):c:=h.elim fun x h0=>h0.elim fun y h1=>h1.elim fun z h2=>k x y z h2.1 h2.2.1 h2.2.2
theorem Py {α:Sort _} {β:Sort _} {γ:Sort _} {δ:Sort _} {p1 p2:α→β→γ→δ→Prop} {c:Prop} (h:∃ x,∃ y,∃ z,∃ w,p1 x y z w∧p2 x y z w) (k:∀ x,∀ y,∀ z,∀ w,p1 x y z w→p2 x y z w→c):c:=h.elim fun x h0=>h0.elim fun y h1=>h1.elim fun z h2=>h2.elim fun w h3=>k x y z w h3.1 h3.2
theorem Cd {α:Sort _} {β:Sort _} {p1:Prop} {p2 p3 p4 p5:α→β→Prop} {c:Prop} (h:p1∧∃ x,∃ y,p2 x y∧p3 x y∧p4 x y∧p5 x y) (k:p1→∀ x,∀ y,p2 x y→p3 x y→p4 x y→p5 x y→c):c:=h.2.elim fun x h1=>h1.elim fun y h2=>k h.1 x y h2.1 h2.2.1 h2.2.2.1 h2.2.2.2
theorem NI {α:Sort _} {β:Sort _} {p1 p2:α→Prop} {p3 p4 p5:α→β→Prop} {c:Prop} (h:∃ x,p1 x∧p2 x∧∃ y,p3 x y∧p4 x y∧p5 x y) (k:∀ x,p1 x→p2 x→∀ y,p3 x y→p4 x y→p5 x y→c):c:=h.elim fun x h0=>h0.2.2.elim fun y h3=>k x h0.1 h0.2.1 y h3.1 h3.2.1 h3.2.2
theorem Mn {α:Sort _} {β:Sort _} {p1 p2 p3 p4 p5:α→β→Prop} {c:Prop} (h:∃ x,∃ y,p1 x y∧p2 x y∧p3 x y∧p4 x y∧p5 x y) (k:∀ x,∀ y,p1 x y→p2 x y→p3 x y→p4 x y→p5 x y→c):c:=h.elim fun x h0=>h0.elim fun y h1=>k x y h1.1 h1.2.1 h1.2.2.1 h1.2.2.2.1 h1.2.2.2.2
theorem Be {α:Sort _} {β:Sort _} {γ:Sort _} {p1 p2 p3 p4:α→β→γ→Prop} {c:Prop} (h:∃ x,∃ y,∃ z,p1 x y z∧p2 x y z∧p3 x y z∧p4 x y z) (k:∀ x,∀ y,∀ z,p1 x y z→p2 x y z→p3 x y z→p4 x y z→c):c:=h.elim fun x h0=>h0.elim fun y h1=>h1.elim fun z h2=>k x y z h2.1 h2.2.1 h2.2.2.1 h2.2.2.2
theorem Gm {α:Sort _} {β:Sort _} {p1:Prop} {p2 p3 p4 p5 p6:α→β→Prop} {c:Prop} (h:p1∧∃ x,∃ y,p2 x y∧p3 x y∧p4 x y∧p5 x y∧p6 x y) (k:p1→∀ x,∀ y,p2 x y→p3 x y→p4 x y→p5 x y→p6 x y→c):c:=h.2.elim fun x h1=>h1.elim fun y h2=>k h.1 x y h2.1 h2.2.1 h2.2.2.1 h2.2.2.2.1 h2.2.2.2.2
theorem ES {α:Sort _} {β:Sort _} {γ:Sort _} {δ:Sort _} {p1:α→Prop} {p2 p3 p4:α→β→γ→δ→Prop} {c:Prop} (h:∃ x,p1 x∧∃ y,∃ z,∃ w,p2 x y z w∧p3 x y z w∧p4 x y z w) (k:∀ x,p1 x→∀ y,∀ z,∀ w,p2 x y z w→p3 x y z w→p4 x y z w→c):c:=h.elim fun x h0=>h0.2.elim fun y h2=>h2.elim fun z h3=>h3.elim fun w h4=>k x h0.1 y z w h4.1 h4.2.1 h4.2.2
theorem BX {α:Sort _} {β:Sort _} {p1 p2 p3 p4 p5 p6:α→β→Prop} {c:Prop} (h:∃ x,∃ y,p1 x y∧p2 x y∧p3 x y∧p4 x y∧p5 x y∧p6 x y) (k:∀ x,∀ y,p1 x y→p2 x y→p3 x y→p4 x y→p5 x y→p6 x y→c):c:=h.elim fun x h0=>h0.elim fun y h1=>k x y h1.1 h1.2.1 h1.2.2.1 h1.2.2.2.1 h1.2.2.2.2.1 h1.2.2.2.2.2
theorem Ak {α:Sort _} {β:Sort _} {γ:Sort _} {p1 p2 p3 p4 p5:α→β→γ→Prop} {c:Prop} (h:∃ x,∃ y,∃ z,p1 x y z∧p2 x y z∧p3 x y z∧p4 x y z∧p5 x y z) (k:∀ x,∀ y,∀ z,p1 x y z→p2 x y z→p3 x y z→p4 x y z→p5 x y z→c):c:=h.elim fun x h0=>h0.elim fun y h1=>h1.elim fun z h2=>k x y z h2.1 h2.2.1 h2.2.2.1 h2.2.2.2.1 h2.2.2.2.2
theorem Gj {α:Sort _} {β:Sort _} {γ:Sort _} {δ:Sort _} {p1 p2 p3 p4:α→β→γ→δ→Prop} {c:Prop} (h:∃ x,∃ y,∃ z,∃ w,p1 x y z w∧p2 x y z w∧p3 x y z w∧p4 x y z w) (k:∀ x,∀ y,∀ z,∀ w,p1 x y z w→p2 x y z w→p3 x y z w→p4 x y z w→c):c:=h.elim fun x h0=>h0.elim fun y h1=>h1.elim fun z h2=>h2.elim fun w h3=>k x y z w h3.1 h3.2.1 h3.2.2.1 h3.2.2.2
theorem D5 {α:Sort _} {β:Sort _} {γ:Sort _} {p1:Prop} {p2 p3 p4 p5 p6:α→β→γ→Prop} {c:Prop} (h:p1∧∃ x,∃ y,∃ z,p2 x y z∧p3 x y z∧p4 x y z∧p5 x y z∧p6 x y z) (k:p1→∀ x,∀ y,∀ z,p2 x y z→p3 x y z→p4 x y z→p5 x y z→p6 x y z→c):c:=h.2.elim fun x h1=>h1.elim fun y h2=>h2.elim fun z h3=>k h.1 x y z h3.1 h3.2.1 h3.2.2.1 h3.2.2.2.1 h3.2.2.2.2
theorem J2 {α:Sort _} {β:Sort _} {p1 p2 p3 p4 p5 p6 p7:α→β→Prop} {c:Prop} (h:∃ x,∃ y,p1 x y∧p2 x y∧p3 x y∧p4 x y∧p5 x y∧p6 x y∧p7 x y) (k:∀ x,∀ y,p1 x y→p2 x y→p3 x y→p4 x y→p5 x y→p6 x y→p7 x y→c):c:=h.elim fun x h0=>h0.elim fun y h1=>k x y h1.1 h1.2.1 h1.2.2.1 h1.2.2.2.1 h1.2.2.2.2.1 h1.2.2.2.2.2.1 h1.2.2.2.2.2.2
theorem JN {α:Sort _} {β:Sort _} {γ:Sort _} {δ:Sort _} {ε:Sort _} {p1 p2 p3 p4:α→β→γ→δ→ε→Prop} {c:Prop} (h:∃ x,∃ y,∃ z,∃ w,∃ v,p1 x y z w v∧p2 x y z w v∧p3 x y z w v∧p4 x y z w v) (k:∀ x,∀ y,∀ z,∀ w,∀ v,p1 x y z w v→p2 x y z w v→p3 x y z w v→p4 x y z w v→c):c:=h.elim fun x h0=>h0.elim fun y h1=>h1.elim fun z h2=>h2.elim fun w h3=>h3.elim fun v h4=>k x y z w v h4.1 h4.2.1 h4.2.2.1 h4.2.2.2
theorem JY {α:Sort _} {β:Sort _} {γ:Sort _} {δ:Sort _} {ε:Sort _} {ζ:Sort _} {p1 p2 p3:α→β→γ→δ→ε→ζ→Prop} {c:Prop} (h:∃ x,∃ y,∃ z,∃ w,∃ v,∃ u,p1 x y z w v u∧p2 x y z w v u∧p3 x y z w v u) (k:∀ x,∀ y,∀ z,∀ w,∀ v,∀ u,p1 x y z w v u→p2 x y z w v u→p3 x y z w v u→c):c:=h.elim fun x h0=>h0.elim fun y h1=>h1.elim fun z h2=>h2.elim fun w h3=>h3.elim fun v h4=>h4.elim fun u h5=>k x y z w v u h5.1 h5.2.1 h5.2.2
theorem IB {α:Sort _} {β:Sort _} {γ:Sort _} {p1:α→Prop} {p2 p3:α→β→Prop} {p4 p5 p6 p7:α→β→γ→Prop} {c:Prop} (h:∃ x,p1 x∧∃ y,p2 x y∧p3 x y∧∃ z,p4 x y z∧p5 x y z∧p6 x y z∧p7 x y z) (k:∀ x,p1 x→∀ y,p2 x y→p3 x y→∀ z,p4 x y z→p5 x y z→p6 x y z→p7 x y z→c):c:=h.elim fun x h0=>h0.2.elim fun y h2=>h2.2.2.elim fun z h5=>k x h0.1 y h2.1 h2.2.1 z h5.1 h5.2.1 h5.2.2.1 h5.2.2.2
theorem DT {α:Sort _} {β:Sort _} {γ:Sort _} {p1 p2 p3 p4 p5 p6 p7:α→β→γ→Prop} {c:Prop} (h:∃ x,∃ y,∃ z,p1 x y z∧p2 x y z∧p3 x y z∧p4 x y z∧p5 x y z∧p6 x y z∧p7 x y z) (k:∀ x,∀ y,∀ z,p1 x y z→p2 x y z→p3 x y z→p4 x y z→p5 x y z→p6 x y z→p7 x y z→c):c:=h.elim fun x h0=>h0.elim fun y h1=>h1.elim fun z h2=>k x y z h2.1 h2.2.1 h2.2.2.1 h2.2.2.2.1 h2.2.2.2.2.1 h2.2.2.2.2.2.1 h2.2.2.2.2.2.2
theorem ID {α:Sort _} {β:Sort _} {γ:Sort _} {δ:Sort _} {ε:Sort _} {p1 p2 p3 p4 p5:α→β→γ→δ→ε→Prop} {c:Prop} (h:∃ x,∃ y,∃ z,∃ w,∃ v,p1 x y z w v∧p2 x y z w v∧p3 x y z w v∧p4 x y z w v∧p5 x y z w v) (k:∀ x,∀ y,∀ z,∀ w,∀ v,p1 x y z w v→p2 x y z w v→p3 x y z w v→p4 x y z w v→p5 x y z w v→c):c:=h.elim fun x h0=>h0.elim fun y h1=>h1.elim fun z h2=>h2.elim fun w h3=>h3.elim fun v h4=>k x y z w v h4.1 h4.2.1 h4.2.2.1 h4.2.2.2.1 h4.2.2.2.2
theorem EP {α:Sort _} {β:Sort _} {γ:Sort _} {δ:Sort _} {ε:Sort _} {ζ:Sort _} {p1:Prop} {p2 p3 p4 p5:α→β→γ→δ→ε→ζ→Prop} {c:Prop} (h:p1∧∃ x,∃ y,∃ z,∃ w,∃ v,∃ u,p2 x y z w v u∧p3 x y z w v u∧p4 x y z w v u∧p5 x y z w v u) (k:p1→∀ x,∀ y,∀ z,∀ w,∀ v,∀ u,p2 x y z w v u→p3 x y z w v u→p4 x y z w v u→p5 x y z w v u→c):c:=h.2.elim fun x h1=>h1.elim fun y h2=>h2.elim fun z h3=>h3.elim fun w h4=>h4.elim fun v h5=>h5.elim fun u h6=>k h.1 x y z w v u h6.1 h6.2.1 h6.2.2.1 h6.2.2.2
theorem G9 {α:Sort _} {β:Sort _} {γ:Sort _} {δ:Sort _} {p1 p2 p3 p4 p5 p6 p7:α→β→γ→δ→Prop} {c:Prop} (h:∃ x,∃ y,∃ z,∃ w,p1 x y z w∧p2 x y z w∧p3 x y z w∧p4 x y z w∧p5 x y z w∧p6 x y z w∧p7 x y z w) (k:∀ x,∀ y,∀ z,∀ w,p1 x y z w→p2 x y z w→p3 x y z w→p4 x y z w→p5 x y z w→p6 x y z w→p7 x y z w→c):c:=h.elim fun x h0=>h0.elim fun y h1=>h1.elim fun z h2=>h2.elim fun w h3=>k x y z w h3.1 h3.2.1 h3.2.2.1 h3.2.2.2.1 h3.2.2.2.2.1 h3.2.2.2.2.2.1 h3.2.2.2.2.2.2
theorem Gy {α:Sort _} {β:Sort _} {γ:Sort _} {p1 p2 p3 p4 p5 p6:α→β→Prop} {p7 p8 p9:α→β→γ→Prop} {c:Prop} (h:∃ x,∃ y,p1 x y∧p2 x y∧p3 x y∧p4 x y∧p5 x y∧p6 x y∧∃ z,p7 x y z∧p8 x y z∧p9 x y z) (k:∀ x,∀ y,p1 x y→p2 x y→p3 x y→p4 x y→p5 x y→p6 x y→∀ z,p7 x y z→p8 x y z→p9 x y z→c):c:=h.elim fun x h0=>h0.elim fun y h1=>h1.2.2.2.2.2.2.elim fun z h8=>k x y h1.1 h1.2.1 h1.2.2.1 h1.2.2.2.1 h1.2.2.2.2.1 h1.2.2.2.2.2.1 z h8.1 h8.2.1 h8.2.2
theorem G3 {α:Sort _} {β:Sort _} {γ:Sort _} {δ:Sort _} {ε:Sort _} {ζ:Sort _} {p1 p2 p3 p4 p5 p6:α→β→γ→δ→ε→ζ→Prop} {c:Prop} (h:∃ x,∃ y,∃ z,∃ w,∃ v,∃ u,p1 x y z w v u∧p2 x y z w v u∧p3 x y z w v u∧p4 x y z w v u∧p5 x y z w v u∧p6 x y z w v u) (k:∀ x,∀ y,∀ z,∀ w,∀ v,∀ u,p1 x y z w v u→p2 x y z w v u→p3 x y z w v u→p4 x y z w v u→p5 x y z w v u→p6 x y z w v u→c):c:=h.elim fun x h0=>h0.elim fun y h1=>h1.elim fun z h2=>h2.elim fun w h3=>h3.elim fun v h4=>h4.elim fun u h5=>k x y z w v u h5.1 h5.2.1 h5.2.2.1 h5.2.2.2.1 h5.2.2.2.2.1 h5.2.2.2.2.2
theorem Fx {α:Sort _} {β:Sort _} {p1 p2 p3 p4 p5 p6 p7 p8 p9 p10 p11:α→β→Prop} {c:Prop} (h:∃ x,∃ y,p1 x y∧p2 x y∧p3 x y∧p4 x y∧p5 x y∧p6 x y∧p7 x y∧p8 x y∧p9 x y∧p10 x y∧p11 x y) (k:∀ x,∀ y,p1 x y→p2 x y→p3 x y→p4 x y→p5 x y→p6 x y→p7 x y→p8 x y→p9 x y→p10 x y→p11 x y→c):c:=h.elim fun x h0=>h0.elim fun y h1=>k x y h1.1 h1.2.1 h1.2.2.1 h1.2.2.2.1 h1.2.2.2.2.1 h1.2.2.2.2.2.1 h1.2.2.2.2.2.2.1 h1.2.2.2.2.2.2.2.1 h1.2.2.2.2.2.2.2.2.1 h1.2.2.2.2.2.2.2.2.2.1 h1.2.2.2.2.2.2.2.2.2.2
theorem Bq {α:Sort _} {β:Sort _} {γ:Sort _} {δ:Sort _} {ε:Sort _} {ζ:Sort _} {p1 p2 p3 p4 p5 p6 p7:α→β→γ→δ→ε→ζ→Prop} {c:Prop} (h:∃ x,∃ y,∃ z,∃ w,∃ v,∃ u,p1 x y z w v u∧p2 x y z w v u∧p3 x y z w v u∧p4 x y z w v u∧p5 x y z w v u∧p6 x y z w v u∧p7 x y z w v u) (k:∀ x,∀ y,∀ z,∀ w,∀ v,∀ u,p1 x y z w v u→p2 x y z w v u→p3 x y z w v u→p4 x y z w v u→p5 x y z w v u→p6 x y z w v u→p7 x y z w v u→c):c:=h.elim fun x h0=>h0.elim fun y h1=>h1.elim fun z h2=>h2.elim fun w h3=>h3.elim fun v h4=>h4.elim fun u h5=>k x y z w v u h5.1 h5.2.1 h5.2.2.1 h5.2.2.2.1 h5.2.2.2.2.1 h5.2.2.2.2.2.1 h5.2.2.2.2.2.2
theorem A1 {α1:Sort _} {α2:Sort _} {α3:Sort _} {α4:Sort _} {α5:Sort _} {α6:Sort _} {α7:Sort _} {α8:Sort _} {α9:Sort _} {α10:Sort _} {α11:Sort _} {α12:Sort _} {p1:α1→α2→α3→α4→α5→α6→α7→α8→α9→α10→α11→α12→Prop} {c:Prop} (h:∃ x1,∃ x2,∃ x3,∃ x4,∃ x5,∃ x6,∃ x7,∃ x8,∃ x9,∃ x10,∃ x11,∃ x12,p1 x1 x2 x3 x4 x5 x6 x7 x8 x9 x10 x11 x12) (k:∀ x1,∀ x2,∀ x3,∀ x4,∀ x5,∀ x6,∀ x7,∀ x8,∀ x9,∀ x10,∀ x11,∀ x12,p1 x1 x2 x3 x4 x5 x6 x7 x8 x9 x10 x11 x12→c):c:=h.elim fun x1 h0=>h0.elim fun x2 h1=>h1.elim fun x3 h2=>h2.elim fun x4 h3=>h3.elim fun x5 h4=>h4.elim fun x6 h5=>h5.elim fun x7 h6=>h6.elim fun x8 h7=>h7.elim fun x9 h8=>h8.elim fun x10 h9=>h9.elim fun x11 h10=>h10.elim fun x12 h11=>k x1 x2 x3 x4 x5 x6 x7 x8 x9 x10 x11 x12 h11
theorem Bd {α:Sort _} {β:Sort _} {γ:Sort _} {δ:Sort _} {p1 p2 p3 p4 p5 p6 p7 p8 p9 p10:α→β→γ→δ→Prop} {c:Prop} (h:∃ x,∃ y,∃ z,∃ w,p1 x y z w∧p2 x y z w∧p3 x y z w∧p4 x y z w∧p5 x y z w∧p6 x y z w∧p7 x y z w∧p8 x y z w∧p9 x y z w∧p10 x y z w) (k:∀ x,∀ y,∀ z,∀ w,p1 x y z w→p2 x y z w→p3 x y z w→p4 x y z w→p5 x y z w→p6 x y z w→p7 x y z w→p8 x y z w→p9 x y z w→p10 x y z w→c):c:=h.elim fun x h0=>h0.elim fun y h1=>h1.elim fun z h2=>h2.elim fun w h3=>k x y z w h3.1 h3.2.1 h3.2.2.1 h3.2.2.2.1 h3.2.2.2.2.1 h3.2.2.2.2.2.1 h3.2.2.2.2.2.2.1 h3.2.2.2.2.2.2.2.1 h3.2.2.2.2.2.2.2.2.1 h3.2.2.2.2.2.2.2.2.2
theorem FQ {α1:Sort _} {α2:Sort _} {α3:Sort _} {α4:Sort _} {α5:Sort _} {α6:Sort _} {α7:Sort _} {α8:Sort _} {α9:Sort _} {p1 p2 p3 p4 p5:α1→α2→α3→α4→α5→α6→α7→α8→α9→Prop} {c:Prop} (h:∃ x1,∃ x2,∃ x3,∃ x4,∃ x5,∃ x6,∃ x7,∃ x8,∃ x9,p1 x1 x2 x3 x4 x5 x6 x7 x8 x9∧p2 x1 x2 x3 x4 x5 x6 x7 x8 x9∧p3 x1 x2 x3 x4 x5 x6 x7 x8 x9∧p4 x1 x2 x3 x4 x5 x6 x7 x8 x9∧p5 x1 x2 x3 x4 x5 x6 x7 x8 x9) (k:∀ x1,∀ x2,∀ x3,∀ x4,∀ x5,∀ x6,∀ x7,∀ x8,∀ x9,p1 x1 x2 x3 x4 x5 x6 x7 x8 x9→p2 x1 x2 x3 x4 x5 x6 x7 x8 x9→p3 x1 x2 x3 x4 x5 x6 x7 x8 x9→p4 x1 x2 x3 x4 x5 x6 x7 x8 x9→p5 x1 x2 x3 x4 x5 x6 x7 x8 x9→c):c:=h.elim fun x1 h0=>h0.elim fun x2 h1=>h1.elim fun x3 h2=>h2.elim fun x4 h3=>h3.elim fun x5 h4=>h4.elim fun x6 h5=>h5.elim fun x7 h6=>h6.elim fun x8 h7=>h7.elim fun x9 h8=>k x1 x2 x3 x4 x5 x6 x7 x8 x9 h8.1 h8.2.1 h8.2.2.1 h8.2.2.2.1 h8.2.2.2.2
theorem C6 {α1:Sort _} {α2:Sort _} {α3:Sort _} {α4:Sort _} {α5:Sort _} {α6:Sort _} {α7:Sort _} {α8:Sort _} {α9:Sort _} {α10:Sort _} {α11:Sort _} {α12:Sort _} {α13:Sort _} {α14:Sort _} {α15:Sort _} {α16:Sort _} {α17:Sort _} {p1 p2 p3 p4:α1→α2→α3→α4→α5→α6→α7→α8→α9→α10→α11→α12→α13→α14→α15→α16→α17→Prop} {c:Prop} (h:∃ x1,∃ x2,∃ x3,∃ x4,∃ x5,∃ x6,∃ x7,∃ x8,∃ x9,∃ x10,∃ x11,∃ x12,∃ x13,∃ x14,∃ x15,∃ x16,∃ x17,p1 x1 x2 x3 x4 x5 x6 x7 x8 x9 x10 x11 x12 x13 x14 x15 x16 x17∧p2 x1 x2 x3 x4 x5 x6 x7 x8 x9 x10 x11 x12 x13 x14 x15 x16 x17∧p3 x1 x2 x3 x4 x5 x6 x7 x8 x9 x10 x11 x12 x13 x14 x15 x16 x17∧p4 x1 x2 x3 x4 x5 x6 x7 x8 x9 x10 x11 x12 x13 x14 x15 x16 x17) (k:∀ x1,∀ x2,∀ x3,∀ x4,∀ x5,∀ x6,∀ x7,∀ x8,∀ x9,∀ x10,∀ x11,∀ x12,∀ x13,∀ x14,∀ x15,∀ x16,∀ x17,p1 x1 x2 x3 x4 x5 x6 x7 x8 x9 x10 x11 x12 x13 x14 x15 x16 x17→p2 x1 x2 x3 x4 x5 x6 x7 x8 x9 x10 x11 x12 x13 x14 x15 x16 x17→p3 x1 x2 x3 x4 x5 x6 x7 x8 x9 x10 x11 x12 x13 x14 x15 x16 x17→p4 x1 x2 x3 x4 x5 x6 x7 x8 x9 x10 x11 x12 x13 x14 x15 x16 x17→c):c:=h.elim fun x1 h0=>h0.elim fun x2 h1=>h1.elim fun x3 h2=>h2.elim fun x4 h3=>h3.elim fun x5 h4=>h4.elim fun x6 h5=>h5.elim fun x7 h6=>h6.elim fun x8 h7=>h7.elim fun x9 h8=>h8.elim fun x10 h9=>h9.elim fun x11 h10=>h10.elim fun x12 h11=>h11.elim fun x13 h12=>h12.elim fun x14 h13=>h13.elim fun x15 h14=>h14.elim fun x16 h15=>h15.elim fun x17 h16=>k x1 x2 x3 x4 x5 x6 x7 x8 x9 x10 x11 x12 x13 x14 x15 x16 x17 h16.1 h16.2.1 h16.2.2.1 h16.2.2.2
end Mine
namespace Mine
open PySem PySem.Calls PySem.W PyProof.Rows
noncomputable def F7 (p:Program) (w:World) (n₀:Nat) (ann:Option Value):Nat→SharedT→Thread→Option SharedT
 | 0,_,_=>none
 | n + 1,s,t=>match through t with
  | true=>some s
  | false=>match PySem.W.Fast.tw6613529449190102663 n₀ ann t with
   | false=>none
   | true=>match PySem.W.Fast.tw10156331382660048174 (PySem.W.Fast.tw11892475500146522536 PySem.W.Fast.tw14364793385576792824) p w s t with
    | some (s',t')=>F7 p w n₀ ann n s' t'
    | none=>none
theorem GV:∀ {n:Nat} {s s':SharedT} {t:Thread},F7 p w n₀ ann n s t=some s'→topRun treeTable p w n₀ ann n s.abs t=some s'.abs
 | 0,_,_,_,h=>by cases h
 | n + 1,s,s',t,h=>by
  unfold F7 at h
  unfold topRun
  rw [← PySem.W.Fast.te6613529449190102663,← PySem.W.Fast.te10156331382660048174,← PySem.W.Fast.te11892475500146522536,← PySem.W.Fast.te14364793385576792824] at h
  cases he:through t with
  | true=>rw [he] at h;cases h;rfl
  | false=>
   rw [he] at h
   cases hk:stepOk n₀ ann t with
   | false=>rw [hk] at h;cases h
   | true=>
    rw [hk] at h
    cases hs:stepT (denote treeTable) p w s t with
    | none=>rw [hs] at h;cases h
    | some r=>obtain ⟨s₂,t₂⟩:=r;rw [hs] at h;rw [stepT_spec hs];exact GV h
noncomputable def Gw (P:Params):BT:=((boot_heap P).objs.toList.foldl (fun (x:BT × Nat) o=>(x.1.ins x.2 o,x.2 + 1)) (BT.nil,0)).1
theorem J5 (P:Params):boot_heap P=absHeap (Gw P) 11 {}:=by kernel_rfl
end Mine
namespace Mine
open PySem
noncomputable def Ris (xs:Array Nat):Prop:=xs.toList.Pairwise (· < ·)
theorem N8 (xs:Array Nat) (k:Nat):xs.getD k 0=(xs[k]?).getD 0:=by rw [Array.getD_eq_getD_getElem?]
theorem CA {xs:Array Nat} {i:Nat} (d:Nat) (h:i < xs.size):xs.getD i d=xs.toList[i]:=by
 rw [Array.getD_eq_getD_getElem?,Array.getElem?_eq_getElem h];rfl
theorem Ris.lt {xs:Array Nat} (R:Ris xs) {i j:Nat} (h:i < j) (hj:j < xs.size):xs.getD i 0 < xs.getD j 0:=by
 rw [CA 0 hj,CA 0 (Nat.lt_trans h hj)]
 exact List.pairwise_iff_getElem.mp R i j (Nat.lt_trans h hj) hj h
theorem Ris.le (R:Ris xs) (h:i≤k) (h':k < xs.size):xs.getD i 0≤xs.getD k 0:=
 (Nat.lt_or_eq_of_le h).elim (fun h=>Nat.le_of_lt (R.lt h h')) fun e=>e▸Nat.le_refl _
noncomputable def LT (xs:Array Nat) (j r:Nat):Prop:=r≤xs.size∧(∀ i,i < r→xs.getD i 0 < j)∧∀ i,r≤i→i < xs.size→j≤xs.getD i 0
theorem OL {xs:Array Nat} {j:Nat} (R:Ris xs) (f:Nat):∀ lo hi:Nat,lo≤hi→hi≤xs.size→hi≤lo + f→(∀ i,i < lo→xs.getD i 0 < j)→(∀ i,hi≤i→i < xs.size→j≤xs.getD i 0)→LT xs j (SetTable.below.go xs j f lo hi):=by
 induction f with
 | zero=>exact fun lo hi h1 h2 h3 a b=>⟨Nat.le_trans h1 h2,a,fun i h=>b i (Nat.le_trans h3 h)⟩
 | succ f ih=>
  intro lo hi h1 h2 h3 a b
  by_cases hlt:lo < hi
  ·have m1:lo≤(lo + hi) / 2:=(Nat.le_div_iff_mul_le (by decide)).mpr (by rw [Nat.mul_two];exact Nat.add_le_add_left h1 lo)
   have m2:(lo + hi) / 2 < hi:=Nat.div_lt_of_lt_mul (by rw [Nat.two_mul];exact Nat.add_lt_add_right hlt hi)
   have hm:=Nat.lt_of_lt_of_le m2 h2
   by_cases hc:xs.getD ((lo + hi) / 2) j < j
   ·rw [show SetTable.below.go xs j (f + 1) lo hi=SetTable.below.go xs j f ((lo + hi) / 2 + 1) hi from (if_pos hlt).trans (if_pos hc)]
    rw [CA j hm,← CA 0 hm] at hc
    exact ih _ hi m2 h2 (by rw [Nat.add_right_comm];exact Nat.le_trans h3 (Nat.add_le_add_right m1 (f + 1))) (fun i h=>Nat.lt_of_le_of_lt (R.le (Nat.le_of_lt_succ h) hm) hc) b
   ·rw [show SetTable.below.go xs j (f + 1) lo hi=SetTable.below.go xs j f lo ((lo + hi) / 2) from (if_pos hlt).trans (if_neg hc)]
    rw [CA j hm,← CA 0 hm] at hc
    exact ih lo _ m1 (Nat.le_of_lt hm) (Nat.le_of_lt_succ (Nat.lt_of_lt_of_le m2 h3)) a fun i h4 h5=>Nat.le_trans (Nat.le_of_not_lt hc) (R.le h4 h5)
  ·rw [show SetTable.below.go xs j (f + 1) lo hi=lo from if_neg hlt]
   exact ⟨Nat.le_trans h1 h2,a,fun i h=>b i (Nat.le_trans (Nat.le_of_not_lt hlt) h)⟩
theorem Gr (R:Ris xs):LT xs j (SetTable.below xs j):=
 OL R xs.size 0 xs.size (Nat.zero_le _) (Nat.le_refl _) (Nat.le_add_left _ _) (fun i h=>absurd h (Nat.not_lt_zero _)) fun i h h'=>absurd h' (Nat.not_lt.mpr h)
theorem Kv (R:Ris xs) (h:i < xs.size):SetTable.below xs (xs.getD i 0 + 1)=i + 1:=by
 have k:=Gr (j:=xs.getD i 0 + 1) R
 exact Nat.le_antisymm (Nat.not_lt.mp fun h1=>Nat.not_lt.mpr (R.lt (Nat.lt_succ_self i) (Nat.lt_of_lt_of_le h1 k.1)) (k.2.1 (i + 1) h1)) (Nat.not_lt.mp fun h1=>Nat.lt_irrefl _ (k.2.2 i (Nat.le_of_lt_succ h1) h))
theorem LH (R:Ris xs):SetTable.below xs 0=0:=Nat.eq_zero_of_not_pos fun h=>Nat.not_lt_zero _ ((Gr R).2.1 0 h)
theorem Kt {xs:Array Nat} {j:Nat} (R:Ris xs) (hj:xs[SetTable.below xs j]? ≠ some j):Ris (SetTable.insertAt xs (SetTable.below xs j) j):=by
 refine Bm (Gr (j:=j) R) fun a b c=>?_
 unfold Ris
 rw [SetTable.toList_insertAt]
 generalize SetTable.below xs j=p at *
 have hb:∀ x ∈ xs.toList.take p,x < j:=fun x hx=>(List.mem_take_iff_getElem.mp hx).elim fun i h=>h.elim fun h e=>by
  have h:=Nat.lt_min.mp h
  have:=b i h.1
  rw [CA 0 h.2] at this;exact e▸this
 have hc:∀ x ∈ xs.toList.drop p,j < x:=fun x hx=>(List.mem_drop_iff_getElem.mp hx).elim fun i h=>h.elim fun h e=>by
  have h:p + i < xs.size:=Nat.add_comm i p▸h
  have h1:=c (p + i) (Nat.le_add_right _ _) h
  rw [CA 0 h] at h1
  refine Nat.lt_of_le_of_ne (e▸h1) fun e'=>?_
  have hp:=Nat.lt_of_le_of_lt (Nat.le_add_right p i) h
  have h2:=c p (Nat.le_refl _) hp
  rw [CA 0 hp] at h2
  refine (Nat.eq_zero_or_pos i).elim (fun z=>?_) fun z=>?_
  ·subst z
   exact hj (by rw [e',← e];exact Array.getElem?_eq_getElem hp)
  ·have h3:=R.lt (Nat.lt_add_of_pos_right z) h
   rw [CA 0 h,CA 0 hp] at h3
   exact Nat.lt_irrefl _ (Nat.lt_of_le_of_lt h2 (Nat.lt_of_lt_of_eq h3 (e.trans e'.symm)))
 exact List.pairwise_append.mpr ⟨R.sublist (List.take_sublist ..),List.pairwise_cons.mpr ⟨hc,R.sublist (List.drop_sublist ..)⟩,fun x hx=>List.forall_mem_cons.mpr ⟨hb x hx,fun y hy=>Nat.lt_trans (hb x hx) (hc y hy)⟩⟩
theorem Nk (n:Nat):Ris (Array.range n):=by unfold Ris;rw [Array.toList_range];exact List.pairwise_lt_range
noncomputable def Mr (t:SetTable) (j:Nat):Prop:=t.place[SetTable.below t.place j]? ≠ some j
theorem ND (h:∀ i,t.slot j ≠ .live i):Mr t j:=fun e=>by
 refine h (SetTable.below t.place j) ?_
 unfold SetTable.slot
 simp [e]
theorem EQ {t:SetTable} {p:SetTable.Probe}:(t.advance p).dummy=p.dummy:=by
 unfold SetTable.advance
 split <;> rfl
noncomputable def Ie (t:SetTable):Option SetTable.Met→Prop
 | some (.empty j d)=>Mr t j∧∀ e,d=some e→Mr t e
 | _=>True
theorem KU {t:SetTable} {f:Nat→Int} {h:Int} (n:Nat):∀ p:SetTable.Probe,(∀ e,p.dummy=some e→Mr t e)→Ie t (SetTable.probe.go t f h n p):=by
 induction n with
 | zero=>exact fun _ _=>trivial
 | succ n ih=>
  intro p hp
  have hf:(∀ i,t.slot p.j ≠ .live i)→Mr t p.j:=ND
  show Ie t (match t.slot p.j with
   | .empty=>some (.empty p.j p.dummy)
   | .dummy=>SetTable.probe.go t f h n (t.advance { p with dummy:=some p.j })
   | .live i=>if f i == h then some (.candidate p.j i (t.advance p)) else SetTable.probe.go t f h n (t.advance p))
  generalize t.slot p.j=s at hf ⊢
  cases s with
  | empty=>exact ⟨hf nofun,hp⟩
  | dummy=>exact ih _ fun e he=>Option.some.inj (EQ.symm.trans he)▸hf nofun
  | live i=>
   show Ie t (if f i == h then _ else _)
   by_cases hc:(f i == h)=true
   ·rw [if_pos hc];trivial
   ·rw [if_neg hc];exact ih _ fun e he=>hp e (EQ.symm.trans he)
theorem G4 (e:t.freeSlot h=some (j,b)):Mr t j:=by
 have k:=KU (t:=t) (f:=fun _=>h + 1) (h:=h) (10 * SetTable.turns t.mask) (t.probeStart h) nofun
 unfold SetTable.freeSlot SetTable.probe at e
 generalize SetTable.probe.go t (fun _=>h + 1) h (10 * SetTable.turns t.mask) (t.probeStart h)=m at k e
 cases m with
 | none=>cases e
 | some m=>
  cases m with
  | candidate=>cases e
  | empty j' d=>
   cases d with
   | none=>cases e;exact k.1
   | some x=>cases e;exact k.2 x rfl
theorem Cz {t:SetTable} {n:Nat}:Ris (t.standIn n).place:=Nk n
theorem HA {t:SetTable} {n:Nat} (R:Ris t.place):Ris (t.orStandIn n).place∧(t.orStandIn n).led=t.led:=by
 unfold SetTable.orStandIn
 split
 ·exact ⟨R,rfl⟩
 ·exact ⟨Cz,rfl⟩
theorem Kw {t:SetTable} {es:Array (Int × Value)} {h:Int} {x:Value} (R:Ris t.place):Ris (layNew t es h x).2.1.place∧(layNew t es h x).2.1.led=t.led:=by
 unfold layNew
 split
 ·rename_i slot wd hf
  have hr:Ris (t.put slot).1.place:=Kt R (G4 hf)
  exact HA (t:=(t.put slot).1) hr
 ·exact ⟨Cz,rfl⟩
theorem Oe {g:Nat→Option Nat} (n:Nat):Ris ((((List.range n).filterMap fun j=>(g j).map (j,·)).map (·.1)).toArray):=by
 have hp:(((List.range n).filterMap fun j=>(g j).map (j,·)).map (·.1)).Pairwise (· < ·):=by
  rw [List.pairwise_map,List.pairwise_filterMap]
  refine List.pairwise_lt_range.imp fun {a b} hab x hx y hy=>?_
  refine AF (Option.map_eq_some_iff.mp hx) fun u _ ze1=>?_;subst ze1
  refine AF (Option.map_eq_some_iff.mp hy) fun v _ ze1=>?_;subst ze1
  exact hab
 exact hp
theorem Id {n:Nat}:Ris (relayAll t es n).2.1.place∧(relayAll t es n).2.1.led=t.led:=by
 unfold relayAll
 split
 ·rename_i t' order hr
  have key:Ris t'.place∧t'.led=t.led:=by
   unfold SetTable.relaid SetTable.laid at hr
   simp only [Option.bind_eq_bind,Option.pure_def,Option.bind_eq_some_iff,Option.some.injEq,Prod.mk.injEq] at hr
   refine AZ hr fun owner _ ze1 _=>?_;subst ze1
   exact ⟨Oe _,rfl⟩
  dsimp only
  split
  ·exact key
  ·exact ⟨Cz,rfl⟩
 ·exact ⟨Cz,rfl⟩
end Mine
namespace Mine
open PySem PySem.Spec PyProof.Rows
section
variable {prog:Program} {w:World} {A:Around} {E:Value→Shared→Prop} {s:Shared}
noncomputable def Cq (es:Array (Int × Value)):List Int:=es.toList.map fun e=>numOf e.2
variable (prog w) in
noncomputable def SetR (h:Heap) (a:Addr) (led:Bool) (ks:List Int):Prop:=
 ∃ o es ep t,h.get? a=some o∧o.ExactSet∧o.data=.set es ep t∧ElemsOf (intKind prog w) es.toList∧ks=Cq es∧ks.Nodup∧es.size < scanBound∧t.fits es.size=true∧Ris t.place∧t.led=led
theorem Jy (h:ElemsOf (intKind prog w) es) (he:e ∈ es):∃ t,e.2=.int (numOf e.2) t:=by
 obtain ⟨⟨k,hk,_⟩,_⟩:=h e he
 refine AU (Value.isInt_shape hk) fun t ht=>?_
 exact ⟨t,by rw [ht];rfl⟩
theorem PW (h:ElemsOf (intKind prog w) es) (he:e ∈ es):(intKind prog w).is k e.2=true ↔ numOf e.2=k:=by
 refine AU (Jy h he) fun t ht=>?_
 rw [ht]
 constructor
 ·intro hk
  have hk:Value.isInt k (Value.int (numOf e.2) t)=true:=hk
  refine AU (Value.isInt_shape hk) fun t' e'=>?_
  cases e';rfl
 ·intro hk
  have:numOf e.2=k:=by simpa [numOf] using hk
  rw [this];exact intKind_is _ _ _ _
theorem J3 {g:Bool→Sem Unit} (hg:∀ (b:Bool) (s₁:Shared) (Q':Unit→Shared→Prop),Q' () s₁→wpAny (model prog w) A (g b) Q' E s₁) {ep:Nat} (ho:s.heap.get? a=some o) (hex:o.ExactSet) (hd:o.data=.set es ep t) (hel1:ElemsOf (intKind prog w) es1.toList) (hnd:(Cq es1).Nodup) (hb1:es1.size < scanBound) (hf2:t2.fits es1.size=true) (hr:Ris t2.place) {led:Bool} (hled:t2.led=led)
  {wasDummy:Bool} {R:Option Bool→Shared→Prop}
  (h:∀ h' ks',Heap.SameBut a s.heap h'→SetR prog w h' a led ks'→ks'.Perm (Cq es1)→R (some true) { s with heap:=h' }) :
  wpAny (model prog w) A (do
    storeSet a es1 t2
    if (!wasDummy && t2.tooFull)=true then do
      g (relayAll t2 es1 (SetTable.grown es1.size)).2.2
      storeSet a (relayAll t2 es1 (SetTable.grown es1.size)).1 (relayAll t2 es1 (SetTable.grown es1.size)).2.1
      pure (some true)
     else pure (some true)) R E s:=by
 have stored:∀ {h₁:Heap} {o₁:Obj} {es₁:Array (Int × Value)} {ep₁:Nat} {t₁:SetTable} (es':Array (Int × Value)) (t':SetTable),h₁.get? a=some o₁→o₁.data=.set es₁ ep₁ t₁ →
   (h₁.update a (Obj.putSet es' t')).get? a=some { o₁ with data:=.set es' (ep₁ + 1) t' }:=fun es' t' h1 h2=>by
  have:=Heap.get?_update_self (Obj.putSet es' t') h1 (by rw [putSet_of es' t' h2];rfl)
  rw [putSet_of es' t' h2] at this;exact this
 refine wpAny_bind (wpAny_storeSet_of ho hd ?_ (fits_of_scanBound hb1))
 have ho1:=stored es1 t2 ho hd
 have hsb1:=Heap.SameBut.update s.heap a (Obj.putSet es1 t2)
 split
 ·have hp:=relayAll_perm t2 es1 (SetTable.grown es1.size)
  have hfr:=relayAll_fits t2 es1 (SetTable.grown es1.size)
  have hrr:=Id (t:=t2) (es:=es1) (n:=SetTable.grown es1.size)
  generalize relayAll t2 es1 (SetTable.grown es1.size)=Rl at hp hfr hrr ⊢
  obtain ⟨es2,t3,gave2⟩:=Rl
  dsimp only at hp hfr hrr ⊢
  have hsz:es2.size=es1.size:=by rw [← Array.length_toList,hp.length_eq,Array.length_toList]
  have hb2:es2.size < scanBound:=by rw [hsz];exact hb1
  have hk:(Cq es2).Perm (Cq es1):=hp.map _
  refine wpAny_bind (hg _ _ _ ?_)
  refine wpAny_bind (wpAny_storeSet_of ho1 rfl ?_ (fits_of_scanBound hb2))
  exact wpAny_pure (h _ (Cq es2) (hsb1.trans (Heap.SameBut.update _ a _)) ⟨_,es2,_,t3,stored es2 t3 ho1 rfl,hex,rfl,hel1.perm hp,rfl,hk.nodup_iff.mpr hnd,hb2,hfr,hrr.1,hrr.2.trans hled⟩ hk)
 ·exact wpAny_pure (h _ (Cq es1) hsb1 ⟨_,es1,_,t2,ho1,hex,rfl,hel1,rfl,hnd,hb1,hf2,hr,hled⟩ (List.Perm.refl _))
theorem T0 (S:SetR prog w s.heap a led ks) (hroom:ks.length + 1 < scanBound)
  (h:∀ h' ks' b,Heap.SameBut a s.heap h'→SetR prog w h' a led ks'→(∀ x,x ∈ ks' ↔ x ∈ ks∨x=k)→ks'.length≤ks.length + 1→Q b { s with heap:=h' }) :
  wpAny (model prog w) A (setAddHashed a (.int k tk) ((intKind prog w).hash k)) Q E s:=by
 refine Bd (id S) fun o es ep t ho hex hd hel hks hnd hb hf hr hled=>?_
 have hlen:ks.length=es.size:=by rw [hks];simp [Cq]
 have hkey:=intKind_is prog w k tk
 have hsc:(Value.int k tk).scannable=true:=rfl
 unfold setAddHashed setAddHashedIn
 refine wpAny_holding (wpAny_bind (wpAny_setState_of ho hd hf ?_))
 dsimp only
 rw [byScan_of hsc hb hel]
 simp only [↓reduceIte]
 unfold setAddByScan
 refine wpAny_bind ?_
 refine wpAny_bind (wpAny_rule ?_)
 refine wpAny_bind (wpAny_setScan_of hkey ho hd hf hel ?_)
 cases hi:List.findIdx? (fun e=>(intKind prog w).is k e.2) es.toList with
 | some j=>
  dsimp only
  refine AF (List.findIdx?_eq_some_iff_getElem.mp hi) fun hj hpj _=>?_
  have hm:k ∈ ks:=by
   rw [hks]
   exact List.mem_map.mpr ⟨es.toList[j],List.getElem_mem hj,(PW hel (List.getElem_mem hj)).mp hpj⟩
  refine wpAny_pure (wpAny_pure ?_)
  have e:s={ s with heap:=s.heap }:=by cases s;rfl
  rw [e]
  exact h s.heap ks _ (Heap.SameBut.refl a s.heap) S (fun x=>⟨.inl,fun q=>q.elim id fun q=>q▸hm⟩) (Nat.le_succ _)
 | none=>
  dsimp only
  have hm:k ∉ ks:=fun q=>by
   rw [hks] at q
   refine AF (List.mem_map.mp q) fun e he hk=>?_
   have h1:=List.findIdx?_eq_none_iff.mp hi e he
   rw [(PW hel he).mpr hk] at h1;cases h1
  have hgw:∀ (b:Bool) {s₁:Shared} {Q':Unit→Shared→Prop},Q' () s₁→wpAny (model prog w) A (match b with | true=>rule "set.scan.the-table-gave-way" | false=>pure ()) Q' E s₁:=
   fun b s₁ Q' hq=>by cases b <;> first | exact wpAny_pure hq | exact wpAny_rule hq
  have hperm:=layNew_perm t es ((intKind prog w).hash k) (.int k tk)
  have hfits:=layNew_fits t es ((intKind prog w).hash k) (.int k tk)
  have hris:=Kw (es:=es) (h:=(intKind prog w).hash k) (x:=.int k tk) hr
  generalize layNew t es ((intKind prog w).hash k) (.int k tk)=L at hperm hfits hris ⊢
  obtain ⟨es1,t1,wasDummy,gave⟩:=L
  dsimp only at hperm hfits hris ⊢
  rw [Array.toList_push] at hperm
  have hel1:ElemsOf (intKind prog w) es1.toList:=(hel.push hkey hsc).perm hperm
  have hsz1:es1.size=es.size + 1:=by rw [← Array.length_toList,hperm.length_eq,List.length_append,Array.length_toList];rfl
  have hk1:(Cq es1).Perm (ks ++ [k]):=by
   rw [hks]
   have:=hperm.map fun e=>numOf e.2
   rw [List.map_append] at this
   exact this
  have hnd1:(Cq es1).Nodup:=by
   rw [hk1.nodup_iff,List.nodup_append]
   exact ⟨hnd,by simp,fun x hx y hy e=>by simp at hy;subst hy;subst e;exact hm hx⟩
  have hb1':es1.size < scanBound:=by exact an4 .lt .v0 .v1 (.q .v0 (.a .v2 .n1) (.p .v3 .v2 (.t (.a .v3 .n1) .v1 .e))) rfl hsz1 hlen hroom
  refine wpAny_bind (hgw _ ?_)
  have hend:∀ h' ks',Heap.SameBut a s.heap h'→SetR prog w h' a led ks'→ks'.Perm (Cq es1)→Q true { s with heap:=h' }:=fun h' ks' hsb hS hp=>by
   have hp':=hp.trans hk1
   refine h h' ks' true hsb hS (fun x=>?_) (by rw [hp'.length_eq];simp)
   rw [hp'.mem_iff];simp
  split
  ·refine wpAny_bind ?_
   rw [hashByValue_scannable 8 hsc]
   refine wpAny_pure ?_
   refine J3 ?_ ho hex hd hel1 hnd1 hb1' ?_ ?_ (led:=led) ?_ ?_
   ·intro b s₁ Q' hq;cases b <;> first | exact wpAny_pure hq | exact wpAny_rule hq
   ·exact hfits
   ·exact hris.1
   ·exact hris.2.trans hled
   ·intro h' ks' hsb hS' hp;dsimp only;exact wpAny_pure (hend h' ks' hsb hS' hp)
  ·refine wpAny_bind (wpAny_pure ?_)
   simp only [↓reduceIte]
   refine J3 ?_ ho hex hd hel1 hnd1 hb1' hfits hris.1 (led:=led) (hris.2.trans hled) ?_
   ·intro b s₁ Q' hq;cases b <;> first | exact wpAny_pure hq | exact wpAny_rule hq
   ·intro h' ks' hsb hS' hp;dsimp only;exact wpAny_pure (hend h' ks' hsb hS' hp)
end
section
variable {prog:Program} {w:World} {A:Around} {R:Result→Shared→Prop} {I:Addr} {fp wr:List Addr} {G:Array GenState→Array GenState→Prop} {n:Nat} {P:Nat→Value→Prop} {St:Nat→Shared→Prop}
theorem SetR.keep (S:SetR prog w h a led ks) (k:∀ o,h.get? a=some o→h'.get? a=some o):SetR prog w h' a led ks:=by
 refine Py S fun o es ep t ho rest=>?_
 exact ⟨o,es,ep,t,k o ho,rest⟩
theorem Jx (W:WalksS prog w A.in1 I fp wr G n P St) (S:Addr) (hSf:S ∉ fp) (val:Nat→Int) (hval:∀ i v,P i v→∃ t,v=.int (val i) t) (hb:n + 1 < scanBound) :
  ∀ (k i:Nat) (s:Shared) (ks:List Int),n - i=k→i≤n→St i s→SetR prog w s.heap S led ks→(∀ x,x ∈ ks ↔ ∃ j,j < i∧val j=x)→ks.length≤i →
   (∀ s' ks',Moved (S :: wr) G s s'→SetR prog w s'.heap S led ks'→(∀ x,x ∈ ks' ↔ ∃ j,j < n∧val j=x)→ks'.length≤n→R (.ok (.ret .none)) s') →
   codeAny (model prog w) A (.builtin "set.update.loop" ⟨[.ref S,.ref I],[]⟩) R s:=by
 have hSw:S ∉ wr:=fun h=>hSf (W.sub _ h)
 have hsub:∀ b ∈ wr,b ∈ S :: wr:=fun b hb=>List.mem_cons_of_mem _ hb
 intro k
 induction k with
 | zero=>
  intro i s ks hk hi hst hS hm hl hR
  have hin:i=n:=by exact Nat.le_antisymm (an2 .le .v0 .v1 (.l .v0 .v1 .e) rfl hi) (an3 .le .v0 .v1 (.p (.a .v2 .v1) .v0 (.q .v2 .n0 .e)) rfl (Nat.sub_add_cancel (an2 .le .v0 .v1 (.l .v0 .v1 .e) rfl hi)) hk)
  subst hin
  refine codeAny_builtin F.entry_set_update_loop ?_
  rw [Around.under_plainId F.plain_set_update_loop _]
  show wpAny _ A.in1 (pyNext (.ref I) >>= _) _ _ s
  refine wpAny_bind (W.done s _ _ hst fun s' hmv=>?_)
  show wpAny _ A.in1 (ret Value.none) _ _ s'
  exact wpAny_pure (hR s' ks (hmv.mono hsub) (hS.keep fun o e=>hmv.heap S _ hSw e) hm hl)
 | succ k ih=>
  intro i s ks hk hi hst hS hm hl hR
  have hlt:i < n:=by exact an4 .lt .v0 .v1 (.q (.a .v2 .v0) .v1 (.p .v2 (.a .v3 .n1) .e)) rfl (Nat.sub_add_cancel (an2 .le .v0 .v1 (.l .v0 .v1 .e) rfl hi)) hk
  refine codeAny_builtin F.entry_set_update_loop ?_
  rw [Around.under_plainId F.plain_set_update_loop _]
  show wpAny _ A.in1 (pyNext (.ref I) >>= _) _ _ s
  refine wpAny_bind (W.item i s _ _ hlt hst fun v s' hP hst' hmv=>?_)
  refine AU (hval i v hP) fun t ze1=>?_;subst ze1
  have hS':=hS.keep (h':=s'.heap) fun o e=>hmv.heap S _ hSw e
  show wpAny _ A.in1 (holding [Value.int (val i) t] (setAdd S (.int (val i) t)) >>= _) _ _ s'
  refine wpAny_bind (wpAny_holding ?_)
  unfold setAdd
  refine wpAny_holding ?_
  refine wpAny_bind ((intKind prog w).pyHash (k:=val i) (intKind_is _ _ _ _) ?_)
  refine T0 (s:={ s' with toks:=s'.toks + 1 }) hS' (by exact an4 .lt (.a .v0 .n1) .v1 (.l .v0 .v2 (.t .v2 .v3 (.t (.a .v3 .n1) .v1 .e))) rfl hl hlt hb) fun h' ks' b hsb hS2 hm2 hl2=>?_
  refine wpAny_pure ⟨plainId_quiet F.plain_set_update_loop _,ih (i + 1) _ ks' (by exact Nat.le_antisymm (an5 .le .v0 .v1 (.q (.a .v0 (.a .v2 .n1)) .v3 (.p (.a .v4 .v2) .v3 (.q .v4 (.a .v1 .n1) .e))) rfl (Nat.sub_add_cancel (an2 .le (.a .v0 .n1) .v1 (.t .v0 .v1 .e) rfl hlt)) (Nat.sub_add_cancel (an2 .le .v0 .v1 (.t .v0 .v1 .e) rfl hlt)) hk) (an5 .le .v0 .v1 (.p .v2 (.a .v0 .n1) (.q (.a .v2 .v3) .v4 (.p (.a .v1 (.a .v3 .n1)) .v4 .e))) rfl hk (Nat.sub_add_cancel (an2 .le .v0 .v1 (.t .v0 .v1 .e) rfl hlt)) (Nat.sub_add_cancel (an2 .le (.a .v0 .n1) .v1 (.t .v0 .v1 .e) rfl hlt)))) hlt (W.frame _ s' _ _ hst' (Nat.le_succ _) fun b hb o e=>?_) hS2 (fun x=>?_) (by exact an3 .le .v0 (.a .v1 .n1) (.l .v0 (.a .v2 .n1) (.l .v2 .v1 .e)) rfl hl2 hl) fun s'' ks'' hm'' hS'' hms hls=>?_⟩
  ·rw [hsb.2 b (fun h:b=S=>hSf (by rw [← h];exact hb))];exact e
  ·rw [hm2 x,hm x]
   constructor
   ·rintro (⟨j,h1,h2⟩ | rfl)
    ·exact ⟨j,by exact an2 .lt .v0 (.a .v1 .n1) (.t .v0 .v1 .e) rfl h1,h2⟩
    ·exact ⟨i,by exact an1 .lt .v0 (.a .v0 .n1) .e rfl,rfl⟩
   ·rintro ⟨j,h1,h2⟩
    by_cases hj:j=i
    ·exact .inr (by rw [← h2,hj])
    ·exact .inl ⟨j,by exact Or.elim (Nat.lt_or_gt_of_ne hj) (fun z0=>an2 .lt .v0 .v1 (.t .v0 .v1 .e) rfl z0) (fun z0=>an2 .lt .v0 .v1 (.w 2 (.t .v0 (.a .v1 .n1) (.t .v1 .v0 .e))) rfl h1 z0),h2⟩
  ·refine hR s'' ks'' (Moved.trans W.gtrans ((hmv.mono hsub).then_heap (Nat.le_succ _) fun b o hb e=>?_) hm'') hS'' hms hls
   rw [hsb.2 b (fun h:b=S=>hb (by rw [h];exact List.mem_cons_self))];exact e
end
end Mine
namespace Mine
open PySem PySem.Spec PyProof.Rows
noncomputable def CD (w:World):Bool:=!w.params.followText "set-order"
section
variable {prog:Program} {w:World} {A:Around} {E:Value→Shared→Prop} {s:Shared}
theorem Jk (a:Value)
  (h:Q₁ (.ref s.heap.objs.size) { s with heap:=s.heap.push { cls:=.type "set", dict:=none,data:=.set #[] 0 (.fresh 0 0 (CD w)) } }) :
  codeAny (model prog w) A (.call (.builtin "set.__new__") ⟨[.type "set", a],[]⟩) (wants Q₁ E) s:=by
 refine codeAny_of_tree ?_
 show wpAny _ A.in1 (do checkBuiltinCall "set.__new__" ⟨[.type "set", a],[]⟩;again (.builtin "set.__new__" ⟨[.type "set", a],[]⟩)) _ _ s
 refine wpAny_bind (wpAny_of_eq (PySem.F.newCall_set_1 a) (wpAny_pure ⟨plainId_quiet PySem.F.plain_set_new _,codeAny_builtin PySem.F.entry_set_new ?_⟩))
 rw [Around.under_plainId PySem.F.plain_set_new _]
 unfold Builtin.«set.__new__» Builtin.Frozenset.newClass
 have hsub:=sub_set_self
 obtain ⟨hp,g,d,tk,os⟩:=s
 dsimp only
 wp_walk
 refine wpAny_askSetting (wpAny_pure ?_)
 dsimp only
 simp only [newObj]
 refine wpAny_bind (wpAny_alloc (wpAny_pure ?_))
 exact wpAny_pure h
theorem M0 {h:Heap} {led:Bool}:SetR prog w (h.push { cls:=.type "set", dict:=none,data:=.set #[] 0 (.fresh 0 0 led) }) h.objs.size led []:=
 ⟨_,#[],0,_,Heap.get?_push_size _ rfl,⟨rfl,rfl,rfl⟩,rfl,CC,rfl,List.nodup_nil,by decide,rfl,List.Pairwise.nil,rfl⟩
set_option maxRecDepth 100000 in
set_option maxHeartbeats 3200000 in
theorem OC
  (hh:A.handled=none) (hl:s.heap.IsList l items) (hi:IntsAre items.toList ns) (hb:items.size + 1 < scanBound)
  (h:∀ (h':Heap) (tk:Nat) (ks:List Int),SetR prog w h' s.heap.objs.size (CD w) ks→(∀ x,x ∈ ks ↔ x ∈ ns)→ks.length≤items.size →
   (∀ b o,b < s.heap.objs.size→s.heap.get? b=some o→h'.get? b=some o)→Q (.ref s.heap.objs.size) { s with heap:=h',toks:=tk }) :
  wpAny (model prog w) A (call (.type "set") [.ref l]) Q E s:=by
 have hlen:items.size=ns.length:=by have:=IntsAre.length hi;simpa using this
 refine CL F.called_set.mro fun c tl hmro=>?_
 have hmade:=F.called_set.made
 have hsub:=F.called_set.sub
 refine wpAny_call (codeAny_of_tree ?_)
 show wpAny _ _ (callAny (.type "set") _) _ _ _
 refine wpAny_pure ⟨Code.quiet_builtin _ (by decide +kernel),codeAny_builtin F.entry_type_call ?_⟩
 rw [Around.under_plain (weight_type_call_type "set" [.ref l] []) rfl]
 have h1:=F.called_set.notType
 have h2:=F.called_set.canCreate
 have hct:=PySem.F.typeCall_set_1 (.ref l)
 repeat (any_goals (first | assumption | wp_step))
 refine codeAny_mono (Jk (.ref l) (E:=E) (Q₁:=fun obj s₁=>obj=.ref s.heap.objs.size∧s₁={ s with heap:=s.heap.push { cls:=.type "set", dict:=none,data:=.set #[] 0 (.fresh 0 0 (CD w)) } }) ⟨rfl,rfl⟩) fun r s₁ hr=>?_
 cases r with
 | error e=>exact hr
 | ok fl=>
  cases fl with
  | ret obj=>
   obtain ⟨rfl,rfl⟩:=hr
   have hS:(s.heap.push { cls:=.type "set", dict:=none,data:=.set #[] 0 (.fresh 0 0 (CD w)) }).get? s.heap.objs.size=some { cls:=.type "set", dict:=none,data:=.set #[] 0 (.fresh 0 0 (CD w)) }:=Heap.get?_push_size _ rfl
   have hT:Shared.TypeIs { s with heap:=s.heap.push { cls:=.type "set", dict:=none,data:=.set #[] 0 (.fresh 0 0 (CD w)) } } (.ref s.heap.objs.size) "set":=⟨_,hS,rfl⟩
   have hli:=F.called_set.init.lookup
   have hbi:=F.called_set.init.bind (.ref s.heap.objs.size)
   repeat (any_goals (first | assumption | wp_step))
   refine codeAny_mono (codeAny_call_builtin (R:=wants (fun r s₂=>r=.none∧∃ h' tk ks,s₂={ s with heap:=h',toks:=tk }∧SetR prog w h' s.heap.objs.size (CD w) ks∧(∀ x,x ∈ ks ↔ x ∈ ns)∧ks.length≤items.size ∧
     (∀ b o,b < s.heap.objs.size→s.heap.get? b=some o→h'.get? b=some o)) E) F.called_set.init.plain F.entry_set_init (check_set_init_1 hT ?_)) fun r₂ s₂ hr₂=>?_
   ·refine RA hl fun ol hol hcl nl hdl=>?_
    obtain ⟨ocls,odict,odata,oslots⟩:=ol
    simp only at hcl hdl
    subst hcl;subst hdl
    have hol':(s.heap.push { cls:=.type "set", dict:=none,data:=.set #[] 0 (.fresh 0 0 (CD w)) }).get? l=some { cls:=.type "list", dict:=odict,data:=.seq items nl,slots:=oslots }:=Heap.get?_push_of_some _ hol
    have hsls:=PySem.F.sub_list_set
    have hslf:=PySem.F.sub_list_frozenset
    have hne:(Value.type "list" == Value.type "dict")=false:=by decide
    have hl1:(s.heap.push { cls:=.type "set", dict:=none,data:=.set #[] 0 (.fresh 0 0 (CD w)) }).IsList l items:=⟨_,hol',rfl,nl,rfl⟩
    unfold Builtin.«set.__init__» noKeywords Builtin.Frozenset.updateFrom
    generalize hPI:pyIter=PI
    wp_walk
    subst hPI
    refine wpAny_pyIter_list hl1 ?_
    refine wpAny_bind (wpAny_runValue ?_)
    have hlS:l < s.heap.objs.size:=Heap.lt_size hol
    have hh3:A.in1.in1.in1.handled=none:=by simp [hh]
    have hneI:l ≠ (s.heap.push { cls:=.type "set", dict:=none,data:=.set #[] 0 (.fresh 0 0 (CD w)) }).objs.size:=by
     rw [Heap.size_push];exact Nat.ne_of_lt (Nat.lt_succ_of_lt hlS)
    have hSf:s.heap.objs.size ∉ [(s.heap.push { cls:=.type "set", dict:=none,data:=.set #[] 0 (.fresh 0 0 (CD w)) }).objs.size,l]:=by
     rw [Heap.size_push];simp only [List.mem_cons,List.mem_singleton,List.not_mem_nil,or_false,not_or]
     exact ⟨Nat.ne_of_lt (Nat.lt_succ_self _),Nat.ne_of_gt hlS⟩
    have hval:∀ (i:Nat) (v:Value),items[i]?=some v→∃ t,v=.int ((fun i=>ns.getD i 0) i) t:=fun i v hv=>
     IntsAre.int_at hi i v (by rw [Array.getElem?_toList];exact hv)
    refine Jx ((Walks.list hh3 _ l hneI items).toS) s.heap.objs.size hSf (fun i=>ns.getD i 0) hval hb (led:=CD w) (items.size - 0) 0 _ [] (by exact Nat.le_antisymm (an1 .le .v0 .v0 .e rfl) (an1 .le .v0 .v0 .e rfl)) (Nat.zero_le _)
     ⟨⟨_,Heap.get?_push_size _ rfl,rfl,rfl⟩,(hl1.push _)⟩ (M0.keep fun o e=>Heap.get?_push_of_some _ e) (fun x=>⟨fun q=>absurd q (by simp),fun ⟨j,hj,_⟩=>absurd hj (Nat.not_lt_zero _)⟩) (Nat.le_refl _) ?_
    intro s' ks hm hS' hms hls
    obtain ⟨h',g',d',tk',os'⟩:=s'
    have eg:g'=s.gens:=hm.gens
    have ed:d'=s.drawn:=hm.drawn
    have eo:os'=s.os:=hm.os
    subst eg;subst ed;subst eo
    show wpAny _ _ _ _ _ _
    refine wpAny_pure ?_
    show wpAny _ _ (ret Value.none) _ _ _
    refine wpAny_pure ⟨rfl,h',tk',ks,rfl,hS',fun x=>?_,hls,fun b o hb e=>?_⟩
    ·rw [hms x]
     constructor
     ·rintro ⟨j,hj,rfl⟩
      have:j < ns.length:=by exact an3 .lt .v0 .v1 (.t .v0 .v2 (.q .v2 .v1 .e)) rfl hj hlen
      simp [this]
     ·intro hx
      obtain ⟨j,hj,e⟩:=List.mem_iff_getElem.mp hx
      exact ⟨j,by exact an3 .lt .v0 .v1 (.t .v0 .v2 (.p .v1 .v2 .e)) rfl hj hlen,by simp [hj,e]⟩
    ·have hb1:b ≠ s.heap.objs.size:=Nat.ne_of_lt hb
     have hb2:b ≠ (s.heap.push { cls:=.type "set", dict:=none,data:=.set #[] 0 (.fresh 0 0 (CD w)) }).objs.size:=by
      rw [Heap.size_push];exact Nat.ne_of_lt (Nat.lt_succ_of_lt hb)
     exact hm.heap b o (by simp only [List.mem_cons,List.mem_singleton,List.not_mem_nil,or_false,not_or];exact ⟨hb1,hb2⟩) (Heap.get?_push_of_some _ (Heap.get?_push_of_some _ e))
   ·cases r₂ with
    | error e=>exact hr₂
    | ok fl₂=>
     cases fl₂ with
     | ret r=>
      refine D5 hr₂ fun ze1 h' tk ks ze2 hS' hms hls hk'=>?_;subst ze1;subst ze2
      repeat (any_goals (first | assumption | wp_step))
      exact h _ _ _ hS' hms hls hk'
     | _=>exact hr₂.elim
  | _=>exact hr.elim
end
end Mine
namespace Mine
open PySem PySem.Spec PyProof.Rows
set_option maxRecDepth 100000
theorem Gk:entryFor table "set.__iter__"=some Builtin.«frozenset.__iter__»:=
 entryFor_alias (id':="frozenset.__iter__") (by kernel_rfl) rfl (by decide +kernel) (by kernel_rfl)
theorem Aa:Slot "set_iterator" "__next__" "set_iterator.__next__":=
 .of (owner:="set_iterator") (n:="__next__") (by rw [typeLookup_type,builtinLookup_eq_fast];kernel_rfl) (by decide +kernel) (by decide +kernel) (by decide +kernel)
  (by first | exact .inl (by decide +kernel) | exact .inr (by decide +kernel)) (by rw [isSubtype_type];kernel_rfl)
theorem BG:entryFor table "set_iterator.__next__"=some Builtin.«set_iterator.__next__»:=entryFor_of_fast (by kernel_rfl)
theorem BM (a:Value):argsOk "set_iterator.__next__" ⟨[a],[]⟩:=by unfold argsOk;kernel_rfl
section
variable {prog:Program} {w:World} {A:Around} {E:Value→Shared→Prop} {s:Shared}
noncomputable def A7 (first:Value) (i:Nat) (a:Addr) (n ep:Nat):Obj:={ cls:=.type "set_iterator", data:=.fields #[first,rawInt i,.ref a,rawInt n,rawInt ep] }
set_option backward.match.sparseCases true in
theorem DW (hI:s.heap.get? I=some (A7 first i a n ep)) (ho:s.heap.get? a=some o) (hd:o.data=.set es ep t) (hf:t.fits es.size=true) (hn:es.size=n)
  (h:wpAny (model prog w) A (match first with
   | .int slot _=>do
    match ← setNext a slot.toNat i ep with
    | some (x,next)=>do
     setField (.ref I) 0 (rawInt next)
     setField (.ref I) 1 (rawInt ((i:Int) + 1))
     ret x
    | none=>do
     setField (.ref I) 2 .none
     raiseNew (← newExc (.type "StopIteration") [])
   | _=>do
    let some places ← seqItems? first | unsupported "internal:set_iterator"
    match places[i]? with
    | some (.int place _)=>do
     let x ← setNextDrawn a place.toNat ep
     setField (.ref I) 1 (rawInt ((i:Int) + 1))
     ret x
    | some _=>unsupported "internal:set_iterator"
    | none=>do
     setField (.ref I) 0 (rawInt 0)
     setField (.ref I) 2 .none
     raiseNew (← newExc (.type "StopIteration") [])) Q E s):wpAny (model prog w) A (Builtin.«set_iterator.__next__» ⟨[.ref I],[]⟩) Q E s:=by
 unfold Builtin.«set_iterator.__next__»
 refine wpAny_bind (m:=slotArgs "__next__" 0 _) (wpAny_pure ?_)
 dsimp only
 refine wpAny_bind (wpAny_fieldsOf hI rfl ?_)
 dsimp only [rawInt]
 refine wpAny_bind (wpAny_setEntries_of ho hd hf ?_)
 rw [if_neg (by simp [hn])]
 exact h
theorem Nf {slot nx i n ep:Nat} {Q:Option Value→Shared→Prop} (hI:s.heap.get? I=some (A7 (rawInt slot) i a n ep)) (ho:s.heap.get? a=some o) (hd:o.data=.set es ep t) (hf:t.fits es.size=true) (hn:es.size=n)
  (hs:∀ (E':Value→Shared→Prop) (Q':Option (Value × Nat)→Shared→Prop),Q' (some (x,nx)) s→wpAny (model prog w) A.in1 (setNext a slot i ep) Q' E' s)
  (hQ:∀ h',h'.get? I=some (A7 (rawInt nx) (i + 1) a n ep)→Heap.SameBut I s.heap h'→Q (some x) { s with heap:=h' }):wpAny (model prog w) A (pyNext (.ref I)) Q E s:=by
 have hT:s.TypeIs (.ref I) "set_iterator":=⟨_,hI,rfl⟩
 unfold pyNext
 refine wpAny_bind (wpAny_attempt (wpAny_callSpecial?_slot (name:=Str.ofString "__next__") hT Aa
  (wpAny_call_entry Aa hT BG (DW hI ho hd hf hn ?_) (BM _))))
 show wpAny _ _ (setNext a slot i ep >>= _) _ _ s
 refine wpAny_bind (hs _ _ ?_)
 dsimp only
 have hI1:(s.heap.update I (Obj.mapFields (·.setIfInBounds 0 (rawInt nx)))).get? I=some (A7 (rawInt nx) i a n ep):=Heap.get?_update_self _ hI rfl
 have hI2:((s.heap.update I (Obj.mapFields (·.setIfInBounds 0 (rawInt nx)))).update I (Obj.mapFields (·.setIfInBounds 1 (rawInt ((i:Int) + 1))))).get? I=some (A7 (rawInt nx) (i + 1) a n ep):=Heap.get?_update_self _ hI1 rfl
 refine wpAny_bind (wpAny_setField hI rfl (by simp [A7]) ?_)
 refine wpAny_bind (wpAny_setField hI1 rfl (by simp) ?_)
 exact wpAny_pure ⟨x,rfl,wpAny_pure (hQ _ hI2 ((Heap.SameBut.update ..).trans (Heap.SameBut.update ..)))⟩
theorem LY {I:Addr} {o:Obj} {vs:Array Value} {Q:Option Value→Shared→Prop} {s₀:Shared} (hh:A.handled=none) (hI:s.heap.get? I=some o) (hd:o.data=.fields vs) (hz:2 < vs.size) (hx:Heap.SameBut I s₀.heap s.heap)
  (hQ:∀ h',Heap.ExtBut I s₀.heap h'→Q none { s with heap:=h' }) :
  wpAny (model prog w) A.in1 (do setField (.ref I) 2 .none;raiseNew (← newExc (.type "StopIteration") [])) (fun (_:PySem.Fin) _=>False)
   (fun e s'=>wpAny (model prog w) A (do if ← isInstance e (.type "StopIteration") then pure none else throw e) Q E s') s:=by
 refine wpAny_bind (wpAny_setField hI hd hz ?_)
 show wpAny _ _ (newExc (.type "StopIteration") [] >>= _) _ _ _
 refine wpAny_bind ?_
 simp only [newExc,newTuple]
 refine wpAny_bind (wpAny_newObj_type ?_ (by size_fits))
 refine wpAny_bind (m:=firstArgMember _ _) (wpAny_of_eq (a:=Value.none) (by first | rfl | (simp only [firstArgMember];rfl)) ?_)
 refine wpAny_newObj_type ?_ (by size_fits)
 simp only [raiseNew]
 refine wpAny_bind (wpAny_handled ?_)
 rw [show A.in1.handled=none from hh]
 refine wpAny_bind (wpAny_pure (wpAny_throw ?_))
 refine wpAny_bind (wpAny_isInstance (T:="StopIteration") (b:=true) ⟨_,Heap.get?_push_size _ rfl,rfl⟩ isSubtype_stop ?_)
 exact wpAny_pure (hQ _ ((((hx.trans (Heap.SameBut.update ..)).extBut).push _).push _))
theorem Mw {slot i n ep:Nat} {Q:Option Value→Shared→Prop} (hh:A.handled=none) (hI:s.heap.get? I=some (A7 (rawInt slot) i a n ep)) (ho:s.heap.get? a=some o) (hd:o.data=.set es ep t) (hf:t.fits es.size=true) (hn:es.size=n)
  (hs:∀ (E':Value→Shared→Prop) (Q':Option (Value × Nat)→Shared→Prop),Q' none s→wpAny (model prog w) A.in1 (setNext a slot i ep) Q' E' s)
  (hQ:∀ h',Heap.ExtBut I s.heap h'→Q none { s with heap:=h' }):wpAny (model prog w) A (pyNext (.ref I)) Q E s:=by
 have hT:s.TypeIs (.ref I) "set_iterator":=⟨_,hI,rfl⟩
 unfold pyNext
 refine wpAny_bind (wpAny_attempt (wpAny_callSpecial?_slot (name:=Str.ofString "__next__") hT Aa
  (wpAny_call_entry Aa hT BG (DW hI ho hd hf hn ?_) (BM _))))
 show wpAny _ _ (setNext a slot i ep >>= _) _ _ s
 refine wpAny_bind (hs _ _ ?_)
 dsimp only
 exact wpAny_mono (LY hh hI rfl (by simp) (Heap.SameBut.refl _ _) hQ) (fun _ _ f=>f.elim) fun _ _ e=>e
theorem Fh {α:Type} {M:Model} {c:Prop} [Decidable c] {x y:Sem α} {Q:α→Shared→Prop} (h:¬ c) (q:wpAny M A y Q E s):wpAny M A (if c then x else y) Q E s:=by rw [if_neg h];exact q
theorem F5 {α:Type} {M:Model} {c:Prop} [Decidable c] {x y:Sem α} {Q:α→Shared→Prop} (h:c) (q:wpAny M A x Q E s):wpAny M A (if c then x else y) Q E s:=by rw [if_pos h];exact q
theorem EA (q:Q (w.params.followText "set-order") s):wpAny (model prog w) A setsByText Q E s:=by
 unfold setsByText
 exact wpAny_bind (wpAny_askSetting (wpAny_pure q))
noncomputable def SS (pl:Array Nat):Nat→Nat
 | 0=>0
 | i + 1=>pl.getD i 0 + 1
theorem OW (R:Ris pl):∀ {i:Nat},i≤pl.size→SetTable.below pl (SS pl i)=i
 | 0,_=>LH R
 | i + 1,h=>Kv R (by exact an2 .lt .v0 .v1 (.l (.a .v0 .n1) .v1 .e) rfl h)
theorem JS (ho:s.heap.get? a=some o) (hd:o.data=.set es ep t) (hf:t.fits es.size=true) (R:Ris t.place) (hw:w.params.followText "set-order"=false) (hl:t.led=true) (hp:¬ (t.plain=false∧1 < es.size)) (hi:i≤es.size) :
  ∀ (E':Value→Shared→Prop) (Q':Option (Value × Nat)→Shared→Prop),Q' (es[i]?.map fun e=>(e.2,SS t.place (i + 1))) s→wpAny (model prog w) A (setNext a (SS t.place i) i ep) Q' E' s:=by
 intro E' Q' q
 have hsz:t.place.size=es.size:=by simp only [SetTable.fits,Bool.and_eq_true,beq_iff_eq] at hf;exact hf.1
 unfold setNext
 refine wpAny_bind (wpAny_setState_of ho hd hf ?_)
 dsimp only
 refine wpAny_bind (EA ?_)
 rw [hw]
 refine Fh (by decide) ?_
 refine Fh (show ¬ ((!t.plain && decide (es.size > 1))=true) by
  intro h
  simp only [Bool.and_eq_true,Bool.not_eq_true',decide_eq_true_eq] at h
  exact hp h) ?_
 refine wpAny_bind (show wpAny (model prog w) A (if (!t.led && !es.isEmpty)=true then unsupported _ else pure ()) _ _ _ from Fh (by simp [hl]) (wpAny_pure ?_))
 rw [OW R (by exact an3 .le .v0 .v1 (.l .v0 .v2 (.p .v1 .v2 .e)) rfl hi hsz)]
 refine wpAny_pure ?_
 by_cases h:i < es.size
 ·have e1:es[i]?=some es[i]:=Array.getElem?_eq_getElem h
  have e2:t.place[i]?=some (t.place.getD i 0):=by rw [N8,Array.getElem?_eq_getElem (by exact an3 .lt .v0 .v1 (.t .v0 .v2 (.p .v1 .v2 .e)) rfl h hsz)];rfl
  rw [e1] at q ⊢
  rw [e2]
  exact q
 ·have e1:es[i]?=none:=Array.getElem?_eq_none (by exact an2 .le .v0 .v1 (.o .v1 .v0 .e) rfl h)
  rw [e1] at q ⊢
  exact q
theorem Gs {α:Type} (l:List α):∀ (i:Nat) (h:i < l.length),(l[i] :: l.eraseIdx i).Perm l:=by
 induction l with
 | nil=>exact fun i h=>absurd h (Nat.not_lt_zero i)
 | cons x l ih=>
  intro i h
  cases i with
  | zero=>exact .refl _
  | succ i=>exact (List.Perm.swap _ _ _).trans (List.Perm.cons _ (ih i (Nat.lt_of_succ_lt_succ h)))
theorem HG {α:Type} {l:List α} {i n:Nat} (h:i < l.length) (e:n + 1=l.length):n=(l.eraseIdx i).length:=by
 rw [List.length_eraseIdx_of_lt h,← e];rfl
theorem Sd {α:Type} (nx:Nat→Nat) (f:Nat):∀ (k:Nat) (left:List α) (out:Array α),f=left.length→(pickOrder.go nx f k left out).toList.Perm (out.toList ++ left):=by
 induction f with
 | zero=>exact fun k left out h=>by rw [List.length_eq_zero_iff.mp h.symm,List.append_nil];exact .refl _
 | succ f ih=>
  intro k left out h
  have hlt:nx k % left.length < left.length:=Nat.mod_lt _ (h▸Nat.zero_lt_succ f)
  rw [show pickOrder.go nx (f + 1) k left out=pickOrder.go nx f (k + 1) (left.eraseIdx (nx k % left.length)) (out.push left[nx k % left.length]) from congrArg (fun o:Option α=>match o with
   | some x=>pickOrder.go nx f (k + 1) (left.eraseIdx (nx k % left.length)) (out.push x)
   | none=>out) (List.getElem?_eq_getElem hlt)]
  refine (ih (k + 1) _ _ (HG hlt h)).trans ?_
  rw [Array.toList_push,List.append_assoc]
  exact List.Perm.append_left _ (Gs _ _ hlt)
theorem Hm {α:Type} (nx:Nat→Nat) (xs:Array α):(pickOrder nx xs).toList.Perm xs.toList:=by
 have:=Sd nx xs.size 0 xs.toList #[] (by simp)
 simpa [pickOrder] using this
theorem I7 (ho:s.heap.get? a=some o) (hd:o.data=.set es ep t) (hf:t.fits es.size=true) (hw:w.params.followText "set-order"=true) :
  ∀ (E':Value→Shared→Prop) (Q':Option (Value × Nat)→Shared→Prop),Q' ((pickOrder (w.params.setOrder a ep) es)[i]?.map fun e=>(e.2,slot)) s→wpAny (model prog w) A (setNext a slot i ep) Q' E' s:=by
 intro E' Q' q
 unfold setNext
 refine wpAny_bind (wpAny_setState_of ho hd hf ?_)
 dsimp only
 refine wpAny_bind (EA ?_)
 rw [hw]
 refine F5 rfl ?_
 refine Fh (by simp) ?_
 refine wpAny_bind ?_
 unfold setWalk
 refine wpAny_bind (wpAny_setState_of ho hd hf ?_)
 dsimp only
 refine wpAny_bind (EA ?_)
 rw [hw]
 refine F5 rfl ?_
 refine wpAny_bind (wpAny_askSetting (wpAny_pure (wpAny_pure ?_)))
 exact q
theorem SC {α:Type} (n:Nat):∀ (xs:List α) (s:Shared) {Q:List α→Shared→Prop},n=xs.length→(∀ ys dr,ys.Perm xs→Q ys { s with drawn:=dr })→wpAny (model prog w) A (drawOrder n xs) Q E s:=by
 induction n with
 | zero=>
  intro xs s Q h q
  have:xs=[]:=List.length_eq_zero_iff.mp h.symm
  subst this
  exact wpAny_pure (q [] s.drawn (List.Perm.refl _))
 | succ n ih=>
  intro xs s Q h q
  cases xs with
  | nil=>cases h
  | cons x xs=>
  have hlt:w.draws .order (s.drawn.get .order) % (x :: xs).length < (x :: xs).length:=Nat.mod_lt _ (Nat.zero_lt_succ _)
  show wpAny (model prog w) A (do let i ← choose .order (x :: xs).length;match (x :: xs)[i]? with
   | some x'=>return x' :: (← drawOrder n ((x :: xs).eraseIdx i))
   | none=>unsupported "internal:drawOrder") Q E s
  refine wpAny_bind ?_
  refine fun Γ p hΓ=>⟨by simp,?_⟩
  show wpAny (model prog w) A (match (x :: xs)[w.draws .order (s.drawn.get .order) % (x :: xs).length]? with
   | some y=>do return y :: (← drawOrder n ((x :: xs).eraseIdx (w.draws .order (s.drawn.get .order) % (x :: xs).length)))
   | none=>unsupported "internal:drawOrder") Q E { s with drawn:=s.drawn.bump .order }
  generalize w.draws .order (s.drawn.get .order) % (x :: xs).length=j at hlt ⊢
  rw [List.getElem?_eq_getElem hlt]
  exact wpAny_bind (ih _ _ (HG hlt h) fun ys dr hp=>wpAny_pure (q _ dr ((List.Perm.cons _ hp).trans (Gs _ _ hlt))))
end
end Mine
namespace Mine
open PySem PySem.Spec PyProof.Rows
set_option maxRecDepth 100000
theorem Cy:Slot "set_iterator" "__iter__" "set_iterator.__iter__":=
 .of (owner:="set_iterator") (n:="__iter__") (by rw [typeLookup_type,builtinLookup_eq_fast];kernel_rfl) (by decide +kernel) (by decide +kernel) (by decide +kernel)
  (by first | exact .inl (by decide +kernel) | exact .inr (by decide +kernel)) (by rw [isSubtype_type];kernel_rfl)
theorem Eg:entryFor table "set_iterator.__iter__"=some Builtin.«dict_keyiterator.__iter__»:=
 entryFor_alias (id':="dict_keyiterator.__iter__") (by kernel_rfl) rfl (by decide +kernel) (by kernel_rfl)
theorem Ev (a:Value):argsOk "set_iterator.__iter__" ⟨[a],[]⟩:=by unfold argsOk;kernel_rfl
noncomputable def Qr:Array GenState→Array GenState→Prop:=fun a b=>b=a
noncomputable def P0 (out:Array (Int × Value)) (i:Nat) (v:Value):Prop:=∃ e,out[i]?=some e∧v=e.2
section
variable {prog:Program} {w:World} {A:Around} {E:Value→Shared→Prop} {s:Shared}
theorem HS (hI:s.heap.get? I=some (A7 first i a n ep)) (q:Q (.ref I) s):wpAny (model prog w) A (pyIter (.ref I)) Q E s:=by
 have hT:s.TypeIs (.ref I) "set_iterator":=⟨_,hI,rfl⟩
 refine wpAny_pyIter_slot hT Cy (wpAny_call_entry Cy hT Eg ?_ (Ev _))
 show wpAny _ _ (ret (.ref I)) _ _ s
 exact wpAny_pure ⟨_,rfl,"set_iterator", _,hT,Aa.lookup,q⟩
theorem Hi (hh:A.handled=none) (hIa:a ≠ I) (hd:o.data=.set es ep t) (hf:t.fits es.size=true) (hn:es.size=n) (ho:out.size=n) (sl:Nat→Nat)
  (hs:∀ (s:Shared) (i:Nat),i≤n→s.heap.get? a=some o→∀ (E':Value→Shared→Prop) (Q':Option (Value × Nat)→Shared→Prop),Q' (out[i]?.map fun e=>(e.2,sl (i + 1))) s→wpAny (model prog w) A.in1 (setNext a (sl i) i ep) Q' E' s) :
  WalksS prog w A I [I,a] [I] Qr n (P0 out) (fun i s=>i≤n∧s.heap.get? I=some (A7 (rawInt (sl i)) i a n ep)∧s.heap.get? a=some o) where
 sub:=fun b hb=>by simp at hb;subst hb;simp
 grefl:=fun _=>rfl
 gtrans:=fun _ _ _ h1 h2=>h2.trans h1
 frame:=fun i s h' tk st _ k=>⟨st.1,k I (by simp) _ st.2.1,k a (by simp) _ st.2.2⟩
 item:=fun i s Q E hi st hQ=>by
  have hio:i < out.size:=ho▸hi
  have e:out[i]?=some out[i]:=Array.getElem?_eq_getElem hio
  refine Nf (x:=out[i].2) (nx:=sl (i + 1)) st.2.1 st.2.2 hd hf hn (fun E' Q' q=>hs s i (by exact an2 .le .v0 .v1 (.l .v0 .v1 .e) rfl st.1) st.2.2 E' Q' (by rw [e];exact q)) fun h' h1 h2=>?_
  refine hQ _ _ ⟨out[i],e,rfl⟩ ⟨hi,h1,(h2.2 a hIa).trans st.2.2⟩ ⟨fun b ob hb eb=>(h2.2 b (by simpa using hb)).trans eb,rfl,rfl,rfl,Nat.le_refl _⟩
 done:=fun s Q E st hQ=>by
  have e:out[n]?=none:=Array.getElem?_eq_none (by exact an2 .le .v0 .v1 (.q .v0 .v1 .e) rfl ho)
  refine Mw hh st.2.1 st.2.2 hd hf hn (fun E' Q' q=>hs s n (Nat.le_refl _) st.2.2 E' Q' (by rw [e];exact q)) fun h' h1=>hQ _ ⟨fun b ob hb eb=>h1 b ob (by simpa using hb) eb,rfl,rfl,rfl,Nat.le_refl _⟩
 self:=fun i s Q E st q=>HS st.2.1 q
noncomputable def D3 (es:Array (Int × Value)) (π:List Nat):Array (Int × Value):=(π.map fun j=>es[j]?.getD (0,.none)).toArray
theorem HB (h:π.Perm (List.range es.size)):(D3 es π).toList.Perm es.toList:=by
 have e:(List.range es.size).map (fun j=>es[j]?.getD (0,.none))=es.toList:=by
  apply List.ext_getElem?
  intro i
  rw [List.getElem?_map]
  by_cases hi:i < es.size
  ·simp [hi]
  ·simp [hi]
 have:=h.map fun j=>es[j]?.getD (0,.none)
 rw [e] at this
 simpa [D3] using this
theorem KW {i n ep j:Nat} {c:Nat} {Q:Option Value→Shared→Prop} (hI:s.heap.get? I=some (A7 (.ref T) i a n ep)) (ho:s.heap.get? a=some o) (hd:o.data=.set es ep t) (hf:t.fits es.size=true) (hn:es.size=n)
  (hT:s.heap.get? T=some oT) (hdT:oT.data=.seq pl c) (hpl:pl[i]?=some (rawInt j)) {x:Int × Value} (hx:es[j]?=some x)
  (hQ:∀ h',h'.get? I=some (A7 (.ref T) (i + 1) a n ep)→Heap.SameBut I s.heap h'→Q (some x.2) { s with heap:=h' }):wpAny (model prog w) A (pyNext (.ref I)) Q E s:=by
 have hTy:s.TypeIs (.ref I) "set_iterator":=⟨_,hI,rfl⟩
 unfold pyNext
 refine wpAny_bind (wpAny_attempt (wpAny_callSpecial?_slot (name:=Str.ofString "__next__") hTy Aa
  (wpAny_call_entry Aa hTy BG (DW hI ho hd hf hn ?_) (BM _))))
 dsimp only
 refine wpAny_bind (wpAny_seqItems hT hdT ?_)
 dsimp only
 rw [hpl]
 dsimp only [rawInt]
 refine wpAny_bind ?_
 unfold setNextDrawn
 refine wpAny_bind (wpAny_setState_of ho hd hf ?_)
 dsimp only
 refine Fh (by simp) ?_
 rw [Int.toNat_natCast,hx]
 refine wpAny_pure ?_
 have hI1:(s.heap.update I (Obj.mapFields (·.setIfInBounds 1 (rawInt ((i:Int) + 1))))).get? I=some (A7 (.ref T) (i + 1) a n ep):=Heap.get?_update_self _ hI rfl
 refine wpAny_bind (wpAny_setField hI rfl (by simp) ?_)
 exact wpAny_pure ⟨x.2,rfl,wpAny_pure (hQ _ hI1 (Heap.SameBut.update ..))⟩
theorem Mu (hh:A.handled=none) (hI:s.heap.get? I=some (A7 (.ref T) i a n ep)) (ho:s.heap.get? a=some o) (hd:o.data=.set es ep t) (hf:t.fits es.size=true) (hn:es.size=n)
  (hT:s.heap.get? T=some oT) (hdT:oT.data=.seq pl c) (hpl:pl[i]?=none)
  (hQ:∀ h',Heap.ExtBut I s.heap h'→Q none { s with heap:=h' }):wpAny (model prog w) A (pyNext (.ref I)) Q E s:=by
 have hTy:s.TypeIs (.ref I) "set_iterator":=⟨_,hI,rfl⟩
 unfold pyNext
 refine wpAny_bind (wpAny_attempt (wpAny_callSpecial?_slot (name:=Str.ofString "__next__") hTy Aa
  (wpAny_call_entry Aa hTy BG (DW hI ho hd hf hn ?_) (BM _))))
 dsimp only
 refine wpAny_bind (wpAny_seqItems hT hdT ?_)
 dsimp only
 rw [hpl]
 dsimp only
 have hI1:(s.heap.update I (Obj.mapFields (·.setIfInBounds 0 (rawInt 0)))).get? I=some (A7 (rawInt 0) i a n ep):=Heap.get?_update_self _ hI rfl
 refine wpAny_bind (wpAny_setField hI rfl (by simp) ?_)
 exact wpAny_mono (LY (s₀:=s) (s:={ s with heap:=s.heap.update I (Obj.mapFields (·.setIfInBounds 0 (rawInt 0))) }) hh hI1 rfl (by simp) (Heap.SameBut.update ..) hQ) (fun _ _ f=>f.elim) fun _ _ e=>e
theorem K3 {n ep:Nat} {c:Nat} (hh:A.handled=none) (hIa:a ≠ I) (hIT:T ≠ I) (hd:o.data=.set es ep t) (hf:t.fits es.size=true) (hn:es.size=n) (hπ:π.Perm (List.range es.size)) (hdT:oT.data=.seq (π.map fun (j:Nat)=>rawInt j).toArray c) :
  WalksS prog w A I [I,a,T] [I] Qr n (P0 (D3 es π)) (fun i s=>i≤n∧s.heap.get? I=some (A7 (.ref T) i a n ep)∧s.heap.get? a=some o∧s.heap.get? T=some oT) where
 sub:=fun b hb=>by simp at hb;subst hb;simp
 grefl:=fun _=>rfl
 gtrans:=fun _ _ _ h1 h2=>h2.trans h1
 frame:=fun i s h' tk st _ k=>⟨st.1,k I (by simp) _ st.2.1,k a (by simp) _ st.2.2.1,k T (by simp) _ st.2.2.2⟩
 item:=fun i s Q E hi st hQ=>by
  have hlen:π.length=es.size:=by rw [hπ.length_eq,List.length_range]
  have hi':i < π.length:=by exact an4 .lt .v0 .v1 (.t .v0 .v2 (.p .v3 .v2 (.p .v1 .v3 .e))) rfl hi hn hlen
  have hj:π[i] < es.size:=by simpa using hπ.mem_iff.mp (List.getElem_mem hi')
  have hx:es[π[i]]?=some es[π[i]]:=Array.getElem?_eq_getElem hj
  refine KW st.2.1 st.2.2.1 hd hf hn st.2.2.2 hdT (j:=π[i]) (by simp [hi']) hx fun h' h1 h2=>?_
  refine hQ _ _ ⟨es[π[i]],by simp [D3,hi',hj],rfl⟩ ⟨hi,h1,(h2.2 a hIa).trans st.2.2.1,(h2.2 T hIT).trans st.2.2.2⟩ ⟨fun b ob hb eb=>(h2.2 b (by simpa using hb)).trans eb,rfl,rfl,rfl,Nat.le_refl _⟩
 done:=fun s Q E st hQ=>by
  have hlen:π.length=es.size:=by rw [hπ.length_eq,List.length_range]
  refine Mu hh st.2.1 st.2.2.1 hd hf hn st.2.2.2 hdT (by simp;exact an3 .le .v0 .v1 (.q .v0 .v2 (.q .v2 .v1 .e)) rfl hlen hn) fun h' h1=>hQ _ ⟨fun b ob hb eb=>h1 b ob (by simpa using hb) eb,rfl,rfl,rfl,Nat.le_refl _⟩
 self:=fun i s Q E st q=>HS st.2.1 q
structure SetWalk (prog:Program) (w:World) (A:Around) (es:Array (Int × Value)) (a:Addr) (s₀ s:Shared) (I:Addr):Prop where
 walk:∃ fp out St,out.toList.Perm es.toList∧WalksS prog w A I fp [I] Qr es.size (P0 out) St∧St 0 s∧∀ b ∈ fp,b=a∨s₀.heap.objs.size≤b
 old:s₀.heap.objs.size≤I
 keep:∀ b o,s₀.heap.get? b=some o→s.heap.get? b=some o
 size:s₀.heap.objs.size≤s.heap.objs.size
 os:s.os=s₀.os
 gens:s.gens=s₀.gens
theorem Pl (hh:A'.handled=none) (ho:s.heap.get? a=some o) (hex:o.ExactSet) (hd:o.data=.set es ep t) (hf:t.fits es.size=true) (R:Ris t.place) (hl:t.led=CD w)
  (hz:es.size < scanBound) (q:∀ I s₁,SetWalk prog w A' es a s s₁ I→Q (.ref I) s₁):wpAny (model prog w) A (pyIter (.ref a)) Q E s:=by
 have hT:s.TypeIs (.ref a) "set":=⟨o,ho,hex.1⟩
 have ha:a < s.heap.objs.size:=Heap.lt_size ho
 refine wpAny_pyIter_slot hT PySem.F.slot_set_iter (wpAny_call_entry PySem.F.slot_set_iter hT Gk ?_ (PySem.F.args_set_iter_1 _))
 unfold Builtin.«frozenset.__iter__»
 refine wpAny_bind (m:=Builtin.Frozenset.slot0 "__iter__" _) (wpAny_pure ?_)
 refine wpAny_bind ?_
 unfold Builtin.Frozenset.sizeOf
 refine wpAny_bind (wpAny_setEntries_of ho hd hf (wpAny_pure ?_))
 refine wpAny_bind ?_
 unfold setDrawn
 refine wpAny_bind (wpAny_setState_of ho hd hf ?_)
 dsimp only
 refine wpAny_bind (EA (wpAny_pure ?_))
 have make:∀ (s₁:Shared) (first:Value),s₁.heap.get? a=some o→(Q (.ref s₁.heap.objs.size) { s₁ with heap:=s₁.heap.push (A7 first 0 a es.size ep) }) →
   wpAny (model prog w) A.in1 (do ret (← newFields "set_iterator" [first,rawInt 0,.ref a,rawInt es.size,rawInt (← setEpoch a)])) (fun fin s'=>∃ v,fin=.done (.ret v)∧(∃ T' r,s'.TypeIs v T'∧typeLookup (.type T') "__next__"=pure (some r)∧Q v s')) E s₁:=fun s₁ first ho₁ hq=>by
  refine wpAny_bind (wpAny_setEpoch_of ho₁ hd hf ?_)
  refine wpAny_bind (wpAny_newObj_type ?_ (by size_fits))
  exact wpAny_pure ⟨_,rfl,"set_iterator", _,⟨_,Heap.get?_push_size _ rfl,rfl⟩,Aa.lookup,hq⟩
 by_cases hdr:(!w.params.followText "set-order" && (!t.plain && decide (es.size > 1)))=true
 ·refine F5 (show (!w.params.followText "set-order" && (!t.plain && decide (es.size > 1)))=true from hdr) ?_
  refine wpAny_bind (SC es.size (List.range es.size) s (by simp) fun π dr hp=>?_)
  have hlen:π.length=es.size:=by rw [hp.length_eq,List.length_range]
  refine wpAny_bind (wpAny_newTuple ?_ (by rw [List.length_map,hlen];exact fits_of_scanBound hz))
  have hT1:(s.heap.push { cls:=.type "tuple", data:=.seq (π.map fun (j:Nat)=>rawInt j).toArray }).get? s.heap.objs.size=some { cls:=.type "tuple", data:=.seq (π.map fun (j:Nat)=>rawInt j).toArray }:=Heap.get?_push_size _ rfl
  refine make _ _ (Heap.get?_push_of_some _ ho) (q _ _ ⟨⟨[(s.heap.push { cls:=.type "tuple", data:=.seq (π.map fun (j:Nat)=>rawInt j).toArray }).objs.size,a,s.heap.objs.size],D3 es π,_,HB hp,
   K3 (T:=s.heap.objs.size) (o:=o) (ep:=ep) (c:=0) hh ?_ ?_ hd hf rfl hp rfl,⟨Nat.zero_le _,Heap.get?_push_size _ rfl,Heap.get?_push_of_some _ (Heap.get?_push_of_some _ ho),Heap.get?_push_of_some _ hT1⟩,?_⟩,?_,fun b o e=>Heap.get?_push_of_some _ (Heap.get?_push_of_some _ e),?_,rfl,rfl⟩)
  ·rw [Heap.size_push];exact Nat.ne_of_lt (Nat.lt_succ_of_lt ha)
  ·rw [Heap.size_push];exact Nat.ne_of_lt (Nat.lt_succ_self _)
  ·intro b hb
   simp only [List.mem_cons,List.not_mem_nil,or_false] at hb
   simp only [Heap.size_push] at hb
   rcases hb with rfl | rfl | rfl
   ·exact .inr (Nat.le_succ _)
   ·exact .inl rfl
   ·exact .inr (Nat.le_refl _)
  ·simp only [Heap.size_push];exact Nat.le_succ _
  ·simp only [Heap.size_push];exact Nat.le_succ_of_le (Nat.le_succ _)
 ·refine Fh (show ¬ ((!w.params.followText "set-order" && (!t.plain && decide (es.size > 1)))=true) from hdr) (wpAny_bind (wpAny_pure ?_))
  have hne:a ≠ s.heap.objs.size:=Nat.ne_of_lt ha
  cases hw:w.params.followText "set-order" with
  | true=>
   refine make s (rawInt 0) ho (q _ _ ⟨⟨[s.heap.objs.size,a],pickOrder (w.params.setOrder a ep) es,_,Hm _ _,Hi (o:=o) (ep:=ep) (t:=t) hh hne hd hf rfl ?_ (fun _=>0) (fun s' i _ h'=>I7 h' hd hf hw),⟨Nat.zero_le _,Heap.get?_push_size _ rfl,Heap.get?_push_of_some _ ho⟩,?_⟩,Nat.le_refl _,fun b o e=>Heap.get?_push_of_some _ e,?_,rfl,rfl⟩)
   ·have:=(Hm (w.params.setOrder a ep) es).length_eq;simpa using this
   ·intro b hb
    simp only [List.mem_cons,List.not_mem_nil,or_false] at hb
    rcases hb with rfl | rfl
    ·exact .inr (Nat.le_refl _)
    ·exact .inl rfl
   ·simp only [Heap.size_push];exact Nat.le_succ _
  | false=>
   rw [hw] at hdr
   have hp:¬ (t.plain=false∧1 < es.size):=fun h=>hdr (by simp [h.1,h.2])
   have hled:t.led=true:=by rw [hl];simp [CD,hw]
   refine make s (rawInt 0) ho (q _ _ ⟨⟨[s.heap.objs.size,a],es,_,List.Perm.refl _,Hi (o:=o) (ep:=ep) (t:=t) hh hne hd hf rfl rfl (SS t.place) (fun s' i hi h'=>JS h' hd hf R hw hled hp hi),⟨Nat.zero_le _,Heap.get?_push_size _ rfl,Heap.get?_push_of_some _ ho⟩,?_⟩,Nat.le_refl _,fun b o e=>Heap.get?_push_of_some _ e,?_,rfl,rfl⟩)
   ·intro b hb
    simp only [List.mem_cons,List.not_mem_nil,or_false] at hb
    rcases hb with rfl | rfl
    ·exact .inr (Nat.le_refl _)
    ·exact .inl rfl
   ·simp only [Heap.size_push];exact Nat.le_succ _
end
end Mine
namespace Mine
open PySem PySem.Spec PyProof.Rows
set_option maxRecDepth 100000
theorem RI:typeLookup (.type "set") "__len__"=pure (some (.builtin "set.__len__")):=by rw [typeLookup_type,builtinLookup_eq_fast];kernel_rfl
section
variable {prog:Program} {w:World} {A:Around} {E:Value→Shared→Prop} {s:Shared}
theorem Jb (hh:A.handled=none) (S:SetR prog w s.heap a (CD w) ks)
  (q:∀ acc ns s',IntsAre acc ns→ns.Perm ks→(∀ b o,s.heap.get? b=some o→s'.heap.get? b=some o)→s.heap.objs.size≤s'.heap.objs.size→s'.os=s.os→s'.gens=s.gens→Q acc s'):wpAny (model prog w) A (collect (.ref a)) Q E s:=by
 refine Bd (id S) fun o es ep t ho hex hd hel hks hnd hb hf hr hled=>?_
 have ha:a < s.heap.objs.size:=Heap.lt_size ho
 have hT:s.TypeIs (.ref a) "set":=⟨o,ho,hex.1⟩
 unfold collect
 refine wpAny_bind (wpAny_runValue (codeAny_builtin PySem.F.entry_proto_collect ?_))
 rw [Around.under_plainId PySem.F.plain_proto_collect _]
 show wpAny _ A.in1 (newList [] >>= fun l=>again (.builtin "list.__iadd__" ⟨[l,.ref a],[]⟩)) _ _ s
 refine wpAny_bind (wpAny_newObj_type ?_)
 refine wpAny_pure ⟨plainId_quiet PySem.F.plain_list_iadd _,codeAny_builtin PySem.F.entry_list_iadd ?_⟩
 rw [Around.under_plainId PySem.F.plain_list_iadd _]
 have hS₁:(s.heap.push { cls:=.type "list", data:=.seq ([]:List Value).toArray }).get? s.heap.objs.size=some { cls:=.type "list", data:=.seq ([]:List Value).toArray }:=Heap.get?_push_size _ rfl
 have ho₁:(s.heap.push { cls:=.type "list", data:=.seq ([]:List Value).toArray }).get? a=some o:=Heap.get?_push_of_some _ ho
 show wpAny _ A.in1 (Builtin.List.listExtendWith (.ref s.heap.objs.size) (.ref a) (.ref s.heap.objs.size)) _ _ _
 unfold Builtin.List.listExtendWith
 have hT₁:Shared.TypeIs { s with heap:=s.heap.push { cls:=.type "list", data:=.seq ([]:List Value).toArray } } (.ref a) "set":=⟨o,ho₁,hex.1⟩
 refine wpAny_bind (wpAny_typeOf hT₁ ?_)
 have h1:Builtin.List.listSameRef (.ref s.heap.objs.size) (.ref a)=false:=by
  simp only [Builtin.List.listSameRef,beq_eq_false_iff_ne,ne_eq];exact Nat.ne_of_gt ha
 have h2:(Value.type "set" == Value.type "list")=false:=by decide
 have h3:(Value.type "set" == Value.type "tuple")=false:=by decide
 simp only [h1,h2,h3,Bool.or_false,Bool.false_eq_true,if_false]
 refine wpAny_bind (Pl (A':=A.in1) (s:={ s with heap:=s.heap.push { cls:=.type "list", data:=.seq ([]:List Value).toArray } }) hh ho₁ hex hd hf hr hled hb fun I s₂ W=>?_)
 refine Be W.walk fun fp out St hout WS hst hfp=>?_
 have hT₂:s₂.TypeIs (.ref a) "set":=⟨o,W.keep a o ho₁,hex.1⟩
 refine wpAny_bind (wpAny_holding ?_)
 unfold Builtin.List.listLengthHint
 refine wpAny_bind (wpAny_specialOf hT₂ RI ?_)
 (generalize hid:("set.__len__":String)=id0;wp_delta;rw [show splitId id0=some ("set", "__len__") from by subst hid;decide +kernel];subst hid)
 refine wpAny_bind (wpAny_isInstance (b:=true) hT₂ sub_set_self ?_)
 refine wpAny_bind (wpAny_typeOf hT₂ ?_)
 refine wpAny_pure ?_
 refine F5 (by decide) ?_
 refine wpAny_bind (wpAny_rule ?_)
 have hS₂:=W.keep _ _ hS₁
 have hSf:s.heap.objs.size ∉ fp:=fun m=>by
  refine Or.elim (hfp _ m) (fun e=>?_) (fun e=>?_)
  ·exact Nat.ne_of_gt ha e
  ·rw [Heap.size_push] at e;exact Nat.not_succ_le_self _ e
 refine wpAny_bind ?_
 show wpAny _ A.in1 (updateSeq s.heap.objs.size (·.push .none) >>= fun _=>updateSeq s.heap.objs.size (·.pop)) _ _ _
 refine wpAny_bind (wpAny_updateSeq hS₂ rfl ?_)
 have hS₃:=Heap.get?_update_self (Obj.mapSeq (·.push Value.none)) hS₂ rfl
 refine wpAny_updateSeq hS₃ rfl ?_
 have hS₄:=Heap.get?_update_self (Obj.mapSeq (·.pop)) hS₃ rfl
 have oth:∀ b o,b ≠ s.heap.objs.size→s₂.heap.get? b=some o→((s₂.heap.update s.heap.objs.size (Obj.mapSeq (·.push Value.none))).update s.heap.objs.size (Obj.mapSeq (·.pop))).get? b=some o:=
  fun b o hb e=>(Heap.get?_update_other _ _ (Ne.symm hb)).trans ((Heap.get?_update_other _ _ (Ne.symm hb)).trans e)
 refine wpAny_pure ⟨plainId_quiet PySem.F.plain_extend_loop _,codeAny_extend_loopS WS (fits_of_scanBound hb) _ hSf _ es.size 0 _ _ _ rfl (Nat.zero_le _)
  (WS.frame 0 s₂ _ s₂.toks hst (Nat.le_refl _) fun b hb o e=>oth b o (fun h=>hSf (h▸hb)) e) hS₄ (ItemsOf.nil _) fun s' acc' c' hm hS' hacc=>?_⟩
 show wpAny _ A (load s.heap.objs.size >>= _) _ _ s'
 refine wpAny_bind (wpAny_load hS' ?_)
 have hsz:out.size=es.size:=by have:=hout.length_eq;simpa using this
 have hacc':acc'.toList=out.toList.map (·.2):=by
  apply List.ext_getElem?
  intro j
  rw [Array.getElem?_toList,List.getElem?_map,Array.getElem?_toList]
  by_cases hj:j < es.size
  ·have hj':j < acc'.size:=by rw [hacc.1];exact hj
   have e1:acc'[j]?=some acc'[j]:=Array.getElem?_eq_getElem hj'
   refine AF (hacc.2 j _ e1) fun e h1 h2=>?_
   rw [e1,h1,h2];rfl
  ·rw [Array.getElem?_eq_none (by rw [hacc.1];exact an2 .le .v0 .v1 (.o .v1 .v0 .e) rfl hj),Array.getElem?_eq_none (by exact an3 .le .v0 .v1 (.q .v0 .v2 (.o .v1 .v2 .e)) rfl hsz hj)];rfl
 have hint:∀ v ∈ acc'.toList,∃ n t,v=Value.int n t:=fun v hv=>by
  rw [hacc'] at hv
  refine AF (List.mem_map.mp hv) fun e he ze1=>?_;subst ze1
  refine AU (Jy hel (hout.mem_iff.mp he)) fun t ht=>?_
  exact ⟨_,t,ht⟩
 refine wpAny_pure (q acc'.toList _ s' (intsAre_map _ hint) ?_ (fun b o e=>?_) ?_ ?_ ?_)
 ·rw [hacc',List.map_map,hks]
  exact hout.map _
 ·have hb:b < s.heap.objs.size:=Heap.lt_size e
  have hbI:b ≠ I:=fun h=>by
   have:=W.old
   rw [Heap.size_push] at this
   rw [h] at hb
   exact Nat.lt_irrefl _ (Nat.lt_trans hb (Nat.lt_of_succ_le this))
  refine hm.heap b o ?_ (oth b o (Nat.ne_of_lt hb) (W.keep b o (Heap.get?_push_of_some _ e)))
  simp only [List.mem_cons,List.not_mem_nil,or_false,not_or]
  exact ⟨Nat.ne_of_lt hb,hbI⟩
 ·exact Nat.le_of_lt (Heap.lt_size hS')
 ·exact hm.os.trans W.os
 ·exact hm.gens.trans W.gens
theorem K2 (hh:A.handled=none) (S:SetR prog w s.heap a (CD w) ks) (h64:ks.length < 64)
  (q:∀ D (out:Array Value) (ns:List Int) (h':Heap) (s':Shared) (c:Nat),IntsAre out.toList ns→ns.Perm ks→ns.Pairwise (·≤·)→s.heap.get? D=none→h'.get? D=some { cls:=.type "list", data:=.seq out c }→(∀ b o,s.heap.get? b=some o→h'.get? b=some o)→s'.os=s.os→s'.gens=s.gens→Q (.ref D) { s' with heap:=h' }) :
  wpAny (model prog w) A (call (.builtin "sorted") [.ref a]) Q E s:=by
 refine Calls.call_function_entry kind_sorted plain_sorted entry_sorted (args_sorted1 _) ?_
 unfold Builtin.«sorted»
 refine wpAny_bind (m:=checkCount "sorted" 1 1 _) (wpAny_pure ?_)
 refine wpAny_bind (Jb hh S fun acc ns s₁ hI hp hk hz hos hg=>?_)
 have hlen:acc.length=ks.length:=(IntsAre.length hI).trans hp.length_eq
 refine wpAny_bind (wpAny_newList ?_ (by rw [hlen,sizeLine_eq];exact an1 .le .v0 (.n 16777216) (.t .v0 (.n 64) .e) rfl h64))
 have hoL:(s₁.heap.push (seqObj "list" acc.toArray 0)).get? s₁.heap.objs.size=some (seqObj "list" acc.toArray 0):=Heap.get?_push_size _ rfl
 have hlt:∀ b o,s₁.heap.get? b=some o→b ≠ s₁.heap.objs.size:=fun b o e=>Nat.ne_of_lt (Heap.lt_size e)
 refine wpAny_bind (wpAny_holding (wpAny_call_entry (s:={ s₁ with heap:=s₁.heap.push (seqObj "list" acc.toArray 0) }) slot_list_sort ⟨_,hoL,rfl⟩ entry_list_sort (list_sort_tree (s:={ s₁ with heap:=s₁.heap.push (seqObj "list" acc.toArray 0) }) hoL hI (by exact an2 .lt .v0 (.n 64) (.q .v0 .v1 (.t .v1 (.n 64) .e)) rfl hlen h64) fun out ns' a1 a2 a3=>⟨_,rfl,?_⟩) (args_list_sort _)))
 obtain ⟨c1,g1⟩:∃ c1,((s₁.heap.push (seqObj "list" acc.toArray 0)).update s₁.heap.objs.size (Obj.mapSeq fun _=>(#[]:Array Value))).get? s₁.heap.objs.size=some (seqObj "list" #[] c1):=⟨_,get?_update_seq hoL fun _=>#[]⟩
 have g2:((((s₁.heap.push (seqObj "list" acc.toArray 0)).update s₁.heap.objs.size (Obj.mapSeq fun _=>(#[]:Array Value))).push (seqObj "tuple" acc.toArray 0)).push (seqObj "list" #[] 0)).get? s₁.heap.objs.size=some (seqObj "list" #[] c1):=Heap.get?_push_of_some _ (Heap.get?_push_of_some _ g1)
 obtain ⟨c3,g3⟩:∃ c3,(sortedHeap (s₁.heap.push (seqObj "list" acc.toArray 0)) s₁.heap.objs.size acc out).get? s₁.heap.objs.size=some (seqObj "list" out c3):=⟨_,get?_update_seq g2 fun _=>out⟩
 refine wpAny_pure ⟨_,rfl,q s₁.heap.objs.size out ns' _ s₁ c3 a1 (a2.trans hp) a3 ?_ g3 (fun b o e=>?_) hos hg⟩
 ·exact Heap.get?_none_of_le hz
 ·have e1:=hk b o e
  have hb:=hlt b o e1
  unfold sortedHeap
  rw [Heap.get?_update_ne _ _ _ _ hb]
  refine Heap.get?_push_of_some _ (Heap.get?_push_of_some _ ?_)
  rw [Heap.get?_update_ne _ _ _ _ hb]
  exact Heap.get?_push_of_some _ e1
end
end Mine
namespace Mine
open PySem PySem.W PyProof.Rows
noncomputable def Tr (lt:Nat→Nat→Bool) (n:Nat) {α:Type}:KasT α→(α→Prop)→Prop
 | .ret a,Q=>Q a
 | .ask i j k,Q=>i < n∧j < n∧Tr lt n (k (lt i j)) Q
theorem Tr.bind {lt:Nat→Nat→Bool} {n:Nat} {α β:Type} {f:α→KasT β} {Q:β→Prop} {t:KasT α} (h:Tr lt n t (fun a=>Tr lt n (f a) Q)):Tr lt n (t.bind f) Q:=by
 induction t with
 | ret a=>exact h
 | ask i j k ih=>exact ⟨h.1,h.2.1,ih _ h.2.2⟩
structure Weak (lt:Nat→Nat→Bool):Prop where
 irr:∀ i,lt i i=false
 asy:∀ i j,lt i j=true→lt j i=false
 neg:∀ i j k,lt i k=true→lt i j=true∨lt j k=true
variable {lt:Nat→Nat→Bool}
theorem JA {b:Bool} {P:Prop} (h:b=true) (h':b=false):P:=nomatch h.symm.trans h'
theorem Weak.no (W:Weak lt) {i j k:Nat} (h1:lt i j=false) (h2:lt j k=false):lt i k=false:=Bool.eq_false_iff.mpr fun h=>(W.neg i j k h).elim (JA · h1) (JA · h2)
theorem Weak.tr (W:Weak lt) {i j k:Nat} (h1:lt i j=true) (h2:lt j k=true):lt i k=true:=(W.neg i k j h1).elim id fun h=>JA h (W.asy _ _ h2)
noncomputable def Bf (lt:Nat→Nat→Bool) (i j:Nat):Prop:=lt i j=true∨(lt j i=false∧i < j)
theorem Bf.no (W:Weak lt) (h:Bf lt i j):lt j i=false:=h.elim (fun h=>W.asy _ _ h) fun h=>h.1
theorem Bf.trans (W:Weak lt) {i j k:Nat} (h1:Bf lt i j) (h2:Bf lt j k):Bf lt i k:=
 h1.elim (fun a=>.inl ((W.neg i k j a).elim id fun h=>JA h (h2.no W))) fun a=>h2.elim (fun c=>.inl ((W.neg j i k c).elim (fun h=>JA h a.1) id)) fun c=>.inr ⟨W.no c.1 a.1,Nat.lt_trans a.2 c.2⟩
structure Fix (f:Nat) (p:Array Nat) (L:List Nat):Prop where
 eq:p.toList=L ++ List.range' L.length f
 perm:L.Perm (List.range L.length)
section
variable {f n:Nat} {p:Array Nat} {L K D A R X Y:List Nat} {x z:Nat}
theorem Aj (K:List Nat) (z:Nat):(K ++ [z]).length=K.length + 1:=List.length_append
theorem Fix.low (F:Fix f p L) (h:x ∈ L):x < L.length:=List.mem_range.mp (F.perm.mem_iff.mp h)
theorem Fix.grow (F:Fix (f + 1) p L):Fix f p (L ++ [L.length]) where
 eq:=by rw [F.eq,List.range'_succ,Aj,List.append_cons]
 perm:=by rw [Aj,List.range_succ];exact F.perm.append_right _
theorem JB (h:p.toList=X ++ x :: Y):p.getD X.length 0=x:=by
 rw [Array.getD_eq_getD_getElem?,← Array.getElem?_toList,h,List.getElem?_append_right (Nat.le_refl _),Nat.sub_self];rfl
theorem Fix.here (F:Fix (f + 1) p L):p.getD L.length 0=L.length:=JB (F.eq.trans (by rw [List.range'_succ]))
theorem Fix.here1 (F:Fix (f + 1) p (K ++ [z])):p.getD (K.length + 1) 0=K.length + 1:=Aj K z▸F.here
theorem Fix.last (F:Fix f p (K ++ [z])):p.getD K.length 0=z:=JB (F.eq.trans (List.append_assoc ..))
theorem Fix.low1 (F:Fix f p (K ++ [z])) (h:K.length + 1 + f=n):z < n:=
 Nat.lt_of_lt_of_le (F.low (List.mem_append_right _ List.mem_cons_self)) (h▸(Aj K z).symm▸Nat.le_add_right _ _)
theorem Fix.at (F:Fix f p L) (h:i < L.length):p.getD i 0=L[i]:=by
 rw [Array.getD_eq_getD_getElem?,← Array.getElem?_toList,F.eq,List.getElem?_append_left h,List.getElem?_eq_getElem h];rfl
theorem PJ (h:p.toList=D ++ (A ++ R)):(kas_rev p D.length (D.length + A.length)).toList=D ++ (A.reverse ++ R):=by
 have hz:D.length + A.length≤p.size:=by rw [← Array.length_toList,h,List.length_append,List.length_append,← Nat.add_assoc];exact Nat.le_add_right _ _
 refine List.ext_getElem? fun k=>?_
 rw [Array.getElem?_toList,kas_rev,getElem?_mirror_all hz,← Array.getElem?_toList,← Array.getElem?_toList,h]
 refine (Nat.lt_or_ge k D.length).elim (fun c=>?_) fun c=>?_
 ·rw [if_neg (fun z=>Nat.not_lt.mpr z.1 c),List.getElem?_append_left c,List.getElem?_append_left c]
 ·obtain ⟨i,rfl⟩:=Nat.exists_eq_add_of_le c
  rw [List.getElem?_append_right c,List.getElem?_append_right c,Nat.add_sub_cancel_left]
  refine (Nat.lt_or_ge i A.length).elim (fun c'=>?_) fun c'=>?_
  ·refine (Nat.exists_eq_add_of_le c').elim fun j (hj:A.length=i + 1 + j)=>?_
   have e1:A.length - 1 - i=j:=by rw [hj,Nat.add_right_comm,Nat.add_sub_cancel,Nat.add_sub_cancel_left]
   have e2:D.length + (D.length + A.length) - 1 - (D.length + i)=D.length + j:=Nat.sub_eq_of_eq_add (Nat.sub_eq_of_eq_add (hj▸Nat.le_antisymm (an3 .le (.a .v0 (.a .v0 (.a (.a .v1 .n1) .v2))) (.a (.a (.a .v0 .v2) (.a .v0 .v1)) .n1) .e rfl) (an3 .le (.a (.a (.a .v0 .v1) (.a .v0 .v2)) .n1) (.a .v0 (.a .v0 (.a (.a .v2 .n1) .v1))) .e rfl)))
   rw [if_pos ⟨c,Nat.add_lt_add_left c' _⟩,e2,List.getElem?_append_right (Nat.le_add_right ..),Nat.add_sub_cancel_left,List.getElem?_append_left (hj▸Nat.lt_add_of_pos_left (Nat.zero_lt_succ i)),List.getElem?_append_left (by rw [List.length_reverse];exact c'),List.getElem?_reverse c',e1]
  ·rw [if_neg (fun z=>Nat.not_lt.mpr c' (Nat.lt_of_add_lt_add_left z.2)),List.getElem?_append_right c',List.getElem?_append_right (by rw [List.length_reverse];exact c'),List.length_reverse]
theorem QC (h:p.toList=X ++ (Y ++ x :: R)):(bubble p (X.length + Y.length) Y.length).toList=X ++ x :: (Y ++ R):=by
 have hz:X.length + Y.length < p.size:=by rw [← Array.length_toList,h,List.length_append,List.length_append];exact Nat.add_lt_add_left (Nat.lt_add_of_pos_right (Nat.zero_lt_succ _)) _
 refine List.ext_getElem? fun k=>?_
 rw [Array.getElem?_toList,getElem?_bubble hz _ (Nat.le_add_left _ _),Nat.add_sub_cancel,← Array.getElem?_toList,← Array.getElem?_toList,← Array.getElem?_toList,h]
 refine (Nat.lt_or_ge k X.length).elim (fun c=>?_) fun c=>?_
 ·rw [if_neg (Nat.ne_of_lt c),if_neg (fun z=>Nat.lt_asymm c z.1),List.getElem?_append_left c,List.getElem?_append_left c]
 ·obtain ⟨i,rfl⟩:=Nat.exists_eq_add_of_le c
  rw [List.getElem?_append_right c,List.getElem?_append_right c,Nat.add_sub_cancel_left]
  cases i with
  | zero=>rw [if_pos (Nat.add_zero _),List.getElem?_append_right (Nat.le_add_right _ _),Nat.add_sub_cancel_left,List.getElem?_append_right (Nat.le_refl _),Nat.sub_self];rfl
  | succ j=>
   rw [if_neg (Nat.ne_of_gt (Nat.lt_add_of_pos_right (Nat.zero_lt_succ j))),List.getElem?_cons_succ]
   refine (Nat.lt_or_ge j Y.length).elim (fun c'=>?_) fun c'=>?_
   ·rw [if_pos ⟨Nat.lt_add_of_pos_right (Nat.zero_lt_succ j),Nat.add_le_add_left c' _⟩,show X.length + (j + 1) - 1=X.length + j from rfl,List.getElem?_append_right (Nat.le_add_right _ _),Nat.add_sub_cancel_left,List.getElem?_append_left c',List.getElem?_append_left c']
   ·rw [if_neg (fun z=>Nat.not_lt.mpr c' (Nat.le_of_add_le_add_left z.2)),List.getElem?_append_right (Nat.le_succ_of_le c'),List.getElem?_append_right c',Nat.succ_sub c'];rfl
theorem IR (D A:List Nat):(D ++ A.reverse).length=(D ++ A).length:=by rw [List.length_append,List.length_append,List.length_reverse]
theorem Fix.rev (F:Fix f p (D ++ A)):Fix f (kas_rev p D.length (D ++ A).length) (D ++ A.reverse) where
 eq:=by
  have e:=F.eq
  rw [List.append_assoc] at e
  rw [List.length_append,PJ e,List.append_assoc,List.length_append,List.length_append,List.length_reverse]
 perm:=by
  have e:=F.perm
  rw [List.length_append] at e
  rw [List.length_append,List.length_reverse]
  exact ((List.reverse_perm A).append_left D).trans e
theorem P5 (W:Weak lt) (S:(K ++ [z]).Pairwise (Bf lt)) (h:Bf lt z x):(K ++ [z] ++ [x]).Pairwise (Bf lt):=
 List.pairwise_append.mpr ⟨S,List.pairwise_singleton _ _,fun a ha b hb=>List.mem_singleton.mp hb▸((List.mem_append.mp ha).elim (fun ha=>((List.pairwise_append.mp S).2.2 a ha z List.mem_cons_self).trans W h) fun ha=>List.mem_singleton.mp ha▸h)⟩
end
noncomputable def Up (lt:Nat→Nat→Bool) (n:Nat) (p:Array Nat) (Q:Nat→Prop):Prop:=
 ∀ g K z,K.length + 1 + g=n→Fix g p (K ++ [z])→(K ++ [z]).Pairwise (Bf lt)→(g ≠ 0→lt (K.length + 1) z=true)→Q (K.length + 1)
theorem N4 (W:Weak lt) (q:Up lt n p Q) (f:Nat):∀ (K:List Nat) (z:Nat),K.length + 1 + f=n→Fix f p (K ++ [z])→(K ++ [z]).Pairwise (Bf lt)→Tr lt n (kas_asc p f (K.length + 1)) Q:=by
 induction f with
 | zero=>exact fun K z hn F S=>q 0 K z hn F S fun h=>absurd rfl h
 | succ f ih=>
  intro K z hn F S
  show Tr lt n (.ask (p.getD (K.length + 1) 0) (p.getD K.length 0) _) Q
  rw [F.here1,F.last]
  refine ⟨hn▸Nat.lt_add_of_pos_right (Nat.zero_lt_succ f),F.low1 hn,?_⟩
  show Tr lt n (if lt (K.length + 1) z=true then _ else _) Q
  by_cases hc:lt (K.length + 1) z=true
  ·rw [if_pos hc];exact q (f + 1) K z hn F S fun _=>hc
  ·rw [if_neg hc]
   have G:=F.grow
   have lo:=F.low (List.mem_append_right K List.mem_cons_self)
   have:=ih (K ++ [z]) (K ++ [z]).length
   rw [Aj] at this G lo
   exact this (Nat.add_right_comm _ f 1▸hn) G (P5 W S (.inr ⟨Bool.eq_false_iff.mpr hc,lo⟩))
noncomputable def Ue (lt:Nat→Nat→Bool) (n:Nat) (Q:Nat × Array Nat→Prop):Prop:=
 ∀ g p L,L.length + g=n→Fix g p L→L.Pairwise (Bf lt)→1≤L.length→Q (L.length,p)
theorem JX (W:Weak lt) (hn:L.length + f=n) (F:Fix f p L) (h0:1≤L.length) (h:L.Pairwise fun x y=>Bf lt y x) (hQ:Ue lt n Q):Tr lt n (kas_tail3 L.length n p) Q:=by
 refine Tr.bind ?_
 have F':Fix f (kas_rev p 0 L.length) L.reverse:=Fix.rev (D:=[]) F
 have S:=List.pairwise_reverse.mpr h
 rw [show n - L.length=f by rw [← hn];exact Nat.add_sub_cancel_left ..]
 generalize kas_rev p 0 L.length=p' at F' ⊢
 rw [← List.length_reverse] at hn h0 ⊢
 generalize L.reverse=M at *
 obtain ⟨K,z,rfl⟩:∃ K z,M=K ++ [z]:=⟨M.dropLast,M.getLast (List.ne_nil_of_length_pos h0),(List.dropLast_concat_getLast _).symm⟩
 rw [Aj] at hn ⊢
 exact N4 W (fun g K z hn F S _=>by have:=hQ g p' (K ++ [z]);rw [Aj] at this;exact this hn F S (Nat.le_add_left 1 _)) f K z hn F' S
noncomputable def Ss (lt:Nat→Nat→Bool) (x y:Nat):Prop:=lt x y=false∧lt y x=false∧x < y
structure Run (lt:Nat→Nat→Bool) (f:Nat) (p:Array Nat) (D A:List Nat) (z:Nat):Prop where
 fix:Fix f p (D ++ (A ++ [z]))
 dsc:D.Pairwise fun x y=>Bf lt y x
 alike:(A ++ [z]).Pairwise (Ss lt)
 strict:∀ d ∈ D,∀ a ∈ A ++ [z],lt a d=true
section
variable {f n:Nat} {p:Array Nat} {D A:List Nat} {z:Nat}
theorem Run.dscRev (R:Run lt f p D A z):(D ++ (A ++ [z]).reverse).Pairwise fun x y=>Bf lt y x:=
 List.pairwise_append.mpr ⟨R.dsc,List.pairwise_reverse.mpr (R.alike.imp fun h=>.inr ⟨h.2.1,h.2.2⟩),fun d hd a ha=>.inl (R.strict d hd a (List.mem_reverse.mp ha))⟩
theorem Run.below (W:Weak lt) (R:Run lt f p D A z) {x:Nat} (h:lt x z=true):∀ d ∈ D ++ (A ++ [z]).reverse,lt x d=true:=fun d hd=>by
 have hz:∀ d ∈ A ++ [z],lt d z=false:=fun d hd=>(List.mem_append.mp hd).elim (fun hd=>((List.pairwise_append.mp R.alike).2.2 d hd z List.mem_cons_self).1) fun hd=>List.mem_singleton.mp hd▸W.irr _
 exact (List.mem_append.mp hd).elim (fun hd=>W.tr h (R.strict d hd z (List.mem_append_right _ List.mem_cons_self))) fun hd=>(W.neg x d z h).elim id fun h=>JA h (hz d (List.mem_reverse.mp hd))
theorem GC (F:Fix (f + 1) p L) (h:L.Pairwise fun x y=>Bf lt y x) (hs:∀ d ∈ L,lt L.length d=true):Run lt f p L [] L.length:=
 ⟨F.grow,h,List.pairwise_singleton _ _,fun d hd a ha=>List.mem_singleton.mp ha▸hs d hd⟩
theorem Run.next (W:Weak lt) (R:Run lt (f + 1) p D A z) (h:lt (D ++ (A ++ [z])).length z=true):Run lt f (kas_rev p D.length (D ++ (A ++ [z])).length) (D ++ (A ++ [z]).reverse) [] (D ++ (A ++ [z])).length:=by
 have:=R.fix.rev
 rw [← IR] at this h ⊢
 exact GC this R.dscRev (R.below W h)
theorem Run.same (W:Weak lt) (R:Run lt (f + 1) p D A z) (h1:lt (D ++ (A ++ [z])).length z=false) (h2:lt z (D ++ (A ++ [z])).length=false):Run lt f p D (A ++ [z]) (D ++ (A ++ [z])).length:=by
 have hz:∀ a ∈ A ++ [z],lt a z=false∧lt z a=false:=fun d hd=>(List.mem_append.mp hd).elim (fun hd=>(fun h:Ss lt d z=>⟨h.1,h.2.1⟩) ((List.pairwise_append.mp R.alike).2.2 d hd z List.mem_cons_self)) fun hd=>List.mem_singleton.mp hd▸⟨W.irr _,W.irr _⟩
 refine ⟨List.append_assoc D (A ++ [z]) _▸R.fix.grow,R.dsc,List.pairwise_append.mpr ⟨R.alike,List.pairwise_singleton _ _,fun a ha b hb=>List.mem_singleton.mp hb▸⟨W.no (hz a ha).1 h2,W.no h1 (hz a ha).2,R.fix.low (List.mem_append_right _ ha)⟩⟩,fun d hd a ha=>(List.mem_append.mp ha).elim (R.strict d hd a) fun ha=>List.mem_singleton.mp ha▸?_⟩
 exact (W.neg _ _ _ (R.strict d hd z (List.mem_append_right _ List.mem_cons_self))).elim (fun h=>JA h h2) id
end
theorem Rd (W:Weak lt) (hQ:∀ f p D A z,(D ++ (A ++ [z])).length + f=n→Run lt f p D A z→Q (p,(D ++ (A ++ [z])).length,A.length)) (f:Nat) :
  ∀ (p:Array Nat) (D A:List Nat) (z:Nat),(D ++ (A ++ [z])).length + f=n→Run lt f p D A z→Tr lt n (kas_desc f p (D ++ (A ++ [z])).length A.length) Q:=by
 induction f with
 | zero=>exact fun p D A z hn R=>hQ 0 p D A z hn R
 | succ f ih=>
  intro p D A z hn R
  have hm:(D ++ (A ++ [z])).length=(D ++ A).length + 1:=by rw [← List.append_assoc];exact Aj ..
  have hlt:(D ++ (A ++ [z])).length < n:=hn▸Nat.lt_add_of_pos_right (Nat.zero_lt_succ f)
  have hz:z < n:=Nat.lt_trans (R.fix.low (List.mem_append_right _ (List.mem_append_right _ List.mem_cons_self))) hlt
  have e1:=R.fix.here
  have e2:p.getD ((D ++ (A ++ [z])).length - 1) 0=z:=by
   have:=R.fix
   rw [← List.append_assoc] at this
   rw [hm];exact this.last
  have hg:(D ++ (A ++ [z])).length - (A.length + 1)=D.length:=by rw [List.length_append,Aj];exact Nat.add_sub_cancel ..
  have hn':(D ++ (A ++ [z])).length + 1 + f=n:=by rw [Nat.add_right_comm];exact hn
  show Tr lt n (.ask (p.getD (D ++ (A ++ [z])).length 0) (p.getD ((D ++ (A ++ [z])).length - 1) 0) fun c=>if c=true then (if A.length > 0 then kas_desc f (kas_rev p ((D ++ (A ++ [z])).length - (A.length + 1)) (D ++ (A ++ [z])).length) ((D ++ (A ++ [z])).length + 1) 0 else kas_desc f p ((D ++ (A ++ [z])).length + 1) 0) else .ask _ _ _) Q
  rw [e1,e2,hg]
  refine ⟨hlt,hz,?_⟩
  show Tr lt n (if lt (D ++ (A ++ [z])).length z=true then _ else _) Q
  have ln:∀ (X:List Nat) x,(X ++ ([] ++ [x])).length=X.length + 1:=Aj
  by_cases hc:lt (D ++ (A ++ [z])).length z=true
  ·rw [if_pos hc]
   have R':=R.next W hc
   have hr:=ih (kas_rev p D.length (D ++ (A ++ [z])).length) (D ++ (A ++ [z]).reverse) [] (D ++ (A ++ [z])).length
   rw [ln,IR] at hr
   by_cases ha:A.length > 0
   ·rw [if_pos ha];exact hr hn' R'
   ·rw [if_neg ha]
    have ha:=List.length_eq_zero_iff.mp (Nat.eq_zero_of_not_pos ha)
    subst ha
    have R':=GC R.fix (R.dscRev (D:=D) (A:=[]) (z:=z)) (R.below W hc)
    have hr:=ih p (D ++ [z]) [] (D ++ [z]).length
    rw [ln] at hr
    exact hr hn' R'
  ·rw [if_neg hc]
   refine ⟨hz,hlt,?_⟩
   show Tr lt n (if lt z (D ++ (A ++ [z])).length=true then _ else _) Q
   by_cases hd:lt z (D ++ (A ++ [z])).length=true
   ·rw [if_pos hd];exact hQ (f + 1) p D A z hn R
   ·rw [if_neg hd]
    have hr:=ih p D (A ++ [z]) (D ++ (A ++ [z])).length
    rw [← List.append_assoc D,Aj,Aj A] at hr
    exact hr hn' (R.same W (Bool.eq_false_iff.mpr hc) (Bool.eq_false_iff.mpr hd))
theorem Fp (W:Weak lt) (hn:L.length + 1 + f=n) (R:Run lt f p L [] L.length) (hQ:Ue lt n Q):Tr lt n (kas_descPart L.length n p) Q:=by
 refine Tr.bind ?_
 rw [show n - (L.length + 1)=f by rw [← hn];exact Nat.add_sub_cancel_left ..]
 have:=Rd (n:=n) W (Q:=fun r=>Tr lt n (if r.2.2 > 0 then kas_tail3 r.2.1 n (kas_rev r.1 (r.2.1 - (r.2.2 + 1)) r.2.1) else kas_tail3 r.2.1 n r.1) Q) (fun f p D A z hn R=>?_) f p L [] L.length
 rotate_left
 ·have e:=IR D (A ++ [z])
  have h1:1≤(D ++ (A ++ [z])).length:=by rw [← List.append_assoc,Aj];exact Nat.le_add_left ..
  by_cases ha:A.length > 0
  ·rw [if_pos ha]
   dsimp only
   have:=JX W (e▸hn) R.fix.rev (e▸h1) R.dscRev hQ
   rw [e] at this
   rw [show (D ++ (A ++ [z])).length - (A.length + 1)=D.length by rw [List.length_append,Aj];exact Nat.add_sub_cancel ..]
   exact this
  ·rw [if_neg ha]
   have ha:=List.length_eq_zero_iff.mp (Nat.eq_zero_of_not_pos ha)
   subst ha
   exact JX W hn R.fix h1 R.dscRev hQ
 have e:(L ++ ([] ++ [L.length])).length=L.length + 1:=Aj L L.length
 rw [e] at this
 exact this hn R
theorem Qg {n:Nat} {Q:Nat × Array Nat→Prop} (W:Weak lt) (hQ:Ue lt (n + 1) Q):Tr lt (n + 1) (kas_count (n + 1) (List.toArray (List.range (n + 1)))) Q:=by
 refine Tr.bind ?_
 have F:Fix n (List.toArray (List.range (n + 1))) ([] ++ [0]):=Fix.grow (L:=[]) ⟨List.range_eq_range',.nil⟩
 generalize List.toArray (List.range (n + 1))=p at *
 refine N4 W (fun g K z hn F S hl=>?_) n [] 0 (Nat.add_comm ..) F (List.pairwise_singleton _ _)
 have fin:Q (K.length + 1,p):=by have:=hQ g p (K ++ [z]);rw [Aj] at this;exact this hn F S (Nat.le_add_left 1 _)
 cases g with
 | zero=>rw [if_pos (beq_iff_eq.mpr hn)];exact fin
 | succ g=>
  have hl:=hl nofun
  have hn':(K ++ [z]).length + 1 + g=n + 1:=by rw [Aj,Nat.add_right_comm];exact hn
  have hn'':(K ++ [z]).reverse.length + 1 + g=n + 1:=by rw [List.length_reverse];exact hn'
  rw [if_neg (fun e=>Nat.ne_of_lt (hn▸Nat.lt_add_of_pos_right (Nat.zero_lt_succ g)) (beq_iff_eq.mp e))]
  have ha:=List.pairwise_append.mp S
  cases K with
  | nil=>
   rw [if_neg (by decide)]
   exact Fp (L:=[z]) W hn' (GC F (List.pairwise_singleton _ _) fun d hd=>List.mem_singleton.mp hd▸hl) hQ
  | cons a K=>
   rw [if_pos (show (a :: K).length + 1 > 1 from Nat.succ_lt_succ (Nat.zero_lt_succ _))]
   have e0:p.getD 0 0=a:=JB (X:=[]) F.eq
   have el:p.getD ((a :: K).length + 1 - 1) 0=z:=F.last
   show Tr lt (n + 1) (.ask (p.getD 0 0) (p.getD ((a :: K).length + 1 - 1) 0) _) Q
   rw [e0,el]
   have lo:∀ x ∈ (a :: K) ++ [z],x < n + 1:=fun x hx=>Nat.lt_of_lt_of_le (F.low hx) (Aj (a :: K) z▸hn▸Nat.le_add_right _ _)
   refine ⟨lo a List.mem_cons_self,lo z (List.mem_append_right _ List.mem_cons_self),?_⟩
   show Tr lt (n + 1) (if lt a z=true then _ else _) Q
   by_cases hc:lt a z=true
   ·rw [if_pos hc];exact fin
   ·rw [if_neg hc]
    have hz:∀ d ∈ (a :: K) ++ [z],lt d z=false:=fun d hd=>(List.mem_append.mp hd).elim (fun hd=>(List.mem_cons.mp hd).elim (fun e=>e▸Bool.eq_false_iff.mpr hc) fun hk=>
     W.no (((List.pairwise_cons.mp ha.1).1 d hk).no W) (Bool.eq_false_iff.mpr hc)) fun hd=>List.mem_singleton.mp hd▸W.irr _
    have F':Fix (g + 1) (kas_rev p 0 ((a :: K) ++ [z]).length) ((a :: K) ++ [z]).reverse:=Fix.rev (D:=[]) F
    have hr:=GC (lt:=lt) F' (List.pairwise_reverse.mpr S) fun d hd=>by
     rw [List.length_reverse,Aj]
     exact (W.neg _ d _ hl).elim id fun h=>JA h (hz d (List.mem_reverse.mp hd))
    have:=Fp W hn'' hr hQ
    rw [List.length_reverse,Aj] at this
    exact this
theorem OP (hk:p.getD k 0=k) (hn:k < n) (inb:∀ i,i < k→p.getD i 0 < n) (up:∀ i j,i≤j→j < k→lt k (p.getD i 0)=true→lt k (p.getD j 0)=true)
  (hQ:∀ l,l≤k→(∀ i,i < l→lt k (p.getD i 0)=false)→(∀ i,l≤i→i < k→lt k (p.getD i 0)=true)→Q l) (f:Nat) :
  ∀ l r:Nat,l≤r→r≤k→r≤l + f→(∀ i,i < l→lt k (p.getD i 0)=false)→(∀ i,r≤i→i < k→lt k (p.getD i 0)=true)→Tr lt n (kas_place p k f l r) Q:=by
 induction f with
 | zero=>exact fun l r h1 h2 h3 a b=>hQ l (Nat.le_trans h1 h2) a fun i h=>b i (Nat.le_trans h3 h)
 | succ f ih=>
  intro l r h1 h2 h3 a b
  show Tr lt n (if l ≥ r then .ret l else .ask (p.getD k 0) (p.getD ((l + r) / 2) 0) fun c=>if c=true then kas_place p k f l ((l + r) / 2) else kas_place p k f ((l + r) / 2 + 1) r) Q
  by_cases hl:l ≥ r
  ·rw [if_pos hl];exact hQ l (Nat.le_trans h1 h2) a fun i h=>b i (Nat.le_trans hl h)
  ·rw [if_neg hl,hk]
   have hl:=Nat.lt_of_not_le hl
   have m1:l≤(l + r) / 2:=(Nat.le_div_iff_mul_le (by decide)).mpr (by rw [Nat.mul_two];exact Nat.add_le_add_left h1 l)
   have m2:(l + r) / 2 < r:=Nat.div_lt_of_lt_mul (by rw [Nat.two_mul];exact Nat.add_lt_add_right hl r)
   have mk:=Nat.lt_of_lt_of_le m2 h2
   refine ⟨hn,inb _ mk,?_⟩
   show Tr lt n (if lt k (p.getD ((l + r) / 2) 0)=true then _ else _) Q
   by_cases hc:lt k (p.getD ((l + r) / 2) 0)=true
   ·rw [if_pos hc];exact ih l _ m1 (Nat.le_of_lt mk) (Nat.le_of_lt_succ (Nat.lt_of_lt_of_le m2 h3)) a fun i c e=>up _ i c e hc
   ·rw [if_neg hc];exact ih _ r m2 h2 (by rw [Nat.add_right_comm];exact Nat.le_trans h3 (Nat.add_le_add_right m1 (f + 1))) (fun i c=>Bool.eq_false_iff.mpr fun h=>hc (up i _ (Nat.le_of_lt_succ c) mk h)) b
theorem RT {n:Nat} (W:Weak lt) {Q:Array Nat→Prop} (hQ:∀ p L,Fix 0 p L→L.length=n→L.Pairwise (Bf lt)→Q p) (f:Nat):∀ (p:Array Nat) (L:List Nat),L.length + f=n→Fix f p L→L.Pairwise (Bf lt)→Tr lt n (kas_bin f p L.length) Q:=by
 induction f with
 | zero=>exact fun p L hn F S=>hQ p L F hn S
 | succ f ih=>
  intro p L hn F S
  have hk:L.length < n:=hn▸Nat.lt_add_of_pos_right (Nat.zero_lt_succ f)
  refine Tr.bind (OP F.here hk (fun i h=>?_) (fun i j hij hj h=>?_) (fun l hl a b=>?_) L.length 0 L.length (Nat.zero_le _) (Nat.le_refl _) (Nat.le_add_left ..) (fun i h=>absurd h (Nat.not_lt_zero _)) fun i h h'=>absurd h' (Nat.not_lt.mpr h))
  ·rw [F.at h];exact Nat.lt_trans (F.low (List.getElem_mem h)) hk
  ·refine (Nat.lt_or_eq_of_le hij).elim (fun hij=>?_) fun e=>e▸h
   rw [F.at hj];rw [F.at (Nat.lt_trans hij hj)] at h
   exact (W.neg _ _ _ h).elim id fun h=>JA h ((List.pairwise_iff_getElem.mp S i j (Nat.lt_trans hij hj) hj hij).no W)
  ·have e:L.take l ++ L.drop l=L:=List.take_append_drop ..
   have l1:(L.take l).length=l:=List.length_take_of_le hl
   have l2:(L.drop l).length=L.length - l:=List.length_drop
   have eq:=F.eq
   rw [List.range'_succ] at eq
   have:=QC (p:=p) (X:=L.take l) (Y:=L.drop l) (x:=L.length) (R:=List.range' (L.length + 1) f) (by rw [← List.append_assoc,e];exact eq)
   rw [← List.length_append,e,l2] at this
   have ha:∀ x ∈ L.take l,lt L.length x=false:=fun x hx=>(List.mem_take_iff_getElem.mp hx).elim fun i h=>h.elim fun h e=>by
    have h:=Nat.lt_min.mp h
    have:=a i h.1
    rw [F.at h.2] at this;exact e▸this
   have hb:∀ x ∈ L.drop l,lt L.length x=true:=fun x hx=>(List.mem_drop_iff_getElem.mp hx).elim fun i h=>h.elim fun h e=>by
    have h:l + i < L.length:=Nat.add_comm i l▸h
    have:=b (l + i) (Nat.le_add_right ..) h
    rw [F.at h] at this;exact e▸this
   have hp:(L.take l ++ L.length :: L.drop l).Perm (L.length :: L):=List.perm_middle.trans (.cons _ (.of_eq e))
   have hl':(L.take l ++ L.length :: L.drop l).length=L.length + 1:=hp.length_eq
   have hr:=ih (bubble p L.length (L.length - l)) (L.take l ++ L.length :: L.drop l)
   rw [hl'] at hr
   refine hr (by rw [Nat.add_right_comm];exact hn) ⟨?_,?_⟩ ?_
   ·rw [this,hl',List.append_assoc];rfl
   ·rw [hl',List.range_succ];exact hp.trans ((List.perm_append_singleton _ _).symm.trans (F.perm.append_right _))
   ·have s:=List.pairwise_append.mp (e.symm▸S)
    exact List.pairwise_append.mpr ⟨s.1,List.pairwise_cons.mpr ⟨fun y hy=>.inl (hb y hy),s.2.1⟩,fun x hx=>List.forall_mem_cons.mpr ⟨.inr ⟨ha x hx,F.low (List.mem_of_mem_take hx)⟩,s.2.2 x hx⟩⟩
theorem Lg (W:Weak lt) (h:1≤n):Tr lt n (kas_sort n) fun p=>p.toList.Perm (List.range n)∧p.toList.Pairwise (Bf lt):=by
 have fin:∀ p L,Fix 0 p L→L.length=n→L.Pairwise (Bf lt)→p.toList.Perm (List.range n)∧p.toList.Pairwise (Bf lt):=fun p L F hn S=>by
  have e:=F.eq
  rw [List.range'_zero,List.append_nil] at e
  rw [e];exact ⟨hn▸F.perm,S⟩
 refine Tr.bind ?_
 cases n with
 | zero=>cases h
 | succ n=>
  refine Qg W fun g p L hn F S h1=>?_
  cases g with
  | zero=>rw [if_neg (show ¬ L.length < n + 1 from Nat.not_lt.mpr (Nat.le_of_eq hn.symm))];exact fin p L F hn S
  | succ g=>
   rw [if_pos (show L.length < n + 1 from hn▸Nat.lt_add_of_pos_right (Nat.zero_lt_succ g))]
   dsimp only
   rw [Nat.max_eq_left h1,show n + 1 - L.length=g + 1 by rw [← hn];exact Nat.add_sub_cancel_left ..]
   exact RT W fin (g + 1) p L hn F S
end Mine
namespace Mine
open PySem
set_option genSizeOf false
set_option genInjectivity false
inductive V where
 | undef | none | bool (b:Bool) | int (i:Int) | str (s:Str) | tup (vs:List V) | ref (n:Nat)
inductive O where
 | list (vs:List V)
 | tab (P:Addr)
 | gone
 | dict (ep:Nat) (kvs:List (Str × V))
 | inst (C:Addr) (m:Nat)
 | ns (fs:List (Str × V))
 | row (P:Addr) (ln col:Int) (m:Nat)
 | code (q:Str)
abbrev AD:=List O
abbrev Ac:=Nat→AD→Prop
abbrev AO:=V→AD→Prop
abbrev Br:=Nat→List V→AD→AO→Ac→Prop
abbrev Ex:=Br→List V→AD→AO→Ac→Prop
abbrev Es:=Br→List V→AD→(List V→AD→Prop)→Ac→Prop
abbrev Tx:=Br→List V→AD→(Bool→AD→Prop)→Ac→Prop
inductive Fl where
 | next | brk | cont
 | ret (v:V)
 | exc (c:Nat)
abbrev BR:=Fl→List V→AD→Prop
abbrev Sx:=Br→List V→AD→BR→Prop
inductive BOp where | add | sub | mul | floordiv | mod | pow
inductive Ty where | int | bool | str | tuple | list
noncomputable def Ah:Nat:=1000000
noncomputable def B5:Nat:=16000000
noncomputable def CU (i:Int):Bool:=decide (-(2 ^ 63)≤i) && decide (i < 2 ^ 63)
noncomputable def b2i (b:Bool):Int:=if b then 1 else 0
noncomputable def Fw {α β:Type} (f:α→Option β):List α→Option (List β)
 | []=>some []
 | a :: as=>(f a).bind fun b=>(Fw f as).map (b :: ·)
noncomputable def O6 (f:V→Option PyData):Option O→Option PyData
 | some (.list vs)=>(Fw f vs).map PyData.list
 | _=>Option.none
noncomputable def toD (σ:AD):Nat→V→Option PyData
 | 0,_=>Option.none
 | n + 1,v=>match v with
  | .none=>some .none
  | .bool b=>some (.bool b)
  | .int i=>some (.int i)
  | .str x=>some (.str x)
  | .tup vs=>(Fw (toD σ n) vs).map PyData.tuple
  | .ref k=>O6 (toD σ n) σ[k]?
  | .undef=>Option.none
noncomputable def put (k:Str) (v:V) (l:List (Str × V)):List (Str × V):=
 if l.any (fun p=>p.1=k) then l.map (fun p=>if p.1=k then (p.1,v) else p) else l ++ [(k,v)]
noncomputable def del (k:Str) (l:List (Str × V)):List (Str × V):=l.filter fun p=>p.1 ≠ k
noncomputable def Ec (c:Nat):Str:=⟨#[c]⟩
noncomputable def repl {α:Type} (l:List α):Nat→List α
 | 0=>[]
 | n + 1=>l ++ repl l n
inductive TruK (σ:AD) (K:Bool→Prop):V→Prop
 | none:K false→TruK σ K .none
 | bool {b:Bool}:K b→TruK σ K (.bool b)
 | int {i:Int}:K (i != 0)→TruK σ K (.int i)
 | str {s:Str}:s.length≤Ah→K (s.length != 0)→TruK σ K (.str s)
 | tup {vs:List V}:vs.length≤Ah→K (!vs.isEmpty)→TruK σ K (.tup vs)
 | list {n:Nat} {vs:List V}:σ[n]?=some (.list vs)→K (!vs.isEmpty)→TruK σ K (.ref n)
inductive BinK (σ:AD) (Q:AO):BOp→V→V→Prop
 | add {x y:Int}:Q (.int (x + y)) σ→BinK σ Q .add (.int x) (.int y)
 | addS {x y:Str}:x.length + y.length≤Ah→Q (.str (x ++ y)) σ→BinK σ Q .add (.str x) (.str y)
 | addT {x y:List V}:x ≠ []→y ≠ []→x.length + y.length≤Ah→Q (.tup (x ++ y)) σ→BinK σ Q .add (.tup x) (.tup y)
 | addL {n m:Nat} {x y:List V}:σ[n]?=some (.list x)→σ[m]?=some (.list y)→x.length + y.length≤Ah→Q (.ref σ.length) (σ ++ [.list (x ++ y)])→BinK σ Q .add (.ref n) (.ref m)
 | mulL {n k:Nat} {x:List V}:σ[n]?=some (.list x)→k < 2 ^ 40→x.length * k≤Ah→Q (.ref σ.length) (σ ++ [.list (repl x k)])→BinK σ Q .mul (.ref n) (.int k)
 | mulS {x:Str}:Q (.str Str.empty) σ→BinK σ Q .mul (.str x) (.int 0)
 | sub {x y:Int}:Q (.int (x - y)) σ→BinK σ Q .sub (.int x) (.int y)
 | mul {x y:Int}:CU x=true∨CU y=true→Q (.int (x * y)) σ→BinK σ Q .mul (.int x) (.int y)
 | div {x y:Int}:y ≠ 0→CU y=true→Q (.int (x.fdiv y)) σ→BinK σ Q .floordiv (.int x) (.int y)
 | mod {x y:Int}:y ≠ 0→Q (.int (x.fmod y)) σ→BinK σ Q .mod (.int x) (.int y)
 | pow {n:Nat}:0 < n→n≤9→Q (.int (10 ^ n)) σ→BinK σ Q .pow (.int 10) (.int n)
noncomputable def Ab:List Int→List Int→Bool
 | [],[]=>false
 | [],_ :: _=>true
 | _ :: _,[]=>false
 | a :: as,b :: bs=>if a=b then Ab as bs else decide (a < b)
noncomputable def isNone:V→Bool
 | .none=>true
 | _=>false
inductive CmpK (σ:AD) (K:Bool→Prop):CmpOp→V→V→Prop
 | eq {a b:V} {x y:PyData}:toD σ 6 a=some x→toD σ 6 b=some y→x.canLay0=true→y.canLay0=true→K (PyData.eqv x y)→CmpK σ K .Eq a b
 | ne {a b:V} {x y:PyData}:toD σ 6 a=some x→toD σ 6 b=some y→x.canLay0=true→y.canLay0=true→K (!PyData.eqv x y)→CmpK σ K .NotEq a b
 | lt {x y:Int}:K (decide (x < y))→CmpK σ K .Lt (.int x) (.int y)
 | le {x y:Int}:K (decide (x≤y))→CmpK σ K .LtE (.int x) (.int y)
 | gt {x y:Int}:K (decide (x > y))→CmpK σ K .Gt (.int x) (.int y)
 | ge {x y:Int}:K (decide (x ≥ y))→CmpK σ K .GtE (.int x) (.int y)
 | ltT {x y:List Int}:K (Ab x y)→CmpK σ K .Lt (.tup (x.map .int)) (.tup (y.map .int))
 | is {a:V}:K (isNone a)→CmpK σ K .Is a .none
 | isnot {a:V}:K (!isNone a)→CmpK σ K .IsNot a .none
 | inL {a b:V} {x:PyData} {ys:List PyData}:toD σ 6 a=some x→toD σ 6 b=some (.list ys)→x.canLay0=true→PyData.canLayAll0 ys=true→K (ys.any fun y=>PyData.eqv y x)→CmpK σ K .In a b
 | ninL {a b:V} {x:PyData} {ys:List PyData}:toD σ 6 a=some x→toD σ 6 b=some (.list ys)→x.canLay0=true→PyData.canLayAll0 ys=true→K (!ys.any fun y=>PyData.eqv y x)→CmpK σ K .NotIn a b
 | inT {a b:V} {x:PyData} {ys:List PyData}:toD σ 6 a=some x→toD σ 6 b=some (.tuple ys)→x.canLay0=true→PyData.canLayAll0 ys=true→K (ys.any fun y=>PyData.eqv y x)→CmpK σ K .In a b
 | ninT {a b:V} {x:PyData} {ys:List PyData}:toD σ 6 a=some x→toD σ 6 b=some (.tuple ys)→x.canLay0=true→PyData.canLayAll0 ys=true→K (!ys.any fun y=>PyData.eqv y x)→CmpK σ K .NotIn a b
 | inD {n ep:Nat} {kvs:List (Str × V)} {k:Str}:σ[n]?=some (.dict ep kvs)→K (kvs.any fun p=>p.1=k)→CmpK σ K .In (.str k) (.ref n)
 | ninD {n ep:Nat} {kvs:List (Str × V)} {k:Str}:σ[n]?=some (.dict ep kvs)→K (!kvs.any fun p=>p.1=k)→CmpK σ K .NotIn (.str k) (.ref n)
 | inS {c:Nat} {y:Str}:K (decide (c ∈ y.cps.toList))→CmpK σ K .In (.str (Ec c)) (.str y)
noncomputable def Idx (k:Int) (n j:Nat):Prop:=(k=j∧j < n)∨(k + n=j∧k < 0)
inductive SubK (σ:AD) (Q:AO):V→V→Prop
 | tup {vs:List V} {k:Int} {j:Nat} {v:V}:CU k=true→Idx k vs.length j→vs[j]?=some v→Q v σ→SubK σ Q (.tup vs) (.int k)
 | list {n:Nat} {vs:List V} {k:Int} {j:Nat} {v:V}:σ[n]?=some (.list vs)→Idx k vs.length j→vs[j]?=some v→Q v σ→SubK σ Q (.ref n) (.int k)
 | str {s:Str} {k:Int} {j c:Nat}:CU k=true→Idx k s.length j→s.cps[j]?=some c→Q (.str (Ec c)) σ→SubK σ Q (.str s) (.int k)
 | dict {n ep:Nat} {kvs:List (Str × V)} {k:Str} {v:V}:σ[n]?=some (.dict ep kvs)→kvs.lookup k=some v→Q v σ→SubK σ Q (.ref n) (.str k)
inductive BoundK (n d:Nat):Option V→Nat→Prop
 | no:BoundK n d Option.none d
 | pos {i j:Nat}:CU i=true→j=min i n→BoundK n d (some (.int i)) j
 | neg {i:Int} {j:Nat}:i < 0→CU i=true→j=(i + n).toNat→BoundK n d (some (.int i)) j
noncomputable def cut {α:Type} (l:List α) (a b:Nat):List α:=(l.take b).drop a
inductive SliceK (σ:AD) (Q:AO):V→Option V→Option V→Prop
 | list {n:Nat} {vs:List V} {lo hi:Option V} {x y:Nat}:σ[n]?=some (.list vs)→BoundK vs.length 0 lo x→BoundK vs.length vs.length hi y→Q (.ref σ.length) (σ ++ [.list (cut vs x y)])→SliceK σ Q (.ref n) lo hi
 | str {s:Str} {lo hi:Option V} {x y:Nat}:s.length≤Ah→BoundK s.length 0 lo x→BoundK s.length s.length hi y→Q (.str ⟨(cut s.cps.toList x y).toArray⟩) σ→SliceK σ Q (.str s) lo hi
 | tup {vs:List V} {lo hi:Option V} {x y:Nat}:vs.length≤Ah→BoundK vs.length 0 lo x→BoundK vs.length vs.length hi y→(cut vs x y).length < vs.length→Q (.tup (cut vs x y)) σ→SliceK σ Q (.tup vs) lo hi
inductive SortK (σ:AD) (Q:AO):Bool→V→Prop
 | ints {n:Nat} {ns:List Int}:σ[n]?=some (.list (ns.map .int))→ns.length < 64→(∀ ms:List Int,ms.Perm ns→ms.Pairwise (·≤·)→Q (.ref σ.length) (σ ++ [.list (ms.map .int)]))→SortK σ Q false (.ref n)
 | rows {n:Nat} {rs:List (List Int)}:σ[n]?=some (.list (rs.map fun r=>.tup (r.map .int)))→rs.length < 64→(∀ r ∈ rs,r ≠ []) →
   (∀ ts:List (List Int),ts.Perm rs→ts.Pairwise (fun a b=>Ab b a=false)→Q (.ref σ.length) (σ ++ [.list (ts.map fun r=>.tup (r.map .int))]))→SortK σ Q false (.ref n)
 | set {n:Nat} {ns:List Int}:σ[n]?=some (.list (ns.map .int))→ns.length < 64→(∀ ms:List Int,ms.Pairwise (· < ·)→(∀ x,x ∈ ms ↔ x ∈ ns)→Q (.ref σ.length) (σ ++ [.list (ms.map .int)]))→SortK σ Q true (.ref n)
noncomputable def IL (t:Ty):V→Bool
 | .bool _=>match t with | .bool | .int=>true | _=>false
 | .int _=>match t with | .int=>true | _=>false
 | .str _=>match t with | .str=>true | _=>false
 | .tup _=>match t with | .tuple=>true | _=>false
 | .ref _=>match t with | .list=>true | _=>false
 | _=>false
inductive Pr where | len | list | tuple | str | int | min | max | all | isinst (t:Ty)
inductive PrimK (σ:AD) (Q:AO):Pr→List V→Prop
 | lenL {n:Nat} {vs:List V}:σ[n]?=some (.list vs)→Q (.int vs.length) σ→PrimK σ Q .len [.ref n]
 | lenT {vs:List V}:vs.length≤Ah→Q (.int vs.length) σ→PrimK σ Q .len [.tup vs]
 | lenS {s:Str}:s.length≤Ah→Q (.int s.length) σ→PrimK σ Q .len [.str s]
 | all {n:Nat} {bs:List Bool}:σ[n]?=some (.list (bs.map .bool))→Q (.bool (bs.all id)) σ→PrimK σ Q .all [.ref n]
 | list {n:Nat} {vs:List V}:σ[n]?=some (.list vs)→Q (.ref σ.length) (σ ++ [.list vs])→PrimK σ Q .list [.ref n]
 | tuple {n:Nat} {vs:List V}:σ[n]?=some (.list vs)→Q (.tup vs) σ→PrimK σ Q .tuple [.ref n]
 | str {i:Int}:CU i=true→Q (.str (Str.ofString (toString i))) σ→PrimK σ Q .str [.int i]
 | intB {b:Bool}:Q (.int (b2i b)) σ→PrimK σ Q .int [.bool b]
 | min {a b:Int}:Q (.int (if b < a then b else a)) σ→PrimK σ Q .min [.int a,.int b]
 | max {a b:Int}:Q (.int (if b > a then b else a)) σ→PrimK σ Q .max [.int a,.int b]
 | isB {t:Ty} {b:Bool}:Q (.bool (IL t (.bool b))) σ→PrimK σ Q (.isinst t) [.bool b]
 | isI {t:Ty} {i:Int}:Q (.bool (IL t (.int i))) σ→PrimK σ Q (.isinst t) [.int i]
 | isS {t:Ty} {s:Str}:Q (.bool (IL t (.str s))) σ→PrimK σ Q (.isinst t) [.str s]
 | isT {t:Ty} {vs:List V}:Q (.bool (IL t (.tup vs))) σ→PrimK σ Q (.isinst t) [.tup vs]
 | isL {t:Ty} {n:Nat} {vs:List V}:σ[n]?=some (.list vs)→Q (.bool (IL t (.ref n))) σ→PrimK σ Q (.isinst t) [.ref n]
inductive AppK (σ:AD) (Q:AO) (v:V):V→Prop
 | mk {n:Nat} {vs:List V}:σ[n]?=some (.list vs)→vs.length < B5→n ≠ 0→Q .none (σ.set n (.list (vs ++ [v])))→AppK σ Q v (.ref n)
inductive ExtK (σ:AD) (Q:AO):V→V→Prop
 | mk {n m:Nat} {vs us:List V}:σ[n]?=some (.list vs)→σ[m]?=some (.list us)→vs.length + us.length≤B5→n ≠ 0→Q .none (σ.set n (.list (vs ++ us)))→ExtK σ Q (.ref n) (.ref m)
inductive ClrK (σ:AD) (Q:AO):V→Prop
 | mk {n:Nat} {vs:List V}:σ[n]?=some (.list vs)→n ≠ 0→Q .none (σ.set n (.list []))→ClrK σ Q (.ref n)
noncomputable def isList (σ:AD) (v:V):Prop:=∃ n vs,v=.ref n∧σ[n]?=some (.list vs)
noncomputable def Cj (a:Int):Nat→List V
 | 0=>[]
 | n + 1=>.int a :: Cj (a + 1) n
noncomputable def Gg (k:Int):List V→List V
 | []=>[]
 | v :: r=>.tup [.int k,v] :: Gg (k + 1) r
inductive SrcT where | plain | range | enum
inductive SrcK (σ:AD):SrcT→List V→List V→(AD→Prop)→Prop
 | list {n:Nat} {vs:List V}:σ[n]?=some (.list vs)→SrcK σ .plain [.ref n] vs (fun σ'=>σ'[n]?=some (.list vs))
 | tup {vs:List V}:SrcK σ .plain [.tup vs] vs (fun _=>True)
 | str {s:Str}:s.cps.all (· < 128)=true→SrcK σ .plain [.str s] (s.cps.toList.map fun c=>.str (Ec c)) (fun _=>True)
 | dict {n ep:Nat} {kvs:List (Str × V)}:σ[n]?=some (.dict ep kvs)→SrcK σ .plain [.ref n] (kvs.map fun p=>.str p.1) (fun σ'=>σ'[n]?=some (.dict ep kvs))
 | range {b:Int}:-(2 ^ 62)≤b→b≤Ah→SrcK σ .range [.int b] (Cj 0 b.toNat) (fun _=>True)
 | range2 {a b:Int}:0≤a→a≤Ah→-(2 ^ 62)≤b→b≤Ah→SrcK σ .range [.int a,.int b] (Cj a (b - a).toNat) (fun _=>True)
 | enum {n:Nat} {vs:List V}:σ[n]?=some (.list vs)→SrcK σ .enum [.ref n] (Gg 0 vs) (fun σ'=>σ'[n]?=some (.list vs))
inductive Pat where
 | var (i:Nat)
 | tup (ps:List Nat)
noncomputable def Fe:List Nat→List V→List V→List V
 | i :: is,v :: vs,ρ=>Fe is vs (ρ.set i v)
 | _,_,ρ=>ρ
inductive BindK (σ:AD) (K:List V→Prop) (ρ:List V):Pat→V→Prop
 | var {i:Nat} {v:V}:K (ρ.set i v)→BindK σ K ρ (.var i) v
 | tup {ps:List Nat} {vs:List V}:ps.length=vs.length→K (Fe ps vs ρ)→BindK σ K ρ (.tup ps) (.tup vs)
 | list {ps:List Nat} {n:Nat} {vs:List V}:σ[n]?=some (.list vs)→ps.length=vs.length→K (Fe ps vs ρ)→BindK σ K ρ (.tup ps) (.ref n)
inductive SetK (σ:AD) (K:AD→Prop) (v:V):V→V→Prop
 | mk {n:Nat} {vs:List V} {k:Nat}:σ[n]?=some (.list vs)→n ≠ 0→k < vs.length→K (σ.set n (.list (vs.set k v)))→SetK σ K v (.ref n) (.int k)
 | dict {n ep:Nat} {kvs:List (Str × V)} {k:Str}:σ[n]?=some (.dict ep kvs)→n ≠ 0→kvs.length < Ah→(∀ ep',K (σ.set n (.dict ep' (put k v kvs))))→SetK σ K v (.ref n) (.str k)
inductive AttrK (σ:AD) (Q:AO) (C:Addr) (x:Str):V→Prop
 | mk {n m:Nat} {fs:List (Str × V)} {v:V}:σ[n]?=some (.inst C m)→σ[m]?=some (.ns fs)→fs.lookup x=some v→Q v σ→AttrK σ Q C x (.ref n)
noncomputable def O8 (σ:AD) (C:Addr) (x:Str) (v:V):Prop:=∃ n m fs,v=.ref n∧σ[n]?=some (.inst C m)∧σ[m]?=some (.ns fs)∧fs.lookup x=none
inductive PutK (σ:AD) (K:AD→Prop) (C:Addr) (x:Str) (v:V):V→Prop
 | mk {n m:Nat} {fs:List (Str × V)}:σ[n]?=some (.inst C m)→σ[m]?=some (.ns fs)→m ≠ 0→fs.length≤8→K (σ.set m (.ns (put x v fs)))→PutK σ K C x v (.ref n)
inductive PopK (σ:AD) (Q:AO):V→V→Prop
 | mk {n ep:Nat} {kvs:List (Str × V)} {k:Str} {v:V}:σ[n]?=some (.dict ep kvs)→n ≠ 0→kvs.lookup k=some v→(∀ ep',Q v (σ.set n (.dict ep' (del k kvs))))→PopK σ Q (.ref n) (.str k)
noncomputable def dfK (p:Prop):V→Prop
 | .undef=>False
 | _=>p
noncomputable def M3 (K:V→Prop):Option V→Prop
 | some v=>dfK (K v) v
 | Option.none=>False
noncomputable def U2 (K:V→Prop):Option V→Prop
 | some v=>K v
 | Option.none=>False
noncomputable def brW (A B:Prop):Bool→Prop
 | true=>A
 | false=>B
noncomputable def brD (d b:Bool) (A B:Prop):Prop:=match d with
 | true=>brW A B b
 | false=>brW B A b
noncomputable def V9 (σ:AD) (Q:AO) (a b:Int):BOp→Prop
 | .add=>Q (.int (a + b)) σ
 | .sub=>Q (.int (a - b)) σ
 | op=>BinK σ Q op (.int a) (.int b)
noncomputable def Vq (σ:AD) (Q:AO) (op:BOp) (a:Int):V→Prop
 | .int b=>V9 σ Q a b op
 | y=>BinK σ Q op (.int a) y
noncomputable def TY (σ:AD) (Q:AO) (op:BOp) (y:V):V→Prop
 | .int a=>Vq σ Q op a y
 | x=>BinK σ Q op x y
noncomputable def Uq (σ:AD) (Q:AO):V→Prop
 | .int i=>Q (.int (-i)) σ
 | _=>False
noncomputable def Qa (σ:AD) (K:Bool→Prop):V→Prop
 | .none=>K false
 | .bool b=>K b
 | .int i=>K (i != 0)
 | v=>TruK σ K v
noncomputable def WG (σ:AD) (K:Bool→Prop) (a b:Int):CmpOp→Prop
 | .Eq=>K (decide (a=b))
 | .NotEq=>K (!decide (a=b))
 | .Lt=>K (decide (a < b))
 | .LtE=>K (decide (a≤b))
 | .Gt=>K (decide (a > b))
 | .GtE=>K (decide (a ≥ b))
 | op=>CmpK σ K op (.int a) (.int b)
noncomputable def V2 (σ:AD) (K:Bool→Prop) (x:V):CmpOp→Prop
 | .Is=>K (isNone x)
 | .IsNot=>K (!isNone x)
 | op=>CmpK σ K op x .none
noncomputable def WE (σ:AD) (K:Bool→Prop) (a b:Bool):CmpOp→Prop
 | .Eq=>K (a == b)
 | .NotEq=>K (!(a == b))
 | op=>CmpK σ K op (.bool a) (.bool b)
noncomputable def Vv (σ:AD) (K:Bool→Prop) (op:CmpOp) (b:Int):V→Prop
 | .int a=>WG σ K a b op
 | x=>CmpK σ K op x (.int b)
noncomputable def Vt (σ:AD) (K:Bool→Prop) (op:CmpOp) (b:Bool):V→Prop
 | .bool a=>WE σ K a b op
 | x=>CmpK σ K op x (.bool b)
noncomputable def My (σ:AD) (K:Bool→Prop) (op:CmpOp) (x:V):V→Prop
 | .int b=>Vv σ K op b x
 | .none=>V2 σ K x op
 | .bool b=>Vt σ K op b x
 | y=>CmpK σ K op x y
noncomputable def VH (σ:AD) (Q:AO) (vs:List V) (j:Nat):Bool→Prop
 | true=>U2 (fun v=>Q v σ) vs[j]?
 | false=>SubK σ Q (.tup vs) (.int (.ofNat j))
noncomputable def V6 (σ:AD) (Q:AO) (vs:List V):Int→Prop
 | .ofNat j=>VH σ Q vs j (Nat.ble j 1000000)
 | k=>SubK σ Q (.tup vs) (.int k)
noncomputable def Vl (σ:AD) (Q:AO) (vs:List V):V→Prop
 | .int k=>V6 σ Q vs k
 | y=>SubK σ Q (.tup vs) y
noncomputable def TT (σ:AD) (Q:AO) (y:V):V→Prop
 | .tup vs=>Vl σ Q vs y
 | x=>SubK σ Q x y
noncomputable def Lr (K:List V→Prop):List Nat→List V→List V→Prop
 | [],[],ρ=>K ρ
 | p :: ps,v :: vs,ρ=>Lr K ps vs (ρ.set p v)
 | _,_,_=>False
noncomputable def Vf (σ:AD) (K:List V→Prop) (ρ:List V) (ps:List Nat):V→Prop
 | .tup vs=>Lr K ps vs ρ
 | v=>BindK σ K ρ (.tup ps) v
noncomputable def J9 (σ:AD) (K:List V→Prop) (ρ:List V) (v:V):Pat→Prop
 | .var i=>K (ρ.set i v)
 | .tup ps=>Vf σ K ρ ps v
noncomputable def CF:Ex:=fun _ _ σ Q _=>Q .none σ
noncomputable def Ao (b:Bool):Ex:=fun _ _ σ Q _=>Q (.bool b) σ
noncomputable def AG (i:Int):Ex:=fun _ _ σ Q _=>Q (.int i) σ
noncomputable def Aw (s:Str):Ex:=fun _ _ σ Q _=>Q (.str s) σ
noncomputable def AA (i:Nat):Ex:=fun _ ρ σ Q _=>M3 (fun v=>Q v σ) ρ[i]?
noncomputable def AM (op:BOp) (a b:Ex):Ex:=fun C ρ σ Q X=>a C ρ σ (fun x σ₁=>b C ρ σ₁ (fun y σ₂=>TY σ₂ Q op y x) X) X
noncomputable def Rv (a:Ex):Ex:=fun C ρ σ Q X=>a C ρ σ (fun x σ₁=>Uq σ₁ Q x) X
noncomputable def U0 (a:Ex):Ex:=fun C ρ σ Q X=>a C ρ σ (fun x σ₁=>Qa σ₁ (fun b=>Q (.bool (!b)) σ₁) x) X
noncomputable def evs (l:List Ex):Es:=List.rec (motive:=fun _=>Es) (fun _ _ σ Q _=>Q [] σ)
 (fun e _ ih C ρ σ Q X=>e C ρ σ (fun v σ₁=>ih C ρ σ₁ (fun vs σ₂=>Q (v :: vs) σ₂) X) X) l
noncomputable def Vo (d:Bool) (e ih:Ex):List Ex→Ex
 | []=>e
 | _ :: _=>fun C ρ σ Q X=>e C ρ σ (fun v σ₁=>Qa σ₁ (fun b=>brD d b (ih C ρ σ₁ Q X) (Q v σ₁)) v) X
noncomputable def KG (d:Bool) (l:List Ex):Ex:=List.rec (motive:=fun _=>Ex) (fun _ _ _ _ _=>False) (fun e es ih=>Vo d e ih es) l
noncomputable def S9 (op:CmpOp) (ih:List Ex→V→Tx):List CmpOp→List Ex→V→Tx
 | [],[r],x=>fun C ρ σ Q X=>r C ρ σ (fun y σ₁=>My σ₁ (fun b=>Q b σ₁) op x y) X
 | _ :: _,r :: r' :: rs,x=>fun C ρ σ Q X=>r C ρ σ (fun y σ₁=>My σ₁ (fun b=>brW (ih (r' :: rs) y C ρ σ₁ Q X) (Q false σ₁) b) op x y) X
 | _,_,_=>fun _ _ _ _ _=>False
noncomputable def Sn (ops:List CmpOp):List Ex→V→Tx:=List.rec (motive:=fun _=>List Ex→V→Tx) (fun _ _ _ _ _ _ _=>False) (fun op ops ih=>S9 op ih ops) ops
noncomputable def AY (l:Ex) (ops:List CmpOp) (rs:List Ex):Tx:=fun C ρ σ Q X=>l C ρ σ (fun x σ₁=>Sn ops rs x C ρ σ₁ Q X) X
noncomputable def xOf (t:Tx):Ex:=fun C ρ σ Q X=>t C ρ σ (fun b σ₁=>Q (.bool b) σ₁) X
noncomputable def Ap (es:List Ex):Ex:=fun C ρ σ Q X=>evs es C ρ σ (fun vs σ₁=>Q (.tup vs) σ₁) X
noncomputable def Al (es:List Ex):Ex:=fun C ρ σ Q X=>evs es C ρ σ (fun vs σ₁=>Q (.ref σ₁.length) (σ₁ ++ [.list vs])) X
noncomputable def AJ (a i:Ex):Ex:=fun C ρ σ Q X=>a C ρ σ (fun x σ₁=>i C ρ σ₁ (fun y σ₂=>TT σ₂ Q y x) X) X
noncomputable def evo:Option Ex→Br→List V→AD→(Option V→AD→Prop)→Ac→Prop
 | Option.none=>fun _ _ σ Q _=>Q Option.none σ
 | some e=>fun C ρ σ Q X=>e C ρ σ (fun v σ₁=>Q (some v) σ₁) X
noncomputable def As (a:Ex) (lo hi:Option Ex):Ex:=fun C ρ σ Q X=>a C ρ σ (fun x σ₁=>evo lo C ρ σ₁ (fun y σ₂=>evo hi C ρ σ₂ (fun z σ₃=>SliceK σ₃ Q x y z) X) X) X
noncomputable def AP (f:Nat) (es:List Ex):Ex:=fun C ρ σ Q X=>evs es C ρ σ (fun vs σ₁=>C f vs σ₁ Q X) X
noncomputable def A0 (p:Pr) (es:List Ex):Ex:=fun C ρ σ Q X=>evs es C ρ σ (fun vs σ₁=>PrimK σ₁ Q p vs) X
noncomputable def FX (o x:Ex):Ex:=fun C ρ σ Q X=>o C ρ σ (fun v σ₁=>isList σ₁ v∧x C ρ σ₁ (fun u σ₂=>AppK σ₂ Q u v) X) X
noncomputable def TH (o x:Ex):Ex:=fun C ρ σ Q X=>o C ρ σ (fun v σ₁=>isList σ₁ v∧x C ρ σ₁ (fun u σ₂=>ExtK σ₂ Q v u) X) X
noncomputable def Tl (o:Ex):Ex:=fun C ρ σ Q X=>o C ρ σ (fun v σ₁=>ClrK σ₁ Q v) X
noncomputable def E3 (u:Bool) (a:Ex):Ex:=fun C ρ σ Q X=>a C ρ σ (fun v σ₁=>SortK σ₁ Q u v) X
noncomputable def Ar (c:Addr) (x:Str) (a:Ex):Ex:=fun C ρ σ Q X=>a C ρ σ (fun v σ₁=>AttrK σ₁ Q c x v) X
noncomputable def A8 (c:Addr) (x:Str) (f:Nat) (a:Ex) (es:List Ex):Ex:=fun C ρ σ Q X=>a C ρ σ (fun v σ₁=>O8 σ₁ c x v∧evs es C ρ σ₁ (fun vs σ₂=>C f (v :: vs) σ₂ Q X) X) X
noncomputable def TN (c:Addr) (f:Nat) (es:List Ex):Ex:=fun C ρ σ Q X=>evs es C ρ σ (fun vs σ₁=>C f (.ref (σ₁.length + 1) :: vs) (σ₁ ++ [.ns [],.inst c σ₁.length]) (fun r σ₂=>r=.none∧Q (.ref (σ₁.length + 1)) σ₂) X) X
noncomputable def MP:Ex:=fun _ _ σ Q _=>Q (.ref σ.length) (σ ++ [.dict 0 []])
noncomputable def SH (a k:Ex):Ex:=fun C ρ σ Q X=>a C ρ σ (fun v σ₁=>(∃ n ep kvs,v=.ref n∧σ₁[n]?=some (.dict ep kvs))∧k C ρ σ₁ (fun u σ₂=>PopK σ₂ Q v u) X) X
noncomputable def TabW (P:Addr) (q:Str) (ln col:Int) (σ:AD) (K:Nat→AD→Prop):Prop:=
 (∃ t:Nat,σ[t]?=some (.tab P)∧t ≠ 0∧K σ.length (σ.set t (.row P ln col σ.length) ++ [.code q]))∨∃ t m:Nat,σ[t]?=some (.row P ln col m)∧σ[m]?=some (.code q)∧K m σ
inductive KeySrc (σ:AD):V→List V→Prop
 | dict {n ep:Nat} {kvs:List (Str × V)}:σ[n]?=some (.dict ep kvs)→KeySrc σ (.ref n) (kvs.map fun p=>.str p.1)
 | list {n:Nat} {vs:List V}:σ[n]?=some (.list vs)→KeySrc σ (.ref n) vs
noncomputable def HC (turn:V→AD→AO→Prop):List V→List V→AD→(List V→AD→Prop)→Prop
 | [],acc,σ,Q=>Q acc σ
 | v :: vs,acc,σ,Q=>turn v σ fun u σ'=>HC turn vs (acc ++ [u]) σ' Q
noncomputable def BJ (ks:List (List Int)) (i j:Nat):Prop:=Ab (ks.getD i []) (ks.getD j [])=true∨(Ab (ks.getD j []) (ks.getD i [])=false∧i < j)
noncomputable def noX:Ac:=fun _ _=>False
noncomputable def By (a:Ex):Tx:=fun C ρ σ Q X=>a C ρ σ (fun v σ₁=>Qa σ₁ (fun b=>Q b σ₁) v) X
noncomputable def DE (t:Tx):Tx:=fun C ρ σ Q X=>t C ρ σ (fun b σ₁=>Q (!b) σ₁) X
noncomputable def EH (l:List Tx):Tx:=List.rec (motive:=fun _=>Tx) (fun _ _ σ Q _=>Q true σ)
 (fun t _ ih C ρ σ Q X=>t C ρ σ (fun b σ₁=>brW (ih C ρ σ₁ Q X) (Q false σ₁) b) X) l
noncomputable def tOr (l:List Tx):Tx:=List.rec (motive:=fun _=>Tx) (fun _ _ σ Q _=>Q false σ)
 (fun t _ ih C ρ σ Q X=>t C ρ σ (fun b σ₁=>brW (Q true σ₁) (ih C ρ σ₁ Q X) b) X) l
noncomputable def Bi (turn:V→AD→(Option V→AD→Prop)→Prop) (same:AD→Prop):List V→List V→AD→(List V→AD→Prop)→Prop
 | [],acc,σ,Q=>Q acc σ
 | v :: vs,acc,σ,Q=>turn v σ fun r σ'=>same σ'∧Bi turn same vs (acc ++ r.toList) σ' Q
noncomputable def Db (C:Br) (elt:Ex) (i:Nat) (ifs:List Tx) (ρ:List V) (v:V) (σ:AD) (R:Option V→AD→Prop):Prop:=
 EH ifs C (ρ.set i v) σ (fun b σ₁=>brW (elt C (ρ.set i v) σ₁ (fun x σ₂=>R (some x) σ₂) noX) (R Option.none σ₁) b) noX
noncomputable def BB (elt:Ex) (i:Nat) (k:SrcT) (src:List Ex) (ifs:List Tx):Ex:=fun C ρ σ Q X=>evs src C ρ σ (fun vs σ₁=>∃ items same,SrcK σ₁ k vs items same∧items.length≤Ah ∧
 Bi (Db C elt i ifs ρ) same items [] σ₁ fun ys σ₂=>Q (.ref σ₂.length) (σ₂ ++ [.list ys])) X
noncomputable def G1 (P:Addr) (q:Str) (ln col:Int) (a:Ex) (i:Nat) (b:Ex):Ex:=fun C ρ σ Q X=>a C ρ σ (fun v σ₁=>∃ items,KeySrc σ₁ v items∧items.length < 64∧TabW P q ln col σ₁ fun m σ₂=>HC (fun y σ R=>σ[m]?=some (.code q)∧b C (ρ.set i y) σ R noX) items [] σ₂ fun ks σ₃=>
 ∃ rs:List (List Int),ks=rs.map (fun r=>.tup (r.map .int))∧(∀ r ∈ rs,r ≠ [])∧∀ p:List Nat,p.Perm (List.range items.length)→p.Pairwise (BJ rs)→Q (.ref σ₃.length) (σ₃ ++ [.list (p.map fun i=>items.getD i .none)])) X
noncomputable def Ba (e:Ex):Sx:=fun C ρ σ Q=>e C ρ σ (fun _ σ₁=>Q .next ρ σ₁) (fun c σ₁=>Q (.exc c) ρ σ₁)
noncomputable def AV (e:Ex):Sx:=fun C ρ σ Q=>e C ρ σ (fun v σ₁=>Q (.ret v) ρ σ₁) (fun c σ₁=>Q (.exc c) ρ σ₁)
noncomputable def Sr:Sx:=fun _ ρ σ Q=>Q (.ret .none) ρ σ
noncomputable def QS:Sx:=fun _ ρ σ Q=>Q .next ρ σ
noncomputable def Uh:Sx:=fun _ ρ σ Q=>Q .brk ρ σ
noncomputable def AT (p:Pat) (e:Ex):Sx:=fun C ρ σ Q=>e C ρ σ (fun v σ₁=>J9 σ₁ (fun ρ'=>Q .next ρ' σ₁) ρ v p) (fun c σ₁=>Q (.exc c) ρ σ₁)
noncomputable def UL:Sx:=fun _ _ _ _=>False
noncomputable def KI (c:Addr) (x:Str) (o e:Ex):Sx:=fun C ρ σ Q=>e C ρ σ (fun v σ₁=>o C ρ σ₁ (fun u σ₂=>PutK σ₂ (fun σ₃=>Q .next ρ σ₃) c x v u) (fun c σ₂=>Q (.exc c) ρ σ₂)) (fun c σ₁=>Q (.exc c) ρ σ₁)
noncomputable def DO (k:Nat) (e:Ex):Sx:=fun C ρ σ Q=>e C ρ σ (fun _ σ₁=>Q (.exc k) ρ σ₁) (fun c σ₁=>Q (.exc c) ρ σ₁)
noncomputable def Ja (o i e:Ex):Sx:=fun C ρ σ Q=>e C ρ σ (fun v σ₁=>o C ρ σ₁ (fun x σ₂=>i C ρ σ₂ (fun y σ₃=>SetK σ₃ (fun σ₄=>Q .next ρ σ₄) v x y) (fun c σ₃=>Q (.exc c) ρ σ₃)) (fun c σ₂=>Q (.exc c) ρ σ₂)) (fun c σ₁=>Q (.exc c) ρ σ₁)
noncomputable def UP (K:List V→AD→Prop) (Q:BR):BR
 | .next,ρ,σ=>K ρ σ
 | fl,ρ,σ=>Q fl ρ σ
noncomputable def Bw (l:List Sx):Sx:=List.rec (motive:=fun _=>Sx) (fun _ ρ σ Q=>Q .next ρ σ) (fun s _ ih C ρ σ Q=>s C ρ σ (UP (fun ρ₁ σ₁=>ih C ρ₁ σ₁ Q) Q)) l
noncomputable def sIf (c:Tx) (b o:List Sx):Sx:=fun C ρ σ Q=>c C ρ σ (fun t σ₁=>brW (Bw b C ρ σ₁ Q) (Bw o C ρ σ₁ Q) t) (fun c σ₁=>Q (.exc c) ρ σ₁)
noncomputable def Ve:Option Nat→List V→List V
 | none,ρ=>ρ
 | some i,ρ=>ρ.set i .undef
noncomputable def UB (hs:List (List Nat × V × Option Nat)) (Q:BR):BR
 | .exc c,ρ,σ=>match hs.find? (fun h=>h.1.contains c) with
  | some h=>Q (.ret h.2.1) (Ve h.2.2 ρ) σ
  | none=>Q (.exc c) ρ σ
 | fl,ρ,σ=>Q fl ρ σ
noncomputable def VB (b:List Sx) (hs:List (List Nat × V × Option Nat)):Sx:=fun C ρ σ Q=>Bw b C ρ σ (UB hs Q)
noncomputable def Mj (ks:List Nat) (o e:Nat) (Q:BR):BR
 | .exc c,ρ,σ=>brW (FX (AA o) (AA e) (fun _ _ _ _ _=>False) ρ σ (fun _ σ'=>Q .next ρ σ') noX) (Q (.exc c) ρ σ) (ks.contains c)
 | fl,ρ,σ=>Q fl ρ σ
noncomputable def Sy (b:List Sx) (ks:List Nat) (o e:Nat):Sx:=fun C ρ σ Q=>Bw b C ρ σ (Mj ks o e Q)
noncomputable def EN (K:List V→AD→Prop) (Q:BR):BR
 | .next,ρ,σ=>K ρ σ
 | .cont,ρ,σ=>K ρ σ
 | .brk,ρ,σ=>Q .next ρ σ
 | fl,ρ,σ=>Q fl ρ σ
noncomputable def FM (turn:V→List V→AD→BR→Prop) (same:AD→Prop):List V→List V→AD→BR→Prop
 | [],ρ,σ,Q=>Q .next ρ σ
 | v :: vs,ρ,σ,Q=>turn v ρ σ (EN (fun ρ' σ'=>same σ'∧FM turn same vs ρ' σ' Q) Q)
noncomputable def Er (C:Br) (p:Pat) (body:List Sx) (v:V) (ρ:List V) (σ:AD) (Q:BR):Prop:=J9 σ (fun ρ'=>Bw body C ρ' σ Q) ρ v p
noncomputable def CK (p:Pat) (k:SrcT) (src:List Ex) (body:List Sx):Sx:=fun C ρ σ Q=>evs src C ρ σ (fun vs σ₁=>∃ items same,SrcK σ₁ k vs items same∧FM (Er C p body) same items ρ σ₁ Q) (fun c σ₁=>Q (.exc c) ρ σ₁)
noncomputable def GN (C:Br) (t:Tx) (body:List Sx) (Q:BR):Nat→List V→AD→Prop
 | 0,_,_=>False
 | n + 1,ρ,σ=>t C ρ σ (fun b σ₁=>brW (Bw body C ρ σ₁ (EN (fun ρ' σ'=>GN C t body Q n ρ' σ') Q)) (Q .next ρ σ₁) b) (fun c σ₁=>Q (.exc c) ρ σ₁)
noncomputable def Em (t:Tx) (body:List Sx):Sx:=fun C ρ σ Q=>∃ n,GN C t body Q n ρ σ
structure Fn where
 params:Nat
 slots:Nat
 body:List Sx
noncomputable def LF (Q:AO) (X:Ac):BR
 | .ret v,_,σ=>Q v σ
 | .next,_,σ=>Q .none σ
 | .exc c,_,σ=>X c σ
 | _,_,_=>False
noncomputable def Om (P:List Fn):Nat→Br
 | 0=>fun _ _ _ _ _=>False
 | d + 1=>fun f args σ Q X=>∃ fn,P[f]?=some fn∧args.length=fn.params∧Bw fn.body (Om P d) (args ++ List.replicate (fn.slots - fn.params) V.undef) σ (LF Q X)
@[irreducible] def callW (P:List Fn) (d:Nat):Br:=Om P d
theorem Qe (h:M3 K o):∃ v,o=some v∧v ≠ .undef∧K v:=by
 cases o with
 | none=>exact h.elim
 | some v=>cases v with
  | undef=>exact h.elim
  | _=>exact ⟨_,rfl,nofun,h⟩
theorem T1 (h:TY σ Q op y x):BinK σ Q op x y:=by
 cases x with
 | int a=>cases y with
  | int b=>cases op with
   | add=>exact .add h
   | sub=>exact .sub h
   | _=>exact h
  | _=>exact h
 | _=>exact h
theorem O1 (h:Uq σ Q x):∃ i,x=.int i∧Q (.int (-i)) σ:=by
 cases x with
 | int i=>exact ⟨i,rfl,h⟩
 | _=>exact h.elim
theorem T7 (h:Qa σ K v):TruK σ K v:=by
 cases v with
 | none=>exact .none h
 | bool b=>exact .bool h
 | int i=>exact .int h
 | _=>exact h
theorem Uk (h:My σ K op x y):CmpK σ K op x y:=by
 cases y with
 | int b=>cases x with
  | int a=>cases op with
   | Eq=>exact .eq (x:=.int a) (y:=.int b) rfl rfl rfl rfl h
   | NotEq=>exact .ne (x:=.int a) (y:=.int b) rfl rfl rfl rfl h
   | Lt=>exact .lt h
   | LtE=>exact .le h
   | Gt=>exact .gt h
   | GtE=>exact .ge h
   | _=>exact h
  | _=>exact h
 | none=>cases op with
  | Is=>exact .is h
  | IsNot=>exact .isnot h
  | _=>exact h
 | bool b=>cases x with
  | bool a=>cases op with
   | Eq=>exact .eq (x:=.bool a) (y:=.bool b) rfl rfl rfl rfl h
   | NotEq=>exact .ne (x:=.bool a) (y:=.bool b) rfl rfl rfl rfl h
   | _=>exact h
  | _=>exact h
 | _=>exact h
theorem UX (h:TT σ Q y x):SubK σ Q x y:=by
 cases x with
 | tup vs=>cases y with
  | int k=>cases k with
   | ofNat j=>
    have h:VH σ Q vs j (Nat.ble j 1000000):=h
    cases e:Nat.ble j 1000000 with
    | true=>
     rw [e] at h
     have h:U2 (fun v=>Q v σ) vs[j]?:=h
     cases g:vs[j]? with
     | none=>rw [g] at h;exact h.elim
     | some v=>
      rw [g] at h
      exact .tup (Bool.and_eq_true_iff.mpr ⟨decide_eq_true (Int.le_trans (by decide) (Int.natCast_nonneg j)),decide_eq_true (Int.lt_of_le_of_lt (Int.ofNat_le.mpr (Nat.le_of_ble_eq_true e)) (by decide))⟩) (.inl ⟨rfl,(List.getElem?_eq_some_iff.mp g).1⟩) g h
    | false=>rw [e] at h;exact h
   | negSucc j=>exact h
  | _=>exact h
 | _=>exact h
theorem HF:∀ {ps:List Nat} {vs ρ:List V},Lr K ps vs ρ→ps.length=vs.length∧K (Fe ps vs ρ):=fun {ps}=>by
 induction ps with
 | nil=>intro vs ρ h;cases vs with
  | nil=>exact ⟨rfl,h⟩
  | cons _ _=>exact h.elim
 | cons p ps ih=>intro vs ρ h;cases vs with
  | nil=>exact h.elim
  | cons v vs=>exact ⟨congrArg (· + 1) (ih h).1,(ih h).2⟩
theorem Q6 (h:J9 σ K ρ v p):BindK σ K ρ p v:=by
 cases p with
 | var i=>exact .var h
 | tup ps=>cases v with
  | tup vs=>exact .tup (HF h).1 (HF h).2
  | _=>exact h
theorem Qi (h:brD d b A B):if b=d then A else B:=by cases d <;> cases b <;> exact h
theorem Mo (h:callW P (d + 1) f args σ Q X):∃ fn,P[f]?=some fn∧args.length=fn.params∧Bw fn.body (callW P d) (args ++ List.replicate (fn.slots - fn.params) V.undef) σ (LF Q X):=by
 with_unfolding_all exact h
theorem AL (h:P[f]?=some fn) (hl:args.length=fn.params) (q:Bw fn.body (callW P d) (args ++ List.replicate (fn.slots - fn.params) V.undef) σ (LF Q X)):callW P (d + 1) f args σ Q X:=by
 with_unfolding_all exact (⟨fn,h,hl,q⟩:Om P (d + 1) f args σ Q X)
theorem PU (h:callW P 0 f args σ Q X):False:=by
 with_unfolding_all exact h
inductive Gl where
 | fn (i:Nat)
 | cls (C:Addr) (i:Nat)
 | exc (k:Nat) (kids:List Nat)
 | tabl (c P:Addr)
 | str (s:Str)
 | int (i:Int)
abbrev GlT:=List (Str × Gl)
abbrev Vs:=List (Str × Nat)
end Mine
namespace Mine
open PySem
theorem Hg:∀ a:List Int,Ab a a=false
 | []=>rfl
 | x :: a=>by rw [Ab,if_pos rfl];exact Hg a
theorem EG:∀ a b:List Int,Ab a b=true→Ab b a=false
 | [],[],h=>by cases h
 | [],_ :: _,_=>rfl
 | _ :: _,[],h=>by cases h
 | x :: a,y :: b,h=>by
  rw [Ab] at h ⊢
  by_cases e:x=y
  ·rw [if_pos e] at h;rw [if_pos e.symm];exact EG a b h
  ·rw [if_neg e] at h;rw [if_neg (Ne.symm e)]
   simp only [decide_eq_true_eq] at h
   simp only [decide_eq_false_iff_not];exact ai2 .nlt .v0 .v1 (.t .v1 .v0 .e) rfl h
theorem FC:∀ a b c:List Int,Ab a c=true→Ab a b=true∨Ab b c=true
 | [],[],_,h=>.inr h
 | [],_ :: _,_,_=>.inl rfl
 | _ :: _,_,[],h=>by cases h
 | _ :: _,[],_ :: _,_=>.inr rfl
 | x :: a,y :: b,z :: c,h=>by
  rw [Ab] at h
  rw [Ab,Ab]
  by_cases e:x=z
  ·rw [if_pos e] at h
   subst e
   by_cases e2:x=y
   ·subst e2
    rw [if_pos rfl,if_pos rfl];exact FC a b c h
   ·rw [if_neg e2,if_neg (Ne.symm e2)]
    simp only [decide_eq_true_eq];exact Classical.or_iff_not_imp_left.mpr fun z0=>Or.elim (Int.lt_or_gt_of_ne e2) (fun z1=>ai2 .lt .v0 .v1 (.w 2 (.o .v1 .v0 (.t .v1 .v0 .e))) rfl z0 z1) (fun z1=>ai2 .lt .v0 .v1 (.t .v0 .v1 .e) rfl z1)
  ·rw [if_neg e] at h
   simp only [decide_eq_true_eq] at h
   by_cases e2:x=y
   ·subst e2
    right;rw [if_neg e];simp only [decide_eq_true_eq];exact ai2 .lt .v0 .v1 (.t .v0 .v1 .e) rfl h
   ·by_cases e3:y=z
    ·left;rw [if_neg e2];simp only [decide_eq_true_eq];exact ai3 .lt .v0 .v1 (.t .v0 .v2 (.p .v1 .v2 .e)) rfl h e3
    ·rw [if_neg e2,if_neg e3];simp only [decide_eq_true_eq];exact Classical.or_iff_not_imp_left.mpr fun z0=>ai3 .lt .v0 .v1 (.o .v2 .v0 (.t .v2 .v1 .e)) rfl z0 h
end Mine
namespace Mine
open PySem PySem.Calls
set_option genSizeOf false
set_option genInjectivity false
structure Bs where
 heap:Heap
 prog:Program
 w:World
abbrev Bs.get? (b:Bs) (a:Addr):Option Obj:=b.heap.get? a
mutual
noncomputable def Rel (h:Heap) (φ:List Addr):V→Value→Prop
 | .undef,_=>False
 | .none,v=>v=.none
 | .bool b,v=>v=.bool b
 | .int i,v=>∃ t,v=.int i t
 | .str s,v=>∃ t,v=.str s t
 | .tup vs,v=>∃ a items n,v=.ref a∧h.get? a=some { cls:=.type "tuple", data:=.seq items n }∧RelL h φ vs items.toList
 | .ref n,v=>∃ a,v=.ref a∧φ[n]?=some a
noncomputable def RelL (h:Heap) (φ:List Addr):List V→List Value→Prop
 | [],[]=>True
 | V :: Vs,v :: vs=>Rel h φ V v∧RelL h φ Vs vs
 | _,_=>False
end
theorem Az:Rel h φ (.int i) (.int i t):=⟨t,rfl⟩
theorem Bo:Rel h φ (.str x) (.str x t):=⟨t,rfl⟩
theorem AW:Rel h φ (.bool b) (.bool b):=rfl
theorem CO:Rel h φ .none .none:=rfl
noncomputable def RelP (h:Heap) (φ:List Addr) (kvs:List (Str × V)) (us:List (Str × Value)):Prop:=us.map (·.1)=kvs.map (·.1)∧RelL h φ (kvs.map (·.2)) (us.map (·.2))
noncomputable def AttrIs (h:Heap) (φ:List Addr):Option V→Option Value→Prop
 | some V,ov=>∃ v,ov=some v∧Rel h φ V v
 | none,ov=>ov=none
noncomputable def RelO (h₀:Bs) (h:Heap) (φ:List Addr):O→Addr→Prop
 | .list vs,a=>∃ items n,h.get? a=some { cls:=.type "list", data:=.seq items n }∧RelL h φ vs items.toList∧vs.length≤B5
 | .tab P,a=>a=P∧h.get? a=some { cls:=.none,data:=.fields #[] }
 | .gone,a=>∃ us,h.get? a=some { cls:=.none,data:=.fields us }
 | .dict ep kvs,a=>∃ us,h.DictAt (strKind h₀.prog h₀.w) a us ep∧RelP h φ kvs us∧kvs.length≤B5∧(a == sysModules)=false
 | .inst C m,a=>∃ dx,φ[m]?=some dx∧dx ≠ a∧∃ ob,h.get? a=some ob∧ob.cls=.ref C∧(∀ c,ob.data ≠ .cls c)∧ob.dict=some dx
 | .ns fs,a=>∃ m,h.Ns1 a m∧∀ y,AttrIs h φ (fs.lookup y) (m y)
 | .row P ln col m,a=>a=P∧∃ c,φ[m]?=some c∧h.get? a=some { cls:=.none,data:=.fields #[rawInt ln,rawInt col,.ref c] }
 | .code q,a=>∃ o vs t,h.get? a=some o∧o.data=.fields vs∧vs[1]?=some (.str q t)
structure Sim (h₀:Bs) (h:Heap) (φ:List Addr) (σ:AD):Prop where
 keep:∀ b o,h₀.get? b=some o→h.get? b=some o
 len:φ.length=σ.length
 nodup:φ.Nodup
 new:∀ (n:Nat) a,φ[n + 1]?=some a→h₀.get? a=none
 obj:∀ (n:Nat) o,σ[n]?=some o→∃ a,φ[n]?=some a∧RelO h₀ h φ o a
noncomputable def Lk (o o':Obj):Prop:=∃ sl,o'={ o with slots:=sl }∧((∀ es ep,o.data ≠ .dict es ep)→sl=o.slots)
theorem Lk.refl (o:Obj):Lk o o:=⟨o.slots,rfl,fun _=>rfl⟩
theorem Lk.trans (x:Lk o o₁) (y:Lk o₁ o₂):Lk o o₂:=AF x fun sl e k=>AF y fun sl' e' k'=>by subst e e';exact ⟨sl',rfl,fun n=>(k' n).trans (k n)⟩
theorem Lk.same (x:Lk o o') (n:∀ es ep,o.data ≠ .dict es ep):o'=o:=by refine AF x fun _ e k=>?_;exact e.trans (by rw [k n])
theorem Lk.data (x:Lk o o'):o'.data=o.data:=by refine AF x fun _ e _=>?_;exact by rw [e]
noncomputable def WF (φ:List Addr) (own:Addr→Prop) (h h':Heap):Prop:=∀ b o,b ∉ φ→¬ own b→h.get? b=some o→∃ o',h'.get? b=some o'∧Lk o o'
noncomputable def AQ:Addr→Prop:=fun _=>False
noncomputable def A6 (h:Heap) (a:Addr):Prop:=∀ items n,h.get? a ≠ some { cls:=.type "tuple", data:=.seq items n }
theorem noTup (e:h.get? a=some o) (k:o.cls ≠ .type "tuple"):A6 h a:=fun _ _ e'=>by
 rw [e] at e';cases e';exact k rfl
theorem Im (e:h.get? a=some o) (k:∀ items n,o.data ≠ .seq items n):A6 h a:=fun _ _ e'=>by
 rw [e] at e';cases e';exact k _ _ rfl
theorem RelL.nil:RelL h φ [] []:=trivial
theorem RelL.length {Vs:List V}:∀ {vs:List Value},RelL h φ Vs vs→Vs.length=vs.length:=by
 induction Vs with
 | nil=>intro vs r;cases vs with
  | nil=>rfl
  | cons _ _=>exact r.elim
 | cons V Vs ih=>intro vs r;cases vs with
  | nil=>exact r.elim
  | cons v vs=>exact congrArg (· + 1) (ih r.2)
theorem RelL.one {V:V} (r:RelL h φ [V] vs):∃ v,vs=[v]∧Rel h φ V v:=by
 cases vs with
 | nil=>exact r.elim
 | cons v vs=>cases vs with
  | nil=>exact ⟨v,rfl,r.1⟩
  | cons _ _=>exact r.2.elim
theorem RelL.two {V W:Mine.V} (r:RelL h φ [V,W] vs):∃ v u,vs=[v,u]∧Rel h φ V v∧Rel h φ W u:=by
 cases vs with
 | nil=>exact r.elim
 | cons v vs=>refine AF (RelL.one (vs:=vs) r.2) fun u e r'=>?_;exact ⟨v,u,congrArg (v :: ·) e,r.1,r'⟩
theorem RelL.get {Vs:List V}:∀ {vs:List Value} {i:Nat} {V:V},RelL h φ Vs vs→Vs[i]?=some V→∃ v,vs[i]?=some v∧Rel h φ V v:=by
 induction Vs with
 | nil=>intro vs i V _ e;exact absurd e.symm (Option.some_ne_none V)
 | cons V Vs ih=>intro vs i W r e;cases vs with
  | nil=>exact r.elim
  | cons v vs=>cases i with
   | zero=>exact ⟨v,rfl,Option.some.inj e▸r.1⟩
   | succ i=>exact ih (i:=i) r.2 e
theorem RelL.append {Vs Ws:List V}:∀ {vs:List Value},RelL h φ Vs vs→RelL h φ Ws ws→RelL h φ (Vs ++ Ws) (vs ++ ws):=by
 induction Vs with
 | nil=>intro vs r y;cases vs with
  | nil=>exact y
  | cons _ _=>exact r.elim
 | cons V Vs ih=>intro vs r y;cases vs with
  | nil=>exact r.elim
  | cons v vs=>exact ⟨r.1,ih r.2 y⟩
section
variable {h h':Heap} {φ φ':List Addr}
theorem Bp {α:Type} {l l':List α} (h:l <+: l') {n:Nat} {a:α} (e:l[n]?=some a):l'[n]?=some a:=
 List.IsPrefix.getElem?_eq_some h e
where
 List.IsPrefix.getElem?_eq_some {l l':List α} (h:l <+: l') {n:Nat} {a:α} (e:l[n]?=some a):l'[n]?=some a:=by
  refine AU h fun t ze1=>?_;subst ze1
  rw [List.getElem?_append_left (List.getElem?_eq_some_iff.mp e).1];exact e
mutual
theorem Rel.keep (k:∀ b items n,h.get? b=some { cls:=.type "tuple", data:=.seq items n }→h'.get? b=some { cls:=.type "tuple", data:=.seq items n }) (hp:φ <+: φ'):∀ (V:V) (v:Value),Rel h φ V v→Rel h' φ' V v
 | .undef,_,x=>x
 | .none,_,x=>x
 | .bool _,_,x=>x
 | .int _,_,x=>x
 | .str _,_,x=>x
 | .tup Vs,_,⟨a,items,n,e,g,r⟩=>⟨a,items,n,e,k a items n g,RelL.keep k hp Vs _ r⟩
 | .ref _,_,⟨a,e,g⟩=>⟨a,e,Bp hp g⟩
theorem RelL.keep (k:∀ b items n,h.get? b=some { cls:=.type "tuple", data:=.seq items n }→h'.get? b=some { cls:=.type "tuple", data:=.seq items n }) (hp:φ <+: φ'):∀ (Vs:List V) (vs:List Value),RelL h φ Vs vs→RelL h' φ' Vs vs
 | [],[],_=>trivial
 | V :: Vs,v :: vs,x=>⟨Rel.keep k hp V v x.1,RelL.keep k hp Vs vs x.2⟩
 | [],_ :: _,x=>x
 | _ :: _,[],x=>x
end
end
theorem RelP.keep (hp:φ <+: φ') (kt:∀ b items n,h.get? b=some { cls:=.type "tuple", data:=.seq items n }→h'.get? b=some { cls:=.type "tuple", data:=.seq items n }) (x:RelP h φ kvs us):RelP h' φ' kvs us:=⟨x.1,RelL.keep kt hp _ _ x.2⟩
theorem AttrIs.keep (hp:φ <+: φ') (kt:∀ b items n,h.get? b=some { cls:=.type "tuple", data:=.seq items n }→h'.get? b=some { cls:=.type "tuple", data:=.seq items n }) (x:AttrIs h φ o ov):AttrIs h' φ' o ov:=by
 cases o with
 | some V=>exact AF x fun v e r=>⟨v,e,Rel.keep kt hp _ _ r⟩
 | none=>exact x
theorem RelO.keep (hp:φ <+: φ') (kt:∀ b items n,h.get? b=some { cls:=.type "tuple", data:=.seq items n }→h'.get? b=some { cls:=.type "tuple", data:=.seq items n }) (k:∀ ob,h.get? a=some ob→h'.get? a=some ob) (x:RelO h₀ h φ o a):RelO h₀ h' φ' o a:=by
 cases o with
 | list _=>refine A3 x fun items n e r z=>?_;exact ⟨items,n,k _ e,RelL.keep kt hp _ _ r,z⟩
 | tab _=>exact ⟨x.1,k _ x.2⟩
 | gone=>refine AU x fun us e=>?_;exact ⟨us,k _ e⟩
 | dict _ _=>refine AZ x fun us zt1 r z=>BL zt1 fun o es e q=>?_;exact ⟨us,⟨o,es,k _ e,q⟩,r.keep hp kt,z⟩
 | inst _ _=>refine J8 x fun dx e n ob g q=>?_;exact ⟨dx,Bp hp e,n,ob,k _ g,q⟩
 | ns _=>refine AF x fun m n r=>?_;exact ⟨m,n.at k,fun y=>(r y).keep hp kt⟩
 | row _ _ _ _=>refine Cp x fun e c e1 e2=>?_;exact ⟨e,c,Bp hp e1,k _ e2⟩
 | code _=>refine EF x fun o vs t e r=>?_;exact ⟨o,vs,t,k _ e,r⟩
theorem BZ:Value.type "list" ≠ Value.type "tuple":=by simp
inductive There (h:Heap) (a:Addr):Prop
 | mk (ob:Obj):h.get? a=some ob→(∀ items n,ob ≠ { cls:=.type "tuple", data:=.seq items n })→(∀ us n,ob.data=.fields us→ob.cls=.type n→∃ x t,us[1]?=some (.str x t))→There h a
theorem RelO.there (x:RelO h₀ h φ o a):There h a:=by
 cases o with
 | list _=>refine BL x fun it n e r=>?_;exact .mk _ e (fun u v q=>BZ (congrArg Obj.cls q)) nofun
 | tab _=>exact .mk _ x.2 nofun nofun
 | gone=>refine AU x fun us e=>?_;exact .mk _ e nofun nofun
 | dict _ _=>refine AF x fun us zt1 r=>Bk zt1 fun o es e c d q=>?_;exact .mk _ e (fun u v q=>nomatch d.symm.trans (congrArg Obj.data q)) fun u v e'=>nomatch d.symm.trans e'
 | inst _ _=>refine NI x fun dx e0 n ob e q r=>?_;exact .mk _ e (fun u v q'=>nomatch q.symm.trans (congrArg Obj.cls q')) fun u v w q'=>nomatch q.symm.trans q'
 | ns _=>refine AF x fun m zt1 r=>Ad zt1 fun o es ep e d q=>?_;exact .mk _ e (fun u v q=>nomatch d.symm.trans (congrArg Obj.data q)) fun u v e'=>nomatch d.symm.trans e'
 | row _ _ _ _=>refine Cp x fun e0 c e1 e=>?_;exact .mk _ e nofun nofun
 | code _=>refine Ad x fun o vs t e d q=>?_;exact .mk _ e (fun u v q=>nomatch d.symm.trans (congrArg Obj.data q)) fun us n e' z=>⟨_,t,by cases d.symm.trans e';exact q⟩
theorem BK {h:Heap} {a:Addr} (l:h.objs.size≤a):h.get? a=none:=by
 cases e:h.get? a with
 | none=>rfl
 | some o=>exact absurd (Heap.lt_size e) (Nat.not_lt.mpr l)
theorem Sim.at (x:Sim h₀ h φ σ) (m:a ∈ φ):There h a:=by
 obtain ⟨n,hn,rfl⟩:=List.mem_iff_getElem.mp m
 have hs:n < σ.length:=x.len▸hn
 refine AF (x.obj n σ[n] (List.getElem?_eq_getElem hs)) fun a e r=>?_
 rw [List.getElem?_eq_getElem hn] at e
 exact Option.some.inj e▸r.there
theorem Sim.noTup (x:Sim h₀ h φ σ) (m:a ∈ φ):A6 h a:=
 (x.at m).casesOn fun _ e k _=>fun items n e'=>k items n (Option.some.inj (e.symm.trans e'))
theorem Sim.out {h₀:Bs} {h:Heap} {φ:List Addr} {σ:AD} (x:Sim h₀ h φ σ) {a:Addr} (n:h.get? a=none):a ∉ φ:=fun m=>
 (x.at m).casesOn fun _ e _ _=>Di (n.symm.trans e)
theorem Sim.none₀ (x:Sim h₀ h φ σ) (n:h.get? a=none):h₀.get? a=none:=by
 cases e:h₀.get? a with
 | none=>rfl
 | some o=>have:=x.keep a o e;rw [n] at this;cases this
theorem Sim.keeps {own:Addr→Prop} (x:Sim h₀ h φ σ) (k:∀ b o,¬ own b→h.get? b=some o→h'.get? b=some o)
  (ho:∀ a,own a→A6 h a∧a ∉ φ∧h₀.get? a=none):Sim h₀ h' φ σ where
 keep b o e:=k b o (fun m=>by rw [(ho b m).2.2] at e;cases e) (x.keep b o e)
 len:=x.len
 nodup:=x.nodup
 new:=x.new
 obj n o e:=by refine AF (x.obj n o e) fun a g r=>?_;exact ⟨a,g,r.keep (List.prefix_refl _) (fun b items n e=>k b _ (fun m=>(ho b m).1 items n e) e) fun ob=>k a ob fun m=>(ho a m).2.1 (List.mem_of_getElem? g)⟩
theorem Bl {α:Type} {l:List α} {a b:α} (h:b ∈ l ++ [a]):b ∈ l∨b=a:=(List.mem_append.mp h).imp id List.mem_singleton.mp
theorem Sim.add (x:Sim h₀ h φ σ) (hn:a ∉ φ) (h0:h₀.get? a=none) (r:RelO h₀ h φ o a):Sim h₀ h (φ ++ [a]) (σ ++ [o]) where
 keep:=x.keep
 len:=by rw [List.length_append,List.length_append,x.len];rfl
 nodup:=List.nodup_append.mpr ⟨x.nodup,List.nodup_cons.mpr ⟨List.not_mem_nil,List.nodup_nil⟩,fun b hb c hc e=>hn (List.mem_singleton.mp hc▸e▸hb)⟩
 new m b hb:=by
  refine Or.elim (Nat.lt_or_ge (m + 1) φ.length) (fun hlt=>?_) (fun hge=>?_)
  ·rw [List.getElem?_append_left hlt] at hb;exact x.new m b hb
  ·rw [List.getElem?_append_right hge] at hb
   exact List.mem_singleton.mp (List.mem_of_getElem? hb)▸h0
 obj n ob e:=by
  have kp:∀ {ob b},RelO h₀ h φ ob b→RelO h₀ h (φ ++ [a]) ob b:=fun r=>r.keep (List.prefix_append _ _) (fun _ _ _ e=>e) fun _ e=>e
  refine Or.elim (Nat.lt_or_ge n σ.length) (fun hlt=>?_) (fun hge=>?_)
  ·rw [List.getElem?_append_left hlt] at e
   refine AF (x.obj n ob e) fun b g r=>?_
   exact ⟨b,Bp (List.prefix_append _ _) g,kp r⟩
  ·rw [List.getElem?_append_right hge] at e
   have:n=φ.length:=by
    have:=(List.getElem?_eq_some_iff.mp e).1
    rw [x.len];exact Nat.le_antisymm (by rw [List.length_singleton] at this;exact Nat.le_of_sub_eq_zero (Nat.lt_one_iff.mp this)) hge
   refine ⟨a,by rw [this];exact List.getElem?_concat_length,kp ?_⟩
   exact List.mem_singleton.mp (List.mem_of_getElem? e)▸r
structure Cf (h₀:Bs) where
 s:Shared
 φ:List Addr
 σ:AD
 sim:Sim h₀ s.heap φ σ
section
variable {h₀:Bs}
structure WStp (own:Addr→Prop) (c c':Cf h₀):Prop where
 only:c'.s.os=c.s.os∧c'.s.gens=c.s.gens
 pre:c.φ <+: c'.φ
 keep:WF c.φ own c.s.heap c'.s.heap
 fresh:∀ a ∈ c'.φ,a ∈ c.φ∨c.s.heap.get? a=none
structure Stp (own:Addr→Prop) (c c':Cf h₀):Prop extends WStp own c c' where
 pres:∀ b o,c.s.heap.get? b=some o→∃ o',c'.s.heap.get? b=some o'
theorem Stp.refl (c:Cf h₀):Stp own c c:=⟨⟨⟨rfl,rfl⟩,List.prefix_refl _,fun _ o _ _ e=>⟨o,e,.refl o⟩,fun _ m=>.inl m⟩,fun _ o e=>⟨o,e⟩⟩
theorem Stp.gone (x:Stp own c c') (e:c'.s.heap.get? a=none):c.s.heap.get? a=none:=by
 cases q:c.s.heap.get? a with
 | none=>rfl
 | some o=>refine AU (x.pres a o q) fun o' e'=>?_;rw [e] at e';cases e'
theorem WStp.out {own:Addr→Prop} {c c':Cf h₀} (x:WStp own c c') {a:Addr} {o:Obj} (e:c.s.heap.get? a=some o) (n:a ∉ c.φ):a ∉ c'.φ:=fun m=>(x.fresh a m).elim n fun e'=>by rw [e] at e';cases e'
theorem Stp.trans (x:Stp own c c₁) (y:Stp own c₁ c₂):Stp own c c₂ where
 only:=⟨y.only.1.trans x.only.1,y.only.2.trans x.only.2⟩
 pre:=x.pre.trans y.pre
 keep b o h1 h2 e:=by refine AF (x.keep b o h1 h2 e) fun _ e1 k1=>?_;exact let ⟨o₂,e2,k2⟩:=y.keep b _ (x.out e h1) h2 e1;⟨o₂,e2,k1.trans k2⟩
 fresh a m:=(y.fresh a m).elim (x.fresh a) fun e=>.inr (x.gone e)
 pres b o e:=by refine AU (x.pres b o e) fun o' e'=>?_;exact y.pres b o' e'
theorem Stp.transNew (x:Stp own c c₁) (y:WStp own' c₁ c₂) (h:∀ b,own' b→c.s.heap.get? b=none):Stp own c c₂ where
 only:=⟨y.only.1.trans x.only.1,y.only.2.trans x.only.2⟩
 pre:=x.pre.trans y.pre
 keep b o h1 h2 e:=by refine AF (x.keep b o h1 h2 e) fun _ e1 k1=>?_;exact AF (y.keep b _ (x.out e h1) (fun m=>Di ((h b m).symm.trans e)) e1) fun o₂ e2 k2=>⟨o₂,e2,k1.trans k2⟩
 fresh a m:=(y.fresh a m).elim (x.fresh a) fun e=>.inr (x.gone e)
 pres b o e:=by refine AU (x.pres b o e) fun o' e'=>?_;exact (Classical.em (b ∈ c₁.φ)).elim (fun m=>(c₂.sim.at (y.pre.subset m)).casesOn fun ob e _ _=>⟨ob,e⟩) fun m=>AF (y.keep b o' m (fun m=>Di ((h b m).symm.trans e)) e') fun o₂ e2 _=>⟨o₂,e2⟩
theorem Stp.wider (x:Stp own c c') (h:∀ a,own a→own' a):Stp own' c c':=⟨⟨x.only,x.pre,fun b o h1 h2=>x.keep b o h1 fun m=>h2 (h b m),x.fresh⟩,x.pres⟩
theorem Stp.any (x:Stp AQ c c'):Stp own c c':=x.wider fun _ f=>f.elim
noncomputable def Cf.keepOwn (c:Cf h₀) (s:Shared) {own:Addr→Prop} (k:∀ b o,¬ own b→c.s.heap.get? b=some o→s.heap.get? b=some o) (ho:∀ a,own a→A6 c.s.heap a∧a ∉ c.φ∧h₀.get? a=none):Cf h₀:=⟨s,c.φ,c.σ,c.sim.keeps k ho⟩
noncomputable def Cf.keep (c:Cf h₀) (s:Shared) (k:∀ b o,c.s.heap.get? b=some o→s.heap.get? b=some o):Cf h₀:=c.keepOwn s (own:=AQ) (fun b o _ e=>k b o e) fun _ f=>f.elim
theorem Cf.keepOwn_stp {c:Cf h₀} {s:Shared} {own:Addr→Prop} {k:∀ b o,¬ own b→c.s.heap.get? b=some o→s.heap.get? b=some o} {ho:∀ a,own a→A6 c.s.heap a∧a ∉ c.φ∧h₀.get? a=none} (only:s.os=c.s.os∧s.gens=c.s.gens)
  (pres:∀ b o,own b→c.s.heap.get? b=some o→∃ o',s.heap.get? b=some o'):Stp own c (c.keepOwn s k ho):=
 ⟨⟨only,List.prefix_refl _,fun b o _ h e=>⟨o,k b o h e,.refl o⟩,fun _ m=>.inl m⟩,fun b o e=>(Classical.em (own b)).elim (fun h=>pres b o h e) fun h=>⟨o,k b o h e⟩⟩
theorem Cf.keep_stp {c:Cf h₀} {s:Shared} {k:∀ b o,c.s.heap.get? b=some o→s.heap.get? b=some o} (only:s.os=c.s.os∧s.gens=c.s.gens):Stp AQ c (c.keep s k):=keepOwn_stp only fun _ _ f=>f.elim
theorem WStp.keepE (x:WStp own c c') (h1:b ∉ c.φ) (h2:¬ own b) (n:∀ es ep,o.data ≠ .dict es ep) (e:c.s.heap.get? b=some o):c'.s.heap.get? b=some o:=
 by refine AF (x.keep b o h1 h2 e) fun _ e' k=>?_;exact k.same n▸e'
theorem WStp.keepN (x:WStp own c c') (h1:b ∉ c.φ) (h2:¬ own b) (n:c.s.heap.Ns b m):c'.s.heap.Ns b m:=
 by refine Ad n fun _ es ep e d q=>?_;exact let ⟨o',e',k⟩:=x.keep b _ h1 h2 e;⟨o',es,ep,e',k.data.trans d,q⟩
theorem WStp.keepC (x:WStp own c c') (h1:b ∉ c.φ) (h2:¬ own b) (n:c.s.heap.IsCell b v):c'.s.heap.IsCell b v:=
 by refine AF n fun _ e d=>?_;exact ⟨_,x.keepE h1 h2 (fun _ _ q=>nomatch d.symm.trans q) e,d⟩
theorem Rel.own {own:Addr→Prop} {V:V} (r:Rel c.s.heap c.φ V v) (x:WStp own c c') (ho:∀ a,own a→A6 c.s.heap a):Rel c'.s.heap c'.φ V v:=
 Rel.keep (fun b items n e=>x.keepE (fun m=>c.sim.noTup m items n e) (fun m=>ho b m items n e) nofun e) x.pre _ _ r
theorem RelL.own {own:Addr→Prop} {Vs:List V} (r:RelL c.s.heap c.φ Vs vs) (x:WStp own c c') (ho:∀ a,own a→A6 c.s.heap a):RelL c'.s.heap c'.φ Vs vs:=
 RelL.keep (fun b items n e=>x.keepE (fun m=>c.sim.noTup m items n e) (fun m=>ho b m items n e) nofun e) x.pre _ _ r
theorem Rel.step {V:V} (r:Rel c.s.heap c.φ V v) (x:Stp AQ c c'):Rel c'.s.heap c'.φ V v:=r.own x.toWStp fun _ f=>f.elim
theorem RelL.step {Vs:List V} (r:RelL c.s.heap c.φ Vs vs) (x:Stp AQ c c'):RelL c'.s.heap c'.φ Vs vs:=r.own x.toWStp fun _ f=>f.elim
theorem Dr {α β:Type} {f:α→β} {v:β} {P:β→Prop} (h:∃ t,v=f t) (k:∀ t,P (f t)):P v:=h.elim fun t e=>e▸k t
theorem Cf.list {c:Cf h₀} {n:Nat} {vs:List V} {v:Value} (e:c.σ[n]?=some (.list vs)) (r:Rel c.s.heap c.φ (.ref n) v) :
  ∃ a items k,v=.ref a∧c.φ[n]?=some a∧IsL c.s.heap a items k∧RelL c.s.heap c.φ vs items.toList∧vs.length≤B5:=
 AF r fun _ ev ea=>AF (c.sim.obj n _ e) fun a' ea' ro=>A3 ro fun items k g rl z=>⟨a',items,k,ev.trans (congrArg Value.ref (Option.some.inj (ea.symm.trans ea'))),ea',g,rl,z⟩
theorem Cf.listE {c:Cf h₀} {n:Nat} {vs:List V} {v:Value} {P:Value→Prop} (e:c.σ[n]?=some (.list vs)) (r:Rel c.s.heap c.φ (.ref n) v)
  (k:∀ a items k,c.φ[n]?=some a→IsL c.s.heap a items k→RelL c.s.heap c.φ vs items.toList→vs.length≤B5→P (.ref a)):P v:=
 Ak (Cf.list e r) fun a items j ze h1 h2 h3 h4=>ze▸k a items j h1 h2 h3 h4
end
structure Ctx where
 h₀:Bs
 C:Br
 d:Nat
 
 excs:List Nat
abbrev Ctx.prog (K:Ctx):Program:=K.h₀.prog
abbrev Ctx.w (K:Ctx):World:=K.h₀.w
abbrev Ctx.M (K:Ctx):Model:=model K.h₀.prog K.h₀.w
structure Loc where
 env:Env
 vs:Vs
 up:List Env
structure ROk (K:Ctx) (up:List Env) (A:Around):Prop where
 hd:A.handled=none
 depth:A.depth + 3 * K.d < 902
 units:A.units + 12 * K.d < 9006
 fr:A.frames=some up
inductive Exc (h:Heap) (a:Addr) (k:Nat):List Addr→Option Addr→Prop
 | new (oe:Obj) (vs:Array Value) (a0:Value):h.get? a=some oe→oe.cls=.ref k→oe.data=.fields vs→vs[0]?=some a0→vs[1]?=some .none→Exc h a k [a] none
 | seen (oe:Obj) (vs:Array Value) (a0:Value) (T:Addr) (oT:Obj) (ts:Array Value) (fl:Option Addr):h.get? a=some oe→oe.cls=.ref k→oe.data=.fields vs→vs[0]?=some a0→vs[1]?=some (.ref T)→T ≠ a →
   h.get? T=some oT→oT.data=.fields ts→ts[3]?=some (fl.elim .none fun f=>rawInt f)→Exc h a k [a,T] fl
theorem Exc.fields (x:Exc h a k fp fl):∀ b ∈ fp,∃ o us,h.get? b=some o∧o.data=.fields us:=by
 cases x with
 | new oe vs a0 e _ d=>intro b m;cases List.mem_singleton.mp m;exact ⟨_,_,e,d⟩
 | seen oe vs a0 T oT ts fl e _ d _ _ _ eT dT=>
  intro b m
  rcases List.mem_cons.mp m with rfl | m
  ·exact ⟨_,_,e,d⟩
  ·cases List.mem_singleton.mp m;exact ⟨_,_,eT,dT⟩
theorem Exc.mem (x:Exc h a k fp fl):a ∈ fp:=by cases x <;> exact List.mem_cons_self
section
variable {K:Ctx}
inductive PV (c:Cf K.h₀) (Q:AO) (v:Value):Shared→Prop
 | mk (c':Cf K.h₀) (V:V):Stp AQ c c'→Rel c'.s.heap c'.φ V v→Q V c'.σ→PV c Q v c'.s
inductive PVs (c:Cf K.h₀) (Q:List V→AD→Prop) (vs:List Value):Shared→Prop
 | mk (c':Cf K.h₀) (Vs:List V):Stp AQ c c'→RelL c'.s.heap c'.φ Vs vs→Q Vs c'.σ→PVs c Q vs c'.s
inductive PB (c:Cf K.h₀) (Q:Bool→AD→Prop) (b:Bool):Shared→Prop
 | mk (c':Cf K.h₀):Stp AQ c c'→Q b c'.σ→PB c Q b c'.s
inductive PX (c:Cf K.h₀) (X:Ac):Value→Shared→Prop
 | mk (c':Cf K.h₀) (k:Nat) (a:Addr) (fp:List Addr):(∀ b ∈ fp,c.s.heap.get? b=none∧b ∉ c'.φ)→k ∈ K.excs→Stp AQ c c'→Exc c'.s.heap a k fp none→X k c'.σ→PX c X (.ref a) c'.s
theorem PX.lift (x:Stp AQ c₀ c) (y:PX c X e s'):PX c₀ X e s':=y.casesOn fun c' k a fp n hk st ex q=>.mk c' k a fp (fun b m=>⟨x.gone (n b m).1,(n b m).2⟩) hk (x.trans st) ex q
theorem PX.no (h:∀ k σ,¬ X k σ):¬ PX c X e s':=fun y=>y.casesOn fun _ _ _ _ _ _ _ _ q=>h _ _ q
variable {A:Around} {c₀ c:Cf K.h₀} {X:Ac}
theorem seq (st:Stp AQ c₀ c) (h:wpAny K.M A m (PV c Q) (PX c X) c.s)
  (k:∀ (c₁:Cf K.h₀) (V:V) (v:Value),Stp AQ c₀ c₁→Stp AQ c c₁→Rel c₁.s.heap c₁.φ V v→Q V c₁.σ→P v c₁.s):wpAny K.M A m P (PX c₀ X) c.s:=
 wpAny_mono h (fun v _ y=>y.casesOn fun c₁ V s₁ r q=>k c₁ V v (st.trans s₁) s₁ r q) fun _ _ x=>x.lift st
theorem JR (st:Stp AQ c₀ c) (h:wpAny K.M A m (PVs c Q) (PX c X) c.s)
  (k:∀ (c₁:Cf K.h₀) (Vs:List V) (vs:List Value),Stp AQ c₀ c₁→Stp AQ c c₁→RelL c₁.s.heap c₁.φ Vs vs→Q Vs c₁.σ→P vs c₁.s):wpAny K.M A m P (PX c₀ X) c.s:=
 wpAny_mono h (fun v _ y=>y.casesOn fun c₁ V s₁ r q=>k c₁ V v (st.trans s₁) s₁ r q) fun _ _ x=>x.lift st
theorem Pn (st:Stp AQ c₀ c) (h:wpAny K.M A m (PB c Q) (PX c X) c.s)
  (k:∀ (c₁:Cf K.h₀) (b:Bool),Stp AQ c₀ c₁→Stp AQ c c₁→Q b c₁.σ→P b c₁.s):wpAny K.M A m P (PX c₀ X) c.s:=
 wpAny_mono h (fun b _ y=>y.casesOn fun c₁ s₁ q=>k c₁ b (st.trans s₁) s₁ q) fun _ _ x=>x.lift st
theorem fin (st:Stp AQ c₀ c) (h:wpAny K.M A m (PV c Q) (PX c X) c.s):wpAny K.M A m (PV c₀ Q) (PX c₀ X) c.s:=
 seq st h fun c₁ V _ s₁ _ r q=>.mk c₁ V s₁ r q
theorem QW (st:Stp AQ c₀ c) (h:wpAny K.M A m (PB c Q) (PX c X) c.s):wpAny K.M A m (PB c₀ Q) (PX c₀ X) c.s:=
 Pn st h fun c₁ _ s₁ _ q=>.mk c₁ s₁ q
theorem PV.lift (st:Stp AQ c₀ c):PV c Q v s'→PV c₀ Q v s'
 | .mk c₁ V s₁ r q=>.mk c₁ V (st.trans s₁) r q
theorem PB.lift (st:Stp AQ c₀ c):PB c Q b s'→PB c₀ Q b s'
 | .mk c₁ s₁ q=>.mk c₁ (st.trans s₁) q
noncomputable abbrev Cf.toks (c:Cf K.h₀) (tk:Nat):Cf K.h₀:=c.keep { c.s with toks:=tk } fun _ _ e=>e
theorem PV.plain {Q:AO} {V:V} {v:Value} {tk:Nat} (r:Rel c.s.heap c.φ V v) (q:Q V c.σ):PV c Q v { c.s with toks:=tk }:=PV.mk (c.toks tk) V (Cf.keep_stp ⟨rfl,rfl⟩) r q
theorem PV.same {V:V} (r:Rel c.s.heap c.φ V v) (q:Q V c.σ):PV c Q v c.s:=.mk c V (.refl c) r q
theorem PV.kept {Q:AO} {V:V} {v:Value} {h':Heap} {tk:Nat} (k:∀ b o,c.s.heap.get? b=some o→h'.get? b=some o) (r:Rel h' c.φ V v) (q:Q V c.σ):PV c Q v { c.s with heap:=h',toks:=tk }:=
 PV.mk (c.keep { c.s with heap:=h',toks:=tk } k) V (Cf.keep_stp ⟨rfl,rfl⟩) r q
theorem PS {h h':Heap} (k:∀ b o,h.get? b=some o→h'.get? b=some o):∀ b items n,h.get? b=some { cls:=.type "tuple", data:=.seq items n }→h'.get? b=some { cls:=.type "tuple", data:=.seq items n }:=fun b _ _ e=>k b _ e
noncomputable def Cf.add {h₀:Bs} (c:Cf h₀) {o:O} {a:Addr} {h':Heap} {tk:Nat} (k:∀ b ob,c.s.heap.get? b=some ob→h'.get? b=some ob) (n:c.s.heap.get? a=none) (r:RelO h₀ h' c.φ o a):Cf h₀:=
  ⟨{ c.s with heap:=h',toks:=tk },c.φ ++ [a],c.σ ++ [o],(c.keep { c.s with heap:=h',toks:=tk } k).sim.add (c.sim.out n) (c.sim.none₀ n) r⟩
theorem PV.new {tk:Nat} (k:∀ b ob,c.s.heap.get? b=some ob→h'.get? b=some ob) (n:c.s.heap.get? a=none) (r:RelO K.h₀ h' c.φ o a) (q:Q (.ref c.σ.length) (c.σ ++ [o])) :
  PV c Q (.ref a) { c.s with heap:=h',toks:=tk }:=
 PV.mk (c.add k n r) (.ref c.σ.length)
  ⟨⟨⟨rfl,rfl⟩,List.prefix_append _ _,fun b o _ _ e=>⟨o,k b o e,.refl o⟩,fun _ m=>(Bl m).imp id fun e=>(congrArg c.s.heap.get? e).trans n⟩,fun b o e=>⟨o,k b o e⟩⟩ ⟨a,rfl,by rw [← c.sim.len];exact List.getElem?_concat_length⟩ q
theorem PV.list {Q:AO} {Vs:List V} {items:Array Value} {a:Addr} {h':Heap} {tk n:Nat} (r:RelL c.s.heap c.φ Vs items.toList) (hz:Vs.length≤B5) (ha:c.s.heap.get? a=none) (k:∀ b ob,c.s.heap.get? b=some ob→h'.get? b=some ob)
  (e:h'.get? a=some { cls:=.type "list", data:=.seq items n }) (q:Q (.ref c.σ.length) (c.σ ++ [.list Vs])):PV c Q (.ref a) { c.s with heap:=h',toks:=tk }:=
 PV.new (o:=.list Vs) k ha ⟨items,n,e,RelL.keep (PS k) (List.prefix_refl _) _ _ r,hz⟩ q
theorem PV.pushL {Q:AO} {Vs:List V} {items:List Value} (r:RelL c.s.heap c.φ Vs items) (hz:Vs.length≤B5) (q:Q (.ref c.σ.length) (c.σ ++ [.list Vs])) :
  PV c Q (.ref c.s.heap.objs.size) { c.s with heap:=c.s.heap.push { cls:=.type "list", data:=.seq items.toArray 0 } }:=
 PV.list (tk:=c.s.toks) r hz (BK (Nat.le_refl _)) (fun _ _ e=>Heap.get?_push_of_some _ e) (Heap.get?_push_size _ rfl) q
theorem PV.tup {Q:AO} {Vs:List V} {items:Array Value} {a:Addr} {h':Heap} {tk n:Nat} (r:RelL c.s.heap c.φ Vs items.toList) (k:∀ b ob,c.s.heap.get? b=some ob→h'.get? b=some ob)
  (e:h'.get? a=some { cls:=.type "tuple", data:=.seq items n }) (q:Q (.tup Vs) c.σ):PV c Q (.ref a) { c.s with heap:=h',toks:=tk }:=
 PV.kept (V:=.tup Vs) k ⟨a,items,n,rfl,e,RelL.keep (PS k) (List.prefix_refl _) _ _ r⟩ q
theorem PV.pushT {Vs:List V} (r:RelL c.s.heap c.φ Vs items) (q:Q (.tup Vs) c.σ) :
  PV c Q (.ref c.s.heap.objs.size) { c.s with heap:=c.s.heap.push { cls:=.type "tuple", data:=.seq items.toArray 0 } }:=
 PV.tup (tk:=c.s.toks) r (fun _ _ e=>Heap.get?_push_of_some _ e) (Heap.get?_push_size _ rfl) q
end
noncomputable def SlotIs {h₀:Bs} (c:Cf h₀) (ρ:List V) (i:Nat) (ov:Option Value):Prop:=∀ V,ρ[i]?=some V→V ≠ .undef→∃ v,ov=some v∧Rel c.s.heap c.φ V v
inductive NsAt {h₀:Bs} (c:Cf h₀) (L:Loc) (ρ:List V):Prop
 | mk (m:Str→Option Value):c.s.heap.Ns L.env.locals m→(∀ x i,L.vs.lookup x=some i→L.env.kindOf x=some .local→SlotIs c ρ i (m x))→NsAt c L ρ
inductive CellAt {h₀:Bs} (c:Cf h₀) (L:Loc) (ρ:List V) (x:Str) (i:Nat):Prop
 | mk (a:Addr) (ov:Option Value):L.env.cells.lookup x=some a→a ∉ c.φ→h₀.get? a=none→c.s.heap.IsCell a ov→SlotIs c ρ i ov→CellAt c L ρ x i
noncomputable def FrameAt {h₀:Bs} (c:Cf h₀) (e:Env):Prop:=e.scope.kind ≠ .module∧∃ f m,e.frame=some f∧h₀.get? f=none∧f ∉ c.φ∧c.s.heap.Ns f m
structure Fr {h₀:Bs} (c:Cf h₀) (L:Loc) (ρ:List V):Prop where
 fn:L.env.scope.kind=.function
 glob:L.env.globals=mainGlobals
 blt:L.env.builtins=builtinsNs
 locNew:h₀.get? L.env.locals=none
 locOut:L.env.locals ∉ c.φ
 inj:∀ x y i,L.vs.lookup x=some i→L.vs.lookup y=some i→x=y
 ns:NsAt c L ρ
 cell:∀ x i,L.vs.lookup x=some i→L.env.kindOf x=some .cell∨L.env.kindOf x=some .free→CellAt c L ρ x i
 cellInj:∀ x y i j a,L.vs.lookup x=some i→L.vs.lookup y=some j→L.env.cells.lookup x=some a→L.env.cells.lookup y=some a→x=y
 up:∀ e ∈ L.up,FrameAt c e
noncomputable def Loc.own (L:Loc):Addr→Prop:=fun a=>a=L.env.locals∨∃ x i,L.vs.lookup x=some i∧L.env.kindOf x=some .cell∧L.env.cells.lookup x=some a
section
variable {h₀:Bs} {c c':Cf h₀} {L:Loc} {ρ:List V}
theorem CT {h:Heap} {a:Addr} {m:Str→Option Value} (n:h.Ns a m):∃ o,h.get? a=some o∧∃ es ep,o.data=.dict es ep:=by refine Ad n fun o es ep e d _=>?_;exact ⟨o,e,es,ep,d⟩
theorem Il {h h':Heap} {a:Addr} {m:Str→Option Value} (n:h.Ns a m) (k:∀ o,h.get? a=some o→h'.get? a=some o):h'.Ns a m:=by refine EF n fun o es ep e d=>?_;exact ⟨o,es,ep,k o e,d⟩
theorem Hq {h h':Heap} {a:Addr} {v:Option Value} (n:h.IsCell a v) (k:∀ o,h.get? a=some o→h'.get? a=some o):h'.IsCell a v:=by refine AF n fun o e d=>?_;exact ⟨o,k o e,d⟩
theorem SlotIs.own {own:Addr→Prop} {i:Nat} (x:SlotIs c ρ i ov) (st:WStp own c c') (hn:∀ a,own a→A6 c.s.heap a):SlotIs c' ρ i ov:=fun V h1 h2=>AF (x V h1 h2) fun v e r=>⟨v,e,r.own st hn⟩
theorem FrameAt.keep {own:Addr→Prop} {e:Env} (st:WStp own c c') (hl:∀ f m,c.s.heap.Ns f m→e.frame=some f→¬ own f) (h:FrameAt c e):FrameAt c' e:=⟨h.1,Bk h.2 fun f m e1 e2 e3 n=>⟨f,m,e1,e2,AF (CT n) fun _ e _=>st.out e e3,st.keepN e3 (hl f m n e1) n⟩⟩
theorem Fr.keep {own:Addr→Prop} (F:Fr c L ρ) (st:WStp own c c') (hn:∀ a,own a→A6 c.s.heap a) (hl:∀ f m,c.s.heap.Ns f m→f=L.env.locals∨(∃ e ∈ L.up,e.frame=some f)→¬ own f) (hc:∀ a ov,c.s.heap.IsCell a ov→¬ own a):Fr c' L ρ where
 fn:=F.fn
 glob:=F.glob
 blt:=F.blt
 locNew:=F.locNew
 locOut:=F.ns.casesOn fun _ n _=>AF (CT n) fun _ e _=>st.out e F.locOut
 inj:=F.inj
 ns:=F.ns.casesOn fun m n q=>.mk m (st.keepN F.locOut (hl _ _ n (.inl rfl)) n) fun x i h1 h2=>(q x i h1 h2).own st hn
 cell x i h1 h2:=match F.cell x i h1 h2 with
  | .mk a ov e o n ic r=>.mk a ov e (AF ic fun _ e' _=>st.out e' o) n (st.keepC o (hc a ov ic) ic) (r.own st hn)
 cellInj:=F.cellInj
 up e m:=(F.up e m).keep st fun f m' n e1=>hl f m' n (.inr ⟨e,m,e1⟩)
theorem Fr.step (F:Fr c L ρ) (st:Stp AQ c c'):Fr c' L ρ:=F.keep st.toWStp (fun _ f=>f.elim) (fun _ _ _ _ f=>f) fun _ _ _ f=>f
theorem Ce {h:Heap} {a:Addr} {m:Str→Option Value} (n:h.Ns a m):A6 h a:=by refine DP (CT n) fun _ e _ _ d=>?_;exact Im e fun _ _ e'=>nomatch d.symm.trans e'
theorem GU (n:h.IsCell a v):A6 h a:=by refine AF n fun _ e d=>?_;exact Im e fun _ _ e'=>nomatch d.symm.trans e'
theorem Fr.noTup (F:Fr c L ρ) (x:L.own a):A6 c.s.heap a:=
 x.elim (fun h=>h▸F.ns.casesOn fun _ n _=>Ce n) fun h=>A3 h fun x i hx hk e=>(F.cell x i hx (.inl hk)).casesOn fun _ _ e1 _ _ ic _=>Option.some.inj (e1.symm.trans e)▸GU ic
theorem SlotIs.undef (x:SlotIs c (ρ.set i v) j ov):SlotIs c (ρ.set i .undef) j ov:=fun V h hV=>x V (by
  by_cases hij:i=j
  ·subst hij
   refine absurd ?_ hV
   rw [List.getElem?_set_self (by rw [← List.length_set];exact (List.getElem?_eq_some_iff.mp h).1)] at h
   exact (Option.some.inj h).symm
  ·rw [List.getElem?_set_ne hij] at h ⊢;exact h) hV
theorem Fr.undef (F:Fr c L (ρ.set i v)):Fr c L (ρ.set i .undef) where
 fn:=F.fn
 glob:=F.glob
 blt:=F.blt
 locNew:=F.locNew
 locOut:=F.locOut
 inj:=F.inj
 ns:=F.ns.casesOn fun m n q=>.mk m n fun x j h1 h2=>(q x j h1 h2).undef
 cell x j h1 h2:=(F.cell x j h1 h2).casesOn fun a ov e o n ic r=>.mk a ov e o n ic r.undef
 cellInj:=F.cellInj
 up:=F.up
end
end Mine
namespace Mine
open PySem PySem.Calls
section
variable (K:Ctx) (L:Loc)
noncomputable def EOk (e:Expr) (a:Ex):Prop:=
 ∀ (A:Around) (c:Cf K.h₀) (ρ:List V) (Q:AO) (X:Ac),ROk K L.up A→Fr c L ρ→a K.C ρ c.σ Q X→wpAny K.M A (eval e L.env) (PV c Q) (PX c X) c.s
noncomputable def LOk (es:List Expr) (as:List Ex):Prop:=
 ∀ (A:Around) (c:Cf K.h₀) (ρ:List V) (Q:List V→AD→Prop) (X:Ac) (pos:Pos),ROk K L.up A→Fr c L ρ→evs as K.C ρ c.σ Q X →
  wpAny K.M A (spliced (backTo pos (starEach es L.env))) (PVs c fun vs σ=>vs.length=es.length∧Q vs σ) (PX c X) c.s
noncomputable def BOk (es:List Expr) (as:List Ex):Prop:=
 ∀ (A:Around) (c:Cf K.h₀) (ρ:List V) (Q:AO) (X:Ac) (pos:Pos) (op:BoolOp),ROk K L.up A→Fr c L ρ→KG (op == .And) as K.C ρ c.σ Q X→wpAny K.M A (boolOp pos op (evalEach es L.env)) (PV c Q) (PX c X) c.s
noncomputable def COk (ops:List CmpOp) (es:List Expr) (as:List Ex):Prop:=
 ∀ (A:Around) (c:Cf K.h₀) (ρ:List V) (Q:Bool→AD→Prop) (X:Ac) (pos:Pos) (V:V) (v:Value),ROk K L.up A→Fr c L ρ→Rel c.s.heap c.φ V v→Sn ops as V K.C ρ c.σ Q X →
  wpAny K.M A (compareChain pos v ops (evalEach es L.env)) (fun x s=>∃ b,x=.bool b∧PB c Q b s) (PX c X) c.s∧wpAny K.M A (testChain pos v ops (evalEach es L.env)) (PB c Q) (PX c X) c.s
noncomputable def TOk (e:Expr) (t:Tx):Prop:=
 ∀ (A:Around) (c:Cf K.h₀) (ρ:List V) (Q:Bool→AD→Prop) (X:Ac),ROk K L.up A→Fr c L ρ→t K.C ρ c.σ Q X→wpAny K.M A (isTrue e L.env (eval e L.env)) (PB c Q) (PX c X) c.s
noncomputable def AOk (es:List Expr) (ts:List Tx):Prop:=
 ∀ (A:Around) (c:Cf K.h₀) (ρ:List V) (Q:Bool→AD→Prop) (X:Ac),ROk K L.up A→Fr c L ρ →
  (EH ts K.C ρ c.σ Q X→wpAny K.M A (allTrue .And es L.env) (PB c Q) (PX c X) c.s)∧(tOr ts K.C ρ c.σ Q X→wpAny K.M A (allTrue .Or es L.env) (PB c Q) (PX c X) c.s)
end
noncomputable def Au (e:Expr):Prop:=∀ rest env,starEach (e :: rest) env=(false,eval e env) :: starEach rest env
noncomputable def F6 (e:Expr):Prop:=∀ o i,subscripted e false o i=operate [o,i] (getItem o i)
section
variable {K:Ctx} {L:Loc}
theorem R7 {k pos}:EOk K L (.Constant .none k pos) CF:=fun _ _ _ _ _ _ _ q=>wpAny_Constant_none (PV.same CO q)
theorem Q8 {b k pos}:EOk K L (.Constant (.bool b) k pos) (Ao b):=fun _ _ _ _ _ _ _ q=>wpAny_Constant_bool (PV.same AW q)
theorem Ua {i k pos}:EOk K L (.Constant (.int i) k pos) (AG i):=fun _ _ _ _ _ _ _ q=>wpAny_Constant_int (PV.plain Az q)
theorem Uc {x k pos}:EOk K L (.Constant (.str x) k pos) (Aw x):=fun _ _ _ _ _ _ _ q=>wpAny_Constant_str (PV.plain Bo q)
noncomputable def C2 (sc:Scope) (x:Str):Bool:=decide (sc.names.lookup x=some .local) || (decide (sc.names.lookup x=some .cell) || decide (sc.names.lookup x=some .free))
theorem Kq (h:C2 sc x=true):sc.names.lookup x=some .local∨sc.names.lookup x=some .cell∨sc.names.lookup x=some .free:=
 ((Bool.or_eq_true _ _).mp h).imp of_decide_eq_true fun h=>((Bool.or_eq_true _ _).mp h).imp of_decide_eq_true of_decide_eq_true
noncomputable def A5 (x:Str):Bool:=!(x == ("__debug__":Str)) && !(x == ("__classdict__":Str))
theorem Ck (h:A5 x=true):(x == ("__debug__":Str))=false:=(Bool.not_eq_true' _).mp (Bool.and_eq_true_iff.mp h).1
theorem QR (h:A5 x=true):(x == ("__classdict__":Str))=false:=(Bool.not_eq_true' _).mp (Bool.and_eq_true_iff.mp h).2
theorem JD {A:Around} {c:Cf K.h₀} {ρ:List V} {Q:AO} {E:Value→Shared→Prop} {x:Str} {i:Nat} {pos} (hx:L.vs.lookup x=some i) (hk:C2 L.env.scope x=true) (hn:A5 x=true) (F:Fr c L ρ) (q:M3 (fun v=>Q v c.σ) ρ[i]?):wpAny K.M A (eval (.Name x pos) L.env) (PV c Q) E c.s:=by
 obtain ⟨V,e,hV,q⟩:=Qe q
 refine wpAny_Name ?_ (Ck hn)
 refine Or.elim (Kq hk) (fun hl=>?_) (fun hl=>?_)
 ·cases F.ns with
  | mk m n r=>refine AF (r x i hx hl V e hV) fun _ hv rl=>?_;exact wpAny_loadName_local F.fn hl n hv (PV.same rl q)
 ·cases F.cell x i hx hl with
  | mk a ov e1 _ _ ic r=>
   refine AF (r V e hV) fun v ze rl=>?_;subst ze
   exact hl.elim (fun hl=>wpAny_loadName_cell F.fn hl e1 ic (PV.same rl q)) fun hl=>wpAny_loadName_free F.fn hl e1 ic (PV.same rl q) (QR hn)
theorem UT {x:Str} {i:Nat} {pos} (hx:L.vs.lookup x=some i) (hk:C2 L.env.scope x=true) (hn:A5 x=true):EOk K L (.Name x pos) (AA i):=fun _ _ _ _ _ _ F q=>JD hx hk hn F q
theorem DU (h:n≤Ah):n≤sizeLine:=Nat.le_trans h (by decide)
theorem BS (h:n≤B5):n≤sizeLine:=Nat.le_trans h (by decide)
theorem DN (h:n≤B5):(n:Int) < 2 ^ 63:=Int.lt_of_le_of_lt (Int.ofNat_le.mpr h) (by decide)
theorem Bv (h:n≤Ah):n≤B5:=Nat.le_trans h (by decide)
theorem RelL.size {h:Heap} {φ:List Addr} {Vs:List V} {items:Array Value} (r:RelL h φ Vs items.toList):items.size=Vs.length:=Array.length_toList.symm.trans r.length.symm
theorem GL {α β:Type}:∀ {items:Array α} {vs:List β},items.size=vs.length→(!items.isEmpty)=!vs.isEmpty
 | ⟨[]⟩,[],_=>rfl
 | ⟨_ :: _⟩,_ :: _,_=>rfl
theorem Fa {A:Around} {c:Cf K.h₀} {V:V} {v:Value} {T:Bool→Prop} {R:Bool→Shared→Prop} {E:Value→Shared→Prop} (r:Rel c.s.heap c.φ V v) (ht:Qa c.σ T V) (h:∀ b tk,T b→R b { c.s with toks:=tk }):wpAny K.M A (truthy v) R E c.s:=by
 replace ht:=T7 ht
 cases ht with
 | none q=>cases r;exact fun Γ p hΓ=>h _ c.s.toks q
 | bool q=>cases r;exact wpAny_truthy_bool (h _ c.s.toks q)
 | int q=>refine AU r fun t ze1=>?_;subst ze1;exact PyProof.Rows.truthy_int (h _ c.s.toks q)
 | @str x hz q=>
  apply Dr r;intro t
  have e:((x.length:Int) != 0)=(x.length != 0):=by cases x.length <;> rfl
  exact PySem.P.truthy_str (Int.not_le.mpr (DN (Bv hz))) (e▸h _ _ q)
 | tup hz q=>refine Ad r fun a items n ze1 g rl=>?_;subst ze1;exact PyProof.Rows.truthy_tuple ⟨_,g,rfl,n,rfl⟩ (rl.size▸DN (Bv hz)) (GL rl.size▸h _ _ q)
 | list e q=>refine Ak (Cf.list e r) fun a items k ze1 _ hL rl z=>?_;subst ze1;exact wpAny_truthy_list hL.isList (rl.size▸DN z) (GL rl.size▸h _ _ q)
theorem Np (h:CU i=true):i.natAbs < 2 ^ 64:=by
 unfold CU at h
 have h1:=of_decide_eq_true (Bool.and_eq_true_iff.mp h).1
 have h2:=of_decide_eq_true (Bool.and_eq_true_iff.mp h).2
 exact Int.ofNat_lt.mp ((Int.natAbs_eq i).elim (fun e=>Int.lt_trans (e▸h2) (by decide)) fun e=>Int.lt_of_neg_lt_neg (Int.lt_of_lt_of_le (by decide) (e▸h1)))
theorem Ff (h:CU i=true):i.natAbs.log2 < 64:=by
 by_cases h0:i.natAbs=0
 ·rw [h0];decide
 ·exact (Nat.log2_lt h0).mpr (Np h)
theorem Gh (h:CU i=true):Builtin.Int.intBits i≤64:=by
 unfold Builtin.Int.intBits
 split
 ·exact Nat.zero_le _
 ·exact Ff h
theorem RelP.at:∀ {us:List (Str × Value)},RelP h φ kvs us→(∀ V,kvs.lookup k=some V→∃ v,valueAt us k=some v∧Rel h φ V v)∧(valueAt us k).isSome=kvs.any (fun p=>p.1=k):=by
 induction kvs with
 | nil=>intro us r;cases us with
  | nil=>exact ⟨fun V e=>absurd e.symm (Option.some_ne_none V),rfl⟩
  | cons _ _=>exact absurd r.1 (List.cons_ne_nil _ _)
 | cons p kvs ih=>intro us r;cases us with
  | nil=>exact absurd r.1.symm (List.cons_ne_nil _ _)
  | cons u us=>
   have e:=List.cons.inj r.1
   have ih:=ih (us:=us) ⟨e.2,r.2.2⟩
   by_cases hk:u.1=k
   ·have hp:p.1=k:=e.1.symm.trans hk
    have hv:valueAt (u :: us) k=some u.2:=by unfold valueAt;rw [List.find?_cons,decide_eq_true hk];rfl
    refine ⟨fun W hW=>⟨u.2,hv,?_⟩,by rw [hv,List.any_cons,decide_eq_true hp];rfl⟩
    rw [List.lookup_cons,hp,beq_self_eq_true] at hW;exact Option.some.inj hW▸r.2.1
   ·have hp:p.1 ≠ k:=fun z=>hk (e.1.trans z)
    have hv:valueAt (u :: us) k=valueAt us k:=by unfold valueAt;rw [List.find?_cons,decide_eq_false hk]
    rw [hv]
    refine ⟨fun W hW=>ih.1 W ?_,?_⟩
    ·rw [List.lookup_cons,beq_eq_false_iff_ne.mpr (Ne.symm hp)] at hW;exact hW
    ·rw [List.any_cons,decide_eq_false hp,Bool.false_or];exact ih.2
theorem Cf.dict {c:Cf K.h₀} {n ep:Nat} {kvs:List (Str × V)} {v:Value} (e:c.σ[n]?=some (.dict ep kvs)) (r:Rel c.s.heap c.φ (.ref n) v) :
  ∃ a us,v=.ref a∧c.φ[n]?=some a∧c.s.heap.DictAt (strKind K.h₀.prog K.h₀.w) a us ep∧RelP c.s.heap c.φ kvs us∧kvs.length≤B5∧(a == sysModules)=false:=
 let ⟨_,ev,ea⟩:=r
 let ⟨a',ea',us,q⟩:=c.sim.obj n _ e
 ⟨a',us,ev.trans (congrArg Value.ref (Option.some.inj (ea.symm.trans ea'))),ea',q⟩
theorem Cf.dictE {c:Cf K.h₀} {n ep:Nat} {kvs:List (Str × V)} {v:Value} {P:Value→Prop} (e:c.σ[n]?=some (.dict ep kvs)) (r:Rel c.s.heap c.φ (.ref n) v)
  (k:∀ a us,c.φ[n]?=some a→c.s.heap.DictAt (strKind K.h₀.prog K.h₀.w) a us ep→RelP c.s.heap c.φ kvs us→kvs.length≤B5→(a == sysModules)=false→P (.ref a)):P v:=
 BX (Cf.dict e r) fun a us ze h1 h2 h3 h4 h5=>ze▸k a us h1 h2 h3 h4 h5
theorem Gb {α:Type} (a:Array α):∀ (n:Nat) (acc:Array α),(List.foldl (fun x1 x2=>x1 ++ x2) acc (List.replicate n a)).toList=acc.toList ++ repl a.toList n
 | 0,acc=>(List.append_nil _).symm
 | n + 1,acc=>by rw [List.replicate_succ,List.foldl_cons,Gb a n,Array.toList_append,List.append_assoc];rfl
theorem Je {α:Type}:∀ n,repl ([]:List α) n=[]
 | 0=>rfl
 | n + 1=>Je n
theorem Fq {α:Type} (l:List α):∀ n,(repl l n).length=l.length * n
 | 0=>rfl
 | n + 1=>by rw [repl,List.length_append,Fq l n,Nat.mul_succ,Nat.add_comm]
theorem RelL.repl {Vs:List V} (r:RelL h φ Vs vs):∀ n,RelL h φ (repl Vs n) (repl vs n)
 | 0=>trivial
 | n + 1=>r.append (r.repl n)
theorem PA {Vs:List V} (r:RelL h φ Vs items.toList) (n:Nat):RelL h φ (repl Vs n) (List.foldl (fun x1 x2=>x1 ++ x2) #[] (List.replicate (if items.isEmpty=true then 0 else n) items)).toList:=by
 rw [Gb]
 by_cases hi:items.isEmpty=true
 ·rw [if_pos hi]
  have e:items.toList=[]:=List.length_eq_zero_iff.mp (Array.length_toList.trans (of_decide_eq_true hi))
  have:Vs=[]:=List.length_eq_zero_iff.mp (r.length.trans (congrArg List.length e))
  subst this
  rw [Je];exact trivial
 ·rw [if_neg hi];exact r.repl n
noncomputable def cOp:BOp→Operator
 | .add=>.Add | .sub=>.Sub | .mul=>.Mult | .floordiv=>.FloorDiv | .mod=>.Mod | .pow=>.Pow
theorem Ga {α:Type} {a b:Array α}:(a.toList ++ b.toList).toArray=a ++ b:=by simp
theorem KF {h:Heap} {φ:List Addr} {Vs:List V} {items:Array Value} (r:RelL h φ Vs items.toList) (e:items.isEmpty=true):Vs=[]:=List.length_eq_zero_iff.mp (r.size.symm.trans (of_decide_eq_true e))
theorem K1 {h:Heap}:h.get? h.objs.size=none:=BK (Nat.le_refl _)
theorem Qz:∀ n:Nat,n < 10→¬ Builtin.Int.intTooBig ((Builtin.Int.intBits 10:Int) * n)=true:=by decide +kernel
theorem Rg (hl:s.heap.get? l=some { cls:=.type "list", dict:=none,data:=.seq items z,slots:=#[] })
  (h0:0≤x) (hk:x < ((2 ^ 40:Nat):Int)) (hz:items.size * x.toNat≤1000000) (h:Q (.ref s.heap.objs.size) { s with heap:=s.heap.push { cls:=.type "list", data:=.seq (List.foldl (fun x1 x2=>x1 ++ x2) #[] (List.replicate (if items.isEmpty=true then 0 else x.toNat) items)) } }) :
  wpAny (model prog w) A (binaryOp .Mult (.ref l) (.int x u)) Q E s:=
 wpAny_binaryOp_repeat_ref (T:="list") (U:="int") (by decide) ⟨_,hl,rfl⟩ (fun s'=>typeIs_int s' x u) noFill_list_mul F.fills_int_mul F.slot_int_rmul repeat_list F.slot_int_index.lookup
  (call_meets F.slot_int_rmul (typeIs_int s x u) F.entry_int_rmul (F.args_int_rmul_2 _ _) (int___rmul___int_list x u l items z)
   ⟨hl,rfl,⟨_,hl,rfl⟩,call_meets F.slot_list_mul ⟨_,hl,rfl⟩ F.entry_list_mul (F.args_list_mul_2 _ _)
    (AutoListH.list___mul___list_int_3 l items z x u (by simp [Builtin.List.listFitsIndex];exact ⟨Int.le_trans (by decide) h0,Int.lt_of_lt_of_le hk (by decide)⟩) (fun h=>absurd (Nat.lt_of_lt_of_le h hz) (by decide)) (by simp [Builtin.List.listTooLong,sizeLine];exact an1 .le .v0 (.n 16777216) (.l .v0 (.n 1000000) .e) rfl hz)) ⟨hl,h⟩⟩)
theorem S7 {A:Around} {c:Cf K.h₀} {Q:AO} {E:Value→Shared→Prop} {o:BOp} {V W:Mine.V} {a b:Value} (ra:Rel c.s.heap c.φ V a) (rb:Rel c.s.heap c.φ W b) (q:TY c.σ Q o W V):wpAny K.M A (binaryOp (cOp o) a b) (PV c Q) E c.s:=by
 replace q:=T1 q
 cases q with
 | add q=>refine AU ra fun t ze1=>?_;subst ze1;refine AU rb fun u ze1=>?_;subst ze1;exact PySem.P.add_int (PV.plain Az q)
 | addS hz q=>refine AU ra fun t ze1=>?_;subst ze1;refine AU rb fun u ze1=>?_;subst ze1;exact PyProof.Rows.add_str (fun _ _=>PV.plain Bo q) (DU hz)
 | @addT xs ys h1 h2 hz q=>
  refine Ad ra fun t it n ze1 g rl=>?_;subst ze1
  refine Ad rb fun u iu k ze1 gu rlu=>?_;subst ze1
  refine PySem.P.add_tuple g gu (fun h=>h1 (KF rl h)) (fun h=>h2 (KF rlu h)) ?_ (by rw [rl.size,rlu.size];exact DU hz)
  rw [← Ga]
  exact PV.pushT (rl.append rlu) q
 | addL e1 e2 hz q=>
  apply Cf.listE e1 ra;intro a ia k _ hA rla _
  apply Cf.listE e2 rb;intro b ib k' _ hB rlb _
  refine PySem.P.add_list hA hB ?_ (by rw [rla.size,rlb.size];exact DU hz)
  rw [← Ga]
  exact PV.pushL (rla.append rlb) (Bv (List.length_append▸hz)) q
 | @mulL _ k x e1 hk hz q=>
  apply Cf.listE e1 ra;intro l items z _ hl rl _
  apply Dr rb;intro u
  exact Rg hl (Int.natCast_nonneg k) (Int.ofNat_lt.mpr hk) (by rw [Int.toNat_natCast,rl.size];exact hz)
   (PV.list (tk:=c.s.toks) (PA rl _) (by rw [Fq];exact Bv hz) K1 (fun _ _ e=>Heap.get?_push_of_some _ e) (Heap.get?_push_size _ rfl) q)
 | mulS q=>refine AU ra fun t ze1=>?_;subst ze1;refine AU rb fun u ze1=>?_;subst ze1;exact PySem.P.mul_str_none (by decide) (by decide) (PV.plain Bo q)
 | sub q=>refine AU ra fun t ze1=>?_;subst ze1;refine AU rb fun u ze1=>?_;subst ze1;exact PyProof.Rows.sub_int' (PV.plain Az q)
 | mul hs q=>refine AU ra fun t ze1=>?_;subst ze1;refine AU rb fun u ze1=>?_;subst ze1;exact PySem.P.mul_int (PV.plain Az q) (hs.elim (fun h=>IntMulOk.of_left (Gh h)) fun h=>IntMulOk.of_right (Gh h))
 | div h0 hs q=>refine AU ra fun t ze1=>?_;subst ze1;refine AU rb fun u ze1=>?_;subst ze1;exact PyProof.Rows.floordiv_int h0 (PV.plain Az q) (Or.inl (PyProof.noPylong_of_log2 (Nat.lt_of_lt_of_le (Ff hs) (by decide))))
 | mod h0 q=>refine AU ra fun t ze1=>?_;subst ze1;refine AU rb fun u ze1=>?_;subst ze1;exact PyProof.Rows.mod_int' h0 (PV.plain Az q)
 | @pow n h0 h9 q=>
  refine AU ra fun t ze1=>?_;subst ze1;apply Dr rb;intro u
  refine PySem.AutoIntOps.pow_4 (Int.natCast_nonneg n) (fun h=>Nat.pos_iff_ne_zero.mp h0 (Int.natCast_eq_zero.mp (beq_iff_eq.mp h))) (by decide) (by decide) ?_ (PV.plain Az q)
  exact Qz n (Nat.lt_succ_of_le h9)
theorem UE {pos} (hl:EOk K L l a) (hr:EOk K L r b):EOk K L (.BinOp l (cOp o) r pos) (AM o a b):=fun A c ρ _ X R F q=>
 wpAny_BinOp (seq (.refl c) (hl A c ρ _ X R F q) fun c₁ _ _ s₁ _ r₁ q₁=>seq s₁ (hr A c₁ ρ _ X R (F.step s₁) q₁) fun _ _ _ s₂ t₂ r₂ q₂=>fin s₂ (S7 (r₁.step t₂) r₂ q₂))
theorem UW {pos} (h:EOk K L x a):EOk K L (.UnaryOp .USub x pos) (Rv a):=fun A c ρ _ X R F q=>
 wpAny_UnaryOp (seq (.refl c) (h A c ρ _ X R F q) fun c₁ _ _ s₁ _ r₁ q₁=>fin s₁ (by obtain ⟨_,e,q₁⟩:=O1 q₁;subst e;refine AU r₁ fun t ze1=>?_;subst ze1;exact PySem.P.neg_int (PV.plain Az q₁)))
theorem S5 {x:Expr} {a:Ex} {pos} (h:EOk K L x a):EOk K L (.UnaryOp .Not x pos) (U0 a):=fun A c ρ _ X R F q=>
 wpAny_UnaryOp (seq (.refl c) (h A c ρ _ X R F q) fun c₁ _ _ s₁ _ r₁ q₁=>not_value (Fa r₁ q₁ fun b tk q=>.mk (c₁.toks tk) _ (s₁.trans (Cf.keep_stp ⟨rfl,rfl⟩)) AW q))
theorem E0:LOk K L [] []:=fun _ c _ _ _ _ _ _ q=>wpAny_items_nil (.mk c [] (.refl c) trivial ⟨rfl,q⟩)
theorem Dh (hn:Au e) (he:EOk K L e a) (hes:LOk K L es as):LOk K L (e :: es) (a :: as):=fun A c ρ _ X pos R F q=>
 wpAny_items_cons (seq (.refl c) (he A c ρ _ X R F q) fun c₁ V _ s₁ _ r₁ q₁=>JR s₁ (hes A c₁ ρ _ X pos R (F.step s₁) q₁) fun c₂ Vs _ s₂ t₂ r₂ q₂=>.mk c₂ (V :: Vs) s₂ ⟨r₁.step t₂,r₂⟩ ⟨congrArg (· + 1) q₂.1,q₂.2⟩) (hn es L.env)
theorem TR {k pos} (h:LOk K L es as) (hz:es.length≤1000):EOk K L (.Tuple es k pos) (Ap as):=fun A c ρ _ X R F q=>
 wpAny_Tuple (JR (.refl c) (h A c ρ _ X pos R F q) fun c₁ _ _ s₁ _ r₁ q₁=>⟨BS (r₁.length▸q₁.1▸Nat.le_trans hz (by decide)),(PV.pushT r₁ q₁.2).lift s₁⟩)
theorem R9 {pos} (h:LOk K L es as) (hz:es.length≤1000):EOk K L (.List es pos) (Al as):=fun A c ρ _ X R F q=>
 wpAny_List (JR (.refl c) (h A c ρ _ X pos R F q) fun c₁ _ _ s₁ _ r₁ q₁=>⟨BS (r₁.length▸q₁.1▸Nat.le_trans hz (by decide)),(PV.pushL r₁ (q₁.1▸Nat.le_trans hz (by decide)) q₁.2).lift s₁⟩)
theorem Se (h:EOk K L e a):BOk K L [e] [a]:=fun A c ρ Q X _ _ R F q=>h A c ρ Q X R F q
set_option backward.match.sparseCases true in
theorem Ps {e e':Expr} {a a':Ex} {es:List Expr} {as:List Ex} (h:EOk K L e a) (hs:BOk K L (e' :: es) (a' :: as)):BOk K L (e :: e' :: es) (a :: a' :: as):=fun A c ρ Q X pos op R F q=>by
 show wpAny K.M A (do
  let v ← eval e L.env
  standAt pos
  let t ← holding [v] (truthy v)
  match op,t with
  | .And,false | .Or,true=>pure v
  | _,_=>boolOp pos op (evalEach (e' :: es) L.env)) _ _ c.s
 refine wpAny_bind (seq (.refl c) (h A c ρ _ X R F q) fun c₁ V v s₁ _ r₁ q₁=>wpAny_bind (wpAny_standAt (wpAny_bind (wpAny_holding (Fa r₁ q₁ fun b tk q₂=>?_)))))
 have s₂:Stp AQ c (c₁.toks tk):=s₁.trans (Cf.keep_stp ⟨rfl,rfl⟩)
 have go:∀ b',b=b'→(op == .And)=b'→wpAny K.M A (boolOp pos op (evalEach (e' :: es) L.env)) (PV c Q) (PX c X) (c₁.toks tk).s:=fun b' h1 h2=>fin s₂ (hs A (c₁.toks tk) ρ Q X pos op R (F.step s₂) (by have q₂:=Qi q₂;rw [if_pos (h1.trans h2.symm)] at q₂;exact q₂))
 have no:b ≠ (op == .And)→PV c Q v (c₁.toks tk).s:=fun hb=>.mk (c₁.toks tk) V s₂ r₁ (by have q₂:=Qi q₂;rw [if_neg hb] at q₂;exact q₂)
 cases op <;> cases b
 ·exact wpAny_pure (no nofun)
 ·exact go true rfl rfl
 ·exact go false rfl rfl
 ·exact wpAny_pure (no nofun)
theorem UQ {pos} (h:BOk K L es as):EOk K L (.BoolOp .And es pos) (KG true as):=fun A c ρ Q X R F q=>h A c ρ Q X pos .And R F q
theorem VS {pos} (h:BOk K L es as):EOk K L (.BoolOp .Or es pos) (KG false as):=fun A c ρ Q X R F q=>h A c ρ Q X pos .Or R F q
theorem Nx {α β:Type} {f:α→Option β} {a:α} {as:List α} {bs:List β} (h:Fw f (a :: as)=some bs):∃ b bs',f a=some b∧Fw f as=some bs'∧bs=b :: bs':=
 by refine AF (Option.bind_eq_some_iff.mp h) fun b h1 h2=>?_;exact AF (Option.map_eq_some_iff.mp h2) fun bs' h3 h4=>⟨b,bs',h1,h3,h4.symm⟩
inductive DataIs (h:Heap) (v:Value) (n:Nat) (d:PyData):Prop
 | mk (as:List Addr):Reads h v d as→d.depth≤n→DataIs h v n d
theorem Gv (hf:∀ V v dt,f V=some dt→Rel h φ V v→DataIs h v n dt)
  (Vs:List V):∀ (vs:List Value) (ds:List PyData),Fw f Vs=some ds→RelL h φ Vs vs→(∃ as,ReadsAll h vs ds as)∧PyData.depthAll ds≤n:=by
 induction Vs with
 | nil=>intro vs ds e r;cases vs with
  | nil=>exact Option.some.inj e▸⟨⟨_,.nil⟩,Nat.zero_le _⟩
  | cons _ _=>exact r.elim
 | cons V Vs ih=>intro vs ds e r;cases vs with
  | nil=>exact r.elim
  | cons v vs=>
   refine A3 (Nx e) fun b bs e1 e2 e3=>?_
   cases hf V v b e1 r.1 with
   | mk _ h1 d1=>
    have h2:=ih vs bs e2 r.2
    refine AU h2.1 fun _ h3=>?_
    exact e3▸⟨⟨_,.cons h1 h3⟩,Nat.max_le.mpr ⟨d1,h2.2⟩⟩
theorem M8 (e:O6 f o=some d):∃ vs ds,o=some (.list vs)∧Fw f vs=some ds∧PyData.list ds=d:=by
 cases o with
 | none=>exact absurd e.symm (Option.some_ne_none d)
 | some o=>cases o with
  | list vs=>refine AF (Option.map_eq_some_iff.mp e) fun ds e1 e2=>?_;exact ⟨vs,ds,rfl,e1,e2⟩
  | _=>exact absurd e.symm (Option.some_ne_none d)
theorem A2 {h₀:Bs} {c:Cf h₀} (n:Nat):∀ (V:V) (v:Value) (dt:PyData),toD c.σ n V=some dt→Rel c.s.heap c.φ V v→DataIs c.s.heap v n dt:=by
 induction n with
 | zero=>exact fun _ _ dt e _=>absurd e.symm (Option.some_ne_none dt)
 | succ n ih=>
  intro V v dt e r
  cases V with
  | undef=>exact r.elim
  | none=>exact Option.some.inj e▸r▸.mk _ .none (Nat.zero_le _)
  | bool _=>exact Option.some.inj e▸r▸.mk _ (.bool _) (Nat.zero_le _)
  | int _=>refine AU r fun _ r=>?_;exact Option.some.inj e▸r▸.mk _ (.int _ _) (Nat.zero_le _)
  | str _=>refine AU r fun _ r=>?_;exact Option.some.inj e▸r▸.mk _ (.str _ _) (Nat.zero_le _)
  | tup vs=>
   refine Ad r fun _ _ _ r g rl=>?_
   refine AF (Option.map_eq_some_iff.mp e) fun ds e1 e2=>?_
   have h:=Gv ih vs _ ds e1 rl
   refine AU h.1 fun _ ra=>?_
   exact e2▸r▸.mk _ (.tuple g rfl rfl ra) (Nat.succ_le_succ h.2)
  | ref k=>
   refine A3 (M8 e) fun vs ds ek e1 e2=>?_
   refine Ak (Cf.list ek r) fun _ _ _ ev _ g rl _=>?_
   have h:=Gv ih vs _ ds e1 rl
   refine AU h.1 fun _ ra=>?_
   exact e2▸ev▸.mk _ (.list g rfl rfl ra) (Nat.succ_le_succ h.2)
theorem ROk.u100 (R:ROk K up A):A.units + 100 < 9900:=Nat.lt_of_lt_of_le (Nat.add_lt_add_right (Nat.lt_of_le_of_lt (Nat.le_add_right _ _) R.units) 100) (by decide)
theorem L4 (R:ROk K up A) (h:n≤6):A.units + min n m < cLine:=
 Nat.lt_of_le_of_lt (Nat.add_le_add_left (Nat.le_trans (Nat.min_le_left _ _) h) _) (Nat.lt_of_lt_of_le (Nat.lt_of_le_of_lt (Nat.add_le_add_left (by decide) _) R.u100) (by decide))
theorem Eo (R:ROk K up A) (h:m≤6):A.units + 1 + min n m < cLine:=
 Nat.lt_of_le_of_lt (Nat.le_trans (Nat.add_le_add_left (Nat.le_trans (Nat.min_le_right _ _) h) _) (Nat.le_of_eq (Nat.add_assoc _ 1 6))) (Nat.lt_of_lt_of_le (Nat.lt_of_le_of_lt (Nat.add_le_add_left (by decide) _) R.u100) (by decide))
theorem KA:∀ {vs:List Value},RelL h φ (xs.map .int) vs→PyProof.Rows.IntsAre vs xs:=by
 induction xs with
 | nil=>intro vs r;cases vs with
  | nil=>exact .nil
  | cons _ _=>exact r.elim
 | cons x xs ih=>intro vs r;cases vs with
  | nil=>exact r.elim
  | cons v vs=>refine AU r.1 fun _ e=>?_;exact e▸.cons _ _ (ih r.2)
theorem Go (h:x=y):Ab (x :: a) (y :: b)=Ab a b:=if_pos h
theorem Jc (h:x ≠ y):Ab (x :: a) (y :: b)=decide (x < y):=if_neg h
theorem SJ {β:Type} {M:Model} {A:Around} {E:Value→Shared→Prop} {s:Shared} {body:Value × Value→β→Sem (ForInStep β)} {r₀:β} {R:β→Shared→Prop} {yes:Bool→β}
  (hb:∀ (p q:Int) (t u:Tok) (R':ForInStep β→Shared→Prop),(p=q→R' (.yield r₀) s)→(p ≠ q→R' (.done (yes (decide (p < q)))) s)→wpAny M A (body (.int p t,.int q u) r₀) R' E s)
  {a b:List Int} {vs us:List Value} (ha:PyProof.Rows.IntsAre vs a) (hb':PyProof.Rows.IntsAre us b) (h:Ab a b=decide (vs.length < us.length)→R r₀ s) (hy:R (yes (Ab a b)) s):wpAny M A (forIn (vs.zip us) r₀ body) R E s:=by
 induction ha generalizing b us with
 | nil=>cases hb' with
  | nil=>exact wpAny_pure (h rfl)
  | cons _ _ _=>exact wpAny_pure (h (decide_eq_true (Nat.zero_lt_succ _)).symm)
 | cons p t ha ih=>cases hb' with
  | nil=>exact wpAny_pure (h rfl)
  | cons q u hb'=>
   rw [List.zip_cons_cons,List.forIn_cons]
   refine wpAny_bind (hb p q t u _ (fun e=>?_) fun e=>?_)
   ·exact ih hb' (fun e'=>h ((Go e).trans (e'.trans (decide_eq_decide.mpr Nat.succ_lt_succ_iff.symm)))) (Go e▸hy)
   ·exact wpAny_pure (Jc e▸hy)
theorem Ug (gx:IsT s.heap a ix n) (gy:IsT s.heap c iy k) (rx:PyProof.Rows.IntsAre ix.toList xs) (ry:PyProof.Rows.IntsAre iy.toList ys) (h:P (.done (.ret (.bool (Ab xs ys)))) s):wpAny K.M A (Builtin.«tuple.__lt__» ⟨[.ref a,.ref c],[]⟩) P E s:=by
 show wpAny _ _ (isInstance (.ref c) (.type "tuple") >>= _) _ _ s
 refine wpAny_bind (wpAny_isInstance (T:="tuple") ⟨_,gy,rfl⟩ AutoSeq1.sub_tuple_tuple (wpAny_bind (wpAny_tupleItemsOf gx rfl (wpAny_bind (wpAny_tupleItemsOf gy rfl (wpAny_bind ?_))))))
 refine SJ (yes:=fun b=>(some (.done (.ret (.bool b))),())) (fun p q t u R' h1 h2=>wpAny_bind (wpAny_eqBool_int ?_)) rx ry (fun e=>wpAny_pure (e▸h :)) (wpAny_pure h)
 by_cases e:p=q
 ·rw [beq_iff_eq.mpr e];exact wpAny_pure (h1 e)
 ·rw [beq_eq_false_iff_ne.mpr e]
  exact wpAny_bind (wpAny_rule (wpAny_bind (PyProof.Rows.lt_int (wpAny_bind (wpAny_pure (wpAny_pure (h2 e)))))))
theorem Ik {up:List Env} {A:Around} {c:Cf K.h₀} {op:CmpOp} {V W:Mine.V} {v u:Value} {T:Bool→Prop} {P:Value→Shared→Prop} {E:Value→Shared→Prop} (R:ROk K up A) (r1:Rel c.s.heap c.φ V v) (r2:Rel c.s.heap c.φ W u) (q:My c.σ T op V W) (h:∀ b tk,T b→P (.bool b) { c.s with toks:=tk }) :
  wpAny K.M A (compareOp op v u) P E c.s:=by
 have h₀:∀ b,T b→P (.bool b) c.s:=fun b q=>h b c.s.toks q
 replace q:=Uk q
 cases q with
 | eq e1 e2 c1 c2 q=>exact (A2 6 _ _ _ e1 r1).casesOn fun _ ra da=>(A2 6 _ _ _ e2 r2).casesOn fun _ rb _=>SeqAt.compareEq_reads ra rb c1 c2 (L4 R da) (h₀ _ q)
 | ne e1 e2 c1 c2 q=>exact (A2 6 _ _ _ e1 r1).casesOn fun _ ra da=>(A2 6 _ _ _ e2 r2).casesOn fun _ rb _=>SeqAt.compareNe_reads ra rb c1 c2 (L4 R da) (h₀ _ q)
 | inL e1 e2 c1 c2 q=>exact (A2 6 _ _ _ e1 r1).casesOn fun _ ra da=>(A2 6 _ _ _ e2 r2).casesOn fun _ rb _=>SeqAt.in_list_reads rb ra c2 c1 (Eo R da) (h₀ _ q)
 | ninL e1 e2 c1 c2 q=>exact (A2 6 _ _ _ e1 r1).casesOn fun _ ra da=>(A2 6 _ _ _ e2 r2).casesOn fun _ rb _=>SeqAt.notIn_list_reads rb ra c2 c1 (Eo R da) (h₀ _ q)
 | inT e1 e2 c1 c2 q=>exact (A2 6 _ _ _ e1 r1).casesOn fun _ ra da=>(A2 6 _ _ _ e2 r2).casesOn fun _ rb _=>SeqAt.in_tuple_reads rb ra c2 c1 (Eo R da) (h₀ _ q)
 | ninT e1 e2 c1 c2 q=>exact (A2 6 _ _ _ e1 r1).casesOn fun _ ra da=>(A2 6 _ _ _ e2 r2).casesOn fun _ rb _=>SeqAt.notIn_tuple_reads rb ra c2 c1 (Eo R da) (h₀ _ q)
 | lt q=>refine AU r1 fun t ze1=>?_;subst ze1;refine AU r2 fun t' ze1=>?_;subst ze1;exact PyProof.Rows.lt_int (h₀ _ q)
 | le q=>refine AU r1 fun t ze1=>?_;subst ze1;refine AU r2 fun t' ze1=>?_;subst ze1;exact PySem.P.le_int (h₀ _ q)
 | gt q=>refine AU r1 fun t ze1=>?_;subst ze1;refine AU r2 fun t' ze1=>?_;subst ze1;exact PyProof.Rows.gt_int (h₀ _ q)
 | ge q=>refine AU r1 fun t ze1=>?_;subst ze1;refine AU r2 fun t' ze1=>?_;subst ze1;exact PySem.P.ge_int (h₀ _ q)
 | ltT q=>
  refine Ad r1 fun a ix n ze1 gx rx=>?_;subst ze1
  refine Ad r2 fun b iy k ze1 gy ry=>?_;subst ze1
  exact wpAny_richCompare_same_room (op:=.Lt) (T:="tuple") ⟨_,gx,rfl⟩ ⟨_,gy,rfl⟩ F.slot_tuple_lt (wpAny_call_entry F.slot_tuple_lt ⟨_,gx,rfl⟩ F.entry_tuple_lt (Ug gx gy (KA rx) (KA ry) ⟨_,rfl,by simp,h₀ _ q⟩) (F.args_tuple_lt_2 _ _))
   (Nat.lt_of_lt_of_le (Nat.lt_of_le_of_lt (Nat.le_add_right _ 100) R.u100) (by decide))
 | inD e q=>
  apply Cf.dictE e r2;intro a us _ D P _ hs
  apply Dr r1;intro t
  exact wpAny_in_of (strKind_is _ _ _ t) hs D.dictOf.mapOf (by rw [P.at.2];exact h _ _ q)
 | ninD e q=>
  apply Cf.dictE e r2;intro a us _ D P _ hs
  apply Dr r1;intro t
  exact wpAny_notIn_of (strKind_is _ _ _ t) hs D.dictOf.mapOf (by rw [P.at.2];exact h _ _ q)
 | inS q=>
  apply Dr r1;intro t
  apply Dr r2;intro u
  exact PySem.P.in_str (by rw [show Ec _=(⟨#[_]⟩:Str) from rfl,PySem.StrLaws.found_one];exact h₀ _ q)
 | is q=>cases r2;exact is_none (rel_isNone r1▸h₀ _ q)
 | isnot q=>cases r2;exact isNot_none (rel_isNone r1▸h₀ _ q)
where
 rel_isNone {h:Heap} {φ:List Addr} {V:Mine.V} {v:Value} (r:Rel h φ V v):isNone V=(v == .none):=by
  cases V with
  | undef=>exact r.elim
  | none=>exact congrArg (· == Value.none) r.symm
  | bool _=>exact congrArg (· == Value.none) r.symm
  | int _=>exact r.elim fun _ r=>congrArg (· == Value.none) r.symm
  | str _=>exact r.elim fun _ r=>congrArg (· == Value.none) r.symm
  | tup _=>exact EF r fun _ _ _ r _=>congrArg (· == Value.none) r.symm
  | ref _=>exact AF r fun _ r _=>congrArg (· == Value.none) r.symm
theorem Q4 {op:CmpOp} {e:Expr} {a:Ex} (h:EOk K L e a):COk K L [op] [e] [a]:=fun A c ρ Q X pos V v R F r q=>by
 constructor
 ·show wpAny K.M A (do
   let rv ← holding [v] (eval e L.env)
   standAt pos
   operate [v,rv] (compareOp op v rv)) _ _ c.s
  exact wpAny_bind (wpAny_holding (seq (.refl c) (h A c ρ _ X R F q) fun c₁ _ _ s₁ _ r₁ q₁=>wpAny_bind (wpAny_standAt (PyProof.Rows.wpAny_operate' (Ik R (r.step s₁) r₁ q₁ fun b tk q=>⟨b,rfl,.mk (c₁.toks tk) (s₁.trans (Cf.keep_stp ⟨rfl,rfl⟩)) q⟩)))))
 ·show wpAny K.M A (do
   let rv ← holding [v] (eval e L.env)
   standAt pos
   let x ← operate [v,rv] (compareOp op v rv)
   holding [x] (truthy x)) _ _ c.s
  exact wpAny_bind (wpAny_holding (seq (.refl c) (h A c ρ _ X R F q) fun c₁ _ _ s₁ _ r₁ q₁=>wpAny_bind (wpAny_standAt (wpAny_bind (PyProof.Rows.wpAny_operate' (Ik R (r.step s₁) r₁ q₁ fun b tk q=>wpAny_holding (wpAny_truthy_bool (.mk (c₁.toks tk) (s₁.trans (Cf.keep_stp ⟨rfl,rfl⟩)) q))))))))
theorem Pg {op op':CmpOp} {ops:List CmpOp} {e e':Expr} {es:List Expr} {a a':Ex} {as:List Ex} (h:EOk K L e a) (hs:COk K L (op' :: ops) (e' :: es) (a' :: as)):COk K L (op :: op' :: ops) (e :: e' :: es) (a :: a' :: as):=fun A c ρ Q X pos V v R F r q=>by
 constructor
 ·show wpAny K.M A (do
   let rv ← holding [v] (eval e L.env)
   standAt pos
   let x ← holding [v,rv] (compareOp op v rv)
   release [v,rv] [x]
   if ← holding [x,rv] (truthy x) then compareChain pos rv (op' :: ops) (evalEach (e' :: es) L.env) else pure x) _ _ c.s
  refine wpAny_bind (wpAny_holding (seq (.refl c) (h A c ρ _ X R F q) fun c₁ W u s₁ _ r₁ q₁=>?_))
  refine wpAny_bind (wpAny_standAt (wpAny_bind (wpAny_holding (Ik R (r.step s₁) r₁ q₁ fun b tk q=>?_))))
  have s₂:Stp AQ c (c₁.toks tk):=s₁.trans (Cf.keep_stp ⟨rfl,rfl⟩)
  refine wpAny_bind (PyProof.Rows.wpAny_release' (wpAny_bind (wpAny_holding (wpAny_truthy_bool ?_))))
  cases b with
  | false=>exact wpAny_pure ⟨false,rfl,.mk (c₁.toks tk) s₂ q⟩
  | true=>exact wpAny_mono (hs A (c₁.toks tk) ρ Q X pos W u R (F.step s₂) r₁ q).1 (fun _ _ ⟨b,e,z⟩=>⟨b,e,z.lift s₂⟩) fun _ _ z=>z.lift s₂
 ·show wpAny K.M A (do
   let rv ← holding [v] (eval e L.env)
   standAt pos
   let x ← holding [v,rv] (compareOp op v rv)
   release [v,rv] [x]
   if ← holding [x,rv] (truthy x) then testChain pos rv (op' :: ops) (evalEach (e' :: es) L.env) else pure false) _ _ c.s
  refine wpAny_bind (wpAny_holding (seq (.refl c) (h A c ρ _ X R F q) fun c₁ W u s₁ _ r₁ q₁=>?_))
  refine wpAny_bind (wpAny_standAt (wpAny_bind (wpAny_holding (Ik R (r.step s₁) r₁ q₁ fun b tk q=>?_))))
  have s₂:Stp AQ c (c₁.toks tk):=s₁.trans (Cf.keep_stp ⟨rfl,rfl⟩)
  refine wpAny_bind (PyProof.Rows.wpAny_release' (wpAny_bind (wpAny_holding (wpAny_truthy_bool ?_))))
  cases b with
  | false=>exact wpAny_pure (.mk (c₁.toks tk) s₂ q)
  | true=>exact QW s₂ (hs A (c₁.toks tk) ρ Q X pos W u R (F.step s₂) r₁ q).2
theorem Ub {pos} (hm:lastMarks ops es=false) (h:EOk K L l a) (hs:COk K L ops es as):EOk K L (.Compare l ops es pos) (xOf (AY a ops as)):=fun A c ρ _ X R F q=>by
 rw [arm_eval_Compare,PyProof.Rows.markedEach_of_false _ _ _ hm]
 exact wpAny_bind (seq (.refl c) (h A c ρ _ X R F q) fun c₁ V v s₁ _ r₁ q₁=>wpAny_mono (hs A c₁ ρ _ X pos V v R (F.step s₁) r₁ q₁).1 (fun _ _ ⟨_,e,z⟩=>z.casesOn fun c₂ s₂ q₂=>e▸.mk c₂ _ (s₁.trans s₂) AW q₂) fun _ _ z=>z.lift s₁)
theorem R0 {pos} (hm:lastMarks ops es=false) (h:EOk K L l a) (hs:COk K L ops es as):TOk K L (.Compare l ops es pos) (AY a ops as):=fun A c ρ _ X R F q=>by
 rw [arm_isTrue_Compare,PyProof.Rows.markedEach_of_false _ _ _ hm]
 exact wpAny_bind (seq (.refl c) (h A c ρ _ X R F q) fun c₁ V v s₁ _ r₁ q₁=>QW s₁ (hs A c₁ ρ _ X pos V v R (F.step s₁) r₁ q₁).2)
theorem SK {pos} (h:TOk K L x t):TOk K L (.UnaryOp .Not x pos) (DE t):=fun A c ρ _ X R F q=>by
 rw [arm_isTrue_UnaryOp]
 exact wpAny_bind (Pn (.refl c) (h A c ρ _ X R F q) fun c₁ _ s₁ _ q₁=>wpAny_pure (.mk c₁ s₁ q₁))
theorem SV {pos} (h:AOk K L es ts):TOk K L (.BoolOp .And es pos) (EH ts):=fun A c ρ Q X R F q=>(h A c ρ Q X R F).1 q
theorem TJ {pos} (h:AOk K L es ts):TOk K L (.BoolOp .Or es pos) (tOr ts):=fun A c ρ Q X R F q=>(h A c ρ Q X R F).2 q
theorem SX {e:Expr} {a:Ex} (he:∀ env whole,isTrue e env whole=(do let v ← whole;standAt e.pos;holding [v] (truthy v))) (h:EOk K L e a):TOk K L e (By a):=fun A c ρ _ X R F q=>by
 rw [he]
 exact wpAny_bind (seq (.refl c) (h A c ρ _ X R F q) fun c₁ _ _ s₁ _ r₁ q₁=>wpAny_bind (wpAny_standAt (wpAny_holding (Fa r₁ q₁ fun _ tk q=>.mk (c₁.toks tk) (s₁.trans (Cf.keep_stp ⟨rfl,rfl⟩)) q))))
theorem RU:AOk K L [] []:=fun _ c _ _ _ _ _=>⟨fun q=>wpAny_pure (.mk c (.refl c) q),fun q=>wpAny_pure (.mk c (.refl c) q)⟩
theorem ON (h:TOk K L e t) (hs:AOk K L es ts):AOk K L (e :: es) (t :: ts):=fun A c ρ Q X R F=>by
 rw [arm_allTrue_cons,arm_allTrue_cons]
 refine ⟨fun q=>wpAny_bind (Pn (.refl c) (h A c ρ _ X R F q) fun c₁ b s₁ _ q₁=>?_),fun q=>wpAny_bind (Pn (.refl c) (h A c ρ _ X R F q) fun c₁ b s₁ _ q₁=>?_)⟩
 ·cases b with
  | false=>exact wpAny_pure (.mk c₁ s₁ q₁)
  | true=>exact QW s₁ ((hs A c₁ ρ Q X R (F.step s₁)).1 q₁)
 ·cases b with
  | true=>exact wpAny_pure (.mk c₁ s₁ q₁)
  | false=>exact QW s₁ ((hs A c₁ ρ Q X R (F.step s₁)).2 q₁)
theorem OU:Idx k n j→seqIndex? k n=some j∧j < n
 | .inl ⟨e,h⟩=>⟨by subst e;unfold seqIndex?;simp only [if_neg (Int.not_lt.mpr (Int.natCast_nonneg j))];rw [if_pos (by simp [h])];rfl,h⟩
 | .inr ⟨e,h⟩=>have hj:j < n:=Int.ofNat_lt.mp (e▸Int.add_lt_of_lt_sub_right (Int.sub_self _▸h))
  ⟨by unfold seqIndex?;simp only [if_pos h];rw [if_pos (by simp;exact ⟨ai3 .le .n0 (.a .v0 .v1) (.p (.a .v0 .v1) .v2 (.l .n0 .v2 .e)) rfl e (Int.natCast_nonneg _),ai2 .lt (.a .v0 .v1) .v1 (.t .v0 .n0 .e) rfl h⟩),e];rfl,hj⟩
theorem Ji (h:CU i=true):-(2 ^ 63)≤i:=of_decide_eq_true (Bool.and_eq_true_iff.mp h).1
theorem JZ (h:CU i=true):i < 2 ^ 63:=of_decide_eq_true (Bool.and_eq_true_iff.mp h).2
theorem T4 {A:Around} {c:Cf K.h₀} {Q:AO} {E:Value→Shared→Prop} {value slice:Expr} {V W:Mine.V} {a i:Value} (ra:Rel c.s.heap c.φ V a) (ri:Rel c.s.heap c.φ W i) (hs:F6 slice) (q:TT c.σ Q W V):wpAny K.M A (PyProof.Rows.subscriptTail value slice a i) (PV c Q) E c.s:=by
 replace q:=UX q
 cases q with
 | tup hk hi e q=>
  refine Ad ra fun t items n ze1 g rl=>?_;subst ze1
  apply Dr ri;intro u
  refine AF (rl.get e) fun y ey ry=>?_
  exact PyProof.Rows.item_tupleT (l:=items.toList) ⟨_,g,rfl,n,rfl⟩ (Ji hk) (JZ hk) (rl.length▸(OU hi).1) ey (PV.same ry q) (hs _ _)
 | list em hi e q=>
  apply Cf.listE em ra;intro l items n _ g rl z
  apply Dr ri;intro u
  refine AF (rl.get e) fun y ey ry=>?_
  refine PyProof.Rows.tail_any (T:="list") ⟨_,g,rfl⟩ slot_list_getitem.lookup ?_ (hs _ _)
  rw [Array.getElem?_toList] at ey
  rcases hi with ⟨rfl,hj⟩ | ⟨hj,hk⟩
  ·exact wpAny_getItem_list g.isList (Int.natCast_nonneg _) (Int.ofNat_lt.mpr (Nat.lt_of_lt_of_le hj (Nat.le_trans z (by decide)))) ey (PV.same ry q)
  ·rw [← rl.size] at hj
   have z':items.size≤16000000:=rl.size▸z
   have hk':=ai3 .le (.g .v0) .v1 (.p (.a .v1 .v0) .v2 (.l .n0 .v2 .e)) rfl hj (Int.natCast_nonneg _)
   exact wpAny_getItem_list_neg g.isList hk hk' (Int.le_trans (Int.le_trans (by decide) (Int.neg_le_neg (Int.ofNat_le.mpr z'))) hk') (hj▸ey) (PV.same ry q)
 | str hk hi e q=>
  apply Dr ra;intro t
  apply Dr ri;intro u
  refine PyProof.Rows.tail_any (T:="str") (typeIs_str _ _ _) F.slot_str_getitem.lookup ?_ (hs _ _)
  exact PySem.P.getItem_str (by rw [decide_eq_false (Int.not_lt.mpr (Ji hk)),decide_eq_false (Int.not_le.mpr (JZ hk))];rfl) (by rw [(OU hi).1];exact e) (PV.plain Bo q)
 | dict em e q=>
  apply Cf.dictE em ra;intro a us _ D P _ _
  apply Dr ri;intro t
  refine AF (P.at.1 _ e) fun v ev rv=>?_
  exact PyProof.Rows.tail_any (T:="dict") D.dictOf.typeIs slot_dict_getitem.lookup (wpAny_getItem_of (strKind_is _ _ _ t) D.dictOf.mapOf ev (PV.plain rv q)) (hs _ _)
theorem UJ {pos} (hs:F6 r) (hl:EOk K L l a) (hr:EOk K L r b):EOk K L (.Subscript l r pos) (AJ a b):=fun A c ρ _ X R F q=>
 PyProof.Rows.Subscript_ (seq (.refl c) (hl A c ρ _ X R F q) fun c₁ _ _ s₁ _ r₁ q₁=>seq s₁ (hr A c₁ ρ _ X R (F.step s₁) q₁) fun _ _ _ s₂ t₂ r₂ q₂=>fin s₂ (T4 (r₁.step t₂) r₂ hs q₂))
end
end Mine
namespace Mine
open PySem PySem.Calls
theorem Dw:∀ (xs:List Str) (vs:List Value) (T:List (Str × Value)),xs.Nodup→xs.length=vs.length→(∀ n ∈ xs,T.lookup n=(xs.zip vs).lookup n)→xs.filterMap (fun n=>(T.lookup n).map (n,·))=xs.zip vs
 | [],_,_,_,_,_=>by rw [List.zip_nil_left];rfl
 | x :: xs,v :: vs,T,hnd,hl,hT=>by
  have hx:=List.nodup_cons.mp hnd
  have h1:T.lookup x=some v:=(hT x List.mem_cons_self).trans (by rw [List.zip_cons_cons,List.lookup_cons,beq_self_eq_true])
  rw [List.filterMap_cons,h1]
  refine congrArg _ (Dw xs vs T hx.2 (Nat.succ.inj hl) fun n hn=>(hT n (List.mem_cons_of_mem _ hn)).trans ?_)
  rw [List.zip_cons_cons,List.lookup_cons,beq_eq_false_iff_ne.mpr (show n ≠ x from fun e=>hx.1 (e▸hn))]
theorem Dc:∀ {names:List Str} {vals:List Value},names.length=vals.length→∀ n ∈ names,((names.zip vals).lookup n).isNone=false
 | x :: xs,v :: vs,hl,n,hn=>by
  rw [List.zip_cons_cons,List.lookup_cons]
  cases h:n == x with
  | true=>rfl
  | false=>exact Dc (Nat.succ.inj hl) n ((List.mem_cons.mp hn).resolve_left fun e=>by rw [e,beq_self_eq_true] at h;cases h)
theorem K8 {names:List Str} {vals:List Value} {k:Nat} (h:names.length=vals.length):(names.take k).filter (fun n=>((names.zip vals).lookup n).isNone)=[]:=
 List.filter_eq_nil_iff.mpr fun n hn=>Bool.eq_false_iff.mp (Dc h n (List.mem_of_mem_take hn))
theorem KP {names:List Str} {vals:List Value} {k:Nat} (h:names.length=vals.length):¬ (!((names.take k).filter (fun n=>((names.zip vals).lookup n).isNone)).isEmpty)=true:=by rw [K8 h];exact nofun
theorem D0 {vals:List Value} (hp:fd.params=⟨[],args,none,[],[],none,[]⟩) (hd:fd.defaults=.none)
  (hlen:(args.map (·.arg)).length=vals.length) (hnd:(args.map (·.arg)).Nodup):bindArgs fd ⟨vals,[]⟩=pure ((args.map (·.arg)).zip vals):=by
 obtain ⟨_,_,params⟩:=fd
 dsimp only at hp hd
 subst hp hd
 have e:((args.map Arg.arg) ++ []).filterMap (fun n=>(((args.map Arg.arg).zip vals).lookup n).map (n,·))=(args.map Arg.arg).zip vals:=(congrArg _ (List.append_nil _)).trans (Dw (args.map Arg.arg) vals _ hnd hlen fun _ _=>rfl)
 refine Eq.trans (if_neg ?_) (Eq.trans (if_neg ?_) ?_)
 ·exact fun h=>Nat.not_lt.mpr (Nat.le_of_eq hlen.symm) (of_decide_eq_true (Bool.and_eq_true_iff.mp h).1)
 ·exact KP hlen
 ·refine Eq.trans (congrArg (fun l=>forIn (m:=Sem) l _ _ >>= _) (show List.zip (List.drop _ (args.map (·.arg))) (List.drop _ ([]:List Value))=[] from ?_)) ?_
  ·rw [List.drop_nil,List.zip_nil_right]
  ·exact congrArg (pure (f:=Sem)) e
theorem DZ {h:Heap} {a b:Addr} {m:Str→Option Value} {ov:Option Value} (n:h.Ns a m) (x:h.IsCell b ov):b ≠ a:=fun e=>by
 refine DP (CT n) fun o e1 es ep d=>?_
 refine AF x fun o' e' d'=>?_
 rw [e,e1] at e';cases e';cases d.symm.trans d'
theorem Ek {α:Type} {l:List α} {i j:Nat} {x:α} (h:i ≠ j):(l.set i x)[j]?=l[j]?:=List.getElem?_set_ne h
theorem CZ {α:Type} {l:List α} {i:Nat} {x y:α} (h:(l.set i x)[i]?=some y):x=y:=by
 rw [List.getElem?_set,if_pos rfl] at h
 split at h
 ·exact Option.some.inj h
 ·cases h
theorem SlotIs.other {V:V} (x:SlotIs c ρ j ov) (h:i ≠ j):SlotIs c (ρ.set i V) j ov:=fun W hW hne=>x W (Ek h▸hW) hne
theorem SlotIs.this {h₀:Bs} {c:Cf h₀} {ρ:List V} {i:Nat} {V:V} {v:Value} (r:Rel c.s.heap c.φ V v):SlotIs c (ρ.set i V) i (some v):=fun _ hW _=>⟨v,rfl,CZ hW▸r⟩
section
variable {K:Ctx} {L:Loc} {A:Around} {c:Cf K.h₀} {ρ:List V} {E:Value→Shared→Prop}
theorem D4 {V:V} (F:Fr c L ρ) (hx:L.vs.lookup x=some i) (hk:L.env.kindOf x=some .local) (r:Rel c.s.heap c.φ V v)
  (h:∀ c':Cf K.h₀,c'.φ=c.φ→c'.σ=c.σ→Stp (·=L.env.locals) c c'→Fr c' L (ρ.set i V)→Q () c'.s):wpAny K.M A (storeName L.env x v) Q E c.s:=by
 cases F.ns with
 | mk m n rn=>
 refine wpAny_storeName_local hk n (fun h' hn hs=>?_) (by rw [F.fn];rfl)
 have ho:∀ a,a=L.env.locals→A6 c.s.heap a∧a ∉ c.φ∧K.h₀.get? a=none:=fun a e=>e▸⟨Ce n,F.locOut,F.locNew⟩
 have kk:∀ b o,¬ b=L.env.locals→c.s.heap.get? b=some o→h'.get? b=some o:=fun b o hb e=>(hs.2 b hb).trans e
 have st:Stp (·=L.env.locals) c (c.keepOwn { c.s with heap:=h',toks:=c.s.toks + 1 } kk ho):=Cf.keepOwn_stp ⟨rfl,rfl⟩ fun b _ e _=>e▸let ⟨o,e',_⟩:=CT hn;⟨o,e'⟩
 have ht:∀ a,a=L.env.locals→A6 c.s.heap a:=fun a e=>(ho a e).1
 have ij:∀ {y j},L.vs.lookup y=some j→y ≠ x→i ≠ j:=fun hy ne e=>ne (F.inj _ x i (e▸hy) hx)
 refine h (c.keepOwn _ kk ho) rfl rfl st ⟨F.fn,F.glob,F.blt,F.locNew,F.locOut,F.inj,.mk _ hn fun y j hy hky=>?_,fun y j hy hky=>?_,F.cellInj,fun e m'=>?_⟩
 ·by_cases hyx:y=x
  ·subst hyx
   cases hx.symm.trans hy
   rw [if_pos rfl];exact SlotIs.this (r.own st.toWStp ht)
  ·rw [if_neg hyx];exact ((rn y j hy hky).own st.toWStp ht).other (ij hy hyx)
 ·cases F.cell y j hy hky with
  | mk a ov e1 e2 e3 ic rc=>
  refine .mk a ov e1 e2 e3 (Hq ic fun o e=>kk a o (DZ n ic) e) ((rc.own st.toWStp ht).other (ij hy ?_))
  rintro rfl
  rw [hk] at hky;refine Or.elim hky (fun q=>?_) (fun q=>?_) <;> cases q
 ·refine Cd (F.up e m') fun k f m₁ f1 f2 f3 n₁=>?_
  by_cases hf:f=L.env.locals
  ·exact ⟨k,f,_,f1,f2,f3,hf▸hn⟩
  ·exact ⟨k,f,m₁,f1,f2,f3,Il n₁ fun o e=>kk f o hf e⟩
theorem Kn {V:V} (F:Fr c L ρ) (hx:L.vs.lookup x=some i) (hk:L.env.kindOf x=some .cell) (r:Rel c.s.heap c.φ V v)
  (h:∀ c':Cf K.h₀,c'.φ=c.φ→c'.σ=c.σ→Stp L.own c c'→Fr c' L (ρ.set i V)→Q () c'.s):wpAny K.M A (storeName L.env x v) Q E c.s:=by
 cases F.ns with
 | mk m n rn=>
 cases F.cell x i hx (.inl hk) with
 | mk a ov e1 e2 e3 ic rc=>
 refine wpAny_storeName_cell F.fn hk e1 ic fun h' ic' hs=>?_
 have ho:∀ b,b=a→A6 c.s.heap b∧b ∉ c.φ∧K.h₀.get? b=none:=fun b e=>e▸⟨GU ic,e2,e3⟩
 have kk:∀ b o,¬ b=a→c.s.heap.get? b=some o→h'.get? b=some o:=fun b o hb e=>(hs.2 b hb).trans e
 have st:Stp (·=a) c (c.keepOwn { c.s with heap:=h' } kk ho):=Cf.keepOwn_stp ⟨rfl,rfl⟩ fun b _ e _=>e▸let ⟨o,e',_⟩:=ic';⟨o,e'⟩
 have ht:∀ b,b=a→A6 c.s.heap b:=fun b e=>(ho b e).1
 have ij:∀ {y j},L.vs.lookup y=some j→y ≠ x→i ≠ j:=fun hy ne e=>ne (F.inj _ x i (e▸hy) hx)
 refine h (c.keepOwn _ kk ho) rfl rfl (st.wider fun b e=>.inr ⟨x,i,hx,hk,e▸e1⟩) ⟨F.fn,F.glob,F.blt,F.locNew,F.locOut,F.inj,.mk m (Il n fun o e=>kk _ o (Ne.symm (DZ n ic)) e) fun y j hy hky=>?_,fun y j hy hky=>?_,F.cellInj,fun e m'=>?_⟩
 ·refine ((rn y j hy hky).own st.toWStp ht).other (ij hy ?_)
  rintro rfl
  rw [hk] at hky;cases hky
 ·by_cases hyx:y=x
  ·subst hyx
   cases hx.symm.trans hy
   exact .mk a (some v) e1 e2 e3 ic' (SlotIs.this (r.own st.toWStp ht))
  ·cases F.cell y j hy hky with
   | mk b ov' f1 f2 f3 ic2 rc2=>
   exact .mk b ov' f1 f2 f3 (Hq ic2 fun o e=>kk b o (fun e=>hyx (F.cellInj y x j i a hy hx (e▸f1) e1)) e) ((rc2.own st.toWStp ht).other (ij hy hyx))
 ·refine Cd (F.up e m') fun k f m₁ f1 f2 f3 n₁=>?_
  exact ⟨k,f,m₁,f1,f2,f3,Il n₁ fun o e=>kk f o (Ne.symm (DZ n₁ ic)) e⟩
theorem JW {V:V} (F:Fr c L ρ) (hx:L.vs.lookup x=some i) (hk:L.env.kindOf x=some .local∨L.env.kindOf x=some .cell) (r:Rel c.s.heap c.φ V v)
  (h:∀ c':Cf K.h₀,c'.φ=c.φ→c'.σ=c.σ→Stp L.own c c'→Fr c' L (ρ.set i V)→Q () c'.s):wpAny K.M A (storeName L.env x v) Q E c.s:=
 hk.elim (fun hk=>D4 F hx hk r fun c' e1 e2 st F'=>h c' e1 e2 (st.wider fun _ e=>.inl e) F') fun hk=>Kn F hx hk r h
inductive CNames (L:Loc):List Expr→List Nat→Prop
 | nil:CNames L [] []
 | cons {x:Str} {i:Nat} {p:Pos} {es:List Expr} {is:List Nat}:L.vs.lookup x=some i→L.env.kindOf x=some .local∨L.env.kindOf x=some .cell→CNames L es is→CNames L (.Name x p :: es) (i :: is)
inductive CPat (L:Loc):Expr→Pat→Prop
 | name {x:Str} {i:Nat} {p:Pos}:L.vs.lookup x=some i→L.env.kindOf x=some .local∨L.env.kindOf x=some .cell→CPat L (.Name x p) (.var i)
 | tup {es:List Expr} {is:List Nat} {k:Nat} {p:Pos}:CNames L es is→CPat L (.Tuple es k p) (.tup is)
theorem CNames.len (h:CNames L es is):(assignEach es L.env).length=is.length:=by
 induction h with
 | nil=>rfl
 | cons _ _ _ ih=>exact congrArg (· + 1) ih
theorem CNames.noStar (h:CNames L es is):(assignEach es L.env).findIdx? (·.1)=none:=by
 induction h with
 | nil=>rfl
 | cons _ _ _ ih=>
  show ((false,_) :: assignEach _ L.env).findIdx? _=none
  rw [List.findIdx?_cons,ih];rfl
theorem QV (h:CNames L es is):∀ {c:Cf K.h₀} {ρ Vs:List V} {us:List Value} {Q:Unit→Shared→Prop},Fr c L ρ→RelL c.s.heap c.φ Vs us→is.length=Vs.length →
  (∀ c':Cf K.h₀,c'.φ=c.φ→c'.σ=c.σ→Stp L.own c c'→Fr c' L (Fe is Vs ρ)→Q () c'.s)→wpAny K.M A (assignInOrder ((assignEach es L.env).map (·.2)) us) Q E c.s:=by
 induction h with
 | nil=>
  intro c ρ Vs us Q F r hl hQ
  cases List.length_eq_zero_iff.mp hl.symm
  exact wpAny_pure (hQ c rfl rfl (.refl c) F)
 | @cons x i p es is hx hk _ ih=>
  intro c ρ Vs us Q F r hl hQ
  match Vs,us,r with
  | [],_,_=>cases hl
  | V :: Vs,u :: us,r=>
   show wpAny K.M A (do holding us (assign (.Name x p) L.env u);assignInOrder ((assignEach es L.env).map (·.2)) us) Q E c.s
   exact wpAny_bind (wpAny_holding (wpAny_assign_Name (JW F hx hk r.1 fun c₁ e1 e2 st F₁=>ih F₁ (r.2.own st.toWStp fun _ m=>F.noTup m) (Nat.succ.inj hl) fun c₂ f1 f2 st₂ F₂=>hQ c₂ (f1.trans e1) (f2.trans e2) (st.trans st₂) F₂)))
theorem HU (h:CPat L t p) {V:V} (hh:A.handled=none) (F:Fr c L ρ) (r:Rel c.s.heap c.φ V v) (e:J9 c.σ T ρ V p)
  (hQ:∀ (c':Cf K.h₀) (ρ':List Mine.V),c'.φ=c.φ→c'.σ=c.σ→Stp L.own c c'→Fr c' L ρ'→T ρ'→Q () c'.s):wpAny K.M A (assign t L.env v) Q E c.s:=by
 have kx:∀ {h':Heap} {m:Nat},(∀ b o,b ≠ m→c.s.heap.get? b=some o→h'.get? b=some o)→c.s.heap.objs.size≤m→∀ b o,c.s.heap.get? b=some o→h'.get? b=some o:=fun kx hm b o e=>kx b o (Nat.ne_of_lt (Nat.lt_of_lt_of_le (Heap.lt_size e) hm)) e
 have go:∀ {es:List Expr} {is:List Nat} {Vs:List Mine.V} {us:List Value} {h':Heap},CNames L es is→RelL c.s.heap c.φ Vs us→is.length=Vs.length→T (Fe is Vs ρ)→(∀ b o,c.s.heap.get? b=some o→h'.get? b=some o) →
   wpAny K.M A (assignInOrder ((assignEach es L.env).map (·.2)) us) Q E { c.s with heap:=h' }:=fun hn rl hl q k=>
  have st:Stp AQ c (c.keep { c.s with heap:=_ } k):=Cf.keep_stp ⟨rfl,rfl⟩
  QV (c:=c.keep { c.s with heap:=_ } k) hn (F.step st) (rl.step st) hl fun c' e1 e2 st₂ F₂=>hQ c' _ e1 e2 (st.any.trans st₂) F₂ q
 cases h with
 | name hx hk=>exact wpAny_assign_Name (JW F hx hk r fun c' e1 e2 st F'=>hQ c' _ e1 e2 st F' e)
 | @tup es is k p hn=>
  replace e:=Q6 e
  cases e with
  | tup hl q=>
   refine Ad r fun a items n ze1 g rl=>?_;subst ze1
   exact wpAny_assign_Tuple hh ⟨_,g,rfl,n,rfl⟩ (by rw [hn.len,hl,rl.size]) hn.noStar fun h' k'=>go hn rl hl q (kx k' (Nat.le_refl _))
  | list ek hl q=>
   apply Cf.listE ek r;intro a items z ea g rl _
   rw [PyProof.Rows.assign_Tuple]
   refine wpAny_bind (wpAny_standAt ?_)
   unfold unpack
   rw [show (assignEach es L.env).length=items.size by rw [hn.len,hl,rl.size],hn.noStar]
   exact wpAny_bind (wpAny_holding (PySem.W.kun_itemsOf hh g.isList fun h' k'=>go hn rl hl q (kx k' (Nat.le_refl _))))
end
end Mine
namespace Mine
open PySem PySem.Calls
set_option genSizeOf false
set_option genInjectivity false
section
variable {K:Ctx}
inductive PF (c:Cf K.h₀) (L:Loc) (Q:BR):Flow→Shared→Prop
 | next (c':Cf K.h₀) (ρ':List V):Stp L.own c c'→Fr c' L ρ'→Q .next ρ' c'.σ→PF c L Q .next c'.s
 | brk (c':Cf K.h₀) (ρ':List V):Stp L.own c c'→Fr c' L ρ'→Q .brk ρ' c'.σ→PF c L Q .brk c'.s
 | cont (c':Cf K.h₀) (ρ':List V):Stp L.own c c'→Fr c' L ρ'→Q .cont ρ' c'.σ→PF c L Q .cont c'.s
 | ret (c':Cf K.h₀) (ρ':List V) (V:V) (v:Value):Stp L.own c c'→Fr c' L ρ'→Rel c'.s.heap c'.φ V v→Q (.ret V) ρ' c'.σ→PF c L Q (.ret v) c'.s
inductive PE (c:Cf K.h₀) (L:Loc) (Q:BR):Value→Shared→Prop
 | mk (c':Cf K.h₀) (ρ':List V) (k:Nat) (a:Addr) (fp:List Addr) (fl:Option Addr):(∀ b ∈ fp,c.s.heap.get? b=none∧b ∉ c'.φ)→k ∈ K.excs→Stp L.own c c'→Fr c' L ρ'→Exc c'.s.heap a k fp fl→fl=none∨fl=L.env.frame→Q (.exc k) ρ' c'.σ→PE c L Q (.ref a) c'.s
variable {c₀ c:Cf K.h₀} {L:Loc} {ρ:List V} {Q:BR}
theorem PF.lift (st:Stp L.own c₀ c) (y:PF c L Q f s):PF c₀ L Q f s:=
 y.casesOn (fun c' ρ' s F q=>.next c' ρ' (st.trans s) F q) (fun c' ρ' s F q=>.brk c' ρ' (st.trans s) F q) (fun c' ρ' s F q=>.cont c' ρ' (st.trans s) F q) fun c' ρ' V v s F r q=>.ret c' ρ' V v (st.trans s) F r q
theorem PE.lift (st:Stp L.own c₀ c) (y:PE c L Q e s):PE c₀ L Q e s:=y.casesOn fun c' ρ' k a fp fl n hk s F x h q=>.mk c' ρ' k a fp fl (fun b m=>⟨st.gone (n b m).1,(n b m).2⟩) hk (st.trans s) F x h q
theorem PX.toE (F:Fr c L ρ) (y:PX c (fun k σ=>Q (.exc k) ρ σ) e s):PE c L Q e s:=y.casesOn fun c' k a fp n hk st x q=>.mk c' ρ k a fp none n hk st.any (F.step st) x (.inl rfl) q
noncomputable def Af (h:Heap):List Addr→Heap
 | []=>h
 | a :: l=>(Af h l).hide a
theorem CN:∀ {l:List Addr},b ∉ l→h.get? b=some o→(Af h l).get? b=some o
 | [],_,e=>e
 | a :: _,n,e=>(Heap.hide_ne _ (fun q:b=a=>n (q▸List.mem_cons_self))).trans (CN (fun m=>n (List.mem_cons_of_mem _ m)) e)
theorem DH:∀ {l:List Addr},(Af h l).get? b=some o→b ∉ l∧h.get? b=some o
 | [],e=>⟨List.not_mem_nil,e⟩
 | a :: l,e=>by
  have hb:b ≠ a:=fun q=>by rw [q] at e;exact nomatch (Heap.hide_self (Af h l) a).symm.trans e
  obtain ⟨n,e'⟩:=DH (Heap.of_hide e)
  exact ⟨fun m=>(List.mem_cons.mp m).elim hb n,e'⟩
theorem BD (m:b ∈ l):(Af h l).get? b=none:=by
 cases e:(Af h l).get? b with
 | none=>rfl
 | some o=>exact absurd m (DH e).1
abbrev Loc.frs (L:Loc):List Addr:=L.up.filterMap (·.frame)
theorem NG {h base:Heap} {l:List Env} (q:∀ e ∈ l,e.scope.kind ≠ .module∧∃ f m,e.frame=some f∧base.get? f=none∧h.Ns f m):h.FunFrames base l:=by
 induction l with
 | nil=>trivial
 | cons e l ih=>exact B7 (q e List.mem_cons_self) fun k f _ e1 e2 n=>DP (CT n) fun o e3 _ _ d=>⟨k,⟨f,o,e1,e2,e3,fun _ e'=>nomatch d.symm.trans e'⟩,ih fun e' m=>q e' (List.mem_cons_of_mem _ m)⟩
theorem Rw {l:List Env} {f:Addr} (m:f ∈ l.filterMap (·.frame)):∃ e ∈ l,e.frame=some f:=List.mem_filterMap.mp m
theorem M1 {c:Cf K.h₀} {L:Loc} {ρ:List V} {a:Addr} {k:Nat} {fp:List Addr} {fl:Option Addr} {h':Heap} (F:Fr c L ρ) (x:Exc c.s.heap a k fp fl) (hn:∀ b ∈ fp,K.h₀.get? b=none∧b ∉ c.φ)
  (hs:(Af c.s.heap (fp ++ L.frs)).StaysIn h') (hu:c.s.heap.UpToSlots h'):∃ c':Cf K.h₀,c'.s={ c.s with heap:=h' }∧c'.φ=c.φ∧c'.σ=c.σ∧WStp (· ∈ fp) c c'∧Fr c' L ρ:=by
 have fr:∀ f ∈ L.frs,∃ m,K.h₀.get? f=none∧f ∉ c.φ∧c.s.heap.Ns f m:=fun f m=>by
  refine AF (Rw m) fun e he hf=>?_
  refine Cd (F.up e he) fun _ f' m' e1 e2 e3 n=>?_
  cases hf.symm.trans e1
  exact ⟨m',e2,e3,n⟩
 have ke:∀ b o,b ∉ fp→b ∉ L.frs→c.s.heap.get? b=some o→h'.get? b=some o:=fun b o h1 h2 e=>hs b o (CN (fun m=>(List.mem_append.mp m).elim h1 h2) e)
 have nofp:∀ b ∈ fp,A6 c.s.heap b:=fun b m=>BL (x.fields b m) fun _ _ e d=>Im e fun _ _ e'=>nomatch d.symm.trans e'
 have S:Sim K.h₀ h' c.φ c.σ:=by
  refine c.sim.keeps (own:=fun b=>b ∈ fp∨b ∈ L.frs) (fun b o hb e=>ke b o (fun m=>hb (.inl m)) (fun m=>hb (.inr m)) e) fun b m=>?_
  refine Or.elim m (fun m=>?_) (fun m=>?_)
  ·exact ⟨nofp b m,(hn b m).2,(hn b m).1⟩
  ·refine AZ (fr b m) fun _ e2 e3 n=>?_
   exact ⟨Ce n,e3,e2⟩
 have st:WStp (· ∈ fp) c ⟨{ c.s with heap:=h' },c.φ,c.σ,S⟩:=⟨⟨rfl,rfl⟩,List.prefix_refl _,fun b o _ hb e=>by
  by_cases hf:b ∈ L.frs
  ·refine AZ (fr b hf) fun _ _ _ n=>?_
   refine DP (CT n) fun o' e' es ep d=>?_
   cases e.symm.trans e'
   refine AU (hu b o e fun _ q=>nomatch d.symm.trans q) fun sl e2=>?_
   exact ⟨_,e2,sl,rfl,fun q=>absurd d (q es ep)⟩
  ·exact ⟨o,ke b o hb hf e,.refl o⟩,fun _ m=>.inl m⟩
 refine ⟨⟨{ c.s with heap:=h' },c.φ,c.σ,S⟩,rfl,rfl,rfl,st,F.keep st nofp (fun f m n _ hm=>?_) fun b ov ic hm=>?_⟩
 ·refine BL (x.fields f hm) fun _ _ e d=>?_
  refine DP (CT n) fun _ e' _ _ d'=>?_
  cases e.symm.trans e';cases d.symm.trans d'
 ·refine BL (x.fields b hm) fun _ _ e d=>?_
  refine AF ic fun _ e' d'=>?_
  cases e.symm.trans e';cases d.symm.trans d'
theorem Kf (hm:a ∈ fp) (hl:h'.FunFrames (Af c.s.heap (fp ++ L.frs)) L.up)
  (x:h'.TracedAtW (Af c.s.heap (fp ++ L.frs)) a (.ref k) a0 (fl.elim .none fun f=>rawInt f)):∃ T,Exc h' a k [a,T] fl∧∀ b ∈ [a,T],b ∈ fp∨c.s.heap.get? b=none:=by
 obtain ⟨oe,vs,T,oT,ts,he,⟨hc,h0⟩,hd,h1,hT,hne,heT,hdT,h3⟩:=x
 refine ⟨T,.seen oe vs a0 T oT ts fl he hc hd h0 h1 hne heT hdT h3,fun b m=>?_⟩
 rcases List.mem_cons.mp m with rfl | m
 ·exact .inl hm
 ·cases List.mem_singleton.mp m
  by_cases hf:T ∈ fp
  ·exact .inl hf
  ·refine .inr ?_
   cases e:c.s.heap.get? T with
   | none=>rfl
   | some o=>
    have:=CN (l:=fp ++ L.frs) (fun m=>(List.mem_append.mp m).elim hf fun m=>by
     refine Cp (hl.mem m) fun _ o' e' nf=>?_
     cases heT.symm.trans e';exact nf ts hdT) e
    cases hT.symm.trans this
structure AtFr (K:Ctx) (A:Around) (L:Loc) (c:Cf K.h₀) (ρ:List V) (a:Addr) (k:Nat) (fp:List Addr) (fl:Option Addr):Prop where
 R:A.frames=some L.up
 hu:L.up=L.env :: L.up.tail
 F:Fr c L ρ
 x:Exc c.s.heap a k fp fl
 hfl:fl=none∨fl=L.env.frame
 hn:∀ b ∈ fp,K.h₀.get? b=none∧b ∉ c.φ
theorem AtFr.base {A:Around} {L:Loc} {c:Cf K.h₀} {ρ:List V} {a:Addr} {k:Nat} {fp:List Addr} {fl:Option Addr} (z:AtFr K A L c ρ a k fp fl) :
  A.frames=some (L.env :: L.up.tail)∧c.s.heap.FunFrames (Af c.s.heap (fp ++ L.frs)) (L.env :: L.up.tail)∧(∃ f,L.env.frame=some f)∧(Af c.s.heap (fp ++ L.frs)).StaysIn c.s.heap∧(Af c.s.heap (fp ++ L.frs)).get? a=none:=by
 refine ⟨z.hu▸z.R,NG fun e m=>?_,?_,fun b o e=>(DH e).2,BD (List.mem_append_left _ z.x.mem)⟩
 ·rw [← z.hu] at m
  refine Cd (z.F.up e m) fun h1 f m' e1 _ _ n=>?_
  exact ⟨h1,f,m',e1,BD (List.mem_append_right _ (List.mem_filterMap.mpr ⟨e,m,e1⟩)),n⟩
 ·refine DY (z.F.up L.env (z.hu▸List.mem_cons_self)) fun _ f _ e1 _=>?_
  exact ⟨f,e1⟩
noncomputable def XKeep {K:Ctx} (c:Cf K.h₀) (L:Loc) (ρ:List V) (a:Addr) (k:Nat) (fp:List Addr) (fl:Option Addr) (P:Shared→Prop):Prop:=
 ∀ (c':Cf K.h₀) (T:Addr),c'.φ=c.φ→c'.σ=c.σ→WStp (· ∈ fp) c c'→Fr c' L ρ→Exc c'.s.heap a k [a,T] fl→(∀ b ∈ [a,T],b ∈ fp∨c.s.heap.get? b=none)→P c'.s
theorem XKeep.use (h:XKeep c L ρ a k fp fl' P) (F:Fr c L ρ) (x:Exc c.s.heap a k fp fl) (hn:∀ b ∈ fp,K.h₀.get? b=none∧b ∉ c.φ)
  (hs:(Af c.s.heap (fp ++ L.frs)).StaysIn h') (hl:h'.FunFrames (Af c.s.heap (fp ++ L.frs)) L.up) (ht:h'.TracedAtW (Af c.s.heap (fp ++ L.frs)) a (.ref k) a0 (fl'.elim .none fun f=>rawInt f)) (hu:c.s.heap.UpToSlots h'):P { c.s with heap:=h' }:=by
 refine B3 (M1 F x hn hs hu) fun c' e1 e2 e3 st F'=>?_
 refine AF (Kf x.mem hl ht) fun T ex hp=>?_
 exact e1▸h c' T e2 e3 st F' (by rw [e1];exact ex) hp
theorem XKeep.same (h:XKeep c L ρ a k [a,T] fl P) (F:Fr c L ρ) (x:Exc c.s.heap a k [a,T] fl):P c.s:=
 h c T rfl rfl (Stp.refl c).toWStp F x fun _ m=>.inl m
theorem LU (z:AtFr K A L c ρ a k fp fl) (h:XKeep c L ρ a k fp L.env.frame P) :
  wpAny K.M A (noteFrame (.ref a) L.env) (fun _ s=>P s) E c.s:=by
 refine F1 z.base fun hfr hl zt1 hkb hen=>AU zt1 fun f hf=>?_
 have hfe:rawInt f=L.env.frame.elim .none fun f=>rawInt f:=by rw [hf];rfl
 have go:∀ {h':Heap} {a0:Value},Heap.NotedW (Af c.s.heap (fp ++ L.frs)) (L.env :: L.up.tail) a (.ref k) a0 (rawInt f) c.s.heap h'→P { c.s with heap:=h' }:=fun ⟨k1,k2,k3,k4⟩=>h.use z.F z.x z.hn k1 (z.hu▸k2) (hfe▸k3) k4
 cases z.x with
 | new oe vs a0 e hc d h0 h1=>
  unfold noteFrame
  simp only [hf]
  refine wpAny_bind (wpAny_field e d h1 ?_)
  rw [if_neg (by decide)]
  exact wpAny_entryW hfr hl hf e hkb hen d (Array.getElem?_eq_some_iff.mp h1).1 h0 fun h' hN=>go (hc▸hN)
 | seen oe vs a0 T oT ts fl e hc d h0 h1 hne heT hdT h3=>
  have ht:fl=none∨fl=some f:=z.hfl.imp id fun q=>q.trans hf
  have hT:(Af c.s.heap ([a,T] ++ L.frs)).get? T=none:=BD (List.mem_append_left _ (List.mem_cons_of_mem _ List.mem_cons_self))
  rcases ht with rfl | rfl
  ·exact wpAny_noteFrame_onW hfr hl hf ⟨oe,vs,T,oT,ts,e,⟨hc,h0⟩,d,h1,hT,hne,heT,hdT,h3⟩ hkb hen fun h' hN=>go hN
  ·exact wpAny_noteFrame_againW (base:=Af c.s.heap ([a,T] ++ L.frs)) hf ⟨oe,vs,T,oT,ts,e,⟨hc,h0⟩,d,h1,hT,hne,heT,hdT,h3⟩ (h.same z.F (hf▸z.x))
theorem Cc (z:AtFr K A L c ρ a k [a,T] fl) (h:XKeep c L ρ a k [a,T] fl' P) :
  wpAny K.M A (setFlight (.ref a) fl') (fun _ s=>P s) E c.s:=by
 refine F1 z.base fun hfr hl zt1 hkb hen=>AU zt1 fun f hf=>?_
 have x:=z.x
 generalize hfp:[a,T]=fp at x
 cases x with
 | new=>cases hfp
 | seen oe vs a0 T' oT ts fl e hc d h0 h1 hne heT hdT h3=>
  cases hfp
  have hT:(Af c.s.heap ([a,T] ++ L.frs)).get? T=none:=BD (List.mem_append_left _ (List.mem_cons_of_mem _ List.mem_cons_self))
  have hsz:3 < ts.size:=(Array.getElem?_eq_some_iff.mp h3).1
  unfold setFlight
  refine wpAny_bind (wpAny_field e d h1 ?_)
  rw [if_pos (show (Value.ref T != Value.none)=true from rfl)]
  refine wpAny_setField heT hdT hsz ?_
  have other:∀ b,b ≠ T→(c.s.heap.update T (Obj.mapFields (·.setIfInBounds 3 (fl'.elim Value.none fun f=>rawInt f)))).get? b=c.s.heap.get? b:=fun b hb=>Heap.get?_update_other _ _ (Ne.symm hb)
  have noRec:∀ b o,c.s.heap.get? b=some o→(∀ vs,o.data ≠ .fields vs)→b ≠ T:=fun b o hb hnf q=>by
   rw [q,heT] at hb;injection hb with hb;subst hb;exact hnf ts hdT
  refine h.use (a0:=a0) z.F z.x z.hn (fun b o hb=>(other b fun q=>by rw [q,hT] at hb;cases hb).trans (hkb b o hb)) (z.hu▸hl.of_keeps fun b o hb hnf=>⟨o,(other b (noRec b o hb hnf)).trans hb,rfl⟩)
   ⟨oe,vs,T,_,_,(other a (Ne.symm hne)).trans e,⟨hc,h0⟩,d,h1,hT,hne,Heap.get?_update_self _ heT (Obj.isFreed_of_fields (Obj.data_mapFields hdT _)),Obj.data_mapFields hdT _,by rw [Array.getElem?_setIfInBounds_self_of_lt hsz]⟩ fun b o hb hnf=>⟨o.slots,(other b (noRec b o hb hnf)).trans hb⟩
theorem QU (z:AtFr K A L c ρ a k fp fl) (h:XKeep c L ρ a k fp none P) :
  wpAny K.M A (leaving L.env (.ref a)) (fun _ s=>P s) E c.s:=by
 refine F1 z.base fun hfr hl zt1 hkb hen=>AU zt1 fun f hf=>?_
 have go:∀ {h':Heap} {a0:Value},Heap.LeftW (Af c.s.heap (fp ++ L.frs)) (L.env :: L.up.tail) a (.ref k) a0 c.s.heap h'→P { c.s with heap:=h' }:=fun ⟨k1,k2,k3,k4⟩=>h.use z.F z.x z.hn k1 (z.hu▸k2) k3 k4
 cases z.x with
 | new oe vs a0 e hc d h0 h1=>exact wpAny_leaving_firstW hfr hl hf e hkb hen d h1 h0 fun h' hN=>go (hc▸hN)
 | seen oe vs a0 T oT ts fl e hc d h0 h1 hne heT hdT h3=>
  have ht:fl=none∨fl=some f:=z.hfl.imp id fun q=>q.trans hf
  have hT:(Af c.s.heap ([a,T] ++ L.frs)).get? T=none:=BD (List.mem_append_left _ (List.mem_cons_of_mem _ List.mem_cons_self))
  rcases ht with rfl | rfl
  ·exact wpAny_leaving_nextW hfr hl hf ⟨oe,vs,T,oT,ts,e,⟨hc,h0⟩,d,h1,hT,hne,heT,hdT,h3⟩ hkb hen fun h' hN=>go hN
  ·unfold leaving
   exact wpAny_bind (wpAny_noteFrame_againW (base:=Af c.s.heap ([a,T] ++ L.frs)) hf ⟨oe,vs,T,oT,ts,e,⟨hc,h0⟩,d,h1,hT,hne,heT,hdT,h3⟩ (Cc z h))
theorem PE.at (R:ROk K L.up A) (hu:L.up=L.env :: L.up.tail):PE c L Q e s→∃ (c':Cf K.h₀) (ρ':List V) (k:Nat) (a:Addr) (fp:List Addr) (fl:Option Addr),e=.ref a∧c'.s=s∧AtFr K A L c' ρ' a k fp fl∧k ∈ K.excs∧Q (.exc k) ρ' c'.σ∧Stp L.own c c' ∧
  ∀ b ∈ fp,c.s.heap.get? b=none∧b ∉ c'.φ
 | .mk c' ρ' k a fp fl n hk st F x h q=>⟨c',ρ',k,a,fp,fl,rfl,rfl,⟨R.fr,hu,F,x,h,fun b m=>⟨c.sim.none₀ (n b m).1,(n b m).2⟩⟩,hk,q,st,n⟩
theorem EV {c c' c'':Cf K.h₀} {fp fp':List Addr} {own:Addr→Prop} (e1:c''.φ=c'.φ) (st:Stp own c c') (n:∀ b ∈ fp,c.s.heap.get? b=none∧b ∉ c'.φ) (h:∀ b ∈ fp',b ∈ fp∨c'.s.heap.get? b=none):∀ b ∈ fp',c.s.heap.get? b=none∧b ∉ c''.φ:=fun b m=>
 e1▸(h b m).elim (n b) fun e=>⟨st.gone e,c'.sim.out e⟩
inductive PN (c:Cf K.h₀) (L:Loc) (Q:BR):Value→Shared→Prop
 | mk (c':Cf K.h₀) (ρ':List V) (k:Nat) (a T:Addr):(∀ b ∈ [a,T],c.s.heap.get? b=none∧b ∉ c'.φ)→k ∈ K.excs→Stp L.own c c'→Fr c' L ρ'→Exc c'.s.heap a k [a,T] L.env.frame→Q (.exc k) ρ' c'.σ→PN c L Q (.ref a) c'.s
theorem PE.note {A:Around} {e:Value} {s:Shared} (R:ROk K L.up A) (hu:L.up=L.env :: L.up.tail) (x:PE c L Q e s):notedBy K.M A L.env (PN c L Q) e s:=by
 refine Bq (x.at R hu) fun c' ρ' k a fp fl ze1 ze2 z hk q st n=>?_;subst ze1;subst ze2
 exact LU (P:=fun s=>PN c L Q (.ref a) s) z fun c'' T e1 e2 st' F' ex hp=>.mk c'' ρ' k a T (EV e1 st n hp) hk (st.transNew st' fun b m=>(n b m).1) F' ex (e2▸q)
theorem Exc.traced (x:Exc h a k [a,T] fl):∃ oe vs,h.get? a=some oe∧oe.data=.fields vs∧vs[1]?=some (.ref T):=by
 cases x with
 | seen oe vs a0 T' oT ts fl e hc d h0 h1 hne heT hdT h3=>exact ⟨oe,vs,e,d,h1⟩
theorem PN.came {A:Around} {e:Value} {s:Shared} (R:ROk K L.up A) (hu:L.up=L.env :: L.up.tail) (y:PN c L Q e s):cameBackBy K.M A L.env (PE c L Q) e s:=y.casesOn fun c' ρ' k a T n hk st F x q=>by
  have z:AtFr K A L c' ρ' a k [a,T] L.env.frame:=⟨R.fr,hu,F,x,.inr rfl,fun b m=>⟨c.sim.none₀ (n b m).1,(n b m).2⟩⟩
  refine A3 x.traced fun oe vs e d h1=>?_
  unfold cameBackBy
  refine wpAny_bind (wpAny_field e d h1 ?_)
  rw [if_neg (show ¬ (Value.ref T == Value.none)=true from nofun)]
  exact Cc (P:=fun s=>PE c L Q (.ref a) s) z fun c'' T e1 e2 st' F' ex hp=>.mk c'' ρ' k a [a,T] L.env.frame (EV e1 st n hp) hk (st.transNew st' fun b m=>(n b m).1) F' ex (.inr rfl) (e2▸q)
end
section
variable (K:Ctx) (L:Loc)
noncomputable def SOk (st:Stmt) (a:Sx):Prop:=∀ (A:Around) (c:Cf K.h₀) (ρ:List V) (Q:BR),ROk K L.up A→Fr c L ρ→a K.C ρ c.σ Q→wpAny K.M A (exec st L.env) (PF c L Q) (PE c L Q) c.s
noncomputable def SsOk (st:List Stmt) (a:List Sx):Prop:=∀ (A:Around) (c:Cf K.h₀) (ρ:List V) (Q:BR),ROk K L.up A→Fr c L ρ→Bw a K.C ρ c.σ Q→wpAny K.M A (execs st L.env) (PF c L Q) (PE c L Q) c.s
structure RFun (K:Ctx) (up:List Env) (A:Around):Prop where
 hd:A.handled=none
 depth:A.depth + 3 * K.d < 901
 units:A.units + 12 * K.d < 9000
 fr:A.frames=some up
noncomputable def QT (st:List Stmt) (a:List Sx):Prop:=∀ (A:Around) (c:Cf K.h₀) (ρ:List V) (Q:BR),RFun K L.up A→Fr c L ρ→Bw a K.C ρ c.σ Q→wpAny K.M A (execs st L.env) (PF c L Q) (PE c L Q) c.s
end
theorem RFun.ok (R:RFun K up A):ROk K up A:=⟨R.hd,Nat.lt_succ_of_lt R.depth,Nat.lt_of_lt_of_le R.units (by decide),R.fr⟩
theorem SsOk.f (h:SsOk K L st a):QT K L st a:=fun A c ρ Q R F q=>h A c ρ Q R.ok F q
noncomputable def N6 (e:Expr):Prop:=∀ t l env,swapsWith e t l env=pure false
section
variable {K:Ctx} {L:Loc}
theorem inS (F:Fr c L ρ) (h:wpAny K.M A m (PV c T) (PX c fun k σ=>Q (.exc k) ρ σ) c.s)
  (k:∀ (c₁:Cf K.h₀) (V:V) (v:Value),Stp AQ c c₁→Rel c₁.s.heap c₁.φ V v→T V c₁.σ→P v c₁.s):wpAny K.M A m P (PE c L Q) c.s:=
 wpAny_mono h (fun v _ y=>y.casesOn fun c₁ V s₁ r q=>k c₁ V v s₁ r q) fun _ _ x=>x.toE F
theorem Oh (st:Stp AQ c₀ c) (F:Fr c₀ L ρ) (h:wpAny K.M A m (PV c T) (PX c fun k σ=>Q (.exc k) ρ σ) c.s)
  (k:∀ (c₁:Cf K.h₀) (V:V) (v:Value),Stp AQ c₀ c₁→Stp AQ c c₁→Rel c₁.s.heap c₁.φ V v→T V c₁.σ→P v c₁.s):wpAny K.M A m P (PE c₀ L Q) c.s:=
 wpAny_mono h (fun v _ y=>y.casesOn fun c₁ V s₁ r q=>k c₁ V v (st.trans s₁) s₁ r q) fun _ _ x=>(x.lift st).toE F
theorem Do (h:env.scope.kind=.function):interactive env=false:=by unfold interactive;rw [h];rfl
theorem O9 {pos} (hc:N6 e) (h:EOk K L e a):SOk K L (.Expr e pos) (Ba a):=fun A c ρ _ R F q=>
 wpAny_Expr_any (inS F (h A c ρ _ _ R F q) fun c₁ _ _ s₁ _ q₁=>.next c₁ ρ s₁.any (F.step s₁) q₁) (Do F.fn) (hc _ _ _)
theorem SN {pos} (h:EOk K L e a):SOk K L (.Return (some e) pos) (AV a):=fun A c ρ _ R F q=>
 wpAny_Return_some (inS F (h A c ρ _ _ R F q) fun c₁ V v s₁ r q₁=>.ret c₁ ρ V v s₁.any (F.step s₁) r q₁)
theorem Oz {pos}:SOk K L (.Return none pos) Sr:=fun _ c ρ _ _ F q=>wpAny_Return_none (.ret c ρ .none .none (.refl c) F CO q)
theorem Oj {pos}:SOk K L (.Pass pos) QS:=fun _ c ρ _ _ F q=>wpAny_bind (wpAny_standAt (wpAny_pure (.next c ρ (.refl c) F q)))
theorem EX {pos} (hc:swapsWith value (some t) pos.line L.env=pure false) (hw:swappedStores [t] value L.env=pure none) (hst:(assignEach [t] L.env).map (·.2)=[assign t L.env]) (ht:CPat L t p) (h:EOk K L value a) :
  SOk K L (.Assign [t] value pos) (AT p a):=fun A c ρ _ R F q=>
 wpAny_Assign_stores (inS F (h A c ρ _ _ R F q) fun c₁ _ v s₁ r q₁=>hst▸HU ht R.hd (F.step s₁) r q₁ fun c₂ ρ' _ e2 s₂ F₂ q₂=>.next c₂ ρ' (s₁.any.trans s₂) F₂ (e2▸q₂)) hc hw
theorem Oy:SsOk K L [] []:=fun _ c ρ _ _ F q=>wpAny_execs_nil (.next c ρ (.refl c) F q)
theorem Nq (h:SOk K L st a) (hs:SsOk K L sts as):SsOk K L (st :: sts) (a :: as):=fun A c ρ Q R F q=>
 wpAny_execs_cons (wpAny_mono (h A c ρ _ R F q) (fun _ _ y=>y.casesOn (fun c₁ ρ₁ s₁ F₁ q₁=>wpAny_mono (hs A c₁ ρ₁ Q R F₁ q₁) (fun _ _ z=>z.lift s₁) fun _ _ z=>z.lift s₁)
  (fun c₁ ρ₁ s₁ F₁ q₁=>.brk c₁ ρ₁ s₁ F₁ q₁) (fun c₁ ρ₁ s₁ F₁ q₁=>.cont c₁ ρ₁ s₁ F₁ q₁) fun c₁ ρ₁ V v s₁ F₁ r q₁=>.ret c₁ ρ₁ V v s₁ F₁ r q₁) fun _ _ x=>x.casesOn fun c' ρ' k a fp fl n hk s F x h q=>.mk c' ρ' k a fp fl n hk s F x h q)
theorem TA {pos} (ht:TOk K L test t) (hb:SsOk K L b b') (ho:SsOk K L o o'):SOk K L (.If test b o pos) (sIf t b' o'):=fun A c ρ Q R F q=>
 wpAny_If (wpAny_mono (ht A c ρ _ _ R F q) (fun x _ y=>by
  cases x with
  | true=>exact y.casesOn fun c₁ s₁ q₁=>wpAny_mono (hb A c₁ ρ Q R (F.step s₁) q₁) (fun _ _ z=>z.lift s₁.any) fun _ _ z=>z.lift s₁.any
  | false=>exact y.casesOn fun c₁ s₁ q₁=>wpAny_mono (ho A c₁ ρ Q R (F.step s₁) q₁) (fun _ _ z=>z.lift s₁.any) fun _ _ z=>z.lift s₁.any) fun _ _ x=>x.toE F)
end
inductive ItOb (h:Heap) (b:Addr):Prop
 | mk (o:Obj) (us:Array Value) (n:String):h.get? b=some o→o.data=.fields us→o.cls=.type n→(∀ x t,us[1]? ≠ some (.str x t))→ItOb h b
theorem ItOb.noTup (x:ItOb h b):A6 h b:=x.casesOn fun _ _ _ e d _ _=>Im e fun _ _ e'=>nomatch d.symm.trans e'
theorem ItOb.out {h₀:Bs} {h:Heap} {φ:List Addr} {σ:AD} (S:Sim h₀ h φ σ) {b:Addr} (x:ItOb h b):b ∉ φ:=fun m=>x.casesOn fun _ us n e d k q=>(S.at m).casesOn fun _ e' _ kk=>CL (kk us n (Option.some.inj (e'.symm.trans e)▸d) (Option.some.inj (e'.symm.trans e)▸k)) q
theorem ItOb.notNs (x:ItOb h b) (n:h.Ns b m):False:=x.casesOn fun _ _ _ e d _ _=>DP (CT n) fun _ e' _ _ d'=>nomatch d.symm.trans ((congrArg Obj.data (Option.some.inj (e.symm.trans e'))).trans d')
theorem ItOb.notCell (x:ItOb h b) (n:h.IsCell b v):False:=x.casesOn fun _ _ _ e d _ _=>AF n fun _ e' d'=>nomatch d.symm.trans ((congrArg Obj.data (Option.some.inj (e.symm.trans e'))).trans d')
theorem ItOb.noDict (x:ItOb h b) (e:h.get? b=some o):∀ es ep,o.data ≠ .dict es ep:=fun _ _ q=>x.casesOn fun _ _ _ e' d _ _=>nomatch d.symm.trans ((congrArg Obj.data (Option.some.inj (e'.symm.trans e))).trans q)
section
variable {K:Ctx}
inductive ItGo (fp:List Addr) (c:Cf K.h₀) (P:Cf K.h₀→Prop):Shared→Prop
 | mk (c':Cf K.h₀):c'.φ=c.φ→c'.σ=c.σ→WStp (· ∈ fp) c c'→P c'→ItGo fp c P c'.s
noncomputable def NX:Value→Shared→Prop:=fun _ _=>False
variable (K) in
structure Itr (A:Around) (t:Expr) (I:Addr) (fp:List Addr) (items:List V) (same:AD→Prop) (St:Nat→Cf K.h₀→Prop):Prop where
 new:∀ b ∈ fp,K.h₀.get? b=none
 mine:∀ i c,St i c→∀ b ∈ fp,ItOb c.s.heap b
 frame:∀ i (c c':Cf K.h₀),St i c→c.φ <+: c'.φ→same c'.σ→(∀ b ∈ fp,∀ o,c.s.heap.get? b=some o→c'.s.heap.get? b=some o)→(∀ V v,Rel c.s.heap c.φ V v→Rel c'.s.heap c'.φ V v)→St i c'
 item:∀ i V c,items[i]?=some V→St i c→wpAny K.M A (pyNext (.ref I)) (fun r s₁=>∃ v,r=some v∧wpAny K.M A (letOwnedTupleGo t (.ref I) v) (fun _ s₂=>ItGo fp c (fun c'=>Rel c'.s.heap c'.φ V v∧St (i + 1) c') s₂) NX s₁) NX c.s
 done:∀ c,St items.length c→wpAny K.M A (pyNext (.ref I)) (fun r s₁=>r=none∧ItGo fp c (fun _=>True) s₁) NX c.s
variable (K) in
noncomputable def EZ (A:Around) (I:Addr) (St:Nat→Cf K.h₀→Prop):Prop:=∀ i c,St i c→wpAny K.M A (pyIter (.ref I)) (fun v s₁=>v=.ref I∧s₁=c.s) NX c.s
variable {c c':Cf K.h₀} {L:Loc} {ρ:List V}
theorem Fr.iter {fp:List Addr} (F:Fr c L ρ) (mine:∀ b ∈ fp,ItOb c.s.heap b) (st:WStp (· ∈ fp) c c'):Fr c' L ρ:=
 F.keep st (fun b m=>(mine b m).noTup) (fun f _ n _ m=>(mine f m).notNs n) fun b _ ic m=>(mine b m).notCell ic
theorem Fr.notOwn (F:Fr c L ρ) (x:ItOb c.s.heap b):¬ L.own b:=fun h=>h.elim (fun e=>F.ns.casesOn fun _ n _=>x.notNs (e▸n)) fun h=>A3 h fun y i hy hk ec=>(F.cell y i hy (.inl hk)).casesOn fun _ _ e1 _ _ ic _=>x.notCell (Option.some.inj (e1.symm.trans ec)▸ic)
theorem OT {A:Around} {Q:BR} {t:Expr} {p:Pat} {I:Addr} {fp:List Addr} {items:List V} {same:AD→Prop} {St:Nat→Cf K.h₀→Prop} {body:List Stmt} {body':List Sx} {cp:Cf K.h₀}
  (hu:L.up=L.env :: L.up.tail) (R:ROk K L.up A) (st₀:Stp AQ cp c) (hfp:∀ b ∈ fp,cp.s.heap.get? b=none) (W:Itr K A t I fp items same St) (ht:CPat L t p) (hb:SsOk K L body body') (F:Fr c L ρ) (h0:St 0 c) (q:FM (Er K.C p body') same items ρ c.σ Q) :
  codeAny K.M A (.forLoop t (.ref I) body [] L.env) (fun r s'=>match r with | .ok f=>PF cp L Q f s' | .error e=>PN cp L Q e s') c.s:=by
 refine codeAny_forLoop_any (fun n s'=>∃ i c' ρ',c'.s=s'∧(i + n=items.length + 1∧i≤items.length)∧Stp L.own cp c'∧Fr c' L ρ'∧St i c'∧FM (Er K.C p body') same (items.drop i) ρ' c'.σ Q) ?_ (items.length + 1)
  ⟨0,c,ρ,rfl,⟨Nat.zero_add _,Nat.zero_le _⟩,st₀.any,F,h0,q⟩
 rintro n s' ⟨i,c',ρ',rfl,hn,stp,F',st',q'⟩
 refine Or.elim (Nat.lt_or_ge i items.length) (fun hlt=>?_) (fun hge=>?_)
 ·rw [List.drop_eq_getElem_cons hlt] at q'
  have mine:=W.mine i c' st'
  refine wpAny_mono (W.item i items[i] c' (List.getElem?_eq_getElem hlt) st') (fun r s₁ ⟨v,e,y⟩=>?_) fun _ _ e=>e.elim
  subst e
  refine wpAny_mono y (fun _ s₂ z=>?_) fun _ _ e=>e.elim
  refine z.casesOn fun c₂ e1 e2 s₂ rs=>?_
  have rl:=rs.1
  have st₂:=rs.2
  have F₂:=F'.iter mine s₂
  have stp₂:Stp L.own cp c₂:=stp.transNew s₂ hfp
  have mine₂:=W.mine (i + 1) c₂ st₂
  refine HU (T:=fun ρ₁=>Bw body' K.C ρ₁ c₂.σ (EN (fun ρ₂ σ₂=>same σ₂∧FM (Er K.C p body') same (items.drop (i + 1)) ρ₂ σ₂ Q) Q)) ht R.hd F₂ rl (e2▸q') fun c₃ ρ₃ f1 f2 s₃ F₃ q₃=>?_
  refine wpAny_mono (hb A c₃ ρ₃ _ R F₃ (f2.symm▸q₃)) (fun f s₄ y=>?_) fun e s₄ y=>(PE.lift (stp₂.trans s₃) ?_:PE cp L Q e s₄).note R hu
  ·have go:∀ {c₄:Cf K.h₀} {ρ₄:List V},Stp L.own c₃ c₄→Fr c₄ L ρ₄→same c₄.σ→FM (Er K.C p body') same (items.drop (i + 1)) ρ₄ c₄.σ Q →
     ∃ m,m < n∧∃ i c' ρ',c'.s=c₄.s∧(i + m=items.length + 1∧i≤items.length)∧Stp L.own cp c'∧Fr c' L ρ'∧St i c'∧FM (Er K.C p body') same (items.drop i) ρ' c'.σ Q:=fun {c₄ ρ₄} s₄ F₄ hs hq=>
    ⟨n - 1,by exact an2 .lt .v0 .v1 (.q (.a .v0 .n1) .v1 .e) rfl (Nat.sub_add_cancel (an3 .le .n1 .v0 (.t .v1 .v2 (.p (.a .v1 .v0) (.a .v2 .n1) .e)) rfl hlt hn.1)),i + 1,c₄,ρ₄,rfl,⟨by exact Nat.le_antisymm (an4 .le (.a (.a .v0 .n1) .v1) (.a .v2 .n1) (.q (.a .v1 .n1) .v3 (.q (.a .v0 .v3) (.a .v2 .n1) .e)) rfl (Nat.sub_add_cancel (an3 .le .n1 .v0 (.t .v1 .v2 (.p (.a .v1 .v0) (.a .v2 .n1) .e)) rfl hlt hn.1)) hn.1) (an4 .le (.a .v0 .n1) (.a (.a .v1 .n1) .v2) (.p (.a .v1 .v3) (.a .v0 .n1) (.p (.a .v2 .n1) .v3 .e)) rfl hn.1 (Nat.sub_add_cancel (an3 .le .n1 .v0 (.t .v1 .v2 (.p (.a .v1 .v0) (.a .v2 .n1) .e)) rfl hlt hn.1))),hlt⟩,(stp₂.trans s₃).trans s₄,F₄,W.frame (i + 1) c₂ c₄ st₂ (f1▸s₃.pre.trans s₄.pre) hs
     (fun b hb o e=>(s₃.trans s₄).keepE (ItOb.out c₂.sim (mine₂ b hb)) (F₂.notOwn (mine₂ b hb)) ((mine₂ b hb).noDict e) e) (fun V v r=>r.own (s₃.trans s₄).toWStp fun _ m=>F₂.noTup m),hq⟩
   exact y.casesOn (fun c₄ ρ₄ s₄ F₄ q₄=>go s₄ F₄ q₄.1 q₄.2) (fun c₄ ρ₄ s₄ F₄ q₄=>.next c₄ ρ₄ ((stp₂.trans s₃).trans s₄) F₄ q₄) (fun c₄ ρ₄ s₄ F₄ q₄=>go s₄ F₄ q₄.1 q₄.2) fun c₄ ρ₄ V u s₄ F₄ r q₄=>.ret c₄ ρ₄ V u ((stp₂.trans s₃).trans s₄) F₄ r q₄
  ·exact y.casesOn fun c₄ ρ₄ k a fp fl n hk s₄ F₄ ex h q₄=>.mk c₄ ρ₄ k a fp fl n hk s₄ F₄ ex h q₄
 ·cases Nat.le_antisymm hn.2 hge
  rw [List.drop_length] at q'
  refine wpAny_mono (W.done c' st') (fun r s₁ ⟨e,z⟩=>?_) fun _ _ e=>e.elim
  subst e
  exact z.casesOn fun c₂ e1 e2 s₂ _=>wpAny_execs_nil (.next c₂ ρ' (stp.transNew s₂ hfp) (F'.iter (W.mine _ c' st') s₂) (e2▸q'))
end
end Mine
namespace Mine
open PySem PySem.Calls
set_option genSizeOf false
set_option genInjectivity false
noncomputable def Mv (n:String):Bool:=!["enumerate", "zip", "dict_itemiterator", "dict_reverseitemiterator", "odict_iterator", "itertools.zip_longest", "itertools.pairwise"].contains n
set_option backward.match.sparseCases true in
theorem Bc (ho:s.heap.get? I=some o) (hc:o.cls=.type n)
  (hn:Mv n=true) (hQ:Q () s):wpAny M A (letOwnedTupleGo t (.ref I) v) Q E s:=by
 have key:∀ a:Addr,wpAny M A (do
   let o ← load I
   match o.cls,o.data with
   | .type n,.fields vs=>
    if ["enumerate", "zip", "dict_itemiterator", "dict_reverseitemiterator", "odict_iterator", "itertools.zip_longest", "itertools.pairwise"].contains n && vs[0]? == some (rawInt a) then
     rule "for.unpacks-the-owned-tuple"
     updateField I 0 .none
   | _,_=>pure ()) Q E s:=fun a=>by
  refine wpAny_bind (wpAny_load ho ?_)
  obtain ⟨_,_,dt,_⟩:=o
  cases hc
  cases dt <;> first | exact wpAny_pure hQ | skip
  show wpAny M A (if (_ && _)=true then _ else pure ()) Q E s
  rw [if_neg fun h=>Bool.eq_false_iff.mp ((Bool.not_eq_true' _).mp hn) (Bool.and_eq_true_iff.mp h).1]
  exact wpAny_pure hQ
 cases t <;> first
  | exact wpAny_pure hQ
  | (cases v <;> first | exact wpAny_pure hQ | exact key _)
theorem EJ:∀ (n:Nat) (a:Int),(Cj a n).length=n
 | 0,_=>rfl
 | n + 1,a=>congrArg (· + 1) (EJ n (a + 1))
theorem GI:∀ (n:Nat) (a:Int) (i:Nat) (V:V),(Cj a n)[i]?=some V→i < n∧V=.int (a + i)
 | n + 1,a,0,V,e=>⟨Nat.zero_lt_succ _,(Option.some.inj e).symm.trans (by rw [Int.natCast_zero,Int.add_zero])⟩
 | n + 1,a,i + 1,V,e=>let ⟨h1,h2⟩:=GI n (a + 1) i V e;⟨Nat.succ_lt_succ h1,h2.trans (by rw [Int.natCast_succ,Int.add_assoc,Int.add_comm 1])⟩
theorem E4:∀ (l:List V) (k:Int),(Gg k l).length=l.length
 | [],_=>rfl
 | _ :: r,k=>congrArg (· + 1) (E4 r (k + 1))
theorem HW:∀ (l:List V) (k:Int) (i:Nat) (V:V),(Gg k l)[i]?=some V→∃ W,l[i]?=some W∧V=.tup [.int (k + i),W]
 | x :: r,k,0,V,e=>⟨x,rfl,(Option.some.inj e).symm.trans (by rw [Int.natCast_zero,Int.add_zero])⟩
 | x :: r,k,i + 1,V,e=>let ⟨W,h1,h2⟩:=HW r (k + 1) i V e;⟨W,h1,h2.trans (by rw [Int.natCast_succ,Int.add_assoc,Int.add_comm 1])⟩
section
variable {K:Ctx} {A:Around} {t:Expr} {c:Cf K.h₀}
theorem Fy (new:∀ b ∈ fp,K.h₀.get? b=none) (mine:∀ b ∈ fp,ItOb c.s.heap b) (k:∀ b o,b ∉ fp→c.s.heap.get? b=some o→h'.get? b=some o)
  (q:∀ c':Cf K.h₀,c'.φ=c.φ→c'.σ=c.σ→c'.s.heap=h'→WStp (· ∈ fp) c c'→P c'):ItGo fp c P { c.s with heap:=h',toks:=tk }:=
 have ho:∀ a,a ∈ fp→A6 c.s.heap a∧a ∉ c.φ∧K.h₀.get? a=none:=fun a m=>⟨(mine a m).noTup,(mine a m).out c.sim,new a m⟩
 have st:WStp (· ∈ fp) c (c.keepOwn { c.s with heap:=h',toks:=tk } k ho):=⟨⟨rfl,rfl⟩,List.prefix_refl _,fun b o _ hb e=>⟨o,k b o hb e,.refl o⟩,fun _ m=>.inl m⟩
 .mk (c.keepOwn { c.s with heap:=h',toks:=tk } k ho) rfl rfl st (q _ rfl rfl rfl st)
theorem one {P:Addr→Prop} (h:P I):∀ b ∈ [I],P b:=fun _ m=>List.mem_singleton.mp m▸h
theorem C5 {I:Addr} {h h':Heap} (x:∀ b o,b ≠ I→h.get? b=some o→h'.get? b=some o):∀ b o,b ∉ [I]→h.get? b=some o→h'.get? b=some o:=fun b o m e=>x b o (fun q=>m (List.mem_singleton.mpr q)) e
theorem BY (x:h.IsListIter I a i):ItOb h I:=by refine AZ x fun o e k d=>?_;exact .mk o _ _ e d k (fun _ _ q=>by simp at q)
theorem C3 {h h':Heap} {I a:Addr} {i:Nat} (x:h.IsListIter I a i) (k:∀ o,h.get? I=some o→h'.get? I=some o):h'.IsListIter I a i:=by refine AF x fun o e r=>?_;exact ⟨o,k o e,r⟩
theorem Ct (x:h.IsTupleIter I a i):ItOb h I:=by refine AZ x fun o e k d=>?_;exact .mk o _ _ e d k (fun _ _ q=>by simp at q)
theorem PL {I:Addr} {n:Nat} {Vs:List V} (hh:A.handled=none) (hI:K.h₀.get? I=none):Itr K A t I [I] Vs (fun σ'=>σ'[n]?=some (.list Vs)) (fun i c=>c.σ[n]?=some (.list Vs)∧∃ a,c.φ[n]?=some a∧c.s.heap.IsListIter I a i) where
 new:=one hI
 mine _ _ x:=by refine Cp x fun _ _ _ it=>?_;exact one (BY it)
 frame _ _ _ x hp hs k _:=by refine Cp x fun _ a ea it=>?_;exact ⟨hs,a,Bp hp ea,C3 it (k I (List.mem_singleton.mpr rfl))⟩
 item i V c hV x:=by
  refine Cp x fun es a ea hit=>?_
  refine Ak (Cf.list (v:=.ref a) es ⟨a,rfl,ea⟩) fun a' items z e1 ea' g rl _=>?_
  cases e1
  refine AF (rl.get hV) fun v ev rv=>?_
  refine wpAny_pyNext_list_item hit ⟨_,g,rfl,z,rfl⟩ (Array.getElem?_toList▸ev) fun h' hit' hs'=>⟨v,rfl,?_⟩
  refine AZ (id hit') fun o' e' k' d'=>?_
  exact Bc e' k' (by decide) (Fy (tk:=c.s.toks) (one hI) (one (BY hit)) (C5 hs'.extBut) fun c' f1 f2 f3 st=>⟨rv.own st (one (BY hit).noTup),f2.symm▸es,a,f1.symm▸ea,f3.symm▸hit'⟩)
 done c x:=by
  refine Cp x fun es a ea hit=>?_
  refine Ak (Cf.list (v:=.ref a) es ⟨a,rfl,ea⟩) fun a' items z e1 ea' g rl _=>?_
  cases e1
  exact wpAny_pyNext_list_end hh hit ⟨_,g,rfl,z,rfl⟩ (Array.getElem?_eq_none (Nat.le_of_eq rl.size)) fun h' he'=>⟨rfl,Fy (tk:=c.s.toks) (one hI) (one (BY hit)) (C5 he') fun _ _ _ _ _=>trivial⟩
theorem M4 {n:Nat} {Vs:List V}:EZ K A I (fun i c=>c.σ[n]?=some (.list Vs)∧∃ a,c.φ[n]?=some a∧c.s.heap.IsListIter I a i):=fun _ _ x=>let ⟨_,_,_,hit⟩:=x;wpAny_pyIter_listiter hit ⟨rfl,rfl⟩
theorem Nd {I T:Addr} {Vs:List V} (hh:A.handled=none) (hI:K.h₀.get? I=none):Itr K A t I [I] Vs (fun _=>True) (fun i c=>c.s.heap.IsTupleIter I T i∧Rel c.s.heap c.φ (.tup Vs) (.ref T)) where
 new:=one hI
 mine _ _ x:=one (Ct x.1)
 frame _ _ _ x _ _ k kr:=⟨let ⟨o,e,r⟩:=x.1;⟨o,k I (List.mem_singleton.mpr rfl) o e,r⟩,kr _ _ x.2⟩
 item i V c hV x:=by
  obtain ⟨hit,r⟩:=x
  refine Ad (id r) fun T' items z eT g rl=>?_
  cases eT
  refine AF (rl.get hV) fun v ev rv=>?_
  refine wpAny_pyNext_tuple_item hit ⟨_,g,rfl,z,rfl⟩ (Array.getElem?_toList▸ev) fun h' hit' hs'=>⟨v,rfl,?_⟩
  refine AZ (id hit') fun o' e' k' d'=>?_
  exact Bc e' k' (by decide) (Fy (tk:=c.s.toks) (one hI) (one (Ct hit)) (C5 hs'.extBut) fun c' f1 f2 f3 st=>⟨rv.own st (one (Ct hit).noTup),f3.symm▸hit',r.own st (one (Ct hit).noTup)⟩)
 done c x:=by
  obtain ⟨hit,r⟩:=x
  refine Ad (id r) fun T' items z eT g rl=>?_
  cases eT
  exact wpAny_pyNext_tuple_end hh hit ⟨_,g,rfl,z,rfl⟩ (Array.getElem?_eq_none (Nat.le_of_eq rl.size)) fun h' he'=>⟨rfl,Fy (tk:=c.s.toks) (one hI) (one (Ct hit)) (C5 he') fun _ _ _ _ _=>trivial⟩
theorem Ki {Vs:List V}:EZ K A I (fun i c=>c.s.heap.IsTupleIter I T i∧Rel c.s.heap c.φ (.tup Vs) (.ref T)):=fun _ _ x=>wpAny_pyIter_tupleiter x.1 ⟨rfl,rfl⟩
theorem DK (x:IsRangeIter h I a b d):ItOb h I:=.mk _ _ _ x rfl rfl (fun _ _ q=>by simp [rawInt] at q)
theorem NW {I:Addr} {a:Int} {n:Nat} (hh:A.handled=none) (hI:K.h₀.get? I=none):Itr K A t I [I] (Cj a n) (fun _=>True) (fun i c=>IsRangeIter c.s.heap I (a + i) ((n:Int) - i) 1) where
 new:=one hI
 mine _ _ x:=one (DK x)
 frame _ _ _ x _ _ k _:=k I (List.mem_singleton.mpr rfl) _ x
 item i V c hV x:=by
  obtain ⟨hi,rfl⟩:=GI n a i V hV
  refine wpAny_pyNext_range_item x (Int.sub_pos_of_lt (Int.ofNat_lt.mpr hi)) fun h' hit' hs'=>⟨_,rfl,Bc hit' rfl (by decide) (Fy (one hI) (one (DK x)) (C5 hs'.extBut) fun c' f1 f2 f3 st=>⟨Az,?_⟩)⟩
  rw [f3,Int.natCast_succ,← Int.add_assoc,← Int.sub_sub]
  exact hit'
 done c x:=wpAny_pyNext_range_end hh x (by rw [EJ,Int.sub_self];exact Int.le_refl 0) fun h' he'=>⟨rfl,Fy (tk:=c.s.toks) (one hI) (one (DK x)) (C5 he') fun _ _ _ _ _=>trivial⟩
theorem Kh:EZ K A I (fun i c=>IsRangeIter c.s.heap I (a + i) ((n:Int) - i) 1):=fun _ _ x=>wpAny_pyIter_rangeiter x ⟨rfl,rfl⟩
theorem two {P:Addr→Prop} (h:P I) (h':P J):∀ b ∈ [I,J],P b:=fun _ m=>(List.mem_cons.mp m).elim (fun e=>e▸h) fun m=>List.mem_singleton.mp m▸h'
theorem IM (x:IsEnum h I J i old):ItOb h I:=.mk _ _ _ x rfl rfl (fun _ _ q=>by simp [rawInt] at q)
theorem Pt {I J:Addr} {n:Nat} {Vs:List V} {es:List Expr} {k:Nat} {p:Pos} (hh:A.handled=none) (hI:K.h₀.get? I=none) (hJ:K.h₀.get? J=none) (hIJ:I ≠ J) :
  Itr K A (.Tuple es k p) I [I,J] (Gg 0 Vs) (fun σ'=>σ'[n]?=some (.list Vs)) (fun i c=>c.σ[n]?=some (.list Vs)∧∃ a old,c.φ[n]?=some a∧IsEnum c.s.heap I J i old∧c.s.heap.IsListIter J a i) where
 new:=two hI hJ
 mine _ _ x:=by refine B7 x fun _ _ _ _ e it=>?_;exact two (IM e) (BY it)
 frame _ _ _ x hp hs k _:=by refine B7 x fun _ a old ea e it=>?_;exact ⟨hs,a,old,Bp hp ea,k I List.mem_cons_self _ e,C3 it (k J (List.mem_cons_of_mem _ List.mem_cons_self))⟩
 item i V c hV x:=by
  refine B7 x fun es a old ea he hit=>?_
  refine AF (HW Vs 0 i V hV) fun W hW ze1=>?_;subst ze1
  refine Ak (Cf.list (v:=.ref a) es ⟨a,rfl,ea⟩) fun a' items z e1 ea' g rl _=>?_
  cases e1
  refine AF (rl.get hW) fun v ev rv=>?_
  refine wpAny_pyNext_enum_item he hit ⟨_,g,rfl,z,rfl⟩ (Array.getElem?_toList▸ev) hIJ fun h₁ heo hit₁ ht₁ hz₁ hk₁=>⟨_,rfl,?_⟩
  refine wpAny_letOwnedTupleGo_enum heo fun h₂ he₂ hs₂=>?_
  have mine:=two (P:=ItOb c.s.heap) (IM he) (BY hit)
  refine Fy (two hI hJ) mine (fun b o m e=>?_) fun c' f1 f2 f3 st=>⟨?_,f2.symm▸es,a,v,f1.symm▸ea,?_,?_⟩
  ·have hb:b ≠ I:=fun q=>m (q▸List.mem_cons_self)
   exact (hs₂.2 b hb).trans (hk₁ b o hb (fun q=>m (q▸List.mem_cons_of_mem _ List.mem_cons_self)) e)
  ·refine ⟨_,_,0,rfl,(congrArg (fun h=>Heap.get? h c.s.heap.objs.size) f3).trans ((hs₂.2 _ (Ne.symm (Nat.ne_of_lt (Heap.lt_size he)))).trans ht₁),?_,rv.own st fun b m=>(mine b m).noTup,trivial⟩
   rw [Int.zero_add];exact Az
  ·rw [f3,Int.natCast_succ];exact he₂
  ·rw [f3];exact C3 hit₁ fun o e=>(hs₂.2 J (Ne.symm hIJ)).trans e
 done c x:=by
  refine B7 x fun es a old ea he hit=>?_
  rw [E4] at he hit
  refine Ak (Cf.list (v:=.ref a) es ⟨a,rfl,ea⟩) fun a' items z e1 ea' g rl _=>?_
  cases e1
  refine wpAny_pyNext_enum_end hh he hit ⟨_,g,rfl,z,rfl⟩ (Array.getElem?_eq_none (Nat.le_of_eq rl.size)) fun h' he'=>⟨rfl,Fy (tk:=c.s.toks) (two hI hJ) (two (IM he) (BY hit)) (fun b o m e=>he' b o (fun q=>m (q▸List.mem_cons_of_mem _ List.mem_cons_self)) e) fun _ _ _ _ _=>trivial⟩
theorem ET {h:Heap} {I:Addr} {ty:String} {x:Str} {t:Tok} {i:Nat} (y:h.IsStrIter I ty x t i):ItOb h I:=by refine AZ y fun o e k d=>?_;exact .mk o _ _ e d k (fun _ _ q=>by simp at q)
theorem Rb {I:Addr} {x:Str} {u:Tok} (hh:A.handled=none) (hI:K.h₀.get? I=none):Itr K A t I [I] (x.cps.toList.map fun c=>V.str (Ec c)) (fun _=>True) (fun i c=>c.s.heap.IsStrIter I "str_ascii_iterator" x u i) where
 new:=one hI
 mine _ _ y:=one (ET y)
 frame _ _ _ y _ _ k _:=by refine AF y fun o e r=>?_;exact ⟨o,k I (List.mem_singleton.mpr rfl) o e,r⟩
 item i V c hV y:=by
  rw [List.getElem?_map] at hV
  refine AF (Option.map_eq_some_iff.mp hV) fun n hn ze1=>?_;subst ze1
  refine wpAny_pyNext_ascii_item y (Array.getElem?_toList▸hn) fun h' hit' hs'=>⟨_,rfl,?_⟩
  refine AZ (id hit') fun o' e' k' d'=>?_
  exact Bc e' k' (by decide) (Fy (one hI) (one (ET y)) (C5 hs'.extBut) fun c' f1 f2 f3 st=>⟨Bo,f3.symm▸hit'⟩)
 done c y:=by
  rw [List.length_map,Array.length_toList] at y
  exact wpAny_pyNext_ascii_end hh y (Array.getElem?_eq_none (Nat.le_refl _)) fun h' he'=>⟨rfl,Fy (tk:=c.s.toks) (one hI) (one (ET y)) (C5 he') fun _ _ _ _ _=>trivial⟩
theorem QN:EZ K A I (fun i c=>c.s.heap.IsStrIter I "str_ascii_iterator" x u i):=fun _ _ y=>wpAny_pyIter_striter_ascii y ⟨rfl,rfl⟩
theorem Ei (y:h.IsKeyIter I d i n ep):ItOb h I:=by refine AZ y fun o e k q=>?_;exact .mk o _ _ e q k (fun _ _ q=>by simp at q)
theorem RelP.key (r:RelP h φ kvs us) {i:Nat} (e:(kvs.map fun p=>Mine.V.str p.1)[i]?=some W):∃ k v,us[i]?=some (k,v)∧W=.str k:=by
 rw [List.getElem?_map] at e
 refine AF (Option.map_eq_some_iff.mp e) fun p hp ze1=>?_;subst ze1
 have:=congrArg (fun l=>l[i]?) r.1
 simp only [List.getElem?_map,hp,Option.map_some] at this
 obtain ⟨⟨k,v⟩,h1,h2⟩:=Option.map_eq_some_iff.mp this
 exact ⟨k,v,h1,by rw [← h2]⟩
theorem RelP.len (r:RelP h φ kvs us):us.length=kvs.length:=by
 have:=congrArg List.length r.1
 rwa [List.length_map,List.length_map] at this
theorem O2 {I:Addr} {n ep:Nat} {kvs:List (Str × V)} (hh:A.handled=none) (hI:K.h₀.get? I=none) :
  Itr K A t I [I] (kvs.map fun p=>V.str p.1) (fun σ'=>σ'[n]?=some (.dict ep kvs)) (fun i c=>c.σ[n]?=some (.dict ep kvs)∧∃ a,c.φ[n]?=some a∧c.s.heap.IsKeyIter I a i kvs.length ep) where
 new:=one hI
 mine _ _ x:=by refine Cp x fun _ _ _ it=>?_;exact one (Ei it)
 frame _ _ _ x hp hs k _:=by refine O0 x fun _ a ea o e it=>?_;exact ⟨hs,a,Bp hp ea,o,k I (List.mem_singleton.mpr rfl) o e,it⟩
 item i V c hV x:=by
  refine Cp x fun es a ea hit=>?_
  refine BX (Cf.dict (v:=.ref a) es ⟨a,rfl,ea⟩) fun a' us e1 ea' D P _ _=>?_
  cases e1
  refine BL (P.key hV) fun k v ev ze1=>?_;subst ze1
  rw [← P.len] at hit
  refine wpAny_pyNext_dict_item hit D ev fun key h' hk hit' hs'=>⟨key,rfl,?_⟩
  refine AZ (id hit') fun o' e' k' d'=>?_
  apply Dr (Value.isStrOf_shape hk);intro u
  exact Bc e' k' (by decide) (Fy (tk:=c.s.toks) (one hI) (one (Ei hit)) (C5 hs'.extBut) fun c' f1 f2 f3 st=>⟨Bo,f2.symm▸es,a,f1.symm▸ea,f3.symm▸P.len▸hit'⟩)
 done c x:=by
  refine Cp x fun es a ea hit=>?_
  refine BX (Cf.dict (v:=.ref a) es ⟨a,rfl,ea⟩) fun a' us e1 ea' D P _ _=>?_
  cases e1
  rw [List.length_map,← P.len] at hit
  exact wpAny_pyNext_dict_end hh hit D (List.getElem?_eq_none (Nat.le_refl _)) fun h' he'=>⟨rfl,Fy (tk:=c.s.toks) (one hI) (one (Ei hit)) (C5 he') fun _ _ _ _ _=>trivial⟩
theorem Nm {n ep:Nat}:EZ K A I (fun i c=>c.σ[n]?=some (.dict ep kvs)∧∃ a,c.φ[n]?=some a∧c.s.heap.IsKeyIter I a i kvs.length ep):=fun _ _ x=>let ⟨_,_,_,hit⟩:=x;wpAny_pyIter_keyiter hit ⟨rfl,rfl⟩
end
end Mine
namespace Mine
open PySem PySem.Calls
set_option genSizeOf false
set_option genInjectivity false
noncomputable def B6:List Str:=["len", "list", "tuple", "sorted", "str", "int", "min", "max", "isinstance", "range", "enumerate", "set", "bool", "all", "ValueError"]
noncomputable def AX:Str:="Rack"
noncomputable def CI:List Str:=["shelves", "boxes", "places"]
noncomputable def Ib:List Str:=["__setattr__", "__getattribute__", "__getattr__", "shelves", "boxes", "places"]
noncomputable def LO (h₀:Heap) (mN:Str→Option Value) (m:Str) (a:Addr):Prop:=mN m=some (.ref a)∧∃ o fd,h₀.get? a=some o∧o.cls=.type "function"∧o.data=.func fd
structure ClsG (h₀:Heap) (G:GlT) (fa:Nat→Addr) (mg:Str→Option Value) (C:Addr) (i:Nat):Prop where
 bound:mg AX=some (.ref C)
 ns:∃ N mN,PyProof.Rows.ClsAt h₀ C N mN∧(∀ n ∈ Ib,mN n=none)∧(∀ m j,G.lookup (AX ++ "." ++ m)=some (.fn j)→LO h₀ mN m (fa j))∧LO h₀ mN "__init__" (fa i)
noncomputable def bmV:List Value:=[.type "ValueError", .type "Exception", .type "BaseException", .type "object"]
inductive ExcCls (h₀:Heap) (k:Nat) (mro:List Value):Prop
 | mk (bm:List Value) (N:Addr) (nm q:Str) (bs:List Value) (hdct:Bool) (sn:List Str) (sub:List Value) (ab:Bool) (col:Option Bool) (dd:Option Addr) (k0 k1 k2 k3 k5:Option Value) (mN:Str→Option Value) :
  h₀.get? k=some (excClassObj nm q k N bs bm hdct sn sub ab col dd k0 k1 k2 k3 k5 "ValueError.__new__")→h₀.Ns N mN→mN "__init__"=none→OwnTail h₀ bmV bm→.ref k :: bm=mro→ExcCls h₀ k mro
structure ExcG (h₀:Heap) (excs:List Nat) (mg:Str→Option Value) (x:Str) (k:Nat) (ks:List Nat):Prop where
 bound:mg x=some (.ref k)
 mem:k ∈ excs
 kids:∀ k' ∈ excs,∃ mro,ExcCls h₀ k' mro∧mro.contains (.ref k)=ks.contains k'
structure Gnd (K:Ctx) (G:GlT) (fa:Nat→Addr) (mg mb:Str→Option Value):Prop where
 ns:K.h₀.heap.Ns mainGlobals mg
 nsb:K.h₀.heap.Ns builtinsNs mb
 nolimit:K.h₀.heap.NoLimit
 fn:∀ x i,G.lookup x=some (.fn i)→(∀ m,x ≠ AX ++ "." ++ m)→mg x=some (.ref (fa i))
 isfn:∀ x i,G.lookup x=some (.fn i)→∃ o fd,K.h₀.get? (fa i)=some o∧o.data=.func fd
 str:∀ x z,G.lookup x=some (.str z)→∃ t,mg x=some (.str z t)
 int:∀ x z,G.lookup x=some (.int z)→∃ t,mg x=some (.int z t)
 blt:∀ x ∈ B6,G.lookup x=none→mg x=none
 bv:∀ x:Str,x ≠ "__name__"→mb x=bootBuiltins x
 cls:∀ C i,G.lookup AX=some (.cls C i)→ClsG K.h₀.heap G fa mg C i
 exc:∀ x k ks,G.lookup x=some (.exc k ks)→ExcG K.h₀.heap K.excs mg x k ks
 lam:∀ x c P,G.lookup x=some (.tabl c P)→PySem.W.CodeHd K.h₀.heap c P∧K.h₀.heap.BuiltinsAt mg P∧mainGlobals ≠ P
noncomputable def BH (sc:Scope) (x:Str):Bool:=sc.names.lookup x == some NameKind.globalImplicit
noncomputable def Ag (G:GlT) (sc:Scope) (x:Str):Bool:=BH sc x && (G.lookup x).isNone
section
variable {K:Ctx} {L:Loc} {G:GlT} {fa:Nat→Addr} {mg mb:Str→Option Value}
theorem Fu {env:Env} {x:Str} (h:BH env.scope x=true):env.kindOf x=some .globalImplicit:=beq_iff_eq.mp h
theorem Js (hb:x ∈ B6):x ≠ "__name__"∧(x == ("__debug__":Str))=false:=
 (by decide +kernel:∀ x ∈ B6,x ≠ "__name__"∧(x == ("__debug__":Str))=false) x hb
section
variable {A:Around} {c:Cf K.h₀} {ρ:List V} {x:Str} {pos:Pos} {Q:Value→Shared→Prop} {E:Value→Shared→Prop}
theorem CG (g:Gnd K G fa mg mb) (F:Fr c L ρ) {v:Value} (hv:mg x=some v) (hk:BH L.env.scope x=true) (hd:(x == ("__debug__":Str))=false) (h:Q v c.s):wpAny K.M A (eval (.Name x pos) L.env) Q E c.s:=
 Name_function_global F.fn (Fu hk) (loadGlobal_global (F.glob▸g.ns.keeps c.sim.keep) hv h) hd
theorem CE (g:Gnd K G fa mg mb) (F:Fr c L ρ) {v:Value} (hx:Ag G L.env.scope x=true) (hb:x ∈ B6) (hv:bootBuiltins x=some v) (h:Q v c.s):wpAny K.M A (eval (.Name x pos) L.env) Q E c.s:=
 have hx:=Bool.and_eq_true_iff.mp hx
 Name_function_global F.fn (Fu hx.1) (loadGlobal_builtin (F.glob▸g.ns.keeps c.sim.keep) (g.blt x hb (Option.isNone_iff_eq_none.mp hx.2)) (F.blt▸g.nsb.keeps c.sim.keep) ((g.bv x (Js hb).1).trans hv) h) (Js hb).2
end
theorem SG (g:Gnd K G fa mg mb) (hx:G.lookup x=some (.str z)) (hk:BH L.env.scope x=true) (hd:A5 x=true):EOk K L (.Name x pos) (Aw z):=fun _ _ _ _ _ _ F q=>
 let ⟨_,e⟩:=g.str x z hx;CG g F e hk (Ck hd) (PV.same Bo q)
theorem Rz (g:Gnd K G fa mg mb) (hx:G.lookup x=some (.int z)) (hk:BH L.env.scope x=true) (hd:A5 x=true):EOk K L (.Name x pos) (AG z):=fun _ _ _ _ _ _ F q=>
 let ⟨_,e⟩:=g.int x z hx;CG g F e hk (Ck hd) (PV.same Az q)
noncomputable def B2 (es:List Expr):Prop:=∀ env pos,(backTo pos (starEach es env)).any (·.1)=false
theorem BV:B2 []:=fun _ _=>rfl
theorem BF (h:Au e) (hs:B2 es):B2 (e :: es):=fun env pos=>by
 rw [h es env]
 show (false || (backTo pos (starEach es env)).any (·.1))=false
 rw [hs env pos];rfl
theorem CV:eval (.Call (.Name f pf) es [] pos) env=(do callWith pos (← eval (.Name f pf) env) [] (backTo pos (starEach es env)) []):=rfl
theorem Ln (R:ROk K L.up A) (hn:Au e) (hl:LOk K L (e :: es) as) (F:Fr c L ρ) (q:evs as K.C ρ c.σ Q X)
  (h:∀ (c₁:Cf K.h₀) (Vs:List V) (vals:List Value),Stp AQ c c₁→RelL c₁.s.heap c₁.φ Vs vals→Q Vs c₁.σ→P ⟨vals,[]⟩ c₁.s):wpAny K.M A (evalArgs f true (backTo pos (starEach (e :: es) L.env)) []) P (PX c X) c.s:=by
 have hl':=JR (.refl c) (hl A c ρ Q X pos R F q) fun c₁ Vs vals s₁ _ r q=>h c₁ Vs vals s₁ r q.2
 rw [hn es L.env] at hl' ⊢
 exact evalArgs_plain hl'
theorem Qu (R:ROk K L.up A) (hn:Au e) (hl:LOk K L (e :: es) as) (F:Fr c L ρ) (q:evs as K.C ρ c.σ Q X)
  (h:∀ (c₁:Cf K.h₀) (Vs:List V) (vals:List Value),Stp AQ c c₁→RelL c₁.s.heap c₁.φ Vs vals→Vs.length=(e :: es).length→Q Vs c₁.σ→P ⟨vals,[]⟩ c₁.s):wpAny K.M A (evalArgs f true (backTo pos (starEach (e :: es) L.env)) []) P (PX c X) c.s:=by
 have hl':=JR (.refl c) (hl A c ρ Q X pos R F q) fun c₁ Vs vals s₁ _ r q=>h c₁ Vs vals s₁ r q.1 q.2
 rw [hn es L.env] at hl' ⊢
 exact evalArgs_plain hl'
theorem Dj (hf:(∃ T,f=.type T)∨∃ T,f=.builtin T) (R:ROk K L.up A) (hn:Au e) (hns:B2 (e :: es))
  (hl:LOk K L (e :: es) as) (F:Fr c L ρ) (q:evs as K.C ρ c.σ Q X) (h:∀ (c₁:Cf K.h₀) (Vs:List V) (vals:List Value),Stp AQ c c₁→RelL c₁.s.heap c₁.φ Vs vals→Q Vs c₁.σ→wpAny K.M A (call f vals) P (PX c X) c₁.s) :
  wpAny K.M A (callWith pos f [] (backTo pos (starEach (e :: es) L.env)) []) P (PX c X) c.s:=by
 have key:wpAny K.M A (evalArgs f true (backTo pos (starEach (e :: es) L.env)) []) (fun a s₁=>wpAny K.M A (call f ([] ++ a.pos) a.kw) P (PX c X) s₁) (PX c X) c.s:=Ln R hn hl F q h
 rcases hf with ⟨T,rfl⟩ | ⟨T,rfl⟩
 ·exact PySem.callWith_type (hns _ _) key
 ·exact callWith_builtin (hns _ _) key
variable (K) in
inductive ItAt (A:Around) (c:Cf K.h₀) (k:SrcT) (t:Expr) (Q:List V→(AD→Prop)→AD→Prop):Value→Shared→Prop
 | mk (c₁:Cf K.h₀) (items:List V) (same:AD→Prop) (I:Addr) (fp:List Addr) (St:Nat→Cf K.h₀→Prop):Stp AQ c c₁→Q items same c₁.σ→same c₁.σ→Itr K A t I fp items same St→St 0 c₁→(∀ b ∈ fp,c.s.heap.get? b=none)→(k ≠ .enum→EZ K A I St)→ItAt A c k t Q (.ref I) c₁.s
variable (K L) in
noncomputable def Fj (iter:Expr) (k:SrcT) (as:List Ex) (t:Expr):Prop:=
 ∀ (A:Around) (c:Cf K.h₀) (ρ:List V) (Q:List V→(AD→Prop)→AD→Prop) (X:Ac),ROk K L.up A→Fr c L ρ→evs as K.C ρ c.σ (fun Vs σ₁=>∃ items same,SrcK σ₁ k Vs items same∧Q items same σ₁) X →
  wpAny K.M A (eval iter L.env) (fun x s₁=>wpAny K.M A (pyIter x) (ItAt K A c k t Q) (PX c X) s₁) (PX c X) c.s
theorem Ax {h:Heap} {o:Obj}:∀ b ob,h.get? b=some ob→(h.push o).get? b=some ob:=fun _ _ e=>Heap.get?_push_of_some _ e
theorem Eb {h:Heap} {o o':Obj}:∀ b ob,h.get? b=some ob→((h.push o).push o').get? b=some ob:=fun _ _ e=>Heap.get?_push_of_some _ (Heap.get?_push_of_some _ e)
theorem Ae {h:Heap}:h.get? h.objs.size=none:=BK (Nat.le_refl _)
theorem Eh {h:Heap} {o:Obj}:h.get? (h.push o).objs.size=none:=BK (by rw [Heap.size_push];exact Nat.le_succ _)
theorem No {iter:Expr} {a:Ex} {t:Expr} (h:EOk K L iter a):Fj K L iter .plain [a] t:=fun A c ρ Q X R F q=>
 seq (.refl c) (h A c ρ _ X R F q) fun c₁ V v s₁ _ r ⟨items,same,sk,q₁⟩=>by
  cases sk with
  | tup=>
   refine Ad (id r) fun T its z ze1 g rr=>?_;subst ze1
   have st:Stp AQ c₁ (c₁.keep { c₁.s with heap:=c₁.s.heap.push { cls:=.type "tuple_iterator", data:=.fields #[.ref T,.int 0 0] } } Ax):=Cf.keep_stp ⟨rfl,rfl⟩
   exact wpAny_pyIter_tuple ⟨_,g,rfl,z,rfl⟩ (.mk (c₁.keep _ Ax) _ _ _ _ _ (s₁.trans st) q₁ trivial (Nd (T:=T) R.hd (c₁.sim.none₀ Ae)) ⟨⟨_,Heap.get?_push_size _ rfl,rfl,rfl⟩,r.step st⟩ (one (s₁.gone Ae)) fun _=>Ki)
  | list en=>
   apply Cf.listE en r;intro l its z el g rr hz
   have st:Stp AQ c₁ (c₁.keep { c₁.s with heap:=c₁.s.heap.push { cls:=.type "list_iterator", data:=.fields #[.ref l,.int 0 0] } } Ax):=Cf.keep_stp ⟨rfl,rfl⟩
   exact wpAny_pyIter_list g.isList (.mk (c₁.keep _ Ax) _ _ _ _ _ (s₁.trans st) q₁ en (PL R.hd (c₁.sim.none₀ Ae)) ⟨en,l,el,⟨_,Heap.get?_push_size _ rfl,rfl,rfl⟩⟩ (one (s₁.gone Ae)) fun _=>M4)
  | @str x ha=>
   apply Dr r;intro u
   have st:Stp AQ c₁ (c₁.keep { c₁.s with heap:=c₁.s.heap.push { cls:=.type "str_ascii_iterator", data:=.fields #[.str x u,.int 0 0] } } Ax):=Cf.keep_stp ⟨rfl,rfl⟩
   exact wpAny_pyIter_ascii ha (.mk (c₁.keep _ Ax) _ _ _ _ _ (s₁.trans st) q₁ trivial (Rb R.hd (c₁.sim.none₀ Ae)) ⟨_,Heap.get?_push_size _ rfl,rfl,rfl⟩ (one (s₁.gone Ae)) fun _=>QN)
  | @dict n ep kvs en=>
   apply Cf.dictE en r;intro l us el D P _ hs
   have st:Stp AQ c₁ (c₁.keep { c₁.s with heap:=c₁.s.heap.push { cls:=.type "dict_keyiterator", data:=.fields #[.ref l,.int 0 0,.int us.length 0,.int ep 0] } } Ax):=Cf.keep_stp ⟨rfl,rfl⟩
   exact wpAny_pyIter_dict hs D (.mk (c₁.keep _ Ax) _ _ _ _ _ (s₁.trans st) q₁ en (O2 R.hd (c₁.sim.none₀ Ae)) ⟨en,l,el,⟨_,Heap.get?_push_size _ rfl,rfl,by rw [← P.len];rfl⟩⟩ (one (s₁.gone Ae)) fun _=>Nm)
theorem LI:bootBuiltins "range"=some (.type "range"):=by decide +kernel
theorem GZ:bootBuiltins "enumerate"=some (.type "enumerate"):=by decide +kernel
theorem JL {A:Around} {c c₁:Cf K.h₀} {a b:Int} {tk:Nat} {t1 t2 t3:Tok} {o:Obj} {t:Expr} {n:Nat} {Q:List V→(AD→Prop)→AD→Prop} {E:Value→Shared→Prop} (hh:A.handled=none) (s₁:Stp AQ c c₁) (ha:-(2 ^ 62)≤a) (ha':a < 2 ^ 62) (hb:-(2 ^ 62)≤b) (hb':b < 2 ^ 62)
  (hr:IsRange (c₁.s.heap.push o) c₁.s.heap.objs.size a b 1 t1 t2 t3) (hn:Builtin.Range.rangeSize a b 1=n) (q:Q (Cj a n) (fun _=>True) c₁.σ):wpAny K.M A (pyIter (.ref c₁.s.heap.objs.size)) (ItAt K A c .range t Q) E { c₁.s with heap:=c₁.s.heap.push o,toks:=tk }:=by
 refine wpAny_pyIter_range hr (small_one ha ha' hb hb') ?_
 rw [hn]
 exact .mk (c₁.keep { c₁.s with heap:=(c₁.s.heap.push o).push _,toks:=_ } Eb) _ _ _ _ _ (s₁.trans (Cf.keep_stp ⟨rfl,rfl⟩)) q trivial (NW (a:=a) (n:=n) hh (c₁.sim.none₀ Eh)) ((Heap.get?_push_size _ rfl).trans (by simp)) (one (s₁.gone Eh)) fun _=>Kh
theorem rsz (a b:Int):(if a < b then b - a else 0)=((b - a).toNat:Int):=by
 split
 ·rename_i h;exact (Int.toNat_of_nonneg (Int.sub_nonneg_of_le (Int.le_of_lt h))).symm
 ·rename_i h;rw [Int.toNat_of_nonpos (Int.sub_nonpos_of_le (Int.not_lt.mp h))];rfl
theorem Mt (g:Gnd K G fa mg mb) (hx:Ag G L.env.scope ("range":Str)=true) (hn:Au e) (hns:B2 (e :: es)) (hl:LOk K L (e :: es) as) :
  Fj K L (.Call (.Name ("range":Str) pf) (e :: es) [] pos) .range as t:=fun A c ρ Q X R F q=>by
 rw [CV]
 refine wpAny_bind (CE g F hx (by decide) LI (Dj (.inl ⟨_,rfl⟩) R hn hns hl F q fun c₁ Vs vals s₁ r ⟨items,same,sk,q₁⟩=>?_))
 have h62:((Ah:Nat):Int) < 2 ^ 62:=by decide
 cases sk with
 | @range b h1 h2=>
  refine Gi r.one fun _ ze1 u ze2=>?_;subst ze1;subst ze2
  exact call_range_1 (JL R.hd s₁ (by decide) (by decide) h1 (Int.lt_of_le_of_lt h2 h62) (IsRange.new _ _ _ _ _ _ _) (by rw [rangeSize_one,rsz,Int.sub_zero]) q₁)
 | @range2 a b h1 h2 h3 h4=>
  refine G2 r.two fun _ _ ze1 zt2 u' ze3=>AU zt2 fun u ze4=>?_;subst ze1;subst ze3;subst ze4
  exact call_range_2 (JL R.hd s₁ (Int.le_trans (by decide) h1) (Int.lt_of_le_of_lt h2 h62) h3 (Int.lt_of_le_of_lt h4 h62) (IsRange.new _ _ _ _ _ _ _) (by rw [rangeSize_one,rsz]) q₁)
theorem QK (g:Gnd K G fa mg mb) {e:Expr} {a:Ex} {ts:List Expr} {kt:Nat} {pt pf pos:Pos} (hx:Ag G L.env.scope ("enumerate":Str)=true) (hn:Au e) (hl:LOk K L [e] [a]) :
  Fj K L (.Call (.Name ("enumerate":Str) pf) [e] [] pos) .enum [a] (.Tuple ts kt pt):=fun A c ρ Q X R F q=>by
 rw [CV]
 refine wpAny_bind (CE g F hx (by decide) GZ (Dj (.inl ⟨_,rfl⟩) R hn (BF hn BV) hl F q fun c₁ Vs vals s₁ r ⟨items,same,sk,q₁⟩=>?_))
 cases sk with
 | enum en=>
  refine AF r.one fun _ ze1 r'=>?_;subst ze1
  apply Cf.listE en r';intro l its z el gl rr hz
  refine call_enumerate_list gl.isList fun h' he hit hsz kk=>wpAny_pyIter_enum he ?_
  have n1:c₁.s.heap.get? (c₁.s.heap.objs.size + 1)=none:=BK (Nat.le_succ _)
  exact .mk (c₁.keep { c₁.s with heap:=h' } kk) _ _ _ _ _ (s₁.trans (Cf.keep_stp ⟨rfl,rfl⟩)) q₁ en (Pt R.hd (c₁.sim.none₀ n1) (c₁.sim.none₀ Ae) (Nat.succ_ne_self _)) ⟨en,l,.none,el,he,hit⟩ (two (s₁.gone n1) (s₁.gone Ae)) fun h=>absurd rfl h
theorem SO {pos} (hu:L.up=L.env :: L.up.tail) (hs:∀ x,foldedSetIterable iter L.env x=pure x) (ht:CPat L t p) (hi:Fj K L iter k as t) (hb:SsOk K L body body') :
  SOk K L (.For t iter body [] pos) (CK p k as body'):=fun A c ρ Q R F q=>
 wpAny_For (wpAny_mono (hi A c ρ (fun items same σ₁=>FM (Er K.C p body') same items ρ σ₁ Q) _ R F q) (fun _ _ y=>wpAny_mono y (fun _ _ z=>z.casesOn fun c₁ _ _ _ _ _ s₁ q₁ _ W st0 hfp _=>codeAny_mono (OT hu R s₁ hfp W ht hb (F.step s₁) st0 q₁) fun r _ hr=>by
   cases r with
   | ok _=>exact hr
   | error _=>exact PN.came R hu hr) fun _ _ e=>e.toE F) fun _ _ e=>e.toE F) hs
variable (K) in
noncomputable def Jn (c:Cf K.h₀) (Q:AO) (X:Ac):Result→Shared→Prop
 | .ok (.ret v),s=>PV c Q v s
 | .ok _,_=>False
 | .error e,s=>PX c X e s
structure RCall (K:Ctx) (up:List Env) (A:Around):Prop where
 hd:A.handled=none
 depth:A.depth + 3 * K.d < 903
 units:A.units + 12 * K.d < 9009
 fr:A.frames=some up
theorem ROk.call (R:ROk K up A):RCall K up A:=⟨R.hd,Nat.lt_succ_of_lt R.depth,Nat.lt_of_lt_of_le R.units (by decide),R.fr⟩
variable (K G) in
noncomputable def GK (fa:Nat→Addr):Prop:=∀ (x:Str) (i:Nat),G.lookup x=some (.fn i)→∀ (A:Around) (up:List Env) (c:Cf K.h₀) (Vs:List V) (vals:List Value) (Q:AO) (X:Ac),RCall K up A→(∀ e ∈ up,FrameAt c e)→RelL c.s.heap c.φ Vs vals→K.C i Vs c.σ Q X →
 codeAny K.M A (.call (.ref (fa i)) ⟨vals,[]⟩) (Jn K c Q X) c.s
theorem H8 {vals:List Value} (s₁:Stp AQ c c₁) (h:codeAny K.M A (.call (.ref a) ⟨vals,[]⟩) (Jn K c₁ Q X) c₁.s):wpAny K.M A (call (.ref a) vals) (PV c Q) (PX c X) c₁.s:=
 wpAny_call (codeAny_mono h fun r _ hr=>match r,hr with
  | .ok (.ret _),hr=>hr.lift s₁
  | .error _,hr=>hr.lift s₁)
theorem Re (g:Gnd K G fa mg mb) (hC:GK K G fa) (hx:G.lookup x=some (.fn i)) (hm:∀ m,x ≠ AX ++ "." ++ m) (hk:BH L.env.scope x=true) (hd:A5 x=true) (hn:Au e) (hl:LOk K L (e :: es) as) :
  EOk K L (.Call (.Name x pf) (e :: es) [] pos) (AP i as):=fun A c ρ Q X R F q=>by
 rw [CV]
 refine BL (g.isfn x i hx) fun o fd ho hdat=>?_
 refine wpAny_bind (CG g F (g.fn x i hx hm) hk (Ck hd) (callWith_function (o:=o) (fd:=fd) (Ln R hn hl F q fun c₁ Vs vals s₁ r q₁=>?_)))
 exact ⟨⟨c₁.sim.keep _ _ ho,hdat⟩,H8 s₁ (hC x i hx A L.up c₁ Vs vals Q X R.call (F.step s₁).up r q₁)⟩
end
end Mine
namespace Mine
open PySem PySem.Calls
noncomputable def Ky:Ty→String
 | .int=>"int" | .bool=>"bool" | .str=>"str" | .tuple=>"tuple" | .list=>"list"
theorem OH:bootBuiltins "len"=some (.builtin "len"):=by decide +kernel
theorem HO:bootBuiltins "list"=some (.type "list"):=by decide +kernel
theorem GP:bootBuiltins "tuple"=some (.type "tuple"):=by decide +kernel
theorem Df:bootBuiltins "sorted"=some (.builtin "sorted"):=by decide +kernel
theorem KN:bootBuiltins "str"=some (.type "str"):=by decide +kernel
theorem J6:bootBuiltins "int"=some (.type "int"):=by decide +kernel
theorem NJ:bootBuiltins "bool"=some (.type "bool"):=by decide +kernel
theorem OB:bootBuiltins "min"=some (.builtin "min"):=by decide +kernel
theorem Qd:bootBuiltins "max"=some (.builtin "max"):=by decide +kernel
theorem Fz:bootBuiltins "isinstance"=some (.builtin "isinstance"):=by decide +kernel
theorem O7:bootBuiltins "all"=some (.builtin "all"):=by decide +kernel
theorem Pz:bootBuiltins "set"=some (.type "set"):=by decide +kernel
section
variable {K:Ctx} {L:Loc} {G:GlT} {fa:Nat→Addr} {mg mb:Str→Option Value}
noncomputable def GM:Pr→Value
 | .len=>.builtin "len" | .list=>.type "list" | .tuple=>.type "tuple" | .str=>.type "str" | .int=>.type "int" | .min=>.builtin "min" | .max=>.builtin "max" | .all=>.builtin "all" | .isinst _=>.builtin "isinstance"
noncomputable def Km:Pr→List Value→List Value
 | .isinst t,vs=>vs ++ [.type (Ky t)]
 | _,vs=>vs
theorem NC {bs:List Bool}:(List.range bs.length).all (fun i=>(bs[i]?).getD true)=bs.all id:=by
 rw [Bool.eq_iff_iff,List.all_eq_true,List.all_eq_true]
 constructor
 ·intro h b hb
  obtain ⟨i,hi,rfl⟩:=List.getElem_of_mem hb
  have:=h i (List.mem_range.mpr hi)
  rwa [List.getElem?_eq_getElem hi] at this
 ·intro h i hi
  rw [List.getElem?_eq_getElem (List.mem_range.mp hi)]
  exact h _ (List.getElem_mem _)
theorem Nr {A:Around} {c:Cf K.h₀} {a:Addr} {items:Array Value} {k:Nat} {bs:List Bool} {Q:AO} {E:Value→Shared→Prop} (hh:A.handled=none) (g:IsL c.s.heap a items k) (rl:RelL c.s.heap c.φ (bs.map .bool) items.toList) (q:Q (.bool (bs.all id)) c.σ) :
  wpAny K.M A (call (.builtin "all") [.ref a]) (PV c Q) E c.s:=by
 have hz:items.size=bs.length:=by rw [rl.size,List.length_map]
 refine call_all_walk (wpAny_pyIter_list g.isList ⟨_,[_,a],[_],items.size,_,_,fun i=>(bs[i]?).getD true,rfl,Walks.list (A:=A.in1) hh c.s.heap.objs.size a (Nat.ne_of_lt (Heap.lt_size g)) items,⟨⟨_,Heap.get?_push_size _ rfl,rfl,rfl⟩,g.isList.push _⟩,fun i v s Q E hP hQ=>?_,fun h' tk hk=>?_⟩)
 ·obtain ⟨V,hV⟩:∃ b,bs[i]?=some b:=by
   have:=(Array.getElem?_eq_some_iff.mp hP).1
   exact ⟨_,List.getElem?_eq_getElem (hz▸this)⟩
  refine AF (rl.get (i:=i) (V:=.bool V) (by rw [List.getElem?_map,hV];rfl)) fun u eu ru=>?_
  rw [Array.getElem?_toList,hP] at eu
  cases eu;cases ru
  dsimp only at hQ
  rw [hV] at hQ
  exact wpAny_truthy_bool hQ
 ·rw [hz,NC]
  exact PV.kept (fun b o e=>hk b o (fun m=>by rw [List.mem_singleton.mp m,Ae] at e;cases e) (Heap.get?_push_of_some _ e)) AW q
theorem Ll {A:Around} {c:Cf K.h₀} {p:Pr} {Vs:List V} {vals:List Value} {Q:AO} {E:Value→Shared→Prop} (hh:A.handled=none) (r:RelL c.s.heap c.φ Vs vals) (q:PrimK c.σ Q p Vs):wpAny K.M A (call (GM p) (Km p vals)) (PV c Q) E c.s:=by
 cases q with
 | lenL e q=>
  refine AF r.one fun v ze1 r'=>?_;subst ze1
  apply Cf.listE e r';intro a items k _ g rl z
  exact call_len_list g.isList (rl.size▸DN z) (by rw [rl.size];exact PV.plain Az q)
 | lenT hz q=>
  refine ES r.one fun v ze1 a items n ze2 g rl=>?_;subst ze1;subst ze2
  exact PySem.P.len_tuple g (Int.not_le.mpr (rl.size▸DN (Bv hz))) (by rw [rl.size];exact PV.plain Az q)
 | lenS hz q=>
  refine Gi r.one fun v ze1 t ze2=>?_;subst ze1;subst ze2
  exact PySem.P.len_str (Int.not_le.mpr (DN (Bv hz))) (PV.plain Az q)
 | all e q=>
  refine AF r.one fun v ze1 r'=>?_;subst ze1
  apply Cf.listE e r';intro a items k _ g rl z
  exact Nr hh g rl q
 | list e q=>
  refine AF r.one fun v ze1 r'=>?_;subst ze1
  apply Cf.listE e r';intro a items k _ g rl z
  exact PySem.call_list_seq (hsz:=BS (rl.size▸z)) a (.inl rfl) g rfl rfl fun h' c' hk hD=>PV.list (tk:=c.s.toks) rl z Ae hk hD q
 | tuple e q=>
  refine AF r.one fun v ze1 r'=>?_;subst ze1
  apply Cf.listE e r';intro a items k _ g rl z
  refine call_tuple_list g.isList (fun h' hk=>?_) (BS (rl.size▸z))
  have st:Stp AQ c (c.keep { c.s with heap:=h' } hk):=Cf.keep_stp ⟨rfl,rfl⟩
  exact (PV.pushT (rl.step st) q).lift st
 | str hb q=>
  refine Gi r.one fun v ze1 t ze2=>?_;subst ze1;subst ze2
  exact PySem.P.str_of_int (Nat.lt_of_lt_of_le (Ff hb) (by decide)) (PV.plain Bo q)
 | intB q=>refine AF r.one fun v ze1 ze2=>?_;subst ze1;subst ze2;exact call_int_bool (PV.plain Az q)
 | min q=>
  refine G2 r.two fun v u ze1 zt2 t' ze3=>AU zt2 fun t ze4=>?_;subst ze1;subst ze3;subst ze4
  exact min_two_ints hh fun h' tk k=>PV.kept k (by split <;> exact Az) q
 | max q=>
  refine G2 r.two fun v u ze1 zt2 t' ze3=>AU zt2 fun t ze4=>?_;subst ze1;subst ze3;subst ze4
  exact max_two_ints hh fun h' tk k=>PV.kept k (by split <;> exact Az) q
 | @isB t b q=>refine AF r.one fun v ze1 ze2=>?_;subst ze1;subst ze2;cases t <;> first | exact IsiPair.bool_int (PV.same AW q) | exact IsiPair.bool_bool (PV.same AW q) | exact IsiPair.bool_str (PV.plain AW q) | exact IsiPair.bool_tuple (PV.plain AW q) | exact IsiPair.bool_list (PV.plain AW q)
 | @isI t b q=>refine Gi r.one fun v ze1 u ze2=>?_;subst ze1;subst ze2;cases t <;> first | exact IsiPair.int_int (PV.same AW q) | exact IsiPair.int_bool (PV.plain AW q) | exact IsiPair.int_str (PV.plain AW q) | exact IsiPair.int_tuple (PV.plain AW q) | exact IsiPair.int_list (PV.plain AW q)
 | @isS t b q=>refine Gi r.one fun v ze1 u ze2=>?_;subst ze1;subst ze2;cases t <;> first | exact IsiPair.str_int (PV.plain AW q) | exact IsiPair.str_bool (PV.plain AW q) | exact IsiPair.str_str (PV.same AW q) | exact IsiPair.str_tuple (PV.plain AW q) | exact IsiPair.str_list (PV.plain AW q)
 | @isT t b q=>
  refine ES r.one fun v ze1 a items n ze2 g rl=>?_;subst ze1;subst ze2
  have hT:c.s.heap.IsTuple a items:=⟨_,g,rfl,n,rfl⟩
  cases t <;> first | exact IsiPair.isTuple_int hT (fun _ _ e=>e) (PV.plain AW q) | exact IsiPair.isTuple_bool hT (fun _ _ e=>e) (PV.plain AW q) | exact IsiPair.isTuple_str hT (fun _ _ e=>e) (PV.plain AW q) | exact IsiPair.isTuple_tuple hT (fun _ _ e=>e) (PV.same AW q) | exact IsiPair.isTuple_list hT (fun _ _ e=>e) (PV.plain AW q)
 | @isL t _ _ e q=>
  refine AF r.one fun v ze1 r'=>?_;subst ze1
  apply Cf.listE e r';intro a items k _ g rl z
  have hT:=g.isList
  cases t <;> first | exact IsiPair.isList_int hT (fun _ _ e=>e) (PV.plain AW q) | exact IsiPair.isList_bool hT (fun _ _ e=>e) (PV.plain AW q) | exact IsiPair.isList_str hT (fun _ _ e=>e) (PV.plain AW q) | exact IsiPair.isList_tuple hT (fun _ _ e=>e) (PV.plain AW q) | exact IsiPair.isList_list hT (fun _ _ e=>e) (PV.same AW q)
theorem Te (g:Gnd K G fa mg mb) (hp:∀ vs,Km p vs=vs) (hx:Ag G L.env.scope x=true) (hb:x ∈ B6) (hv:bootBuiltins x=some (GM p))
  (hf:(∃ T,GM p=.type T)∨∃ T,GM p=.builtin T) (hn:Au e) (hns:B2 (e :: es)) (hl:LOk K L (e :: es) as):EOk K L (.Call (.Name x pf) (e :: es) [] pos) (A0 p as):=fun A c ρ Q X R F q=>by
 rw [CV]
 exact wpAny_bind (CE g F hx hb hv (Dj hf R hn hns hl F q fun c₁ Vs vals s₁ r q₁=>fin s₁ (hp vals▸Ll R.hd r q₁)))
theorem M9 (g:Gnd K G fa mg mb) (hi:Ag G L.env.scope ("isinstance":Str)=true) (hx:Ag G L.env.scope x=true) (hb:x ∈ B6) (hv:bootBuiltins x=some (.type (Ky ty)))
  (hn:Au e) (h:EOk K L e a):EOk K L (.Call (.Name ("isinstance":Str) pf) [e,.Name x pt] [] pos) (A0 (.isinst ty) [a]):=fun A c ρ Q X R F q=>by
 rw [CV]
 refine wpAny_bind (CE g F hi (by decide) Fz (callWith_builtin (by rw [hn];rfl) ?_))
 have key:wpAny K.M A (spliced (backTo pos (starEach [e,.Name x pt] L.env))) (fun vals s₁=>wpAny K.M A (call (.builtin "isinstance") ([] ++ vals) []) (PV c Q) (PX c X) s₁) (PX c X) c.s:=
  wpAny_items_cons (seq (.refl c) (h A c ρ _ X R F q) fun c₁ V v s₁ _ r q₁=>wpAny_items_cons (CE g (F.step s₁) hx hb hv (wpAny_items_nil (fin s₁ (Ll (c:=c₁) (Vs:=[V]) (vals:=[v]) R.hd ⟨r,trivial⟩ q₁))))) (hn _ _)
 rw [hn] at key ⊢
 exact evalArgs_plain key
theorem Nz {α:Type} {l:List α} (h:l.Nodup) {i j:Nat} {a:α} (hi:l[i]?=some a) (hj:l[j]?=some a):i=j:=by
 refine AU (List.getElem?_eq_some_iff.mp hi) fun hi ei=>?_
 refine AU (List.getElem?_eq_some_iff.mp hj) fun hj ej=>?_
 rw [List.nodup_iff_pairwise_ne,List.pairwise_iff_getElem] at h
 refine O4 (Nat.lt_trichotomy i j) (fun q=>?_) (fun q=>?_) (fun q=>?_)
 ·exact absurd (ei.trans ej.symm) (h i j hi hj q)
 ·exact q
 ·exact absurd (ej.trans ei.symm) (h j i hj hi q)
theorem Cf.setO (ea:c.φ[n]?=some a) (hn0:n ≠ 0) (kk:∀ b ob,b ≠ a→c.s.heap.get? b=some ob→h'.get? b=some ob) (hr:∀ (_:∀ Vs us,RelL c.s.heap c.φ Vs us→RelL h' c.φ Vs us),RelO K.h₀ h' c.φ o a) :
  ∃ c':Cf K.h₀,c'.s={ c.s with heap:=h',toks:=tk }∧c'.φ=c.φ∧c'.σ=c.σ.set n o∧Stp AQ c c':=by
 have ma:a ∈ c.φ:=List.mem_of_getElem? ea
 have kt:∀ b items n,c.s.heap.get? b=some { cls:=.type "tuple", data:=.seq items n }→h'.get? b=some { cls:=.type "tuple", data:=.seq items n }:=fun b items n e=>kk b _ (fun q=>c.sim.noTup ma items n (q▸e)) e
 have hr:=hr fun Vs us r=>RelL.keep kt (List.prefix_refl _) Vs us r
 have S:Sim K.h₀ h' c.φ (c.σ.set n o):=by
  refine ⟨fun b ob e=>kk b ob (fun q=>?_) (c.sim.keep b ob e),by rw [List.length_set];exact c.sim.len,c.sim.nodup,c.sim.new,fun m ob e=>?_⟩
  ·match n,hn0 with
   | n + 1,_=>rw [q,c.sim.new n a ea] at e;cases e
  ·by_cases hm:n=m
   ·subst hm;exact ⟨a,ea,CZ e▸hr⟩
   ·rw [Ek hm] at e
    refine AF (c.sim.obj m ob e) fun b eb r=>?_
    exact ⟨b,eb,r.keep (List.prefix_refl _) kt fun ob e=>kk b ob (fun q=>hm (Nz c.sim.nodup ea (q▸eb))) e⟩
 refine ⟨⟨{ c.s with heap:=h',toks:=tk },c.φ,c.σ.set n o,S⟩,rfl,rfl,rfl,⟨⟨rfl,rfl⟩,List.prefix_refl _,fun b ob hb _ e=>⟨ob,kk b ob (fun q=>hb (q▸ma)) e,.refl ob⟩,fun _ m=>.inl m⟩,fun b ob e=>?_⟩
 by_cases hb:b=a
 ·subst hb;exact hr.there.casesOn fun o' e' _ _=>⟨o',e'⟩
 ·exact ⟨ob,kk b ob hb e⟩
theorem Hp {V W:Mine.V} (r:Rel c.s.heap c.φ V v) (r':Rel c.s.heap c.φ W u) (q:AppK c.σ Q W V):wpAny K.M A (call (.builtin "list.append") [v,u]) (PV c Q) E c.s:=by
 cases q with
 | mk en hz hn q=>
  apply Cf.listE en r;intro a items k ea g rl z
  refine wpAny_list_append_plain ⟨k,g⟩ (fun h' hp hs=>?_) (BS (Nat.le_of_lt (rl.size▸hz)))
  refine AU hp fun k' e'=>?_
  refine BQ (Cf.setO (o:=.list _) (tk:=c.s.toks) ea hn (fun b ob hb e=>(hs.2 b hb).trans e) fun keep=>⟨_,k',e',by rw [Array.toList_push];exact (keep _ _ rl).append (keep [W] [u] ⟨r',trivial⟩),by rw [List.length_append];exact hz⟩) fun c' e1 e2 e3 st=>?_
  exact e1▸.mk c' .none st CO (e3▸q)
theorem Ny (hbase:∀ env,attributeBase o ("append":Str) env (eval o env)=eval o env) (hline:(apos.endLine == pos.line)=true) (hn:Au e)
  (ho:EOk K L o a) (he:EOk K L e b):EOk K L (.Call (.Attribute o ("append":Str) apos) [e] [] pos) (FX a b):=fun A c ρ Q X R F q=>
 wpAny_Call_append (hbase L.env) (by rw [hn];rfl) hline (by rw [hn];rfl) (seq (.refl c) (ho A c ρ _ X R F q) fun c₁ V v s₁ _ r₁ q₁=>by
  obtain ⟨⟨n,us,rfl,en⟩,q₁⟩:=q₁
  refine Ak (Cf.list en r₁) fun l items k ze1 el gl rr hz=>?_;subst ze1
  exact ⟨l,items,rfl,⟨_,k,gl,rfl,rfl,rfl⟩,seq s₁ (he A c₁ ρ _ X R (F.step s₁) q₁) fun c₂ W u s₂ t₂ r₂ q₂=>fin s₂ (Hp (r₁.step t₂) r₂ q₂)⟩)
theorem R8 {A:Around} {c:Cf K.h₀} {ρ:List V} {Q:AO} {C:Br} {x y:Str} {i j:Nat} {px py apos pos:Pos} (F:Fr c L ρ) (hx:L.vs.lookup x=some i) (kx:C2 L.env.scope x=true) (nx:A5 x=true) (hy:L.vs.lookup y=some j) (ky:C2 L.env.scope y=true) (ny:A5 y=true)
  (hline:(apos.endLine == pos.line)=true) (q:FX (AA i) (AA j) C ρ c.σ Q noX):wpAny K.M A (eval (.Call (.Attribute (.Name x px) ("append":Str) apos) [.Name y py] [] pos) L.env) (PV c Q) (PX c noX) c.s:=
 wpAny_Call_append rfl rfl hline rfl (seq (.refl c) (JD (Q:=fun v σ₁=>isList σ₁ v∧M3 (fun u=>AppK σ₁ Q u v) ρ[j]?) hx kx nx F q) fun c₁ V v s₁ _ r₁ q₁=>by
  obtain ⟨⟨n,us,rfl,en⟩,q₁⟩:=q₁
  refine Ak (Cf.list en r₁) fun l items k ze1 el gl rr hz=>?_;subst ze1
  exact ⟨l,items,rfl,⟨_,k,gl,rfl,rfl,rfl⟩,seq s₁ (JD (Q:=fun u σ₂=>AppK σ₂ Q u (.ref n)) hy ky ny (F.step s₁) q₁) fun c₂ W u s₂ t₂ r₂ q₂=>fin s₂ (Hp (r₁.step t₂) r₂ q₂)⟩)
theorem RelL.ind {P:List V→List Value→Prop} (n:P [] []) (c:∀ {V v Vs vs},Rel h φ V v→RelL h φ Vs vs→P Vs vs→P (V :: Vs) (v :: vs)) {Vs:List V}:∀ {vs:List Value},RelL h φ Vs vs→P Vs vs:=by
 induction Vs with
 | nil=>intro vs r;cases vs with
  | nil=>exact n
  | cons _ _=>exact r.elim
 | cons V Vs ih=>intro vs r;cases vs with
  | nil=>exact r.elim
  | cons v vs=>exact c r.1 r.2 (ih r.2)
theorem Op {Vs:List V} (r:RelL h φ Vs us) (q:Rel h φ v u):∀ j,RelL h φ (Vs.set j v) (us.set j u):=
 RelL.ind (P:=fun Vs us=>∀ j,RelL h φ (Vs.set j v) (us.set j u)) (fun _=>trivial) (fun a b ih j=>by
  cases j with
  | zero=>exact ⟨q,b⟩
  | succ j=>exact ⟨a,ih j⟩) r
theorem RP (k:Str) (v:V) (kvs:List (Str × V)):(put k v kvs).length≤kvs.length + 1:=by
 unfold put
 split
 ·rw [List.length_map];exact Nat.le_succ _
 ·rw [List.length_append];exact Nat.le_refl _
theorem OX {α β:Type} {f:α→Str} {g:β→Str} {k:Str}:∀ {as:List α} {bs:List β},bs.map g=as.map f→(bs.any fun p=>decide (g p=k))=as.any fun p=>decide (f p=k)
 | [],[],_=>rfl
 | [],_ :: _,e=>nomatch e
 | _ :: _,[],e=>nomatch e
 | a :: as,b :: bs,e=>by
  have e:g b :: bs.map g=f a :: as.map f:=e
  injection e with e1 e2
  rw [List.any_cons,List.any_cons,e1,OX e2]
theorem Jf (r:Rel h φ v u):∀ {kvs:List (Str × V)} {us:List (Str × Value)},us.map (·.1)=kvs.map (·.1)→RelL h φ (kvs.map (·.2)) (us.map (·.2)) →
  (us.map fun p=>if p.1=k then (p.1,u) else p).map (·.1)=(kvs.map fun p=>if p.1=k then (p.1,v) else p).map (·.1)∧RelL h φ ((kvs.map fun p=>if p.1=k then (p.1,v) else p).map (·.2)) ((us.map fun p=>if p.1=k then (p.1,u) else p).map (·.2))
 | [],[],_,_=>⟨rfl,trivial⟩
 | [],_ :: _,e,_=>nomatch e
 | _ :: _,[],e,_=>nomatch e
 | (x,V) :: kvs,(y,w) :: us,e,q=>by
  have e:y :: us.map (·.1)=x :: kvs.map (·.1):=e
  injection e with e1 e2
  subst e1
  obtain ⟨h1,h2⟩:=Jf (k:=k) r e2 q.2
  by_cases hk:y=k
  ·simp only [List.map_cons,if_pos hk];exact ⟨congrArg _ h1,r,h2⟩
  ·simp only [List.map_cons,if_neg hk];exact ⟨congrArg _ h1,q.1,h2⟩
theorem RelP.put {h h':Heap} {φ:List Addr} {k:Str} {v:V} {u:Value} {kvs:List (Str × V)} {us:List (Str × Value)} (P:RelP h φ kvs us) (keep:∀ Vs vs,RelL h φ Vs vs→RelL h' φ Vs vs) (r:Rel h φ v u):RelP h' φ (Mine.put k v kvs) (stored us k u):=by
 have r':Rel h' φ v u:=(keep [v] [u] ⟨r,trivial⟩).1
 have hl:=keep _ _ P.2
 unfold Mine.put stored
 rw [OX (k:=k) P.1]
 by_cases ha:kvs.any (fun p=>decide (p.1=k))=true
 ·rw [if_pos ha,if_pos ha];exact Jf r' P.1 hl
 ·rw [if_neg ha,if_neg ha]
  exact ⟨by rw [List.map_append,List.map_append,P.1];rfl,by rw [List.map_append,List.map_append];exact hl.append ⟨r',trivial⟩⟩
theorem Ul (ro:Rel c.s.heap c.φ o ov) (ri:Rel c.s.heap c.φ i iv) (rv:Rel c.s.heap c.φ v u)
  (q:SetK c.σ T v o i) (h:∀ c':Cf K.h₀,Stp AQ c c'→T c'.σ→P () c'.s):wpAny K.M A (setItem ov iv u) P E c.s:=by
 cases q with
 | @mk n vs k en hn hk q=>
  apply Cf.listE en ro;intro a items z ea g rl hz
  apply Dr ri;intro t
  have gg:c.s.heap.get? a=some (PySem.W.listOf items z):=g
  refine PySem.W.ki_setAt gg (Int.natCast_nonneg k) (DN (Nat.le_trans (Nat.le_of_lt hk) hz)) (by rw [rl.size];exact Int.ofNat_lt.mpr hk) ?_
  refine BQ (Cf.setO (c:=c) (o:=.list (vs.set k v)) (tk:=c.s.toks) ea hn (fun b ob hb e=>((Heap.SameBut.update ..).2 b hb).trans e) fun keep=>⟨_,_,PySem.IsL.update g (·.setIfInBounds k u),by rw [Array.toList_setIfInBounds];exact keep _ _ (Op rl rv k),by rw [List.length_set];exact hz⟩) fun c' e1 e2 e3 st=>?_
  exact e1▸h c' st (e3▸q)
 | @dict n ep kvs k en hn hz q=>
  apply Cf.dictE en ro;intro a us ea D P _ hs
  apply Dr ri;intro t
  refine wpAny_setItem_pairs (strKind_is _ _ k t) D.dictOf (fun h' D' hb=>?_) (DU (Nat.le_of_lt (P.len.symm▸hz)))
  refine AU D'.dictAt fun ep' D'=>?_
  refine BQ (Cf.setO (c:=c) (o:=.dict ep' (put k v kvs)) (tk:=c.s.toks + 1) ea hn (fun b ob h e=>(hb.2 b h).trans e) fun keep=>⟨_,D',P.put (fun _ _ r=>keep _ _ r) rv,Bv (Nat.le_trans (RP k v kvs) hz),hs⟩) fun c' e1 e2 e3 st=>?_
  exact e1▸h c' st (e3▸q ep')
theorem Oi (hs:swapsWith value (some (.Subscript o i pos')) pos.line L.env=pure false) (ho:EOk K L o a) (hi:EOk K L i b) (hv:EOk K L value e):SOk K L (.Assign [.Subscript o i pos'] value pos) (Ja a b e):=fun A c ρ Q R F q=>
 wpAny_Assign_Subscript (Oh (.refl c) F (hv A c ρ _ _ R F q) fun c₁ _ _ s₁ _ r₁ q₁=>Oh s₁ F (ho A c₁ ρ _ _ R (F.step s₁) q₁) fun c₂ _ _ s₂ t₂ r₂ q₂=>Oh s₂ F (hi A c₂ ρ _ _ R (F.step s₂) q₂) fun c₃ _ _ s₃ t₃ r₃ q₃=>
  Ul (r₂.step t₃) r₃ ((r₁.step t₂).step t₃) q₃ fun c₄ s₄ q₄=>.next c₄ ρ (s₃.trans s₄).any (F.step (s₃.trans s₄)) q₄) hs
theorem Jo {h:Heap} {o o':Obj} (k:o'.isFreed=false:=by rfl):((h.push o).push o').get? (h.objs.size + 1)=some o':=by rw [← Heap.size_push h o];exact Heap.get?_push_size _ k
theorem H5 {i:Int} {n:Nat} (h:i < 0):i + n≤n:=by have:=Int.add_le_add_right (Int.le_of_lt h) (n:Int);rwa [Int.zero_add] at this
theorem QD (i n:Nat):((min i n:Nat):Int)=min (i:Int) n:=(Nat.le_total i n).elim (fun h=>by rw [Nat.min_eq_left h,Int.min_eq_left (Int.ofNat_le.mpr h)]) fun h=>by rw [Nat.min_eq_right h,Int.min_eq_right (Int.ofNat_le.mpr h)]
theorem Jj {n d:Nat} {z:Nat} (b:BoundK n d o z) (r:Rel h φ (o.getD .none) v):∃ a,IsPart v a∧(match a with | none=>(d:Int) | some i=>max 0 (min (if i < 0 then i + n else i) n))=(z:Int):=by
 cases b with
 | no=>exact ⟨none,by cases r;exact .none,rfl⟩
 | @pos i _ _ hj=>
  refine AU r fun t e=>?_
  refine ⟨some i,e▸.int _ t,?_⟩
  show max 0 (min (if (i:Int) < 0 then _ else _) _)=_
  rw [if_neg (Int.not_lt.mpr (Int.natCast_nonneg i)),← QD,Int.max_eq_right (Int.natCast_nonneg _),hj]
 | @neg i _ h0 _ hj=>
  refine AU r fun t e=>?_
  refine ⟨some i,e▸.int _ t,?_⟩
  show max 0 (min (if i < 0 then _ else _) _)=_
  rw [if_pos h0,Int.min_eq_left (H5 h0),Int.max_comm,← Int.toNat_eq_max,hj]
theorem Fg (hx:BoundK n 0 lo x) (hy:BoundK n n hi y) (rl:Rel h φ (lo.getD .none) vl) (ru:Rel h φ (hi.getD .none) vu) :
  ∃ a b,IsPart vl a∧IsPart vu b∧sliceBounds a b none n=((x:Int),(y:Int),1):=by
 refine AF (Jj hx rl) fun a pa ea=>?_
 refine AF (Jj hy ru) fun b pb eb=>?_
 refine ⟨a,b,pa,pb,?_⟩
 rw [← ea,← eb]
 cases a <;> cases b <;> rfl
theorem HH {Vs:List V} (n:Nat) (r:RelL h φ Vs us):RelL h φ (Vs.drop n) (us.drop n):=by
 revert n
 refine RelL.ind (P:=fun Vs us=>∀ n:Nat,RelL h φ (Vs.drop n) (us.drop n)) (fun n=>?_) (fun a b ih n=>?_) r
 ·rw [List.drop_nil,List.drop_nil];exact trivial
 ·cases n with
  | zero=>exact ⟨a,b⟩
  | succ n=>exact ih n
theorem HT {Vs:List V} (n:Nat) (r:RelL h φ Vs us):RelL h φ (Vs.take n) (us.take n):=by
 revert n
 refine RelL.ind (P:=fun Vs us=>∀ n:Nat,RelL h φ (Vs.take n) (us.take n)) (fun n=>?_) (fun a b ih n=>?_) r
 ·rw [List.take_nil,List.take_nil];exact trivial
 ·cases n with
  | zero=>exact trivial
  | succ n=>exact ⟨a,ih n⟩
variable (K L) in
noncomputable def OOk (e:Option Expr) (a:Option Ex):Prop:=
 ∀ (A:Around) (c:Cf K.h₀) (ρ:List V) (Q:Option V→AD→Prop) (X:Ac),ROk K L.up A→Fr c L ρ→evo a K.C ρ c.σ Q X→wpAny K.M A (evalPart e L.env) (PV c fun x σ=>∃ o,x=Option.getD o .none∧Q o σ) (PX c X) c.s
theorem OY:OOk K L none none:=fun _ c _ _ _ _ _ q=>wpAny_pure (.mk c .none (.refl c) CO ⟨none,rfl,q⟩)
theorem QJ (h:EOk K L e a):OOk K L (some e) (some a):=fun A c ρ Q X R F q=>by
 rw [evalPart_some]
 exact seq (.refl c) (h A c ρ _ X R F q) fun c₁ V _ s₁ _ r q₁=>.mk c₁ V s₁ r ⟨some V,rfl,q₁⟩
theorem NH (hm:∀ {A:Around} {E:Value→Shared→Prop} {s:Shared} {o r:Value} {P:Unit→Shared→Prop},P () s→wpAny M A (letTemporaryGo value o r) P E s)
  (h:wpAny M A (eval value env) (fun o s₁=>wpAny M A (eval (.Slice lower upper none p) env) (fun i s₂=>(∃ T id,typeLookup (.type T) "__getitem__"=pure (some (.builtin id))∧s₂.TypeIs o T)∧wpAny M A (getItem o i) Q E s₂) E s₁) E s) :
  wpAny M A (eval (.Subscript value (.Slice lower upper none p) pos) env) Q E s:=by
 rw [eval_Subscript]
 refine wpAny_bind (wpAny_mono h (fun o s₁ h₁=>wpAny_bind (wpAny_holding (wpAny_mono h₁ (fun i s₂ h₂=>wpAny_bind (wpAny_standAt ?_)) fun _ _ x=>x))) fun _ _ x=>x)
 obtain ⟨⟨T,id,hl,hT⟩,h₂⟩:=h₂
 have last:wpAny M A (operate [i,o] (getItem o i)) (fun r s₃=>wpAny M A (letTemporaryGo value o r >>= fun _=>pure r) Q E s₃) E s₂:=wpAny_operating (wpAny_mono h₂ (fun r s₃ h₃=>wpAny_bind (hm (wpAny_pure h₃))) fun _ _ x=>x)
 refine wpAny_bind ?_
 rw [getitemInPython_of_ne hT.not_modules]
 refine wpAny_bind (wpAny_specialOf hT hl ?_)
 first
  | exact wpAny_pure (wpAny_bind last)
  | exact wpAny_bind (wpAny_pure (wpAny_bind last))
  | exact wpAny_bind last
theorem KJ {n d j:Nat} (h:BoundK n d o j) (hd:d≤n):j≤n:=by
 cases h with
 | no=>exact hd
 | pos _ e=>exact an3 .le .v0 .v1 (.q .v0 .v2 (.l .v2 .v1 .e)) rfl e (Nat.min_le_right _ _)
 | neg h0 _ e=>exact e▸Int.toNat_le.mpr (H5 h0)
theorem Jz:IsPart v o→∃ l,v=partValue l∧l.map (·.1)=o
 | .none=>⟨none,rfl,rfl⟩
 | .int i t=>⟨some (i,t),rfl,rfl⟩
theorem RQ {α:Type} {l:List α} {x y:Nat} (h:(cut l x y).length=l.length):cut l x y=l:=((List.drop_sublist _ _).trans (List.take_sublist _ _)).eq_of_length h
theorem Ti {α:Type} {l:List α} {x y:Nat}:(cut l x y).length≤l.length:=by
 unfold cut;rw [List.length_drop,List.length_take];exact Nat.le_trans (Nat.sub_le _ _) (Nat.min_le_right _ _)
theorem Ph {α:Type} {l:List α} {x y:Nat} (h:y≤l.length):(cut l x y).length=y - x:=by
 unfold cut;rw [List.length_drop,List.length_take,Nat.min_eq_left h]
theorem G8 {n x y:Nat} (h:sliceBounds a b none n=((x:Int),(y:Int),1)):Builtin.Slice.sliceAdjust a b 1 (n:Int)=((x:Int),(y:Int)):=by
 have key:∀ v:Int,(if v < 0 then max (v + n) 0 else min v n)=max 0 (min (if v < 0 then v + n else v) n):=fun v=>by
  by_cases hv:v < 0
  ·rw [if_pos hv,if_pos hv,Int.min_eq_left (H5 hv),Int.max_comm]
  ·rw [if_neg hv,if_neg hv,Int.max_eq_right (Int.le_min.mpr ⟨Int.not_lt.mp hv,Int.natCast_nonneg n⟩)]
 have h1:(sliceBounds a b none n).1=x:=congrArg Prod.fst h
 have h2:(sliceBounds a b none n).2.1=y:=congrArg (fun p=>p.2.1) h
 rw [← h1,← h2]
 refine Prod.ext ?_ ?_
 ·cases a with
  | none=>rfl
  | some v=>exact key v
 ·cases b with
  | none=>rfl
  | some v=>exact key v
theorem G6 (x y:Nat):Builtin.Slice.slicePlaces (x:Int) (y:Int) 1=y - x:=by
 unfold Builtin.Slice.slicePlaces
 have h1:(1:Int) > 0:=by exact ari [] .lt .n0 .n1 .e rfl
 simp only [h1,if_true,Int.ediv_one]
 split
 ·rw [Int.sub_add_cancel];exact Int.toNat_sub y x
 ·rename_i h;exact (Nat.sub_eq_zero_of_le (Int.ofNat_le.mp (Int.not_lt.mp h))).symm
section
variable {prog:Program} {w:World} {A:Around} {E:Value→Shared→Prop} {s:Shared}
theorem HY (p:IsPart v k) (h:Q k s):wpAny (model prog w) A (Builtin.Slice.slicePartIndex v) Q E s:=by
 cases p with
 | none=>exact PyProof.Rows.slicePart_none h
 | int i t=>exact PyProof.Rows.slicePart_int h
theorem Fi {n x y:Nat} {Q:Int × Int × Nat→Shared→Prop} (hs:s.heap.IsSliceOf sl vl vu .none) (pl:IsPart vl a) (pu:IsPart vu b) (hb:sliceBounds a b none n=((x:Int),(y:Int),1)) (h:Q ((x:Int),1,y - x) s) :
  wpAny (model prog w) A (Builtin.Slice.sliceApplied (.ref sl) (pure (n:Int))) Q E s:=by
 refine AZ (id hs) fun os hos hcs hds=>?_
 unfold Builtin.Slice.sliceApplied Builtin.Slice.sliceFields
 refine wpAny_bind (wpAny_bind (wpAny_field hos hds (x:=vl) rfl (wpAny_bind (wpAny_field hos hds (x:=vu) rfl (wpAny_bind (wpAny_field hos hds (x:=.none) rfl (wpAny_pure ?_)))))))
 refine wpAny_bind (PyProof.Rows.slicePart_none ?_)
 show wpAny _ _ (if ((1:Int) == 0)=true then _ else _) _ _ s
 rw [if_neg (by decide)]
 refine wpAny_bind (HY pl (wpAny_bind (HY pu (wpAny_bind (wpAny_pure ?_)))))
 show wpAny _ _ (match Builtin.Slice.sliceAdjust a b 1 (n:Int) with | (lo,hi)=>pure (lo,(1:Int),Builtin.Slice.slicePlaces lo hi 1)) _ _ s
 rw [G8 hb]
 show wpAny _ _ (pure ((x:Int),(1:Int),Builtin.Slice.slicePlaces (x:Int) (y:Int) 1)) _ _ s
 rw [G6 x y]
 exact wpAny_pure h
theorem Ov (xs:Array Value) (a k:Nat):((List.range k).filterMap fun (j:Nat)=>xs[((a:Int) + (j:Int) * 1).toNat]?)=(xs.toList.drop a).take k:=by
 have e:(fun (j:Nat)=>xs[((a:Int) + (j:Int) * 1).toNat]?)=fun j=>xs[a + j]?:=by
  funext j
  rw [Int.mul_one,← Int.natCast_add,Int.toNat_natCast]
 rw [e]
 have:=pick_run xs a k
 rw [List.filterMap_map] at this
 exact this
theorem EI {z:Nat} {x y:Nat} {Q:Value→Shared→Prop} (ht:IsT s.heap t items z) (hs:s.heap.IsSliceOf sl vl vu .none) (pl:IsPart vl a) (pu:IsPart vu b) (hb:sliceBounds a b none items.size=((x:Int),(y:Int),1))
  (hlt:y - x < items.size) (hsz:items.size≤sizeLine) (h:Q (.ref s.heap.objs.size) { s with heap:=s.heap.push { cls:=.type "tuple", data:=.seq ((items.toList.drop x).take (y - x)).toArray } }):wpAny (model prog w) A (getItem (.ref t) (.ref sl)) Q E s:=by
 have hdrop:sizeOk (.seq ((items.toList.drop x).take (y - x)).toArray):=by
  show ((items.toList.drop x).take (y - x)).toArray.size≤sizeLine
  rw [List.size_toArray,List.length_take]
  exact Nat.le_trans (Nat.min_le_left _ _) (Nat.le_trans (Nat.le_of_lt hlt) hsz)
 refine AZ (id hs) fun os hos hcs hds=>?_
 have hTs:s.TypeIs (.ref sl) "slice":=⟨os,hos,hcs⟩
 have hT:PyProof.Rows.IsTup s.heap t items:=⟨_,ht,rfl,z,rfl⟩
 unfold getItem
 try with_reducible refine wpAny_holding ?_
 first | refine wpAny_bind (wpAny_pure ?_) | skip
 refine wpAny_bind (wpAny_sequenceKey hT.typeIs (by decide) ?_)
 refine wpAny_bind (wpAny_callSpecial?_slot (name:=Str.ofString "__getitem__") hT.typeIs PyProof.Rows.slot_tuple_getitem
  (wpAny_call_entry PyProof.Rows.slot_tuple_getitem hT.typeIs PyProof.Rows.entry_tuple_getitem ?_ (PyProof.Rows.args_tuple_getitem _ _)))
 show wpAny _ _ (Builtin.Tuple.tupleItemsOf (.ref t) >>= _) _ _ s
 refine wpAny_bind (PyProof.Rows.tupleItemsOf_ hT ?_)
 refine wpAny_bind (wpAny_typeOf hTs ?_)
 rw [if_pos (by decide)]
 refine wpAny_bind (Fi hs pl pu hb ?_)
 have hno:¬ (((x:Int) == 0 && (1:Int) == 1 && (y - x) == items.size)=true):=fun q=>by
  have:=beq_iff_eq.mp (Bool.and_eq_true_iff.mp q).2
  exact am2 (.p .v0 .v1 (.t .v0 .v1 .e)) rfl this hlt
 show wpAny _ _ (if ((x:Int) == 0 && (1:Int) == 1 && (y - x) == items.size)=true then _ else _) _ _ s
 rw [if_neg hno,Ov items x (y - x)]
 first
  | exact wpAny_bind (m:=Builtin.Tuple.tupleExact _) (wpAny_newObj_type (wpAny_pure ⟨_,rfl,wpAny_pure h⟩) hdrop)
  | exact wpAny_bind (m:=Builtin.Tuple.tupleExact _) (wpAny_newObj_type (wpAny_bind (wpAny_pure (wpAny_pure ⟨_,rfl,wpAny_pure h⟩))) hdrop)
  | exact wpAny_bind (wpAny_bind (m:=Builtin.Tuple.tupleExact _) (wpAny_newObj_type (wpAny_pure (wpAny_pure ⟨_,rfl,wpAny_pure h⟩)) hdrop))
  | exact wpAny_bind (wpAny_bind (m:=Builtin.Tuple.tupleExact _) (wpAny_newObj_type (wpAny_pure ⟨_,rfl,wpAny_pure h⟩) hdrop))
end
theorem N7 {value:Expr} {lo hi:Option Expr} {a:Ex} {x y:Option Ex} {p pos:Pos} (hv:EOk K L value a) (hl:OOk K L lo x) (hh:OOk K L hi y):EOk K L (.Subscript value (.Slice lo hi none p) pos) (As a x y):=fun A c ρ Q X R F q=>
 NH (fun h=>wpAny_letTemporaryGo h) (seq (.refl c) (hv A c ρ _ X R F q) fun c₁ V u s₁ _ r₁ q₁=>wpAny_Slice (seq s₁ (hl A c₁ ρ _ X R (F.step s₁) q₁) fun c₂ V₂ vl s₂ t₂ r₂ ⟨lv,e₂,q₂⟩=>seq s₂ (hh A c₂ ρ _ X R (F.step s₂) q₂) fun c₃ V₃ vu s₃ t₃ r₃ ⟨hv,e₃,q₃⟩=>by
  rw [evalPart_none]
  refine wpAny_pure ?_
  subst e₂ e₃
  have r₁:=(r₁.step t₂).step t₃
  cases q₃ with
  | list en hx hy q=>
   apply Cf.listE en r₁;intro l items k _ g rL z
   rw [← rL.size] at hx hy
   refine A3 (Fg hx hy (r₂.step t₃) r₃) fun pa pb p1 p2 hb=>?_
   refine ⟨⟨"list", _,list_getitem_lookup,(g.isList.push _).typeIs⟩,wpAny_getItem_list_slice (g.isList.push _) (Heap.IsSliceOf.new ..) p1 p2 .none (by simp) ?_ (BS (rL.size▸z))⟩
   rw [Heap.size_push]
   refine PV.lift s₃ (PV.list (tk:=c₃.s.toks) ?_ ?_ (BK (Nat.le_succ _)) Eb Jo q)
   ·show RelL _ _ _ (slicePick items pa pb none).toList
    unfold slicePick
    rw [hb]
    simp only [sliceRange_one,pick_run]
    unfold cut
    rw [List.drop_take]
    exact HT _ (HH _ rL)
   ·unfold cut;rw [List.length_drop,List.length_take];exact Nat.le_trans (Nat.sub_le _ _) (Nat.le_trans (Nat.min_le_right _ _) z)
  | @tup vs lv hv' x y hz hx hy hc q=>
   refine Ad (id r₁) fun T items z ze1 g rL=>?_;subst ze1
   have hl:=rL.size
   rw [← hl] at hx hy hc hz
   refine A3 (Fg hx hy (r₂.step t₃) r₃) fun pa pb p1 p2 hb=>?_
   have hy':=KJ hy (Nat.le_refl _)
   have hlen:(cut vs x y).length=y - x:=Ph (hl▸hy')
   rw [hlen] at hc
   refine ⟨⟨"tuple", _,PyProof.Rows.slot_tuple_getitem.lookup,⟨_,Heap.get?_push_of_some _ g,rfl⟩⟩,EI (z:=z) (Heap.get?_push_of_some _ g) (Heap.IsSliceOf.new ..) p1 p2 hb hc (DU hz) ?_⟩
   rw [Heap.size_push]
   refine PV.lift s₃ (PV.tup (tk:=c₃.s.toks) (Vs:=cut vs x y) ?_ Eb Jo q)
   show RelL _ _ (cut vs x y) ((items.toList.drop x).take (y - x))
   unfold cut
   rw [List.drop_take]
   exact HT _ (HH _ rL)
  | @str z lv hv' x y hz hx hy q=>
   apply Dr r₁;intro t
   refine A3 (Fg hx hy (r₂.step t₃) r₃) fun pa pb p1 p2 hb=>?_
   refine AF (Jz p1) fun l1 ze1 m1=>?_;subst ze1
   refine AF (Jz p2) fun l2 ze1 m2=>?_;subst ze1
   refine ⟨⟨"str", _,PySem.F.slot_str_getitem.lookup,typeIs_str _ _ _⟩,wpAny_getItem_str_slice (l:=l1) (u:=l2) (st:=none) ⟨_,Heap.get?_push_size _ rfl,rfl,rfl⟩ rfl ?_⟩
   have e:slicePicked z l1 l2 none=(List.range (y - x)).map (x + ·):=by
    have:slicePicked z l1 l2 none=sliceRange (sliceBounds pa pb none z.length).1 (sliceBounds pa pb none z.length).2.1 1:=by
     unfold slicePicked
     rw [m1,m2]
     rfl
    rw [this,hb,sliceRange_one]
   have hp:(slicePicked z l1 l2 none).filterMap (z.cps[·]?)=cut z.cps.toList x y:=by
    rw [e,pick_run]
    unfold cut
    rw [List.drop_take]
   have hl:z.length=z.cps.toList.length:=Array.length_toList.symm
   have hy':=KJ hy (Nat.le_refl _)
   have hlen:(slicePicked z l1 l2 none).length=(cut z.cps.toList x y).length:=by
    rw [e,List.length_map,List.length_range,Ph (hl▸hy')]
   unfold sliceMade
   rw [hp,hlen]
   split
   ·rename_i hc
    have hc:=beq_iff_eq.mp (Bool.and_eq_true_iff.mp hc).2
    rw [RQ (hc.trans hl)] at q
    exact PV.lift s₃ (PV.kept (tk:=c₃.s.toks) Ax Bo q)
   ·refine ⟨?_,PV.lift s₃ (PV.kept Ax Bo q)⟩
    show (cut z.cps.toList x y).toArray.size≤sizeLine
    rw [List.size_toArray]
    exact DU (Nat.le_trans Ti (hl▸hz))))
end
end Mine
namespace Mine
open PySem PySem.Calls
set_option genSizeOf false
set_option genInjectivity false
section
variable {K:Ctx} {L:Loc}
theorem NS (hbase:∀ env,attributeBase o ("extend":Str) env (eval o env)=eval o env) (hline:(apos.endLine == pos.line)=true) (hn:Au e)
  (ho:EOk K L o a) (he:EOk K L e b):EOk K L (.Call (.Attribute o ("extend":Str) apos) [e] [] pos) (TH a b):=fun A c ρ Q X R F q=>
 wpAny_Call_method1_late (hbase L.env) hline (by rw [hn];rfl) (seq (.refl c) (ho A c ρ _ X R F q) fun c₁ V v s₁ _ r₁ q₁=>by
  obtain ⟨⟨n,us,rfl,en⟩,q₁⟩:=q₁
  refine Ak (Cf.list en r₁) fun l items k ze1 el gl rr hz=>?_;subst ze1
  refine ⟨"list", "list.extend", PySem.F.plainAttrs_list,PySem.F.slot_list_extend,PySem.F.type_list_extend,⟨_,gl,rfl⟩,fun a e=>by cases e;exact ⟨_,gl,rfl⟩,?_⟩
  refine PySem.P.extend_list (seq s₁ (he A c₁ ρ _ X R (F.step s₁) q₁) fun c₂ W u s₂ t₂ r₂ q₂=>?_)
  cases q₂ with
  | mk en em hz hn q=>
   refine Ak (Cf.list en (r₁.step t₂)) fun l' it1 k1 e1 el1 g1 rl1 z1=>?_
   cases e1
   refine Ak (Cf.list em r₂) fun l2 it2 k2 ze1 el2 g2 rl2 z2=>?_;subst ze1
   have hs:it1.size + it2.size≤sizeLine:=by rw [rl1.size,rl2.size];exact BS hz
   refine ⟨l2,it1,it2,k1,k2,Nat.le_trans (Nat.le_add_right _ _) hs,Nat.le_succ_of_le hs,fun q=>?_,rfl,g1,g2,?_⟩
   ·exact Nat.not_lt.mpr hs (of_decide_eq_true (Bool.and_eq_true_iff.mp q).2)
   refine BQ (Cf.setO (c:=c₂) (o:=.list _) (tk:=c₂.s.toks) el1 hn (fun b ob hb e=>((Heap.SameBut.update ..).2 b hb).trans e) fun keep=>⟨_,_,PySem.IsL.update g1 (· ++ it2),by rw [Array.toList_append];exact (keep _ _ rl1).append (keep _ _ rl2),by rw [List.length_append];exact hz⟩) fun c' e1 e2 e3 st=>?_
   exact PV.lift s₂ (e1▸.mk c' .none st CO (e3▸q)))
theorem Pp (hbase:∀ env,attributeBase o ("clear":Str) env (eval o env)=eval o env) (hline:(apos.endLine == pos.line)=true) (ho:EOk K L o a):EOk K L (.Call (.Attribute o ("clear":Str) apos) [] [] pos) (Tl a):=fun A c ρ Q X R F q=>
 wpAny_Call_method0_late (hbase L.env) hline (seq (.refl c) (ho A c ρ _ X R F q) fun c₁ V v s₁ _ r₁ q₁=>by
  cases q₁ with
  | mk en hn q=>
   refine Ak (Cf.list en r₁) fun l items k ze1 el gl rr hz=>?_;subst ze1
   refine ⟨"list", "list.clear", PySem.F.plainAttrs_list,PySem.F.slot_list_clear,PySem.F.type_list_clear,⟨_,gl,rfl⟩,fun a e=>by cases e;exact ⟨_,gl,rfl⟩,?_⟩
   refine PySem.P.clear_list gl ?_ (by rw [rr.size];exact BS hz)
   refine BQ (Cf.setO (c:=c₁) (o:=.list []) (tk:=c₁.s.toks) el hn (fun b ob hb e=>((Heap.SameBut.update ..).2 b hb).trans e) fun keep=>⟨_,_,PySem.IsL.update gl (fun _=>#[]),trivial,Nat.zero_le _⟩) fun c' e1 e2 e3 st=>?_
   exact PV.lift s₁ (e1▸.mk c' .none st CO (e3▸q)))
theorem Jw:∀ {kvs:List (Str × V)} {us:List (Str × Value)},us.map (·.1)=kvs.map (·.1)→RelL h φ (kvs.map (·.2)) (us.map (·.2)) →
  (without us k).map (·.1)=(del k kvs).map (·.1)∧RelL h φ ((del k kvs).map (·.2)) ((without us k).map (·.2))
 | [],[],_,_=>⟨rfl,trivial⟩
 | [],_ :: _,e,_=>nomatch e
 | _ :: _,[],e,_=>nomatch e
 | (x,V) :: kvs,(y,w) :: us,e,q=>by
  have e:y :: us.map (·.1)=x :: kvs.map (·.1):=e
  injection e with e1 e2
  subst e1
  obtain ⟨h1,h2⟩:=Jw (k:=k) e2 q.2
  unfold without del at *
  by_cases hk:y=k
  ·rw [List.filter_cons_of_neg (by simp [hk]),List.filter_cons_of_neg (by simp [hk])];exact ⟨h1,h2⟩
  ·rw [List.filter_cons_of_pos (by simp [hk]),List.filter_cons_of_pos (by simp [hk])];exact ⟨congrArg _ h1,q.1,h2⟩
theorem TW (hbase:∀ env,attributeBase o ("pop":Str) env (eval o env)=eval o env) (hline:(apos.endLine == pos.line)=true) (hn:Au e)
  (ho:EOk K L o a) (he:EOk K L e b):EOk K L (.Call (.Attribute o ("pop":Str) apos) [e] [] pos) (SH a b):=fun A c ρ Q X R F q=>
 wpAny_Call_method1_late (hbase L.env) hline (by rw [hn];rfl) (seq (.refl c) (ho A c ρ _ X R F q) fun c₁ V v s₁ _ r₁ q₁=>by
  obtain ⟨⟨n,ep,kvs,rfl,en⟩,q₁⟩:=q₁
  refine BX (Cf.dict en r₁) fun l us ze1 el D P z hs=>?_;subst ze1
  refine ⟨"dict", "dict.pop", PySem.F.plainAttrs_dict,PySem.F.slot_dict_pop,PySem.F.type_dict_pop,D.dictOf.typeIs,D.dictOf.mapOf.noDict,?_⟩
  refine method1_meetsIn PySem.F.slot_dict_pop PySem.F.entry_dict_pop (seq s₁ (he A c₁ ρ _ X R (F.step s₁) q₁) fun c₂ W u s₂ t₂ r₂ q₂=>?_)
  cases q₂ with
  | @mk n ep kvs k V en hn hv q=>
   refine BX (Cf.dict en (r₁.step t₂)) fun l' us' e1 el1 D1 P1 z1 hs1=>?_
   cases e1
   refine AU r₂ fun t ze1=>?_;subst ze1
   refine AF (P1.at.1 V hv) fun v hv' rv=>?_
   refine ⟨D1.dictOf.typeIs,PySem.F.args_dict_pop_2 _ _,_,meets_dict_pop_there (knd:=strKind K.h₀.prog K.h₀.w) (k:=k) l (strKind_is _ _ k t) [] (.inl rfl) rfl,us',v,D1.dictOf,BS (P1.len.symm▸z1),hv',fun h' D2 hb=>?_⟩
   refine AU D2.dictAt fun ep' D2=>?_
   refine BQ (Cf.setO (c:=c₂) (o:=.dict ep' (del k kvs)) (tk:=c₂.s.toks + 1) el1 hn (fun b ob h e=>(hb.2 b h).trans e) fun keep=>⟨_,D2,Jw P1.1 (keep _ _ P1.2),Nat.le_trans (List.length_filter_le ..) z1,hs1⟩) fun c' e1 e2 e3 st=>?_
   exact PV.lift s₂ (e1▸.mk c' V st (rv.step st) (e3▸q ep')))
theorem RW {pos}:SOk K L (.Break pos) Uh:=fun _ c ρ _ _ F q=>wpAny_bind (wpAny_standAt (wpAny_pure (.brk c ρ (.refl c) F q)))
theorem Mq {pos} (hu:L.up=L.env :: L.up.tail) (ht:TOk K L test t) (hb:SsOk K L body body'):SOk K L (.While test body [] pos) (Em t body'):=fun A c ρ Q R F q=>by
 refine AU q fun n q=>?_
 refine wpAny_While (codeAny_mono (R:=fun r s'=>match r with | .ok f=>PF c L Q f s' | .error e=>PN c L Q e s') ?_ fun r _ hr=>by
  cases r with
  | ok _=>exact hr
  | error _=>exact PN.came R hu hr)
 refine codeAny_whileLoop (fun n s'=>∃ c' ρ',c'.s=s'∧Stp L.own c c'∧Fr c' L ρ'∧GN K.C t body' Q n ρ' c'.σ) ?_ n ⟨c,ρ,rfl,.refl c,F,q⟩
 rintro n s' ⟨c',ρ',rfl,stp,F',q'⟩
 cases n with
 | zero=>exact q'.elim
 | succ n=>
  refine wpAny_mono (ht A c' ρ' _ _ R F' q') (fun b s₂ y=>?_) fun e s₂ x=>(PE.lift stp (x.toE F'):PE c L Q e s₂).note R hu
  cases b with
  | false=>exact y.casesOn fun c₁ s₁ q₁=>wpAny_execs_nil (.next c₁ ρ' (stp.trans s₁.any) (F'.step s₁) q₁)
  | true=>
   refine y.casesOn fun c₁ s₁ q₁=>?_
   refine wpAny_mono (hb A c₁ ρ' _ R (F'.step s₁) q₁) (fun f s₄ y=>?_) fun e s₄ y=>(PE.lift (stp.trans s₁.any) ?_:PE c L Q e s₄).note R hu
   ·have st₁:=stp.trans s₁.any
    exact y.casesOn (fun c₄ ρ₄ s₄ F₄ q₄=>⟨n,Nat.lt_succ_self n,c₄,ρ₄,rfl,st₁.trans s₄,F₄,q₄⟩) (fun c₄ ρ₄ s₄ F₄ q₄=>.next c₄ ρ₄ (st₁.trans s₄) F₄ q₄) (fun c₄ ρ₄ s₄ F₄ q₄=>⟨n,Nat.lt_succ_self n,c₄,ρ₄,rfl,st₁.trans s₄,F₄,q₄⟩) fun c₄ ρ₄ V u s₄ F₄ r q₄=>.ret c₄ ρ₄ V u (st₁.trans s₄) F₄ r q₄
   ·exact y.casesOn fun c₄ ρ₄ k a fp fl n hk s₄ F₄ ex h q₄=>.mk c₄ ρ₄ k a fp fl n hk s₄ F₄ ex h q₄
end
end Mine
namespace Mine
open PySem PySem.Calls
set_option genSizeOf false
set_option genInjectivity false
noncomputable def DF:Nat→List Str→Vs
 | _,[]=>[]
 | n,x :: r=>(x,n) :: DF (n + 1) r
theorem Ha:∀ (xs:List Str) (n:Nat) {x:Str} {i:Nat},(DF n xs).lookup x=some i→∃ j,i=n + j∧xs[j]?=some x
 | y :: r,n,x,i,h=>by
  rw [DF,List.lookup_cons] at h
  cases e:x == y with
  | true=>rw [e] at h;exact ⟨0,(Option.some.inj h).symm,congrArg some (beq_iff_eq.mp e).symm⟩
  | false=>rw [e] at h;refine AF (Ha r (n + 1) h) fun j h1 h2=>?_;exact ⟨j + 1,h1.trans (by rw [Nat.add_assoc,Nat.add_comm 1]),h2⟩
theorem Ew (h:(DF 0 xs).lookup x=some i):xs[i]?=some x:=by refine AF (Ha xs 0 h) fun _ e q=>?_;exact (e.trans (Nat.zero_add _))▸q
theorem Md (ps:List Str):∀ (vs:List Value) (m:Str→Option Value) {x:Str},x ∉ ps→bindL k (ps.zip vs) m x=m x:=by
 induction ps with
 | nil=>exact fun _ _ _ _=>rfl
 | cons p ps ih=>intro vs m x h;cases vs with
  | nil=>rfl
  | cons v vs=>
   rw [List.zip_cons_cons,bindL,ih vs _ (fun hh=>h (List.mem_cons_of_mem _ hh))]
   by_cases hk:k p=some .local
   ·rw [if_pos hk];exact if_neg (show ¬ x=p from fun e=>h (e▸List.mem_cons_self))
   ·rw [if_neg hk]
theorem NT (ps:List Str):∀ (vs:List Value) (m:Str→Option Value) {x:Str},x ∉ ps→bindC k (ps.zip vs) m x=m x:=by
 induction ps with
 | nil=>exact fun _ _ _ _=>rfl
 | cons p ps ih=>intro vs m x h;cases vs with
  | nil=>rfl
  | cons v vs=>
   rw [List.zip_cons_cons,bindC,ih vs _ (fun hh=>h (List.mem_cons_of_mem _ hh))]
   by_cases hk:k p=some .local
   ·rw [if_pos hk]
   ·rw [if_neg hk];exact if_neg (show ¬ x=p from fun e=>h (e▸List.mem_cons_self))
theorem Mp (ps:List Str):∀ (vs:List Value) (m:Str→Option Value) {i:Nat} {x:Str} {v:Value},ps.Nodup→ps[i]?=some x→vs[i]?=some v→k x=some .local→bindL k (ps.zip vs) m x=some v:=by
 induction ps with
 | nil=>intro vs m i x v _ h;exact absurd h.symm (Option.some_ne_none x)
 | cons p ps ih=>intro vs m i x v hnd h h' hk;cases vs with
  | nil=>exact absurd h'.symm (Option.some_ne_none v)
  | cons u vs=>
   rw [List.zip_cons_cons,bindL]
   cases i with
   | zero=>
    rw [← Option.some.inj h,← Option.some.inj h',Md ps vs _ (List.nodup_cons.mp hnd).1,if_pos (Option.some.inj h▸hk),if_pos rfl]
   | succ i=>exact ih vs _ (List.nodup_cons.mp hnd).2 h h' hk
theorem Mg (ps:List Str):∀ (vs:List Value) (m:Str→Option Value) {i:Nat} {x:Str} {v:Value},ps.Nodup→ps[i]?=some x→vs[i]?=some v→k x ≠ some .local→bindC k (ps.zip vs) m x=some v:=by
 induction ps with
 | nil=>intro vs m i x v _ h;exact absurd h.symm (Option.some_ne_none x)
 | cons p ps ih=>intro vs m i x v hnd h h' hk;cases vs with
  | nil=>exact absurd h'.symm (Option.some_ne_none v)
  | cons u vs=>
   rw [List.zip_cons_cons,bindC]
   cases i with
   | zero=>
    rw [← Option.some.inj h,← Option.some.inj h',NT ps vs _ (List.nodup_cons.mp hnd).1,if_neg (Option.some.inj h▸hk),if_pos rfl]
   | succ i=>exact ih vs _ (List.nodup_cons.mp hnd).2 h h' hk
theorem DS:∀ (names:List (Str × NameKind)) (n:Nat) (acc:List (Str × Addr)) {x:Str},(acc.lookup x).isSome=true∨(x,NameKind.cell) ∈ names→((cellsFrom n names acc).lookup x).isSome=true
 | [],_,_,_,h=>h.elim id fun h=>nomatch h
 | (y,k) :: r,n,acc,x,h=>by
  rw [cellsFrom]
  cases hk:k == NameKind.cell with
  | false=>exact DS r n acc (h.imp id fun m=>(List.mem_cons.mp m).resolve_left fun e=>by cases e;cases hk)
  | true=>
   refine DS r (n + 1) _ ?_
   rw [List.lookup_cons]
   cases e:x == y with
   | true=>exact .inl rfl
   | false=>exact h.imp id fun m=>(List.mem_cons.mp m).resolve_left fun e'=>by cases e';rw [beq_self_eq_true] at e;cases e
noncomputable def Uy (sc:Scope):List Str:=(sc.names.filter fun x=>(x.2 == .local || x.2 == .cell) && x.1 != (".0":Str)).map (·.1)
noncomputable def BA (ps:List Str) (sc:Scope):List Str:=ps ++ (Uy sc).filter fun x=>!ps.contains x
noncomputable def Fk (sc:Scope) (x:Str):Bool:=match sc.names.lookup x with
 | some .local | some .cell=>true
 | _=>false
theorem Cm (h:Fk sc x=true):sc.names.lookup x=some .local∨sc.names.lookup x=some .cell:=by
 unfold Fk at h
 split at h
 ·exact .inl ‹_›
 ·exact .inr ‹_›
 ·cases h
structure DefOk (scope:Scope) (args:List Str):Prop where
 nodup:args.Nodup
 own:∀ x ∈ BA args scope,Fk scope x=true
 kind:scope.kind=.function
 co:scope.isCoroutine=false
 gen:scope.isGenerator=false
noncomputable abbrev Ca (args:List Str) (sc:Scope):Vs:=DF 0 (BA args sc)
theorem JM {h₀:Bs} {c c':Cf h₀} {ps xs:List Str} {Vs:List V} {vals:List Value} {i k:Nat} {x:Str} {ov:Option Value} (hl:ps.length=Vs.length) (rl:RelL c.s.heap c.φ Vs vals) (hx:(ps ++ xs)[i]?=some x) (st:WStp AQ c c')
  (h:∀ v,ps[i]?=some x→vals[i]?=some v→ov=some v):SlotIs c' (Vs ++ List.replicate k V.undef) i ov:=fun W hW hne=>by
 have hi:i < Vs.length:=Nat.lt_of_not_le fun h=>hne (by
  rw [List.getElem?_append_right h,List.getElem?_replicate] at hW
  split at hW
  ·exact (Option.some.inj hW).symm
  ·cases hW)
 rw [List.getElem?_append_left hi] at hW
 rw [List.getElem?_append_left (hl▸hi)] at hx
 refine AF (rl.get hW) fun v e r=>?_
 exact ⟨v,h v hx e,r.own st fun _ f=>f.elim⟩
section
variable {K:Ctx}
theorem K5 {c:Cf K.h₀} {s₁:Shared} {fd:FuncData} {a:Addr} {args:List Str} {Vs:List V} {vals:List Value} {k:Nat} (D:DefOk fd.scope args) (hg:fd.globals=mainGlobals) (hb:fd.builtins=builtinsNs) (rl:RelL c.s.heap c.φ Vs vals) (hl:args.length=Vs.length) {up:List Env} (hup:∀ e ∈ up,FrameAt c e)
  (x:InCallC c.s (callEnvC fd c.s.heap.objs.size a).locals (bindL (callEnvC fd c.s.heap.objs.size a).kindOf (args.zip vals) fun _=>none) (callEnvC fd c.s.heap.objs.size a).cells (bindC (callEnvC fd c.s.heap.objs.size a).kindOf (args.zip vals) fun _=>none) s₁) :
  Fr (c.keep s₁ x.toInCall.keep) ⟨callEnvC fd c.s.heap.objs.size a,Ca args fd.scope,callEnvC fd c.s.heap.objs.size a :: up⟩ (Vs ++ List.replicate k V.undef):=by
 have st:WStp AQ c (c.keep s₁ x.toInCall.keep):=by
  refine BL x.done fun h₁ tk ze1 _=>?_;subst ze1
  exact (Cf.keep_stp (c:=c) (k:=x.toInCall.keep) ⟨rfl,rfl⟩).toWStp
 exact {
  fn:=D.kind
  glob:=hg
  blt:=hb
  locNew:=c.sim.none₀ Ae
  locOut:=c.sim.out Ae
  inj:=fun y z i hy hz=>Option.some.inj ((Ew hy).symm.trans (Ew hz))
  ns:=.mk _ x.toInCall.ns fun y i hy hk=>JM hl rl (Ew hy) st fun v h1 h2=>Mp _ _ _ D.nodup h1 h2 hk
  cell:=fun y i hy hk=>by
   have hget:=Ew hy
   have hc:fd.scope.names.lookup y=some .cell:=(Cm (D.own y (List.mem_of_getElem? hget))).resolve_left fun e=>by
    rw [show (callEnvC fd c.s.heap.objs.size a).kindOf y=_ from e] at hk
    refine Or.elim hk (fun q=>?_) (fun q=>?_) <;> cases q
   refine AU (Option.isSome_iff_exists.mp (DS fd.scope.names (c.s.heap.objs.size + 1) [] (.inr (mem_of_lookup hc)))) fun b ec=>?_
   have ec':(callEnvC fd c.s.heap.objs.size a).cells.lookup y=some b:=ec
   have n:c.s.heap.get? b=none:=BK (Nat.le_of_lt (x.above y b (mem_of_lookup ec')))
   exact .mk b _ ec' (c.sim.out n) (c.sim.none₀ n) (x.cell y b ec') (JM hl rl hget st fun v h1 h2=>Mg _ _ _ D.nodup h1 h2 (by rw [show (callEnvC fd c.s.heap.objs.size a).kindOf y=_ from hc];exact nofun))
  cellInj:=fun y z i j b _ _ h1 h2=>name_of_addr x.apart (mem_of_lookup h1) (mem_of_lookup h2)
  up:=fun e m=>(List.mem_cons.mp m).elim (fun q=>by subst q;exact ⟨(fun q=>nomatch D.kind.symm.trans q),_,_,rfl,c.sim.none₀ Ae,c.sim.out Ae,x.toInCall.ns⟩) fun m=>(hup e m).keep st fun _ _ _ _ f=>f }
theorem SQ (hd:K.d=d) {Vs:List V} {vals:List Value}
  (hp:fd.params=⟨[],args,none,[],[],none,[]⟩) (D:DefOk fd.scope (args.map (·.arg))) (hg:fd.globals=mainGlobals) (hb:fd.builtins=builtinsNs) (hbody:fd.body=.stmts body) (hclo:fd.closure=[]) (hdf:fd.defaults=.none) (hup:∀ e ∈ up,FrameAt c e) (R:A.handled=none∧A.depth + 3 * (d + 1) < 903∧A.units + 12 * (d + 1) < 9009∧A.frames=some up) (ho:c.s.heap.get? a=some o) (hdat:o.data=.func fd) (hlim:c.s.heap.NoLimit) (hcd:c.s.heap.CodeRec fd.code fd.qualname) (rl:RelL c.s.heap c.φ Vs vals) (hl:(args.map (·.arg)).length=Vs.length)
  (hB:∀ env,env.scope=fd.scope→env.code=fd.code→env.qual=fd.qualname ++ ".<locals>."→QT K ⟨env,Ca (args.map (·.arg)) fd.scope,env :: up⟩ body body') (q:Bw body' K.C (Vs ++ List.replicate k V.undef) c.σ (LF Q X)):codeAny K.M A (.call (.ref a) ⟨vals,[]⟩) (Jn K c Q X) c.s:=by
 refine KS R fun hh hdep hun hfr=>?_
 have hroom:A.depth < recursionLimit:=Nat.lt_of_lt_of_le (Nat.lt_of_le_of_lt (Nat.le_add_right _ _) hdep) (by decide)
 refine codeAny_call_cells (binds:=(args.map (·.arg)).zip vals) hroom ho hdat hlim hcd hbody (D0 hp hdf (hl.trans rl.length) D.nodup) hclo (fun y hy=>?_) (fun s₁ x=>?_) D.co D.gen D.kind
 ·exact (Cm (D.own y.1 (List.mem_append_left _ (List.of_mem_zip hy).1))).imp id fun e=>⟨e,DS _ _ _ (.inr (mem_of_lookup e))⟩
 ·have F:=K5 (k:=k) (a:=a) D hg hb rl hl hup x
  have st₀:Stp AQ c (c.keep s₁ x.toInCall.keep):=by
   refine BL x.done fun h₁ tk ze1 _=>?_;subst ze1
   exact Cf.keep_stp ⟨rfl,rfl⟩
  have new:∀ b,Loc.own ⟨callEnvC fd c.s.heap.objs.size a,Ca (args.map (·.arg)) fd.scope,callEnvC fd c.s.heap.objs.size a :: up⟩ b→c.s.heap.get? b=none:=fun b h=>h.elim (fun e=>e▸Ae) fun h=>A3 h fun y i _ _ ec=>BK (Nat.le_of_lt (x.above y b (mem_of_lookup ec)))
  have R':RFun K (callEnvC fd c.s.heap.objs.size a :: up) (A.deeper (callEnvC fd c.s.heap.objs.size a)):=⟨hh,by rw [hd];show A.depth + 1 + 3 * d < 901;exact an2 .lt (.a (.a .v0 .n1) (.m 3 .v1)) (.n 901) (.t (.a .v0 (.m 3 (.a .v1 .n1))) (.n 903) .e) rfl hdep,by rw [hd];show A.units + 3 + 12 * d < 9000;exact an2 .lt (.a (.a .v0 .n3) (.m 12 .v1)) (.n 9000) (.t (.a .v0 (.m 12 (.a .v1 .n1))) (.n 9009) .e) rfl hun,by show A.frames.map _=_;rw [hfr];rfl⟩
  refine wpAny_mono (hB _ rfl rfl rfl _ (c.keep s₁ x.toInCall.keep) _ _ R' F q) (fun f s' y=>?_) fun e s' y=>?_
  ·cases y with
   | next c' _ st _ q=>exact .mk c' .none (st₀.transNew st.toWStp new) CO q
   | ret c' _ V _ st _ r q=>exact .mk c' V (st₀.transNew st.toWStp new) r q
   | brk _ _ _ _ q=>exact q.elim
   | cont _ _ _ _ q=>exact q.elim
  ·refine Bq (y.at R'.ok rfl) fun c' ρ' k a' fp fl ze1 ze2 z hk q st n=>?_;subst ze1;subst ze2
   exact QU (P:=fun s=>PX c X (.ref a') s) z fun c'' T e1 e2 st' F' ex hp=>.mk c'' k a' [a',T] (fun b m=>⟨st₀.gone (EV e1 st n hp b m).1,(EV e1 st n hp b m).2⟩) hk ((st₀.transNew st.toWStp new).transNew st' fun b m=>st₀.gone (n b m).1) ex (e2▸q)
end
end Mine
namespace Mine
open PySem PySem.Calls
set_option genSizeOf false
set_option genInjectivity false
noncomputable def CM (env:Env):List (Str × NameKind)→List (Str × Addr)→List (Str × Addr)
 | [],acc=>acc
 | (n,k) :: r,acc=>if k == .free then CM env r ((n,(env.cells.lookup n).getD 0) :: acc) else CM env r acc
theorem EY:∀ (names:List (Str × NameKind)) (acc:List (Str × Addr)),(∀ y ∈ names,y.2=.free→∃ a,env.cells.lookup y.1=some a) →
  (forIn names acc fun x cs=>(if x.2 == NameKind.free then do let a ← cellOf env x.1;pure (ForInStep.yield ((x.1,a) :: cs)) else pure (ForInStep.yield cs):Sem (ForInStep (List (Str × Addr)))))=pure (CM env names acc)
 | [],_,_=>rfl
 | (n,k) :: r,acc,hh=>by
  rw [List.forIn_cons,CM]
  dsimp only
  cases hk:k == NameKind.free with
  | false=>exact EY r acc fun y hy=>hh y (List.mem_cons_of_mem _ hy)
  | true=>
   refine AU (hh (n,k) List.mem_cons_self (beq_iff_eq.mp hk)) fun a ha=>?_
   rw [if_pos rfl,if_pos rfl,show cellOf env n=pure a by unfold cellOf;rw [ha],ha]
   exact EY r _ fun y hy=>hh y (List.mem_cons_of_mem _ hy)
theorem Ku (h:∀ y ∈ sc.names,y.2=.free→∃ a,env.cells.lookup y.1=some a):closureFor sc env=pure (CM env sc.names []):=by
 exact congrArg (fun m:Sem (List (Str × Addr))=>m >>= pure) (EY sc.names [] h)
theorem Ge (env:Env):∀ (names:List (Str × NameKind)) (acc:List (Str × Addr)) (y:Str),(∀ p ∈ acc,p.2=(env.cells.lookup p.1).getD 0)→(acc.lookup y).isSome=true∨(y,NameKind.free) ∈ names →
  (CM env names acc).lookup y=some ((env.cells.lookup y).getD 0)
 | [],acc,y,ha,h=>by
  refine AU (Option.isSome_iff_exists.mp (h.resolve_right fun h=>nomatch h)) fun a hc=>?_
  exact hc.trans (congrArg some (ha (y,a) (mem_of_lookup hc)))
 | (n,k) :: r,acc,y,ha,h=>by
  rw [CM]
  cases hk:k == NameKind.free with
  | false=>exact Ge env r acc y ha (h.imp id fun m=>(List.mem_cons.mp m).resolve_left fun e=>by cases e;cases hk)
  | true=>
   refine Ge env r _ y (fun p hp=>(List.mem_cons.mp hp).elim (fun e=>e▸rfl) (ha p)) ?_
   rw [List.lookup_cons]
   cases e:y == n with
   | true=>exact .inl rfl
   | false=>exact h.imp id fun m=>(List.mem_cons.mp m).resolve_left fun e'=>by cases e';rw [beq_self_eq_true] at e;cases e
theorem EE (env:Env):∀ (names:List (Str × NameKind)) (acc:List (Str × Addr)) (y:Str),acc.lookup y=none→(y,NameKind.free) ∉ names→(CM env names acc).lookup y=none
 | [],_,_,h,_=>h
 | (n,k) :: r,acc,y,h,hn=>by
  rw [CM]
  cases hk:k == NameKind.free with
  | false=>exact EE env r acc y h fun m=>hn (List.mem_cons_of_mem _ m)
  | true=>
   refine EE env r _ y ?_ fun m=>hn (List.mem_cons_of_mem _ m)
   rw [List.lookup_cons,beq_eq_false_iff_ne.mpr fun e=>hn (by rw [e,← beq_iff_eq.mp hk];exact List.mem_cons_self)]
   exact h
theorem Dp {env:Env} {x:Str}:∀ (names:List (Str × NameKind)),
  (names.map fun (n,k)=>if (k == NameKind.free && env.scope.kind == .function && env.kindOf n == some .cell) then (n,NameKind.cell) else (n,k)).lookup x =
  (names.lookup x).map fun k=>if (k == NameKind.free && env.scope.kind == .function && env.kindOf x == some .cell) then NameKind.cell else k
 | []=>rfl
 | (n,k) :: r=>by
  have ih:=Dp (env:=env) (x:=x) r
  show List.lookup x ((if (k == NameKind.free && env.scope.kind == .function && env.kindOf n == some .cell)=true then (n,NameKind.cell) else (n,k)) :: _)=Option.map _ (List.lookup x ((n,k) :: r))
  by_cases hc:(k == NameKind.free && env.scope.kind == .function && env.kindOf n == some .cell)=true
  ·rw [if_pos hc,List.lookup_cons,List.lookup_cons]
   cases e:x == n with
   | true=>rw [beq_iff_eq.mp e];exact congrArg some (if_pos hc).symm
   | false=>exact ih
  ·rw [if_neg hc,List.lookup_cons,List.lookup_cons]
   cases e:x == n with
   | true=>rw [beq_iff_eq.mp e];exact congrArg some (if_neg hc).symm
   | false=>exact ih
theorem Dx {env:Env} {sc:Scope} {x:Str}:(relabel sc env).names.lookup x=(sc.names.lookup x).map fun k=>if (k == NameKind.free && env.scope.kind == .function && env.kindOf x == some .cell) then NameKind.cell else k:=Dp sc.names
theorem JK (h:sc.names.lookup y=some .free):(relabel sc env).names.lookup y=some .cell∨(relabel sc env).names.lookup y=some .free:=by
 rw [Dx,h,Option.map_some]
 split
 ·exact .inl rfl
 ·exact .inr rfl
structure CompSc (L:Loc) (sc:Scope) (vs':Vs) (x:Str) (i:Nat):Prop where
 kind:sc.kind=.function
 cell:∀ y ∈ sc.names,y.2 ≠ .cell
 names:∀ y ∈ sc.names,y.2=.local→sc.names.lookup y.1=some .local
 var:sc.names.lookup x=some .local
 once:(x,NameKind.free) ∉ sc.names
 slot:vs'.lookup x=some i
 free:∀ y ∈ sc.names,y.2=.free→∃ j,L.vs.lookup y.1=some j∧(L.env.kindOf y.1=some .cell∨L.env.kindOf y.1=some .free)
 vars:∀ y j,vs'.lookup y=some j→(y=x∧j=i)∨(y ≠ x∧sc.names.lookup y=some .free∧L.vs.lookup y=some j∧j ≠ i)
noncomputable abbrev Bb (L:Loc) (sc:Scope) (vs':Vs) (C:Addr):Loc:=⟨compEnvC sc (CM L.env sc.names []) C L.env,vs',L.up⟩
section
variable {h₀:Bs} {c c':Cf h₀} {L:Loc} {ρ:List V} {sc:Scope} {vs':Vs} {x:Str} {i:Nat} {C:Addr}
theorem HI (cs:CompSc L sc vs' x i):(Bb L sc vs' C).env.kindOf x=some .local:=lookup_relabel_local cs.var
theorem Cb (cs:CompSc L sc vs' x i) (F:Fr c L ρ) (hf:sc.names.lookup y=some .free) (hv:L.vs.lookup y=some j):CellAt c L ρ y j∧∀ a,L.env.cells.lookup y=some a→(CM L.env sc.names []).lookup y=some a:=by
 refine AF (cs.free (y,.free) (mem_of_lookup hf) rfl) fun j' hv' hk=>?_
 cases hv.symm.trans hv'
 exact ⟨F.cell y j hv hk,fun a e=>by rw [Ge L.env sc.names [] y (fun _ h=>nomatch h) (.inr (mem_of_lookup hf)),e];rfl⟩
theorem Kc (cs:CompSc L sc vs' x i) (F:Fr c L ρ) (st:WStp AQ c c') (n:c'.s.heap.Ns C m) (hC:c.s.heap.get? C=none) (ho:C ∉ c'.φ):Fr c' (Bb L sc vs' C) (ρ.set i .undef) where
 fn:=cs.kind
 glob:=F.glob
 blt:=F.blt
 locNew:=c.sim.none₀ hC
 locOut:=ho
 inj y z j hy hz:=by
  rcases cs.vars y j hy with ⟨rfl,rfl⟩ | ⟨h1,_,h2,h3⟩
  ·rcases cs.vars z _ hz with ⟨rfl,_⟩ | ⟨_,_,_,h3⟩
   ·rfl
   ·exact absurd rfl h3
  ·rcases cs.vars z j hz with ⟨rfl,rfl⟩ | ⟨_,_,h4,_⟩
   ·exact absurd rfl h3
   ·exact F.inj y z j h2 h4
 ns:=.mk m n fun y j hy hk=>by
  rcases cs.vars y j hy with ⟨rfl,rfl⟩ | ⟨_,hf,_,_⟩
  ·exact fun V hV hne=>absurd (CZ hV).symm hne
  ·refine Or.elim (JK (env:=L.env) hf) (fun e=>?_) (fun e=>?_) <;> cases e.symm.trans hk
 cell y j hy hk:=by
  rcases cs.vars y j hy with ⟨rfl,rfl⟩ | ⟨_,hf,hv,hj⟩
  ·rw [HI cs] at hk;refine Or.elim hk (fun q=>?_) (fun q=>?_) <;> cases q
  ·obtain ⟨ca,hl⟩:=Cb cs F hf hv
   exact match ca with
   | .mk a ov e1 e2 e3 ic rr=>.mk a ov (hl a e1) (let ⟨_,e,_⟩:=ic;st.out e e2) e3 (st.keepC e2 (fun f=>f) ic) ((rr.own st fun _ f=>f.elim).other (Ne.symm hj))
 cellInj y z j j' a hy hz h1 h2:=by
  have nx:(CM L.env sc.names []).lookup x=none:=EE L.env sc.names [] x rfl cs.once
  rcases cs.vars y j hy with ⟨rfl,rfl⟩ | ⟨_,hf,hv,_⟩
  ·cases nx.symm.trans h1
  ·rcases cs.vars z j' hz with ⟨rfl,rfl⟩ | ⟨_,hf',hv',_⟩
   ·cases nx.symm.trans h2
   ·obtain ⟨⟨a1,_,e1,_⟩,l1⟩:=Cb cs F hf hv
    obtain ⟨⟨a2,_,e2,_⟩,l2⟩:=Cb cs F hf' hv'
    cases (l1 a1 e1).symm.trans h1
    cases (l2 a2 e2).symm.trans h2
    exact F.cellInj y z j j' _ hv hv' e1 e2
 up e m:=(F.up e m).keep st fun _ _ _ _ f=>f
end
section
variable {K:Ctx} {L:Loc}
variable (K L) in
noncomputable def IV (es:List Expr) (ts:List Tx):Prop:=
 ∀ (A:Around) (c:Cf K.h₀) (ρ:List V) (Q:Bool→AD→Prop),ROk K L.up A→Fr c L ρ→EH ts K.C ρ c.σ Q noX →
  wpAny K.M A (forIn es true fun e r=>if r=true then do let ok ← isTrue e L.env (eval e L.env);pure (ForInStep.yield ok) else pure (ForInStep.yield r)) (PB c Q) (PX c noX) c.s
theorem KO:∀ (es:List Expr),Q false s →
  wpAny K.M A (forIn es false fun e r=>if r=true then do let ok ← isTrue e env (eval e env);pure (ForInStep.yield ok) else pure (ForInStep.yield r)) Q E s
 | [],h=>wpAny_pure h
 | _ :: es,h=>by
  rw [List.forIn_cons]
  exact wpAny_bind (wpAny_pure (KO es h))
theorem QZ:IV K L [] []:=fun _ c _ _ _ _ q=>wpAny_tests_nil (.mk c (.refl c) q)
theorem Nu (h:TOk K L e t) (hs:IV K L es ts):IV K L (e :: es) (t :: ts):=fun A c ρ Q R F q=>by
 rw [List.forIn_cons]
 refine wpAny_bind (wpAny_bind (Pn (.refl c) (h A c ρ _ noX R F q) fun c₁ b s₁ _ q₁=>wpAny_pure ?_))
 cases b with
 | false=>exact KO es (.mk c₁ s₁ q₁)
 | true=>exact QW s₁ (hs A c₁ ρ Q R (F.step s₁) q₁)
theorem Tu {P:Prop} (x:PX c noX e s):P:=absurd x (PX.no fun _ _ f=>f)
end
end Mine
namespace Mine
open PySem PySem.Calls
set_option genSizeOf false
set_option genInjectivity false
section
variable {K:Ctx} {L:Loc} {A:Around} {vs':Vs}
theorem Qy {α:Type} {M:Model} {P:Shared→Prop} {E E':Value→Shared→Prop} {s:Shared} {t:Sem α} {Q:α→Shared→Prop} (h:wpAny M A (pure ():Sem Unit) (fun _ s'=>P s') E' s)
  (k:P s→wpAny M A t Q E s):wpAny M A t Q E s:=fun Γ p hΓ=>k (h Γ p hΓ) Γ p hΓ
inductive AccAt (c:Cf K.h₀) (D:Addr) (acc:List V):Prop
 | mk (arr:Array Value) (n:Nat):D ∉ c.φ→IsL c.s.heap D arr n→RelL c.s.heap c.φ acc arr.toList→AccAt c D acc
theorem AccAt.own {own:Addr→Prop} (st:WStp own c c') (ht:∀ a,own a→A6 c.s.heap a) (hD:¬ own D) (x:AccAt c D acc):AccAt c' D acc:=x.casesOn fun arr n o e r=>.mk arr n (st.out e o) (st.keepE o hD nofun e) (r.own st ht)
theorem AccAt.step (st:Stp AQ c c') (x:AccAt c D acc):AccAt c' D acc:=x.own st.toWStp (fun _ f=>f.elim) fun f=>f
theorem AccAt.noIt (x:ItOb c.s.heap D) (y:AccAt c D acc):False:=y.casesOn fun _ _ _ e _=>x.casesOn fun _ _ _ e' d _ _=>nomatch d.symm.trans (congrArg Obj.data (Option.some.inj (e'.symm.trans e)))
theorem AccAt.noNs (n:c.s.heap.Ns D m) (y:AccAt c D acc):False:=y.casesOn fun _ _ _ e _=>DP (CT n) fun _ e' _ _ d=>nomatch d.symm.trans (congrArg Obj.data (Option.some.inj (e'.symm.trans e)))
theorem AccAt.noCell (n:c.s.heap.IsCell D v) (y:AccAt c D acc):False:=y.casesOn fun _ _ _ e _=>AF n fun _ e' d=>nomatch d.symm.trans (congrArg Obj.data (Option.some.inj (e'.symm.trans e)))
theorem AccAt.noTup (y:AccAt c D acc):A6 c.s.heap D:=y.casesOn fun _ _ _ e _=>Mine.noTup e BZ
inductive CompI (c:Cf K.h₀) (Lc:Loc) (ρ:List V) (D:Addr) (St:Nat→Cf K.h₀→Prop) (items:List V) (W:Nat→List V→AD→Prop) (n:Nat):Shared→Prop
 | mk (c':Cf K.h₀) (j:Nat) (acc:List V):j + n=items.length + 1→j≤items.length→Stp AQ c c'→Fr c' Lc ρ→St j c'→AccAt c' D acc→acc.length≤j→W j acc c'.σ→CompI c Lc ρ D St items W n c'.s
theorem NK {i:Nat} {same:AD→Prop} {St:Nat→Cf K.h₀→Prop} {Qc:List V→AD→Prop} {E:Value→Shared→Prop}
  (R:ROk K L.up A) (cs:CompSc L scope vs' x i) (hfp:∀ b ∈ fp,c.s.heap.get? b=none) (hD:c.s.heap.get? D=none) (hC:c.s.heap.get? C=none) (W:Itr K A (.Name x px) I fp items same St) (helt:EOk K (Bb L scope vs' C) elt a) (hts:IV K (Bb L scope vs' C) ifs ts) (hz:items.length≤Ah)
  {n j:Nat} (hn:j + n=items.length + 1) (hlt:j < items.length) (stp:Stp AQ c c') (F:Fr c' (Bb L scope vs' C) (ρ.set i .undef)) (st:St j c') (ac:AccAt c' D acc) (hal:acc.length≤j)
  (q:Db K.C a i ts ρ items[j] c'.σ fun r σ'=>same σ'∧Bi (Db K.C a i ts ρ) same (items.drop (j + 1)) (acc ++ r.toList) σ' Qc) :
  wpAny K.M A (pyNext (.ref I)) (fun r s₁=>∃ v,r=some v∧wpAny K.M A (assign (.Name x px) (Bb L scope vs' C).env v) (fun _ s₂=>wpAny K.M A (forIn ifs true fun e r=>if r=true then do let ok ← isTrue e (Bb L scope vs' C).env (eval e (Bb L scope vs' C).env);pure (ForInStep.yield ok) else pure (ForInStep.yield r)) (fun ok s₃=>
    if ok=true then wpAny K.M A (eval elt (Bb L scope vs' C).env) (fun y s₄=>wpAny K.M A (call (.builtin "list.append") [.ref D,y]) (fun _ s₅=>∃ m,m < n∧CompI c (Bb L scope vs' C) (ρ.set i .undef) D St items (fun j acc σ=>Bi (Db K.C a i ts ρ) same (items.drop j) acc σ Qc) m s₅) E s₄) E s₃
    else ∃ m,m < n∧CompI c (Bb L scope vs' C) (ρ.set i .undef) D St items (fun j acc σ=>Bi (Db K.C a i ts ρ) same (items.drop j) acc σ Qc) m s₃) E s₂) E s₁) E c'.s:=by
 have mine:=W.mine j c' st
 refine wpAny_mono (W.item j items[j] c' (List.getElem?_eq_getElem hlt) st) (fun r s₁ ⟨v,e,y⟩=>⟨v,e,Qy y fun z=>?_⟩) fun _ _ e=>e.elim
 refine z.casesOn fun c₁ e1 e2 s₁ zp00=>?_
 have rl:=zp00.1
 have st₁:=zp00.2
 have F₁:=F.iter mine s₁
 have mine₁:=W.mine (j + 1) c₁ st₁
 have ac₁:=ac.own s₁ (fun b m=>(mine b m).noTup) fun m=>ac.noIt (mine D m)
 have stp₁:=stp.transNew s₁ hfp
 refine wpAny_assign_Name (D4 F₁ cs.slot (HI cs) rl fun c₂ f1 f2 s₂ F₂=>?_)
 rw [List.set_set] at F₂
 have hns:∀ b,b=C→A6 c₁.s.heap b∧∃ m,c₁.s.heap.Ns b m:=fun b e=>F₁.ns.casesOn fun m n _=>e▸⟨Ce n,m,n⟩
 have ac₂:=ac₁.own s₂.toWStp (fun b e=>(hns b e).1) fun e=>(hns D e).2.elim fun _ n=>ac₁.noNs n
 have stp₂:=stp₁.transNew s₂.toWStp fun b e=>e▸hC
 have go:∀ {c₃:Cf K.h₀} {acc':List V},Stp AQ c c₃→WStp (fun b=>b=C∨b=D) c₁ c₃→Fr c₃ (Bb L scope vs' C) (ρ.set i items[j])→AccAt c₃ D acc'→acc'.length≤j + 1→same c₃.σ∧Bi (Db K.C a i ts ρ) same (items.drop (j + 1)) acc' c₃.σ Qc →
   ∃ m,m < n∧CompI c (Bb L scope vs' C) (ρ.set i .undef) D St items (fun j acc σ=>Bi (Db K.C a i ts ρ) same (items.drop j) acc σ Qc) m c₃.s:=fun {c₃ acc'} stp₃ s₃ F₃ ac₃ hl q=>
  ⟨n - 1,by exact an2 .lt .v0 .v1 (.q (.a .v0 .n1) .v1 .e) rfl (Nat.sub_add_cancel (an3 .le .n1 .v0 (.t .v1 .v2 (.p (.a .v1 .v0) (.a .v2 .n1) .e)) rfl hlt hn)),.mk c₃ (j + 1) acc' (by exact Nat.le_antisymm (an4 .le (.a (.a .v0 .n1) .v1) (.a .v2 .n1) (.q (.a .v1 .n1) .v3 (.q (.a .v0 .v3) (.a .v2 .n1) .e)) rfl (Nat.sub_add_cancel (an3 .le .n1 .v0 (.t .v1 .v2 (.p (.a .v1 .v0) (.a .v2 .n1) .e)) rfl hlt hn)) hn) (an4 .le (.a .v0 .n1) (.a (.a .v1 .n1) .v2) (.p (.a .v1 .v3) (.a .v0 .n1) (.p (.a .v2 .n1) .v3 .e)) rfl hn (Nat.sub_add_cancel (an3 .le .n1 .v0 (.t .v1 .v2 (.p (.a .v1 .v0) (.a .v2 .n1) .e)) rfl hlt hn)))) hlt stp₃ F₃.undef (W.frame (j + 1) c₁ c₃ st₁ s₃.pre q.1 (fun b hb o e=>s₃.keepE ((mine₁ b hb).out c₁.sim) (fun m=>m.elim (fun m=>let ⟨_,n⟩:=(hns b m).2;(mine₁ b hb).notNs n) fun m=>ac₁.noIt (m▸mine₁ b hb)) ((mine₁ b hb).noDict e) e)
   fun V v r=>r.own s₃ fun b m=>m.elim (fun e=>(hns b e).1) fun e=>e▸ac₁.noTup) ac₃ hl q.2⟩
 refine wpAny_mono (hts A c₂ (ρ.set i items[j]) _ R F₂ (by rw [f2,e2];exact q)) (fun ok s₃ y=>?_) fun _ _ e=>Tu e
 cases ok with
 | false=>
  exact y.casesOn fun c₃ s₃ q₃=>go (stp₂.trans s₃) ((s₂.wider fun _ e=>.inl e).trans s₃.any).toWStp (F₂.step s₃) (ac₂.step s₃) (Nat.le_succ_of_le hal) (by have q₃:same c₃.σ∧Bi (Db K.C a i ts ρ) same (items.drop (j + 1)) (acc ++ []) c₃.σ Qc:=q₃;rw [List.append_nil] at q₃;exact q₃)
 | true=>
  refine y.casesOn fun c₃ s₃ q₃=>?_
  refine wpAny_mono (helt A c₃ (ρ.set i items[j]) _ noX R (F₂.step s₃) q₃) (fun u s₄ y=>?_) fun _ _ e=>Tu e
  refine y.casesOn fun c₄ V s₄ r₄ q₄=>?_
  have F₄:=(F₂.step s₃).step s₄
  have ac₄:=(ac₂.step s₃).step s₄
  refine ac₄.casesOn fun arr k oD eD rD=>?_
  refine wpAny_list_append_plain ⟨k,eD⟩ (fun h₅ hp hs=>?_) (DU (by rw [rD.size];exact Nat.le_trans hal (Nat.le_trans (Nat.le_of_lt hlt) hz)))
  refine AU hp fun k' e'=>?_
  have ho:∀ b,b=D→A6 c₄.s.heap b∧b ∉ c₄.φ∧K.h₀.get? b=none:=fun b e=>e▸⟨Mine.noTup eD BZ,oD,c.sim.none₀ hD⟩
  have s₅:Stp (·=D) c₄ (c₄.keepOwn { c₄.s with heap:=h₅ } (fun b o hb e=>(hs.2 b hb).trans e) ho):=Cf.keepOwn_stp ⟨rfl,rfl⟩ fun b _ e _=>e▸⟨_,e'⟩
  have F₅:=F₄.keep s₅.toWStp (fun b e=>(ho b e).1) (fun f _ n _ e=>ac₄.noNs (e▸n)) fun b _ ic e=>ac₄.noCell (e▸ic)
  refine go (((stp₂.trans s₃).trans s₄).transNew s₅.toWStp fun b e=>e▸hD) (((s₂.wider fun _ e=>.inl e).trans (s₃.trans s₄).any).trans (s₅.wider fun _ e=>.inr e)).toWStp F₅ (.mk _ k' oD e' ?_) (by rw [List.length_append];exact Nat.succ_le_succ hal) q₄
  rw [Array.toList_push]
  exact (rD.own s₅.toWStp fun b e=>(ho b e).1).append ⟨r₄.own s₅.toWStp fun b e=>(ho b e).1,trivial⟩
inductive Made (c:Cf K.h₀) (Qc:List V→AD→Prop) (D C:Addr):Shared→Prop
 | mk (c':Cf K.h₀) (acc:List V) (m:Str→Option Value):Stp AQ c c'→c.s.heap.get? D=none→c.s.heap.get? C=none→C ∉ c'.φ→c'.s.heap.Ns C m→AccAt c' D acc→acc.length≤Ah→Qc acc c'.σ→Made c Qc D C c'.s
theorem Hb {i:Nat} {same:AD→Prop} {St:Nat→Cf K.h₀→Prop} {Qc:List V→AD→Prop}
  {RR:Value→Addr→Result→Shared→Prop} {E:Value→Shared→Prop}
  (R:ROk K L.up A) (F:Fr c L ρ) (st:Stp AQ c c₂) (cs:CompSc L scope vs' x i) (hfp:∀ b ∈ fp,c.s.heap.get? b=none) (W:Itr K A (.Name x px) I fp items same St) (self:EZ K A I St) (st0:St 0 c₂) (hsame:same c₂.σ)
  (helt:∀ C,EOk K (Bb L scope vs' C) elt a) (hts:∀ C,IV K (Bb L scope vs' C) ifs ts) (hz:items.length≤Ah) (q:Bi (Db K.C a i ts ρ) same items [] c₂.σ Qc) (hfin:∀ D C s',Made c Qc D C s'→RR (.ref D) C (.ok .next) s') :
  wpAny K.M A (newList []) (fun acc s₃=>wpAny K.M A (newFunctionEnv scope L.env.globals (CM L.env scope.names []) [] L.env.qual none .none (some L.env)) (fun cenv s₄=>
   codeAny K.M A (.compStart (.ListComp elt [⟨.Name x px,iter,ifs,0⟩] scope pos) 0 (.ref I) acc { cenv with scope:=relabel scope L.env }) (RR acc cenv.locals) s₄) E s₃) E c₂.s:=by
 refine wpAny_newObj_type (wpAny_newFunctionEnv cs.cell (fun _ h=>nomatch h) (fun h₁ hns hsb=>?_) cs.kind)
 have nD:c₂.s.heap.get? c₂.s.heap.objs.size=none:=Ae
 have nC:c₂.s.heap.get? (c₂.s.heap.push { cls:=.type "list", dict:=none,data:=.seq ([]:List Value).toArray }).objs.size=none:=Eh
 have below:∀ {b o},(c₂.s.heap.push { cls:=.type "list", dict:=none,data:=.seq ([]:List Value).toArray }).get? b=some o→b ≠ (c₂.s.heap.push { cls:=.type "list", dict:=none,data:=.seq ([]:List Value).toArray }).objs.size:=fun e=>Nat.ne_of_lt (Heap.lt_size e)
 have old:∀ b o,(c₂.s.heap.push { cls:=.type "list", dict:=none,data:=.seq ([]:List Value).toArray }).get? b=some o→h₁.get? b=some o:=fun b o e=>hsb.extBut b o (below e) (Heap.get?_push_of_some _ e)
 have eD:=old _ _ (Heap.get?_push_size c₂.s.heap (o:={ cls:=.type "list", dict:=none,data:=.seq ([]:List Value).toArray }) rfl)
 generalize (c₂.s.heap.push { cls:=.type "list", dict:=none,data:=.seq ([]:List Value).toArray }).objs.size=C at hns nC ⊢
 have keep:∀ b o,c₂.s.heap.get? b=some o→h₁.get? b=some o:=fun b o e=>old b o (Heap.get?_push_of_some _ e)
 have s₃:Stp AQ c₂ (c₂.keep { c₂.s with heap:=h₁,toks:=c₂.s.toks + ([]:List (Str × Value)).length } keep):=Cf.keep_stp ⟨rfl,rfl⟩
 have F₃:=Kc cs (F.step st) s₃.toWStp hns nC (c₂.sim.out nC)
 have h0:St 0 (c₂.keep { c₂.s with heap:=h₁,toks:=c₂.s.toks + ([]:List (Str × Value)).length } keep):=W.frame 0 c₂ _ st0 (List.prefix_refl _) hsame (fun b _ o e=>keep b o e) fun V v r=>r.step s₃
 have loop:codeAny K.M A (.compLoop (.ListComp elt [⟨.Name x px,iter,ifs,0⟩] scope pos) 0 (.ref I) (.ref c₂.s.heap.objs.size) (Bb L scope vs' C).env) (RR (.ref c₂.s.heap.objs.size) C) { c₂.s with heap:=h₁,toks:=c₂.s.toks + ([]:List (Str × Value)).length }:=by
  refine codeAny_compLoop_tests (fun n s'=>CompI c (Bb L scope vs' C) (ρ.set i .undef) c₂.s.heap.objs.size St items (fun j acc σ=>Bi (Db K.C a i ts ρ) same (items.drop j) acc σ Qc) n s') (fun n s' y=>?_) (items.length + 1)
   (.mk _ 0 [] (Nat.zero_add _) (Nat.zero_le _) (st.trans s₃) F₃ h0 (.mk #[] _ (c₂.sim.out nD) eD trivial) (Nat.le_refl _) q)
  refine y.casesOn fun c' j acc hn hj stp F' st' ac hal q'=>?_
  refine Or.elim (Nat.lt_or_ge j items.length) (fun hlt=>?_) (fun hge=>?_)
  ·rw [List.drop_eq_getElem_cons hlt] at q'
   refine wpAny_mono (NK R cs hfp (st.gone nD) (st.gone nC) W (helt C) (hts C) hz hn hlt stp F' st' ac hal q') (fun r s₁ h=>AF h fun v e z=>by subst e;exact z) fun _ _ e=>e
  ·cases Nat.le_antisymm hj hge
   rw [List.drop_length] at q'
   refine wpAny_mono (W.done c' st') (fun r s₁ ⟨e,z⟩=>?_) fun _ _ e=>e.elim
   subst e
   exact z.casesOn fun c₁ e1 e2 s₁ _=>have mine:=W.mine _ c' st';have F₁:=F'.iter mine s₁
    F₁.ns.casesOn fun m n _=>hfin _ C _ (.mk c₁ acc m (stp.transNew s₁ hfp) (st.gone nD) (st.gone nC) F₁.locOut n (ac.own s₁ (fun b m=>(mine b m).noTup) fun m=>ac.noIt (mine _ m)) (Nat.le_trans hal hz) (e2▸q'))
 refine codeAny_compStart_list loop (wpAny_mono (self 0 _ h0) (fun v s₁ ⟨e1,e2⟩=>?_) fun _ _ e=>e.elim)
 subst e1 e2;exact loop
theorem Made.join (st:Stp AQ c c') (nD:c.s.heap.get? D=none) (hz:acc.length≤Ah) (x:AccAt c' D acc):∃ c₂:Cf K.h₀,c₂.s=c'.s∧c₂.φ=c'.φ ++ [D]∧c₂.σ=c'.σ ++ [.list acc]∧Stp AQ c c₂∧Rel c₂.s.heap c₂.φ (.ref c'.σ.length) (.ref D):=
 x.casesOn fun arr n o e r=>⟨⟨c'.s,c'.φ ++ [D],c'.σ ++ [.list acc],c'.sim.add (o:=.list acc) o (c.sim.none₀ nD) ⟨arr,n,e,r,Bv hz⟩⟩,rfl,rfl,rfl,
  ⟨⟨st.only,st.pre.trans (List.prefix_append _ _),st.keep,fun a m=>(Bl m).elim (st.fresh a) fun e=>.inr (e▸nD)⟩,st.pres⟩,⟨D,rfl,by rw [← c'.sim.len];exact List.getElem?_concat_length⟩⟩
theorem Sl (st:Stp own c c') (n:c'.s.heap.Ns C m) (hC:C ∉ c'.φ) (nC:c.s.heap.get? C=none) (hs:Heap.SameBut C c'.s.heap h') :
  ∃ c₂:Cf K.h₀,c₂.s={ c'.s with heap:=h' }∧c₂.φ=c'.φ∧c₂.σ=c'.σ∧Stp own c c₂∧WStp (·=C) c' c₂:=
 have ho:∀ a,a=C→A6 c'.s.heap a∧a ∉ c'.φ∧K.h₀.get? a=none:=fun a e=>e▸⟨Ce n,hC,c.sim.none₀ nC⟩
 have s₂:WStp (·=C) c' (c'.keepOwn { c'.s with heap:=h' } (fun b o hb e=>(hs.2 b hb).trans e) ho):=⟨⟨rfl,rfl⟩,List.prefix_refl _,fun b o _ hb e=>⟨o,(hs.2 b hb).trans e,.refl o⟩,fun _ m=>.inl m⟩
 ⟨c'.keepOwn { c'.s with heap:=h' } (fun b o hb e=>(hs.2 b hb).trans e) ho,rfl,rfl,rfl,st.transNew s₂ fun b e=>e▸nC,s₂⟩
theorem CW (cs:CompSc L scope vs' x i) (F:Fr c L ρ):closureFor scope L.env=pure (CM L.env scope.names []):=
 Ku fun y hy hf=>AF (cs.free y hy hf) fun j hj hk=>(F.cell y.1 j hj hk).casesOn fun a _ e _ _ _ _=>⟨a,e⟩
theorem LX (cs:CompSc L scope vs' x i) (hs:∀ x,foldedSetIterable iter L.env x=pure x)
  (hsrc:Fj K L iter k src (.Name x px)) (hk:k ≠ .enum) (helt:∀ C,EOk K (Bb L scope vs' C) elt a) (hts:∀ C,IV K (Bb L scope vs' C) ifs ts) :
  EOk K L (.ListComp elt [⟨.Name x px,iter,ifs,0⟩] scope pos) (BB a i k src ts):=fun A c ρ Q X R F q=>by
 rw [eval_ListComp]
 refine wpAny_comprehension_free (use:=none) rfl hs (CW cs F) cs.kind cs.names (wpAny_mono (hsrc A c ρ (fun items same σ₁=>items.length≤Ah∧Bi (Db K.C a i ts ρ) same items [] σ₁ fun ys σ₂=>Q (.ref σ₂.length) (σ₂ ++ [O.list ys])) X R F q) (fun xv s₁ h₁=>wpAny_mono h₁ (fun it s₂ h₂=>?_) fun _ _ e=>e) fun _ _ e=>e)
 refine h₂.casesOn fun c₁ items same I fp St s₁ zp40 hsm W st0 hfp self=>?_
 have hz:=zp40.1
 have q₁:=zp40.2
 refine Hb (RR:=fun acc C=>compPost K.M A (PX c X) none (PV c Q) acc C) R F s₁ cs hfp W (self hk) st0 hsm helt hts hz q₁ fun D C s' y=>?_
 refine y.casesOn fun c' acc m st nD nC oC n ac hal q'=>?_
 refine ⟨m,n,fun h' hs'=>?_⟩
 refine B3 (Made.join st nD hal ac) fun c₂ e1 e2 e3 s₂ r₂=>?_
 have oC₂:C ∉ c₂.φ:=e2▸fun mm=>(Bl mm).elim oC fun e=>ac.noNs (e▸n)
 refine B3 (Sl s₂ (e1▸n) oC₂ nC (e1▸hs')) fun c₃ f1 f2 f3 s₃ t₃=>?_
 have:=PV.mk (c:=c) (Q:=Q) c₃ _ s₃ (r₂.own t₃ fun b e=>e▸Ce (e1.symm▸n)) (by rw [f3,e3];exact q')
 rw [f1,e1] at this;exact this
theorem QM (cs:CompSc L scope vs' x i) (hs:∀ x,foldedSetIterable iter L.env x=pure x)
  (hsrc:Fj K L iter k src (.Name x px)) (hk:k ≠ .enum) (helt:∀ C,EOk K (Bb L scope vs' C) elt a) (hts:∀ C,IV K (Bb L scope vs' C) ifs ts) (hy:L.vs.lookup y=some iy) (hky:L.env.kindOf y=some .local)
  (hsw:swapsWith (.ListComp elt [⟨.Name x px,iter,ifs,0⟩] scope pos) (some (.Name y py)) spos.line L.env=pure true) :
  SOk K L (.Assign [.Name y py] (.ListComp elt [⟨.Name x px,iter,ifs,0⟩] scope pos) spos) (AT (.var iy) (BB a i k src ts)):=fun A c ρ Q R F q=>by
 rw [exec_Assign_Name_used _ _ _ _ hsw]
 refine wpAny_bind (wpAny_standAt (wpAny_bind ?_))
 show wpAny _ A (do let _ ← comprehension (.ListComp elt [⟨.Name x px,iter,ifs,0⟩] scope pos) scope L.env _ (newList []) false (eval iter L.env) (some (assign (.Name y py) L.env))) _ _ c.s
 refine wpAny_bind (wpAny_mono (wpAny_comprehension_free (use:=some (assign (.Name y py) L.env)) (Q:=fun _ s'=>PF c L Q .next s') (E:=PE c L Q) rfl hs (CW cs F) cs.kind cs.names
  (wpAny_mono (hsrc A c ρ (fun items same σ₁=>items.length≤Ah∧Bi (Db K.C a i ts ρ) same items [] σ₁ fun ys σ₂=>J9 (σ₂ ++ [O.list ys]) (fun ρ'=>Q .next ρ' (σ₂ ++ [O.list ys])) ρ (.ref σ₂.length) (.var iy)) (fun k σ=>Q (.exc k) ρ σ) R F q) (fun xv s₁ h₁=>wpAny_mono h₁ (fun it s₂ h₂=>?_) fun _ _ e=>e.toE F) fun _ _ e=>e.toE F)) (fun _ s' hq=>wpAny_pure (wpAny_pure hq)) fun _ _ e=>e)
 refine h₂.casesOn fun c₁ items same I fp St s₁ zp60 hsm W st0 hfp self=>?_
 have hz:=zp60.1
 have q₁:=zp60.2
 refine Hb (RR:=fun acc C=>compPost K.M A (PE c L Q) (some (assign (.Name y py) L.env)) (fun _ s'=>PF c L Q .next s') acc C) R F s₁ cs hfp W (self hk) st0 hsm helt hts hz q₁ fun D C s' y'=>?_
 refine y'.casesOn fun c' acc m st nD nC oC n ac hal q'=>?_
 refine B3 (Made.join st nD hal ac) fun c₂ e1 e2 e3 s₂ r₂=>?_
 have oC₂:C ∉ c₂.φ:=e2▸fun mm=>(Bl mm).elim oC fun e=>ac.noNs (e▸n)
 have n₂:c₂.s.heap.Ns C m:=e1.symm▸n
 have hLe:L.env.locals ≠ C:=fun e=>F.ns.casesOn fun _ n _=>AF (CT n) fun _ e' _=>Di (((congrArg c.s.heap.get? e).trans nC).symm.trans e')
 show wpAny _ A (assign (.Name y py) L.env (.ref D)) _ _ _
 rw [← e1]
 refine wpAny_assign_Name (D4 (F.step s₂) hy hky r₂ fun c₃ f1 f2 s₃ F₃=>?_)
 have oC₃:C ∉ c₃.φ:=f1▸oC₂
 have n₃:c₃.s.heap.Ns C m:=s₃.toWStp.keepN oC₂ (fun h=>hLe h.symm) n₂
 refine ⟨m,n₃,fun h' hs'=>?_⟩
 refine B3 (Sl (s₂.any.trans (s₃.wider fun _ e=>.inl e):Stp L.own c c₃) n₃ oC₃ nC hs') fun c₄ g1 g2 g3 s₄ t₄=>?_
 have F₄:=F₃.keep t₄ (fun b e=>e▸Ce n₃) (fun f _ _ hf e=>hf.elim (fun q=>hLe (q.symm.trans e)) fun ⟨e',m',q⟩=>by
  refine Cd (F.up e' m') fun _ f' _ e1 _ _ n'=>?_
  cases q.symm.trans e1
  refine AF (CT n') fun _ e2 _=>?_
  rw [show f=C from e,nC] at e2;cases e2) fun b ov ic e=>DZ n₃ ic e
 exact g1▸PF.next c₄ _ s₄ F₄ (by rw [g3,f2,e3];exact q')
end
end Mine
namespace Mine
open PySem PySem.Calls
set_option genSizeOf false
set_option genInjectivity false
section
variable {K:Ctx} {L:Loc} {G:GlT} {fa:Nat→Addr} {mg mb:Str→Option Value}
theorem not_modules {h:Heap} {m:Str→Option Value} (n:h.Ns mainGlobals m) {a:Addr} (ha:h.objs.size≤a):(a == sysModules)=false:=
 beq_eq_false_iff_ne.mpr fun e=>Nat.not_lt.mpr (Nat.le_trans ha (Nat.le_of_eq e)) (Nat.lt_of_le_of_lt (by decide) n.lt)
theorem RV (g:Gnd K G fa mg mb):EOk K L (.Dict [] [] pos) MP:=fun A c ρ Q X R F q=>
 wpAny_Dict_empty (PV.new (tk:=c.s.toks) (o:=.dict 0 []) (fun _ _ e=>Heap.get?_push_of_some _ e) Ae
  ⟨[],⟨_,#[],Heap.get?_push_size _ rfl,⟨rfl,rfl,rfl⟩,rfl,fun _ he=>absurd he (by simp),.nil,List.nodup_nil⟩,⟨rfl,trivial⟩,Nat.zero_le _,not_modules (g.ns.keeps c.sim.keep) (Nat.le_refl _)⟩ q)
theorem Cf.inst {c:Cf K.h₀} {n m:Nat} {C:Addr} {fs:List (Str × V)} {v:Value} (e1:c.σ[n]?=some (.inst C m)) (e2:c.σ[m]?=some (.ns fs)) (r:Rel c.s.heap c.φ (.ref n) v) :
  ∃ a dx mA,v=.ref a∧c.φ[m]?=some dx∧dx ≠ a∧a ∈ c.φ∧c.s.heap.Inst a C mA∧(∀ o,c.s.heap.get? a=some o→o.dict=some dx)∧(∀ y,AttrIs c.s.heap c.φ (fs.lookup y) (mA y)):=by
 refine AF r fun a₀ ev ea=>?_
 refine IB (c.sim.obj n _ e1) fun a ea' dx ed ne ob g hc hd hk=>?_
 refine Rc (c.sim.obj m _ e2) fun dx' ed' mA n1 at'=>?_
 obtain rfl:=Option.some.inj (ed'.symm.trans ed)
 obtain rfl:=Option.some.inj (ea.symm.trans ea')
 exact ⟨a₀,dx',mA,ev,ed,ne,List.mem_of_getElem? ea,⟨ob,g,hc,hd,.inr ⟨dx',hk,ne,n1⟩⟩,fun o e=>Option.some.inj (g.symm.trans e)▸hk,at'⟩
theorem Oo {V:V} (r:Rel h φ V v):handedOut v=pure v:=by
 cases V with
 | undef=>exact r.elim
 | none=>exact r▸rfl
 | bool _=>exact r▸rfl
 | int _=>exact r.elim fun _ r=>r▸rfl
 | str _=>exact r.elim fun _ r=>r▸rfl
 | tup _=>exact EF r fun _ _ _ r _=>r▸rfl
 | ref _=>exact AF r fun _ r _=>r▸rfl
theorem JU:∀ n ∈ CI,typeLookup (.type "object") n=pure none:=by
 intro n hn
 rcases List.mem_cons.mp hn with rfl | hn
 ·rw [typeLookup_type,builtinLookup_eq_fast];kernel_rfl
 rcases List.mem_cons.mp hn with rfl | hn
 ·rw [typeLookup_type,builtinLookup_eq_fast];kernel_rfl
 cases List.mem_singleton.mp hn
 rw [typeLookup_type,builtinLookup_eq_fast];kernel_rfl
theorem Gq (h:n ∈ CI):n ∈ Ib:=List.mem_cons_of_mem _ (List.mem_cons_of_mem _ (List.mem_cons_of_mem _ h))
theorem ClsG.now {c:Cf K.h₀} {C:Addr} {i:Nat} (x:ClsG K.h₀.heap G fa mg C i):∃ N mN,PyProof.Rows.ClsAt c.s.heap C N mN∧(∀ n ∈ Ib,mN n=none)∧(∀ m j,G.lookup (AX ++ "." ++ m)=some (.fn j)→LO c.s.heap mN m (fa j))∧LO c.s.heap mN "__init__" (fa i):=by
 refine Bk x.ns fun N mN cl q me ini=>?_
 have k:∀ {m a},LO K.h₀.heap mN m a→LO c.s.heap mN m a:=fun ⟨e,o,fd,h1,h2,h3⟩=>⟨e,o,fd,c.sim.keep _ _ h1,h2,h3⟩
 exact ⟨N,mN,cl.keeps c.sim.keep,q,fun m j h=>k (me m j h),k ini⟩
theorem SU (g:Gnd K G fa mg mb) {C:Addr} {i:Nat} {x nm:Str} {a:Ex} {xp pos:Pos} (hc:G.lookup AX=some (.cls C i)) (hn:nm ∈ CI) (h:EOk K L (.Name x xp) a):EOk K L (.Attribute (.Name x xp) nm pos) (Ar C nm a):=fun A c ρ Q X R F q=>
 PyProof.Rows.Attribute_any_ (seq (.refl c) (h A c ρ _ X R F q) fun c₁ V v s₁ _ r q₁=>by
  cases q₁ with
  | @mk n m fs W e1 e2 e3 q=>
   refine DT (Cf.inst e1 e2 r) fun ad dx mA ze1 _ _ _ I _ at'=>?_;subst ze1
   refine Bk ((g.cls C i hc).now (c:=c₁)) fun N mN cl hq _ _=>?_
   refine A1 cl.obj fun nm' q' bs sn sub col dd k0 k1 k2 k3 k5 hC=>?_
   have hv:=at' nm
   rw [e3] at hv
   refine AF hv fun v ev rv=>?_
   exact load_attr hC cl.ns (hq _ (by decide)) (hq _ (Gq hn)) (JU nm hn) I ev (Oo rv) (PV.lift s₁ (PV.plain rv q)))
theorem S8 (g:Gnd K G fa mg mb) {A:Around} {c:Cf K.h₀} {C:Addr} {i:Nat} {nm:Str} {V W:Mine.V} {v u:Value} {T:AD→Prop} {P:Unit→Shared→Prop} {E:Value→Shared→Prop} (hc:G.lookup AX=some (.cls C i)) (hn:nm ∈ CI) (rv:Rel c.s.heap c.φ V v) (ro:Rel c.s.heap c.φ W u)
  (q:PutK c.σ T C nm V W) (h:∀ c':Cf K.h₀,Stp AQ c c'→T c'.σ→P () c'.s):wpAny K.M A (setAttr u nm v) P E c.s:=by
 cases q with
 | @mk n m fs e1 e2 hm hz q=>
  refine DT (Cf.inst e1 e2 ro) fun ad dx mA ze1 ed ne ma I hdx at'=>?_;subst ze1
  refine Bk ((g.cls C i hc).now (c:=c)) fun N mN cl hq _ _=>?_
  refine A1 cl.obj fun nm' q' bs sn sub col dd k0 k1 k2 k3 k5 hC=>?_
  have hxC:ad ≠ C:=fun e=>by
   refine AZ I fun ob g' hc' _=>?_
   rw [e,hC] at g';cases g';cases hc'
  have hw:Within mA (fs.map (·.1)):=fun y hy=>by
   have:=at' y
   cases hl:fs.lookup y with
   | none=>rw [hl] at this;exact absurd this hy
   | some V=>exact List.mem_map.mpr ⟨(y,V),mem_of_lookup hl,rfl⟩
  refine store_attr PySem.F.store_object hC cl.ns (hq _ (by decide)) (hq _ (Gq hn)) (JU nm hn) hxC I (fun h' tk' I' hk hsame=>?_) hw (by rw [List.length_map];exact Nat.le_trans hz (by decide))
  refine BQ (id I) fun ox hx hcx hnc _=>?_
  refine B3 (hsame ox hx) fun o₁ f1 f2 f3 f4 f5=>?_
  have ho:o₁=ox:=by
   obtain ⟨c1,d1,t1,l1⟩:=o₁
   obtain ⟨c2,d2,t2,l2⟩:=ox
   have:=(f5 dx (hdx _ hx)).trans (hdx _ hx).symm
   simp only at f2 f3 f4 this
   rw [f2,f3,f4,this]
  subst ho
  have kk:∀ b o,b ≠ dx→c.s.heap.get? b=some o→h'.get? b=some o:=fun b o hb e=>by
   by_cases hba:b=ad
   ·subst hba;cases hx.symm.trans e;exact f1
   ·exact hk b o hba (fun o₀ d' e₀ ed'=>by cases hx.symm.trans e₀;cases (hdx _ hx).symm.trans ed';exact hb) e
  obtain ⟨c',e1',e2',e3',st⟩:=Cf.setO (c:=c) (o:=.ns (put nm V fs)) (tk:=tk') ed hm kk fun keep=>by
   refine BQ I' fun o' f1' _ _ hd'=>?_
   cases f1.symm.trans f1'
   rcases hd' with ⟨h0,_⟩ | ⟨d',hd',_,n1⟩
   ·cases (hdx _ hx).symm.trans h0
   ·cases (hdx _ hx).symm.trans hd'
    refine ⟨_,n1,fun y=>?_⟩
    rw [put_lookup]
    by_cases hy:y=nm
    ·rw [if_pos hy,if_pos hy];exact ⟨v,rfl,(keep [V] [v] ⟨rv,trivial⟩).1⟩
    ·rw [if_neg hy,if_neg hy]
     have:=at' y
     cases hl:fs.lookup y with
     | none=>rw [hl] at this;exact this
     | some U=>rw [hl] at this;refine AF this fun w ew rw'=>?_;exact ⟨w,ew,(keep [U] [w] ⟨rw',trivial⟩).1⟩
  exact e1'▸h c' st (e3'▸q)
where
 put_lookup {nm:Str} {V:Mine.V}:∀ {fs:List (Str × Mine.V)} {y:Str},(put nm V fs).lookup y=if y=nm then some V else fs.lookup y:=by
  intro fs y
  unfold put
  by_cases ha:fs.any (fun p=>decide (p.1=nm))=true
  ·rw [if_pos ha]
   induction fs with
   | nil=>cases ha
   | cons p fs ih=>
    obtain ⟨k,u⟩:=p
    rw [List.map_cons,List.lookup_cons]
    by_cases hk:k=nm
    ·rw [if_pos hk,List.lookup_cons]
     dsimp only
     rw [hk]
     cases hy:y == nm with
     | true=>rw [if_pos (beq_iff_eq.mp hy)]
     | false=>
      rw [if_neg (beq_eq_false_iff_ne.mp hy)]
      dsimp only
      by_cases ha':fs.any (fun p=>decide (p.1=nm))=true
      ·rw [ih ha',if_neg (beq_eq_false_iff_ne.mp hy)]
      ·have:fs.map (fun p=>if p.1=nm then (p.1,V) else p)=fs:=by
        rw [List.map_congr_left (g:=id)]
        ·exact List.map_id fs
        ·intro p hp
         exact if_neg fun e=>ha' (List.any_eq_true.mpr ⟨p,hp,decide_eq_true e⟩)
       rw [this]
    ·rw [if_neg hk,List.lookup_cons]
     have ha':fs.any (fun p=>decide (p.1=nm))=true:=by rw [List.any_cons,decide_eq_false hk,Bool.false_or] at ha;exact ha
     cases hy:y == k with
     | true=>rw [if_neg fun e=>hk ((beq_iff_eq.mp hy).symm.trans e)]
     | false=>dsimp only;exact ih ha'
  ·rw [if_neg ha]
   induction fs with
   | nil=>rw [List.nil_append,List.lookup_cons];cases hy:y == nm with
    | true=>rw [if_pos (beq_iff_eq.mp hy)]
    | false=>rw [if_neg (beq_eq_false_iff_ne.mp hy)]
   | cons p fs ih=>
    obtain ⟨k,u⟩:=p
    have hk:¬ k=nm:=fun e=>ha (by rw [List.any_cons,decide_eq_true e,Bool.true_or])
    have ha':¬ fs.any (fun p=>decide (p.1=nm))=true:=fun e=>ha (by rw [List.any_cons,e,Bool.or_true])
    rw [List.cons_append,List.lookup_cons,List.lookup_cons]
    cases hy:y == k with
    | true=>rw [if_neg fun e=>hk ((beq_iff_eq.mp hy).symm.trans e)]
    | false=>dsimp only;exact ih ha'
theorem QH (g:Gnd K G fa mg mb) (hc:G.lookup AX=some (.cls C i)) (hn:nm ∈ CI) (hs:swapsWith value (some (.Attribute o nm pos')) pos.line L.env=pure false) (ho:EOk K L o a) (hv:EOk K L value e) :
  SOk K L (.Assign [.Attribute o nm pos'] value pos) (KI C nm a e):=fun A c ρ Q R F q=>
 plainObj_wpAny_Assign_Attribute (Oh (.refl c) F (hv A c ρ _ _ R F q) fun c₁ _ _ s₁ _ r₁ q₁=>Oh s₁ F (ho A c₁ ρ _ _ R (F.step s₁) q₁) fun c₂ _ _ s₂ t₂ r₂ q₂=>
  S8 g hc hn (r₁.step t₂) r₂ q₂ fun c₃ s₃ q₃=>.next c₃ ρ (s₂.trans s₃).any (F.step (s₂.trans s₃)) q₃) hs
theorem SW {α β:Type} {M:Model} {A:Around} {P:β→Shared→Prop} {E E':Value→Shared→Prop} {s:Shared} {x:β} {t:Sem α} {Q:α→Shared→Prop} (h:wpAny M A (pure x:Sem β) P E' s) (k:P x s→wpAny M A t Q E s):wpAny M A t Q E s:=fun Γ p hΓ=>k (h Γ p hΓ) Γ p hΓ
theorem NQ (hns:B2 es) (hst:∀ e r,es=e :: r→Au e) (hdat:o.data=.func fd) (ho:K.h₀.get? f=some o) (hl:LOk K L es as) (R:ROk K L.up A) (F:Fr c L ρ) (q:evs as K.C ρ c.σ Q X)
  (h:∀ (c₁:Cf K.h₀) (Vs:List V) (vals:List Value),Stp AQ c c₁→RelL c₁.s.heap c₁.φ Vs vals→Q Vs c₁.σ→wpAny K.M A (call (.ref f) (first ++ vals)) P (PX c X) c₁.s) :
  wpAny K.M A (callWith pos (.ref f) first (backTo pos (starEach es L.env)) []) P (PX c X) c.s:=by
 have key:=JR (P:=fun vals s₁=>(∀ b o,K.h₀.heap.get? b=some o→s₁.heap.get? b=some o)∧wpAny K.M A (call (.ref f) (first ++ vals)) P (PX c X) s₁) (.refl c) (hl A c ρ Q X pos R F q) fun c₁ Vs vals s₁ _ r q=>⟨c₁.sim.keep,h c₁ Vs vals s₁ r q.2⟩
 cases es with
 | nil=>
  refine SW (show wpAny K.M A (pure []) _ _ c.s from key) fun key=>PyProof.Rows.callWith_meth0 hdat (c.sim.keep _ _ ho) ?_
  have:=key.2
  rwa [List.append_nil] at this
 | cons e es=>exact PyProof.Rows.callWith_meth hdat ho key (hst e es rfl es L.env)
theorem NE (hbase:attributeBase o name env (eval o env)=eval o env) (hns:B2 args) (hz:args.length < 30) (hline:(apos.endLine == pos.line)=true)
  (h:wpAny M A (eval o env) (fun ov s₁=>∀ pl,wpAny M A (getMethod ov name pl) (fun fx s₂=>wpAny M A (callWith pos fx.1 fx.2 (backTo pos (starEach args env)) []) Q E s₂) E s₁) E s):wpAny M A (eval (.Call (.Attribute o name apos) args [] pos) env) Q E s:=by
 rw [arm_eval_Call,hbase]
 refine wpAny_bind (wpAny_mono h (fun ov s₁ h₁=>wpAny_bind (wpAny_standAt ?_)) fun _ _ e=>e)
 have hpos:methodCallPos true o env apos pos=pure pos:=by unfold methodCallPos;simp [hline]
 have hform:methodCallForm (args.length + ([]:List Keyword).length) (backTo pos (starEach args env)) (backToKw pos (keywordEach [] env))=true:=by
  have hn:=hns env pos
  rw [List.any_eq_false] at hn
  unfold methodCallForm
  rw [Bool.and_eq_true_iff,Bool.and_eq_true_iff]
  refine ⟨⟨List.all_eq_true.mpr fun x hx=>?_,rfl⟩,decide_eq_true hz⟩
  rw [Bool.eq_false_iff.mpr (hn x hx)];rfl
 unfold methodCall
 rw [hform]
 exact wpAny_bind (wpAny_holding (wpAny_mono (h₁ _) (fun fx s₂ h₂=>wpAny_bind (wpAny_of_eq hpos h₂)) fun _ _ e=>e))
theorem RZ (g:Gnd K G fa mg mb) (hC:GK K G fa) {C:Addr} {i j:Nat} {x nm:Str} {a:Ex} {es:List Expr} {as:List Ex} {xp apos pos:Pos} (hc:G.lookup AX=some (.cls C i)) (hj:G.lookup (AX ++ "." ++ nm)=some (.fn j)) (hz:es.length < 30) (hline:(apos.endLine == pos.line)=true) (h:EOk K L (.Name x xp) a) (hns:B2 es) (hst:∀ e r,es=e :: r→Au e) (hl:LOk K L es as) :
  EOk K L (.Call (.Attribute (.Name x xp) nm apos) es [] pos) (A8 C nm j a as):=fun A c ρ Q X R F q=>
 NE rfl hns hz hline (seq (.refl c) (h A c ρ _ X R F q) fun c₁ V v s₁ _ r q₁ pl=>by
  obtain ⟨⟨n,m,fs,rfl,e1,e2,e3⟩,q₁⟩:=q₁
  refine DT (Cf.inst e1 e2 r) fun ad dx mA ze1 _ _ _ I _ at'=>?_;subst ze1
  refine Bk ((g.cls C i hc).now (c:=c₁)) fun N mN cl hq me _=>?_
  refine A1 cl.obj fun nm' q' bs sn sub col dd k0 k1 k2 k3 k5 hCo=>?_
  refine B7 (me nm j hj) fun ef o fd ho hfc hdat=>?_
  have hsh:=at' nm
  rw [e3] at hsh
  refine BL (g.isfn _ j hj) fun o' fd' ho' hdat'=>?_
  refine method_of hCo cl.ns (hq _ (by decide)) (hq _ (by decide)) ef ho hfc (typeLookup_type _ _) I hsh ?_
  refine wpAny_mono (NQ (P:=PV c Q) (c:=c₁) (first:=[.ref ad]) hns hst hdat' ho' hl R (F.step s₁) q₁ fun c₂ Vs vals s₂ r₂ q₂=>?_) (fun _ _ z=>z) fun _ _ z=>z.lift s₁
  exact wpAny_mono (H8 s₂ (hC _ j hj A L.up c₂ (.ref n :: Vs) (.ref ad :: vals) Q X R.call ((F.step s₁).step s₂).up ⟨r.step s₂,r₂⟩ q₂)) (fun _ _ z=>z.lift s₁) fun _ _ z=>z)
theorem LN (hm:Heap.MadeObj c.s.heap h' x dx C):∃ c':Cf K.h₀,c'.s={ c.s with heap:=h',toks:=tk }∧c'.φ=c.φ ++ [dx,x]∧c'.σ=c.σ ++ [.ns [],.inst C c.σ.length]∧Stp AQ c c':=by
 refine BQ hm.inst fun ob hx hc hd hdict=>?_
 have hne:dx ≠ x∧h'.Ns1 dx (fun _=>none):=by
  rcases hdict with ⟨h0,_⟩ | ⟨d,h0,h1,h2⟩
  ·cases (hm.dict ob hx).symm.trans h0
  ·cases (hm.dict ob hx).symm.trans h0;exact ⟨h1,h2⟩
 have r1:RelO K.h₀ h' c.φ (.ns []) dx:=⟨_,hne.2,fun _=>rfl⟩
 have nx:x ∉ (c.add (tk:=tk) hm.keeps hm.newD r1).φ:=fun m=>(Bl m).elim (c.sim.out hm.newX) fun e=>hne.1 e.symm
 have S:Sim K.h₀ h' (c.φ ++ [dx] ++ [x]) (c.σ ++ [.ns []] ++ [.inst C c.σ.length]):=(c.add (tk:=tk) hm.keeps hm.newD r1).sim.add (o:=.inst C c.σ.length) nx (c.sim.none₀ hm.newX) ⟨dx,by rw [← c.sim.len];exact List.getElem?_concat_length,hne.1,ob,hx,hc,hd,hm.dict ob hx⟩
 refine ⟨⟨{ c.s with heap:=h',toks:=tk },c.φ ++ [dx] ++ [x],c.σ ++ [.ns []] ++ [.inst C c.σ.length],S⟩,rfl,List.append_assoc ..,List.append_assoc ..,⟨⟨rfl,rfl⟩,?_,fun b o _ _ e=>⟨o,hm.keeps b o e,.refl o⟩,fun a m=>?_⟩,fun b o e=>⟨o,hm.keeps b o e⟩⟩
 ·exact (List.prefix_append _ _).trans (List.prefix_append _ _)
 ·rcases Bl m with m | rfl
  ·rcases Bl m with m | rfl
   ·exact .inl m
   ·exact .inr hm.newD
  ·exact .inr hm.newX
theorem Kd (args:Args):(Code.builtin "type.__call__" args).cUnits≤3:=Nat.le_of_ble_eq_true rfl
theorem T8 (g:Gnd K G fa mg mb) (hC:GK K G fa) {C:Addr} {i:Nat} {e:Expr} {es:List Expr} {as:List Ex} {pf pos:Pos} (hc:G.lookup AX=some (.cls C i)) (hi:G.lookup (AX ++ "." ++ "__init__")=some (.fn i)) (hk:BH L.env.scope AX=true) (hn:Au e) (hns:B2 es) (hl:LOk K L (e :: es) as) :
  EOk K L (.Call (.Name AX pf) (e :: es) [] pos) (TN C i as):=fun A c ρ Q X R F q=>by
 rw [CV]
 have cg:=g.cls C i hc
 refine Bk cg.ns fun N₀ mN₀ cl₀ _ _ _=>?_
 refine wpAny_bind (CG g F cg.bound hk (by decide) (PyProof.Rows.callWith_cls cl₀ (JR (.refl c) (hl A c ρ _ X pos R F q) fun c₁ Vs vals s₁ _ r ⟨_,q₁⟩=>⟨c₁.sim.keep,?_⟩) (hn _ _) (hns _ _)))
 refine Bk (cg.now (c:=c₁)) fun N mN cl hq _ ini=>?_
 refine A1 cl.obj fun nm' q' bs sn sub col dd k0 k1 k2 k3 k5 hCo=>?_
 refine B7 ini fun ef o fd ho hfc hdat=>?_
 refine wpAny_call_obj_init PySem.F.objNew hCo cl.ns ef ho hfc fun h' x dx hm=>?_
 refine BQ (LN (tk:=c₁.s.toks) hm) fun c₂ e1 e2 e3 s₂=>?_
 have hx:c₂.φ[c₁.σ.length + 1]?=some x:=by rw [e2,List.getElem?_append_right (by rw [c₁.sim.len];exact Nat.le_succ _),c₁.sim.len,Nat.add_sub_cancel_left];rfl
 have Ru:RCall K L.up (A.under (.builtin "type.__call__" ⟨.ref C :: vals,[]⟩)):=⟨R.hd,by show A.depth + 1 + 3 * K.d < 903;have:=R.depth;exact an2 .lt (.a (.a .v0 .n1) (.m 3 .v1)) (.n 903) (.t (.a .v0 (.m 3 .v1)) (.n 902) .e) rfl this,by show A.units + _ + 12 * K.d < 9009;have:=R.units;exact Nat.lt_of_le_of_lt (Nat.add_le_add_right (Nat.add_le_add_left (Kd _) _) _) (by exact an2 .lt (.a (.a .v0 .n3) (.m 12 .v1)) (.n 9009) (.t (.a .v0 (.m 12 .v1)) (.n 9006) .e) rfl this),R.fr⟩
 have key:=H8 (.refl c₂) (hC _ i hi _ L.up c₂ (.ref (c₁.σ.length + 1) :: Vs) (.ref x :: vals) _ X Ru ((F.step s₁).step s₂).up ⟨⟨x,rfl,hx⟩,r.step s₂⟩ (e3▸q₁))
 rw [e1] at key
 exact wpAny_mono key (fun r' s' z=>by
  cases z with
  | mk c₃ V s₃ rV qV=>
   obtain ⟨rfl,qV⟩:=qV
   cases rV
   exact ⟨rfl,.mk c₃ (.ref (c₁.σ.length + 1)) ((s₁.trans s₂).trans s₃) ⟨x,rfl,Bp s₃.pre hx⟩ qV⟩) fun _ _ z=>z.lift (s₁.trans s₂)
theorem ExcCls.keep (x:ExcCls h k mro) (kk:∀ b o,h.get? b=some o→h'.get? b=some o):ExcCls h' k mro:=by
 cases x with
 | mk bm N nm q bs hdct sn sub ab col dd k0 k1 k2 k3 k5 mN e n i t r=>exact .mk bm N nm q bs hdct sn sub ab col dd k0 k1 k2 k3 k5 mN (kk _ _ e) (n.keeps kk) i (t.keeps kk) r
theorem Mh (g:Gnd K G fa mg mb) (hx:G.lookup x=some (.exc k ks)) (hg:BH L.env.scope x=true) (hd:A5 x=true) (hn:Au e) (he:EOk K L e a) :
  SOk K L (.Raise (some (.Call (.Name x np) [e] [] cpos)) none pos) (DO k a):=fun A c ρ Q R F q=>by
 have xg:=g.exc x k ks hx
 refine AF (xg.kids k xg.mem) fun mro xc _=>?_
 cases xc with
 | mk bm N nm q' bs hdct sn sub ab col dd k0 k1 k2 k3 k5 mN e1 n i t r=>
 refine wpAny_Raise_call_subT (nm:=nm) (q:=q') (C:=k) (N:=N) (bs:=bs) (hdct:=hdct) (sn:=sn) (sub:=sub) (ab:=ab) (col:=col) (dd:=dd) (k0:=k0) (k1:=k1) (k2:=k2) (k3:=k3) (k5:=k5) PySem.F.excBase_ValueError (t.hasType (by decide)) R.hd (BF hn BV _ _) i (CG g F xg.bound hg (Ck hd) ⟨rfl,?_⟩)
 refine wpAny_mono (Qu (P:=fun a s₂=>∃ c₁:Cf K.h₀,c₁.s=s₂∧Stp AQ c c₁∧a.kw=[]∧a.pos.length≤sizeLine∧Q (.exc k) ρ c₁.σ) (Q:=fun _ σ=>Q (.exc k) ρ σ) (as:=[a]) R hn (Dh hn he E0) F q fun c₁ Vs vals s₁ r hz q=>⟨c₁,rfl,s₁,rfl,?_,q⟩) (fun a s₂ ⟨c₁,e2,s₁,h1,h2,q₁⟩=>?_) fun _ _ z=>z.toE F
 ·rw [show vals.length=1 from r.length.symm.trans hz];decide
 ·subst e2
  refine ⟨h1,h2,c₁.sim.keep _ _ e1,n.keeps c₁.sim.keep,t.keeps c₁.sim.keep,fun h' ex hm=>?_⟩
  refine AZ hm.there fun t' e3 _ _=>?_
  have st:Stp AQ c₁ (c₁.keep { c₁.s with heap:=h' } hm.keeps):=Cf.keep_stp ⟨rfl,rfl⟩
  exact .mk (c₁.keep { c₁.s with heap:=h' } hm.keeps) ρ k ex [ex] none (fun b m=>by cases List.mem_singleton.mp m;exact ⟨s₁.gone hm.new,c₁.sim.out hm.new⟩) xg.mem (s₁.trans st).any (F.step (s₁.trans st)) (.new _ _ _ e3 rfl rfl rfl rfl) (.inl rfl) q₁
theorem GW (hk:ExcCls s.heap k m) (hx:ExcCls s.heap kx mx) (he:s.heap.get? a=some oe) (hc:oe.cls=.ref k) (hq:Q (m.contains (.ref kx)) s) :
  wpAny M A (excMatches (.ref a) (.ref kx)) Q E s:=by
 obtain ⟨h,g,d,t,os⟩:=s
 cases hk with
 | mk bm N nm q bs hdct sn sub ab col dd k0 k1 k2 k3 k5 mN e n i t' r=>
 cases hx with
 | mk bm' N' nm' q' bs' hdct' sn' sub' ab' col' dd' l0 l1 l2 l3 l5 mN' e' n' i' t'' r'=>
 have hcB:(Value.ref kx :: bm').contains (.type "BaseException")=true:=by rw [List.contains_cons,t''.hasType (show bmV.contains (.type "BaseException")=true by decide),Bool.or_true]
 have f:=tc_notTuple
 rw [← r] at hq
 unfold excMatches
 repeat (first | (with_reducible refine wpAny_loadPart_at he ?_;rw [hc]) | with_reducible refine wpAny_loadPart_at e' ?_ | (with_reducible refine wpAny_isSubtype_exc e' ?_;rw [hcB]) | with_reducible refine wpAny_isSubtype_exc e ?_ | wp_step)
 cases hb:(Value.ref k :: bm).contains (.ref kx) <;> (rw [hb] at hq;wp_walk;exact hq)
noncomputable def P7:Const→Option V
 | .none=>some .none
 | .bool b=>some (.bool b)
 | .str x=>some (.str x)
 | .int i=>some (.int i)
 | _=>none
theorem O3 {A:Around} {env:Env} {c:Cf K.h₀} {cst:Const} {kd:Nat} {p:Pos} {V:V} {E:Value→Shared→Prop} {P:Value→Shared→Prop} (hv:P7 cst=some V) (h:∀ v tk,Rel c.s.heap c.φ V v→P v { c.s with toks:=tk }):wpAny K.M A (eval (.Constant cst kd p) env) P E c.s:=by
 unfold P7 at hv
 split at hv <;> cases hv
 ·exact wpAny_Constant_none (h _ c.s.toks CO)
 ·exact wpAny_Constant_bool (h _ c.s.toks AW)
 ·exact wpAny_Constant_str (h _ _ Bo)
 ·exact wpAny_Constant_int (h _ _ Az)
variable (K L) in
noncomputable def SD (T:BR→BR) (hs:List ExceptHandler):Prop:=
 ∀ (A:Around) (c₀ c:Cf K.h₀) (ρ:List V) (Q:BR) (a T':Addr) (k:Nat),A.handled=none→AtFr K A L c ρ a k [a,T'] none→k ∈ K.excs→Stp L.own c₀ c→(∀ b ∈ [a,T'],c₀.s.heap.get? b=none∧b ∉ c.φ)→T Q (.exc k) ρ c.σ →
  wpAny K.M A (handleBy (.ref a) L.env hs) (PF c₀ L Q) (PE c₀ L Q) c.s
variable (K L) in
abbrev HOk (hs:List ExceptHandler) (as:List (List Nat × V × Option Nat)):Prop:=SD K L (UB as) hs
theorem MJ:HOk K L [] []:=fun A c₀ c ρ Q a T k hh z hk st n q=>by
 refine A3 z.x.traced fun oe vs e d h1=>?_
 refine wpAny_handleBy_nil ?_
 unfold passOn
 refine wpAny_bind (wpAny_field e d h1 ?_)
 rw [if_neg (show ¬ (Value.ref T == Value.none)=true from nofun)]
 exact wpAny_bind (Cc (fl':=L.env.frame) (P:=fun s=>wpAny K.M A (throw (.ref a)) _ _ s) z fun c' T' e1 e2 st' F' ex hp=>wpAny_throw (.mk c' ρ k a [a,T'] L.env.frame (EV e1 st n hp) hk (st.transNew st' fun b m=>(n b m).1) F' ex (.inr rfl) (e2▸q)))
theorem OZ (x:Exc h a k fp fl):∃ oe,h.get? a=some oe∧oe.cls=.ref k:=by
 cases x with
 | new oe _ _ e c=>exact ⟨oe,e,c⟩
 | seen oe _ _ _ _ _ _ e c=>exact ⟨oe,e,c⟩
theorem Qo (g:Gnd K G fa mg mb) {x:Str} {kx:Nat} {ks:List Nat} {cst:Const} {kd:Nat} {V:V} {np cp rp pos:Pos} {rest:List ExceptHandler} {as:List (List Nat × Mine.V × Option Nat)} (hx:G.lookup x=some (.exc kx ks)) (hg:BH L.env.scope x=true) (hd:A5 x=true) (hv:P7 cst=some V) (hr:HOk K L rest as) :
  HOk K L (.ExceptHandler (some (.Name x np)) none [.Return (some (.Constant cst kd cp)) rp] pos :: rest) ((ks,V,none) :: as):=fun A c₀ c ρ Q a T k hh z hk st n q=>by
 have xg:=g.exc x kx ks hx
 refine AF (OZ z.x) fun oe he hc=>?_
 refine AF (xg.kids k hk) fun m hm hmc=>?_
 refine AF (xg.kids kx xg.mem) fun mx hmx _=>?_
 refine wpAny_handleBy_cons (codeAny_handlers_test (CG g z.F xg.bound hg (Ck hd) (GW (hm.keep c.sim.keep) (hmx.keep c.sim.keep) he hc ?_))) nofun
 rw [hmc]
 replace q:match List.find? (fun h=>h.1.contains k) ((ks,V,none) :: as) with
  | some h=>Q (.ret h.2.1) (Ve h.2.2 ρ) c.σ
  | none=>Q (.exc k) ρ c.σ:=q
 rw [List.find?_cons] at q
 cases hb:ks.contains k with
 | false=>rw [hb] at q;exact hr A c₀ c ρ Q a T k hh z hk st n q
 | true=>
  rw [hb] at q
  have z':AtFr K (A.mark (some (.ref a))) L c ρ a k [a,T] none:=⟨z.R,z.hu,z.F,z.x,z.hfl,z.hn⟩
  refine codeAny_handlers_suite (Cc (P:=fun s=>wpAny K.M (A.mark (some (.ref a))) (execs [.Return (some (.Constant cst kd cp)) rp] L.env) _ _ s) z' fun c' T' e1 e2 st' F' ex hp=>?_)
  refine wpAny_execs_cons (wpAny_Return_some (O3 (c:=c') hv fun v tk rv=>?_))
  have s₂:Stp AQ c' (c'.toks tk):=Cf.keep_stp ⟨rfl,rfl⟩
  exact .ret (c'.toks tk) ρ V v ((st.transNew st' fun b m=>(n b m).1).trans s₂.any) (F'.step s₂) rv (by show Q _ _ c'.σ;rw [e2];exact q)
theorem Rm (g:Gnd K G fa mg mb) (hx:G.lookup x=some (.exc kx ks)) (hg:BH L.env.scope x=true) (hd:A5 x=true) (hy:L.vs.lookup y=some i) (ky:C2 L.env.scope y=true) (ny:A5 y=true) (hz:L.vs.lookup z=some j) (kz:C2 L.env.scope z=true) (nz:A5 z=true) (hl:(apos.endLine == cp.line)=true) :
  SD K L (Mj ks i j) [.ExceptHandler (some (.Name x np)) none [.Expr (.Call (.Attribute (.Name y p1) ("append":Str) apos) [.Name z p2] [] cp) ep] pos]:=fun A c₀ c ρ Q a T k hh z hk st n q=>by
 have xg:=g.exc x kx ks hx
 refine AF (OZ z.x) fun oe he hc=>?_
 refine AF (xg.kids k hk) fun m hm hmc=>?_
 refine AF (xg.kids kx xg.mem) fun mx hmx _=>?_
 refine wpAny_handleBy_cons (codeAny_handlers_test (CG g z.F xg.bound hg (Ck hd) (GW (hm.keep c.sim.keep) (hmx.keep c.sim.keep) he hc ?_))) nofun
 rw [hmc]
 replace q:brW (FX (AA i) (AA j) (fun _ _ _ _ _=>False) ρ c.σ (fun _ σ'=>Q .next ρ σ') noX) (Q (.exc k) ρ c.σ) (ks.contains k):=q
 cases hb:ks.contains k with
 | false=>rw [hb] at q;exact MJ A c₀ c ρ Q a T k hh z hk st n q
 | true=>
  rw [hb] at q
  have z':AtFr K (A.mark (some (.ref a))) L c ρ a k [a,T] none:=⟨z.R,z.hu,z.F,z.x,z.hfl,z.hn⟩
  refine codeAny_handlers_suite (Cc (P:=fun s=>wpAny K.M (A.mark (some (.ref a))) (execs [.Expr (.Call (.Attribute (.Name y p1) ("append":Str) apos) [.Name _ p2] [] cp) ep] L.env) _ _ s) z' fun c' T' e1 e2 st' F' ex hp=>?_)
  refine wpAny_execs_cons (wpAny_Expr_any (wpAny_mono (R8 F' hy ky ny hz kz nz hl (by rw [e2];exact q)) (fun v s y=>?_) fun _ _ e=>(PX.no (fun _ _ f=>f) e).elim) (Do F'.fn) rfl)
  exact y.casesOn fun c₁ V s₁ r q₁=>wpAny_execs_nil (.next c₁ ρ ((st.transNew st' fun b m=>(n b m).1).trans s₁.any) (F'.step s₁) q₁)
noncomputable def TP:Fl→Prop
 | .exc _=>False
 | _=>True
theorem NN (Q:BR) (fl:Fl) (ρ:List V) (σ:AD) (h:TP fl) (q:UB as Q fl ρ σ):Q fl ρ σ:=by
 cases fl with
 | exc _=>exact h.elim
 | _=>exact q
theorem NF (Q:BR) (fl:Fl) (ρ:List V) (σ:AD) (h:TP fl) (q:Mj ks i j Q fl ρ σ):Q fl ρ σ:=by
 cases fl with
 | exc _=>exact h.elim
 | _=>exact q
theorem ME (hT:∀ Q fl ρ σ,TP fl→T Q fl ρ σ→Q fl ρ σ) (hu:L.up=L.env :: L.up.tail) (hb:SsOk K L body b) (hh:SD K L T (h :: hs)):SOk K L (.Try body (h :: hs) [] [] pos) (fun C ρ σ Q=>Bw b C ρ σ (T Q)):=fun A c ρ Q R F q=>
 wpAny_Try_except (wpAny_mono (hb A c ρ _ R F q) (fun f s₁ y=>y.casesOn (fun c₁ ρ₁ s₁ F₁ q₁=>wpAny_execs_nil (.next c₁ ρ₁ s₁ F₁ (hT _ _ _ _ trivial q₁))) (fun c₁ ρ₁ s₁ F₁ q₁=>.brk c₁ ρ₁ s₁ F₁ (hT _ _ _ _ trivial q₁)) (fun c₁ ρ₁ s₁ F₁ q₁=>.cont c₁ ρ₁ s₁ F₁ (hT _ _ _ _ trivial q₁)) fun c₁ ρ₁ V v s₁ F₁ r q₁=>.ret c₁ ρ₁ V v s₁ F₁ r (hT _ _ _ _ trivial q₁)) fun e s₁ y=>by
  refine Bq (y.at R hu) fun c' ρ' k a fp fl ze1 ze2 z hk q' st n=>?_;subst ze1;subst ze2
  refine LU (P:=fun s=>wpAny K.M A (setFlight (.ref a) none) _ _ s) z fun c'' T e1 e2 st' F' ex hp=>?_
  have n':=EV e1 st n hp
  have st'':Stp L.own c c'':=st.transNew st' fun b m=>(n b m).1
  have z':AtFr K A L c'' ρ' a k [a,T] L.env.frame:=⟨R.fr,hu,F',ex,.inr rfl,fun b m=>⟨c.sim.none₀ (n' b m).1,(n' b m).2⟩⟩
  refine Cc (fl':=none) (P:=fun s=>wpAny K.M A (handleBy (.ref a) L.env (h :: hs)) _ _ s) z' fun c₃ T' f1 f2 st₃ F₃ ex₃ hp₃=>?_
  have n₃:=EV f1 st'' n' hp₃
  exact hh A c c₃ ρ' Q a T' k R.hd ⟨R.fr,hu,F₃,ex₃,.inl rfl,fun b m=>⟨c.sim.none₀ (n₃ b m).1,(n₃ b m).2⟩⟩ hk (st''.transNew st₃ fun b m=>(n' b m).1) n₃ (by rw [f2,e2];exact q'))
end
end Mine
namespace Mine
open PySem PySem.Calls
set_option genSizeOf false
set_option genInjectivity false
noncomputable def G5 (sc:Scope) (x:Str):Bool:=match sc.names.lookup x with
 | some .cell | some .free=>true
 | _=>false
theorem Mf (h:G5 sc x=true):sc.names.lookup x=some .cell∨sc.names.lookup x=some .free:=by
 unfold G5 at h
 split at h
 ·exact .inl ‹_›
 ·exact .inr ‹_›
 ·cases h
structure Agree (env:Env) (sc:Scope):Prop where
 var:∀ x,C2 env.scope x=C2 sc x
 glob:∀ x,BH env.scope x=BH sc x
 cf:∀ x,G5 sc x=true→G5 env.scope x=true
theorem Agree.of_eq (h:env.scope=sc):Agree env sc:=⟨fun _=>by rw [h],fun _=>by rw [h],fun _ q=>by rw [h];exact q⟩
theorem DL (x:Str):(relabel sc env).names.lookup x=sc.names.lookup x∨(sc.names.lookup x=some .free∧(relabel sc env).names.lookup x=some .cell):=by
 rw [Dx]
 cases h:sc.names.lookup x with
 | none=>exact .inl rfl
 | some k=>
  rw [Option.map_some]
  by_cases hq:(k == NameKind.free && env.scope.kind == .function && env.kindOf x == some .cell)=true
  ·rw [if_pos hq]
   exact .inr ⟨congrArg some (beq_iff_eq.mp (Bool.and_eq_true_iff.mp (Bool.and_eq_true_iff.mp hq).1).1),rfl⟩
  ·rw [if_neg hq];exact .inl rfl
theorem Agree.comp:Agree (compEnvC sc cl C env) sc where
 var x:=by show C2 (relabel sc env) x=_;unfold C2;rcases DL (env:=env) (sc:=sc) x with e | ⟨e,e'⟩ <;> first | (rw [e,e'];rfl) | rw [e]
 glob x:=by show BH (relabel sc env) x=_;unfold BH;rcases DL (env:=env) (sc:=sc) x with e | ⟨e,e'⟩ <;> first | (rw [e,e'];rfl) | rw [e]
 cf x h:=by
  show G5 (relabel sc env) x=true
  unfold G5 at h ⊢
  rcases DL (env:=env) (sc:=sc) x with e | ⟨_,e'⟩
  ·rw [e];exact h
  ·rw [e']
noncomputable def CP (sc:Scope) (vs:Vs) (x:Str) (nx:Nat):Vs:=(x,nx) :: sc.names.filterMap fun y=>if y.2 == .free then (vs.lookup y.1).map (y.1,·) else none
noncomputable def Hv (sc:Scope) (vs:Vs) (csc:Scope) (x:Str) (nx:Nat):Bool:=
 csc.kind == .function && csc.names.all (fun y=>y.2 != .cell && (y.2 != .local || csc.names.lookup y.1 == some .local) && (y.2 != .free || (csc.names.lookup y.1 == some .free && G5 sc y.1 && (vs.lookup y.1).isSome))) &&
  csc.names.lookup x == some .local && vs.all (fun p=>p.2 != nx)
theorem Dt {names:List (Str × NameKind)} {vs:Vs} {y:Str} {j:Nat} (h:(names.filterMap fun y=>if y.2 == .free then (vs.lookup y.1).map (y.1,·) else none).lookup y=some j):(y,NameKind.free) ∈ names∧vs.lookup y=some j:=by
 obtain ⟨⟨n,k⟩,hp,e⟩:=List.mem_filterMap.mp (mem_of_lookup h)
 split at e
 ·rename_i hf
  refine AF (Option.map_eq_some_iff.mp e) fun j' hj e=>?_
  cases e
  cases beq_iff_eq.mp hf
  exact ⟨hp,hj⟩
 ·cases e
theorem MZ {env:Env} {up:List Env} {sc csc:Scope} {vs:Vs} {x:Str} {nx:Nat} (hcf:∀ y,G5 sc y=true→G5 env.scope y=true) (h:Hv sc vs csc x nx=true):CompSc ⟨env,vs,up⟩ csc (CP csc vs x nx) x nx:=by
 unfold Hv at h
 simp only [Bool.and_eq_true,beq_iff_eq,List.all_eq_true,bne_iff_ne,ne_eq,Bool.or_eq_true,Option.isSome_iff_exists] at h
 obtain ⟨⟨⟨h1,h2⟩,h3⟩,h4⟩:=h
 have hfree:∀ y,(y,NameKind.free) ∈ csc.names→csc.names.lookup y=some .free∧G5 sc y=true∧∃ j,vs.lookup y=some j:=fun y hy=>by
  have:=(h2 _ hy).2.resolve_left fun n=>n rfl
  exact ⟨this.1.1,this.1.2,this.2⟩
 refine ⟨h1,fun y hy=>(h2 y hy).1.1,fun y hy hl=>(h2 y hy).1.2.resolve_left fun n=>n hl,h3,fun m=>?_,?_,fun y hy hf=>?_,fun y j hj=>?_⟩
 ·cases h3.symm.trans (hfree x m).1
 ·rw [CP,List.lookup_cons,beq_self_eq_true]
 ·obtain ⟨n,k⟩:=y
  cases hf
  refine TF (hfree n hy) fun _ c j hj=>?_
  exact ⟨j,hj,Mf (hcf n c)⟩
 ·rw [CP,List.lookup_cons] at hj
  cases e:y == x with
  | true=>rw [e] at hj;exact .inl ⟨beq_iff_eq.mp e,(Option.some.inj hj).symm⟩
  | false=>
   rw [e] at hj
   obtain ⟨m,hv⟩:=Dt hj
   exact .inr ⟨beq_eq_false_iff_ne.mp e,(hfree y m).1,hv,h4 (y,j) (mem_of_lookup hv)⟩
structure RE where
 v:Ex
 t:Tx
abbrev rv (a:Ex):RE:=⟨a,By a⟩
structure EGood (K:Ctx) (L:Loc) (e:Expr) (a:RE):Prop where
 star:Au e
 slice:F6 e
 ok:EOk K L e a.v
 test:TOk K L e a.t
inductive AllG (K:Ctx) (L:Loc):List Expr→List RE→Prop
 | nil:AllG K L [] []
 | cons {e:Expr} {a:RE} {es:List Expr} {as:List RE}:EGood K L e a→AllG K L es as→AllG K L (e :: es) (a :: as)
structure Bg (K:Ctx) (G:GlT) (fa:Nat→Addr) (mg mb:Str→Option Value):Prop where
 g:Gnd K G fa mg mb
 hC:GK K G fa
abbrev vals (as:List RE):List Ex:=as.map RE.v
abbrev Jd (as:List RE):List Tx:=as.map RE.t
section
variable {K:Ctx} {L:Loc}
theorem gv (h1:Au e) (h2:F6 e) (he:∀ env whole,isTrue e env whole=(do let v ← whole;standAt e.pos;holding [v] (truthy v))) (h:EOk K L e a):EGood K L e (rv a):=⟨h1,h2,h,SX he h⟩
theorem AllG.all (h:AllG K L es as):LOk K L es (vals as)∧AOk K L es (Jd as)∧B2 es∧IV K L es (Jd as):=by
 induction h with
 | nil=>exact ⟨E0,RU,BV,QZ⟩
 | cons h _ ih=>exact ⟨Dh h.star h.ok ih.1,ON h.test ih.2.1,BF h.star ih.2.2.1,Nu h.test ih.2.2.2⟩
theorem AllG.B (h:AllG K L es as):∀ {e:Expr} {a:RE},EGood K L e a→BOk K L (e :: es) (vals (a :: as)):=by
 induction h with
 | nil=>exact fun h=>Se h.ok
 | cons h _ ih=>exact fun h'=>Ps h'.ok (ih h)
theorem AllG.C (h:AllG K L es as):∀ {e:Expr} {a:RE} {ops:List CmpOp},EGood K L e a→ops.length=(e :: es).length→COk K L ops (e :: es) (vals (a :: as)):=by
 induction h with
 | nil=>exact fun {_ _ ops} h hl=>match ops,hl with | [_],_=>Q4 h.ok
 | cons h _ ih=>exact fun {_ _ ops} h' hl=>match ops,hl with | _ :: _ :: _,hl=>Pg h'.ok (ih h (Nat.succ.inj hl))
end
section
variable {K:Ctx} {G:GlT} {fa:Nat→Addr} {mg mb:Str→Option Value}
variable (K) in
abbrev Good (sc:Scope) (vs:Vs) (e:Expr):Type:={ a:RE // ∀ env up,Agree env sc→EGood K ⟨env,vs,up⟩ e a }
variable (K) in
abbrev Vb (sc:Scope) (vs:Vs) (es:List Expr):Type:={ as:List RE // ∀ env up,Agree env sc→AllG K ⟨env,vs,up⟩ es as }
variable (K) in
abbrev Rdr:=(sc:Scope)→(vs:Vs)→(e:Expr)→Option (Good K sc vs e)
noncomputable def rL {sc:Scope} {vs:Vs} (f:(e:Expr)→Option (Good K sc vs e)):(es:List Expr)→Option (Vb K sc vs es)
 | []=>some ⟨[],fun _ _ _=>.nil⟩
 | e :: es=>(f e).bind fun a=>(rL f es).map fun as=>⟨a.1 :: as.1,fun env up h=>.cons (a.2 env up h) (as.2 env up h)⟩
noncomputable def Uf {sc:Scope} {vs:Vs} {k:Nat} {p:Pos}:(c:Const)→Option (Good K sc vs (.Constant c k p))
 | .none=>some ⟨rv CF,fun _ _ _=>gv (fun _ _=>rfl) (fun _ _=>rfl) (fun _ _=>rfl) R7⟩
 | .bool b=>some ⟨rv (Ao b),fun _ _ _=>gv (fun _ _=>rfl) (fun _ _=>rfl) (fun _ _=>rfl) Q8⟩
 | .int i=>some ⟨rv (AG i),fun _ _ _=>gv (fun _ _=>rfl) (fun _ _=>rfl) (fun _ _=>rfl) Ua⟩
 | .str s=>some ⟨rv (Aw s),fun _ _ _=>gv (fun _ _=>rfl) (fun _ _=>rfl) (fun _ _=>rfl) Uc⟩
 | _=>none
noncomputable def Jr {α:Type} (o:Option α):Option { a:α // o=some a }:=match o with
 | some a=>some ⟨a,rfl⟩
 | none=>none
noncomputable def P2 (B:Bg K G fa mg mb) (sc:Scope) (vs:Vs) (x:Str) (p:Pos):Option (Good K sc vs (.Name x p)):=
 if hn:A5 x=true then
  if hv:C2 sc x=true then (Jr (vs.lookup x)).map fun i=>⟨rv (AA i.1),fun _ _ hA=>gv (fun _ _=>rfl) (fun _ _=>rfl) (fun _ _=>rfl) (UT i.2 ((hA.var x).trans hv) hn)⟩
  else if hg:BH sc x=true then (Jr (G.lookup x)).bind fun
   | ⟨.str s,e⟩=>some ⟨rv (Aw s),fun _ _ hA=>gv (fun _ _=>rfl) (fun _ _=>rfl) (fun _ _=>rfl) (SG B.g e ((hA.glob x).trans hg) hn)⟩
   | ⟨.int i,e⟩=>some ⟨rv (AG i),fun _ _ hA=>gv (fun _ _=>rfl) (fun _ _=>rfl) (fun _ _=>rfl) (Rz B.g e ((hA.glob x).trans hg) hn)⟩
   | _=>none
  else none
 else none
noncomputable def rOp:(op:Operator)→Option { o:BOp // cOp o=op }
 | .Add=>some ⟨.add,rfl⟩ | .Sub=>some ⟨.sub,rfl⟩ | .Mult=>some ⟨.mul,rfl⟩ | .FloorDiv=>some ⟨.floordiv,rfl⟩ | .Mod=>some ⟨.mod,rfl⟩ | .Pow=>some ⟨.pow,rfl⟩ | _=>none
theorem Agree.free (hA:Agree env sc) (h:Ag G sc x=true):Ag G env.scope x=true:=by unfold Ag at h ⊢;rw [hA.glob x];exact h
abbrev RM (K:Ctx) (sc:Scope) (vs:Vs) (t e:Expr):Type:={ r:SrcT × List RE // ∀ env up,Agree env sc→Fj K ⟨env,vs,up⟩ e r.1 (vals r.2) t∧∀ x,foldedSetIterable e env x=pure x }
noncomputable def S1:Expr→Bool
 | .Set ..=>true
 | _=>false
theorem Nv (h:S1 e=false) (env:Env) (x:Value):foldedSetIterable e env x=pure x:=by
 cases e <;> first | rfl | cases h
noncomputable def Su:Expr→Bool
 | .Tuple ..=>true
 | _=>false
noncomputable def OD {sc:Scope} {vs:Vs} (f:(e:Expr)→Option (Good K sc vs e)) (t e:Expr):Option (RM K sc vs t e):=
 if hs:S1 e=false then (f e).map fun b=>⟨(.plain,[b.1]),fun env up h=>⟨No (b.2 env up h).ok,Nv hs env⟩⟩ else none
noncomputable def VV (B:Bg K G fa mg mb) {sc:Scope} {vs:Vs} (f:(e:Expr)→Option (Good K sc vs e)) (pf pos:Pos) (a:Expr):(t:Expr)→Option (RM K sc vs t (.Call (.Name ("enumerate":Str) pf) [a] [] pos))
 | .Tuple _ _ _=>if hf:Ag G sc ("enumerate":Str)=true then (f a).map fun b=>⟨(.enum,[b.1]),fun env up h=>⟨QK B.g (h.free hf) (b.2 env up h).star (AllG.cons (b.2 env up h) .nil).all.1,fun _=>rfl⟩⟩ else none
 | _=>none
noncomputable def TS (B:Bg K G fa mg mb) {sc:Scope} {vs:Vs} (f:(e:Expr)→Option (Good K sc vs e)) (t:Expr) (pf pos:Pos) (a:Expr) (as:List Expr):Option (RM K sc vs t (.Call (.Name ("range":Str) pf) (a :: as) [] pos)):=
 if hf:Ag G sc ("range":Str)=true then (f a).bind fun b=>(rL f as).map fun bs=>⟨(.range,b.1 :: bs.1),fun env up h=>
  have al:=(AllG.cons (b.2 env up h) (bs.2 env up h)).all
  ⟨Mt B.g (h.free hf) (b.2 env up h).star al.2.2.1 al.1,fun _=>rfl⟩⟩ else none
noncomputable def VJ (B:Bg K G fa mg mb) {sc:Scope} {vs:Vs} (f:(e:Expr)→Option (Good K sc vs e)) (t:Expr):(e:Expr)→Option (RM K sc vs t e)
 | .Call (.Name x pf) (a :: as) [] pos=>
  if hr:x=("range":Str) then (TS B f t pf pos a as).map fun r=>⟨r.1,fun env up h=>by subst hr;exact r.2 env up h⟩
  else if he:x=("enumerate":Str) then (match as with
   | []=>(VV B f pf pos a t).map fun r=>⟨r.1,fun env up h=>by subst he;exact r.2 env up h⟩
   | _ :: _=>none)
  else OD f t (.Call (.Name x pf) (a :: as) [] pos)
 | e=>OD f t e
noncomputable def Vi (x:Str):Option { p:Pr // x ∈ B6∧bootBuiltins x=some (GM p)∧(∀ vs,Km p vs=vs)∧((∃ T,GM p=.type T)∨∃ T,GM p=.builtin T) }:=
 if h:x=("len":Str) then some ⟨.len,by subst h;exact ⟨by decide,OH,fun _=>rfl,.inr ⟨_,rfl⟩⟩⟩
 else if h:x=("list":Str) then some ⟨.list,by subst h;exact ⟨by decide,HO,fun _=>rfl,.inl ⟨_,rfl⟩⟩⟩
 else if h:x=("tuple":Str) then some ⟨.tuple,by subst h;exact ⟨by decide,GP,fun _=>rfl,.inl ⟨_,rfl⟩⟩⟩
 else if h:x=("str":Str) then some ⟨.str,by subst h;exact ⟨by decide,KN,fun _=>rfl,.inl ⟨_,rfl⟩⟩⟩
 else if h:x=("int":Str) then some ⟨.int,by subst h;exact ⟨by decide,J6,fun _=>rfl,.inl ⟨_,rfl⟩⟩⟩
 else if h:x=("min":Str) then some ⟨.min,by subst h;exact ⟨by decide,OB,fun _=>rfl,.inr ⟨_,rfl⟩⟩⟩
 else if h:x=("all":Str) then some ⟨.all,by subst h;exact ⟨by decide,O7,fun _=>rfl,.inr ⟨_,rfl⟩⟩⟩
 else if h:x=("max":Str) then some ⟨.max,by subst h;exact ⟨by decide,Qd,fun _=>rfl,.inr ⟨_,rfl⟩⟩⟩
 else none
noncomputable def WH (x:Str):Option { t:Ty // x ∈ B6∧bootBuiltins x=some (.type (Ky t)) }:=
 if h:x=("int":Str) then some ⟨.int,by subst h;exact ⟨by decide,J6⟩⟩
 else if h:x=("bool":Str) then some ⟨.bool,by subst h;exact ⟨by decide,NJ⟩⟩
 else if h:x=("str":Str) then some ⟨.str,by subst h;exact ⟨by decide,KN⟩⟩
 else if h:x=("tuple":Str) then some ⟨.tuple,by subst h;exact ⟨by decide,GP⟩⟩
 else if h:x=("list":Str) then some ⟨.list,by subst h;exact ⟨by decide,HO⟩⟩
 else none
structure SortR (K:Ctx) (G:GlT):Prop where
 one:∀ {L:Loc} {e:Expr} {a:Ex} {pf pos:Pos},Ag G L.env.scope ("sorted":Str)=true→Au e→EOk K L e a→EOk K L (.Call (.Name ("sorted":Str) pf) [e] [] pos) (E3 false a)
 set:∀ {L:Loc} {e:Expr} {a:Ex} {pf pf' pos pos':Pos},Ag G L.env.scope ("sorted":Str)=true→Ag G L.env.scope ("set":Str)=true→Au e→EOk K L e a →
  EOk K L (.Call (.Name ("sorted":Str) pf) [.Call (.Name ("set":Str) pf') [e] [] pos'] [] pos) (E3 true a)
noncomputable def Vx (B:Bg K G fa mg mb) {sc:Scope} {vs:Vs} (f:(e:Expr)→Option (Good K sc vs e)) (pf pos:Pos) (a:Expr):(as:List Expr)→Option (Good K sc vs (.Call (.Name ("isinstance":Str) pf) (a :: as) [] pos))
 | [.Name y _]=>if hf:(Ag G sc ("isinstance":Str) && Ag G sc y)=true then (WH y).bind fun ty=>(f a).map fun b=>⟨rv (A0 (.isinst ty.1) [b.1.v]),fun env up h=>
   have hf:=Bool.and_eq_true_iff.mp hf
   gv (fun _ _=>rfl) (fun _ _=>rfl) (fun _ _=>rfl) (M9 B.g (h.free hf.1) (h.free hf.2) ty.2.1 ty.2.2 (b.2 env up h).star (b.2 env up h).ok)⟩ else none
 | _=>none
noncomputable def RN (S:SortR K G) {sc:Scope} {vs:Vs} (f:(e:Expr)→Option (Good K sc vs e)) (pf pos:Pos):(as:List Expr)→Option (Good K sc vs (.Call (.Name ("sorted":Str) pf) as [] pos))
 | [.Call (.Name y pf') [e] [] pos']=>if hy:y=("set":Str) then
   if hf:(Ag G sc ("sorted":Str) && Ag G sc ("set":Str))=true then (f e).map fun b=>⟨rv (E3 true b.1.v),fun env up h=>gv (fun _ _=>rfl) (fun _ _=>rfl) (fun _ _=>rfl) (by
    have hf:=Bool.and_eq_true_iff.mp hf
    subst hy;exact S.set (h.free hf.1) (h.free hf.2) (b.2 env up h).star (b.2 env up h).ok)⟩ else none
  else if hf:Ag G sc ("sorted":Str)=true then (f (.Call (.Name y pf') [e] [] pos')).map fun b=>⟨rv (E3 false b.1.v),fun env up h=>gv (fun _ _=>rfl) (fun _ _=>rfl) (fun _ _=>rfl) (S.one (h.free hf) (b.2 env up h).star (b.2 env up h).ok)⟩ else none
 | [e]=>if hf:Ag G sc ("sorted":Str)=true then (f e).map fun b=>⟨rv (E3 false b.1.v),fun env up h=>gv (fun _ _=>rfl) (fun _ _=>rfl) (fun _ _=>rfl) (S.one (h.free hf) (b.2 env up h).star (b.2 env up h).ok)⟩ else none
 | _=>none
noncomputable def JT (x:Str):Bool:=!x.cps.toList.contains 46
theorem D7 (h:JT x=true) (m:Str):x ≠ AX ++ "." ++ m:=fun e=>by
 rw [e] at h
 unfold JT at h
 have:(AX ++ "." ++ m:Str).cps.toList=AX.cps.toList ++ [46] ++ m.cps.toList:=by
  show ((AX.cps ++ (⟨#[46]⟩:Str).cps) ++ m.cps).toList=_
  rw [Array.toList_append,Array.toList_append]
 rw [this,List.contains_iff_mem.mpr (List.mem_append_left _ (List.mem_append_right _ List.mem_cons_self))] at h
 cases h
noncomputable def R5 (g:Option Gl) (i:Nat):Bool:=match g with
 | some (.fn j)=>j == i
 | _=>false
theorem L8 (h:R5 g i=true):g=some (.fn i):=by
 unfold R5 at h
 split at h
 ·rw [beq_iff_eq.mp h]
 ·cases h
noncomputable def Uv (B:Bg K G fa mg mb) (S:SortR K G) {sc:Scope} {vs:Vs} (f:(e:Expr)→Option (Good K sc vs e)) (x:Str) (pf pos:Pos):(as:List Expr)→Option (Good K sc vs (.Call (.Name x pf) as [] pos))
 | []=>none
 | a :: as=>
  if hi:x=("isinstance":Str) then (Vx B f pf pos a as).map fun r=>⟨r.1,fun env up h=>by subst hi;exact r.2 env up h⟩
  else if hs:x=("sorted":Str) then (RN S f pf pos (a :: as)).map fun r=>⟨r.1,fun env up h=>by subst hs;exact r.2 env up h⟩
  else if hg:(BH sc x && A5 x)=true then (f a).bind fun b=>(rL f as).bind fun bs=>(match hl:G.lookup x with
   | some (.fn i)=>if hd:JT x=true then some ⟨rv (AP i (vals (b.1 :: bs.1))),fun env up h=>
     have hg:=Bool.and_eq_true_iff.mp hg
     gv (fun _ _=>rfl) (fun _ _=>rfl) (fun _ _=>rfl) (Re B.g B.hC hl (D7 hd) ((h.glob x).trans hg.1) hg.2 (b.2 env up h).star (AllG.cons (b.2 env up h) (bs.2 env up h)).all.1)⟩ else none
   | some (.cls C i)=>if hx:x=AX then (if hj:R5 (G.lookup (AX ++ "." ++ "__init__")) i=true then some ⟨rv (TN C i (vals (b.1 :: bs.1))),fun env up h=>
     have hg:=Bool.and_eq_true_iff.mp hg
     have al:=(AllG.cons (b.2 env up h) (bs.2 env up h)).all
     gv (fun _ _=>rfl) (fun _ _=>rfl) (fun _ _=>rfl) (by subst hx;exact T8 B.g B.hC hl (L8 hj) ((h.glob AX).trans hg.1) (b.2 env up h).star (bs.2 env up h).all.2.2.1 al.1)⟩ else none) else none
   | some _=>none
   | none=>(Vi x).map fun p=>⟨rv (A0 p.1 (vals (b.1 :: bs.1))),fun env up h=>
     have al:=(AllG.cons (b.2 env up h) (bs.2 env up h)).all
     gv (fun _ _=>rfl) (fun _ _=>rfl) (fun _ _=>rfl) (Te B.g p.2.2.2.1 (h.free (by unfold Ag;rw [hl,(Bool.and_eq_true_iff.mp hg).1];rfl)) p.2.1 p.2.2.1 p.2.2.2.2 (b.2 env up h).star al.2.2.1 al.1)⟩)
  else none
end
end Mine
namespace Mine
open PySem PySem.Calls
set_option genSizeOf false
set_option genInjectivity false
section
variable {K:Ctx} {G:GlT} {fa:Nat→Addr} {mg mb:Str→Option Value}
structure CompRd (K:Ctx) (L:Loc) (elt:Expr) (x:Str) (px:Pos) (iter:Expr) (ifs:List Expr) (csc:Scope) (vs':Vs) (nx:Nat) (a:Ex) (k:SrcT) (as:List Ex) (ts:List Tx):Prop where
 sc:CompSc L csc vs' x nx
 fold:∀ x,foldedSetIterable iter L.env x=pure x
 src:Fj K L iter k as (.Name x px)
 kind:k ≠ .enum
 elt:∀ C,EOk K (Bb L csc vs' C) elt a
 ifs:∀ C,IV K (Bb L csc vs' C) ifs ts
structure CompV where
 a:Ex
 k:SrcT
 as:List Ex
 ts:List Tx
noncomputable def Rx:(k:SrcT)→Option { _u:Unit // k ≠ .enum }
 | .plain=>some ⟨(),nofun⟩
 | .range=>some ⟨(),nofun⟩
 | .enum=>none
noncomputable def Sk (B:Bg K G fa mg mb) (nx:Nat) (ff:Rdr K) (sc:Scope) (vs:Vs) (elt:Expr) (x:Str) (px:Pos) (iter:Expr) (ifs:List Expr) (csc:Scope) :
  Option { r:CompV // ∀ env up,Agree env sc→CompRd K ⟨env,vs,up⟩ elt x px iter ifs csc (CP csc vs x nx) nx r.a r.k r.as r.ts }:=
 if hc:Hv sc vs csc x nx=true then (VJ B (ff sc vs) (.Name x px) iter).bind fun s=>(ff csc (CP csc vs x nx) elt).bind fun a=>(rL (ff csc (CP csc vs x nx)) ifs).bind fun ts=>(Rx s.1.1).map fun hk=>
  ⟨⟨a.1.v,s.1.1,vals s.1.2,Jd ts.1⟩,fun env up h=>⟨MZ h.cf hc,(s.2 env up h).2,(s.2 env up h).1,hk.2,fun _=>(a.2 _ _ Agree.comp).ok,fun _=>(ts.2 _ _ Agree.comp).all.2.2.2⟩⟩ else none
noncomputable def VR {sc:Scope} {vs:Vs} (f:(e:Expr)→Option (Good K sc vs e)):(o:Option Expr)→Option { a:Option Ex // ∀ env up,Agree env sc→OOk K ⟨env,vs,up⟩ o a }
 | none=>some ⟨none,fun _ _ _=>OY⟩
 | some e=>(f e).map fun a=>⟨some a.1.v,fun env up h=>QJ (a.2 env up h).ok⟩
noncomputable def Vz (B:Bg K G fa mg mb) {sc:Scope} {vs:Vs} (f:(e:Expr)→Option (Good K sc vs e)) (pos:Pos) (a:Expr):(i:Expr)→Option (Good K sc vs (.Subscript a i pos))
 | .Slice lo hi none _=>(f a).bind fun x=>(VR f lo).bind fun y=>(VR f hi).map fun z=>⟨rv (As x.1.v y.1 z.1),fun env up h=>gv (fun _ _=>rfl) (fun _ _=>rfl) (fun _ _=>rfl) (N7 (x.2 env up h).ok (y.2 env up h) (z.2 env up h))⟩
 | i=>(f a).bind fun x=>(f i).map fun y=>⟨rv (AJ x.1.v y.1.v),fun env up h=>gv (fun _ _=>rfl) (fun _ _=>rfl) (fun _ _=>rfl) (UJ (y.2 env up h).slice (x.2 env up h).ok (y.2 env up h).ok)⟩
noncomputable def V4 {sc:Scope} {vs:Vs} (f:(e:Expr)→Option (Good K sc vs e)) (apos pos:Pos) (o:Expr) (hb:∀ env,attributeBase o ("append":Str) env (eval o env)=eval o env):(as:List Expr)→Option (Good K sc vs (.Call (.Attribute o ("append":Str) apos) as [] pos))
 | [a]=>if hl:(apos.endLine == pos.line)=true then (f o).bind fun x=>(f a).map fun y=>⟨rv (FX x.1.v y.1.v),fun env up h=>gv (fun _ _=>rfl) (fun _ _=>rfl) (fun _ _=>rfl) (Ny hb hl (y.2 env up h).star (x.2 env up h).ok (y.2 env up h).ok)⟩ else none
 | _=>none
theorem AllG.star (h:AllG K L es as):∀ e r,es=e :: r→Au e:=fun e r q=>by
 subst q
 cases h with
 | cons h _=>exact h.star
noncomputable def WA:(g:Option Gl)→Option { j:Nat // g=some (.fn j) }
 | some (.fn j)=>some ⟨j,rfl⟩
 | _=>none
noncomputable def Pi:(g:Option Gl)→Option { p:Addr × Nat // g=some (.cls p.1 p.2) }
 | some (.cls C i)=>some ⟨(C,i),rfl⟩
 | _=>none
noncomputable def Pm:(g:Option Gl)→Option { p:Nat × List Nat // g=some (.exc p.1 p.2) }
 | some (.exc k ks)=>some ⟨(k,ks),rfl⟩
 | _=>none
noncomputable def Um (B:Bg K G fa mg mb) {sc:Scope} {vs:Vs} (f:(e:Expr)→Option (Good K sc vs e)) (m:Str) (apos pos:Pos) (o:Str) (po:Pos) (as:List Expr):Option (Good K sc vs (.Call (.Attribute (.Name o po) m apos) as [] pos)):=
 (Pi (G.lookup AX)).bind fun c=>(WA (G.lookup (AX ++ "." ++ m))).bind fun j=>if hl:(decide (as.length < 30) && (apos.endLine == pos.line))=true then (P2 B sc vs o po).bind fun x=>(rL f as).map fun ys=>
  ⟨rv (A8 c.1.1 m j.1 x.1.v (vals ys.1)),fun env up h=>
   have hl:=Bool.and_eq_true_iff.mp hl
   gv (fun _ _=>rfl) (fun _ _=>rfl) (fun _ _=>rfl) (RZ B.g B.hC c.2 j.2 (of_decide_eq_true hl.1) hl.2 (x.2 env up h).ok (ys.2 env up h).all.2.2.1 (ys.2 env up h).star (ys.2 env up h).all.1)⟩ else none
noncomputable def V1 {sc:Scope} {vs:Vs} (f:(e:Expr)→Option (Good K sc vs e)) (apos pos:Pos) (o:Expr) (hb:∀ env,attributeBase o ("extend":Str) env (eval o env)=eval o env):(as:List Expr)→Option (Good K sc vs (.Call (.Attribute o ("extend":Str) apos) as [] pos))
 | [a]=>if hl:(apos.endLine == pos.line)=true then (f o).bind fun x=>(f a).map fun y=>⟨rv (TH x.1.v y.1.v),fun env up h=>gv (fun _ _=>rfl) (fun _ _=>rfl) (fun _ _=>rfl) (NS hb hl (y.2 env up h).star (x.2 env up h).ok (y.2 env up h).ok)⟩ else none
 | _=>none
noncomputable def V0 {sc:Scope} {vs:Vs} (f:(e:Expr)→Option (Good K sc vs e)) (apos pos:Pos) (o:Expr) (hb:∀ env,attributeBase o ("pop":Str) env (eval o env)=eval o env):(as:List Expr)→Option (Good K sc vs (.Call (.Attribute o ("pop":Str) apos) as [] pos))
 | [a]=>if hl:(apos.endLine == pos.line)=true then (f o).bind fun x=>(f a).map fun y=>⟨rv (SH x.1.v y.1.v),fun env up h=>gv (fun _ _=>rfl) (fun _ _=>rfl) (fun _ _=>rfl) (TW hb hl (y.2 env up h).star (x.2 env up h).ok (y.2 env up h).ok)⟩ else none
 | _=>none
noncomputable def Vm {sc:Scope} {vs:Vs} (f:(e:Expr)→Option (Good K sc vs e)) (apos pos:Pos) (o:Expr) (hb:∀ env,attributeBase o ("clear":Str) env (eval o env)=eval o env):(as:List Expr)→Option (Good K sc vs (.Call (.Attribute o ("clear":Str) apos) as [] pos))
 | []=>if hl:(apos.endLine == pos.line)=true then (f o).map fun x=>⟨rv (Tl x.1.v),fun env up h=>gv (fun _ _=>rfl) (fun _ _=>rfl) (fun _ _=>rfl) (Pp hb hl (x.2 env up h).ok)⟩ else none
 | _=>none
noncomputable def rM1 {sc:Scope} {vs:Vs} (f:(e:Expr)→Option (Good K sc vs e)) (m:Str) (apos pos:Pos) (o:Expr) (hb:∀ m env,attributeBase o m env (eval o env)=eval o env) (as:List Expr):Option (Good K sc vs (.Call (.Attribute o m apos) as [] pos)):=
 if hm:m=("append":Str) then (V4 f apos pos o (hb _) as).map fun r=>⟨r.1,fun env up h=>by subst hm;exact r.2 env up h⟩
 else if hm:m=("extend":Str) then (V1 f apos pos o (hb _) as).map fun r=>⟨r.1,fun env up h=>by subst hm;exact r.2 env up h⟩
 else if hm:m=("clear":Str) then (Vm f apos pos o (hb _) as).map fun r=>⟨r.1,fun env up h=>by subst hm;exact r.2 env up h⟩
 else if hm:m=("pop":Str) then (V0 f apos pos o (hb _) as).map fun r=>⟨r.1,fun env up h=>by subst hm;exact r.2 env up h⟩
 else none
noncomputable def V3 (m:Str):Bool:=m == ("append":Str) || m == ("extend":Str) || m == ("pop":Str) || m == ("clear":Str)
noncomputable def Uu (B:Bg K G fa mg mb) {sc:Scope} {vs:Vs} (f:(e:Expr)→Option (Good K sc vs e)) (m:Str) (apos pos:Pos):(o:Expr)→(as:List Expr)→Option (Good K sc vs (.Call (.Attribute o m apos) as [] pos))
 | .Name o po,as=>if V3 m=true then rM1 f m apos pos (.Name o po) (fun _ _=>rfl) as else Um B f m apos pos o po as
 | .Subscript o i po,as=>rM1 f m apos pos (.Subscript o i po) (fun _ _=>rfl) as
 | .Attribute o x po,as=>rM1 f m apos pos (.Attribute o x po) (fun _ _=>rfl) as
 | .Call (.Attribute o x pa) bs ks po,as=>rM1 f m apos pos (.Call (.Attribute o x pa) bs ks po) (fun _ _=>rfl) as
 | _,_=>none
noncomputable def Vw (B:Bg K G fa mg mb) {sc:Scope} {vs:Vs} (m:Str) (pos:Pos):(o:Expr)→Option (Good K sc vs (.Attribute o m pos))
 | .Name o po=>(Pi (G.lookup AX)).bind fun c=>if hm:m ∈ CI then (P2 B sc vs o po).map fun x=>⟨rv (Ar c.1.1 m x.1.v),fun env up h=>gv (fun _ _=>rfl) (fun _ _=>rfl) (fun _ _=>rfl) (SU B.g c.2 hm (x.2 env up h).ok)⟩ else none
 | _=>none
noncomputable def VK {sc:Scope} {vs:Vs} (f:(e:Expr)→Option (Good K sc vs e)) (pos:Pos) (op:BoolOp):(es:List Expr)→Option (Good K sc vs (.BoolOp op es pos))
 | []=>none
 | e :: es=>(f e).bind fun a=>(rL f es).bind fun as=>(match op with
  | .And=>some ⟨⟨KG true (vals (a.1 :: as.1)),EH (Jd (a.1 :: as.1))⟩,fun env up h=>⟨fun _ _=>rfl,fun _ _=>rfl,UQ ((as.2 env up h).B (a.2 env up h)),SV (AllG.cons (a.2 env up h) (as.2 env up h)).all.2.1⟩⟩
  | .Or=>some ⟨⟨KG false (vals (a.1 :: as.1)),tOr (Jd (a.1 :: as.1))⟩,fun env up h=>⟨fun _ _=>rfl,fun _ _=>rfl,VS ((as.2 env up h).B (a.2 env up h)),TJ (AllG.cons (a.2 env up h) (as.2 env up h)).all.2.1⟩⟩)
noncomputable def V7 {sc:Scope} {vs:Vs} (f:(e:Expr)→Option (Good K sc vs e)) (pos:Pos) (l:Expr) (ops:List CmpOp):(es:List Expr)→Option (Good K sc vs (.Compare l ops es pos))
 | []=>none
 | e :: es=>if hm:lastMarks ops (e :: es)=false then if hl:ops.length=(e :: es).length then (f l).bind fun x=>(f e).bind fun a=>(rL f es).map fun as=>
   ⟨⟨xOf (AY x.1.v ops (vals (a.1 :: as.1))),AY x.1.v ops (vals (a.1 :: as.1))⟩,fun env up h=>⟨fun _ _=>rfl,fun _ _=>rfl,Ub hm (x.2 env up h).ok ((as.2 env up h).C (a.2 env up h) hl),R0 hm (x.2 env up h).ok ((as.2 env up h).C (a.2 env up h) hl)⟩⟩ else none else none
noncomputable def rUn {sc:Scope} {vs:Vs} (f:(e:Expr)→Option (Good K sc vs e)) (pos:Pos) (x:Expr):(op:UnaryOp)→Option (Good K sc vs (.UnaryOp op x pos))
 | .USub=>(f x).map fun a=>⟨rv (Rv a.1.v),fun env up h=>gv (fun _ _=>rfl) (fun _ _=>rfl) (fun _ _=>rfl) (UW (a.2 env up h).ok)⟩
 | .Not=>(f x).map fun (a:Good K sc vs x)=>⟨RE.mk (U0 a.1.v) (DE a.1.t),fun env up h=>⟨fun _ _=>rfl,fun _ _=>rfl,S5 (a.2 env up h).ok,SK (a.2 env up h).test⟩⟩
 | _=>none
noncomputable def rLC (B:Bg K G fa mg mb) (nx:Nat) (ff:Rdr K) (sc:Scope) (vs:Vs) (elt:Expr) (csc:Scope) (pos:Pos):(gs:List Comprehension)→Option (Good K sc vs (.ListComp elt gs csc pos))
 | [⟨.Name x px,iter,ifs,0⟩]=>(Sk B nx ff sc vs elt x px iter ifs csc).map fun r=>⟨rv (BB r.1.a nx r.1.k r.1.as r.1.ts),fun env up h=>have q:=r.2 env up h
   gv (fun _ _=>rfl) (fun _ _=>rfl) (fun _ _=>rfl) (LX q.sc q.fold q.src q.kind q.elt q.ifs)⟩
 | _=>none
noncomputable def rE (B:Bg K G fa mg mb) (S:SortR K G) (nx:Nat):Nat→Rdr K
 | 0,_,_,_=>none
 | n + 1,sc,vs,e=>match e with
  | .Constant c _ _=>Uf c
  | .Name x p=>P2 B sc vs x p
  | .BinOp l op r _=>(rOp op).bind fun o=>(rE B S nx n sc vs l).bind fun a=>(rE B S nx n sc vs r).map fun b=>⟨rv (AM o.1 a.1.v b.1.v),fun env up h=>gv (fun _ _=>rfl) (fun _ _=>rfl) (fun _ _=>rfl) (by obtain ⟨o,ho⟩:=o;subst ho;exact UE (a.2 env up h).ok (b.2 env up h).ok)⟩
  | .UnaryOp op x p=>rUn (rE B S nx n sc vs) p x op
  | .BoolOp op es p=>VK (rE B S nx n sc vs) p op es
  | .Compare l ops es p=>V7 (rE B S nx n sc vs) p l ops es
  | .Tuple es _ _=>if hz:es.length≤1000 then (rL (rE B S nx n sc vs) es).map fun as=>⟨rv (Ap (vals as.1)),fun env up h=>gv (fun _ _=>rfl) (fun _ _=>rfl) (fun _ _=>rfl) (TR (as.2 env up h).all.1 hz)⟩ else none
  | .List es _=>if hz:es.length≤1000 then (rL (rE B S nx n sc vs) es).map fun as=>⟨rv (Al (vals as.1)),fun env up h=>gv (fun _ _=>rfl) (fun _ _=>rfl) (fun _ _=>rfl) (R9 (as.2 env up h).all.1 hz)⟩ else none
  | .Subscript a i p=>Vz B (rE B S nx n sc vs) p a i
  | .Call (.Name x pf) as [] p=>Uv B S (rE B S nx n sc vs) x pf p as
  | .Call (.Attribute o m ap) as [] p=>Uu B (rE B S nx n sc vs) m ap p o as
  | .ListComp elt gs csc p=>rLC B nx (rE B S nx n) sc vs elt csc p gs
  | .Attribute o m p=>Vw B m p o
  | .Dict [] [] _=>some ⟨rv MP,fun _ _ _=>gv (fun _ _=>rfl) (fun _ _=>rfl) (fun _ _=>rfl) (RV B.g)⟩
  | _=>none
abbrev EM (K:Ctx) (sc:Scope) (vs:Vs) (st:Stmt):Type:={ a:Sx // ∀ env up,env.scope=sc→SOk K ⟨env,vs,env :: up⟩ st a }
abbrev Ob (K:Ctx) (sc:Scope) (vs:Vs) (st:List Stmt):Type:={ a:List Sx // ∀ env up,env.scope=sc→SsOk K ⟨env,vs,env :: up⟩ st a }
noncomputable def VQ {sc:Scope} {vs:Vs} {st:Stmt}:EM K sc vs st:=⟨UL,fun _ _ _ _ _ _ _ _ _ q=>q.elim⟩
noncomputable def rSs {sc:Scope} {vs:Vs} (f:(st:Stmt)→Option (EM K sc vs st)):(sts:List Stmt)→Ob K sc vs sts
 | []=>⟨[],fun _ _ _=>Oy⟩
 | s :: ss=>have a:=(f s).getD VQ;have as:=rSs f ss;⟨a.1 :: as.1,fun env up h=>Nq (a.2 env up h) (as.2 env up h)⟩
noncomputable def Pv (sc:Scope) (vs:Vs):(es:List Expr)→Option { is:List Nat // ∀ env up,env.scope=sc→CNames ⟨env,vs,up⟩ es is }
 | []=>some ⟨[],fun _ _ _=>.nil⟩
 | .Name x _ :: r=>if ho:Fk sc x=true then (Jr (vs.lookup x)).bind fun i=>(Pv sc vs r).map fun is=>⟨i.1 :: is.1,fun env up h=>.cons i.2 (by have:=Cm ho;rw [← h] at this;exact this) (is.2 env up h)⟩ else none
 | _=>none
noncomputable def TZ (sc:Scope) (vs:Vs):(e:Expr)→Option { p:Pat // ∀ env up,env.scope=sc→CPat ⟨env,vs,up⟩ e p∧(assignEach [e] env).map (·.2)=[assign e env] }
 | .Name x _=>if ho:Fk sc x=true then (Jr (vs.lookup x)).map fun i=>⟨.var i.1,fun env up h=>⟨.name i.2 (by have:=Cm ho;rw [← h] at this;exact this),rfl⟩⟩ else none
 | .Tuple es _ _=>(Pv sc vs es).map fun is=>⟨.tup is.1,fun env up h=>⟨.tup (is.2 env up h),rfl⟩⟩
 | _=>none
noncomputable def Mb:Expr→Bool
 | .ListComp .. | .SetComp .. | .DictComp ..=>true
 | _=>false
theorem DC (h:Mb e=false):N6 e:=by
 cases e <;> first | exact fun _ _ _=>rfl | cases h
theorem TC (h:Su value=false):swappedStores [t] value env=pure none:=by
 unfold swappedStores
 cases t <;> first | rfl | (cases value <;> first | rfl | (exfalso;cases h))
noncomputable def Vu {sc:Scope} {vs:Vs} (f:(e:Expr)→Option (Good K sc vs e)) (p:Pos) (value t:Expr):Option (EM K sc vs (.Assign [t] value p)):=
 if hl:Mb value=false then if ht:Su value=false then (TZ sc vs t).bind fun q=>(f value).map fun a=>⟨AT q.1 a.1.v,fun env up h=>EX (DC hl _ _ _) (TC ht) (q.2 env (env :: up) h).2 (q.2 env (env :: up) h).1 (a.2 env (env :: up) (.of_eq h)).ok⟩ else none else none
noncomputable def Ut {sc:Scope} {vs:Vs} (f:(e:Expr)→Option (Good K sc vs e)) (p:Pos) (value:Expr) (y:Str) (py:Pos):Option (EM K sc vs (.Assign [.Name y py] value p)):=
 if hl:Mb value=false then (TZ sc vs (.Name y py)).bind fun q=>(f value).map fun a=>⟨AT q.1 a.1.v,fun env up h=>EX (DC hl _ _ _) rfl (q.2 env (env :: up) h).2 (q.2 env (env :: up) h).1 (a.2 env (env :: up) (.of_eq h)).ok⟩ else none
noncomputable def U3 (B:Bg K G fa mg mb) (nx:Nat) (ff:Rdr K) (sc:Scope) (vs:Vs) (p:Pos) (elt:Expr) (csc:Scope) (pc:Pos) (y:Str) (py:Pos):(gs:List Comprehension)→Option (EM K sc vs (.Assign [.Name y py] (.ListComp elt gs csc pc) p))
 | [⟨.Name x px,iter,ifs,0⟩]=>if ho:Fk sc y=true then (Jr (vs.lookup y)).bind fun i=>(Sk B nx ff sc vs elt x px iter ifs csc).map fun r=>⟨AT (.var i.1) (BB r.1.a nx r.1.k r.1.as r.1.ts),fun env up h=>by
   have q:=r.2 env (env :: up) (.of_eq h)
   have hk:=Cm ho
   rw [← h] at hk
   obtain ⟨b,hb,hl⟩:∃ b,swapsWith (.ListComp elt [⟨.Name x px,iter,ifs,0⟩] csc pc) (some (.Name y py)) p.line env=pure b∧(b=true→env.kindOf y=some .local):=
    ⟨_,rfl,fun e=>beq_iff_eq.mp (Bool.and_eq_true_iff.mp (Bool.and_eq_true_iff.mp (Bool.and_eq_true_iff.mp e).1).1).2⟩
   cases b with
   | true=>exact QM q.sc q.fold q.src q.kind q.elt q.ifs i.2 (hl rfl) hb
   | false=>exact EX hb rfl rfl (.name i.2 hk) (LX q.sc q.fold q.src q.kind q.elt q.ifs)⟩ else none
 | _=>none
noncomputable def VZ {sc:Scope} {vs:Vs} (f:(e:Expr)→Option (Good K sc vs e)) (p:Pos) (value o i:Expr) (q:Pos):Option (EM K sc vs (.Assign [.Subscript o i q] value p)):=
 if hl:Mb value=false then (f o).bind fun a=>(f i).bind fun b=>(f value).map fun e=>⟨Ja a.1.v b.1.v e.1.v,fun env up h=>Oi (DC hl _ _ _) (a.2 env (env :: up) (.of_eq h)).ok (b.2 env (env :: up) (.of_eq h)).ok (e.2 env (env :: up) (.of_eq h)).ok⟩ else none
noncomputable def WI (B:Bg K G fa mg mb) {sc:Scope} {vs:Vs} (f:(e:Expr)→Option (Good K sc vs e)) (p:Pos) (value o:Expr) (m:Str) (q:Pos):Option (EM K sc vs (.Assign [.Attribute o m q] value p)):=
 if hl:Mb value=false then (Pi (G.lookup AX)).bind fun c=>if hm:m ∈ CI then (f o).bind fun a=>(f value).map fun e=>⟨KI c.1.1 m a.1.v e.1.v,fun env up h=>QH B.g c.2 hm (DC hl _ _ _) (a.2 env (env :: up) (.of_eq h)).ok (e.2 env (env :: up) (.of_eq h)).ok⟩ else none else none
noncomputable def VT:(c:Const)→Option { v:V // P7 c=some v }:=fun c=>Jr (P7 c)
noncomputable def rHs (B:Bg K G fa mg mb) (sc:Scope) (vs:Vs):(hs:List ExceptHandler)→Option { as:List (List Nat × V × Option Nat) // ∀ env up,env.scope=sc→HOk K ⟨env,vs,env :: up⟩ hs as }
 | []=>some ⟨[],fun _ _ _=>MJ⟩
 | .ExceptHandler (some (.Name x _)) none [.Return (some (.Constant c _ _)) _] _ :: r=>if hg:(BH sc x && A5 x)=true then (Pm (G.lookup x)).bind fun k=>(VT c).bind fun v=>(rHs B sc vs r).map fun as=>⟨(k.1.2,v.1,none) :: as.1,fun env up h=>
   have hg:=Bool.and_eq_true_iff.mp hg
   Qo B.g k.2 (((Agree.of_eq h).glob x).trans hg.1) hg.2 v.2 (as.2 env up h)⟩ else none
 | _=>none
noncomputable def rHA (B:Bg K G fa mg mb) (sc:Scope) (vs:Vs):(hs:List ExceptHandler)→Option { r:List Nat × Nat × Nat // ∀ env up,env.scope=sc→SD K ⟨env,vs,env :: up⟩ (Mj r.1 r.2.1 r.2.2) hs }
 | [.ExceptHandler (some (.Name x _)) none [.Expr (.Call (.Attribute (.Name y _) m apos) [.Name z _] [] cp) _] _]=>if hm:m=("append":Str) then if hg:(BH sc x && A5 x && (C2 sc y && A5 y) && (C2 sc z && A5 z) && (apos.endLine == cp.line))=true then (Pm (G.lookup x)).bind fun k=>(Jr (vs.lookup y)).bind fun i=>(Jr (vs.lookup z)).map fun j=>⟨(k.1.2,i.1,j.1),fun env up h=>by
   subst hm
   have hA:=Agree.of_eq h
   have g1:=Bool.and_eq_true_iff.mp hg
   have g2:=Bool.and_eq_true_iff.mp g1.1
   have g3:=Bool.and_eq_true_iff.mp g2.1
   have g4:=Bool.and_eq_true_iff.mp g3.1
   have g5:=Bool.and_eq_true_iff.mp g3.2
   have g6:=Bool.and_eq_true_iff.mp g2.2
   exact Rm B.g k.2 ((hA.glob x).trans g4.1) g4.2 i.2 ((hA.var y).trans g5.1) g5.2 j.2 ((hA.var z).trans g6.1) g6.2 g1.2⟩ else none else none
 | _=>none
noncomputable def Vr (B:Bg K G fa mg mb) {sc:Scope} {vs:Vs} (p:Pos) (h:ExceptHandler) (hs:List ExceptHandler) (body:List Stmt) (b:Ob K sc vs body):Option (EM K sc vs (.Try body (h :: hs) [] [] p)):=match rHA B sc vs (h :: hs) with
 | some a=>some ⟨Sy b.1 a.1.1 a.1.2.1 a.1.2.2,fun env up e=>ME NF rfl (b.2 env up e) (a.2 env up e)⟩
 | none=>(rHs B sc vs (h :: hs)).map fun a=>⟨VB b.1 a.1,fun env up e=>ME NN rfl (b.2 env up e) (a.2 env up e)⟩
noncomputable def Rj (B:Bg K G fa mg mb) (nx:Nat) (ff:Rdr K) (sc:Scope) (vs:Vs) (p:Pos) (value:Expr):(t:Expr)→Option (EM K sc vs (.Assign [t] value p))
 | .Name y py=>(match value with
  | .ListComp elt gs csc pc=>U3 B nx ff sc vs p elt csc pc y py gs
  | value=>Ut (ff sc vs) p value y py)
 | .Subscript o i q=>VZ (ff sc vs) p value o i q
 | .Attribute o m q=>WI B (ff sc vs) p value o m q
 | t=>Vu (ff sc vs) p value t
noncomputable def rS (B:Bg K G fa mg mb) (S:SortR K G) (nx:Nat) (sc:Scope) (vs:Vs) (m:Nat):Nat→(st:Stmt)→Option (EM K sc vs st)
 | 0,_=>none
 | n + 1,st=>match st with
  | .Expr e _=>if hl:Mb e=false then (rE B S nx m sc vs e).map fun a=>⟨Ba a.1.v,fun env up h=>O9 (DC hl) (a.2 env (env :: up) (.of_eq h)).ok⟩ else none
  | .Return none _=>some ⟨Sr,fun _ _ _=>Oz⟩
  | .Return (some e) _=>(rE B S nx m sc vs e).map fun a=>⟨AV a.1.v,fun env up h=>SN (a.2 env (env :: up) (.of_eq h)).ok⟩
  | .Assign [t] value p=>Rj B nx (rE B S nx m) sc vs p value t
  | .If test b o _=>(rE B S nx m sc vs test).bind fun a=>have b':=rSs (rS B S nx sc vs m n) b;have o':=rSs (rS B S nx sc vs m n) o;some ⟨sIf a.1.t b'.1 o'.1,fun env up h=>TA (a.2 env (env :: up) (.of_eq h)).test (b'.2 env up h) (o'.2 env up h)⟩
  | .For t iter body [] _=>(TZ sc vs t).bind fun p=>(VJ B (rE B S nx m sc vs) t iter).bind fun s=>have b:=rSs (rS B S nx sc vs m n) body;some ⟨CK p.1 s.1.1 (vals s.1.2) b.1,fun env up h=>SO rfl (s.2 env (env :: up) (.of_eq h)).2 (p.2 env (env :: up) h).1 (s.2 env (env :: up) (.of_eq h)).1 (b.2 env up h)⟩
  | .Raise (some (.Call (.Name x _) [e] [] _)) none _=>if hg:(BH sc x && A5 x)=true then (Pm (G.lookup x)).bind fun k=>(rE B S nx m sc vs e).map fun a=>⟨DO k.1.1 a.1.v,fun env up h=>
    have hg:=Bool.and_eq_true_iff.mp hg
    Mh B.g k.2 (((Agree.of_eq h).glob x).trans hg.1) hg.2 (a.2 env (env :: up) (.of_eq h)).star (a.2 env (env :: up) (.of_eq h)).ok⟩ else none
  | .Try body (h :: hs) [] [] p=>Vr B p h hs body (rSs (rS B S nx sc vs m n) body)
  | .Pass _=>some ⟨QS,fun _ _ _=>Oj⟩
  | .While test body [] _=>(rE B S nx m sc vs test).bind fun a=>have b:=rSs (rS B S nx sc vs m n) body;some ⟨Em a.1.t b.1,fun env up h=>Mq rfl (a.2 env (env :: up) (.of_eq h)).test (b.2 env up h)⟩
  | .Break _=>some ⟨Uh,fun _ _ _=>RW⟩
  | _=>none
structure FnOk (K:Ctx) (cd:Value) (ql:Str) (params:Arguments) (body:List Stmt) (sc:Scope) (fn:Fn) (args:List Arg):Prop where
 params:params=⟨[],args,none,[],[],none,[]⟩
 len:fn.params=(args.map (·.arg)).length
 ok:DefOk sc (args.map (·.arg))
 body:∀ env up,env.scope=sc→env.code=cd→env.qual=ql→QT K ⟨env,Ca (args.map (·.arg)) sc,env :: up⟩ body fn.body
noncomputable def rFn (B:Bg K G fa mg mb) (S:SortR K G) (extra:Nat) (body:List Stmt) (sc:Scope):(params:Arguments)→Option { fn:Fn // ∃ args,∀ cd ql,FnOk K cd ql params body sc fn args }
 | ⟨[],args,none,[],[],none,[]⟩=>
  if hc:(decide ((args.map (·.arg)).Nodup) && (BA (args.map (·.arg)) sc).all (Fk sc) && (sc.kind == .function) && !sc.isCoroutine && !sc.isGenerator)=true then
   have b:=rSs (rS B S (BA (args.map (·.arg)) sc).length sc (Ca (args.map (·.arg)) sc) 40 20) body
   some ⟨⟨(args.map (·.arg)).length,(BA (args.map (·.arg)) sc).length + extra,b.1⟩,args,by
    simp only [Bool.and_eq_true,decide_eq_true_eq,Bool.not_eq_true',List.all_eq_true,beq_iff_eq] at hc
    exact fun _ _=>⟨rfl,rfl,⟨hc.1.1.1.1,hc.1.1.1.2,hc.1.1.2,hc.1.2,hc.2⟩,fun env up h _ _=>(b.2 env up h).f⟩⟩
  else none
 | _=>none
end
end Mine
namespace Mine
open PySem PySem.Calls PyProof.Rows PySem.W
set_option maxRecDepth 100000
noncomputable def Kl (rs:List (List Int)) (i j:Nat):Bool:=Ab (rs.getD i []) (rs.getD j [])
theorem IE (rs:List (List Int)):Weak (Kl rs) where
 irr:=fun i=>Hg _
 asy:=fun i j=>EG _ _
 neg:=fun i j k=>FC _ _ _
theorem OI {lt:Nat→Nat→Bool} {n:Nat} {α:Type} {cmp:Nat→Nat→(Bool→Shared→Prop)→Shared→Prop} {s:Shared} (hc:∀ i j (C:Bool→Shared→Prop),i < n→j < n→C (lt i j) s→cmp i j C s) {Qt:α→Prop} {Q:α→Shared→Prop} (hq:∀ a,Qt a→Q a s) :
  ∀ {t:KasT α},Tr lt n t Qt→t.kasWp cmp Q s
 | .ret a,h=>hq a h
 | .ask i j k,h=>hc i j _ h.1 h.2.1 (OI hc hq (t:=k (lt i j)) h.2.2)
section
variable {prog:Program} {w:World} {A:Around} {E:Value→Shared→Prop} {s:Shared}
theorem Ox {fin:Bool} (a b:List Int) (vs us:List Value) (i:Nat) (ha:IntsAre vs a) (hb:IntsAre us b) (hf:fin=decide (vs.length < us.length)) (q:Q (Ab a b) s):KatLex prog w A true fin Q (vs.zip us) i s:=by
 induction ha generalizing b us i with
 | nil=>
  refine kat_nil ?_
  subst hf
  cases hb with
  | nil=>exact q
  | cons y u hb=>exact q
 | cons x t ha ih=>
  cases hb with
  | nil=>
   refine kat_nil ?_
   subst hf
   exact q
  | cons y u hb=>
   rw [List.zip_cons_cons]
   refine kat_cons (wpAny_eqBool_int ?_)
   rw [Ab] at q
   by_cases e:x=y
   ·rw [if_pos e] at q
    rw [show (x == y)=true from beq_iff_eq.mpr e]
    exact kat_yes (ih _ _ (i + 1) hb (hf.trans (decide_eq_decide.mpr Nat.succ_lt_succ_iff)) q)
   ·rw [if_neg e] at q
    rw [show (x == y)=false from beq_eq_false_iff_ne.mpr e]
    refine kat_no ?_
    cases i with
    | zero=>exact oneLt_int q
    | succ i=>exact kat_one _ _ (PyProof.Rows.lt_int q)
noncomputable def RowsAre (h:Heap):List Value→List (List Int)→Prop
 | [],[]=>True
 | v :: vs,r :: rs=>(∃ a items n,v=.ref a∧h.get? a=some { cls:=.type "tuple", data:=.seq items n }∧IntsAre items.toList r)∧RowsAre h vs rs
 | _,_=>False
theorem RowsAre.keeps (k:∀ b o,o.cls=.type "tuple"→h.get? b=some o→h'.get? b=some o):∀ {vs:List Value} {rs:List (List Int)},RowsAre h vs rs→RowsAre h' vs rs
 | [],[],_=>trivial
 | _ :: _,_ :: _,x=>⟨let ⟨a,it,n,e,g,i⟩:=x.1;⟨a,it,n,e,k a _ rfl g,i⟩,x.2.keeps k⟩
 | [],_ :: _,x=>x.elim
 | _ :: _,[],x=>x.elim
theorem RowsAre.at':∀ {vs:List Value} {rs:List (List Int)},RowsAre h vs rs→∀ {i:Nat},i < vs.length→∃ a items n,vs.getD i .none=.ref a∧h.get? a=some { cls:=.type "tuple", data:=.seq items n }∧IntsAre items.toList (rs.getD i [])
 | [],[],_,i,hi=>by simp at hi
 | _ :: _,_ :: _,x,0,_=>by simpa using x.1
 | _ :: vs,_ :: rs,x,i + 1,hi=>by
  refine Ad (x.2.at' (i:=i) (by simpa using hi)) fun a it n h1 h2 h3=>?_
  exact ⟨a,it,n,by simpa using h1,h2,by simpa using h3⟩
 | [],_ :: _,x,_,_=>x.elim
 | _ :: _,[],x,_,_=>x.elim
theorem RowsAre.tups:∀ {vs:List Value} {rs:List (List Int)},RowsAre h vs rs→(∀ r ∈ rs,r ≠ [])→∃ fs,KatTups h vs fs∧fs.length=vs.length∧∀ v ∈ fs,∃ i t,v=Value.int i t
 | [],[],_,_=>⟨[],trivial,rfl,fun v hv=>by cases hv⟩
 | _ :: _,r :: _,x,hne=>by
  obtain ⟨⟨a,it,n,rfl,g,hi⟩,x2⟩:=x
  refine AZ (x2.tups fun r hr=>hne r (List.mem_cons_of_mem _ hr)) fun fs t hl hv=>?_
  have hr:=hne r List.mem_cons_self
  obtain ⟨y,rr,rfl⟩:∃ y rr,r=y :: rr:=by
   cases r with
   | nil=>exact absurd rfl hr
   | cons y rr=>exact ⟨y,rr,rfl⟩
  generalize hL:it.toList=L at hi
  cases hi with
  | cons i tk hrest=>
   refine ⟨.int y tk :: fs,KatTups.cons g rfl rfl (by rw [← Array.getElem?_toList,hL];rfl) t,by simp [hl],fun v hv'=>?_⟩
   rcases List.mem_cons.mp hv' with rfl | hv'
   ·exact ⟨_,_,rfl⟩
   ·exact hv v hv'
 | [],_ :: _,x,_=>x.elim
 | _ :: _,[],x,_=>x.elim
theorem HQ:Looks M h (typeOf (.int i t)) (.type "int"):=fun A Q E s _ q=>wpAny_typeOf (typeIs_int s i t) q
theorem Mx (ho:s.heap.get? a=some (seqObj "list" vs.toArray n)) (hr:RowsAre s.heap vs rs) (hne:∀ r ∈ rs,r ≠ []) (h64:vs.length < 64)
  (h:∀ p:List Nat,p.Perm (List.range vs.length)→p.Pairwise (BJ rs)→P (.done (.ret .none)) { s with heap:=sortedHeap s.heap a vs (p.map fun i=>vs.getD i Value.none).toArray }) :
  wpAny (model prog w) A (Builtin.«list.sort» ⟨[.ref a],[]⟩) P E s:=by
 rw [list_sort_plain]
 have hsl:vs.length≤sizeLine:=by rw [sizeLine_eq];exact an1 .le .v0 (.n 16777216) (.t .v0 (.n 64) .e) rfl h64
 refine wpAny_bind (listItems_at ho rfl ?_)
 refine wpAny_bind (listUpdate_at ho rfl ?_ (by rw [List.size_toArray];exact hsl) (Nat.zero_le _))
 obtain ⟨e1,ho1⟩:∃ e1,(s.heap.update a (Obj.mapSeq fun _=>(#[]:Array Value))).get? a=some (seqObj "list" #[] e1):=⟨_,get?_update_seq ho (fun _=>#[])⟩
 refine wpAny_bind (seqEpoch_at ho1 rfl ?_)
 refine wpAny_bind (wpAny_newTuple ?_ (by show vs.length≤_;exact hsl))
 refine wpAny_bind (wpAny_newList ?_ (Nat.zero_le _))
 refine wpAny_holding ?_
 have ho6:(((s.heap.update a (Obj.mapSeq fun _=>(#[]:Array Value))).push (seqObj "tuple" vs.toArray 0)).push (seqObj "list" #[] 0)).get? a=some (seqObj "list" #[] e1):=Heap.get?_push_of_some _ (Heap.get?_push_of_some _ ho1)
 have hr6:RowsAre (((s.heap.update a (Obj.mapSeq fun _=>(#[]:Array Value))).push (seqObj "tuple" vs.toArray 0)).push (seqObj "list" #[] 0)) vs rs:=hr.keeps fun b o hc e=>by
  refine Heap.get?_push_of_some _ (Heap.get?_push_of_some _ ?_)
  refine (Heap.get?_update_ne _ _ _ _ fun hb=>?_).trans e
  rw [hb,ho] at e;cases e;exact absurd hc (by simp [seqObj])
 show wpAny (model prog w) A _ P E { s with heap:=((s.heap.update a (Obj.mapSeq fun _=>(#[]:Array Value))).push (seqObj "tuple" vs.toArray 0)).push (seqObj "list" #[] 0) }
 dsimp only
 have hrange:(List.range vs.length).map (fun i=>vs.getD i Value.none)=vs:=by
  apply List.ext_getElem?
  intro i
  rw [List.getElem?_map]
  by_cases hi:i < vs.length
  ·simp [hi]
  ·simp [hi]
 by_cases h2:vs.toArray.size < 2
 ·rw [if_pos h2,if_pos h2]
  refine wpAny_bind (wpAny_pure ?_)
  rw [StateT.run_pure]
  refine wpAny_bind (wpAny_pure ?_)
  dsimp only
  refine wpAny_bind (seqEpoch_at ho6 rfl ?_)
  refine wpAny_bind (listUpdate_at ho6 rfl ?_ (Nat.zero_le _) (by rw [Array.size_map];show (pairsOf vs).size≤_;rw [pairsOf_size,sizeLine_eq];exact an1 .le .v0 (.a (.n 16777216) .n1) (.t .v0 (.n 64) .e) rfl h64))
  simp only [bne_self_eq_false,Bool.false_eq_true,if_false]
  refine wpAny_pure ?_
  have e:(arrOf (SortSt.mk' general' (vs.toArray.zip vs.toArray) #[] 7 none)).map (·.2)=((List.range vs.length).map fun i=>vs.getD i Value.none).toArray:=by
   rw [hrange]
   show (vs.toArray.zip vs.toArray).map (·.2)=vs.toArray
   apply Array.toList_inj.mp
   simp [List.map_snd_zip]
  have hp:=h (List.range vs.length) (List.Perm.refl _) ?_
  ·rw [← e] at hp;exact hp
  ·have hlt:vs.length < 2:=by simpa using h2
   match hv:vs.length,hlt with
   | 0,_=>simp
   | 1,_=>simp
 ·rw [if_neg h2,if_neg h2]
  have h2':2≤vs.length:=by simp only [List.size_toArray] at h2;exact an1 .le .n2 .v0 (.o .v0 .n2 .e) rfl h2
  refine AZ (hr6.tups hne) fun fs tup hfl hfi=>?_
  refine wpAny_bind (kat_kind tup (by exact an2 .lt .n0 .v0 (.l .n2 .v1 (.p .v0 .v1 .e)) rfl h2' hfl) (T:=.type "int") (fun v hv=>by refine CL (hfi v hv) fun i t ze1=>?_;subst ze1;exact HQ) rfl ?_)
  refine wpAny_bind (wpAny_mono (kat_run (Q:=fun st' s'=>s'={ s with heap:=((s.heap.update a (Obj.mapSeq fun _=>(#[]:Array Value))).push (seqObj "tuple" vs.toArray 0)).push (seqObj "list" #[] 0) }∧∃ p:Array Nat,arrOf st'=p.map (kas_item (vs.toArray.zip vs.toArray))∧failedOf st'=none∧p.toList.Perm (List.range vs.length)∧p.toList.Pairwise (Bf (Kl rs)))
   (G:=fun p s'=>s'={ s with heap:=((s.heap.update a (Obj.mapSeq fun _=>(#[]:Array Value))).push (seqObj "tuple" vs.toArray 0)).push (seqObj "list" #[] 0) }∧p.toList.Perm (List.range vs.length)∧p.toList.Pairwise (Bf (Kl rs)))
   rfl h2' h64 (fun p st' s' _ a2 a3 a4=>⟨a4.1,p,a2,a3,a4.2.1,a4.2.2⟩) (OI (lt:=Kl rs) (fun i j C hi hj hC=>?_) (fun p hp=>⟨rfl,hp.1,hp.2⟩) (Lg (IE rs) (by exact an1 .le .n1 .v0 (.l .n2 .v0 .e) rfl h2')))) ?_ fun _ _ e=>e)
  ·refine Ad (hr6.at' hi) fun x ix nx ex gx hx=>?_
   refine Ad (hr6.at' hj) fun y iy ny ey gy hy=>?_
   show wpAny _ _ (keyLt' _ (vs.getD i Value.none) (vs.getD j Value.none)) _ _ _
   rw [ex,ey]
   refine kat_lt (b:=true) gx rfl gy rfl (Ox _ _ _ _ 0 hx hy (by simp) hC)
  ·rintro ⟨⟨⟩,st'⟩ s' ⟨rfl,p,har,hf,hp1,hp2⟩
   dsimp only
   have hout:=kat_snds (ks:=vs) rfl har
   have hsz:(List.toArray (p.toList.map fun i=>vs.getD i Value.none)).size=vs.length:=by rw [List.size_toArray,List.length_map,hp1.length_eq,List.length_range]
   refine wpAny_bind (seqEpoch_at ho6 rfl ?_)
   refine wpAny_bind (listUpdate_at ho6 rfl ?_ (Nat.zero_le _) (by rw [hout];exact Nat.le_trans (Nat.le_of_eq hsz) (Nat.le_succ_of_le hsl)))
   rw [hf]
   simp only [bne_self_eq_false,Bool.false_eq_true,if_false]
   rw [hout]
   exact wpAny_pure (h p.toList hp1 hp2)
end
end Mine
namespace Mine
open PySem PySem.Calls PyProof.Rows PySem.W
set_option maxRecDepth 100000
theorem FU (x:IntsAre vs xs):RelL h φ (xs.map V.int) vs:=by
 induction x with
 | nil=>exact .nil
 | cons n t _ ih=>exact ⟨⟨t,rfl⟩,ih⟩
theorem GA:∀ {ns:List Int} {vs:List Value},RelL h φ (ns.map .int) vs→IntsAre vs ns
 | [],[],_=>.nil
 | _ :: _,_ :: _,⟨⟨t,e⟩,r⟩=>e▸.cons _ t (GA r)
theorem MT:∀ {vs:List Value},RelL h φ (rs.map fun r=>.tup (r.map .int)) vs→RowsAre h vs rs:=by
 induction rs with
 | nil=>intro vs r;cases vs with
  | nil=>trivial
  | cons _ _=>exact r.elim
 | cons _ rs ih=>intro vs r;cases vs with
  | nil=>exact r.elim
  | cons v vs=>exact ⟨Ad r.1 fun x it n e g rl=>⟨x,it,n,e,g,GA rl⟩,ih r.2⟩
theorem FV {Vs:List V} (r:RelL h φ Vs vs):∀ (p:List Nat),(∀ i ∈ p,i < Vs.length)→RelL h φ (p.map fun i=>Vs.getD i .none) (p.map fun i=>vs.getD i Value.none)
 | [],_=>.nil
 | i :: p,hp=>by
  refine ⟨?_,FV r p fun j hj=>hp j (List.mem_cons_of_mem _ hj)⟩
  have hi:=hp i List.mem_cons_self
  refine AF (r.get (List.getElem?_eq_getElem hi)) fun v e rl=>?_
  show Rel h φ (Vs.getD i V.none) (vs.getD i Value.none)
  rw [List.getD_eq_getElem?_getD,List.getD_eq_getElem?_getD,e,List.getElem?_eq_getElem hi]
  exact rl
theorem PV.listIn {K:Ctx} {c:Cf K.h₀} {Q:AO} {Vs:List V} {items:Array Value} {a:Addr} {h':Heap} {s':Shared} {n:Nat} (r:RelL c.s.heap c.φ Vs items.toList) (hz:Vs.length≤B5) (ha:c.s.heap.get? a=none) (k:∀ b ob,c.s.heap.get? b=some ob→h'.get? b=some ob)
  (e:h'.get? a=some { cls:=.type "list", data:=.seq items n }) (only:s'.os=c.s.os∧s'.gens=c.s.gens) (q:Q (.ref c.σ.length) (c.σ ++ [.list Vs])):PV c Q (.ref a) { s' with heap:=h' }:=
 PV.mk ⟨{ s' with heap:=h' },c.φ ++ [a],c.σ ++ [.list Vs],(c.keep { s' with heap:=h' } k).sim.add (o:=.list Vs) (c.sim.out ha) (c.sim.none₀ ha) ⟨items,n,e,RelL.keep (PS k) (List.prefix_refl _) _ _ r,hz⟩⟩ (.ref c.σ.length)
  ⟨⟨only,List.prefix_append _ _,fun b o _ _ e=>⟨o,k b o e,.refl o⟩,fun _ m=>(Bl m).imp id fun e=>(congrArg c.s.heap.get? e).trans ha⟩,fun b o e=>⟨o,k b o e⟩⟩ ⟨a,rfl,by rw [← c.sim.len];exact List.getElem?_concat_length⟩ q
section
variable {prog:Program} {w:World} {s:Shared} {A:Around} {E:Value→Shared→Prop}
theorem Dd:h.get? (h.objs.size + 1)=none∧(∃ c,(sortedAll h vs out).get? (h.objs.size + 1)=some { cls:=.type "list", data:=.seq out c })∧∀ b o,h.get? b=some o→(sortedAll h vs out).get? b=some o:=by
 have hsz:((h.push (seqObj "list" #[] 0)).update h.objs.size (Obj.mapSeq (· ++ vs.toArray))).objs.size=h.objs.size + 1:=by rw [Heap.size_update,size_push']
 have g0:(((h.push (seqObj "list" #[] 0)).update h.objs.size (Obj.mapSeq (· ++ vs.toArray))).push (seqObj "list" vs.toArray 0)).get? (h.objs.size + 1)=some (seqObj "list" vs.toArray 0):=by rw [← hsz];exact Heap.get?_push_size _ rfl
 obtain ⟨c1,g1⟩:∃ c1,((((h.push (seqObj "list" #[] 0)).update h.objs.size (Obj.mapSeq (· ++ vs.toArray))).push (seqObj "list" vs.toArray 0)).update (h.objs.size + 1) (Obj.mapSeq fun _=>(#[]:Array Value))).get? (h.objs.size + 1)=some (seqObj "list" #[] c1):=⟨_,get?_update_seq g0 fun _=>#[]⟩
 have g2:=Heap.get?_push_of_some (seqObj "list" #[] 0) (Heap.get?_push_of_some (seqObj "tuple" vs.toArray 0) g1)
 refine ⟨Heap.get?_none_of_le (Nat.le_succ _),⟨_,get?_update_seq g2 fun _=>out⟩,fun b o e=>?_⟩
 have hb:b < h.objs.size:=Heap.lt_size e
 have h1:b ≠ h.objs.size:=Nat.ne_of_lt hb
 have h2:b ≠ h.objs.size + 1:=Nat.ne_of_lt (Nat.lt_succ_of_lt hb)
 unfold sortedAll sortedHeap
 rw [Heap.get?_update_ne _ _ _ _ h2]
 refine Heap.get?_push_of_some _ (Heap.get?_push_of_some _ ?_)
 rw [Heap.get?_update_ne _ _ _ _ h2]
 refine Heap.get?_push_of_some _ ?_
 rw [Heap.get?_update_ne _ _ _ _ h1]
 exact Heap.get?_push_of_some _ e
theorem Jh (hl:s.heap.IsList l vs.toArray) (hr:RowsAre s.heap vs rs) (hne:∀ r ∈ rs,r ≠ []) (h64:vs.length < 64)
  (h:∀ p:List Nat,p.Perm (List.range vs.length)→p.Pairwise (BJ rs)→P (.ref (s.heap.objs.size + 1)) { s with heap:=sortedAll s.heap vs (p.map fun i=>vs.getD i Value.none).toArray }) :
  wpAny (model prog w) A (call (.builtin "sorted") [.ref l]) P E s:=by
 refine Calls.call_function_entry kind_sorted plain_sorted entry_sorted (args_sorted1 _) ?_
 unfold Builtin.«sorted»
 refine wpAny_bind (m:=checkCount "sorted" 1 1 _) (wpAny_pure ?_)
 refine wpAny_bind (collect_list hl ?_ (by rw [sizeLine_eq];exact an1 .le .v0 (.n 16777216) (.t .v0 (.n 64) .e) rfl h64))
 refine wpAny_bind (wpAny_newList ?_ (by rw [sizeLine_eq];exact an1 .le .v0 (.n 16777216) (.t .v0 (.n 64) .e) rfl h64))
 have hsz:((s.heap.push (seqObj "list" #[] 0)).update s.heap.objs.size (Obj.mapSeq (· ++ vs.toArray))).objs.size=s.heap.objs.size + 1:=by
  rw [Heap.size_update,size_push']
 have hoL:(((s.heap.push (seqObj "list" #[] 0)).update s.heap.objs.size (Obj.mapSeq (· ++ vs.toArray))).push (seqObj "list" vs.toArray 0)).get? (s.heap.objs.size + 1)=some (seqObj "list" vs.toArray 0):=by
  rw [← hsz];exact Heap.get?_push_size _ rfl
 have hr':RowsAre (((s.heap.push (seqObj "list" #[] 0)).update s.heap.objs.size (Obj.mapSeq (· ++ vs.toArray))).push (seqObj "list" vs.toArray 0)) vs rs:=hr.keeps fun b o _ e=>by
  refine Heap.get?_push_of_some _ ?_
  rw [Heap.get?_update_ne _ _ _ _ (Nat.ne_of_lt (Heap.lt_size e))]
  exact Heap.get?_push_of_some _ e
 show wpAny _ _ _ _ _ { s with heap:=((s.heap.push (seqObj "list" #[] 0)).update s.heap.objs.size (Obj.mapSeq (· ++ vs.toArray))).push (seqObj "list" vs.toArray 0) }
 rw [hsz]
 refine wpAny_bind (wpAny_holding (wpAny_call_entry (s:={ s with heap:=((s.heap.push (seqObj "list" #[] 0)).update s.heap.objs.size (Obj.mapSeq (· ++ vs.toArray))).push (seqObj "list" vs.toArray 0) }) slot_list_sort ⟨_,hoL,rfl⟩ entry_list_sort
  (Mx (s:={ s with heap:=((s.heap.push (seqObj "list" #[] 0)).update s.heap.objs.size (Obj.mapSeq (· ++ vs.toArray))).push (seqObj "list" vs.toArray 0) }) hoL hr' hne h64 fun p a1 a2=>⟨_,rfl,?_⟩) (args_list_sort _)))
 exact wpAny_pure ⟨_,rfl,h p a1 a2⟩
end
section
variable {K:Ctx} {L:Loc} {G:GlT} {fa:Nat→Addr} {mg mb:Str→Option Value}
theorem Ml {A:Around} {E:Value→Shared→Prop} {c:Cf K.h₀} {Q:AO} {V:V} {v:Value} (r:Rel c.s.heap c.φ V v) (q:SortK c.σ Q false V):wpAny K.M A (call (.builtin "sorted") [v]) (PV c Q) E c.s:=by
 cases q with
 | @«ints» n ns en hl q=>
  apply Cf.listE en r;intro a items k _ g rl z
  have gl:c.s.heap.IsList a items.toList.toArray:=by rw [Array.toArray_toList];exact g.isList
  have hi:=GA rl
  refine sorted_ints gl hi (by rw [IntsAre.length hi];exact hl) fun out ns' a1 a2 a3=>?_
  refine Bm (Dd (h:=c.s.heap) (vs:=items.toList) (out:=out)) fun f1 zt1 f3=>AU zt1 fun _ f2=>?_
  exact PV.listIn (s':=c.s) (FU a1) (by rw [List.length_map,a2.length_eq,← List.length_map (f:=V.int)];exact z) f1 f3 f2 ⟨rfl,rfl⟩ (q ns' a2 a3)
 | @rows n rs en hl hne q=>
  apply Cf.listE en r;intro a items k _ g rl z
  have gl:c.s.heap.IsList a items.toList.toArray:=by rw [Array.toArray_toList];exact g.isList
  have hsz:items.toList.length=rs.length:=by rw [← rl.length,List.length_map]
  refine Jh gl (MT rl) hne (by rw [hsz];exact hl) fun p a1 a2=>?_
  refine Bm (Dd (h:=c.s.heap) (vs:=items.toList) (out:=(p.map fun i=>items.toList.getD i Value.none).toArray)) fun f1 zt1 f3=>AU zt1 fun _ f2=>?_
  rw [hsz] at a1
  have hin:∀ i ∈ p,i < rs.length:=fun i hi=>List.mem_range.mp (a1.mem_iff.mp hi)
  have hts:(p.map fun i=>rs.getD i []).map (fun r=>V.tup (r.map V.int))=p.map fun i=>(rs.map fun r=>V.tup (r.map V.int)).getD i .none:=by
   rw [List.map_map]
   refine List.map_congr_left fun i hi=>?_
   rw [Function.comp_apply,List.getD_eq_getElem?_getD,List.getD_eq_getElem?_getD,List.getElem?_map,List.getElem?_eq_getElem (hin i hi)];rfl
  have hperm:(p.map fun i=>rs.getD i []).Perm rs:=by
   refine (a1.map fun i=>rs.getD i []).trans (List.Perm.of_eq ?_)
   apply List.ext_getElem (by rw [List.length_map,List.length_range])
   intro i h1 h2
   rw [List.getElem_map,List.getElem_range,List.getD_eq_getElem?_getD,List.getElem?_eq_getElem h2];rfl
  refine PV.listIn (s':=c.s) (Vs:=(p.map fun i=>rs.getD i []).map fun r=>V.tup (r.map V.int)) ?_ ?_ f1 f3 f2 ⟨rfl,rfl⟩ (q _ hperm ?_)
  ·rw [hts];exact FV rl p fun i hi=>by rw [List.length_map];exact hin i hi
  ·rw [List.length_map,hperm.length_eq,← List.length_map (f:=fun r:List Int=>V.tup (r.map V.int))];exact z
  ·rw [List.pairwise_map]
   exact a2.imp fun {i j} hb=>Bf.no (IE rs) (i:=i) (j:=j) hb
theorem IN {A:Around} {E:Value→Shared→Prop} {c:Cf K.h₀} {Q:AO} {ns:List Int} {D:Addr} {ks:List Int} (hh:A.handled=none) (R:SetR K.prog K.w c.s.heap D (CD K.w) ks) (h64:ks.length < 64) (hm:∀ x,x ∈ ks ↔ x ∈ ns)
  (q:∀ ms:List Int,ms.Pairwise (· < ·)→(∀ x,x ∈ ms ↔ x ∈ ns)→Q (.ref c.σ.length) (c.σ ++ [.list (ms.map .int)])):wpAny K.M A (call (.builtin "sorted") [.ref D]) (PV c Q) E c.s:=by
 have hnd:ks.Nodup:=by refine G9 R fun _ _ _ _ _ _ _ _ _ h _=>?_;exact h
 refine K2 hh R h64 fun D' out ms h' s' n a1 a2 a3 f1 f2 f3 ho hg=>?_
 refine PV.listIn (FU a1) (by rw [List.length_map,a2.length_eq];exact Nat.le_trans (Nat.le_of_lt h64) (by decide)) f1 f3 f2 ⟨ho,hg⟩ (q ms ?_ fun x=>(a2.mem_iff).trans (hm x))
 have hn:ms.Nodup:=a2.nodup_iff.mpr hnd
 exact (a3.and hn).imp fun {x y} h=>Int.lt_iff_le_and_ne.mpr h
noncomputable def UR (P:V→AD→Prop):List V→AD→Prop
 | [v],σ=>P v σ
 | _,_=>False
theorem KM:∀ {vs:List V},UR P vs σ→∃ v,vs=[v]∧P v σ
 | [v],h=>⟨v,rfl,h⟩
variable (K) in
inductive SetAt (c:Cf K.h₀) (Q:AO):Value→Shared→Prop
 | mk (c₁:Cf K.h₀) (D:Addr) (ks ns:List Int):Stp AQ c c₁→SetR K.prog K.w c₁.s.heap D (CD K.w) ks→ks.length < 64→(∀ x,x ∈ ks ↔ x ∈ ns)→(∀ ms:List Int,ms.Pairwise (· < ·)→(∀ x,x ∈ ms ↔ x ∈ ns)→Q (.ref c₁.σ.length) (c₁.σ ++ [.list (ms.map .int)]))→SetAt c Q (.ref D) c₁.s
theorem R6 (g:Gnd K G fa mg mb):SortR K G where
 one {L e a pf pos} hf hn he:=fun A c ρ Q X R F q=>by
  rw [CV]
  refine wpAny_bind (CE g F hf (by decide) Df (Dj (.inr ⟨_,rfl⟩) R hn (BF hn BV) (Dh hn he E0) F (Q:=UR fun v σ=>SortK σ Q false v) q fun c₁ Vs vals s₁ r y=>?_))
  refine AF (KM y) fun V ze1 y=>?_;subst ze1
  refine AF r.one fun v ze1 r'=>?_;subst ze1
  exact fin s₁ (Ml r' y)
 set {L e a pf pf' pos pos'} hf hf' hn he:=fun A c ρ Q X R F q=>by
  rw [CV]
  have hns:Au (.Call (.Name ("set":Str) pf') [e] [] pos'):=fun _ _=>rfl
  refine wpAny_bind (CE g F hf (by decide) Df (callWith_builtin (BF hns BV L.env pos) ?_))
  have inner:wpAny K.M A (eval (.Call (.Name ("set":Str) pf') [e] [] pos') L.env) (SetAt K c Q) (PX c X) c.s:=by
   rw [CV]
   refine wpAny_bind (CE g F hf' (by decide) Pz (Dj (.inl ⟨_,rfl⟩) R hn (BF hn BV) (Dh hn he E0) F (Q:=UR fun v σ=>SortK σ Q true v) q fun c₁ Vs vals s₁ r y=>?_))
   refine AF (KM y) fun V ze1 y=>?_;subst ze1
   refine AF r.one fun v ze1 r'=>?_;subst ze1
   cases y with
   | @set n ns en hl y'=>
    apply Cf.listE en r';intro l items k _ gl rr z
    have hsz:items.size=ns.length:=by rw [← Array.length_toList,← rr.length,List.length_map]
    refine OC R.hd gl.isList (GA rr) (by rw [hsz];exact Nat.lt_of_lt_of_le (Nat.succ_lt_succ hl) (by decide)) fun h' tk ks hS hm hkl kk=>?_
    exact .mk (c₁.keep { c₁.s with heap:=h',toks:=tk } fun b o e=>kk b o (Heap.lt_size e) e) _ ks ns (s₁.trans (Cf.keep_stp ⟨rfl,rfl⟩)) hS (Nat.lt_of_le_of_lt (hsz▸hkl) hl) hm y'
  have hl':wpAny K.M A (spliced (backTo pos (starEach [.Call (.Name ("set":Str) pf') [e] [] pos'] L.env))) (fun vals s₁=>wpAny K.M A (call (.builtin "sorted") ([] ++ vals) []) (PV c Q) (PX c X) s₁) (PX c X) c.s:=
   wpAny_items_cons (wpAny_mono inner (fun x s₁ y=>y.casesOn fun c₁ D ks ns s₁ hS hkl hm y=>wpAny_items_nil (fin s₁ (IN R.hd hS hkl hm y))) fun _ _ e=>e) (hns [] L.env)
  rw [hns [] L.env] at hl' ⊢
  exact evalArgs_plain hl'
end
end Mine
namespace Mine
open PySem PySem.Calls PyProof.Rows PySem.W
set_option maxRecDepth 100000
set_option genSizeOf false
set_option genInjectivity false
theorem K6 (vs:List Value):(List.range vs.length).map (fun i=>vs.getD i Value.none)=vs:=by
 apply List.ext_getElem?
 intro i
 rw [List.getElem?_map]
 by_cases hi:i < vs.length
 ·simp [hi]
 ·simp [hi]
section
variable {prog:Program} {w:World} {A:Around} {E:Value→Shared→Prop} {s:Shared}
theorem R4 {a kS:Addr} {vs kvs:List Value} {rs:List (List Int)} {e e1:Nat} {P:PySem.Fin→Shared→Prop} (hkS:s.heap.get? kS=some (seqObj "list" kvs.toArray e)) (ha:s.heap.get? a=some (seqObj "list" #[] e1)) (hne:a ≠ kS) (hl:kvs.length=vs.length)
  (hr:RowsAre s.heap kvs rs) (hnr:∀ r ∈ rs,r ≠ []) (h64:vs.length < 64)
  (h:∀ p:List Nat,p.Perm (List.range vs.length)→p.Pairwise (BJ rs)→∀ h' c,h'.get? a=some (seqObj "list" (p.map fun i=>vs.getD i Value.none).toArray c)→(∀ b o,b ≠ a→b ≠ kS→s.heap.get? b=some o→h'.get? b=some o)→(∃ o,h'.get? kS=some o)→P (.done (.ret .none)) { s with heap:=h' }) :
  wpAny (model prog w) A (ksk_end a false vs.toArray e1 (.ref kS) kvs.toArray) P E s:=by
 have tail:∀ (st:SortSt) (p:List Nat),(arrOf st).map (·.2)=(p.map fun i=>vs.getD i Value.none).toArray→failedOf st=none→p.Perm (List.range vs.length)→p.Pairwise (BJ rs)→wpAny (model prog w) A (ksk_tail a false e1 (.ref kS) st) P E s:=fun st p hout hf hp1 hp2=>by
  unfold ksk_tail
  dsimp only
  rw [hout]
  have hsz:(p.map fun i=>vs.getD i Value.none).toArray.size=vs.length:=by rw [List.size_toArray,List.length_map,hp1.length_eq,List.length_range]
  obtain ⟨ck,hck⟩:∃ ck,(s.heap.update kS (Obj.mapSeq fun _=>(#[]:Array Value))).get? kS=some (seqObj "list" #[] ck):=⟨_,get?_update_seq hkS fun _=>#[]⟩
  have ha1:(s.heap.update kS (Obj.mapSeq fun _=>(#[]:Array Value))).get? a=some (seqObj "list" #[] e1):=(Heap.get?_update_ne _ _ _ _ hne).trans ha
  obtain ⟨c2,hc2⟩:∃ c2,((s.heap.update kS (Obj.mapSeq fun _=>(#[]:Array Value))).update a (Obj.mapSeq fun _=>(p.map fun i=>vs.getD i Value.none).toArray)).get? a=some (seqObj "list" (p.map fun i=>vs.getD i Value.none).toArray c2):=⟨_,get?_update_seq ha1 fun _=>(p.map fun i=>vs.getD i Value.none).toArray⟩
  refine wpAny_bind (listUpdate_at hkS rfl ?_ (by rw [List.size_toArray,sizeLine_eq];exact an2 .le .v0 (.n 16777216) (.q .v0 .v1 (.t .v1 (.n 64) .e)) rfl hl h64) (Nat.zero_le _))
  refine wpAny_bind (wpAny_letGo ?_)
  refine wpAny_bind (seqEpoch_at ha1 rfl ?_)
  refine wpAny_bind (listUpdate_at ha1 rfl ?_ (Nat.zero_le _) (Nat.le_trans (Nat.le_of_eq hsz) (by rw [sizeLine_eq];exact an1 .le .v0 (.a (.n 16777216) .n1) (.t .v0 (.n 64) .e) rfl h64)))
  rw [hf]
  simp only [bne_self_eq_false,Bool.false_eq_true,if_false]
  refine wpAny_pure (h p hp1 hp2 _ c2 hc2 (fun b o h1 h2 eb=>?_) ⟨_,(Heap.get?_update_ne _ _ _ _ (Ne.symm hne)).trans hck⟩)
  exact (Heap.get?_update_ne _ _ _ _ h1).trans ((Heap.get?_update_ne _ _ _ _ h2).trans eb)
 unfold ksk_end
 dsimp only
 simp only [Bool.false_eq_true,if_false]
 by_cases h2:vs.toArray.size < 2
 ·rw [if_pos h2,if_pos h2]
  refine wpAny_bind (wpAny_pure ?_)
  rw [StateT.run_pure]
  refine wpAny_bind (wpAny_pure ?_)
  dsimp only
  refine tail _ (List.range vs.length) ?_ rfl (List.Perm.refl _) ?_
  ·rw [K6]
   show (kvs.toArray.zip vs.toArray).map (·.2)=vs.toArray
   apply Array.toList_inj.mp
   simp [List.map_snd_zip,hl]
  ·have hlt:vs.length < 2:=by simpa using h2
   match hv:vs.length,hlt with
   | 0,_=>simp
   | 1,_=>simp
 ·rw [if_neg h2,if_neg h2]
  have h2':2≤vs.length:=by simp only [List.size_toArray] at h2;exact an1 .le .n2 .v0 (.o .v0 .n2 .e) rfl h2
  refine AZ (hr.tups hnr) fun fs tup hfl hfi=>?_
  refine wpAny_bind (kat_kind tup (by exact an3 .lt .n0 .v0 (.l .n2 .v1 (.p .v2 .v1 (.p .v0 .v2 .e))) rfl h2' hl hfl) (T:=.type "int") (fun v hv=>by refine CL (hfi v hv) fun i t ze1=>?_;subst ze1;exact HQ) rfl ?_)
  refine wpAny_bind (wpAny_mono (kat_run (ks:=kvs) (vs:=vs) (Q:=fun st' s'=>s'=s∧∃ p:Array Nat,arrOf st'=p.map (kas_item (kvs.toArray.zip vs.toArray))∧failedOf st'=none∧p.toList.Perm (List.range vs.length)∧p.toList.Pairwise (Bf (Kl rs)))
   (G:=fun p s'=>s'=s∧p.toList.Perm (List.range vs.length)∧p.toList.Pairwise (Bf (Kl rs)))
   hl h2' h64 (fun p st' s' _ a2 a3 a4=>⟨a4.1,p,a2,a3,a4.2.1,a4.2.2⟩) (OI (lt:=Kl rs) (fun i j C hi hj hC=>?_) (fun p hp=>⟨rfl,hp.1,hp.2⟩) (Lg (IE rs) (by exact an1 .le .n1 .v0 (.l .n2 .v0 .e) rfl h2')))) ?_ fun _ _ e=>e)
  ·refine Ad (hr.at' (i:=i) (by exact an3 .lt .v0 .v1 (.t .v0 .v2 (.p .v1 .v2 .e)) rfl hi hl)) fun x ix nx ex gx hx=>?_
   refine Ad (hr.at' (i:=j) (by exact an3 .lt .v0 .v1 (.t .v0 .v2 (.p .v1 .v2 .e)) rfl hj hl)) fun y iy ny ey gy hy=>?_
   show wpAny _ _ (keyLt' _ (kvs.getD i Value.none) (kvs.getD j Value.none)) _ _ _
   rw [ex,ey]
   exact kat_lt (b:=true) gx rfl gy rfl (Ox _ _ _ _ 0 hx hy (by simp) hC)
  ·rintro ⟨⟨⟩,st'⟩ s' ⟨rfl,p,har,hf,hp1,hp2⟩
   exact tail st' p.toList (kat_snds (ks:=kvs) hl har) hf hp1 hp2
end
noncomputable def Outs {h₀:Bs} (c:Cf h₀) (φ₀:List Addr) (kS:Addr) (objs:List (Addr × Obj)):Prop:=φ₀ <+: c.φ∧∀ p ∈ objs,c.s.heap.get? p.1=some p.2∧p.1 ∉ c.φ∧p.1 ≠ kS∧∀ es ep,p.2.data ≠ .dict es ep
section
variable {K:Ctx} {L:Loc} {A:Around}
theorem Outs.step (x:Outs c φ₀ kS objs) (st:WStp own c c') (ho:∀ b,own b→b=kS):Outs c' φ₀ kS objs:=⟨x.1.trans st.pre,fun p hp=>
 let ⟨h1,h2,h3,h4⟩:=x.2 p hp
 ⟨st.keepE h2 (fun m=>h3 (ho _ m)) h4 h1,st.out h1 h2,h3,h4⟩⟩
theorem Jp (h0:K.h₀.get? kS=none)
  (hkey:∀ (c:Cf K.h₀) (V:V) (v:Value) (R:AO),Fr c L ρ→Outs c φ₀ kS objs→Rel c.s.heap c.φ V v→turn V c.σ R→wpAny K.M A (call f [v]) (PV c R) NX c.s)
  (hb:∀ x (s:Shared) (Q':ForInStep PUnit→Shared→Prop),wpAny K.M A (call f [x]) (fun k s'=>∃ kvs e,s'.heap.get? kS=some (seqObj "list" kvs.toArray e)∧kvs.length < 64 ∧
   ∀ c,(s'.heap.update kS (Obj.mapSeq (·.push k))).get? kS=some (seqObj "list" (kvs ++ [k]).toArray c)→Q' (.yield ⟨⟩) { s' with heap:=s'.heap.update kS (Obj.mapSeq (·.push k)) }) NX s→wpAny K.M A (body x ⟨⟩) Q' E s) :
  ∀ (vs:List Value) (Vs:List V) (c:Cf K.h₀) (acc:List V),Fr c L ρ→Outs c φ₀ kS objs→AccAt c kS acc→acc.length + vs.length < 64→RelL c.s.heap c.φ Vs vs→HC turn Vs acc c.σ Qk →
   wpAny K.M A (forIn vs PUnit.unit body) (fun _ s'=>∃ (c':Cf K.h₀) (acc':List V),c'.s=s'∧Stp (·=kS) c c'∧Fr c' L ρ∧Outs c' φ₀ kS objs∧AccAt c' kS acc'∧acc'.length=acc.length + vs.length∧Qk acc' c'.σ) E c.s
 | [],Vs,c,acc,F,O,ac,hl,rv,q=>by
  cases List.length_eq_zero_iff.mp rv.length
  rw [List.forIn_nil]
  exact wpAny_pure ⟨c,acc,rfl,.refl c,F,O,ac,rfl,q⟩
 | v :: vs,[],c,acc,F,O,ac,hl,rv,q=>rv.elim
 | v :: vs,V :: Vs,c,acc,F,O,ac,hl,rv,q=>by
  rw [List.length_cons] at hl
  rw [List.forIn_cons]
  refine wpAny_bind (hb v c.s _ (wpAny_mono (hkey c V v _ F O rv.1 q) (fun u s₁ y=>?_) fun _ _ x=>x))
  refine y.casesOn fun c₁ U s₁ ru q₁=>?_
  have ac₁:=ac.step s₁
  refine ac₁.casesOn fun arr e oD eD rD=>?_
  have hz:arr.toList.length=acc.length:=rD.length.symm
  refine ⟨arr.toList,e,by rw [Array.toArray_toList];exact eD,by exact an3 .lt .v0 (.n 64) (.q .v0 .v1 (.t (.a .v1 (.a .v2 .n1)) (.n 64) .e)) rfl hz hl,fun k hk=>?_⟩
  have ho:∀ b,b=kS→A6 c₁.s.heap b∧b ∉ c₁.φ∧K.h₀.get? b=none:=fun b e=>e▸⟨Mine.noTup eD BZ,oD,h0⟩
  have kk:∀ b o,¬ b=kS→c₁.s.heap.get? b=some o→(c₁.s.heap.update kS (Obj.mapSeq (·.push u))).get? b=some o:=fun b o h e=>(Heap.get?_update_ne _ _ _ _ h).trans e
  have s₂:Stp (·=kS) c₁ (c₁.keepOwn { c₁.s with heap:=c₁.s.heap.update kS (Obj.mapSeq (·.push u)) } kk ho):=Cf.keepOwn_stp ⟨rfl,rfl⟩ fun b _ e _=>⟨_,(congrArg (Heap.get? (c₁.s.heap.update kS (Obj.mapSeq (·.push u)))) e).trans hk⟩
  have F₂:=(F.step s₁).keep s₂.toWStp (fun b e=>(ho b e).1) (fun f _ n _ e=>ac₁.noNs (e▸n)) fun b _ ic e=>ac₁.noCell (e▸ic)
  have O₂:=(O.step s₁.toWStp fun _ f=>f.elim).step s₂.toWStp fun _ h=>h
  have rk:∀ {Ws us},RelL c₁.s.heap c₁.φ Ws us→RelL (c₁.s.heap.update kS (Obj.mapSeq (·.push u))) c₁.φ Ws us:=fun r=>r.own s₂.toWStp fun b e=>(ho b e).1
  refine wpAny_mono (Jp h0 hkey hb vs Vs (c₁.keepOwn { c₁.s with heap:=c₁.s.heap.update kS (Obj.mapSeq (·.push u)) } kk ho) (acc ++ [U]) F₂ O₂ (.mk _ k oD hk (by rw [List.toList_toArray];exact rk (rD.append ⟨ru,trivial⟩))) (by rw [List.length_append,List.length_singleton];exact an2 .lt (.a (.a .v0 .n1) .v1) (.n 64) (.t (.a .v0 (.a .v1 .n1)) (.n 64) .e) rfl hl) (rk (rv.2.step s₁)) q₁) (fun _ s' y=>?_) fun _ _ x=>x
  refine J2 y fun c' acc' e1 st F' O' ac' hl' q'=>?_
  exact ⟨c',acc',e1,(s₁.any.trans s₂).trans st,F',O',ac',by rw [hl',List.length_append,List.length_singleton,List.length_cons];exact Nat.le_antisymm (an2 .le (.a (.a .v0 .n1) .v1) (.a .v0 (.a .v1 .n1)) .e rfl) (an2 .le (.a .v0 (.a .v1 .n1)) (.a (.a .v0 .n1) .v1) .e rfl),q'⟩
theorem O5 {E:Value→Shared→Prop} {f:Value} {c:Cf K.h₀} {a:Addr} {objs:List (Addr × Obj)} {turn:V→AD→AO→Prop} {ρ:List V} {Vs:List V} {vs:List Value} {n:Nat} {P:PySem.Fin→Shared→Prop} {Q:AO} {c₀:Cf K.h₀}
  (st₀:Stp AQ c₀ c) (ha0:c₀.s.heap.get? a=none) (haφ:a ∉ c.φ) (F:Fr c L ρ) (hO:∀ p ∈ objs,c.s.heap.get? p.1=some p.2∧p.1 ∉ c.φ∧p.1 ≠ a∧∀ es ep,p.2.data ≠ .dict es ep) (ha:c.s.heap.get? a=some (seqObj "list" vs.toArray n)) (rv:RelL c.s.heap c.φ Vs vs) (h64:vs.length < 64)
  (hkey:∀ (kS:Addr) (t:Cf K.h₀) (V:V) (v:Value) (R:AO),Fr t L ρ→Outs t c.φ kS objs→Rel t.s.heap t.φ V v→turn V t.σ R→wpAny K.M A (call f [v]) (PV t R) NX t.s)
  (q:HC turn Vs [] c.σ fun ks σ₂=>∃ rs:List (List Int),ks=rs.map (fun r=>.tup (r.map .int))∧(∀ r ∈ rs,r ≠ [])∧∀ p:List Nat,p.Perm (List.range Vs.length)→p.Pairwise (BJ rs)→Q (.ref σ₂.length) (σ₂ ++ [.list (p.map fun i=>Vs.getD i .none)]))
  (h:∀ s',PV c₀ Q (.ref a) s'→P (.done (.ret .none)) s'):wpAny K.M A (ksk_tree a f false) P E c.s:=by
 have hlen:Vs.length=vs.length:=rv.length
 have haS:a < c.s.heap.objs.size:=Heap.lt_size ha
 have hsl:vs.length≤sizeLine:=by rw [sizeLine_eq];exact an1 .le .v0 (.n 16777216) (.t .v0 (.n 64) .e) rfl h64
 obtain ⟨e1,ha1⟩:∃ e1,(c.s.heap.update a (Obj.mapSeq fun _=>(#[]:Array Value))).get? a=some (seqObj "list" #[] e1):=⟨_,get?_update_seq ha fun _=>#[]⟩
 have hsz:((c.s.heap.update a (Obj.mapSeq fun _=>(#[]:Array Value))).push (seqObj "tuple" vs.toArray 0)).objs.size=c.s.heap.objs.size + 1:=by rw [size_push',Heap.size_update]
 generalize hh₁:((c.s.heap.update a (Obj.mapSeq fun _=>(#[]:Array Value))).push (seqObj "tuple" vs.toArray 0)).push (seqObj "list" #[] 0)=h₁
 have kk:∀ b o,¬ b=a→c.s.heap.get? b=some o→h₁.get? b=some o:=fun b o hb e=>by
  rw [← hh₁]
  exact Heap.get?_push_of_some _ (Heap.get?_push_of_some _ ((Heap.get?_update_ne _ _ _ _ hb).trans e))
 have ga:h₁.get? a=some (seqObj "list" #[] e1):=by rw [← hh₁];exact Heap.get?_push_of_some _ (Heap.get?_push_of_some _ ha1)
 have gk:h₁.get? (c.s.heap.objs.size + 1)=some (seqObj "list" ([]:List Value).toArray 0):=by rw [← hh₁,← hsz];exact Heap.get?_push_size _ rfl
 have hka:c.s.heap.objs.size + 1 ≠ a:=Nat.ne_of_gt (Nat.lt_succ_of_lt haS)
 have fk:c.s.heap.get? (c.s.heap.objs.size + 1)=none:=BK (Nat.le_succ _)
 have ho:∀ b,b=a→A6 c.s.heap b∧b ∉ c.φ∧K.h₀.get? b=none:=fun b e=>e▸⟨Mine.noTup ha BZ,haφ,c₀.sim.none₀ ha0⟩
 have ac₀:AccAt c a Vs:=.mk _ n haφ ha (by rw [List.toList_toArray];exact rv)
 have s₁:Stp (·=a) c (c.keepOwn { c.s with heap:=h₁ } kk ho):=Cf.keepOwn_stp ⟨rfl,rfl⟩ fun b _ e _=>e▸⟨_,ga⟩
 have F₁:=F.keep s₁.toWStp (fun b e=>(ho b e).1) (fun f _ n _ e=>ac₀.noNs (e▸n)) fun b _ ic e=>ac₀.noCell (e▸ic)
 have rv₁:RelL h₁ c.φ Vs vs:=rv.own s₁.toWStp fun b e=>(ho b e).1
 unfold ksk_tree
 refine wpAny_bind (listItems_at ha rfl ?_)
 refine wpAny_bind (listUpdate_at ha rfl ?_ (by rw [List.size_toArray];exact hsl) (Nat.zero_le _))
 refine wpAny_bind (seqEpoch_at ha1 rfl ?_)
 refine wpAny_bind (wpAny_newTuple ?_ (by show vs.length≤_;exact hsl))
 refine wpAny_bind (wpAny_newList ?_ (Nat.zero_le _))
 refine wpAny_holding ?_
 show wpAny K.M A (ksk_rest a f false vs.toArray e1 (.ref ((c.s.heap.update a (Obj.mapSeq fun _=>(#[]:Array Value))).push (seqObj "tuple" vs.toArray 0)).objs.size)) P E { c.s with heap:=((c.s.heap.update a (Obj.mapSeq fun _=>(#[]:Array Value))).push (seqObj "tuple" vs.toArray 0)).push (seqObj "list" #[] 0) }
 rw [hsz,hh₁]
 unfold ksk_rest
 refine wpAny_bind (wpAny_rule ?_)
 first
  | rw [List.forIn_toArray]
  | (rw [← Array.forIn_toList];simp only [List.toList_toArray])
  | rw [← Array.forIn_toList]
 generalize hkS:c.s.heap.objs.size + 1=kS at *
 have hks:∀ b o,c.s.heap.get? b=some o→b ≠ kS:=fun b o e=>by rw [← hkS];exact Nat.ne_of_lt (Nat.lt_succ_of_lt (Heap.lt_size e))
 have O₁:Outs (c.keepOwn { c.s with heap:=h₁ } kk ho) c.φ kS ((a,seqObj "list" #[] e1) :: objs):=⟨List.prefix_refl _,fun p hp=>by
  rcases List.mem_cons.mp hp with rfl | hp
  ·exact ⟨ga,haφ,Ne.symm hka,nofun⟩
  ·refine KS (hO p hp) fun o1 o2 o3 o4=>?_
   exact ⟨kk p.1 p.2 o3 o1,o2,hks _ _ o1,o4⟩⟩
 refine wpAny_bind (wpAny_mono (Jp (L:=L) (ρ:=ρ) (kS:=kS) (objs:=(a,seqObj "list" #[] e1) :: objs) (turn:=turn) (c.sim.none₀ fk) (fun t V v R F O r k=>hkey kS t V v R F ⟨O.1,fun p hp=>O.2 p (List.mem_cons_of_mem _ hp)⟩ r k) (fun x s' Q' hx=>?_) vs Vs (c.keepOwn { c.s with heap:=h₁ } kk ho) [] F₁ O₁ (.mk #[] 0 (c.sim.out fk) gk trivial) (by rw [List.length_nil];exact an1 .lt (.a .n0 .v0) (.n 64) (.t .v0 (.n 64) .e) rfl h64) rv₁ q) (fun _ s' y=>?_) fun _ _ x=>x)
 ·refine wpAny_bind (wpAny_attempt (wpAny_mono hx (fun k s'' hk=>?_) fun _ _ hF=>hF.elim))
  refine A3 hk fun kvs e g hz hQ=>?_
  have ea:kvs.toArray.push k=(kvs ++ [k]).toArray:=by simp
  obtain ⟨c2,hc2⟩:∃ c2,(s''.heap.update kS (Obj.mapSeq (·.push k))).get? kS=some (seqObj "list" (kvs ++ [k]).toArray c2):=⟨_,by rw [← ea];exact get?_update_seq g (·.push k)⟩
  try dsimp only
  refine wpAny_bind (listUpdate_at g rfl ?_ (by rw [List.size_toArray,sizeLine_eq];exact an1 .le .v0 (.n 16777216) (.t .v0 (.n 64) .e) rfl hz) (Nat.le_trans (Nat.le_of_eq (Array.size_push ..)) (by rw [List.size_toArray,sizeLine_eq];exact an1 .le (.a .v0 .n1) (.a (.n 16777216) .n1) (.t .v0 (.n 64) .e) rfl hz)))
  exact wpAny_pure (hQ c2 hc2)
 ·refine Gy y fun c' acc' e1' st' F' O' ac' hl' rs hrs hne q'=>?_
  subst e1' hrs
  refine ac'.casesOn fun arr z oK eK rK=>?_
  try dsimp only
  have eK':c'.s.heap.get? kS=some (seqObj "list" arr.toList.toArray z):=by rw [Array.toArray_toList];exact eK
  refine wpAny_bind (listItems_at eK rfl ?_)
  have hl'':arr.toList.length=vs.length:=by rw [← rK.length,hl',List.length_nil,Nat.zero_add]
  have oa:=O'.2 (a,seqObj "list" #[] e1) List.mem_cons_self
  have key:=R4 (prog:=K.h₀.prog) (w:=K.h₀.w) (A:=A) (E:=E) (P:=P) eK' oa.1 (Ne.symm hka) hl'' (MT rK) hne h64 fun p hp1 hp2 h' c2 f1 f2 f3=>h _ ?_
  ·rw [Array.toArray_toList] at key;exact key
  have hoK:∀ b,(b=a∨b=kS)→A6 c'.s.heap b∧b ∉ c'.φ∧K.h₀.get? b=none:=fun b hb=>by
   rcases hb with rfl | rfl
   ·exact ⟨Mine.noTup oa.1 BZ,oa.2.1,c₀.sim.none₀ ha0⟩
   ·exact ⟨Mine.noTup eK BZ,oK,c.sim.none₀ fk⟩
  have kk':∀ b o,¬ (b=a∨b=kS)→c'.s.heap.get? b=some o→h'.get? b=some o:=fun b o hb e=>f2 b o (fun h=>hb (.inl h)) (fun h=>hb (.inr h)) e
  have s₃:Stp (fun b=>b=a∨b=kS) c' (c'.keepOwn { c'.s with heap:=h' } kk' hoK):=Cf.keepOwn_stp ⟨rfl,rfl⟩ fun b o hb _=>hb.elim (fun e=>e▸⟨_,f1⟩) fun e=>e▸f3
  have stF:Stp AQ c₀ (c'.keepOwn { c'.s with heap:=h' } kk' hoK):=((st₀.transNew s₁.toWStp fun b e=>e▸ha0).transNew st'.toWStp fun b e=>e▸st₀.gone fk).transNew s₃.toWStp fun b hb=>hb.elim (fun e=>e▸ha0) fun e=>e▸st₀.gone fk
  have rvF:RelL h' c'.φ Vs vs:=((rv₁.own st'.toWStp fun b e=>e▸Mine.noTup gk BZ:RelL c'.s.heap c'.φ Vs vs)).own s₃.toWStp fun b e=>(hoK b e).1
  rw [← hlen] at hp1
  have hin:∀ i ∈ p,i < Vs.length:=fun i hi=>List.mem_range.mp (hp1.mem_iff.mp hi)
  refine B3 (Made.join (D:=a) (acc:=p.map fun i=>Vs.getD i .none) stF ha0 (by rw [List.length_map,hp1.length_eq,List.length_range];unfold Ah;exact an2 .le .v0 (.n 1000000) (.q .v0 .v1 (.t .v1 (.n 64) .e)) rfl hlen h64) (.mk (c:=c'.keepOwn { c'.s with heap:=h' } kk' hoK) _ c2 oa.2.1 f1 (by rw [List.toList_toArray];exact FV rvF p hin))) fun c₄ g1 g2 g3 s₄ r₄=>?_
  have:=PV.mk (c:=c₀) (Q:=Q) c₄ _ s₄ r₄ (by rw [g3];exact q' p hp1 hp2)
  rw [g1] at this;exact this
end
end Mine
namespace Mine
open PySem PySem.Calls PyProof.Rows PySem.W
set_option maxRecDepth 100000
set_option genSizeOf false
set_option genInjectivity false
structure LamOk (params:Arguments) (scope:Scope) (x:Str) (arg:Arg):Prop where
 plain:params=⟨[],[arg],none,[],[],none,[]⟩
 name:arg.arg=x
 co:scope.isCoroutine=false
 gen:scope.isGenerator=false
noncomputable abbrev QE (L:Loc) (scope:Scope) (N:Addr) (q:Str) (f:Addr) (cv:Value):Env:=newEnv scope N mainGlobals (CM L.env scope.names []) (q ++ ".<locals>.") (some f) cv none builtinsNs
noncomputable abbrev SZ (L:Loc) (scope:Scope) (vs':Vs) (N:Addr) (q:Str) (f:Addr) (cv:Value):Loc:=⟨QE L scope N q f cv,vs',QE L scope N q f cv :: L.up⟩
section
variable {K:Ctx} {L:Loc} {A:Around} {vs':Vs} {G:GlT} {fa:Nat→Addr} {mg mb:Str→Option Value}
theorem Me {V:V} (cs:CompSc L scope vs' x i) (F:Fr c L ρ) (st:WStp AQ c c') (n:c'.s.heap.Ns N m) (hN:c.s.heap.get? N=none) (ho:N ∉ c'.φ) (hm:m x=some v) (rv:Rel c'.s.heap c'.φ V v) :
  Fr c' (SZ L scope vs' N q f cv) (ρ.set i V) where
 fn:=cs.kind
 glob:=rfl
 blt:=rfl
 locNew:=c.sim.none₀ hN
 locOut:=ho
 inj y z j hy hz:=by
  rcases cs.vars y j hy with ⟨rfl,rfl⟩ | ⟨h1,_,h2,h3⟩
  ·rcases cs.vars z _ hz with ⟨rfl,_⟩ | ⟨_,_,_,h3⟩
   ·rfl
   ·exact absurd rfl h3
  ·rcases cs.vars z j hz with ⟨rfl,rfl⟩ | ⟨_,_,h4,_⟩
   ·exact absurd rfl h3
   ·exact F.inj y z j h2 h4
 ns:=.mk m n fun y j hy hk=>by
  rcases cs.vars y j hy with ⟨rfl,rfl⟩ | ⟨_,hf,_,_⟩
  ·exact fun W hW _=>⟨v,hm,CZ hW▸rv⟩
  ·cases (show scope.names.lookup y=some .local from hk).symm.trans hf
 cell y j hy hk:=by
  rcases cs.vars y j hy with ⟨rfl,rfl⟩ | ⟨_,hf,hv,hj⟩
  ·rw [show (SZ L scope vs' N q f cv).env.kindOf y=some .local from cs.var] at hk;refine Or.elim hk (fun q=>?_) (fun q=>?_) <;> cases q
  ·obtain ⟨ca,hl⟩:=Cb cs F hf hv
   exact match ca with
   | .mk a ov e1 e2 e3 ic rr=>.mk a ov (hl a e1) (let ⟨_,e,_⟩:=ic;st.out e e2) e3 (st.keepC e2 (fun f=>f) ic) ((rr.own st fun _ f=>f.elim).other (Ne.symm hj))
 cellInj y z j j' a hy hz h1 h2:=by
  have nx:(CM L.env scope.names []).lookup x=none:=EE L.env scope.names [] x rfl cs.once
  rcases cs.vars y j hy with ⟨rfl,rfl⟩ | ⟨_,hf,hv,_⟩
  ·cases nx.symm.trans h1
  ·rcases cs.vars z j' hz with ⟨rfl,rfl⟩ | ⟨_,hf',hv',_⟩
   ·cases nx.symm.trans h2
   ·obtain ⟨⟨a1,_,e1,_⟩,l1⟩:=Cb cs F hf hv
    obtain ⟨⟨a2,_,e2,_⟩,l2⟩:=Cb cs F hf' hv'
    cases (l1 a1 e1).symm.trans h1
    cases (l2 a2 e2).symm.trans h2
    exact F.cellInj y z j j' _ hv hv' e1 e2
 up e m':=(List.mem_cons.mp m').elim (fun q=>by subst q;exact ⟨(fun q=>nomatch cs.kind.symm.trans q),_,_,rfl,c.sim.none₀ hN,ho,n⟩) fun m'=>(F.up e m').keep st fun _ _ _ _ f=>f
theorem PP (g:Gnd K G fa mg mb) {c:Cf K.h₀} {ρ:List V} {f c':Addr} {qual:Str} {params:Arguments} {body:Expr} {scope:Scope} {pm ctv:Value} {x:Str} {i:Nat} {arg:Arg} {b:Ex} {V:V} {v:Value} {Q:AO}
  (lo:LamOk params scope x arg) (cs:CompSc L scope vs' x i) (hh:A.handled=none) (hd:A.depth + 3 * K.d < 901) (hu:A.units + 12 * K.d < 9003) (hfr:A.frames=some L.up) (F:Fr c L ρ)
  (hf:c.s.heap.get? f=some (kla_obj "<lambda>" qual params body scope (CM L.env scope.names []) pm c' ctv)) (hcd:c.s.heap.CodeRec (.ref c') qual) (r:Rel c.s.heap c.φ V v)
  (hB:∀ N f cv,EOk K (SZ L scope vs' N qual f cv) body b) (q:b K.C (ρ.set i V) c.σ Q noX):wpAny K.M A (call (.ref f) [v]) (PV c Q) NX c.s:=by
 have hroom:A.depth < recursionLimit:=Nat.lt_of_lt_of_le (Nat.lt_of_le_of_lt (Nat.le_add_right _ _) hd) (by decide)
 refine wpAny_call (kla_callFunE (fd:=kla_fn "<lambda>" qual params body scope (CM L.env scope.names []) pm (.ref c') ctv) hroom hf rfl lo.co lo.gen rfl hcd ?_)
 have hb:bindArgs (kla_fn "<lambda>" qual params body scope (CM L.env scope.names []) pm (.ref c') ctv) ⟨[v],[]⟩=pure [(x,v)]:=by
  have:=D0 (fd:=kla_fn "<lambda>" qual params body scope (CM L.env scope.names []) pm (.ref c') ctv) (args:=[arg]) (vals:=[v]) lo.plain rfl rfl (by simp)
  rw [this,← lo.name];rfl
 rw [hb]
 refine wpAny_pure (wpAny_newFunctionEnv cs.cell (fun y hy=>by rw [List.mem_singleton.mp hy];exact cs.var) (fun h₁ hns hsb=>⟨(g.nolimit.keeps c.sim.keep).fresh _ hsb,?_⟩) cs.kind)
 have kk:∀ b o,c.s.heap.get? b=some o→h₁.get? b=some o:=fun b o e=>hsb.extBut b o (Nat.ne_of_lt (Heap.lt_size e)) (Heap.get?_push_of_some _ e)
 have st₁:Stp AQ c (c.keep { c.s with heap:=h₁,toks:=c.s.toks + [(x,v)].length } kk):=Cf.keep_stp ⟨rfl,rfl⟩
 have F':=Me (q:=qual) (f:=f) (cv:=.ref c') (V:=V) (v:=v) cs F st₁.toWStp hns Ae (c.sim.out Ae) (by show List.lookup x [(x,v)]=_;rw [List.lookup_cons,beq_self_eq_true]) (r.step st₁)
 refine kla_codeExpr (wpAny_mono (hB _ _ _ (A.deeper _) (c.keep { c.s with heap:=h₁,toks:=c.s.toks + [(x,v)].length } kk) (ρ.set i V) Q noX ⟨hh,by show A.depth + 1 + 3 * K.d < 902;exact an2 .lt (.a (.a .v0 .n1) (.m 3 .v1)) (.n 902) (.t (.a .v0 (.m 3 .v1)) (.n 901) .e) rfl hd,by show A.units + 3 + 12 * K.d < 9006;exact an2 .lt (.a (.a .v0 .n3) (.m 12 .v1)) (.n 9006) (.t (.a .v0 (.m 12 .v1)) (.n 9003) .e) rfl hu,by show A.frames.map _=_;rw [hfr];rfl⟩ F' q) (fun u s' y=>y.lift st₁) fun _ _ e=>Tu e)
inductive LamAt (c:Cf K.h₀) (K':Nat→AD→Prop) (f:Addr) (mk:Addr→Value→Obj) (qual:Str):Shared→Prop
 | mk (c₂:Cf K.h₀) (m:Nat) (c':Addr) (ctv:Value):Stp AQ c c₂→K' m c₂.σ→c₂.s.heap.get? f=some (mk c' ctv)→f ∉ c₂.φ→c₂.φ[m]?=some c'→c₂.σ[m]?=some (.code qual)→LamAt c K' f mk qual c₂.s
theorem PC (g:Gnd K G fa mg mb) {c:Cf K.h₀} {ρ:List V} {cN P:Addr} {qual:Str} {params:Arguments} {body:Expr} {scope:Scope} {x:Str} {i:Nat} {lpos:Pos} {K':Nat→AD→Prop} {Q:Value→Shared→Prop} {E:Value→Shared→Prop}
  {lk:Str} (hG:G.lookup lk=some (.tabl cN P)) (hdef:defaultsOf params L.env=([],[])) (cs:CompSc L scope vs' x i) (F:Fr c L ρ) (hcode:L.env.code=.ref cN) (hq:L.env.qual ++ "<lambda>"=qual) (tw:TabW P qual lpos.line lpos.col c.σ K')
  (h:∀ f s',LamAt c K' f (fun c' ctv=>kla_obj "<lambda>" qual params body scope (CM L.env scope.names []) ((mg "__name__").getD .none) c' ctv) qual s'→Q (.ref f) s'):wpAny K.M A (eval (.Lambda params body scope lpos) L.env) Q E c.s:=by
 refine Bm (g.lam lk cN P hG) fun hC hb hgP=>?_
 have hb':c.s.heap.BuiltinsAt mg P:=by refine BX hb fun bm ob b1 b2 b3 b4 b5 b6=>?_;exact ⟨bm,ob,b1,b2,b3,b4,c.sim.keep _ _ b5,b6⟩
 refine kla_eval hdef ?_
 rw [hq]
 rcases tw with ⟨t,e1,ht0,k⟩ | ⟨t,m,e1,e2,k⟩
 ·refine AZ (c.sim.obj t _ e1) fun aP ea ze1 gP=>?_;subst ze1
  refine kla_makeFunction (mg:=mg) (CW cs F) F.glob (g.ns.keeps c.sim.keep) hcode (hC.keeps c.sim.keep) gP trivial rfl hgP hb' fun c' ctv h' tk hext hge hlt hrec htb=>h _ _ ?_
  refine Gj hrec fun c₂' oc ocv tq e2 hoc hocd hocq=>?_
  cases e2
  have nc:c.s.heap.get? c'=none:=BK hge
  have kk:∀ b o,b ≠ aP→c.s.heap.get? b=some o→(h'.push (kla_obj "<lambda>" qual params body scope (CM L.env scope.names []) ((mg "__name__").getD .none) c' ctv)).get? b=some o:=fun b o hb e=>Heap.get?_push_of_some _ (hext b o hb e)
  refine BQ (Cf.setO (c:=c) (o:=.gone) (tk:=tk) ea ht0 kk fun _=>⟨_,Heap.get?_push_of_some _ htb⟩) fun ca f1 f2 f3 sa=>?_
  have Sb:Sim K.h₀ ca.s.heap (ca.φ ++ [c']) (ca.σ ++ [.code qual]):=ca.sim.add (o:=.code qual) (f2▸c.sim.out nc) (c.sim.none₀ nc) ⟨oc,ocv,tq,by rw [f1];exact Heap.get?_push_of_some _ hoc,hocd,hocq⟩
  have sb:Stp AQ c ⟨ca.s,ca.φ ++ [c'],ca.σ ++ [.code qual],Sb⟩:=⟨⟨sa.only,sa.pre.trans (List.prefix_append _ _),sa.keep,fun a m=>(Bl m).elim (sa.fresh a) fun e=>.inr (e▸nc)⟩,sa.pres⟩
  have hlen:c.φ.length=c.σ.length:=c.sim.len
  obtain ⟨cc,g1,g2,g3,sc⟩:=Cf.setO (c:=⟨ca.s,ca.φ ++ [c'],ca.σ ++ [.code qual],Sb⟩) (n:=t) (a:=aP) (o:=.row aP lpos.line lpos.col c.σ.length) (tk:=ca.s.toks) (Bp (List.prefix_append _ _) (f2▸ea)) ht0 (h':=ca.s.heap) (fun _ _ _ e=>e)
   fun _=>⟨rfl,c',by show (ca.φ ++ [c'])[c.σ.length]?=_;rw [f2,← hlen];exact List.getElem?_concat_length,by rw [f1];exact Heap.get?_push_of_some _ htb⟩
  have hσ:cc.σ=c.σ.set t (.row aP lpos.line lpos.col c.σ.length) ++ [.code qual]:=by
   rw [g3]
   show (ca.σ ++ [O.code qual]).set t _=_
   rw [f3,List.set_append_left _ _ (by rw [List.length_set];exact (List.getElem?_eq_some_iff.mp e1).1),List.set_set]
  have hs:cc.s={ c.s with heap:=h'.push (kla_obj "<lambda>" qual params body scope (CM L.env scope.names []) ((mg "__name__").getD .none) c' ctv),toks:=tk }:=by rw [g1,f1]
  have:=LamAt.mk (c:=c) (K':=K') (f:=h'.objs.size) (mk:=fun c' ctv=>kla_obj "<lambda>" qual params body scope (CM L.env scope.names []) ((mg "__name__").getD .none) c' ctv) (qual:=qual) cc c.σ.length c' ctv (sb.trans sc) (by rw [hσ];exact k) (by rw [hs];exact Heap.get?_push_size _ rfl)
   (by rw [g2];show _ ∉ ca.φ ++ [c'];rw [f2];exact fun m=>(Bl m).elim (c.sim.out (BK (Nat.le_trans hge (Nat.le_of_lt hlt)))) fun e=>Nat.ne_of_gt hlt e) (by rw [g2];show (ca.φ ++ [c'])[c.σ.length]?=_;rw [f2,← hlen];exact List.getElem?_concat_length)
   (by rw [hσ,List.getElem?_append_right (by rw [List.length_set];exact Nat.le_refl _),List.length_set,Nat.sub_self];rfl)
  rw [hs] at this;exact this
 ·refine J8 (c.sim.obj t _ e1) fun aP ea ze1 c' ec gP=>?_;subst ze1
  refine kla_makeFunctionHit (mg:=mg) (cv:=.ref c') (CW cs F) F.glob (g.ns.keeps c.sim.keep) hcode (hC.keeps c.sim.keep) gP ?_ ?_ hb' fun ctv h' tk hk hsz=>h _ _ ?_
  ·exact trivial
  ·show (if _=true then _ else _)=_
   rw [if_pos (by simp)]
  ·have s₂:Stp AQ c (c.keep { c.s with heap:=h'.push { cls:=.type "function", data:=.func (kla_fn "<lambda>" qual params body scope (CM L.env scope.names []) ((mg "__name__").getD .none) (.ref c') ctv) },toks:=tk } fun b o e=>Heap.get?_push_of_some _ (hk b o e)):=Cf.keep_stp ⟨rfl,rfl⟩
   exact .mk (c.keep _ _) m c' ctv s₂ k (Heap.get?_push_size _ rfl) (c.sim.out (BK hsz)) ec e2
end
end Mine
namespace Mine
open PySem PySem.Calls PyProof.Rows PySem.W
set_option maxRecDepth 100000
set_option genSizeOf false
set_option genInjectivity false
section
variable {K:Ctx} {L:Loc} {A:Around} {vs':Vs} {G:GlT} {fa:Nat→Addr} {mg mb:Str→Option Value}
theorem M2 (P:RelP h φ kvs us) (hi:ItemsOf (fun i v=>∃ k x,us[i]?=some (k,x)∧(strKind prog w).is k v=true) acc us.length):RelL h φ (kvs.map fun p=>V.str p.1) acc.toList:=by
 have:∀ (ks:List V) (vs:List Value),ks.length=vs.length→(∀ (i:Nat) (V:V) (v:Value),ks[i]?=some V→vs[i]?=some v→Rel h φ V v)→RelL h φ ks vs:=by
  intro ks
  induction ks with
  | nil=>intro vs hl _;cases vs with | nil=>trivial | cons=>cases hl
  | cons k ks ih=>intro vs hl hv;cases vs with
   | nil=>cases hl
   | cons v vs=>exact ⟨hv 0 k v rfl rfl,ih vs (Nat.succ.inj hl) fun i V v h1 h2=>hv (i + 1) V v h1 h2⟩
 refine this _ _ (by rw [List.length_map];exact (P.len.symm.trans hi.1.symm).trans Array.length_toList.symm) fun i V v h1 h2=>?_
 refine BL (P.key h1) fun k x e1 ze1=>?_;subst ze1
 rw [Array.getElem?_toList] at h2
 refine BL (hi.2 i v h2) fun k' x' e2 hk=>?_
 cases e1.symm.trans e2
 refine AU (Value.isStrOf_shape hk) fun t ze1=>?_;subst ze1
 exact Bo
noncomputable def UN:O→Prop
 | .list _=>True
 | .dict _ _=>True
 | _=>False
theorem TabW.ext {ln col:Int} {K:Nat→AD→Prop} (h:TabW P q ln col σ K):TabW P q ln col σ fun m σ₂=>(∀ (n:Nat) o,UN o→σ[n]?=some o→σ₂[n]?=some o)∧K m σ₂:=by
 rcases h with ⟨t,e,h0,k⟩ | ⟨t,m,e1,e2,k⟩
 ·refine .inl ⟨t,e,h0,fun n o hn e'=>?_,k⟩
  rw [List.getElem?_append_left (by rw [List.length_set];exact (List.getElem?_eq_some_iff.mp e').1),Ek fun q=>by rw [← q,e] at e';cases e';exact hn]
  exact e'
 ·exact .inr ⟨t,m,e1,e2,fun _ _ _ e=>e,k⟩
theorem LK (g:Gnd K G fa mg mb) {c:Cf K.h₀} {ρ:List V} {cN P:Addr} {qual:Str} {params:Arguments} {e body:Expr} {scope:Scope} {x:Str} {i:Nat} {arg:Arg} {lpos kp pf pos:Pos} {a b:Ex} {Q:AO} {X:Ac}
  {lk:Str} (hG:G.lookup lk=some (.tabl cN P)) (hs:Ag G L.env.scope ("sorted":Str)=true) (hn:Au e) (he:EOk K L e a) (lo:LamOk params scope x arg) (cs:CompSc L scope vs' x i) (hdef:defaultsOf params L.env=([],[])) (hcode:L.env.code=.ref cN) (hq:L.env.qual ++ "<lambda>"=qual)
  (hB:∀ N f cv,EOk K (SZ L scope vs' N qual f cv) body b) (R:RFun K L.up A) (F:Fr c L ρ) (q:G1 P qual lpos.line lpos.col a i b K.C ρ c.σ Q X) :
  wpAny K.M A (eval (.Call (.Name ("sorted":Str) pf) [e] [⟨some "key", .Lambda params body scope lpos,kp⟩] pos) L.env) (PV c Q) (PX c X) c.s:=by
 show wpAny K.M A (do callWith pos (← eval (.Name ("sorted":Str) pf) L.env) [] (backTo pos (starEach [e] L.env)) (backToKw pos (keywordEach [⟨some "key", .Lambda params body scope lpos,kp⟩] L.env))) _ _ c.s
 refine wpAny_bind (CE g F hs (by decide) Df ?_)
 refine callWith_kw ?_ (by rw [hn [] L.env];rfl) (BF hn BV L.env pos) rfl rfl
 refine JR (.refl c) (Dh hn he E0 A c ρ (fun vs σ₁=>∃ items,KeySrc σ₁ (vs.headD .none) items∧items.length < 64∧TabW P qual lpos.line lpos.col σ₁ fun m σ₂=>HC (fun y σ R=>σ[m]?=some (.code qual)∧b K.C (ρ.set i y) σ R noX) items [] σ₂ fun ks σ₃=>
   ∃ rs:List (List Int),ks=rs.map (fun r=>.tup (r.map .int))∧(∀ r ∈ rs,r ≠ [])∧∀ p:List Nat,p.Perm (List.range items.length)→p.Pairwise (BJ rs)→Q (.ref σ₃.length) (σ₃ ++ [.list (p.map fun i=>items.getD i .none)])) X pos R.ok F (by unfold G1 at q;exact q)) fun c₁ Vs vals s₁ _ rl q₁=>?_
 refine Ez q₁ fun hl1 items ks h64 tw=>?_
 refine AU (List.length_eq_one_iff.mp hl1) fun V ze0=>?_;subst ze0
 refine AF rl.one fun v' ze1 r=>?_;subst ze1
 refine kws_cons (PC (body:=body) (params:=params) g hG hdef cs (F.step s₁) hcode hq tw.ext fun f s' y=>kws_nil ?_)
 refine y.casesOn fun c₂ m c' ctv s₂ zp00 gf fo ec ek=>?_
 have hext:=zp00.1
 have k:=zp00.2
 have r₂:Rel c₂.s.heap c₂.φ V v':=r.step s₂
 obtain ⟨d,ze1,hcol⟩:∃ d,v'=.ref d∧∀ (A:Around) (_:A.handled=none) E,wpAny K.M A (collect (.ref d)) (fun vs s'=>∃ h₃ tk,s'={ c₂.s with heap:=h₃,toks:=tk }∧(∀ b o,c₂.s.heap.get? b=some o→h₃.get? b=some o)∧RelL c₂.s.heap c₂.φ items vs) E c₂.s:=by
  cases ks with
  | @dict n ep kvs en=>
   refine BX (Cf.dict (hext n _ trivial en) r₂) fun d us ze1 ed D Pd hz hsm=>⟨d,ze1,fun A hA E=>?_⟩
   exact kdu_collect (kdl_dict (knd:=strKind K.h₀.prog K.h₀.w) (kvs:=us) (ep:=ep) hsm) hA D (by rw [Pd.len];exact BS hz) fun h₃ tk acc hk hi=>⟨h₃,tk,rfl,hk,M2 Pd hi⟩
  | @list n us en=>
   refine Ak (Cf.list (hext n _ trivial en) r₂) fun d its k ze1 _ g rl hz=>⟨d,ze1,fun A hA E=>?_⟩
   have gl:c₂.s.heap.IsList d its.toList.toArray:=by rw [Array.toArray_toList];exact g.isList
   refine collect_list gl ⟨_,c₂.s.toks,rfl,fun b o e=>?_,rl⟩ (by rw [← rl.length];exact BS hz)
   rw [Heap.get?_update_ne _ _ _ _ (Nat.ne_of_lt (Heap.lt_size e))]
   exact Heap.get?_push_of_some _ e
 subst ze1
 show wpAny K.M A (call (.builtin "sorted") [.ref d] [(Str.ofString "key", .ref f)]) _ _ c₂.s
 refine call_function_entry_kw kind_sorted plain_sorted entry_sorted (ksk_s1 _ _) ?_
 unfold Builtin.«sorted»
 refine wpAny_bind (m:=checkCount "sorted" 1 1 _) (wpAny_pure ?_)
 refine wpAny_bind (wpAny_mono (hcol A.in1 R.hd _) (fun vs s' y=>?_) fun _ _ e=>e)
 refine A3 y fun h₃ tk ze1 hk rl₀=>?_;subst ze1
 have hl:vs.length < 64:=by rw [← rl₀.length];exact h64
 have s₃:Stp AQ c₂ (c₂.keep { c₂.s with heap:=h₃,toks:=tk } hk):=Cf.keep_stp ⟨rfl,rfl⟩
 refine wpAny_bind (wpAny_newList ?_ (by rw [sizeLine_eq];exact an1 .le .v0 (.n 16777216) (.t .v0 (.n 64) .e) rfl hl))
 have s₄:Stp AQ (c₂.keep { c₂.s with heap:=h₃,toks:=tk } hk) ((c₂.keep { c₂.s with heap:=h₃,toks:=tk } hk).keep { c₂.s with heap:=h₃.push (seqObj "list" vs.toArray 0),toks:=tk } Ax):=Cf.keep_stp ⟨rfl,rfl⟩
 have hoL:(h₃.push (seqObj "list" vs.toArray 0)).get? h₃.objs.size=some (seqObj "list" vs.toArray 0):=Heap.get?_push_size _ rfl
 have nD:c₂.s.heap.get? h₃.objs.size=none:=s₃.gone (Ae (h:=h₃))
 have F₄:=(((F.step s₁).step s₂).step s₃).step s₄
 refine wpAny_bind (wpAny_holding (wpAny_call_entry_kw (s:={ c₂.s with heap:=h₃.push (seqObj "list" vs.toArray 0),toks:=tk }) slot_list_sort ⟨_,hoL,rfl⟩ entry_list_sort ?_ (ksk_l1 _ _)))
 rw [ksk_t1]
 refine O5 (L:=L) (ρ:=ρ) (c:=(c₂.keep { c₂.s with heap:=h₃,toks:=tk } hk).keep { c₂.s with heap:=h₃.push (seqObj "list" vs.toArray 0),toks:=tk } Ax) (c₀:=c₂) (Vs:=items) (turn:=fun y σ R=>σ[m]?=some (.code qual)∧b K.C (ρ.set i y) σ R noX) (Q:=Q)
  (objs:=[(f,kla_obj "<lambda>" qual params body scope (CM L.env scope.names []) ((mg "__name__").getD .none) c' ctv)]) (s₃.trans s₄) nD (c₂.sim.out nD) F₄ (fun p hp=>?_) hoL (rl₀.step (s₃.trans s₄)) hl (fun kS t V v Rt Ft O r k=>?_) k fun s' hpv=>⟨_,rfl,wpAny_pure ⟨_,rfl,(hpv.lift (s₁.trans s₂))⟩⟩
 ·cases List.mem_singleton.mp hp
  exact ⟨Ax _ _ (hk _ _ gf),fo,(fun (e:f=h₃.objs.size)=>by rw [e,nD] at gf;cases gf),nofun⟩
 ·have o1:=O.2 _ List.mem_cons_self
  refine ES (t.sim.obj m _ k.1) fun a' ea' o vs tq e1 e2 e3=>?_
  cases (Bp O.1 ec).symm.trans ea'
  have hu:=R.units
  exact PP g lo cs R.hd R.depth (by show A.units + 1 + 1 + 12 * K.d < 9003;exact an2 .lt (.a (.a (.a .v0 .n1) .n1) (.m 12 .v1)) (.n 9003) (.t (.a .v0 (.m 12 .v1)) (.n 9000) .e) rfl hu) R.fr Ft o1.1 ⟨c',o,vs,tq,rfl,e1,e2,e3⟩ r hB k.2
end
end Mine
namespace Mine
open PySem PySem.Calls
set_option genSizeOf false
set_option genInjectivity false
section
variable {K:Ctx} {G:GlT} {fa:Nat→Addr} {mg mb:Str→Option Value}
noncomputable def U6:Nat→Str
 | 1=>"Rack.names.<locals>.<lambda>"
 | _=>"by_size.<locals>.<lambda>"
noncomputable def VE:Nat→Str
 | 1=>"<lambda>"
 | _=>"<lambda2>"
noncomputable def Jm (args:List Arg):Nat:=match (args.map (·.arg)).contains ("self":Str) with
 | true=>1
 | false=>2
theorem Qf (args:List Arg):Jm args ≠ 0:=by unfold Jm;split <;> decide
noncomputable def VY:(g:Option Gl)→Option { p:Addr × Addr // g=some (.tabl p.1 p.2) }
 | some (.tabl c P)=>some ⟨(c,P),rfl⟩
 | _=>none
noncomputable def UA:(p:Arguments)→Option { a:Arg // p=⟨[],[a],none,[],[],none,[]⟩ }
 | ⟨[],[a],none,[],[],none,[]⟩=>some ⟨a,rfl⟩
 | _=>none
noncomputable def H1 (sc:Scope) (args:List Arg):Bool:=decide ((args.map (·.arg)).Nodup) && (BA (args.map (·.arg)) sc).all (Fk sc) && (sc.kind == .function) && !sc.isCoroutine && !sc.isGenerator
theorem LB (h:H1 sc args=true):DefOk sc (args.map (·.arg)):=by
 simp only [H1,Bool.and_eq_true,decide_eq_true_eq,Bool.not_eq_true',List.all_eq_true,beq_iff_eq] at h
 exact ⟨h.1.1.1.1,h.1.1.1.2,h.1.1.2,h.1.2,h.2⟩
abbrev VD (G:GlT) (n:Nat) (cd:Value) (ql:Str):Prop:=(∀ c P,G.lookup (VE n)=some (.tabl c P)→cd=.ref c)∧ql ++ "<lambda>"=U6 n
abbrev Un (K:Ctx) (G:GlT) (body:List Stmt) (sc:Scope) (params:Arguments):Type:={ r:Fn × Nat // ∃ args,∀ cd ql,(r.2 ≠ 0→VD G r.2 cd ql)→FnOk K cd ql params body sc r.1 args }
noncomputable def WB (B:Bg K G fa mg mb) (S:SortR K G) (extra:Nat) (sc:Scope) (args:List Arg):(body:List Stmt)→Option (Un K G body sc ⟨[],args,none,[],[],none,[]⟩)
 | [.Return (some (.Call (.Name f _) [e] [⟨some kn,.Lambda lp lb lsc lpos,_⟩] _)) _]=>
  if hc:(H1 sc args && Ag G sc ("sorted":Str) && !lsc.isCoroutine && !lsc.isGenerator)=true then if hf:f=("sorted":Str)∧kn=("key":Str) then
   (UA lp).bind fun a=>(VY (G.lookup (VE (Jm args)))).bind fun t=>
    if ho:Hv sc (Ca (args.map (·.arg)) sc) lsc a.1.arg (BA (args.map (·.arg)) sc).length=true then
     (rE B S (BA (args.map (·.arg)) sc).length 40 sc (Ca (args.map (·.arg)) sc) e).bind fun x=>
      (rE B S ((BA (args.map (·.arg)) sc).length + 1) 40 lsc (CP lsc (Ca (args.map (·.arg)) sc) a.1.arg (BA (args.map (·.arg)) sc).length) lb).map fun y=>
       ⟨(⟨(args.map (·.arg)).length,(BA (args.map (·.arg)) sc).length + extra,[AV (G1 t.1.2 (U6 (Jm args)) lpos.line lpos.col x.1.v (BA (args.map (·.arg)) sc).length y.1.v)]⟩,Jm args),args,fun cd ql hk=>by
        have hk:=hk (Qf args)
        have g1:=Bool.and_eq_true_iff.mp hc
        have g2:=Bool.and_eq_true_iff.mp g1.1
        have g3:=Bool.and_eq_true_iff.mp g2.1
        obtain ⟨rfl,rfl⟩:=hf
        refine ⟨rfl,rfl,LB g3.1,fun env up he hcd hql A c ρ Q R F q=>?_⟩
        have hA:=Agree.of_eq he
        refine wpAny_execs_cons (wpAny_Return_some (wpAny_mono (LK (vs':=CP lsc (Ca (args.map (·.arg)) sc) a.1.arg (BA (args.map (·.arg)) sc).length) (x:=a.1.arg) (arg:=a.1) (cN:=t.1.1) (Q:=fun v σ=>Q (.ret v) ρ σ) (X:=fun k σ=>Q (.exc k) ρ σ) B.g t.2 (hA.free g3.2) (x.2 env (env :: up) hA).star (x.2 env (env :: up) hA).ok ⟨a.2,rfl,(Bool.not_eq_true' _).mp g2.2,(Bool.not_eq_true' _).mp g1.2⟩ (MZ hA.cf ho) (by rw [a.2];rfl) (hcd.trans (hk.1 _ _ t.2)) (by rw [hql];exact hk.2) (fun N f' cv=>(y.2 _ _ (Agree.of_eq rfl)).ok) R F q) (fun v s z=>?_) fun e s z=>z.toE F))
        cases z with
        | mk c₁ V s₁ r q₁=>exact .ret c₁ ρ V v s₁.any (F.step s₁) r q₁⟩
    else none else none else none
 | _=>none
noncomputable def Vy (B:Bg K G fa mg mb) (S:SortR K G) (extra:Nat) (body:List Stmt) (sc:Scope):(params:Arguments)→Option (Un K G body sc params)
 | ⟨[],args,none,[],[],none,[]⟩=>match WB B S extra sc args body with
  | some r=>some r
  | none=>(rFn B S extra body sc ⟨[],args,none,[],[],none,[]⟩).map fun r=>⟨(r.1,0),let ⟨a,h⟩:=r.2;⟨a,fun cd ql _=>h cd ql⟩⟩
 | _=>none
end
end Mine
namespace Mine
open PySem PySem.Calls PySem.W PyProof.Rows
set_option genSizeOf false
set_option genInjectivity false
structure Lw where
 h₀:Bs
 excs:List Nat
 G:GlT
 fa:Nat→Addr
 mg:Str→Option Value
 mb:Str→Option Value
abbrev Lw.K (l:Lw) (P:List Fn) (d:Nat):Ctx:=⟨l.h₀,callW P d,d,l.excs⟩
structure FunAt (l:Lw) (P:List Fn) (i:Nat) (fn:Fn) (o:Obj) (fd:FuncData) (body:List Stmt):Prop where
 get:l.h₀.get? (l.fa i)=some o
 data:o.data=.func fd
 code:l.h₀.heap.CodeRec fd.code fd.qualname
 glob:fd.globals=mainGlobals
 blt:fd.builtins=builtinsNs
 bod:fd.body=.stmts body
 clo:fd.closure=[]
 dfl:fd.defaults=.none
 ok:∀ d,Bg (l.K P d) l.G l.fa l.mg l.mb→SortR (l.K P d) l.G→∃ args,FnOk (l.K P d) fd.code (fd.qualname ++ ".<locals>.") fd.params body fd.scope fn args
structure LwOk (l:Lw) (P:List Fn):Prop where
 g:∀ d,Gnd (l.K P d) l.G l.fa l.mg l.mb
 so:∀ d,SortR (l.K P d) l.G
 fn:∀ x i fn,l.G.lookup x=some (.fn i)→P[i]?=some fn→∃ o fd body,FunAt l P i fn o fd body
theorem PK {l:Lw} {P:List Fn} {d:Nat} {c:Cf l.h₀} {Q:AO} {X:Ac}:∀ {r:Result} {s:Shared},Jn (l.K P d) c Q X r s→Jn (l.K P (d + 1)) c Q X r s
 | .ok (.ret _),_,y=>by cases (y:PV _ _ _ _) with | mk c' V st r q=>exact PV.mk (K:=l.K P (d + 1)) c' V st r q
 | .ok .next,_,y=>y
 | .ok .brk,_,y=>y
 | .ok .cont,_,y=>y
 | .error _,_,y=>by cases (y:PX _ _ _ _) with | mk c' k a fp n hk st e q=>exact PX.mk (K:=l.K P (d + 1)) c' k a fp n hk st e q
theorem Os (h:LwOk l P):∀ d,GK (l.K P d) l.G l.fa
 | 0=>fun _ _ _ _ _ _ _ _ _ _ _ _ _ q=>(PU q).elim
 | d + 1=>fun x i hx A up c Vs vals Q X R hup r q=>by
  refine AZ (Mo q) fun fn e hl q=>?_
  refine CH (h.fn x i fn hx e) fun o fd body fa=>?_
  refine AU (fa.ok d ⟨h.g d,Os h d⟩ (h.so d)) fun args ok=>?_
  refine codeAny_mono (SQ (K:=l.K P d) (c:=c) (Q:=Q) (X:=X) rfl (fd:=fd) (body:=body) ok.params ok.ok fa.glob fa.blt fa.bod fa.clo fa.dfl hup ⟨R.hd,R.depth,R.units,R.fr⟩ (c.sim.keep _ _ fa.get) fa.data ((h.g d).nolimit.keeps c.sim.keep) (fa.code.keeps c.sim.keep) r (ok.len.symm.trans hl.symm)
   (fun env he hc hq=>ok.body env up he hc hq) q) fun _ _ y=>PK y
end Mine
namespace Mine
open PySem PySem.Calls PySem.W PyProof.Rows
set_option genSizeOf false
set_option genInjectivity false
structure FRec where
 name:Str
 params:Arguments
 body:List Stmt
 scope:Scope
noncomputable def T5 (d:DefRec):FRec:=⟨d.name,d.params,d.body,d.scope⟩
noncomputable def Tf (m:MethRec):FRec:=⟨AX ++ "." ++ m.name,m.params,m.body,m.scope⟩
noncomputable def C0 (p:Program) (c:ClsRec):List FRec:=(recsOf p).map T5 ++ c.meths.map Tf
structure XRec where
 name:Str
 k:Nat
 kids:List Nat
 mro:List Value
structure Wh where
 C:Addr
 i:Nat
 cN:Addr
 tP:Addr
 cB:Addr
 tB:Addr
 xt:List XRec
noncomputable def Ij:Nat→List FRec→GlT
 | _,[]=>[]
 | n,d :: r=>(d.name,.fn n) :: Ij (n + 1) r
theorem Gc:∀ (ds:List FRec) (n:Nat) {x:Str} {g:Gl},(Ij n ds).lookup x=some g→∃ j d,g=.fn (n + j)∧ds[j]?=some d∧d.name=x
 | y :: r,n,x,g,h=>by
  rw [Ij,List.lookup_cons] at h
  cases e:x == y.name with
  | true=>rw [e] at h;exact ⟨0,y,(Option.some.inj h).symm,rfl,(beq_iff_eq.mp e).symm⟩
  | false=>rw [e] at h;refine A3 (Gc r (n + 1) h) fun j d h1 h2 h3=>?_;exact ⟨j + 1,d,h1.trans (by rw [Nat.add_assoc,Nat.add_comm 1]),h2,h3⟩
noncomputable def Sw (x:Str):Option PyData→Option (Str × Gl)
 | some (.str z)=>some (x,.str z)
 | some (.int i)=>some (x,.int i)
 | _=>none
noncomputable def UZ (p:Program):GlT:=(litsOf p).filterMap fun x=>Sw x.1 (valOf p x.1)
noncomputable def Dg (p:Program) (c:ClsRec) (wh:Wh):GlT:=Ij 0 (C0 p c) ++ ((AX,.cls wh.C wh.i) :: ("<lambda>", .tabl wh.cN wh.tP) :: ("<lambda2>", .tabl wh.cB wh.tB) :: wh.xt.map fun e=>(e.name,.exc e.k e.kids)) ++ UZ p
theorem EW {α:Type} {x:Str}:∀ (a b:List (Str × α)) {v:α},(a ++ b).lookup x=some v→a.lookup x=some v∨b.lookup x=some v
 | [],_,_,h=>.inr h
 | (y,w) :: a,b,v,h=>by
  rw [List.cons_append,List.lookup_cons] at h
  rw [List.lookup_cons]
  cases e:x == y with
  | true=>rw [e] at h;exact .inl h
  | false=>rw [e] at h;exact EW a b h
theorem Mm:∀ {o:Option PyData},Sw x o=some (y,g)→x=y∧((∃ z,g=.str z∧o=some (.str z))∨∃ i,g=.int i∧o=some (.int i))
 | some (.str z),h=>by cases h;exact ⟨rfl,.inl ⟨z,rfl,rfl⟩⟩
 | some (.int z),h=>by cases h;exact ⟨rfl,.inr ⟨z,rfl,rfl⟩⟩
inductive GlIs (p:Program) (c:ClsRec) (wh:Wh) (x:Str):Gl→Prop
 | fn (i:Nat) (d:FRec):(C0 p c)[i]?=some d→d.name=x→GlIs p c wh x (.fn i)
 | cls:x=AX→GlIs p c wh x (.cls wh.C wh.i)
 | lam:x="<lambda>"→GlIs p c wh x (.tabl wh.cN wh.tP)
 | lamB:x="<lambda2>"→GlIs p c wh x (.tabl wh.cB wh.tB)
 | exc (e:XRec):e ∈ wh.xt→e.name=x→GlIs p c wh x (.exc e.k e.kids)
 | str (z:Str):valOf p x=some (.str z)→GlIs p c wh x (.str z)
 | int (z:Int):valOf p x=some (.int z)→GlIs p c wh x (.int z)
theorem Nb (h:(Dg p c wh).lookup x=some g):GlIs p c wh x g:=by
 refine Or.elim (EW _ _ h) (fun h=>?_) (fun h=>?_)
 ·refine Or.elim (EW _ _ h) (fun h=>?_) (fun h=>?_)
  ·refine A3 (Gc _ 0 h) fun j d ze1 h2 h3=>?_;subst ze1
   exact .fn _ d (by rw [Nat.zero_add];exact h2) h3
  ·have h:=mem_of_lookup h
   refine Or.elim (List.mem_cons.mp h) (fun e=>?_) (fun h=>?_)
   ·cases e;exact .cls rfl
   refine Or.elim (List.mem_cons.mp h) (fun e=>?_) (fun h=>?_)
   ·cases e;exact .lam rfl
   refine Or.elim (List.mem_cons.mp h) (fun e=>?_) (fun h=>?_)
   ·cases e;exact .lamB rfl
   refine AF (List.mem_map.mp h) fun e he q=>?_
   cases q;exact .exc e he rfl
 ·refine AF (List.mem_filterMap.mp (mem_of_lookup h)) fun y _ e=>?_
  obtain ⟨rfl,⟨z,rfl,q⟩ | ⟨z,rfl,q⟩⟩:=Mm e
  ·exact .str z q
  ·exact .int z q
noncomputable def I0 (mg:Str→Option Value) (x:Str):Addr:=match mg x with
 | some (.ref a)=>a
 | _=>0
theorem HL (e:mg x=some (.ref a)):I0 mg x=a:=by unfold I0;rw [e]
noncomputable def C4 (mg mN:Str→Option Value) (p:Program) (c:ClsRec) (i:Nat):Addr:=match (recsOf p)[i]? with
 | some d=>I0 mg d.name
 | none=>match c.meths[i - (recsOf p).length]? with
  | some m=>I0 mN m.name
  | none=>0
theorem OO (h:(C0 p c)[i]?=some d):(∃ e,(recsOf p)[i]?=some e∧d=T5 e)∨((recsOf p)[i]?=none∧∃ m,c.meths[i - (recsOf p).length]?=some m∧d=Tf m):=by
 unfold C0 at h
 refine Or.elim (Nat.lt_or_ge i (recsOf p).length) (fun hi=>?_) (fun hi=>?_)
 ·rw [List.getElem?_append_left (by rw [List.length_map];exact hi),List.getElem?_map] at h
  refine AF (Option.map_eq_some_iff.mp h) fun e he q=>?_
  exact .inl ⟨e,he,q.symm⟩
 ·rw [List.getElem?_append_right (by rw [List.length_map];exact hi),List.length_map,List.getElem?_map] at h
  refine AF (Option.map_eq_some_iff.mp h) fun m hm q=>?_
  exact .inr ⟨List.getElem?_eq_none hi,m,hm,q.symm⟩
noncomputable def GlF (p:Program) (c:ClsRec) (wh:Wh) (x:Str):Gl→Prop
 | .fn i=>∃ d:FRec,(C0 p c)[i]?=some d∧d.name=x
 | .cls C i=>C=wh.C∧i=wh.i
 | .tabl a b=>(x="<lambda>"∧a=wh.cN∧b=wh.tP)∨x="<lambda2>"∧a=wh.cB∧b=wh.tB
 | .exc k ks=>∃ e:XRec,e ∈ wh.xt∧e.name=x∧e.k=k∧e.kids=ks
 | .str z=>valOf p x=some (.str z)
 | .int z=>valOf p x=some (.int z)
theorem B8 (h:(Dg p c wh).lookup x=some g):GlF p c wh x g:=by
 cases Nb h with
 | fn i d a b=>exact ⟨d,a,b⟩
 | cls _=>exact ⟨rfl,rfl⟩
 | lam e=>exact .inl ⟨e,rfl,rfl⟩
 | lamB e=>exact .inr ⟨e,rfl,rfl⟩
 | exc e a b=>exact ⟨e,a,b,rfl,rfl⟩
 | str z a=>exact a
 | int z a=>exact a
noncomputable def VX:Value→Bool
 | .str _ _=>true
 | _=>false
noncomputable def TI:Value→Bool
 | .int _ _=>true
 | _=>false
noncomputable def Sv:Value→Bool
 | .bool _=>true
 | _=>false
noncomputable def Tw:Value→Option Addr
 | .ref a=>some a
 | _=>none
noncomputable def TV:Data→Option (Array Value)
 | .fields vs=>some vs
 | _=>none
noncomputable def UO:Data→Option ClassData
 | .cls c=>some c
 | _=>none
noncomputable def TU:Data→Option FuncData
 | .func f=>some f
 | _=>none
theorem GB {α:Type} {x:α} {P:Prop} (h:(none:Option α)=some x):P:=nomatch h
theorem F8 {P:Prop} (h:false=true):P:=(Bool.false_ne_true h).elim
theorem Q1 (h:VX v=true):∃ x t,v=.str x t:=by
 cases v with
 | str x t=>exact ⟨x,t,rfl⟩
 | _=>exact F8 h
theorem MN (h:TI v=true):∃ x t,v=.int x t:=by
 cases v with
 | int x t=>exact ⟨x,t,rfl⟩
 | _=>exact F8 h
theorem PY (h:Sv v=true):∃ x,v=.bool x:=by
 cases v with
 | bool x=>exact ⟨x,rfl⟩
 | _=>exact F8 h
theorem LV (h:Tw v=some a):v=.ref a:=by
 cases v with
 | ref b=>exact congrArg Value.ref (Option.some.inj h)
 | _=>exact GB h
theorem MD (h:TV d=some vs):d=.fields vs:=by
 cases d with
 | fields us=>exact congrArg Data.fields (Option.some.inj h)
 | _=>exact GB h
theorem MK (h:UO d=some c):d=.cls c:=by
 cases d with
 | cls b=>exact congrArg Data.cls (Option.some.inj h)
 | _=>exact GB h
theorem MW (h:TU d=some f):d=.func f:=by
 cases d with
 | func b=>exact congrArg Data.func (Option.some.inj h)
 | _=>exact GB h
theorem BP {α:Type} {o:Option α} {p:α→Bool} (h:o.any p=true):∃ x,o=some x∧p x=true:=by
 cases o with
 | none=>exact F8 h
 | some x=>exact ⟨x,rfl,h⟩
noncomputable def K0 (h:Heap) (c P:Addr):Bool:=(h.get? c).any fun o=>decide (o.cls=.type "code") && (TV o.data).any fun vs=>decide (vs[11]?=some (.ref P)) && (VX (vs.getD 18 .none) && (TI (vs.getD 7 .none) && (Sv (vs.getD 9 .none) && (TI (vs.getD 10 .none) && decide (c ≠ P)))))
noncomputable def LE (h:Heap) (P:Addr):Bool:=(h.get? P).any fun o=>decide (o.cls=.none) && (o.dict.isNone && (decide (o.slots.size=0) && (TV o.data).any fun vs=>decide (vs.size=0)))
noncomputable def VU (h:Heap) (k:Addr) (mro:List Value):Bool:=(h.get? k).any fun o=>(UO o.data).any fun cd=>decide (cd.mro=mro)
noncomputable def OR (h:Heap) (C cN:Addr):Bool:=(h.get? C).any fun o=>(UO o.data).any fun cd=>h.isNs cd.ns && ((h.nsMap cd.ns "names").bind Tw).any fun f=>(h.get? f).any fun o=>(TU o.data).any fun fd=>decide (fd.code=.ref cN)
noncomputable def P6 (h:Heap) (cB:Addr):Bool:=((h.nsMap mainGlobals "by_size").bind Tw).any fun f=>(h.get? f).any fun o=>(TU o.data).any fun fd=>decide (fd.code=.ref cB)
noncomputable def I9 (wh:Wh) (s:Shared):Bool:=decide (s.heap.nsMap mainGlobals AX=some (.ref wh.C)) && (wh.xt.all fun e=>decide (s.heap.nsMap mainGlobals e.name=some (.ref e.k)) && VU s.heap e.k e.mro) && OR s.heap wh.C wh.cN && K0 s.heap wh.cN wh.tP && LE s.heap wh.tP && K0 s.heap wh.cB wh.tB && LE s.heap wh.tB && P6 s.heap wh.cB && decide (wh.tP ≠ wh.tB)
structure SeenP (wh:Wh) (mg:Str→Option Value) (h:Heap):Prop where
 cls:mg AX=some (.ref wh.C)
 exc:∀ e ∈ wh.xt,mg e.name=some (.ref e.k)∧∃ o cd,h.get? e.k=some o∧o.data=.cls cd∧cd.mro=e.mro
 names:∃ oC cd m f o fd,h.get? wh.C=some oC∧oC.data=.cls cd∧h.Ns cd.ns m∧m "names"=some (.ref f)∧h.get? f=some o∧o.data=.func fd∧fd.code=.ref wh.cN
 code:CodeHd h wh.cN wh.tP
 tab:h.get? wh.tP=some (tabObj #[])
 codeB:CodeHd h wh.cB wh.tB
 tabB:h.get? wh.tB=some (tabObj #[])
 size:∃ f o fd,mg "by_size"=some (.ref f)∧h.get? f=some o∧o.data=.func fd∧fd.code=.ref wh.cB
 ne:wh.tP ≠ wh.tB
theorem Lq (h0:K0 h c P=true):CodeHd h c P:=by
 refine AF (BP h0) fun o hg h=>?_
 have h:=Bool.and_eq_true_iff.mp h
 refine AF (BP h.2) fun vs hd h'=>?_
 have h':=Bool.and_eq_true_iff.mp h'
 have b1:=Bool.and_eq_true_iff.mp h'.2
 have b2:=Bool.and_eq_true_iff.mp b1.2
 have b3:=Bool.and_eq_true_iff.mp b2.2
 have b4:=Bool.and_eq_true_iff.mp b3.2
 have k1:=of_decide_eq_true h'.1
 refine CL (Q1 b1.1) fun _ _ k2=>?_
 refine CL (MN b2.1) fun _ _ k3=>?_
 refine AU (PY b3.1) fun _ k4=>?_
 refine CL (MN b4.1) fun _ _ k5=>?_
 exact ⟨_,vs,_,_,_,_,_,_,_,hg,of_decide_eq_true h.1,MD hd,k1,by rw [Array.getD_eq_getD_getElem?,k1];rfl,k2,k3,k4,k5,of_decide_eq_true b4.2⟩
theorem PH (h0:LE h P=true):h.get? P=some (tabObj #[]):=by
 refine AF (BP h0) fun o hg h=>?_
 have h:=Bool.and_eq_true_iff.mp h
 have b1:=Bool.and_eq_true_iff.mp h.2
 have b2:=Bool.and_eq_true_iff.mp b1.2
 refine AF (BP b2.2) fun vs hd h'=>?_
 rw [hg]
 show some (⟨o.cls,o.dict,o.data,o.slots⟩:Obj)=_
 rw [of_decide_eq_true h.1,Option.isNone_iff_eq_none.mp b1.1,Array.eq_empty_of_size_eq_zero (of_decide_eq_true b2.1),MD hd,Array.eq_empty_of_size_eq_zero (of_decide_eq_true h')]
theorem seen_of (h:I9 wh s=true):SeenP wh (s.heap.nsMap mainGlobals) s.heap:=by
 unfold I9 at h
 simp only [Bool.and_eq_true,decide_eq_true_eq,List.all_eq_true] at h
 obtain ⟨⟨⟨⟨⟨⟨⟨⟨h1,h2⟩,h3⟩,h4⟩,h5⟩,h6⟩,h7⟩,h8⟩,h9⟩:=h
 refine ⟨h1,fun e he=>⟨(h2 e he).1,?_⟩,?_,Lq h4,PH h5,Lq h6,PH h7,?_,h9⟩
 ·refine AF (BP (h2 e he).2) fun o hg h=>?_
  refine AF (BP h) fun cd hd h=>?_
  exact ⟨o,cd,hg,MK hd,of_decide_eq_true h⟩
 ·refine AF (BP h3) fun oC hg h=>?_
  refine AF (BP h) fun cd hd h=>?_
  have h:=Bool.and_eq_true_iff.mp h
  refine AF (BP h.2) fun f hf h'=>?_
  refine AF (Option.bind_eq_some_iff.mp hf) fun v hv hr=>?_
  refine AF (BP h') fun o hfd h'=>?_
  refine AF (BP h') fun fd he h'=>?_
  exact ⟨oC,cd,_,f,o,fd,hg,MK hd,.of_isNs h.1,hv.trans (congrArg some (LV hr)),hfd,MW he,of_decide_eq_true h'⟩
 ·refine AF (BP h8) fun f hf h'=>?_
  refine AF (Option.bind_eq_some_iff.mp hf) fun v hv hr=>?_
  refine AF (BP h') fun o hfd h'=>?_
  refine AF (BP h') fun fd he h'=>?_
  exact ⟨f,o,fd,hv.trans (congrArg some (LV hr)),hfd,MW he,of_decide_eq_true h'⟩
theorem SeenP.keeps (x:SeenP wh mg h) (k:∀ b o,h.get? b=some o→h'.get? b=some o):SeenP wh mg h' where
 cls:=x.cls
 exc e he:=by refine DY (x.exc e he) fun a o cd e1 r=>?_;exact ⟨a,o,cd,k _ _ e1,r⟩
 names:=by refine G3 x.names fun oC cd m f o fd e1 e2 n e3 e4 r=>?_;exact ⟨oC,cd,m,f,o,fd,k _ _ e1,e2,n.keeps k,e3,k _ _ e4,r⟩
 code:=x.code.keeps k
 tab:=k _ _ x.tab
 codeB:=x.codeB.keeps k
 tabB:=k _ _ x.tabB
 size:=by refine Be x.size fun f o fd a b c d=>?_;exact ⟨f,o,fd,a,k _ _ b,c,d⟩
 ne:=x.ne
end Mine
namespace Mine
open PySem PySem.Calls PySem.W PyProof.Rows
set_option genSizeOf false
set_option genInjectivity false
section
variable {h:Heap} {P PB:Addr} (hP:h.get? P=some (tabObj #[])∧h.get? PB=some (tabObj #[]))
include hP
theorem hid (e:h.get? b=some o) (hd:o.data ≠ .fields #[]):(Af h [P,PB]).get? b=some o:=
 CN (fun m=>by
  rcases List.mem_cons.mp m with q | m
  ·rw [q,hP.1] at e;cases e;exact hd rfl
  ·rw [List.mem_singleton.mp m,hP.2] at e;cases e;exact hd rfl) e
theorem FY (x:h.Ns a m):(Af h [P,PB]).Ns a m:=by refine Ad x fun o es ep e d r=>?_;exact ⟨o,es,ep,hid hP e (by rw [d];nofun),d,r⟩
theorem RC (x:h.CodeRec v q):(Af h [P,PB]).CodeRec v q:=by
 refine Gj x fun c o vs t e g d r=>?_
 refine ⟨c,o,vs,t,e,hid hP g fun z=>?_,d,r⟩
 rw [d] at z;cases z;simp at r
theorem Ql (x:OwnTail h bmB bm):OwnTail (Af h [P,PB]) bmB bm:=by
 induction x with
 | base=>exact .base
 | own e n i _ ih=>exact .own (hid hP e nofun) (FY hP n) i ih
theorem Rf (x:ClsAt h C N mN):ClsAt (Af h [P,PB]) C N mN:=
 by refine A1 x.obj fun nm q bs sn sub col dd k0 k1 k2 k3 k5 e=>?_;exact ⟨⟨nm,q,bs,sn,sub,col,dd,k0,k1,k2,k3,k5,hid hP e nofun⟩,FY hP x.ns⟩
theorem Tv (x:CodeHd h c T):CodeHd (Af h [P,PB]) c T:=by
 refine FQ x fun o vs file tf flags tg inF text tt e1 e2 e3 e4 r=>?_
 refine ⟨o,vs,file,tf,flags,tg,inF,text,tt,hid hP e1 fun z=>?_,e2,e3,e4,r⟩
 rw [e3] at z;cases z;simp at e4
end
theorem Vc {h:Heap} {P a:Addr} {m:Str→Option Value} (hP:h.get? P=some (tabObj #[])) (x:h.Ns a m):a ≠ P:=fun q=>by
 refine Ad x fun o es ep e d r=>?_
 rw [q,hP] at e;cases e;cases d
theorem SeenP.tabs (S:SeenP wh mg h):h.get? wh.tP=some (tabObj #[])∧h.get? wh.tB=some (tabObj #[]):=⟨S.tab,S.tabB⟩
theorem SP (m:Str):(AX ++ "." ++ m:Str).cps.toList=(AX.cps.toList ++ [46]) ++ m.cps.toList:=by
 show ((AX.cps ++ (⟨#[46]⟩:Str).cps) ++ m.cps).toList=_
 rw [Array.toList_append,Array.toList_append]
theorem MF (e:AX ++ "." ++ a=AX ++ "." ++ b):a=b:=by
 have:=congrArg (fun s:Str=>s.cps.toList) e
 simp only [SP] at this
 have:=Array.toList_inj.mp (List.append_cancel_left this)
 cases a;cases b
 simp only at this
 rw [this]
structure TextOk (p:Program) (loose:List Str) (c:ClsRec) (wh:Wh):Prop where
 mem:c ∈ plainsOf p loose
 name:c.name=AX
 quiet:Ib.all (c.withCmp.quiet.contains ·)=true
 dots:((recsOf p).all fun d=>JT d.name)=true
 init:R5 ((Dg p c wh).lookup (AX ++ "." ++ "__init__")) wh.i=true
 owns:(wh.xt.all fun e=>(ownsOf p).any fun o=>o.name == e.name && o.bm == bmV && o.newId == "ValueError.__new__")=true
 kids:(wh.xt.all fun e=>wh.xt.all fun e'=>e'.mro.contains (.ref e.k) == e.kids.contains e'.k)=true
 blt:(B6.all fun x=>!(startupNames.contains x || loose.contains x || ((recsOf p).map (·.name)).contains x || ((litsOf p).map (·.1)).contains x || ((clssOf p loose).map (·.name)).contains x) || ((Dg p c wh).lookup x).isSome)=true
 lit:((litsOf p).all fun x=>((recsOf p).map (·.name)).contains x.1 == false)=true
theorem T6 {h:Heap} {a:Addr} {m m':Str→Option Value} (x:h.Ns a m) (y:h.Ns a m'):m=m':=by
 refine Be x fun o es ep e d _ f=>?_
 refine Be y fun o' es' ep' e' d' _ f'=>?_
 cases e.symm.trans e';cases d.symm.trans d'
 funext n;rw [← f,← f']
section
variable {p q:Program} {w:World} {loose:List Str} {mean:ExcName→Option Value} {mg mb:Str→Option Value} {h:Heap} {c:ClsRec} {wh:Wh}
noncomputable abbrev UU (p q:Program) (w:World) (c:ClsRec) (wh:Wh) (h:Heap) (mg mb mN:Str→Option Value):Lw:=⟨⟨Af h [wh.tP,wh.tB],p,w⟩,wh.xt.map (·.k),Dg q c wh,C4 mg mN q c,mg,mb⟩
theorem L3 (T:Top q loose mean mg mb h) (A:PlainAt h c.withCmp wh.C N mN) (hd:(C0 q c)[i]?=some d) (hn:c.name=AX) :
  ∃ o fd,h.get? (C4 mg mN q c i)=some o∧o.data=.func fd∧h.CodeRec fd.code fd.qualname∧fd.globals=mainGlobals∧fd.builtins=builtinsNs∧fd.body=.stmts d.body∧fd.closure=[]∧fd.defaults=.none∧fd.params=d.params∧fd.scope=d.scope ∧
   ((∃ e,(recsOf q)[i]?=some e∧d=T5 e∧mg e.name=some (.ref (C4 mg mN q c i))∧fd.qualname=e.name)∨∃ m ∈ c.meths,d=Tf m∧mN m.name=some (.ref (C4 mg mN q c i))∧o.cls=.type "function"∧fd.qualname=AX ++ "." ++ m.name):=by
 rcases OO hd with ⟨e,he,rfl⟩ | ⟨h0,m,hm,rfl⟩
 ·refine JN (T.fn e (List.mem_of_getElem? he)) fun a o pm cd doc h1 h2 h3 h4=>?_
  have ha:C4 mg mN q c i=a:=by unfold C4;rw [he];exact HL h1
  rw [ha]
  exact ⟨o,_,h2,h3,h4,rfl,rfl,rfl,rfl,rfl,rfl,rfl,.inl ⟨e,he,rfl,h1,rfl⟩⟩
 ·refine ID (A.meths m (List.mem_of_getElem? hm)) fun f o pm cd doc e1 e2 e3 e4 e5=>?_
  have ha:C4 mg mN q c i=f:=by unfold C4;rw [h0];dsimp only;rw [hm];exact HL e1
  rw [ha]
  exact ⟨o,_,e2,e4,e5,rfl,rfl,rfl,rfl,rfl,rfl,rfl,.inr ⟨m,List.mem_of_getElem? hm,rfl,e1,e3,by show c.name ++ "." ++ m.name=_;rw [hn]⟩⟩
theorem Ou {mN:Str→Option Value} {d:Nat} (T:Top q loose mean mg mb h) (S:SeenP wh mg h) (A:PlainAt h c.withCmp wh.C N mN) (ok:TextOk q loose c wh):Gnd ((UU p q w c wh h mg mb mN).K P d) (Dg q c wh) (C4 mg mN q c) mg mb where
 ns:=FY S.tabs T.g
 nsb:=FY S.tabs T.b
 nolimit:=by refine AF T.nolimit fun mc a b=>?_;exact ⟨mc,FY S.tabs a,b⟩
 fn x i hx hm:=by
  refine AF (B8 hx) fun d hd he=>?_
  ·obtain ⟨o,fd,_,_,_,_,_,_,_,_,_,_,⟨e,_,rfl,h1,_⟩ | ⟨m,_,rfl,_⟩⟩:=L3 T A hd ok.name
   ·exact he▸h1
   ·exact absurd he.symm (hm m.name)
 isfn x i hx:=by
  refine AF (B8 hx) fun d hd he=>?_
  ·refine A3 (L3 T A hd ok.name) fun o fd h1 h2 _=>?_
   exact ⟨o,fd,hid S.tabs h1 (by rw [h2];nofun),h2⟩
 str x z hx:=by
  have hv:=B8 hx
  refine AF (T.const x _ hv) fun v hv r=>?_;cases r h;exact ⟨_,hv⟩
 int x z hx:=by
  have hv:=B8 hx
  refine AF (T.const x _ hv) fun v hv r=>?_;cases r h;exact ⟨_,hv⟩
 blt x hx hn:=by
  have:=List.all_eq_true.mp ok.blt x hx
  rw [hn] at this
  simp only [Option.isSome_none,Bool.or_false,Bool.not_eq_true',Bool.or_eq_false_iff] at this
  obtain ⟨⟨⟨⟨a1,a2⟩,a3⟩,a4⟩,a5⟩:=this
  exact T.free x (fun m=>Bool.eq_false_iff.mp a1 (List.contains_iff_mem.mpr m)) (fun m=>Bool.eq_false_iff.mp a2 (List.contains_iff_mem.mpr m)) (fun m=>Bool.eq_false_iff.mp a3 (List.contains_iff_mem.mpr m)) (fun m=>Bool.eq_false_iff.mp a4 (List.contains_iff_mem.mpr m)) (fun m=>Bool.eq_false_iff.mp a5 (List.contains_iff_mem.mpr m))
 bv:=T.builtins
 cls C i hx:=by
  have key:∀ m j,(Dg q c wh).lookup (AX ++ "." ++ m)=some (.fn j)→LO (Af h [wh.tP,wh.tB]) mN m (C4 mg mN q c j):=fun m j hj=>by
   refine AF (B8 hj) fun d hd he=>?_
   ·obtain ⟨o,fd,h1,h2,_,_,_,_,_,_,_,_,⟨e,he',rfl,_⟩ | ⟨m',_,rfl,h3,h4,_⟩⟩:=L3 T A hd ok.name
    ·exact absurd he (D7 (List.all_eq_true.mp ok.dots e (List.mem_of_getElem? he')) m)
    ·cases MF he
     exact ⟨h3,o,fd,hid S.tabs h1 (by rw [h2];nofun),h4,h2⟩
  obtain ⟨rfl,rfl⟩:=B8 hx
  exact ⟨S.cls,N,mN,Rf S.tabs A.cls,fun n hn=>A.quiet n (List.contains_iff_mem.mp (List.all_eq_true.mp ok.quiet n hn)),key,key _ _ (L8 ok.init)⟩
 exc x k ks hx:=by
  refine BQ (B8 hx) fun e he hn zk zs=>?_
  ·subst zk;subst zs
   refine ⟨hn▸(S.exc e he).1,List.mem_map.mpr ⟨e,he,rfl⟩,fun k' hk'=>?_⟩
   refine AF (List.mem_map.mp hk') fun e' he' ze1=>?_;subst ze1
   refine B7 (S.exc e' he') fun b1 o cd b2 b3 b4=>?_
   refine AF (List.any_eq_true.mp (List.all_eq_true.mp ok.owns e' he')) fun ow ho hq=>?_
   simp only [Bool.and_eq_true,beq_iff_eq] at hq
   obtain ⟨⟨q1,q2⟩,q3⟩:=hq
   refine AF (T.own ow ho) fun C' O _=>?_
   have O':=O.own
   cases (q1▸O'.bound).symm.trans b1
   refine C6 O'.obj fun bm N' nm qn bs hdct sn sub ab col dd k0 k1 k2 k3 k5 mN' hC hN hni TL=>?_
   rw [q3] at hC
   cases hC.symm.trans b2
   cases b3
   refine ⟨e'.mro,.mk bm N' nm qn bs hdct sn sub ab col dd k0 k1 k2 k3 k5 mN' (hid S.tabs hC nofun) (FY S.tabs hN) hni (Ql S.tabs (q2▸TL)) b4,?_⟩
   exact beq_iff_eq.mp (List.all_eq_true.mp (List.all_eq_true.mp ok.kids e he) e' he')
 lam x cN P' hx:=by
  have key:CodeHd h cN P'∧h.get? P'=some (tabObj #[]):=by
   rcases B8 hx with ⟨_,rfl,rfl⟩ | ⟨_,rfl,rfl⟩
   ·exact ⟨S.code,S.tab⟩
   ·exact ⟨S.codeB,S.tabB⟩
  refine ⟨Tv S.tabs key.1,?_,Vc key.2 T.g⟩
  refine BX T.bmain fun bm ob b1 b2 b3 b4 b5 b6=>?_
  refine ⟨bm,ob,b1,b2,fun z=>?_,fun z=>?_,hid S.tabs b3 (by rw [b6];nofun),b4,b5,b6⟩
  ·refine Ad T.g fun o' es ep e dd _=>?_
   rw [z,e] at b3;cases b3;rw [b6] at dd;cases dd
  ·rw [z,key.2] at b3;cases b3;cases b6
abbrev Reads (G:GlT) (ds:List FRec) (extra:Nat) (P:List (Fn × Nat)):Prop:=∀ (K:Ctx) (fa:Nat→Addr) (mg mb:Str→Option Value) (B:Bg K G fa mg mb) (S:SortR K G),Fw (fun d:FRec=>(Vy B S extra d.body d.scope d.params).map Subtype.val) ds=some P
theorem QG {α β:Type} {f:α→Option β} (as:List α):∀ {bs:List β} {i:Nat} {b:β},Fw f as=some bs→bs[i]?=some b→∃ a,as[i]?=some a∧f a=some b:=by
 induction as with
 | nil=>intro bs i b h hb;rw [← Option.some.inj h] at hb;exact absurd hb.symm (Option.some_ne_none b)
 | cons a as ih=>
  intro bs i b h hb
  refine AF (Option.bind_eq_some_iff.mp h) fun y hy h=>?_
  refine AF (Option.map_eq_some_iff.mp h) fun ys hys ze1=>?_
  rw [← ze1] at hb
  cases i with
  | zero=>exact ⟨a,rfl,Option.some.inj hb▸hy⟩
  | succ i=>exact ih hys hb
theorem Uz {N:Addr} {mN:Str→Option Value} {P:List (Fn × Nat)} {extra:Nat} (T:Top q loose mean mg mb h) (S:SeenP wh mg h) (A:PlainAt h c.withCmp wh.C N mN) (ok:TextOk q loose c wh) (hP:Reads (Dg q c wh) (C0 q c) extra P)
  (hk:∀ (i:Nat) (r:Fn × Nat),P[i]?=some r→r.2 ≠ 0→∃ d:FRec,(C0 q c)[i]?=some d∧((r.2=1∧d.name=AX ++ "." ++ "names")∨r.2=2∧d.name="by_size")):LwOk (UU p q w c wh h mg mb mN) (P.map (·.1)) where
 g d:=Ou T S A ok
 so d:=R6 (Ou (P:=P.map (·.1)) (d:=d) T S A ok)
 fn x i fn hx hi:=by
  rw [List.getElem?_map] at hi
  refine AF (Option.map_eq_some_iff.mp hi) fun r hr ze1=>?_;subst ze1
  refine AF (B8 hx) fun d hd he=>?_
  refine Fx (L3 T A hd ok.name) fun o fd h1 h2 h3 h4 h5 h6 h7 h8 h9 h10 alt=>?_
  refine ⟨o,fd,d.body,hid S.tabs h1 (by rw [h2];nofun),h2,RC S.tabs h3,h4,h5,h6,h7,h8,fun n B S'=>?_⟩
  refine AF (QG _ (hP _ _ _ _ B S') hr) fun d' hd' e=>?_
  cases hd.symm.trans hd'
  refine AF (Option.map_eq_some_iff.mp e) fun z _ e=>?_
  refine AU (z.2) fun args hz=>?_
  rw [h9,h10]
  refine ⟨args,e▸hz _ _ fun hb=>?_⟩
  refine AF (hk i r hr (e▸hb)) fun d'' hd'' hn=>?_
  cases hd.symm.trans hd''
  rcases hn with ⟨h1',hn⟩ | ⟨h1',hn⟩
  ·rcases alt with ⟨e',he',rfl,_⟩ | ⟨m,_,rfl,hm,_,hq⟩
   ·exact absurd hn (D7 (List.all_eq_true.mp ok.dots e' (List.mem_of_getElem? he')) _)
   ·have hmn:m.name="names":=MF hn
    rw [e,h1']
    refine ⟨fun c' P' hl=>?_,by rw [hq,hmn];decide +kernel⟩
    rcases B8 hl with ⟨_,rfl,rfl⟩ | ⟨z,_⟩
    ·refine Bq S.names fun oC cd m' f o' fd' g1 g2 g3 g4 g5 g6 g7=>?_
     refine A1 A.cls.obj fun nm q' bs sn sub col dd k0 k1 k2 k3 k5 gC=>?_
     cases gC.symm.trans g1
     cases g2
     cases T6 g3 A.cls.ns
     rw [hmn] at hm
     cases hm.symm.trans g4
     cases h1.symm.trans g5
     cases h2.symm.trans g6
     exact g7
    ·exact absurd z (by decide)
  ·rcases alt with ⟨e',he',rfl,hm,hq⟩ | ⟨m,_,rfl,hm,_,hq⟩
   ·have hn:e'.name="by_size":=hn
    rw [e,h1']
    refine ⟨fun c' P' hl=>?_,by rw [hq,hn];decide +kernel⟩
    rcases B8 hl with ⟨z,_⟩ | ⟨_,rfl,rfl⟩
    ·exact absurd z (by decide)
    ·refine Be S.size fun f o' fd' g4 g5 g6 g7=>?_
     rw [hn] at hm
     cases hm.symm.trans g4
     cases h1.symm.trans g5
     cases h2.symm.trans g6
     exact g7
   ·exact absurd hn.symm (D7 (by decide) m.name)
end
theorem Jv:∀ {vs:List Value} {xs:List Int},WellAll P h vs (ofPys (xs.map PyData.int))→IntsAre vs xs
 | _,[],x=>by rw [List.map_nil,ofPys] at x;cases x;exact .nil
 | _,i :: xs,x=>by
  rw [List.map_cons,ofPys,ofPy] at x
  cases x with
  | cons a b=>cases a;exact .cons i _ (Jv b)
theorem well_ints (x:Well P h (.ref l) (ofPy (.list (xs.map PyData.int)))):∃ vs,h.get? l=some { cls:=.type "list", data:=.seq vs.toArray }∧IntsAre vs xs:=by
 rw [ofPy] at x
 cases x with
 | list e a=>exact ⟨_,e,Jv a⟩
section
variable {p q:Program} {w:World} {loose:List Str} {mean:ExcName→Option Value} {mg mb:Str→Option Value} {c:ClsRec} {wh:Wh}
noncomputable def VI {s:Shared} {l:Addr} {vs:List Value} {xs:List Int} {P PB:Addr} (hl:s.heap.get? l=some { cls:=.type "list", data:=.seq vs.toArray }) (hv:IntsAre vs xs) (hz:xs.length≤63) (hP:s.heap.get? P=some (tabObj #[])∧s.heap.get? PB=some (tabObj #[])) (hne:P ≠ PB):Cf ⟨Af s.heap [P,PB],p,w⟩:=
 ⟨s,[l,P,PB],[.list (xs.map .int),.tab P,.tab PB],fun _ _ e=>(DH e).2,rfl,List.nodup_cons.mpr ⟨(fun m=>by
  rcases List.mem_cons.mp m with m | m
  ·rw [m,hP.1] at hl;cases hl
  ·rw [List.mem_singleton.mp m,hP.2] at hl;cases hl),List.nodup_cons.mpr ⟨(fun m=>hne (List.mem_singleton.mp m)),List.nodup_cons.mpr ⟨List.not_mem_nil,List.nodup_nil⟩⟩⟩,fun n a e=>match n,e with
  | 0,e=>Option.some.inj e▸BD List.mem_cons_self
  | 1,e=>Option.some.inj e▸BD (List.mem_cons_of_mem _ List.mem_cons_self),fun n o e=>match n,e with
  | 0,e=>⟨l,rfl,Option.some.inj e▸⟨vs.toArray,0,hl,FU hv,by rw [List.length_map];exact Nat.le_trans hz (by decide)⟩⟩
  | 1,e=>⟨P,rfl,Option.some.inj e▸⟨rfl,hP.1⟩⟩
  | 2,e=>⟨PB,rfl,Option.some.inj e▸⟨rfl,hP.2⟩⟩⟩
noncomputable def TabEx (σ:AD) (n:Nat) (P:Addr):Prop:=∃ o,σ[n]?=some o∧(o=.tab P∨∃ ln col m,o=.row P ln col m)
theorem TabEx.get {b:Bs} {c':Cf b} {n:Nat} {P:Addr} (x:TabEx c'.σ n P) (e:c'.φ[n]?=some P):∃ us,c'.s.heap.get? P=some (tabObj us):=by
 refine AF x fun o ho hrow=>?_
 refine AF (c'.sim.obj n o ho) fun a' ea ra=>?_
 cases e.symm.trans ea
 rcases hrow with rfl | ⟨ln,col,m,rfl⟩
 ·exact ⟨_,ra.2⟩
 ·refine Cp ra fun _ _ _ e=>?_;exact ⟨_,e⟩
theorem law_go {s₁:Shared} {P:List (Fn × Nat)} {extra:Nat} {cl:ClaimW} {cw:Str→Option Addr} {args:List WData} {a l:Addr} {vs:List Value} {xs:List Int} {i d:Nat} {name:Str}
  (T:Top q loose mean mg mb s₁.heap) (TE:TopE q loose mg s₁.heap) (S:SeenP wh mg s₁.heap) (ok:TextOk q loose c wh) (hP:Reads (Dg q c wh) (C0 q c) extra P) (hk:∀ (i:Nat) (r:Fn × Nat),P[i]?=some r→r.2 ≠ 0→∃ d:FRec,(C0 q c)[i]?=some d∧((r.2=1∧d.name=AX ++ "." ++ "names")∨r.2=2∧d.name="by_size"))
  (hi:(Dg q c wh).lookup name=some (.fn i)) (hdot:JT name=true) (hd:d≤100) (hmg:mg name=some (.ref a)) (hg:s₁.gens=#[])
  (hl:s₁.heap.get? l=some { cls:=.type "list", data:=.seq vs.toArray }) (hv:IntsAre vs xs) (hz:xs.length≤63)
  (hr:∀ cls,cl.raises args cls=false) (hpost:cl.post args (.bool true) args=true)
  (plain:callW (P.map (·.1)) d i [.ref 0] [.list (xs.map .int),.tab wh.tP,.tab wh.tB] (fun v σ=>v=.bool true∧TabEx σ 1 wh.tP∧TabEx σ 2 wh.tB) (fun _ _=>False)) :
  codeAny (model p w) callerA (.call (.ref a) ⟨[.ref l],[]⟩) (GoodWG cl cw mean args s₁) s₁:=by
 refine EF (TE c ok.mem) fun C N mN hC A=>?_
 cases (ok.name▸hC).symm.trans S.cls
 have lo:=Uz (p:=p) (w:=w) T S A ok hP hk
 have g:=lo.g d
 cases hmg.symm.trans (g.fn name i hi (D7 hdot))
 have R:RCall ((UU p q w c wh s₁.heap mg mb mN).K (P.map (·.1)) d) [] callerA:=⟨rfl,by show 1 + claimMargin + 3 * d < 903;unfold claimMargin;exact an1 .lt (.a (.a .n1 (.n 300)) (.m 3 .v0)) (.n 903) (.w 3 (.l .v0 (.n 100) .e)) rfl hd,by show 4 + 12 * d < 9009;exact an1 .lt (.a (.n 4) (.m 12 .v0)) (.n 9009) (.w 12 (.l .v0 (.n 100) .e)) rfl hd,rfl⟩
 refine codeAny_mono (Os lo d name i hi callerA [] (VI hl hv hz S.tabs S.ne) [.ref 0] [.ref l] _ _ R (fun _ m=>(nomatch m)) ⟨⟨l,rfl,rfl⟩,trivial⟩ plain) fun r s' y=>?_
 match r,y with
 | .ok (.ret v),y=>
  obtain ⟨c',V,st,r,rfl,x1,x2⟩:=(y:PV _ _ _ _)
  cases r
  have hus:∀ b ∈ [wh.tP,wh.tB],(∃ us,c'.s.heap.get? b=some (tabObj us))∧s₁.heap.get? b=some (tabObj #[])∧isCodeTable s₁.heap b:=fun b m=>by
   rcases List.mem_cons.mp m with rfl | m
   ·exact ⟨x1.get (Bp st.pre rfl),S.tab,(S.code.tab S.tab).isCodeTable⟩
   ·rw [List.mem_singleton.mp m];exact ⟨x2.get (Bp st.pre rfl),S.tabB,(S.codeB.tab S.tabB).isCodeTable⟩
  have kp:∀ b o,b ∉ [wh.tP,wh.tB]→s₁.heap.get? b=some o→c'.s.heap.get? b=some o:=fun b o hb e=>c'.sim.keep b o (CN hb e)
  refine ⟨.inl ⟨.bool true,.bool true,[],rfl,hr,.bool true,hpost,fun _=>⟨List.nodup_nil,fun _ h=>nomatch h⟩⟩,⟨fun b o e=>?_,fun b o e=>?_⟩,st.only.1,.of_eq (st.only.2.trans hg)⟩
  ·by_cases hb:b ∈ [wh.tP,wh.tB]
   ·obtain ⟨⟨us,hu⟩,ht,hc⟩:=hus b hb
    rw [ht] at e;cases e
    exact .inr (.inl ⟨hc,rfl,#[],us,rfl,by rw [hu];simp⟩)
   ·exact .inl (kp b o hb e)
  ·by_cases hb:b ∈ [wh.tP,wh.tB]
   ·obtain ⟨⟨us,hu⟩,ht,hc⟩:=hus b hb;exact ⟨_,hu⟩
   ·exact ⟨o,kp b o hb e⟩
 | .error e,y=>exact (PX.no (fun _ _ f=>f) (y:PX _ _ _ _)).elim
end
end Mine
namespace Mine
open PySem PySem.Calls PySem.W PyProof.Rows
noncomputable def T3 (p q:Program) (Xt:Shared→Bool) (N:Nat) (w:World) (os:OsState):=match (boot_heap w.params).isNs mainGlobals with
 | true=>(F7 p w 11 ((boot_heap w.params).nsMap mainGlobals "__annotations__") N ⟨Gw w.params,11,{},Array.mk [],boot_drawn,boot_toks,os⟩ (topStub p)).bind fun s₁=>
   match staticsOk (PySem.W.Fast.tw5923862056798008813 p.main.body) (boot_heap w.params) s₁.abs.heap && namesBound p s₁.abs.heap && gensDone s₁.abs && laidKept (boot_heap w.params) s₁.abs.heap with
   | true=>some (PySem.W.Fast.tw4187177175401517315 q [] (PySem.W.Fast.tw5923862056798008813 p.main.body) Xt true s₁.abs)
   | false=>none
 | false=>none
theorem Tm (e:opening p=plainProg p.main.scope.names) (hN:Nat.ble 600 N=true) (f:∀ s,fenceModules? p s=some s)
  (run:∀ w os,T3 p q Xt N w os=some (openGood q [])):LeftO p q [] Xt (fun _=>()) (fun _=>()) N:=fun w=>by
 obtain ⟨⟨h,gs,d,k,os⟩,e1,e2⟩:=Option.map_eq_some_iff.mp (boot_open e hN f w)
 obtain ⟨rfl,rfl,rfl,rfl⟩:h=boot_heap w.params∧gs=Array.mk []∧d=boot_drawn∧k=boot_toks:=by simpa using e2
 unfold openEnds
 rw [e1]
 have r:=run w os
 unfold T3 at r
 rw [← PySem.W.Fast.te5923862056798008813,← PySem.W.Fast.te4187177175401517315] at r
 show (topFrom treeTable p w N _).map _=_
 unfold topFrom
 cases h1:(boot_heap w.params).isNs mainGlobals with
 | false=>rw [h1] at r;cases r
 | true=>
  rw [h1] at r
  dsimp only at r ⊢
  obtain ⟨s₁,r1,r2⟩:=Option.bind_eq_some_iff.mp r
  have r1:=GV r1
  show ((topRun treeTable p w (boot_heap w.params).objs.size ((boot_heap w.params).nsMap mainGlobals (Str.ofString "__annotations__")) N ⟨boot_heap w.params,Array.mk [],boot_drawn,boot_toks,os⟩ (topStub p)).bind _).map _=_
  have r1':topRun treeTable p w (boot_heap w.params).objs.size ((boot_heap w.params).nsMap mainGlobals (Str.ofString "__annotations__")) N ⟨boot_heap w.params,Array.mk [],boot_drawn,boot_toks,os⟩ (topStub p)=some s₁.abs:=by
   rw [show (⟨boot_heap w.params,Array.mk [],boot_drawn,boot_toks,os⟩:Shared)=SharedT.abs ⟨Gw w.params,11,{},Array.mk [],boot_drawn,boot_toks,os⟩ from congrArg (fun h=>(⟨h,Array.mk [],boot_drawn,boot_toks,os⟩:Shared)) (J5 w.params)]
   exact r1
  rw [r1']
  cases h2:(staticsOk (importedModules p.main.body) (boot_heap w.params) s₁.abs.heap && namesBound p s₁.abs.heap && gensDone s₁.abs && laidKept (boot_heap w.params) s₁.abs.heap) with
  | false=>rw [h2] at r2;cases r2
  | true=>
   rw [h2] at r2
   show ((match (staticsOk (importedModules p.main.body) (boot_heap w.params) s₁.abs.heap && namesBound p s₁.abs.heap && gensDone s₁.abs && laidKept (boot_heap w.params) s₁.abs.heap) with | true=>some s₁.abs | false=>none):Option Shared).map _=_
   rw [h2]
   exact congrArg (fun x=>some (x,())) (Option.some.inj r2)
end Mine
namespace Mine
open PySem
set_option genSizeOf false
set_option genInjectivity false
noncomputable def def?:V→Bool
 | .undef=>false
 | _=>true
section
variable {C:Br} {ρ:List V} {σ:AD} {P:AO} {X:Ac} {i:Nat}
end
section
variable {σ:AD} {K:Bool→Prop} {x y:Int} {n:Nat}
theorem Kz {x y:Str} (hx:PyData.strOk x=true) (hy:PyData.strOk y=true) (q:K (x == y)):CmpK σ K .Eq (.str x) (.str y):=.eq (x:=.str x) (y:=.str y) rfl rfl hx hy q
theorem Oc {a b:V} {x:PyData} (ha:toD σ 6 a=some x) (hb:toD σ 6 b=some x) (hc:x.canLay0=true) (q:K true):CmpK σ K .Eq a b:=.eq ha hb hc hc (by rw [PySem.SeqAt.eqv_refl x hc];exact q)
theorem Cs {a b:V} {x:PyData} (ha:toD σ 6 a=some x) (hb:toD σ 6 b=some x) (hc:x.canLay0=true) (q:K false):CmpK σ K .NotEq a b:=.ne ha hb hc hc (by rw [PySem.SeqAt.eqv_refl x hc];exact q)
variable {Q:AO}
theorem Dk (h:-1000000000000000≤x) (h':x≤1000000000000000):CU x=true:=Bool.and_eq_true_iff.mpr ⟨decide_eq_true (Int.le_trans (by decide) h),decide_eq_true (Int.lt_of_le_of_lt h' (by decide))⟩
theorem Tg (h:CU (OfNat.ofNat k)=true) (q:Q (.int (x * OfNat.ofNat k)) σ):BinK σ Q .mul (.int x) (.int (OfNat.ofNat k)):=.mul (.inr h) q
theorem S0 (h:(-1000000000000000≤x∧x≤1000000000000000)∨(-1000000000000000≤y∧y≤1000000000000000)) (q:Q (.int (x * y)) σ):BinK σ Q .mul (.int x) (.int y):=.mul (h.imp (fun h=>Dk h.1 h.2) fun h=>Dk h.1 h.2) q
theorem Px (h:0 < y) (q:Q (.int (x % y)) σ):BinK σ Q .mod (.int x) (.int y):=.mod (Int.ne_of_gt h) (Int.fmod_eq_emod_of_nonneg x (Int.le_of_lt h)▸q)
theorem UV (h:decide ((0:Int) < OfNat.ofNat k)=true) (q:Q (.int (x % OfNat.ofNat k)) σ):BinK σ Q .mod (.int x) (.int (OfNat.ofNat k)):=Px (of_decide_eq_true h) q
theorem Sf (h:0 < y∧y≤1000000000000000) (q:Q (.int (x / y)) σ):BinK σ Q .floordiv (.int x) (.int y):=
 .div (Int.ne_of_gt h.1) (Dk (Int.le_trans (by decide) (Int.le_of_lt h.1)) h.2) (Int.fdiv_eq_ediv_of_nonneg x (Int.le_of_lt h.1)▸q)
theorem TO (h:(decide ((0:Int) < OfNat.ofNat k) && decide ((OfNat.ofNat k:Int)≤1000000000000000))=true) (q:Q (.int (x / OfNat.ofNat k)) σ):BinK σ Q .floordiv (.int x) (.int (OfNat.ofNat k)):=
 have h:=Bool.and_eq_true_iff.mp h
 Sf ⟨of_decide_eq_true h.1,of_decide_eq_true h.2⟩ q
theorem TK (q:Q (.int 1000000) σ):BinK σ Q .pow (.int 10) (.int 6):=BinK.pow (n:=6) (by decide) (by decide) q
theorem Lz (h:0≤k) (h':k.toNat < m):Idx k m k.toNat:=.inl ⟨(Int.toNat_of_nonneg h).symm,h'⟩
theorem Aq (e:σ[n]?=some (.list vs)) (h:0≤k) (h':vs[k.toNat]?=some v) (q:Q v σ):SubK σ Q (.ref n) (.int k):=.list e (Lz h (List.getElem?_eq_some_iff.mp h').1) h' q
theorem Uo (q:Q (.int (max x y)) σ):PrimK σ Q .max [.int x,.int y]:=.max (by
 by_cases h:y > x
 ·rw [if_pos h];rw [Int.max_eq_right (Int.le_of_lt h)] at q;exact q
 ·rw [if_neg h];rw [Int.max_eq_left (Int.not_lt.mp h)] at q;exact q)
noncomputable def WD (t:Ty):V→Option Bool
 | .bool b=>some (IL t (.bool b))
 | .int i=>some (IL t (.int i))
 | .str s=>some (IL t (.str s))
 | .tup vs=>some (IL t (.tup vs))
 | _=>none
theorem U7 (h:WD t v=some b) (q:Q (.bool b) σ):PrimK σ Q (.isinst t) [v]:=by
 cases v with
 | bool _=>exact .isB (Option.some.inj h▸q)
 | int _=>exact .isI (Option.some.inj h▸q)
 | str _=>exact .isS (Option.some.inj h▸q)
 | tup _=>exact .isT (Option.some.inj h▸q)
 | _=>exact Di h
theorem VG (e:σ[n]?=some (.list vs)) (q:Q (.bool true) σ):PrimK σ Q (.isinst .list) [.ref n]:=.isL e q
theorem OM (e:σ[n]?=some (.list vs)) (q:B):isList σ (.ref n)∧B:=⟨⟨n,vs,rfl,e⟩,q⟩
theorem CB (e:σ[n]?=some (.list vs)) (hn:n ≠ 0) (hz:vs.length < 1000000) (q:Q .none (σ.set n (.list (vs ++ [v])))):AppK σ Q v (.ref n):=.mk e (Nat.lt_trans hz (by decide)) hn q
variable {A B:Prop}
theorem JQ (x:b=true→A) (y:b=false→B):brW A B b:=by
 cases b with
 | true=>exact x rfl
 | false=>exact y rfl
theorem Am [Decidable c] (a:c→A) (b:¬ c→B):brW A B (decide c):=JQ (fun h=>a (of_decide_eq_true h)) fun h=>b (of_decide_eq_false h)
theorem OQ [Decidable c] (a:¬ c→A) (b:c→B):brW B A (decide c):=Am b a
theorem FO [Decidable c] (a:¬ c→A) (b:c→B):brW A B (!decide c):=by
 by_cases h:c
 ·rw [decide_eq_true h];exact b h
 ·rw [decide_eq_false h];exact a h
end
section
variable {σ:AD} {Q:AO} {K:Bool→Prop}
theorem Vn (h:def? v=true) (q:p):dfK p v:=by
 cases v with
 | undef=>cases h
 | _=>exact q
end
theorem HP (n:Nat) (I:List V→AD→Prop)
  (h:∀ R:List V→AD→Prop,(∀ ρ' σ',I ρ' σ'→R ρ' σ')→Bw (l.take n) C ρ σ (UP R Q))
  (rest:∀ ρ' σ',I ρ' σ'→Bw (l.drop n) C ρ' σ' Q):Bw l C ρ σ Q:=by
 have key:∀ (n:Nat) (l:List Sx) (ρ:List V) (σ:AD),Bw (l.take n) C ρ σ (UP (fun ρ' σ'=>Bw (l.drop n) C ρ' σ' Q) Q)=Bw l C ρ σ Q:=by
  intro n
  induction n with
  | zero=>intro l ρ σ;rfl
  | succ n ih=>
   intro l ρ σ
   cases l with
   | nil=>rfl
   | cons s ss=>
    refine congrArg (s C ρ σ) (funext fun fl=>funext fun ρ₁=>funext fun σ₁=>?_)
    cases fl <;> first | rfl | exact ih ss ρ₁ σ₁
 exact key n l ρ σ▸h _ rest
noncomputable def Ef (xs:List Int) (k:Int):Int:=xs.getD k.toNat 0
end Mine
namespace Mine
open PySem
section
variable {turn:V→List V→AD→BR→Prop} {same:AD→Prop} {Q:BR}
theorem Dq (I:Nat→List V→AD→Prop):∀ (items:List V) (k:Nat) (ρ:List V) (σ:AD),
  (∀ i v ρ σ (R:List V→AD→Prop),items[i]?=some v→I (k + i) ρ σ→(∀ ρ' σ',same σ'→I (k + i + 1) ρ' σ'→R ρ' σ')→turn v ρ σ (EN R Q)) →
  (∀ ρ σ,I (k + items.length) ρ σ→Q .next ρ σ)→I k ρ σ→FM turn same items ρ σ Q
 | [],k,ρ,σ,_,fin,h0=>fin ρ σ h0
 | v :: vs,k,ρ,σ,step,fin,h0=>step 0 v ρ σ _ rfl h0 fun ρ' σ' s i=>⟨s,Dq I vs (k + 1) ρ' σ' (fun j v ρ σ K hv hI h1=>by
   have e:k + 1 + j=k + (j + 1):=by rw [Nat.add_assoc,Nat.add_comm 1]
   rw [e] at hI h1
   exact step (j + 1) v ρ σ K hv hI h1) (fun ρ σ h=>fin ρ σ (by rw [List.length_cons,Nat.add_comm vs.length,← Nat.add_assoc];exact h)) i⟩
theorem FH:∀ (n:Nat) (a:Int) (i:Nat) (v:V),(Cj a n)[i]?=some v→v=.int (a + i)∧i < n
 | n + 1,a,0,v,h=>⟨by rw [← Option.some.inj h];exact congrArg V.int (Int.add_zero a).symm,Nat.succ_pos n⟩
 | n + 1,a,i + 1,v,h=>let ⟨h1,h2⟩:=FH n (a + 1) i v h;⟨h1.trans (congrArg V.int (by exact Int.le_antisymm (ai3 .le (.a (.a .v0 .n1) .v1) (.a .v0 .v2) (.p .v2 (.a .v1 .n1) .e) rfl (Int.natCast_add _ _)) (ai3 .le (.a .v0 .v1) (.a (.a .v0 .n1) .v2) (.q .v1 (.a .v2 .n1) .e) rfl (Int.natCast_add _ _)))),Nat.succ_lt_succ h2⟩
theorem Co:∀ (n:Nat) (a:Int),(Cj a n).length=n
 | 0,_=>rfl
 | n + 1,a=>congrArg (· + 1) (Co n _)
theorem J0:∀ (vs:List V) (a:Int) (i:Nat) (u:V),(Gg a vs)[i]?=some u→∃ v,vs[i]?=some v∧u=.tup [.int (a + i),v]
 | v :: vs,a,0,u,h=>⟨v,rfl,by rw [← Option.some.inj h,show a + ((0:Nat):Int)=a from Int.add_zero a]⟩
 | v :: vs,a,i + 1,u,h=>let ⟨w,h1,h2⟩:=J0 vs (a + 1) i u h;⟨w,h1,h2.trans (by rw [show a + 1 + (i:Int)=a + ((i + 1:Nat):Int) by exact Int.le_antisymm (ai3 .le (.a (.a .v0 .n1) .v1) (.a .v0 .v2) (.p .v2 (.a .v1 .n1) .e) rfl (Int.natCast_add _ _)) (ai3 .le (.a .v0 .v1) (.a (.a .v0 .n1) .v2) (.q .v1 (.a .v2 .n1) .e) rfl (Int.natCast_add _ _))])⟩
theorem Hn:∀ (vs:List V) (a:Int),(Gg a vs).length=vs.length
 | [],_=>rfl
 | _ :: vs,_=>congrArg (· + 1) (Hn vs _)
variable {ρ:List V} {σ:AD}
theorem Qq (hb:-1000000≤b):-(2 ^ 62)≤b:=Int.le_trans (by decide) hb
theorem E7 (I:Nat→List V→AD→Prop) (hb:-1000000≤b∧b≤1000000) (h0:I 0 ρ σ)
  (step:∀ (i:Nat) ρ σ (R:List V→AD→Prop),(i:Int) < b→I i ρ σ→(∀ ρ' σ',I (i + 1) ρ' σ'→R ρ' σ')→turn (.int i) ρ σ (EN R Q))
  (fin:∀ ρ σ,I b.toNat ρ σ→Q .next ρ σ):∃ items same,SrcK σ .range [.int b] items same∧FM turn same items ρ σ Q:=
 ⟨_,_,.range (Qq hb.1) hb.2,Dq I _ 0 ρ σ (fun i v ρ σ K hv hI h1=>by
  obtain ⟨rfl,hi⟩:=FH _ _ _ _ hv
  rw [Nat.zero_add] at hI h1
  rw [Int.zero_add]
  exact step i ρ σ K (Int.lt_toNat.mp hi) hI fun ρ' σ' h=>h1 ρ' σ' trivial h) (fun ρ σ h=>fin ρ σ (by rw [Co,Nat.zero_add] at h;exact h)) h0⟩
theorem BW (I:Nat→List V→AD→Prop) (e:σ[n]?=some (.list vs)) (h0:I 0 ρ σ)
  (step:∀ (i:Nat) v ρ σ (R:List V→AD→Prop),vs[i]?=some v→I i ρ σ→(∀ ρ' σ',σ'[n]?=some (.list vs)→I (i + 1) ρ' σ'→R ρ' σ')→turn v ρ σ (EN R Q))
  (fin:∀ ρ σ,I vs.length ρ σ→Q .next ρ σ):∃ items same,SrcK σ .plain [.ref n] items same∧FM turn same items ρ σ Q:=
 ⟨_,_,.list e,Dq I _ 0 ρ σ (fun i v ρ σ K hv hI h1=>by rw [Nat.zero_add] at hI h1;exact step i v ρ σ K hv hI h1) (fun ρ σ h=>fin ρ σ (by rw [Nat.zero_add] at h;exact h)) h0⟩
theorem S4 (I:Nat→List V→AD→Prop) (e:σ[n]?=some (.list vs)) (h0:I 0 ρ σ)
  (step:∀ (i:Nat) v ρ σ (R:List V→AD→Prop),vs[i]?=some v→I i ρ σ→(∀ ρ' σ',σ'[n]?=some (.list vs)→I (i + 1) ρ' σ'→R ρ' σ')→turn (.tup [.int i,v]) ρ σ (EN R Q))
  (fin:∀ ρ σ,I vs.length ρ σ→Q .next ρ σ):∃ items same,SrcK σ .enum [.ref n] items same∧FM turn same items ρ σ Q:=
 ⟨_,_,.enum e,Dq I _ 0 ρ σ (fun i v ρ σ K hv hI h1=>by
  refine AF (J0 _ _ _ _ hv) fun u hu ze1=>?_;subst ze1
  rw [Nat.zero_add] at hI h1
  rw [Int.zero_add]
  exact step i u ρ σ K hu hI h1) (fun ρ σ h=>fin ρ σ (by rw [Hn,Nat.zero_add] at h;exact h)) h0⟩
end
section
variable {turn:V→AD→(Option V→AD→Prop)→Prop} {same:AD→Prop} {Q:List V→AD→Prop}
theorem FD (I:Nat→List V→AD→Prop):∀ (items:List V) (k:Nat) (acc:List V) (σ:AD),
  (∀ i v acc σ (K:Option V→AD→Prop),items[i]?=some v→I (k + i) acc σ→(∀ r σ',same σ'→I (k + i + 1) (acc ++ r.toList) σ'→K r σ')→turn v σ K) →
  (∀ acc σ,I (k + items.length) acc σ→Q acc σ)→I k acc σ→Bi turn same items acc σ Q
 | [],k,acc,σ,_,fin,h0=>fin acc σ h0
 | v :: vs,k,acc,σ,step,fin,h0=>step 0 v acc σ _ rfl h0 fun r σ' s i=>⟨s,FD I vs (k + 1) _ σ' (fun j v acc σ K hv hI h1=>by
   have e:k + 1 + j=k + (j + 1):=by rw [Nat.add_assoc,Nat.add_comm 1]
   rw [e] at hI h1
   exact step (j + 1) v acc σ K hv hI h1) (fun acc σ h=>fin acc σ (by rw [List.length_cons,Nat.add_comm vs.length,← Nat.add_assoc];exact h)) i⟩
theorem EB {α:Type} {σ:AD} {g:α→V} (f:α→Option V) (hs:same σ):∀ (l:List α) (acc:List V),(∀ x ∈ l,∀ K:Option V→AD→Prop,K (f x) σ→turn (g x) σ K)→Q (acc ++ l.filterMap f) σ→Bi turn same (l.map g) acc σ Q
 | [],acc,_,q=>by rw [List.filterMap_nil,List.append_nil] at q;exact q
 | v :: vs,acc,h,q=>h v List.mem_cons_self _ ⟨hs,EB f hs vs _ (fun u hu=>h u (List.mem_cons_of_mem _ hu)) (by
  rw [List.append_assoc]
  cases hv:f v with
  | none=>rw [List.filterMap_cons_none hv] at q;exact q
  | some x=>rw [List.filterMap_cons_some hv] at q;exact q)⟩
variable {σ:AD}
theorem Ks {α:Type} {n:Nat} {l:List α} {g:α→V} (f:α→Option V) (e:σ[n]?=some (.list (l.map g))) (hz:l.length≤1000000) (h:∀ x ∈ l,∀ K:Option V→AD→Prop,K (f x) σ→turn (g x) σ K)
  (q:Q (l.filterMap f) σ):∃ items same,SrcK σ .plain [.ref n] items same∧items.length≤Ah∧Bi turn same items [] σ Q:=
 ⟨_,_,.list e,by rw [List.length_map];exact hz,EB f e l [] h q⟩
theorem HJ:∀ (n:Nat) (a:Nat),Cj a n=(List.range' a n).map fun k:Nat=>V.int k
 | 0,_=>rfl
 | n + 1,a=>congrArg (V.int a :: ·) (HJ n (a + 1))
theorem Ri (f:Nat→Option V) (hb:-1000000≤b∧b≤1000000) (h:∀ k:Nat,(k:Int) < b→∀ K:Option V→AD→Prop,K (f k) σ→turn (.int k) σ K)
  (q:Q ((List.range b.toNat).filterMap f) σ):∃ items same,SrcK σ .range [.int b] items same∧items.length≤Ah∧Bi turn same items [] σ Q:=
 ⟨_,_,.range (Qq hb.1) hb.2,by rw [Co];exact Int.toNat_le.mpr hb.2,by
  rw [show Cj 0 b.toNat=(List.range b.toNat).map fun k:Nat=>V.int k by rw [List.range_eq_range'];exact HJ _ 0]
  exact EB f trivial _ [] (fun k hk=>h k (Int.lt_toNat.mp (List.mem_range.mp hk))) q⟩
end
theorem AB {σ τ:AD} {n:Nat} {o:O} (h:σ[n]?=some o):(σ ++ τ)[n]?=some o:=by
 rw [List.getElem?_append_left (List.getElem?_eq_some_iff.mp h).1];exact h
theorem AN {σ σ':AD} (p:σ <+: σ') {n:Nat} {o:O} (h:σ[n]?=some o):σ'[n]?=some o:=let ⟨_,e⟩:=p;e▸AB h
theorem AH:σ <+: σ ++ τ:=List.prefix_append _ _
theorem AC:(σ ++ [o])[σ.length]?=some o:=List.getElem?_concat_length
theorem AI {σ:AD} {n m:Nat} {o x:O} (hn:n ≠ m) (h:σ[m]?=some o):(σ.set n x)[m]?=some o:=by
 rw [List.getElem?_set_ne hn];exact h
theorem Ai {σ:AD} {n:Nat} {o x:O} (h:σ[n]?=some o):(σ.set n x)[n]?=some x:=by
 rw [List.getElem?_set_self (List.getElem?_eq_some_iff.mp h).1]
theorem KB {α:Type} {f:V→Option PyData} {g:α→V} {dat:α→PyData}:∀ l:List α,(∀ x ∈ l,f (g x)=some (dat x))→Fw f (l.map g)=some (l.map dat)
 | [],_=>rfl
 | r :: rs,h=>by rw [List.map_cons,Fw,KB rs fun x hx=>h x (List.mem_cons_of_mem _ hx),h r List.mem_cons_self];rfl
theorem DM {α:Type} {σ:AD} {n m:Nat} {l:List α} {g:α→V} {dat:α→PyData} (e:σ[n]?=some (.list (l.map g))) (h:∀ x ∈ l,toD σ m (g x)=some (dat x)):toD σ (m + 1) (.ref n)=some (.list (l.map dat)):=by
 show O6 (toD σ m) σ[n]?=_
 rw [e]
 show Option.map _ (Fw (toD σ m) (l.map g))=_
 rw [KB l h];rfl
theorem DJ {α:Type} {dat:α→PyData}:∀ l:List α,(∀ x ∈ l,(dat x).canLay0=true)→PyData.canLayAll0 (l.map dat)=true
 | [],_=>rfl
 | r :: rs,h=>by rw [List.map_cons,PyData.canLayAll0,DJ rs fun x hx=>h x (List.mem_cons_of_mem _ hx),h r List.mem_cons_self];rfl
theorem E1 {α:Type} {l:List α} {dat:α→PyData} (h:∀ x ∈ l,(dat x).canLay0=true):(PyData.list (l.map dat)).canLay0=true:=by
 rw [PyData.canLay0];exact DJ l h
noncomputable def hab (b:Bool):V:=.str (if b then Str.ofString "low" else Str.ofString "left")
noncomputable def Tp (b:Bool):PyData:=.str (if b then Str.ofString "low" else Str.ofString "left")
theorem IA:PyData.strOk (Str.ofString "low")=true:=by decide +kernel
theorem ML:PyData.strOk (Str.ofString "left")=true:=by decide +kernel
theorem Oa:(Str.ofString "left" == Str.ofString "low")=false:=by decide +kernel
theorem GX:∀ {b:Bool},K b→CmpK σ K .Eq (hab b) (.str (Str.ofString "low"))
 | true,q=>Kz (x:=Str.ofString "low") IA IA (by rw [beq_self_eq_true];exact q)
 | false,q=>Kz (x:=Str.ofString "left") ML IA (by rw [Oa];exact q)
theorem MX:∀ {b:Bool},(Tp b).canLay0=true
 | true=>IA
 | false=>ML
end Mine
namespace Mine
noncomputable def BE (size b:Int) (r:Int × Int):Int:=if r.1 < b + size∧r.2 > b then r.2 else b
noncomputable def CS (size:Int) (rows:List (Int × Int)) (b:Int):Prop:=∀ r ∈ rows,¬ (r.1 < b + size∧r.2 > b)
theorem DB:CS size (done ++ [r]) c ↔ CS size done c∧¬ (r.1 < c + size∧r.2 > c):=
 ⟨fun h=>⟨fun x hx=>h x (List.mem_append_left _ hx),h r (List.mem_append_right _ List.mem_cons_self)⟩,fun h x hx=>(List.mem_append.mp hx).elim (h.1 x) fun hx=>List.mem_singleton.mp hx▸h.2⟩
theorem Sc (rest:List (Int × Int)):∀ (done:List (Int × Int)) (b:Int),(done ++ rest).Pairwise (fun x y=>x.1≤y.1)→CS size done b→(∀ c,0≤c→c < b→¬ CS size done c)→0≤b →
  CS size (done ++ rest) (rest.foldl (BE size) b)∧0≤rest.foldl (BE size) b∧(∀ c,0≤c→c < rest.foldl (BE size) b→¬ CS size (done ++ rest) c):=by
 induction rest with
 | nil=>intro done b _ h1 h2 h3;rw [List.append_nil];exact ⟨h1,h3,h2⟩
 | cons r rest ih=>
  intro done b hp h1 h2 h3
  have hle:∀ x ∈ done,x.1≤r.1:=fun x hx=>(List.pairwise_append.mp hp).2.2 x hx r List.mem_cons_self
  rw [List.append_cons] at hp ⊢
  by_cases hc:r.1 < b + size∧r.2 > b
  ·have:=ih (done ++ [r]) r.2 hp (DB.mpr ⟨fun x hx hn=>h1 x hx ⟨Int.lt_of_le_of_lt (hle x hx) hc.1,Int.lt_trans hc.2 hn.2⟩,fun hn=>Int.lt_irrefl _ hn.2⟩)
    (fun c hc0 hc1 hf=>(Int.lt_or_le c b).elim (fun hcb=>h2 c hc0 hcb (DB.mp hf).1) fun hcb=>(DB.mp hf).2 ⟨Int.lt_of_lt_of_le hc.1 (Int.add_le_add_right hcb size),hc1⟩) (Int.le_trans h3 (Int.le_of_lt hc.2))
   rw [List.foldl_cons,show BE size b r=r.2 from if_pos hc];exact this
  ·have:=ih (done ++ [r]) b hp (DB.mpr ⟨h1,hc⟩) (fun c hc0 hc1 hf=>h2 c hc0 hc1 (DB.mp hf).1) h3
   rw [List.foldl_cons,show BE size b r=b from if_neg hc];exact this
theorem TD (rest:List (Int × Int)):∀ b:Int,rest.foldl (BE size) b=b∨∃ r ∈ rest,rest.foldl (BE size) b=r.2:=by
 induction rest with
 | nil=>exact fun b=>.inl rfl
 | cons r rest ih=>
  intro b
  refine Or.elim (ih (BE size b r)) (fun h=>?_) fun h=>.inr (h.elim fun x hx=>⟨x,List.mem_cons_of_mem _ hx.1,hx.2⟩)
  by_cases hc:r.1 < b + size∧r.2 > b
  ·exact .inr ⟨r,List.mem_cons_self,h.trans (if_pos hc)⟩
  ·exact .inl (h.trans (if_neg hc))
structure IsGap (size room:Int) (rows:List (Int × Int)) (g:Option Int):Prop where
 some:∀ b,g=some b→0≤b∧b + size≤room∧CS size rows b∧(∀ c,0≤c→CS size rows c→b≤c)∧(b=0∨∃ r ∈ rows,b=r.2)
 none:g=none→∀ c,0≤c→c + size≤room→¬ CS size rows c
theorem Vk {size room:Int} {rows ts:List (Int × Int)} (hp:ts.Perm rows) (hs:ts.Pairwise (fun x y=>x.1≤y.1)) {g:Int} (hg:g=ts.foldl (BE size) 0) :
  IsGap size room rows (if g + size > room then none else some g):=by
 subst hg
 refine Bm (Sc (size:=size) ts [] 0 hs (fun _ h=>nomatch h) (fun c h h'=>absurd h' (Int.not_lt.mpr h)) (Int.le_refl 0)) fun h1 h2 h3=>?_
 have hf:∀ c,CS size ts c ↔ CS size rows c:=fun c=>⟨fun h x hx=>h x (hp.mem_iff.mpr hx),fun h x hx=>h x (hp.mem_iff.mp hx)⟩
 by_cases hg:ts.foldl (BE size) 0 + size > room
 ·rw [if_pos hg]
  exact ⟨nofun,fun _ c h h' hn=>h3 c h (Int.lt_of_add_lt_add_right (Int.lt_of_le_of_lt h' hg)) ((hf c).mpr hn)⟩
 ·rw [if_neg hg]
  refine ⟨fun b hb=>?_,nofun⟩
  rw [← Option.some.inj hb]
  exact ⟨h2,Int.not_lt.mp hg,(hf _).mp h1,fun c hc hfc=>Int.not_lt.mp fun hlt=>h3 c hc hlt ((hf c).mpr hfc),(TD ts 0).imp id fun h=>h.elim fun r h=>⟨r,hp.mem_iff.mp h.1,h.2⟩⟩
structure Bx where
 p:Int
 s:Int
 pl:Int
 sl:Int
noncomputable def Av (a b p s:Int) (o:Bx):Prop:=p + a≤o.p∨o.p + o.pl≤p∨s + b≤o.s∨o.s + o.sl≤s
structure Gd (O:List Bx) (P S a b p s:Int):Prop where
 p0:0≤p
 s0:0≤s
 p1:p + a≤P
 s1:s + b≤S
 clear:∀ o ∈ O,Av a b p s o
structure IsMin (G:Int→Int→Prop) (p s:Int):Prop where
 good:G p s
 least:∀ p' s',G p' s'→p < p'∨(p=p'∧s≤s')
noncomputable def Ci (G:Int→Int→Prop):Option (Int × Int)→Prop
 | none=>∀ p s,¬ G p s
 | some (p,s)=>IsMin G p s
theorem Ip (hx:Ci G x) (hy:Ci G y):x=y:=by
 cases x with
 | none=>
  cases y with
  | none=>rfl
  | some y=>exact absurd (IsMin.good hy) (hx y.1 y.2)
 | some x=>
  cases y with
  | none=>exact absurd (IsMin.good hx) (hy x.1 x.2)
  | some y=>
   have h:=F0 Int.lt_asymm Int.lt_irrefl (IsMin.least hx _ _ (IsMin.good hy)) (IsMin.least hy _ _ (IsMin.good hx))
   exact congrArg some (Prod.ext h.1 (Int.le_antisymm h.2.1 h.2.2))
theorem Gf {O:List Bx} (g:Gd O P S a b p s):∃ e,e≤p∧(e=0∨(0 < e∧∃ o ∈ O,e=o.p + o.pl))∧Gd O P S a b e s:=by
 have key:∀ (L:List Bx),∃ e,0≤e∧e≤p∧(e=0∨(0 < e∧∃ o ∈ L,e=o.p + o.pl))∧∀ o ∈ L,o.p + o.pl≤p→o.p + o.pl≤e:=by
  intro L
  induction L with
  | nil=>exact ⟨0,Int.le_refl 0,g.p0,.inl rfl,fun _ h=>nomatch h⟩
  | cons x L ih=>
   refine BQ ih fun e h0 h1 h2 h3=>?_
   by_cases hx:x.p + x.pl≤p∧e < x.p + x.pl
   ·exact ⟨x.p + x.pl,Int.le_trans h0 (Int.le_of_lt hx.2),hx.1,.inr ⟨Int.lt_of_le_of_lt h0 hx.2,x,List.mem_cons_self,rfl⟩,List.forall_mem_cons.mpr ⟨fun _=>Int.le_refl _,fun o ho hp=>Int.le_trans (h3 o ho hp) (Int.le_of_lt hx.2)⟩⟩
   ·exact ⟨e,h0,h1,h2.imp id fun h=>⟨h.1,h.2.elim fun o h=>⟨o,List.mem_cons_of_mem _ h.1,h.2⟩⟩,List.forall_mem_cons.mpr ⟨fun hp=>Int.not_lt.mp fun h=>hx ⟨hp,h⟩,h3⟩⟩
 refine BQ (key O) fun e h0 h1 h2 h3=>?_
 have a1:=Int.add_le_add_right h1 a
 exact ⟨e,h1,h2,h0,g.s0,Int.le_trans a1 g.p1,g.s1,fun o ho=>(g.clear o ho).imp (Int.le_trans a1) fun h=>h.imp (h3 o ho) id⟩
theorem HM:Av a b p s o ↔ (o.p < p + a→p < o.p + o.pl→¬ (o.s < s + b∧o.s + o.sl > s)):=
 ⟨fun h h1 h2 h3=>GF h (fun h=>Int.not_lt.mpr h h1) (fun h=>Int.not_lt.mpr h h2) (fun h=>Int.not_lt.mpr h h3.1) (fun h=>Int.not_lt.mpr h h3.2),
  fun h=>(Int.lt_or_le o.p (p + a)).elim (fun h1=>(Int.lt_or_le p (o.p + o.pl)).elim (fun h2=>(Int.lt_or_le o.s (s + b)).elim (fun h3=>.inr (.inr (.inr (Int.not_lt.mp fun h4=>h h1 h2 ⟨h3,h4⟩)))) fun h=>.inr (.inr (.inl h))) fun h=>.inr (.inl h)) .inl⟩
noncomputable def Kg (a p:Int) (O:List Bx):List Bx:=O.filter fun o=>decide (o.p < p + a) && decide (p < o.p + o.pl)
noncomputable def CJ (O:List Bx):List (Int × Int):=O.map fun o=>(o.s,o.s + o.sl)
theorem FJ {O:List Bx}:CS b (CJ (Kg a p O)) s ↔ ∀ o ∈ O,Av a b p s o:=
 ⟨fun h o ho=>HM.mpr fun h1 h2=>h (o.s,o.s + o.sl) (List.mem_map.mpr ⟨o,List.mem_filter.mpr ⟨ho,Bool.and_eq_true_iff.mpr ⟨decide_eq_true h1,decide_eq_true h2⟩⟩,rfl⟩),
  fun h r hr=>AF (List.mem_map.mp hr) fun o ho e=>by
   have hb:=Bool.and_eq_true_iff.mp (List.mem_filter.mp ho).2
   rw [← e];exact HM.mp (h o (List.mem_filter.mp ho).1) (of_decide_eq_true hb.1) (of_decide_eq_true hb.2)⟩
inductive Search (O:List Bx) (P S a b:Int):List Int→Option (Int × Int)→Prop
 | nil:Search O P S a b [] none
 | hit {p s:Int} {ms:List Int}:IsGap b S (CJ (Kg a p O)) (some s)→p + a≤P→Search O P S a b (p :: ms) (some (p,s))
 | miss {p:Int} {ms:List Int} {g:Option Int} {r:Option (Int × Int)}:IsGap b S (CJ (Kg a p O)) g→(g=none∨¬ p + a≤P)→Search O P S a b ms r→Search O P S a b (p :: ms) r
noncomputable def Us (O:List Bx) (P S a b:Int) (ms:List Int):Option (Int × Int)→Prop
 | none=>∀ e ∈ ms,∀ s',¬ Gd O P S a b e s'
 | some (p,s)=>p ∈ ms∧Gd O P S a b p s∧(s=0∨∃ o ∈ O,s=o.s + o.sl)∧∀ e ∈ ms,∀ s',Gd O P S a b e s'→p < e∨(p=e∧s≤s')
theorem Ht {O:List Bx} (h:Search O P S a b ms r) (hs:ms.Pairwise (· < ·)) (h0:∀ m ∈ ms,0≤m):Us O P S a b ms r:=by
 induction h with
 | nil=>exact fun _ h=>nomatch h
 | @hit p s ms g hp=>
  refine F1 (g.some s rfl) fun g0 g1 g2 g3 g4=>?_
  exact ⟨List.mem_cons_self,⟨h0 p List.mem_cons_self,g0,hp,g1,FJ.mp g2⟩,g4.imp id fun h=>AF h fun r hr h=>AF (List.mem_map.mp hr) fun o ho e=>⟨o,(List.mem_filter.mp ho).1,h.trans (congrArg Prod.snd e).symm⟩,
   List.forall_mem_cons.mpr ⟨fun s' gd=>.inr ⟨rfl,g3 s' gd.s0 (FJ.mpr gd.clear)⟩,fun e he s' _=>.inl ((List.pairwise_cons.mp hs).1 e he)⟩⟩
 | @miss p ms g r hg hn _ ih=>
  have hno:∀ s',¬ Gd O P S a b p s':=fun s' gd=>hn.elim (fun hn=>hg.none hn s' gd.s0 gd.s1 (FJ.mpr gd.clear)) fun hn=>hn gd.p1
  have ih:=ih (List.pairwise_cons.mp hs).2 fun m hm=>h0 m (List.mem_cons_of_mem _ hm)
  cases r with
  | none=>exact List.forall_mem_cons.mpr ⟨hno,ih⟩
  | some x=>exact ⟨List.mem_cons_of_mem _ ih.1,ih.2.1,ih.2.2.1,List.forall_mem_cons.mpr ⟨fun s' gd=>absurd gd (hno s'),ih.2.2.2⟩⟩
noncomputable def C7 (O:List Bx) (a P:Int):List Int:=0 :: (O.map fun o=>o.p + o.pl).filter fun e=>decide (0 < e) && decide (e≤P - a)
noncomputable def D8 (O:List Bx):Option (Int × Int)→Prop
 | none=>True
 | some (p,s)=>(p=0∨∃ o ∈ O,p=o.p + o.pl)∧(s=0∨∃ o ∈ O,s=o.s + o.sl)
theorem CX {O:List Bx} (h:Search O P S a b ms r) (hs:ms.Pairwise (· < ·)) (hm:∀ x,x ∈ ms ↔ x ∈ C7 O a P):Ci (Gd O P S a b) r∧D8 O r:=by
 have hmem:∀ x,x ∈ C7 O a P ↔ x=0∨(0 < x∧x≤P - a∧∃ o ∈ O,x=o.p + o.pl):=by
  exact fun x=>List.mem_cons.trans (or_congr Iff.rfl ⟨fun h=>by
   have a:=List.mem_filter.mp h
   have b:=Bool.and_eq_true_iff.mp a.2
   exact (List.mem_map.mp a.1).elim fun o ho=>⟨of_decide_eq_true b.1,of_decide_eq_true b.2,o,ho.1,ho.2.symm⟩,fun h=>
   List.mem_filter.mpr ⟨List.mem_map.mpr (h.2.2.elim fun o ho=>⟨o,ho.1,ho.2.symm⟩),Bool.and_eq_true_iff.mpr ⟨decide_eq_true h.1,decide_eq_true h.2.1⟩⟩⟩)
 have h0:∀ m ∈ ms,0≤m:=fun m hm'=>((hmem m).mp ((hm m).mp hm')).elim (fun h=>Int.le_of_eq h.symm) fun h=>Int.le_of_lt h.1
 have h1:=Ht h hs h0
 have hd:∀ p s,Gd O P S a b p s→∃ e ∈ ms,e≤p∧Gd O P S a b e s:=fun p s g=>AZ (Gf g) fun e e1 e2 e3=>
  ⟨e,(hm e).mpr ((hmem e).mpr (e2.imp id fun h=>⟨h.1,Int.le_sub_right_of_add_le e3.p1,h.2⟩)),e1,e3⟩
 cases r with
 | none=>exact ⟨fun p s g=>AZ (hd p s g) fun e he _ ge=>h1 e he s ge,trivial⟩
 | some r=>
  refine ⟨⟨h1.2.1,fun p' s' g=>AZ (hd p' s' g) fun e he hle ge=>?_⟩,((hmem _).mp ((hm _).mp h1.1)).imp id fun h=>h.2.2,h1.2.2.1⟩
  have:=h1.2.2.2 e he s' ge
  exact (Int.lt_or_eq_of_le hle).elim (fun h=>.inl (this.elim (fun z=>Int.lt_trans z h) fun z=>z.1.symm▸h)) fun h=>h▸this
noncomputable def Bx.by (o:Bx) (m n:Int):Bx:=⟨o.p * m,o.s * n,o.pl * m,o.sl * n⟩
theorem Cr {x y m:Int} (hm:0 < m):x * m≤y * m ↔ x≤y:=⟨fun h=>Int.le_of_mul_le_mul_right h hm,fun h=>Int.mul_le_mul_of_nonneg_right h (Int.le_of_lt hm)⟩
theorem KL {a b p s m n:Int} (hm:0 < m) (hn:0 < n):Av (a * m) (b * n) (p * m) (s * n) (o.by m n) ↔ Av a b p s o:=by
 unfold Av Bx.by
 dsimp only
 rw [← Int.add_mul,← Int.add_mul,← Int.add_mul,← Int.add_mul,Cr hm,Cr hm,Cr hn,Cr hn]
theorem Pf {O:List Bx} {P S a b p s m n:Int} (hm:0 < m) (hn:0 < n):Gd (O.map (·.by m n)) (P * m) (S * n) (a * m) (b * n) (p * m) (s * n) ↔ Gd O P S a b p s:=by
 have z:∀ {x k:Int},0 < k→(0≤x * k ↔ 0≤x):=fun {x k} hk=>by have:=Cr (x:=0) (y:=x) hk;rwa [Int.zero_mul] at this
 constructor
 ·intro g
  refine ⟨(z hm).mp g.p0,(z hn).mp g.s0,(Cr hm).mp (by rw [Int.add_mul];exact g.p1),(Cr hn).mp (by rw [Int.add_mul];exact g.s1),fun o ho=>(KL hm hn).mp (g.clear _ (List.mem_map.mpr ⟨o,ho,rfl⟩))⟩
 ·intro g
  refine ⟨(z hm).mpr g.p0,(z hn).mpr g.s0,by rw [← Int.add_mul];exact (Cr hm).mpr g.p1,by rw [← Int.add_mul];exact (Cr hn).mpr g.s1,fun o ho=>?_⟩
  refine AF (List.mem_map.mp ho) fun o ho' ze1=>?_;subst ze1
  exact (KL hm hn).mpr (g.clear o ho')
noncomputable def byO (m n:Int):Option (Int × Int)→Option (Int × Int)
 | none=>none
 | some (p,s)=>some (p * m,s * n)
theorem Qn {O:List Bx} {m n p:Int} {f:Bx→Int} {k:Int} (hf:∀ o:Bx,f (o.by m n)=f o * k) (h:p=0∨∃ o ∈ O.map (·.by m n),p=f o):∃ p',p=p' * k:=
 h.elim (fun h=>⟨0,h.trans (Int.zero_mul _).symm⟩) fun h=>AF h fun o ho h=>AF (List.mem_map.mp ho) fun o' _ e=>⟨f o',h.trans (e▸hf o')⟩
theorem JV {O:List Bx} {P S a b m n:Int} (hm:0 < m) (hn:0 < n) (h:Ci (Gd (O.map (·.by m n)) (P * m) (S * n) (a * m) (b * n)) r) (he:D8 (O.map (·.by m n)) r) (hd:Ci (Gd O P S a b) d):r=byO m n d:=by
 have key:∃ r',r=byO m n r':=by
  cases r with
  | none=>exact ⟨none,rfl⟩
  | some r=>exact (Qn (f:=fun o=>o.p + o.pl) (fun o=>(Int.add_mul _ _ _).symm) he.1).elim fun p hp=>(Qn (f:=fun o=>o.s + o.sl) (fun o=>(Int.add_mul _ _ _).symm) he.2).elim fun s hs=>⟨some (p,s),congrArg some (Prod.ext hp hs)⟩
 refine AU key fun r' ze1=>?_;subst ze1
 refine congrArg (byO m n) (Ip ?_ hd)
 cases r' with
 | none=>exact fun p s g=>h _ _ ((Pf hm hn).mpr g)
 | some r=>exact ⟨(Pf hm hn).mp (IsMin.good h),fun p' s' g=>(IsMin.least h _ _ ((Pf hm hn).mpr g)).imp (fun h=>Int.lt_of_mul_lt_mul_right h (Int.le_of_lt hm)) fun h=>⟨Int.eq_of_mul_eq_mul_right (Int.ne_of_gt hm) h.1,(Cr hn).mp h.2⟩⟩
end Mine
namespace Mine
noncomputable def Du (x y:Int × Int):Prop:=x.1 < y.1∨(x.1=y.1∧x.2≤y.2)
theorem NO (h:¬ Du x y):Du y x:=by unfold Du at *;exact Classical.or_iff_not_imp_left.mpr fun z0=>⟨Int.le_antisymm (ai2 .le .v0 .v1 (.o .v1 .v0 .e) rfl (not_or.mp h).1) (ai2 .le .v0 .v1 (.o .v1 .v0 .e) rfl z0),Or.elim (Classical.not_and_iff_not_or_not.mp (not_or.mp h).2) (fun z1=>Or.elim (Int.lt_or_gt_of_ne z1) (fun z2=>(aj2 (.t .v0 .v1 (.o .v0 .v1 .e)) rfl z2 (not_or.mp h).1).elim) (fun z2=>(aj2 (.t .v0 .v1 (.o .v0 .v1 .e)) rfl z2 z0).elim)) (fun z1=>ai2 .le .v0 .v1 (.m .v1 .v0 .e) rfl z1)⟩
noncomputable def Bn (G:Int→Int→Prop) (L:List (Int × Int)) (d:Option (Int × Int)):Prop:=Ci (fun p s=>G p s∧(p,s) ∈ L) d
theorem JP:Bn G [] none:=fun _ _ h=>by cases h.2
theorem JC (h:Bn G L none) (hy:G y.1 y.2):Bn G (L ++ [y]) (some y):=by
 refine ⟨⟨hy,by simp⟩,fun p s g=>?_⟩
 refine Or.elim (List.mem_append.mp g.2) (fun m=>?_) (fun m=>?_)
 ·exact absurd ⟨g.1,m⟩ (h p s)
 ·have:=List.mem_singleton.mp m;subst this;exact .inr ⟨rfl,Int.le_refl _⟩
theorem I2 (h:Bn G L d) (hy:¬ G y.1 y.2):Bn G (L ++ [y]) d:=by
 have e:∀ p s,(G p s∧(p,s) ∈ L ++ [y])→G p s∧(p,s) ∈ L:=fun p s g=>by
  refine Or.elim (List.mem_append.mp g.2) (fun m=>?_) (fun m=>?_)
  ·exact ⟨g.1,m⟩
  ·have:=List.mem_singleton.mp m;subst this;exact absurd g.1 hy
 match d,h with
 | none,h=>exact fun p s g=>h p s (e p s g)
 | some (p,s),h=>exact ⟨⟨h.good.1,by simp [h.good.2]⟩,fun p' s' g=>h.least p' s' (e p' s' g)⟩
theorem IG (h:Bn G L (some x)) (hy:Du x y):Bn G (L ++ [y]) (some x):=by
 refine ⟨⟨h.good.1,by simp [h.good.2]⟩,fun p s g=>?_⟩
 refine Or.elim (List.mem_append.mp g.2) (fun m=>?_) (fun m=>?_)
 ·exact h.least p s ⟨g.1,m⟩
 ·have:=List.mem_singleton.mp m;subst this;exact hy
theorem IO (h:Bn G L (some x)) (hg:G y.1 y.2) (hy:Du y x):Bn G (L ++ [y]) (some y):=by
 refine ⟨⟨hg,by simp⟩,fun p s g=>?_⟩
 refine Or.elim (List.mem_append.mp g.2) (fun m=>?_) (fun m=>?_)
 ·have:=h.least p s ⟨g.1,m⟩
  unfold Du at hy;exact Classical.or_iff_not_imp_left.mpr fun z0=>⟨Or.elim this (fun z1=>Or.elim hy (fun z2=>Int.le_antisymm (ai3 .le .v0 .v1 (.t .v0 .v2 (.t .v2 .v1 .e)) rfl z2 z1) (ai2 .le .v0 .v1 (.o .v1 .v0 .e) rfl z0)) (fun z2=>Int.le_antisymm (ai3 .le .v0 .v1 (.q .v0 .v2 (.t .v2 .v1 .e)) rfl z2.1 z1) (ai2 .le .v0 .v1 (.o .v1 .v0 .e) rfl z0))) (fun z1=>Or.elim hy (fun z2=>Int.le_antisymm (ai3 .le .v0 .v1 (.t .v0 .v2 (.q .v2 .v1 .e)) rfl z2 z1.1) (ai2 .le .v0 .v1 (.o .v1 .v0 .e) rfl z0)) (fun z2=>Int.le_antisymm (ai3 .le .v0 .v1 (.q .v0 .v2 (.q .v2 .v1 .e)) rfl z2.1 z1.1) (ai2 .le .v0 .v1 (.o .v1 .v0 .e) rfl z0))),Or.elim this (fun z1=>Or.elim hy (fun z2=>(aj3 (.t .v0 .v1 (.o .v0 .v2 (.t .v1 .v2 .e))) rfl z2 z0 z1).elim) (fun z2=>(aj3 (.q .v0 .v1 (.o .v0 .v2 (.t .v1 .v2 .e))) rfl z2.1 z0 z1).elim)) (fun z1=>Or.elim hy (fun z2=>(aj3 (.t .v0 .v1 (.o .v0 .v2 (.q .v1 .v2 .e))) rfl z2 z0 z1.1).elim) (fun z2=>ai3 .le .v0 .v1 (.l .v0 .v2 (.l .v2 .v1 .e)) rfl z2.2 z1.2))⟩
 ·have:=List.mem_singleton.mp m;subst this;exact .inr ⟨rfl,Int.le_refl _⟩
noncomputable def D6 (S P:Int):List (Int × Int):=(List.range (S * P).toNat).map fun (k:Nat)=>((k:Int) / S,(k:Int) % S)
theorem I8 (hS:0 < S):(D6 S P).Pairwise Du:=by
 refine List.pairwise_map.mpr (List.Pairwise.imp ?_ List.pairwise_lt_range)
 intro a b h
 have h1:(a:Int) / S≤(b:Int) / S:=Int.ediv_le_ediv hS (by exact ai2 .le .v0 .v1 (.t .v0 .v1 .e) rfl (Int.ofNat_lt.mpr h))
 by_cases e:(a:Int) / S=(b:Int) / S
 ·refine .inr ⟨e,?_⟩
  have ha:=Int.mul_ediv_add_emod (a:Int) S
  have hb:=Int.mul_ediv_add_emod (b:Int) S
  rw [e] at ha
  show (a:Int) % S≤(b:Int) % S
  exact ai5 .le .v0 .v1 (.q (.a .v2 .v0) .v3 (.p (.a .v2 .v1) .v4 (.t .v3 .v4 .e))) rfl ha hb (Int.ofNat_lt.mpr h)
 ·exact .inl (by show (a:Int) / S < (b:Int) / S;exact Or.elim (Int.lt_or_gt_of_ne e) (fun z0=>ai2 .lt .v0 .v1 (.t .v0 .v1 .e) rfl z0) (fun z0=>ai2 .lt .v0 .v1 (.w 2 (.l .v0 .v1 (.t .v1 .v0 .e))) rfl h1 z0))
theorem HX (h0:0≤p) (h1:p < P) (h2:0≤s) (h3:s < S):(p,s) ∈ D6 S P:=by
 have hn:0≤p * S:=Int.mul_nonneg h0 (by exact ai2 .le .n0 .v0 (.t .v1 .v0 (.l .n0 .v1 .e)) rfl h3 h2)
 have hle:(p + 1) * S≤P * S:=Int.mul_le_mul_of_nonneg_right (by exact ai2 .le (.a .v0 .n1) .v1 (.t .v0 .v1 .e) rfl h1) (by exact ai2 .le .n0 .v0 (.t .v1 .v0 (.l .n0 .v1 .e)) rfl h3 h2)
 rw [Int.add_mul,Int.mul_comm P S] at hle
 have hq:p * S + s < S * P:=Int.lt_of_lt_of_le (Int.add_lt_add_left (by rw [Int.one_mul];exact h3) _) hle
 have hp:=Int.lt_of_le_of_lt (Int.add_nonneg hn h2) hq
 refine List.mem_map.mpr ⟨(p * S + s).toNat,List.mem_range.mpr ((Int.toNat_lt_toNat hp).mpr hq),?_⟩
 have e:(((p * S + s).toNat:Nat):Int)=s + p * S:=by exact Int.le_antisymm (ai3 .le .v0 (.a .v1 .v2) (.q .v0 (.a .v2 .v1) .e) rfl (Int.toNat_of_nonneg (ai2 .le .n0 (.a .v0 .v1) (.l .n0 .v1 (.l .n0 .v0 .e)) rfl h2 hn))) (ai3 .le (.a .v0 .v1) .v2 (.p .v2 (.a .v1 .v0) .e) rfl (Int.toNat_of_nonneg (ai2 .le .n0 (.a .v0 .v1) (.l .n0 .v1 (.l .n0 .v0 .e)) rfl h2 hn)))
 rw [e,Int.add_mul_ediv_right _ _ (by exact fun z0=>aj2 (.q .v0 .n0 (.t .v1 .v0 (.l .n0 .v1 .e))) rfl z0 h3 h2),Int.add_mul_emod_self_right,Int.ediv_eq_zero_of_lt h2 h3,Int.emod_eq_of_lt h2 h3,Int.zero_add]
theorem KC {O:List Bx} (ha:0 < a) (hb:0 < b):∃ d,Ci (Gd O P S a b) d:=by
 have hdec:∀ p s,Gd O P S a b p s∨¬ Gd O P S a b p s:=fun _ _=>Classical.em _
 have key:∀ L:List (Int × Int),∃ d,Bn (Gd O P S a b) L d:=by
  intro L
  have:∀ (L' L:List (Int × Int)),(∃ d,Bn (Gd O P S a b) L d)→∃ d,Bn (Gd O P S a b) (L ++ L') d:=by
   intro L'
   induction L' with
   | nil=>intro L h;simpa using h
   | cons y L' ih=>
    intro L ⟨d,h⟩
    rw [show L ++ y :: L'=(L ++ [y]) ++ L' by simp]
    refine ih _ ?_
    refine Or.elim (hdec y.1 y.2) (fun hy=>?_) (fun hy=>?_)
    ·match d,h with
     | none,h=>exact ⟨_,JC h hy⟩
     | some x,h=>
      by_cases hx:Du x y
      ·exact ⟨_,IG h hx⟩
      ·exact ⟨_,IO h hy (NO hx)⟩
    ·exact ⟨_,I2 h hy⟩
  simpa using this L [] ⟨none,JP⟩
 refine AU (key (D6 S P)) fun d h=>?_
 refine ⟨d,?_⟩
 have hm:∀ p s,Gd O P S a b p s→(p,s) ∈ D6 S P:=fun p s g=>HX g.p0 (by have:=g.p1;exact ai3 .lt .v0 .v1 (.l (.a .v0 .v2) .v1 (.t .n0 .v2 .e)) rfl this ha) g.s0 (by have:=g.s1;exact ai3 .lt .v0 .v1 (.l (.a .v0 .v2) .v1 (.t .n0 .v2 .e)) rfl this hb)
 match d,h with
 | none,h=>exact fun p s g=>h p s ⟨g,hm p s g⟩
 | some (p,s),h=>exact ⟨h.good.1,fun p' s' g=>h.least p' s' ⟨g,hm p' s' g⟩⟩
end Mine
namespace Mine
open PySem
noncomputable def PR:Option Int→V
 | none=>.none
 | some b=>.int b
noncomputable def Cu (r:Int × Int):V:=.tup [.int r.1,.int r.2]
noncomputable def Dv:Option (Int × Int)→V
 | none=>.none
 | some (p,s)=>.tup [.int p,.int s]
noncomputable def Sg:Option (Int × Int)→V
 | none=>.none
 | some (p,s)=>.tup [.int s,.int p]
structure Ot where
 l:Int
 u:Int
 w:Int
 h:Int
noncomputable def Ot.v (o:Ot):V:=.tup [.int o.l,.int o.u,.int o.w,.int o.h]
noncomputable def Ot.low (o:Ot):Bx:=⟨o.u,o.l,o.h,o.w⟩
noncomputable def Ot.lef (o:Ot):Bx:=⟨o.l,o.u,o.w,o.h⟩
noncomputable def Dn:Option (Int × Int)→Option (Int × Int)
 | none=>none
 | some (p,s)=>some (s,p)
theorem Fs:∀ r,Dn (Dn r)=r
 | none=>rfl
 | some _=>rfl
theorem PT:∀ {r},Sg r=Dv (Dn r)
 | none=>rfl
 | some _=>rfl
noncomputable def FI (os:List Ot) (W H w h:Int):Bool→Option (Int × Int)→Prop
 | true,r=>Ci (Gd (os.map Ot.low) H W h w) r∧D8 (os.map Ot.low) r
 | false,r=>Ci (Gd (os.map Ot.lef) W H w h) (Dn r)∧D8 (os.map Ot.lef) (Dn r)
theorem List.mem_map_get {α β:Type} {f:α→β} {l:List α} {i:Nat} {y:β} (h:(l.map f)[i]?=some y):∃ x,l[i]?=some x∧y=f x:=by
 rw [List.getElem?_map] at h
 refine AF (Option.map_eq_some_iff.mp h) fun x hx e=>?_
 exact ⟨x,hx,e.symm⟩
theorem C1 {α:Type} {l:List α} {i:Nat} {x:α} (h:l[i]?=some x):l.drop i=x :: l.drop (i + 1):=by
 refine AU (List.getElem?_eq_some_iff.mp h) fun hi ze1=>?_;subst ze1
 exact List.drop_eq_getElem_cons hi
theorem CY {α β:Type} {f:α→Bool} {g:α→β}:∀ l:List α,l.filterMap (fun x=>if f x=true then some (g x) else none)=(l.filter f).map g
 | []=>rfl
 | x :: l=>by
  cases h:f x with
  | true=>rw [List.filter_cons_of_pos h,List.filterMap_cons_some (by rw [h];rfl),CY l];rfl
  | false=>rw [List.filter_cons_of_neg (by rw [h];exact Bool.false_ne_true),List.filterMap_cons_none (by rw [h];rfl),CY l]
theorem B0 {α β:Type} {f:α→β}:∀ l:List α,l.filterMap (fun x=>some (f x))=l.map f
 | []=>rfl
 | x :: l=>congrArg (f x :: ·) (B0 l)
section
variable {turn:V→AD→(Option V→AD→Prop)→Prop} {Q:List V→AD→Prop} {σ:AD}
theorem EO {α β:Type} {n:Nat} {l:List α} {g:α→V} (f:α→β) (k:β→V) (e:σ[n]?=some (.list (l.map g))) (hz:l.length≤1000000) (h:∀ x ∈ l,∀ K:Option V→AD→Prop,K (some (k (f x))) σ→turn (g x) σ K)
  (q:Q ((l.map f).map k) σ):∃ items same,SrcK σ .plain [.ref n] items same∧items.length≤Ah∧Bi turn same items [] σ Q:=
 Ks (fun x=>some (k (f x))) e hz h (by rw [B0];rw [List.map_map] at q;exact q)
theorem Gz {α:Type} {n:Nat} {l:List α} {g:α→V} (p:α→Bool) (e:σ[n]?=some (.list (l.map g))) (hz:l.length≤1000000) (h:∀ x ∈ l,∀ K:Option V→AD→Prop,(p x=true→K (some (g x)) σ)→(p x=false→K none σ)→turn (g x) σ K)
  (q:Q ((l.filter p).map g) σ):∃ items same,SrcK σ .plain [.ref n] items same∧items.length≤Ah∧Bi turn same items [] σ Q:=
 Ks (fun x=>if p x=true then some (g x) else none) e hz (fun x hx K hK=>h x hx K (fun e=>by rw [if_pos e] at hK;exact hK) fun e=>by rw [if_neg (Bool.eq_false_iff.mp e)] at hK;exact hK) (by rw [CY];exact q)
end
theorem KX {turn:V→AD→(Option V→AD→Prop)→Prop} {Q:List V→AD→Prop} {σ:AD} {β:Type} {b:Int} (f:Nat→β) (k:β→V) (hb:-1000000≤b∧b≤1000000) (h:∀ i:Nat,(i:Int) < b→∀ K:Option V→AD→Prop,K (some (k (f i))) σ→turn (.int i) σ K)
  (q:Q (((List.range b.toNat).map f).map k) σ):∃ items same,SrcK σ .range [.int b] items same∧items.length≤Ah∧Bi turn same items [] σ Q:=
 Ri (fun i=>some (k (f i))) hb h (by rw [B0];rw [List.map_map] at q;exact q)
theorem N9 (e:σ[n]?=some (.list [.str (Str.ofString "low"),.str (Str.ofString "left")])) (h:0≤k∧k < 2) (q:∀ b,Q (hab b) σ):SubK σ Q (.ref n) (.int k):=by
 rcases (by exact Classical.or_iff_not_imp_left.mpr fun z0=>Or.elim (Int.lt_or_gt_of_ne z0) (fun z1=>Int.le_antisymm (ai1 .le .v0 .n1 (.t .v0 .n0 .e) rfl z1) (ai1 .le .n1 .v0 (.w 2 (.l .n0 .v0 (.t .v0 .n0 .e))) rfl h.1 z1)) (fun z1=>Int.le_antisymm (ai1 .le .v0 .n1 (.t .v0 .n2 .e) rfl h.2) (ai1 .le .n1 .v0 (.t .n0 .v0 .e) rfl z1)):k=0∨k=1) with rfl | rfl
 ·exact Aq e (by decide) rfl (q true)
 ·exact Aq e (by decide) rfl (q false)
theorem VL {α:Type} {R:α→α→Prop} {l:List α} {i:Nat} {y:α} (h:l.Pairwise R) (hy:l[i]?=some y):∀ x ∈ l.take i,R x y:=fun x hx=>by
 rw [← List.take_append_drop i l,C1 hy] at h
 exact (List.pairwise_append.mp h).2.2 x hx y List.mem_cons_self
theorem Bh {α:Type} {l:List α} {i:Nat} {y:α} (hy:l[i]?=some y):l.take (i + 1)=l.take i ++ [y]:=by rw [List.take_add_one,hy];rfl
theorem F4 {os:List Ot} {W H w h l u:Int} (g:Gd (os.map Ot.low) H W h w u l):Gd (os.map Ot.lef) W H w h l u:=
 ⟨g.s0,g.p0,g.s1,g.p1,fun o ho=>by
  refine AF (List.mem_map.mp ho) fun x hx ze1=>?_;subst ze1
  have:=g.clear x.low (List.mem_map.mpr ⟨x,hx,rfl⟩)
  unfold Av Ot.low at this;unfold Av Ot.lef;dsimp only at this ⊢
  refine GF this (fun h=>?_) (fun h=>?_) (fun h=>?_) (fun h=>?_)
  ·exact .inr (.inr (.inl h))
  ·exact .inr (.inr (.inr h))
  ·exact .inl h
  ·exact .inr (.inl h)⟩
theorem OA {os:List Ot} {W H w h l u:Int} (g:Gd (os.map Ot.lef) W H w h l u):Gd (os.map Ot.low) H W h w u l:=
 ⟨g.s0,g.p0,g.s1,g.p1,fun o ho=>by
  refine AF (List.mem_map.mp ho) fun x hx ze1=>?_;subst ze1
  have:=g.clear x.lef (List.mem_map.mpr ⟨x,hx,rfl⟩)
  unfold Av Ot.lef at this;unfold Av Ot.low;dsimp only at this ⊢
  refine GF this (fun h=>?_) (fun h=>?_) (fun h=>?_) (fun h=>?_)
  ·exact .inr (.inr (.inl h))
  ·exact .inr (.inr (.inr h))
  ·exact .inl h
  ·exact .inr (.inl h)⟩
theorem Qv {x y:Int × Int} (h:Ab [y.1,y.2] [x.1,x.2]=false):x.1≤y.1:=by
 unfold Ab at h
 by_cases e:y.1=x.1
 ·exact Int.le_of_eq e.symm
 ·rw [if_neg e] at h;exact Int.not_lt.mp (of_decide_eq_false h)
theorem Na (hp:ts.Perm (rows.map fun r=>[r.1,r.2])) (hs:ts.Pairwise fun a b=>Ab b a=false):∃ rs:List (Int × Int),ts=(rs.map fun r=>[r.1,r.2])∧rs.Perm rows∧rs.Pairwise fun x y=>x.1≤y.1:=by
 have e:ts=(ts.map fun l=>(l.getD 0 0,l.getD 1 0)).map fun r:Int × Int=>[r.1,r.2]:=by
  rw [List.map_map]
  refine (List.map_id ts).symm.trans (List.map_congr_left fun l hl=>?_)
  refine AF (List.mem_map.mp (hp.mem_iff.mp hl)) fun r _ ze1=>?_;subst ze1;rfl
 refine ⟨_,e,?_,?_⟩
 ·have:=hp.map fun l=>(l.getD 0 0,l.getD 1 0)
  rw [List.map_map] at this
  exact this.trans (List.Perm.of_eq (List.map_id rows))
 ·rw [e,List.pairwise_map] at hs
  exact hs.imp Qv
end Mine
namespace Mine
open PySem
abbrev Pl3:=Int × Int × Bool
noncomputable def Da:Option (Int × Int)→Option (Int × Int)→Option Pl3
 | none,none=>none
 | some x,none=>some (x.1,x.2,false)
 | none,some y=>some (y.1,y.2,true)
 | some x,some y=>if y.1 < x.1∨(y.1=x.1∧y.2 < x.2) then some (y.1,y.2,true) else some (x.1,x.2,false)
structure Two (O:List Bx) (P S a b:Int) (turns:Bool) (d:Option Pl3):Prop where
 ex:∃ d1 d2,Ci (Gd O P S a b) d1∧(turns=true→Ci (Gd O P S b a) d2)∧(turns=false→d2=none)∧d=Da d1 d2
structure TwoE (O:List Bx) (P S a b:Int) (turns:Bool) (d:Option Pl3):Prop where
 ex:∃ d1 d2,Ci (Gd O P S a b) d1∧D8 O d1∧(turns=true→Ci (Gd O P S b a) d2∧D8 O d2)∧(turns=false→d2=none)∧d=Da d1 d2
noncomputable def by3 (m:Int):Option Pl3→Option Pl3
 | none=>none
 | some (p,s,t)=>some (p * m,s * m,t)
theorem FK {x y m:Int} (hm:0 < m):x * m < y * m ↔ x < y:=by
 rw [← Int.not_le,← Int.not_le,Cr hm]
theorem LA {x y m:Int} (hm:0 < m):x * m=y * m ↔ x=y:=⟨fun h=>Int.eq_of_mul_eq_mul_right (Int.ne_of_gt hm) h,fun h=>h▸rfl⟩
theorem Q3 {m:Int} (hm:0 < m):∀ d1 d2,Da (byO m m d1) (byO m m d2)=by3 m (Da d1 d2)
 | none,none=>rfl
 | some _,none=>rfl
 | none,some _=>rfl
 | some x,some y=>by
  unfold Da byO
  dsimp only
  by_cases h:y.1 < x.1∨(y.1=x.1∧y.2 < x.2)
  ·rw [if_pos h,if_pos (h.imp (FK hm).mpr fun h=>⟨h.1▸rfl,(FK hm).mpr h.2⟩)];rfl
  ·rw [if_neg h,if_neg fun h'=>h (h'.imp (FK hm).mp fun h=>⟨(LA hm).mp h.1,(FK hm).mp h.2⟩)];rfl
theorem QA {O:List Bx} (hm:0 < m) (h:TwoE (O.map (·.by m m)) (P * m) (S * m) (a * m) (b * m) turns r) (h':Two O P S a b turns d):r=by3 m d:=by
 refine Mn h.ex fun r1 r2 f1 o1 f2 f3 ze1=>?_;subst ze1
 refine Bk h'.ex fun d1 d2 g1 g2 g3 ze1=>?_;subst ze1
 rw [← Q3 hm,JV hm hm f1 o1 g1]
 cases turns with
 | true=>rw [JV hm hm (f2 rfl).1 (f2 rfl).2 (g2 rfl)]
 | false=>rw [f3 rfl,g3 rfl];rfl
section
variable {O:List Bx} {P S a b:Int} {turns:Bool}
theorem Ni (ha:0 < a) (hb:0 < b) (g:Gd O P S a b p s):(p,s) ∈ D6 S P:=HX g.p0 (by have:=g.p1;exact ai3 .lt .v0 .v1 (.l (.a .v0 .v2) .v1 (.t .n0 .v2 .e)) rfl this ha) g.s0 (by have:=g.s1;exact ai3 .lt .v0 .v1 (.l (.a .v0 .v2) .v1 (.t .n0 .v2 .e)) rfl this hb)
end
structure Sh where
 W:Int
 H:Int
 b:Bool
noncomputable def Sh.v (s:Sh):V:=.tup [.int s.W,.int s.H,hab s.b]
noncomputable def Sh.dat (s:Sh):PyData:=.tuple [.int s.W,.int s.H,Tp s.b]
noncomputable def Sh.by (m:Int) (s:Sh):Sh:=⟨s.W * m,s.H * m,s.b⟩
noncomputable def Ot.by (m:Int) (o:Ot):Ot:=⟨o.l * m,o.u * m,o.w * m,o.h * m⟩
noncomputable def EL:Option Pl3→Option Pl3
 | none=>none
 | some (p,s,t)=>some (s,p,t)
noncomputable def OnL (w h:Int) (turns:Bool) (sh:Sh) (os:List Ot) (r:Option Pl3):Prop:=match sh.b with
 | true=>Two (os.map Ot.low) sh.H sh.W h w turns r
 | false=>Two (os.map Ot.lef) sh.W sh.H w h turns (EL r)
noncomputable def OnP (w h:Int) (turns:Bool) (sh:Sh) (os:List Ot) (r:Option Pl3):Prop:=match sh.b with
 | true=>TwoE (os.map Ot.low) sh.H sh.W h w turns r
 | false=>TwoE (os.map Ot.lef) sh.W sh.H w h turns (EL r)
theorem P3 (h:EL r=by3 m (EL d)):r=by3 m d:=by
 have e1:EL (EL r)=r:=by cases r <;> rfl
 have e2:EL (by3 m (EL d))=by3 m d:=by cases d <;> rfl
 exact e1.symm.trans ((congrArg EL h).trans e2)
theorem N0 {w h m:Int} {turns:Bool} {sh:Sh} {os:List Ot} {r d:Option Pl3} (hm:0 < m) (x:OnP (w * m) (h * m) turns (sh.by m) (os.map (Ot.by m)) r) (y:OnL w h turns sh os d):r=by3 m d:=by
 obtain ⟨W,H,b⟩:=sh
 cases b with
 | true=>
  have e:(os.map (Ot.by m)).map Ot.low=(os.map Ot.low).map (·.by m m):=by rw [List.map_map,List.map_map];rfl
  have x:TwoE ((os.map (Ot.by m)).map Ot.low) _ _ _ _ _ _:=x
  rw [e] at x
  exact QA hm x y
 | false=>
  have e:(os.map (Ot.by m)).map Ot.lef=(os.map Ot.lef).map (·.by m m):=by rw [List.map_map,List.map_map];rfl
  have x:TwoE ((os.map (Ot.by m)).map Ot.lef) _ _ _ _ _ _:=x
  rw [e] at x
  exact P3 (QA hm x y)
noncomputable def NL:Bool→Int × Int→Int × Int→Prop
 | true,y,x=>y.1 < x.1∨(y.1=x.1∧y.2 < x.2)
 | false,y,x=>y.2 < x.2∨(y.2=x.2∧y.1 < x.1)
inductive Best (b:Bool):Option (Int × Int)→Option (Int × Int)→Option Pl3→Prop
 | no:Best b none none none
 | up {x:Int × Int}:Best b (some x) none (some (x.1,x.2,false))
 | turned {y:Int × Int}:Best b none (some y) (some (y.1,y.2,true))
 | less {x y:Int × Int}:NL b y x→Best b (some x) (some y) (some (y.1,y.2,true))
 | more {x y:Int × Int}:¬ NL b y x→Best b (some x) (some y) (some (x.1,x.2,false))
theorem Best.low (h:Best true r1 r2 r):r=Da r1 r2:=by
 cases h with
 | less h=>exact (if_pos h).symm
 | more h=>exact (if_neg h).symm
 | _=>rfl
theorem Best.left (h:Best false r1 r2 r):EL r=Da (Dn r1) (Dn r2):=by
 cases h with
 | less h=>exact (if_pos h).symm
 | more h=>exact (if_neg h).symm
 | _=>rfl
theorem Ej {w h:Int} {turns:Bool} {sh:Sh} {os:List Ot} {r1 r2:Option (Int × Int)} {r:Option Pl3} (f1:FI os sh.W sh.H w h sh.b r1) (f2:turns=true→FI os sh.W sh.H h w sh.b r2) (f3:turns=false→r2=none) (hb:Best sh.b r1 r2 r):OnP w h turns sh os r:=by
 obtain ⟨W,H,b⟩:=sh
 cases b with
 | true=>exact ⟨r1,r2,f1.1,f1.2,fun e=>⟨(f2 e).1,(f2 e).2⟩,f3,hb.low⟩
 | false=>exact ⟨Dn r1,Dn r2,f1.1,f1.2,fun e=>⟨(f2 e).1,(f2 e).2⟩,fun e=>congrArg Dn (f3 e),hb.left⟩
noncomputable def GG (b:Bool) (n:Int) (x:Int × Int) (t:Bool):List Int:=if b then [n,x.1,x.2,b2i t] else [n,x.2,x.1,b2i t]
theorem LS:Ab [n,a,b,1] [n,c,d,0]=true ↔ a < c∨(a=c∧b < d):=by
 rw [show Ab [n,a,b,1] [n,c,d,0]=if a=c then (if b=d then false else decide (b < d)) else decide (a < c) from if_pos rfl]
 by_cases h:a=c
 ·rw [if_pos h]
  by_cases h':b=d
  ·rw [if_pos h']
   exact ⟨nofun,fun e=>(e.elim (fun z=>Int.ne_of_lt z h) fun z=>Int.ne_of_lt z.2 h').elim⟩
  ·rw [if_neg h',decide_eq_true_iff];exact ⟨fun z=>.inr ⟨h,z⟩,fun z=>z.elim (fun z=>absurd h (Int.ne_of_lt z)) And.right⟩
 ·rw [if_neg h,decide_eq_true_iff];exact ⟨.inl,fun z=>z.elim id fun z=>absurd z.1 h⟩
theorem KK:∀ {b:Bool},Ab (GG b n y true) (GG b n x false)=true ↔ NL b y x
 | true=>LS
 | false=>LS
abbrev Pl4:=Int × Int × Int × Bool
inductive FP (On:Sh→List Ot→Option Pl3→Prop):Nat→List (Sh × List Ot)→Option Pl4→Prop
 | nil {n:Nat}:FP On n [] none
 | hit {n:Nat} {sh:Sh} {os:List Ot} {l:List (Sh × List Ot)} {p:Pl3}:On sh os (some p)→FP On n ((sh,os) :: l) (some ((n:Int),p.1,p.2.1,p.2.2))
 | miss {n:Nat} {sh:Sh} {os:List Ot} {l:List (Sh × List Ot)} {r:Option Pl4}:On sh os none→FP On (n + 1) l r→FP On n ((sh,os) :: l) r
noncomputable def by4 (m:Int):Option Pl4→Option Pl4
 | none=>none
 | some (n,p,s,t)=>some (n,p * m,s * m,t)
theorem FP.cons_inv (h:FP On n (x :: l) r):(∃ p,On x.1 x.2 (some p)∧r=some ((n:Int),p.1,p.2.1,p.2.2))∨(On x.1 x.2 none∧FP On (n + 1) l r):=by
 cases h with
 | hit o=>exact .inl ⟨_,o,rfl⟩
 | miss o h=>exact .inr ⟨o,h⟩
theorem U1 {w h m:Int} {turns:Bool} (hm:0 < m) {n:Nat} {l:List (Sh × List Ot)} {r d:Option Pl4} (hr:FP (OnP (w * m) (h * m) turns) n (l.map fun x=>(x.1.by m,x.2.map (Ot.by m))) r) (hd:FP (OnL w h turns) n l d):r=by4 m d:=by
 induction hd with
 | nil=>cases hr;rfl
 | hit o=>exact hr.cons_inv.elim (fun h=>h.elim fun p h=>h.2.trans (Option.some.inj (N0 hm h.1 o)▸rfl)) fun h=>nomatch N0 hm h.1 o
 | miss o _ ih=>exact hr.cons_inv.elim (fun h=>h.elim fun p h=>nomatch N0 hm h.1 o) fun h=>ih h.2
noncomputable def Fb:Option Pl4→V
 | none=>.none
 | some (n,u,l,t)=>.tup [.int n,.int u,.int l,.bool t]
noncomputable def UM (n:Nat):Option Pl3→V
 | none=>.none
 | some (u,l,t)=>.tup [.int n,.int u,.int l,.bool t]
noncomputable def Ka (σ:AD) (ks:List Nat) (oss:List (List Ot)):Prop:=ks.length=oss.length∧∀ (i:Nat) k os,ks[i]?=some k→oss[i]?=some os→σ[k]?=some (.list (os.map Ot.v))
noncomputable def Kp (σ σ':AD):Prop:=∀ (x:Nat) (o:O),σ[x]?=some o→σ'[x]?=some o
theorem Td (I:Nat→List V→AD→Prop) (hb:-1000000≤b∧b≤1000000) (h0:I 0 [] σ)
  (step:∀ (i:Nat) acc σ (K:Option V→AD→Prop),(i:Int) < b→I i acc σ→(∀ v σ',I (i + 1) (acc ++ [v]) σ'→K (some v) σ')→turn (.int i) σ K)
  (fin:∀ acc σ',I b.toNat acc σ'→Q acc σ'):∃ items same,SrcK σ .range [.int b] items same∧items.length≤Ah∧Bi turn same items [] σ Q:=
 ⟨_,_,.range (Qq hb.1) hb.2,by rw [Co];exact Int.toNat_le.mpr hb.2,FD I _ 0 [] σ (fun i v acc σ K hv hI h1=>by
  obtain ⟨rfl,hi⟩:=FH _ _ _ _ hv
  rw [Nat.zero_add] at hI h1
  rw [Int.zero_add]
  exact step i acc σ K (Int.lt_toNat.mp hi) hI fun v σ' h=>h1 (some v) σ' trivial h) (fun acc σ h=>fin acc σ (by rw [Co,Nat.zero_add] at h;exact h)) h0⟩
theorem PD (I:Nat→List V→AD→Prop) (e:σ[n]?=some (.list vs)) (hz:vs.length≤1000000) (h0:I 0 [] σ)
  (step:∀ (i:Nat) v acc σ (K:Option V→AD→Prop),vs[i]?=some v→I i acc σ→(∀ v σ',σ'[n]?=some (.list vs)→I (i + 1) (acc ++ [v]) σ'→K (some v) σ')→turn v σ K)
  (fin:∀ acc σ',I vs.length acc σ'→Q acc σ'):∃ items same,SrcK σ .plain [.ref n] items same∧items.length≤Ah∧Bi turn same items [] σ Q:=
 ⟨_,_,.list e,hz,FD I _ 0 [] σ (fun i v acc σ K hv hI h1=>by
  rw [Nat.zero_add] at hI h1
  exact step i v acc σ K hv hI fun v σ' h h'=>h1 (some v) σ' h h') (fun acc σ h=>fin acc σ (by rw [Nat.zero_add] at h;exact h)) h0⟩
end Mine
namespace Mine
open PySem
set_option genSizeOf false
set_option genInjectivity false
section
variable {C:Br} {ρ:List V} {σ:AD} {Q:BR} {P:AO} {X:Ac} {e a b:Ex} {es:List Ex} {ss:List Sx} {c:Addr} {x:Str} {k:Nat} {hs:List (List Nat × V × Option Nat)}
end
section
variable {σ:AD} {K:Bool→Prop} {x y:Str}
theorem ST (h:(PyData.strOk x && (x == y))=true) (q:K true):CmpK σ K .Eq (.str x) (.str y):=by
 have h:=Bool.and_eq_true_iff.mp h
 have e:=eq_of_beq h.2
 subst e
 exact Kz h.1 h.1 (by rw [beq_self_eq_true];exact q)
end
noncomputable def Ed (S B P:Nat):List (Str × V):=[("shelves", .ref S),("boxes", .ref B),("places", .ref P)]
structure RackAt (C:Addr) (σ:AD) (r S B P:Nat):Prop where
 ex:∃ m,σ[r]?=some (.inst C m)∧σ[m]?=some (.ns (Ed S B P))
theorem SR:(Ed S B P).lookup ("shelves":Str)=some (.ref S):=rfl
theorem Q5:(Ed S B P).lookup ("boxes":Str)=some (.ref B):=rfl
theorem SL:(Ed S B P).lookup ("places":Str)=some (.ref P):=rfl
noncomputable def Ke (x:Str):Bool:=!(x == "shelves") && !(x == "boxes") && !(x == "places")
theorem RL (h:Ke x=true):(Ed S B P).lookup x=none:=by
 unfold Ke at h
 simp only [Bool.and_eq_true,Bool.not_eq_true'] at h
 unfold Ed
 rw [List.lookup_cons,h.1.1,List.lookup_cons,h.1.2,List.lookup_cons,h.2];rfl
section
variable {C:Addr} {σ:AD} {r S B P:Nat} {Q:AO} {A:Prop} {x:Str}
theorem Vp (R:RackAt C σ r S B P) (q:Q (.ref S) σ):AttrK σ Q C "shelves" (.ref r):=let ⟨_,h1,h2⟩:=R.ex;.mk h1 h2 SR q
theorem V5 (R:RackAt C σ r S B P) (q:Q (.ref B) σ):AttrK σ Q C "boxes" (.ref r):=let ⟨_,h1,h2⟩:=R.ex;.mk h1 h2 Q5 q
theorem WC (R:RackAt C σ r S B P) (q:Q (.ref P) σ):AttrK σ Q C "places" (.ref r):=let ⟨_,h1,h2⟩:=R.ex;.mk h1 h2 SL q
theorem TQ (R:RackAt C σ r S B P) (h:Ke x=true) (q:A):O8 σ C x (.ref r)∧A:=let ⟨m,h1,h2⟩:=R.ex;⟨⟨r,m,_,rfl,h1,h2,RL h⟩,q⟩
end
theorem At (p:σ <+: σ'):Kp σ σ':=fun _ _ h=>AN p h
theorem RackAt.keeps (R:RackAt C σ r S B P) (k:Kp σ σ'):RackAt C σ' r S B P:=let ⟨m,h1,h2⟩:=R.ex;⟨m,k _ _ h1,k _ _ h2⟩
theorem Tn (R:RackAt C σ r S B P):RackAt C (σ ++ τ) r S B P:=R.keeps (At AH)
structure En where
 name:Str
 w:Int
 h:Int
 t:Bool
 n:Nat
 u:Int
 l:Int
 r:Bool
noncomputable def En.box (e:En):V:=.tup [.str e.name,.int e.w,.int e.h,.bool e.t]
noncomputable def En.pl (e:En):V:=.tup [.int e.n,.int e.u,.int e.l,.bool e.r]
noncomputable def En.ot (e:En):Ot:=if e.r=true then ⟨e.l,e.u,e.h,e.w⟩ else ⟨e.l,e.u,e.w,e.h⟩
noncomputable def Bz (es:List En):List (Str × V):=es.map fun e=>(e.name,e.box)
noncomputable def Bj (es:List En):List (Str × V):=es.map fun e=>(e.name,e.pl)
structure Rk (C:Addr) (σ:AD) (r:Nat) (shs:List Sh) (es:List En) (S B P epB epP:Nat):Prop where
 at_:RackAt C σ r S B P
 sh:σ[S]?=some (.list (shs.map Sh.v))
 bx:σ[B]?=some (.dict epB (Bz es))
 pl:σ[P]?=some (.dict epP (Bj es))
section
variable {C:Addr} {σ σ':AD} {r S B P epB epP:Nat} {shs:List Sh} {es:List En}
theorem Rk.keeps (R:Rk C σ r shs es S B P epB epP) (k:Kp σ σ'):Rk C σ' r shs es S B P epB epP:=⟨R.at_.keeps k,k _ _ R.sh,k _ _ R.bx,k _ _ R.pl⟩
end
theorem BN {f:En→V} {es:List En} {e:En} (hn:(es.map (·.name)).Nodup) (hm:e ∈ es):(es.map fun e=>(e.name,f e)).lookup e.name=some (f e):=by
 induction es with
 | nil=>cases hm
 | cons x xs ih=>
  rw [List.map_cons,List.lookup_cons]
  rw [List.map_cons] at hn
  have hn:=List.nodup_cons.mp hn
  rcases List.mem_cons.mp hm with rfl | hm
  ·rw [beq_self_eq_true]
  ·have hne:(e.name == x.name)=false:=beq_eq_false_iff_ne.mpr fun q=>hn.1 (q▸List.mem_map.mpr ⟨e,hm,rfl⟩)
   rw [hne]
   exact ih hn.2 hm
theorem JJ {f:En→V} {es:List En} {k:Str}:((es.map fun e=>(e.name,f e)).any fun p=>decide (p.1=k))=decide (k ∈ es.map (·.name)):=by
 rw [List.any_map]
 rw [Bool.eq_iff_iff,List.any_eq_true,decide_eq_true_iff,List.mem_map]
 exact ⟨fun ⟨e,h,q⟩=>⟨e,h,of_decide_eq_true q⟩,fun ⟨e,h,q⟩=>⟨e,h,decide_eq_true q⟩⟩
noncomputable def Bu (skip:Option Str) (x:Str):Bool:=!(skip == some x)
noncomputable def An (es:List En) (skip:Option Str) (i:Nat):List Ot:=(es.filter fun e=>decide (e.n=i) && Bu skip e.name).map En.ot
noncomputable def AS (n:Nat) (es:List En) (skip:Option Str):List (List Ot):=(List.range n).map (An es skip)
noncomputable def QB:Option Str→V
 | none=>.none
 | some s=>.str s
theorem BC:(AS n es skip).length=n:=by rw [AS,List.length_map,List.length_range]
theorem Ch (h:i < n):(AS n es skip)[i]?=some (An es skip i):=by
 rw [AS,List.getElem?_map,List.getElem?_range h];rfl
theorem He:An (es ++ [e]) skip i=if (decide (e.n=i) && Bu skip e.name)=true then An es skip i ++ [e.ot] else An es skip i:=by
 unfold An
 rw [List.filter_append,List.map_append]
 by_cases h:(decide (e.n=i) && Bu skip e.name)=true
 ·rw [if_pos h,List.filter_cons_of_pos (p:=fun e:En=>decide (e.n=i) && Bu skip e.name) h];rfl
 ·rw [if_neg h,List.filter_cons_of_neg (p:=fun e:En=>decide (e.n=i) && Bu skip e.name) h];exact List.append_nil _
theorem LM (hk:Bu skip e.name=true):AS n (es ++ [e]) skip=(AS n es skip).set e.n (An es skip e.n ++ [e.ot]):=by
 apply List.ext_getElem?
 intro i
 refine Or.elim (Nat.lt_or_ge i n) (fun hi=>?_) (fun hi=>?_)
 ·rw [Ch hi,He,hk,Bool.and_true]
  by_cases h:e.n=i
  ·rw [h,List.getElem?_set_self (by rw [BC];exact hi),if_pos (decide_eq_true rfl)]
  ·rw [List.getElem?_set_ne h,Ch hi,if_neg (by rw [decide_eq_true_iff];exact h)]
 ·rw [List.getElem?_eq_none (by rw [BC];exact hi),List.getElem?_eq_none (by rw [List.length_set,BC];exact hi)]
theorem J4 (hk:Bu skip e.name=false):AS n (es ++ [e]) skip=AS n es skip:=by
 unfold AS
 exact List.map_congr_left fun i _=>by rw [He,hk,Bool.and_false];rfl
theorem LL:AS n [] skip=List.replicate n []:=by
 exact List.eq_replicate_iff.mpr ⟨BC,fun b hb=>by refine AF (List.mem_map.mp hb) fun i _ ze1=>?_;subst ze1;rfl⟩
noncomputable def JI (os:List Ot):O:=.list (os.map Ot.v)
theorem MI {σ:AD} {L T:List O} {i:Nat} {o:O} (h:L[i]?=some o):(σ ++ L ++ T)[σ.length + i]?=some o:=by
 have hi:=(List.getElem?_eq_some_iff.mp h).1
 rw [List.append_assoc,List.getElem?_append_right (Nat.le_add_right _ _),Nat.add_sub_cancel_left,List.getElem?_append_left hi];exact h
theorem Lj {σ:AD} {L T:List O} {i:Nat} {o:O} (h:i < L.length):(σ ++ L ++ T).set (σ.length + i) o=σ ++ L.set i o ++ T:=by
 rw [List.append_assoc,List.set_append_right _ _ (Nat.le_add_right _ _),Nat.add_sub_cancel_left,List.set_append_left _ _ h,List.append_assoc]
theorem L2 (h:L.length=n):(σ ++ L ++ [o])[σ.length + n]?=some o:=by
 rw [← h,← List.length_append];exact AC
theorem LG {σ:AD} {oss:List (List Ot)} {T:List O} {n:Nat} (h:oss.length=n):Ka (σ ++ oss.map JI ++ T) (List.range' σ.length n) oss:=by
 refine ⟨by rw [List.length_range',h],fun i k os h1 h2=>?_⟩
 have hi:i < n:=h▸(List.getElem?_eq_some_iff.mp h2).1
 rw [List.getElem?_range' hi,Nat.one_mul] at h1
 cases h1
 exact MI (by rw [List.getElem?_map,h2];rfl)
noncomputable def Cw:List Nat:=(Str.ofString "abcdefghijklmnopqrstuvwxyz0123456789").cps.toList
noncomputable def Ay (x:Str):Bool:=decide (0 < x.length) && (decide (x.length≤12) && x.cps.toList.all fun c=>decide (c ∈ Cw))
theorem Sj (f:Nat→V) (hx:x.cps.all (· < 128)=true) (hl:x.length≤1000) (h:∀ c ∈ x.cps.toList,∀ K:Option V→AD→Prop,K (some (f c)) σ→turn (.str (Ec c)) σ K)
  (q:Q (x.cps.toList.map f) σ):∃ items same,SrcK σ .plain [.str x] items same∧items.length≤Ah∧Bi turn same items [] σ Q:=
 ⟨_,_,.str hx,by rw [List.length_map];exact Nat.le_trans hl (by decide),EB (g:=fun c=>.str (Ec c)) (fun c=>some (f c)) trivial _ [] h (by rw [B0];exact q)⟩
end Mine
namespace Mine
open PySem
set_option genSizeOf false
set_option genInjectivity false
structure Shx where
 W:Int
 H:Int
 s:Str
noncomputable def Shx.v (x:Shx):V:=.tup [.int x.W,.int x.H,.str x.s]
noncomputable def Sh.x (s:Sh):Shx:=⟨s.W,s.H,if s.b then Str.ofString "low" else Str.ofString "left"⟩
structure Shx.Good (x:Shx):Prop where
 w:1≤x.W∧x.W≤1000000
 h:1≤x.H∧x.H≤1000000
 s:x.s=Str.ofString "low"∨x.s=Str.ofString "left"
structure Fit (xs:List Shx):Prop where
 n:1≤xs.length∧xs.length≤9
 all:∀ x ∈ xs,x.Good
theorem GD:PyData.eqv (.str x) (.str y)=(x == y):=rfl
theorem N3 (hs:PyData.strOk s=true) (q:(s=Str.ofString "low"∨s=Str.ofString "left")→K false) (q':¬ (s=Str.ofString "low"∨s=Str.ofString "left")→K true):CmpK σ K .NotIn (.str s) (.tup [.str (Str.ofString "low"),.str (Str.ofString "left")]):=by
 refine .ninT (x:=.str s) (ys:=[.str (Str.ofString "low"),.str (Str.ofString "left")]) rfl rfl hs (by decide +kernel) ?_
 rw [List.any_cons,List.any_cons,List.any_nil,GD,GD,Bool.or_false]
 by_cases h:s=Str.ofString "low"∨s=Str.ofString "left"
 ·rw [show ((Str.ofString "low" == s) || (Str.ofString "left" == s))=true from Bool.or_eq_true_iff.mpr (h.imp (fun e=>beq_iff_eq.mpr e.symm) fun e=>beq_iff_eq.mpr e.symm)]
  exact q h
 ·rw [show ((Str.ofString "low" == s) || (Str.ofString "left" == s))=false from Bool.or_eq_false_iff.mpr ⟨beq_eq_false_iff_ne.mpr fun e=>h (.inl e.symm),beq_eq_false_iff_ne.mpr fun e=>h (.inr e.symm)⟩]
  exact q' h
theorem Uj:put "shelves" v []=[(("shelves":Str),v)]:=rfl
theorem Tz:put "boxes" v [(("shelves":Str),u)]=[(("shelves":Str),u),(("boxes":Str),v)]:=rfl
theorem UK:put "places" v [(("shelves":Str),u),(("boxes":Str),w)]=[(("shelves":Str),u),(("boxes":Str),w),(("places":Str),v)]:=rfl
noncomputable def KpB (m:Nat) (σ σ':AD):Prop:=∀ (x:Nat) (o:O),x ≠ m→σ[x]?=some o→σ'[x]?=some o
end Mine
namespace Mine
open PySem
set_option genSizeOf false
set_option genInjectivity false
theorem Pa (I:Nat→List V→AD→Prop) (e:σ[n]?=some (.dict ep kvs)) (h0:I 0 ρ σ)
  (step:∀ (i:Nat) (p:Str × V) ρ σ (R:List V→AD→Prop),kvs[i]?=some p→I i ρ σ→(∀ ρ' σ',σ'[n]?=some (.dict ep kvs)→I (i + 1) ρ' σ'→R ρ' σ')→turn (.str p.1) ρ σ (EN R Q))
  (fin:∀ ρ σ,I kvs.length ρ σ→Q .next ρ σ):∃ items same,SrcK σ .plain [.ref n] items same∧FM turn same items ρ σ Q:=
 ⟨_,_,.dict e,Dq I _ 0 ρ σ (fun i v ρ σ K hv hI h1=>by
  rw [Nat.zero_add] at hI h1
  refine AF (List.mem_map_get hv) fun p hp ze1=>?_;subst ze1
  exact step i p ρ σ K hp hI h1) (fun ρ σ h=>fin ρ σ (by rw [Nat.zero_add,List.length_map] at h;exact h)) h0⟩
theorem RS (hx:PyData.strOk x=true) (hs:∀ s,skip=some s→PyData.strOk s=true) (q:K (Bu skip x)):My σ K .NotEq (.str x) (QB skip):=by
 cases skip with
 | none=>exact .ne (x:=.str x) (y:=.none) rfl rfl hx rfl q
 | some s=>exact .ne (x:=.str x) (y:=.str s) rfl rfl hx (hs s rfl) (by
  have e:Bu (some s) x=!(PyData.eqv (.str x) (.str s)):=by
   rw [GD]
   show (!(s == x))=!(x == s)
   rw [Bool.beq_comm]
  rw [e] at q;exact q)
theorem Qj:∀ {skip:Option Str},def? (QB skip)=true
 | none=>rfl
 | some _=>rfl
abbrev A9 (k:Int):Prop:=1≤k∧k≤1000000
theorem Q2 (h:(l.any fun p=>decide (p.1=k))=false):put k v l=l ++ [(k,v)]:=by
 unfold put;rw [if_neg (by rw [h];exact Bool.false_ne_true)]
theorem L0 {f:En→V} (h:e.name ∉ es.map (·.name)):put e.name (f e) (es.map fun e=>(e.name,f e))=(es ++ [e]).map fun e=>(e.name,f e):=by
 rw [Q2 (by rw [JJ];exact decide_eq_false h),List.map_append];rfl
noncomputable def stood (σ:AD) (B P ep1 ep2:Nat) (es:List En):AD:=(σ.set B (.dict ep1 (Bz es))).set P (.dict ep2 (Bj es))
theorem Rk.stood (R:Rk C σ r shs es S B P epB epP) (h:B ≠ P) (ep1 ep2:Nat):Rk C (stood σ B P ep1 ep2 es') r shs es' S B P ep1 ep2:=by
 have kp:∀ (x:Nat) (o:O),σ[x]?=some o→(∀ ep kvs,o ≠ .dict ep kvs)→(Mine.stood σ B P ep1 ep2 es')[x]?=some o:=fun x o e hd=>
  AI (fun z=>by rw [← z,R.pl] at e;cases e;exact hd _ _ rfl) (AI (fun z=>by rw [← z,R.bx] at e;cases e;exact hd _ _ rfl) e)
 refine AF R.at_.ex fun m h1 h2=>?_
 exact ⟨⟨m,kp _ _ h1 nofun,kp _ _ h2 nofun⟩,kp _ _ R.sh nofun,AI h.symm (Ai R.bx),Ai (AI h R.pl)⟩
theorem RD (h:FP On n l r):∀ p:Pl4,r=some p→∃ k:Nat,p.1=k∧n≤k∧k < n + l.length:=by
 induction h with
 | nil=>intro p e;cases e
 | @hit n sh os l q _=>intro p e;cases e;exact ⟨n,rfl,Nat.le_refl _,Nat.lt_add_of_pos_right (Nat.zero_lt_succ _)⟩
 | @miss n sh os l r _ _ ih=>intro p e;refine AZ (ih p e) fun k e1 h1 h2=>?_;exact ⟨k,e1,Nat.le_of_succ_le h1,Nat.lt_of_lt_of_eq h2 (Nat.succ_add_eq_add_succ n l.length)⟩
theorem Hu (h:FP On n l (some p)):∃ k:Nat,p.1=k∧n≤k∧k < n + l.length:=RD h p rfl
structure Esok (shs:List Sh) (es:List En):Prop where
 nodup:(es.map (·.name)).Nodup
 num:∀ e ∈ es,e.n < shs.length
 str:∀ e ∈ es,PyData.strOk e.name=true
 len:es.length < 63
end Mine
namespace Mine
open PySem
set_option genSizeOf false
set_option genInjectivity false
noncomputable def En.key (shs:List Sh) (e:En):List Int:=GG ((shs.getD e.n ⟨0,0,false⟩).b) e.n (e.u,e.l) e.r
noncomputable def B4 (left:Int) (n:Nat):List En→Int
 | []=>left
 | e :: es=>B4 (if e.n=n then left - e.w * e.h else left) n es
theorem El:∀ (es:List En) (left:Int),B4 left n (es ++ [e])=if e.n=n then B4 left n es - e.w * e.h else B4 left n es
 | [],left=>rfl
 | x :: es,left=>El es _
theorem FW {α:Type} {turn:V→AD→AO→Prop} {g:α→V} {σ:AD} (f:α→V) {Q:List V→AD→Prop}:∀ (l:List α) (acc:List V),(∀ x ∈ l,∀ K:AO,K (f x) σ→turn (g x) σ K)→Q (acc ++ l.map f) σ→HC turn (l.map g) acc σ Q
 | [],acc,_,q=>by rw [List.map_nil,List.append_nil] at q;exact q
 | x :: l,acc,h,q=>h x List.mem_cons_self _ (FW f l _ (fun y hy=>h y (List.mem_cons_of_mem _ hy)) (by rw [List.append_assoc];exact q))
inductive TabN (n:Nat) (T:Addr) (σ:AD) (ln col:Int) (q:Str):Prop
 | tab:σ[n]?=some (.tab T)→TabN n T σ ln col q
 | row (m:Nat):σ[n]?=some (.row T ln col m)→σ[m]?=some (.code q)→TabN n T σ ln col q
abbrev TabAt (T:Addr) (σ:AD) (ln col:Int) (q:Str):Prop:=TabN 1 T σ ln col q
theorem TabN.w (h0:n ≠ 0) (t:TabN n T σ ln col q) (h:∀ m σ',KpB n σ σ'→σ'[m]?=some (.code q)→σ'[n]?=some (.row T ln col m)→K m σ'):TabW T q ln col σ K:=by
 cases t with
 | tab e=>exact .inl ⟨n,e,h0,h _ _ (fun x o hx hh=>AB (AI hx.symm hh)) (by
   rw [List.getElem?_append_right (by rw [List.length_set];exact Nat.le_refl _),List.length_set,Nat.sub_self];rfl) (AB (Ai e))⟩
 | row m e e'=>exact .inr ⟨n,m,e,e',h m σ (fun _ _ _ hh=>hh) e' e⟩
theorem TabAt.w (t:TabAt T σ ln col q) (h:∀ m σ',KpB 1 σ σ'→σ'[m]?=some (.code q)→σ'[1]?=some (.row T ln col m)→K m σ'):TabW T q ln col σ K:=TabN.w (by decide) t h
theorem Rk.keepsB (R:Rk C σ r shs es S B P epB epP) (t:TabAt T σ ln col q) (k:KpB 1 σ σ'):Rk C σ' r shs es S B P epB epP:=by
 have kp:∀ (x:Nat) (o:O),(∀ T ln col m,o ≠ .tab T∧o ≠ .row T ln col m)→σ[x]?=some o→σ'[x]?=some o:=fun x o hd e=>k x o (fun z=>by
  subst z
  cases t with
  | tab e'=>rw [e'] at e;cases e;exact (hd T 0 0 0).1 rfl
  | row m e' _=>rw [e'] at e;cases e;exact (hd T ln col m).2 rfl) e
 refine AF R.at_.ex fun m h1 h2=>?_
 exact ⟨⟨m,kp _ _ (fun _ _ _ _=>⟨nofun,nofun⟩) h1,kp _ _ (fun _ _ _ _=>⟨nofun,nofun⟩) h2⟩,kp _ _ (fun _ _ _ _=>⟨nofun,nofun⟩) R.sh,kp _ _ (fun _ _ _ _=>⟨nofun,nofun⟩) R.bx,kp _ _ (fun _ _ _ _=>⟨nofun,nofun⟩) R.pl⟩
theorem Ts {shs:List Sh} {e:En}:e.key shs ≠ []:=by unfold En.key GG;split <;> exact List.cons_ne_nil _ _
end Mine
namespace Mine
set_option genSizeOf false
set_option genInjectivity false
structure Qp where
 n:Nat
 p:Int
 s:Int
 r:Bool
noncomputable def Qp.le (x y:Qp):Prop:=x.n < y.n∨(x.n=y.n∧(x.p < y.p∨(x.p=y.p∧(x.s < y.s∨(x.s=y.s∧(x.r=true→y.r=true))))))
theorem Qp.ext {x y:Qp} (h1:x.n=y.n) (h2:x.p=y.p) (h3:x.s=y.s) (h4:x.r=y.r):x=y:=congr (congr (congr (congrArg Qp.mk h1) h2) h3) h4
theorem Qp.le_refl (x:Qp):x.le x:=.inr ⟨rfl,.inr ⟨rfl,.inr ⟨rfl,id⟩⟩⟩
theorem Qp.le_trans {x y z:Qp} (h:x.le y) (h':y.le z):x.le z:=
 Fd Nat.lt_trans (Fd Int.lt_trans (Fd Int.lt_trans fun h g z=>g (h z))) h h'
theorem Qp.le_antisymm {x y:Qp} (h:x.le y) (h':y.le x):x=y:=by
 have a:=F0 Nat.lt_asymm Nat.lt_irrefl h h'
 have b:=F0 Int.lt_asymm Int.lt_irrefl a.2.1 a.2.2
 have c:=F0 Int.lt_asymm Int.lt_irrefl b.2.1 b.2.2
 exact Qp.ext a.1 b.1 c.1 (Bool.eq_iff_iff.mpr ⟨c.2.1,c.2.2⟩)
theorem Qp.le_np {x y:Qp} (h:x.le y):x.n < y.n∨(x.n=y.n∧x.p≤y.p):=by
 rcases h with h | ⟨h1,h | ⟨h2,_⟩⟩
 ·exact .inl h
 ·exact .inr ⟨h1,Int.le_of_lt h⟩
 ·exact .inr ⟨h1,Int.le_of_eq h2⟩
theorem Qp.between {x y z:Qp} (h:x.le y) (h':y.le z) (e:z.n=x.n∧z.p=x.p):y.n=x.n∧y.p=x.p:=by
 have a:=Qp.le_np h
 have b:=Qp.le_np h'
 clear h h'
 exact ⟨Or.elim b (fun z0=>Or.elim a (fun z1=>Nat.le_antisymm (an3 .le .v0 .v1 (.t .v0 .v2 (.q .v2 .v1 .e)) rfl z0 e.1) (an2 .le .v0 .v1 (.t .v0 .v1 .e) rfl z1)) (fun z1=>Nat.le_antisymm (an2 .le .v0 .v1 (.p .v1 .v0 .e) rfl z1.1) (an2 .le .v0 .v1 (.q .v0 .v1 .e) rfl z1.1))) (fun z0=>Nat.le_antisymm (an3 .le .v0 .v1 (.q .v0 .v2 (.q .v2 .v1 .e)) rfl z0.1 e.1) (an3 .le .v0 .v1 (.p .v2 .v0 (.p .v1 .v2 .e)) rfl e.1 z0.1)),Or.elim b (fun z0=>Or.elim a (fun z1=>(am3 (.t .v0 .v1 (.t .v1 .v2 (.q .v2 .v0 .e))) rfl z1 z0 e.1).elim) (fun z1=>(am3 (.q .v0 .v1 (.t .v1 .v2 (.q .v2 .v0 .e))) rfl z1.1 z0 e.1).elim)) (fun z0=>Or.elim a (fun z1=>(am3 (.t .v0 .v1 (.q .v1 .v2 (.q .v2 .v0 .e))) rfl z1 z0.1 e.1).elim) (fun z1=>Int.le_antisymm (ai3 .le .v0 .v1 (.l .v0 .v2 (.q .v2 .v1 .e)) rfl z0.2 e.2) (ai2 .le .v0 .v1 (.l .v0 .v1 .e) rfl z1.2)))⟩
theorem Qp.le_s {x y:Qp} (h:x.le y) (e:y.n=x.n∧y.p=x.p):x.s≤y.s:=by
 rcases h with h | ⟨_,h | ⟨_,h | ⟨h,_⟩⟩⟩
 ·exact absurd e.1.symm (Nat.ne_of_lt h)
 ·exact absurd e.2.symm (Int.ne_of_lt h)
 ·exact Int.le_of_lt h
 ·exact Int.le_of_eq h
abbrev Cfg:=Nat→Qp
section
variable (A B:Nat→Nat→Bool→Int) (Ins:Nat→Qp→Prop) (N:Nat)
noncomputable def Apart (i j:Nat) (x y:Qp):Prop:=x.n ≠ y.n∨x.p + A i x.n x.r≤y.p∨y.p + A j y.n y.r≤x.p∨x.s + B i x.n x.r≤y.s∨y.s + B j y.n y.r≤x.s
structure Sound (X:Cfg):Prop where
 ins:∀ i,i < N→Ins i (X i)
 apart:∀ i j,i < N→j < N→i ≠ j→Apart A B i j (X i) (X j)
structure Step (i:Nat) (X Y:Cfg):Prop where
 lt:i < N
 other:∀ j,j ≠ i→Y j=X j
 ins:Ins i (Y i)
 free:∀ j,j < N→j ≠ i→Apart A B i j (Y i) (X j)
 least:∀ q,Ins i q→(∀ j,j < N→j ≠ i→Apart A B i j q (X j))→(Y i).le q
inductive Steps:List Nat→Cfg→Cfg→Prop
 | nil {X:Cfg}:Steps [] X X
 | cons {i:Nat} {is:List Nat} {X Y Z:Cfg}:Step A B Ins N i X Y→Steps is Y Z→Steps (i :: is) X Z
end
section
variable {A B:Nat→Nat→Bool→Int} {Ins:Nat→Qp→Prop} {N:Nat}
theorem Apart.symm (h:Apart A B i j x y):Apart A B j i y x:=by
 refine Si h (fun h=>?_) (fun h=>?_) (fun h=>?_) (fun h=>?_) (fun h=>?_)
 ·exact .inl h.symm
 ·exact .inr (.inr (.inl h))
 ·exact .inr (.inl h)
 ·exact .inr (.inr (.inr (.inr h)))
 ·exact .inr (.inr (.inr (.inl h)))
theorem Step.sound (h:Step A B Ins N i X Y) (s:Sound A B Ins N X):Sound A B Ins N Y where
 ins j hj:=by
  by_cases e:j=i
  ·rw [e];exact h.ins
  ·rw [h.other j e];exact s.ins j hj
 apart j k hj hk hjk:=by
  by_cases e:j=i
  ·subst e
   rw [h.other k hjk.symm];exact h.free k hk hjk.symm
  ·by_cases e':k=i
   ·subst e'
    rw [h.other j hjk];exact (h.free j hj hjk).symm
   ·rw [h.other j e,h.other k e'];exact s.apart j k hj hk hjk
theorem Step.le (h:Step A B Ins N i X Y) (s:Sound A B Ins N X) (j:Nat):(Y j).le (X j):=by
 by_cases e:j=i
 ·subst e
  exact h.least _ (s.ins j h.lt) fun k hk hkj=>s.apart j k h.lt hk hkj.symm
 ·rw [h.other j e];exact Qp.le_refl _
theorem Steps.sound (h:Steps A B Ins N is X Y) (s:Sound A B Ins N X):Sound A B Ins N Y:=by
 induction h with
 | nil=>exact s
 | cons h _ ih=>exact ih (h.sound s)
theorem Steps.le (h:Steps A B Ins N is X Y) (s:Sound A B Ins N X) (j:Nat):(Y j).le (X j):=by
 induction h with
 | nil=>exact Qp.le_refl _
 | cons h _ ih=>exact Qp.le_trans (ih (h.sound s)) (h.le s j)
theorem NZ (hA:∀ i n r,0 < A i n r) (hB:∀ i n r,0 < B i n r) (s:Sound A B Ins N F) (L:List Nat) (hN:∀ i ∈ L,i < N) (hp:L.Pairwise (fun x y=>(F y).s≤(F x).s)) (h0:L ≠ []) :
  ∃ c ∈ L,∀ d ∈ L,d ≠ c→(F d).n=(F c).n→¬ ((F d).s < (F c).s + B c (F c).n (F c).r∧(F d).p < (F c).p + A c (F c).n (F c).r):=by
 induction L with
 | nil=>exact absurd rfl h0
 | cons m L ih=>
  by_cases hl:L=[]
  ·subst hl;exact ⟨m,List.mem_cons_self,fun d hd hne=>absurd (List.mem_singleton.mp hd) hne⟩
  have hp':=List.pairwise_cons.mp hp
  refine AF (ih (fun i hi=>hN i (List.mem_cons_of_mem _ hi)) hp'.2 hl) fun c hc hmin=>?_
  have hcm:=hp'.1 c hc
  by_cases hcm':m ≠ c∧(F m).n=(F c).n∧(F m).s < (F c).s + B c (F c).n (F c).r∧(F m).p < (F c).p + A c (F c).n (F c).r
  ·refine KS hcm' fun hne hn h1 h2=>?_
   have ap:=s.apart c m (hN c (List.mem_cons_of_mem _ hc)) (hN m List.mem_cons_self) hne.symm
   have hBm:=hB m (F m).n (F m).r
   have hAm:=hA m (F m).n (F m).r
   have hAc:=hA c (F c).n (F c).r
   have hv:(F m).p + A m (F m).n (F m).r≤(F c).p:=by
    refine Si ap (fun h=>?_) (fun h=>?_) (fun h=>?_) (fun h=>?_) (fun h=>?_)
    ·exact absurd hn.symm h
    ·exact (aj3 (.l (.a .v0 .v1) .v2 (.t .v2 (.a .v0 .v1) .e)) rfl h h2).elim
    ·exact h
    ·exact (aj3 (.l (.a .v0 .v1) .v2 (.t .v2 (.a .v0 .v1) .e)) rfl h h1).elim
    ·exact (aj3 (.l (.a .v0 .v1) .v2 (.l .v2 .v0 (.t .n0 .v1 .e))) rfl h hcm hBm).elim
   refine ⟨m,List.mem_cons_self,fun d hd hdm hdn hh=>?_⟩
   have hd':=(List.mem_cons.mp hd).resolve_left hdm
   by_cases hdc:d=c
   ·subst hdc;exact aj3 (.l (.a .v0 .v1) .v2 (.t .v2 (.a .v0 .v1) .e)) rfl hv hh.2
   ·have h3:=hp'.1 d hd'
    exact hmin d hd' hdc (hdn.trans hn) ⟨by exact ai4 .lt .v0 (.a .v1 .v2) (.t .v3 (.a .v1 .v2) (.l .v0 .v3 .e)) rfl h1 h3,by exact ai5 .lt .v0 (.a .v1 .v2) (.t .v0 (.a .v3 .v4) (.l (.a .v3 .v4) .v1 (.t .n0 .v2 .e))) rfl hh.2 hv hAc⟩
  ·refine ⟨c,List.mem_cons_of_mem _ hc,fun d hd hdc hdn hh=>?_⟩
   refine Or.elim (List.mem_cons.mp hd) (fun e=>?_) (fun hd'=>?_)
   ·subst e;exact hcm' ⟨hdc,hdn,hh⟩
   ·exact hmin d hd' hdc hdn hh
theorem Steps.done {F:Cfg} {c:Nat} {S:Nat→Prop} (hc:c < N) (sF:Sound A B Ins N F) (hS:∀ d,d < N→d ≠ c→S d→(F d).n=(F c).n→¬ ((F d).s < (F c).s + B c (F c).n (F c).r∧(F d).p < (F c).p + A c (F c).n (F c).r)) {is:List Nat} {X Y:Cfg} (h:Steps A B Ins N is X Y) (sX:Sound A B Ins N X)
  (hFY:∀ j,(F j).le (Y j)) (hprim:∀ j,j < N→(X j).n=(F j).n∧(X j).p=(F j).p) (hX:∀ j,j < N→¬ S j→X j=F j) (hA:∀ i n r,0 < A i n r) (hin:c ∈ is):Y c=F c:=by
 induction h with
 | nil=>cases hin
 | @cons i is X Z Y st rest ih=>
  have sZ:=st.sound sX
  have hle:∀ j,(F j).le (Z j):=fun j=>Qp.le_trans (hFY j) (rest.le sZ j)
  have hp':∀ j,j < N→(Z j).n=(F j).n∧(Z j).p=(F j).p:=fun j hj=>Qp.between (hle j) (st.le sX j) (hprim j hj)
  have hX':∀ j,j < N→¬ S j→Z j=F j:=fun j hj hs=>by
   have h2:=st.le sX j
   rw [hX j hj hs] at h2
   exact Qp.le_antisymm h2 (hle j)
  by_cases e:c=i
  ·subst e
   have hfree:∀ j,j < N→j ≠ c→Apart A B c j (F c) (X j):=fun j hj hjc=>by
    by_cases hs:S j
    ·by_cases hn:(X j).n=(F c).n
     ·have hp:=hprim j hj
      have hle':=Qp.le_trans (hle j) (st.le sX j)
      have key:=hS j hj hjc hs (hp.1▸hn)
      have hs':(F j).s≤(X j).s:=Qp.le_s hle' hp
      by_cases h1:(F c).s + B c (F c).n (F c).r≤(X j).s
      ·exact .inr (.inr (.inr (.inl h1)))
      ·refine .inr (.inl ?_)
       rw [hp.2]
       refine Or.elim (Int.lt_or_le (F j).p ((F c).p + A c (F c).n (F c).r)) (fun h2=>?_) (fun h2=>?_)
       ·exact absurd ⟨by exact ai4 .lt .v0 (.a .v1 .v2) (.l .v0 .v3 (.m (.a .v1 .v2) .v3 .e)) rfl hs' h1,h2⟩ key
       ·exact h2
     ·exact .inl fun z=>hn z.symm
    ·rw [hX j hj hs];exact sF.apart c j hc hj hjc.symm
   have h1:=st.least (F c) (sF.ins c hc) hfree
   have e:Z c=F c:=Qp.le_antisymm h1 (hle c)
   have h2:=rest.le sZ c
   rw [e] at h2
   exact Qp.le_antisymm h2 (hFY c)
  ·exact ih sZ hFY hp' hX' ((List.mem_cons.mp hin).resolve_left e)
end
theorem NP {α:Type} {p q:α→Bool} {l:List α} (h1:∀ x ∈ l,p x=true→q x=true) (h2:∃ x ∈ l,q x=true∧p x=false):l.countP p < l.countP q:=by
 refine AZ h2 fun x hx hq hp=>?_
 refine (List.append_of_mem hx).elim fun s h=>h.elim fun t e=>?_
 subst e
 rw [List.countP_append,List.countP_append,List.countP_cons_of_neg (fun z=>nomatch hp.symm.trans z),List.countP_cons_of_pos hq]
 exact Nat.add_lt_add_of_le_of_lt (List.countP_mono_left fun y hy=>h1 y (List.mem_append_left _ hy)) (Nat.lt_succ_of_le (List.countP_mono_left fun y hy=>h1 y (List.mem_append_right _ (List.mem_cons_of_mem _ hy))))
noncomputable def DQ (f:Nat→Nat):Nat→Nat
 | 0=>0
 | n + 1=>DQ f n + f n
theorem MU (h:∀ i,i < n→f i≤g i):DQ f n≤DQ g n:=by
 induction n with
 | zero=>exact Nat.le_refl _
 | succ n ih=>exact Nat.add_le_add (ih fun i hi=>h i (Nat.lt_succ_of_lt hi)) (h n (Nat.lt_succ_self n))
theorem SF (h:∀ i,i < n→f i≤g i) (e:DQ g n≤DQ f n) (i:Nat) (hi:i < n):f i=g i:=by
 induction n with
 | zero=>exact absurd hi (Nat.not_lt_zero _)
 | succ n ih=>
  have h2:=h n (Nat.lt_succ_self n)
  refine Or.elim (Nat.lt_succ_iff_lt_or_eq.mp hi) (fun hl=>?_) (fun hl=>?_)
  ·exact ih (fun i hi=>h i (Nat.lt_succ_of_lt hi)) (Nat.le_of_add_le_add_right (Nat.le_trans e (Nat.add_le_add_left h2 _))) hl
  ·rw [hl];exact Nat.le_antisymm h2 (Nat.le_of_add_le_add_left (Nat.le_trans e (Nat.add_le_add_right (MU fun i hi=>h i (Nat.lt_succ_of_lt hi)) _)))
theorem K4 (h:∀ i,i < n→f i≤b):DQ f n≤n * b:=by
 induction n with
 | zero=>exact Nat.zero_le _
 | succ n ih=>rw [Nat.succ_mul];exact Nat.add_le_add (ih fun i hi=>h i (Nat.lt_succ_of_lt hi)) (h n (Nat.lt_succ_self n))
section
variable {A B:Nat→Nat→Bool→Int} {Ins:Nat→Qp→Prop} {N:Nat}
open Classical in
noncomputable def MY (N:Nat) (F X:Cfg):Nat:=(List.range N).countP fun i=>decide (X i ≠ F i)
structure Round (A B:Nat→Nat→Bool→Int) (Ins:Nat→Qp→Prop) (N:Nat) (X Y:Cfg):Prop where
 ex:∃ is,Steps A B Ins N is X Y∧∀ i,i < N→i ∈ is
theorem Round.sound (h:Round A B Ins N X Y) (s:Sound A B Ins N X):Sound A B Ins N Y:=h.ex.elim fun _ h=>h.1.sound s
theorem Round.le (h:Round A B Ins N X Y) (s:Sound A B Ins N X) (j:Nat):(Y j).le (X j):=h.ex.elim fun _ h=>h.1.le s j
theorem Round.fewer (hA:∀ i n r,0 < A i n r) (hB:∀ i n r,0 < B i n r) (h:Round A B Ins N X Y) (sF:Sound A B Ins N F) (sX:Sound A B Ins N X) (hFY:∀ j,(F j).le (Y j)) (hprim:∀ j,j < N→(X j).n=(F j).n∧(X j).p=(F j).p)
  (ho:∃ i,i < N∧X i ≠ F i):MY N F Y < MY N F X:=by
 classical
 refine AF h.ex fun is st hall=>?_
 have hYX:=st.le sX
 let L:=((List.range N).filter fun i=>decide (X i ≠ F i)).mergeSort fun x y=>decide ((F y).s≤(F x).s)
 have hmem:∀ i,i ∈ L ↔ i < N∧X i ≠ F i:=fun i=>by
  rw [List.mem_mergeSort,List.mem_filter,List.mem_range,decide_eq_true_iff]
 have hsort:L.Pairwise fun x y=>(F y).s≤(F x).s:=by
  have:=List.pairwise_mergeSort (le:=fun x y=>decide ((F y).s≤(F x).s)) (by intro a b c;simp only [decide_eq_true_eq];exact fun z0=>fun z1=>ai3 .le .v0 .v1 (.l .v0 .v2 (.l .v2 .v1 .e)) rfl z1 z0) (by intro a b;simp only [Bool.or_eq_true,decide_eq_true_eq];exact Classical.or_iff_not_imp_left.mpr fun z0=>ai2 .le .v0 .v1 (.m .v1 .v0 .e) rfl z0) ((List.range N).filter fun i=>decide (X i ≠ F i))
  exact this.imp fun h=>of_decide_eq_true h
 refine AF ho fun i0 h0 h0'=>?_
 refine AF (NZ hA hB sF L (fun i hi=>((hmem i).mp hi).1) hsort (List.ne_nil_of_mem ((hmem i0).mpr ⟨h0,h0'⟩))) fun c hc hmin=>?_
 obtain ⟨hcN,hcX⟩:=(hmem c).mp hc
 have hY:Y c=F c:=st.done (S:=fun d=>X d ≠ F d) hcN sF (fun d hd hdc hs=>hmin d ((hmem d).mpr ⟨hd,hs⟩) hdc) sX hFY hprim (fun j _ hs=>Classical.not_not.mp hs) hA (hall c hcN)
 refine NP (fun x hx hp=>?_) ⟨c,List.mem_range.mpr hcN,decide_eq_true hcX,decide_eq_false (not_not_intro hY)⟩
 rw [decide_eq_true_iff] at hp ⊢
 intro e
 have h1:=hYX x
 rw [e] at h1
 exact hp (Qp.le_antisymm h1 (hFY x))
variable {Yk:Nat→Cfg} {M:Nat}
theorem D9 (h0:Sound A B Ins N (Yk 0)) (hr:∀ k,k < M→Round A B Ins N (Yk k) (Yk (k + 1))):∀ k,k≤M→Sound A B Ins N (Yk k)
 | 0,_=>h0
 | k + 1,h=>(hr k h).sound (D9 h0 hr k (Nat.le_of_succ_le h))
theorem GT (h0:Sound A B Ins N (Yk 0)) (hr:∀ k,k < M→Round A B Ins N (Yk k) (Yk (k + 1))):∀ d,j + d≤M→∀ i,(Yk (j + d) i).le (Yk j i)
 | 0,_,_=>Qp.le_refl _
 | d + 1,h,i=>Qp.le_trans ((hr (j + d) h).le (D9 h0 hr _ (Nat.le_of_succ_le h)) i) (GT h0 hr d (Nat.le_of_succ_le h) i)
theorem K7 (hA:∀ i n r,0 < A i n r) (hB:∀ i n r,0 < B i n r) (h0:Sound A B Ins N (Yk 0)) (hr:∀ k,k < M→Round A B Ins N (Yk k) (Yk (k + 1))∧∃ i,i < N∧Yk (k + 1) i ≠ Yk k i) {j e:Nat} (hj:j + e≤M)
  (hprim:∀ i,i < N→(Yk j i).n=(Yk (j + e) i).n∧(Yk j i).p=(Yk (j + e) i).p):e≤N:=by
 have hr':∀ k,k < M→Round A B Ins N (Yk k) (Yk (k + 1)):=fun k hk=>(hr k hk).1
 have sd:=D9 h0 hr'
 have key:∀ d,d≤e→MY N (Yk (j + e)) (Yk (j + d)) + d≤N:=by
  intro d
  induction d with
  | zero=>
   intro _
   refine Nat.le_trans (List.countP_le_length) ?_
   rw [List.length_range];exact Nat.le_refl _
  | succ d ih=>
   intro hd
   have ih:=ih (Nat.le_of_succ_le hd)
   have hlt:j + d < M:=Nat.lt_of_lt_of_le (Nat.add_lt_add_left hd j) hj
   have hle1:∀ i,(Yk (j + e) i).le (Yk (j + d + 1) i):=fun i=>by
    have e':j + d + 1 + (e - (d + 1))=j + e:=(Nat.add_assoc j (d + 1) _).trans (congrArg (j + ·) (Nat.add_sub_cancel' hd))
    have:=GT h0 hr' (j:=j + d + 1) (e - (d + 1)) (Nat.le_trans (Nat.le_of_eq e') hj) i
    rw [e'] at this;exact this
   have hle2:=fun i=>GT h0 hr' (j:=j) d (Nat.le_of_lt hlt) i
   have hle3:∀ i,(Yk (j + e) i).le (Yk (j + d) i):=fun i=>Qp.le_trans (hle1 i) ((hr' (j + d) hlt).le (sd _ (Nat.le_of_lt hlt)) i)
   have hp:∀ i,i < N→(Yk (j + d) i).n=(Yk (j + e) i).n∧(Yk (j + d) i).p=(Yk (j + e) i).p:=fun i hi=>by
    exact Qp.between (hle3 i) (hle2 i) (hprim i hi)
   have hne:∃ i,i < N∧Yk (j + d) i ≠ Yk (j + e) i:=by
    refine AF ((hr (j + d) hlt).2) fun i hi hn=>?_
    refine ⟨i,hi,fun z=>hn ?_⟩
    have h1:=(hr' (j + d) hlt).le (sd _ (Nat.le_of_lt hlt)) i
    have h2:=hle1 i
    rw [z] at h1
    rw [z];exact Qp.le_antisymm h1 h2
   have:=(hr (j + d) hlt).1.fewer hA hB (sd (j + e) hj) (sd _ (Nat.le_of_lt hlt)) hle1 hp hne
   show MY N (Yk (j + e)) (Yk (j + d + 1)) + (d + 1)≤N
   exact an4 .le (.a .v0 (.a .v1 .n1)) .v2 (.t .v0 .v3 (.l (.a .v3 .v1) .v2 .e)) rfl this ih
 have:=key e (Nat.le_refl _)
 exact an3 .le .v0 .v1 (.l (.a .v2 .v0) .v1 .e) rfl this
theorem H9 (hA:∀ i n r,0 < A i n r) (hB:∀ i n r,0 < B i n r) (h0:Sound A B Ins N (Yk 0)) (hr:∀ k,k < M→Round A B Ins N (Yk k) (Yk (k + 1))∧∃ i,i < N∧Yk (k + 1) i ≠ Yk k i) (idx:Qp→Nat)
  (hi:∀ i x y,Ins i x→Ins i y→x.le y→idx x≤idx y∧(idx x=idx y→x.n=y.n∧x.p=y.p)):∀ j,j≤M→j + DQ (fun i=>idx (Yk j i)) N * (N + 1)≤DQ (fun i=>idx (Yk 0 i)) N * (N + 1) + N:=by
 have hr':∀ k,k < M→Round A B Ins N (Yk k) (Yk (k + 1)):=fun k hk=>(hr k hk).1
 have sd:=D9 h0 hr'
 have mono:∀ a d,a + d≤M→∀ i,i < N→idx (Yk (a + d) i)≤idx (Yk a i):=fun a d h i hN=>(hi i _ _ ((sd _ h).ins i hN) ((sd _ (Nat.le_of_add_right_le h)).ins i hN) (GT h0 hr' d h i)).1
 have same:∀ a d,a + d≤M→DQ (fun i=>idx (Yk a i)) N≤DQ (fun i=>idx (Yk (a + d) i)) N→d≤N:=fun a d h hs=>
  K7 hA hB h0 hr h fun i hN=>by
   have e:=SF (fun i hN=>mono a d h i hN) hs i hN
   have:=(hi i _ _ ((sd _ h).ins i hN) ((sd _ (Nat.le_of_add_right_le h)).ins i hN) (GT h0 hr' d h i)).2 e
   exact ⟨this.1.symm,this.2.symm⟩
 have go:∀ n j,j≤n→j≤M→j + DQ (fun i=>idx (Yk j i)) N * (N + 1)≤DQ (fun i=>idx (Yk 0 i)) N * (N + 1) + N:=by
  intro n
  induction n with
  | zero=>intro j hj _;cases Nat.le_zero.mp hj;exact an2 .le (.a .n0 .v0) (.a .v0 .v1) .e rfl
  | succ n ih=>
   intro j hj hM
   refine Or.elim (Nat.lt_or_ge N j) (fun hl=>?_) (fun hl=>?_)
   ·have hc:j - (N + 1) + (N + 1)=j:=Nat.sub_add_cancel hl
    have hlt:DQ (fun i=>idx (Yk j i)) N < DQ (fun i=>idx (Yk (j - (N + 1)) i)) N:=by
     refine Nat.lt_of_not_le fun h=>?_
     have:=same (j - (N + 1)) (N + 1) (hc.symm▸hM) (hc.symm▸h)
     exact am1 (.l (.a .v0 .n1) .v0 .e) rfl this
    have h1:=ih (j - (N + 1)) (by exact an4 .le .v0 .v1 (.q (.a .v0 (.a .v2 .n1)) .v3 (.l .v3 (.a .v1 .n1) .e)) rfl hc hj) (by exact an4 .le .v0 .v1 (.q (.a .v0 (.a .v2 .n1)) .v3 (.l .v3 .v1 .e)) rfl hc hM)
    have h2:(DQ (fun i=>idx (Yk j i)) N + 1) * (N + 1)≤DQ (fun i=>idx (Yk (j - (N + 1)) i)) N * (N + 1):=Nat.mul_le_mul_right _ hlt
    rw [Nat.add_mul,Nat.one_mul] at h2
    exact an6 .le (.a .v0 .v1) (.a .v2 .v3) (.l (.a .v1 (.a .v3 .n1)) .v4 (.l (.a .v5 .v4) (.a .v2 .v3) (.p (.a .v5 (.a .v3 .n1)) .v0 .e))) rfl h2 h1 hc
   ·have h1:DQ (fun i=>idx (Yk j i)) N≤DQ (fun i=>idx (Yk 0 i)) N:=MU fun i hN=>by
     have:=mono 0 j (by exact an2 .le (.a .n0 .v0) .v1 (.l .v0 .v1 .e) rfl hM) i hN
     rw [Nat.zero_add] at this;exact this
    have:=Nat.mul_le_mul_right (N + 1) h1
    exact an4 .le (.a .v0 .v1) (.a .v2 .v3) (.l .v1 .v2 (.l .v0 .v3 .e)) rfl this hl
 exact fun j hj=>go j j (Nat.le_refl _) hj
end
end Mine
namespace Mine
open PySem
set_option genSizeOf false
set_option genInjectivity false
noncomputable def hbt (ss:List Sh) (n:Nat):Bool:=(ss.getD n ⟨0,0,false⟩).b
theorem Kb (h:ss[n]?=some sh):hbt ss n=sh.b:=by unfold hbt;rw [List.getD_eq_getElem?_getD,h];rfl
noncomputable def exA (b r:Bool) (w h:Int):Int:=if b=r then w else h
noncomputable def exB (b r:Bool) (w h:Int):Int:=if b=r then h else w
noncomputable def En.qp (ss:List Sh) (e:En):Qp:=⟨e.n,if hbt ss e.n=true then e.u else e.l,if hbt ss e.n=true then e.l else e.u,e.r⟩
abbrev Dm:=Int × Int × Bool
noncomputable def En.dm (e:En):Dm:=(e.w,e.h,e.t)
noncomputable def G7 (D:List Dm) (i:Nat):Dm:=D.getD i (1,1,false)
noncomputable def Ep (ss:List Sh) (D:List Dm) (i n:Nat) (r:Bool):Int:=exA (hbt ss n) r (G7 D i).1 (G7 D i).2.1
noncomputable def E8 (ss:List Sh) (D:List Dm) (i n:Nat) (r:Bool):Int:=exB (hbt ss n) r (G7 D i).1 (G7 D i).2.1
noncomputable def shP (sh:Sh):Int:=if sh.b=true then sh.H else sh.W
noncomputable def shS (sh:Sh):Int:=if sh.b=true then sh.W else sh.H
structure InSh (ss:List Sh) (D:Dm) (q:Qp) (sh:Sh):Prop where
 at_:ss[q.n]?=some sh
 turn:q.r=true→D.2.2=true
 p0:0≤q.p
 s0:0≤q.s
 p1:q.p + exA sh.b q.r D.1 D.2.1≤shP sh
 s1:q.s + exB sh.b q.r D.1 D.2.1≤shS sh
noncomputable def HZ (ss:List Sh) (D:List Dm) (i:Nat) (q:Qp):Prop:=∃ sh,InSh ss (G7 D i) q sh
noncomputable def dfl:En:=⟨"", 1,1,false,0,0,0,false⟩
noncomputable def cfg (ss:List Sh) (hs:List En):Cfg:=fun i=>(hs.getD i dfl).qp ss
noncomputable def dms (hs:List En):List Dm:=hs.map En.dm
structure Snd (ss:List Sh) (hs:List En):Prop where
 ins:∀ e ∈ hs,∃ sh,InSh ss e.dm (e.qp ss) sh
 apart:hs.Pairwise fun a b=>a.n=b.n→Av a.ot.h a.ot.w a.ot.u a.ot.l b.ot.low
 sz:∀ e ∈ hs,0 < e.w∧0 < e.h
theorem IU (hw:0 < w) (hh:0 < h):0 < exA b r w h:=by unfold exA;split <;> assumption
theorem L1 (hw:0 < w) (hh:0 < h):0 < exB b r w h:=by unfold exB;split <;> assumption
theorem CQ (h:hs[i]?=some e):G7 (dms hs) i=e.dm:=by
 unfold G7 dms;rw [List.getD_eq_getElem?_getD,List.getElem?_map,h];rfl
theorem BO (h:hs[i]?=some e):cfg ss hs i=e.qp ss:=by
 unfold cfg;rw [List.getD_eq_getElem?_getD,h];rfl
theorem UC (h:∀ e ∈ hs,0 < e.w∧0 < e.h) (i:Nat):0 < (G7 (dms hs) i).1∧0 < (G7 (dms hs) i).2.1:=by
 unfold G7 dms
 rw [List.getD_eq_getElem?_getD,List.getElem?_map]
 cases e:hs[i]? with
 | none=>exact ⟨by decide,by decide⟩
 | some x=>exact h x (List.mem_of_getElem? e)
theorem FT {e:En} {b:Bool} (hb:b=true):exA b e.r e.w e.h=e.ot.h∧exB b e.r e.w e.h=e.ot.w:=by
 subst hb;unfold exA exB En.ot;cases e.r <;> exact ⟨rfl,rfl⟩
theorem FS {e:En} {b:Bool} (hb:b=false):exA b e.r e.w e.h=e.ot.w∧exB b e.r e.w e.h=e.ot.h:=by
 subst hb;unfold exA exB En.ot;cases e.r <;> exact ⟨rfl,rfl⟩
theorem KQ {e:En}:e.ot.u=e.u∧e.ot.l=e.l:=by unfold En.ot;cases e.r <;> exact ⟨rfl,rfl⟩
theorem Ds:(A∨B∨C∨D) ↔ (C∨D∨A∨B):=⟨fun h=>GF h (fun h=>.inr (.inr (.inl h))) (fun h=>.inr (.inr (.inr h))) .inl fun h=>.inr (.inl h),fun h=>GF h (fun h=>.inr (.inr (.inl h))) (fun h=>.inr (.inr (.inr h))) .inl fun h=>.inr (.inl h)⟩
theorem HN {ss:List Sh} {a b:En} {A B A' B':Int} (hA:A=exA (hbt ss a.n) a.r a.w a.h) (hB:B=exB (hbt ss a.n) a.r a.w a.h) (hA':A'=exA (hbt ss b.n) b.r b.w b.h) (hB':B'=exB (hbt ss b.n) b.r b.w b.h) :
  ((a.qp ss).n ≠ (b.qp ss).n∨(a.qp ss).p + A≤(b.qp ss).p∨(b.qp ss).p + A'≤(a.qp ss).p∨(a.qp ss).s + B≤(b.qp ss).s∨(b.qp ss).s + B'≤(a.qp ss).s) ↔ (a.n=b.n→Av a.ot.h a.ot.w a.ot.u a.ot.l b.ot.low):=by
 subst hA hB hA' hB'
 by_cases hn:a.n=b.n
 ·have hq:(a.qp ss).n=(b.qp ss).n:=hn
  have h1:(∀ P:Prop,(a.n=b.n→P) ↔ P):=fun P=>⟨fun h=>h hn,fun h _=>h⟩
  rw [h1]
  unfold Av Ot.low
  rw [(KQ (e:=a)).1,(KQ (e:=a)).2,(KQ (e:=b)).1,(KQ (e:=b)).2]
  cases hb:hbt ss a.n with
  | true=>
   have hb':hbt ss b.n=true:=hn▸hb
   rw [hb',(FT (e:=a) rfl).1,(FT (e:=a) rfl).2,(FT (e:=b) rfl).1,(FT (e:=b) rfl).2]
   unfold En.qp;rw [hb,hb']
   exact ⟨fun h=>h.resolve_left (not_not_intro hn),.inr⟩
  | false=>
   have hb':hbt ss b.n=false:=hn▸hb
   rw [hb',(FS (e:=a) rfl).1,(FS (e:=a) rfl).2,(FS (e:=b) rfl).1,(FS (e:=b) rfl).2]
   unfold En.qp;rw [hb,hb']
   exact ⟨fun h=>Ds.mp (h.resolve_left (not_not_intro hn)),fun h=>.inr (Ds.mp h)⟩
 ·exact ⟨fun _ h=>absurd h hn,fun _=>.inl hn⟩
theorem GO {a b:En} (h:a.n=b.n→Av a.ot.h a.ot.w a.ot.u a.ot.l b.ot.low) (e:b.n=a.n):Av b.ot.h b.ot.w b.ot.u b.ot.l a.ot.low:=
 GF (h e.symm) (fun h=>.inr (.inl h)) .inl (fun h=>.inr (.inr (.inr h))) fun h=>.inr (.inr (.inl h))
abbrev Ma (ss:List Sh) (D:List Dm) (N:Nat) (X:Cfg):Prop:=Sound (Ep ss D) (E8 ss D) (HZ ss D) N X
theorem J1 {ss:List Sh} {hs:List En} {i j:Nat} {a b:En} (ha:hs[i]?=some a) (hb:hs[j]?=some b):Apart (Ep ss (dms hs)) (E8 ss (dms hs)) i j (cfg ss hs i) (cfg ss hs j) ↔ (a.n=b.n→Av a.ot.h a.ot.w a.ot.u a.ot.l b.ot.low):=by
 rw [BO ha,BO hb]
 unfold Apart
 exact HN (by unfold Ep;rw [CQ ha];rfl) (by unfold E8;rw [CQ ha];rfl) (by unfold Ep;rw [CQ hb];rfl) (by unfold E8;rw [CQ hb];rfl)
theorem Snd.sound {ss:List Sh} {hs:List En} (h:Snd ss hs):Ma ss (dms hs) hs.length (cfg ss hs) where
 ins i hi:=by
  have e:=List.getElem?_eq_getElem hi
  refine AU (h.ins _ (List.mem_of_getElem? e)) fun sh h=>?_
  rw [BO e]
  exact ⟨sh,by rw [CQ e];exact h⟩
 apart i j hi hj hij:=by
  have ei:=List.getElem?_eq_getElem hi
  have ej:=List.getElem?_eq_getElem hj
  rw [J1 ei ej]
  have hp:=List.pairwise_iff_getElem.mp h.apart
  refine Or.elim (Nat.lt_or_ge i j) (fun hl=>?_) (fun hl=>?_)
  ·exact hp i j hi hj hl
  ·exact GO (hp j i hj hi (Nat.lt_of_le_of_ne hl hij.symm))
theorem Sound.snd (h:Ma ss (dms hs) hs.length (cfg ss hs)) (hz:∀ e ∈ hs,0 < e.w∧0 < e.h):Snd ss hs where
 ins e he:=by
  refine AU (List.mem_iff_getElem?.mp he) fun i hi=>?_
  refine AU (h.ins i (List.getElem?_eq_some_iff.mp hi).1) fun sh h=>?_
  rw [BO hi,CQ hi] at h
  exact ⟨sh,h⟩
 apart:=List.pairwise_iff_getElem.mpr fun i j hi hj hl=>(J1 (List.getElem?_eq_getElem hi) (List.getElem?_eq_getElem hj)).mp (h.apart i j hi hj (Nat.ne_of_lt hl))
 sz:=hz
noncomputable def exT (r:Bool) (a b:Int):Int:=if r=true then b else a
theorem OJ {p p' s s':Int} {R:Prop} (h:p < p'∨(p=p'∧s≤s')) (hr:R):p < p'∨(p=p'∧(s < s'∨(s=s'∧R))):=h.imp id fun h=>⟨h.1,(Int.lt_or_eq_of_le h.2).imp id fun e=>⟨e,hr⟩⟩
theorem V8 {p p' s s':Int} {R:Prop} (h:p < p'∨(p=p'∧s < s')):p < p'∨(p=p'∧(s < s'∨(s=s'∧R))):=h.imp id fun h=>⟨h.1,.inl h.2⟩
theorem Q9 {x y u v:Int} (n:¬ (y < x∨(y=x∧v < u))):x < y∨(x=y∧u≤v):=
 (Int.lt_or_le x y).elim .inl fun h=>(fun e:x=y=>.inr ⟨e,Int.not_lt.mp fun z=>n (.inr ⟨e.symm,z⟩)⟩) (Int.le_antisymm (Int.not_lt.mp fun z=>n (.inl z)) h)
noncomputable def QQ (O:List Bx) (P S a b:Int) (t:Bool):Option Pl3→Prop
 | none=>∀ p' s' r',(r'=true→t=true)→¬ Gd O P S (exT r' a b) (exT r' b a) p' s'
 | some (p,s,r)=>(r=true→t=true)∧Gd O P S (exT r a b) (exT r b a) p s ∧
  ∀ p' s' r',(r'=true→t=true)→Gd O P S (exT r' a b) (exT r' b a) p' s'→p < p'∨(p=p'∧(s < s'∨(s=s'∧(r=true→r'=true))))
theorem Et {C:Bool→Prop} (h0:C false) (h1:C true):∀ r,C r:=Bool.rec h0 h1
theorem Dy {O:List Bx} {P S a b:Int} {t:Bool} (h:Two O P S a b t d):QQ O P S a b t d:=by
 refine Bk h.ex fun d1 d2 f1 f2 f3 e=>?_
 subst e
 cases d2 with
 | none=>
  cases d1 with
  | none=>exact fun p' s'=>Et (fun _=>f1 p' s') fun hr=>f2 (hr rfl) p' s'
  | some x=>exact ⟨nofun,IsMin.good f1,fun p' s'=>Et (fun _ g=>OJ (IsMin.least f1 p' s' g) nofun) fun hr g=>absurd g (f2 (hr rfl) p' s')⟩
 | some y=>
  have ht:t=true:=by
   cases t with
   | true=>rfl
   | false=>exact nomatch f3 rfl
  have f2:=f2 ht
  cases d1 with
  | none=>exact ⟨fun _=>ht,IsMin.good f2,fun p' s'=>Et (fun _ g=>absurd g (f1 p' s')) fun _ g=>OJ (IsMin.least f2 p' s' g) fun _=>rfl⟩
  | some x=>
   by_cases hlt:y.1 < x.1∨(y.1=x.1∧y.2 < x.2)
   ·rw [show Da (some x) (some y)=some (y.1,y.2,true) from if_pos hlt]
    exact ⟨fun _=>ht,IsMin.good f2,fun p' s'=>Et (fun _ g=>V8 (Fd Int.lt_trans Int.lt_of_lt_of_le hlt (IsMin.least f1 p' s' g))) fun _ g=>OJ (IsMin.least f2 p' s' g) fun _=>rfl⟩
   ·rw [show Da (some x) (some y)=some (x.1,x.2,false) from if_neg hlt]
    exact ⟨nofun,IsMin.good f1,fun p' s'=>Et (fun _ g=>OJ (IsMin.least f1 p' s' g) nofun) fun _ g=>OJ (Fd Int.lt_trans Int.le_trans (Q9 hlt) (IsMin.least f2 p' s' g)) nofun⟩
theorem Tc {O:List Bx} (ha:0 < a) (hb:0 < b):∃ d,Two O P S a b t d:=by
 refine AU (KC (O:=O) (P:=P) (S:=S) ha hb) fun d1 f1=>?_
 refine AU (KC (O:=O) (P:=P) (S:=S) hb ha) fun d2 f2=>?_
 cases t with
 | true=>exact ⟨_,d1,d2,f1,fun _=>f2,nofun,rfl⟩
 | false=>exact ⟨_,d1,none,f1,nofun,fun _=>rfl,rfl⟩
noncomputable def Hl (b:Bool) (os:List Ot):List Bx:=if b=true then os.map Ot.low else os.map Ot.lef
noncomputable def De (b:Bool):Pl3→Pl3
 | (u,l,r)=>if b=true then (u,l,r) else (l,u,r)
theorem Ic {w h:Int} {t:Bool} {sh:Sh} {os:List Ot} {r:Option Pl3}:OnL w h t sh os r ↔ Two (Hl sh.b os) (shP sh) (shS sh) (exA sh.b false w h) (exB sh.b false w h) t (r.map (De sh.b)):=by
 obtain ⟨W,H,b⟩:=sh
 cases b with
 | true=>cases r with
  | none=>exact Iff.rfl
  | some x=>exact Iff.rfl
 | false=>cases r with
  | none=>exact Iff.rfl
  | some x=>exact Iff.rfl
theorem L6:exT r (exA b false w h) (exB b false w h)=exA b r w h∧exT r (exB b false w h) (exA b false w h)=exB b r w h:=by
 unfold exT exA exB;cases b <;> cases r <;> exact ⟨rfl,rfl⟩
theorem UD {w h:Int} {t:Bool} {sh:Sh} {os:List Ot} (hw:0 < w) (hh:0 < h):∃ r,OnL w h t sh os r:=by
 refine AU (Tc (O:=Hl sh.b os) (P:=shP sh) (S:=shS sh) (t:=t) (IU (b:=sh.b) (r:=false) hw hh) (L1 (b:=sh.b) (r:=false) hw hh)) fun d hd=>?_
 refine ⟨d.map (De sh.b),Ic.mpr ?_⟩
 have:∀ x:Pl3,De sh.b (De sh.b x)=x:=fun ⟨u,l,r⟩=>by unfold De;cases sh.b <;> rfl
 rw [Option.map_map]
 have e:(De sh.b ∘ De sh.b)=id:=funext this
 rw [e,Option.map_id];exact hd
theorem Lu {w h:Int} {t:Bool} (hw:0 < w) (hh:0 < h):∀ (l:List (Sh × List Ot)) (n:Nat),∃ r,FP (OnL w h t) n l r
 | [],_=>⟨_,.nil⟩
 | (sh,os) :: l,n=>by
  refine AU (UD (t:=t) (sh:=sh) (os:=os) hw hh) fun r hr=>?_
  cases r with
  | some p=>exact ⟨_,.hit hr⟩
  | none=>
   refine AU (Lu (t:=t) hw hh l (n + 1)) fun r' h'=>?_
   exact ⟨r',.miss hr h'⟩
theorem KV (h:FP On n l r) :
  (r=none∧∀ x ∈ l,On x.1 x.2 none)∨(∃ k x p,l[k]?=some x∧On x.1 x.2 (some p)∧r=some (((n + k:Nat):Int),p.1,p.2.1,p.2.2)∧∀ j y,j < k→l[j]?=some y→On y.1 y.2 none):=by
 induction h with
 | nil=>exact .inl ⟨rfl,fun x h=>nomatch h⟩
 | @hit n sh os l p o=>exact .inr ⟨0,(sh,os),p,rfl,o,rfl,fun j y hj=>absurd hj (Nat.not_lt_zero j)⟩
 | @miss n sh os l r o _ ih=>
  refine ih.elim (fun h=>.inl ⟨h.1,List.forall_mem_cons.mpr ⟨o,h.2⟩⟩) fun h=>Be h fun k x p h1 h2 h3 h4=>?_
  refine .inr ⟨k + 1,x,p,h1,h2,h3.trans (by rw [Nat.succ_add_eq_add_succ]),fun j y hj hy=>?_⟩
  cases j with
  | zero=>exact Option.some.inj hy▸o
  | succ j=>exact h4 j y (Nat.lt_of_succ_lt_succ hj) hy
theorem NM {b:Bool} {os:List Ot} {P:Bx→Prop}:(∀ o ∈ Hl b os,P o) ↔ ∀ o ∈ os,P (if b=true then o.low else o.lef):=by
 cases b with
 | true=>exact List.forall_mem_map
 | false=>exact List.forall_mem_map
noncomputable def En.to (e:En) (n:Nat) (u l:Int) (r:Bool):En:={ e with n:=n,u:=u,l:=l,r:=r }
noncomputable def A4 (ss:List Sh) (e:En) (q:Qp):En:=e.to q.n (if hbt ss q.n=true then q.p else q.s) (if hbt ss q.n=true then q.s else q.p) q.r
theorem Cv:(A4 ss e q).qp ss=q:=by
 unfold A4 En.to En.qp
 cases h:hbt ss q.n <;> simp [h]
theorem Pu {ss:List Sh} {hs:List En} {skip:Option Str} {e:En} {sh:Sh} (hsh:ss[e.n]?=some sh):Gd (Hl sh.b (An hs skip e.n)) (shP sh) (shS sh) (exA sh.b e.r e.w e.h) (exB sh.b e.r e.w e.h) (e.qp ss).p (e.qp ss).s ↔
  (0≤(e.qp ss).p∧0≤(e.qp ss).s∧(e.qp ss).p + exA sh.b e.r e.w e.h≤shP sh∧(e.qp ss).s + exB sh.b e.r e.w e.h≤shS sh)∧∀ x ∈ hs,x.n=e.n→Bu skip x.name=true→Av e.ot.h e.ot.w e.ot.u e.ot.l x.ot.low:=by
 have hb:=Kb hsh
 have key:(∀ o ∈ Hl sh.b (An hs skip e.n),Av (exA sh.b e.r e.w e.h) (exB sh.b e.r e.w e.h) (e.qp ss).p (e.qp ss).s o) ↔ ∀ x ∈ hs,x.n=e.n→Bu skip x.name=true→Av e.ot.h e.ot.w e.ot.u e.ot.l x.ot.low:=by
  rw [NM]
  have h1:∀ x:En,x.n=e.n→(Av (exA sh.b e.r e.w e.h) (exB sh.b e.r e.w e.h) (e.qp ss).p (e.qp ss).s (if sh.b=true then x.ot.low else x.ot.lef) ↔ Av e.ot.h e.ot.w e.ot.u e.ot.l x.ot.low):=fun x hn=>by
   unfold En.qp
   rw [hb]
   cases hbb:sh.b with
   | true=>
    rw [(FT (e:=e) rfl).1,(FT (e:=e) rfl).2,(KQ (e:=e)).1,(KQ (e:=e)).2]
    exact Iff.rfl
   | false=>
    rw [(FS (e:=e) rfl).1,(FS (e:=e) rfl).2,(KQ (e:=e)).1,(KQ (e:=e)).2]
    exact Ds
  refine ⟨fun h x hx hn hk=>(h1 x hn).mp (h x.ot (List.mem_map.mpr ⟨x,List.mem_filter.mpr ⟨hx,by rw [decide_eq_true hn,hk];rfl⟩,rfl⟩)),fun h o ho=>?_⟩
  refine AF (List.mem_map.mp ho) fun x hx ze1=>?_;subst ze1
  obtain ⟨hx,hp⟩:=List.mem_filter.mp hx
  have hp:=Bool.and_eq_true_iff.mp hp
  exact (h1 x (of_decide_eq_true hp.1)).mpr (h x hx (of_decide_eq_true hp.1) hp.2)
 exact ⟨fun g=>⟨⟨g.p0,g.s0,g.p1,g.s1⟩,key.mp g.clear⟩,fun g=>⟨g.1.1,g.1.2.1,g.1.2.2.1,g.1.2.2.2,key.mpr g.2⟩⟩
structure Ok (ss:List Sh) (hs:List En) (skip:Option Str) (e:En):Prop where
 ins:∃ sh,InSh ss e.dm (e.qp ss) sh
 clear:∀ x ∈ hs,x.n=e.n→Bu skip x.name=true→Av e.ot.h e.ot.w e.ot.u e.ot.l x.ot.low
theorem QO {ss:List Sh} {hs:List En} {skip:Option Str} {k:Nat} {x:Sh × List Ot} (h:(ss.zip (AS ss.length hs skip))[k]?=some x):ss[k]?=some x.1∧x.2=An hs skip k:=by
 rw [List.getElem?_zip_eq_some] at h
 obtain ⟨h1,h2⟩:=h
 rw [Ch (List.getElem?_eq_some_iff.mp h1).1] at h2
 exact ⟨h1,(Option.some.inj h2).symm⟩
theorem Gp {ss:List Sh} {hs:List En} {skip:Option Str} {k:Nat} {sh:Sh} (h:ss[k]?=some sh):(ss.zip (AS ss.length hs skip))[k]?=some (sh,An hs skip k):=by
 rw [List.getElem?_zip_eq_some]
 exact ⟨h,Ch (List.getElem?_eq_some_iff.mp h).1⟩
theorem RF:(if b=true then (De b p).1 else (De b p).2.1)=p.1∧(if b=true then (De b p).2.1 else (De b p).1)=p.2.1∧(De b p).2.2=p.2.2:=by
 cases b <;> exact ⟨rfl,rfl,rfl⟩
theorem DA {ss:List Sh} {hs:List En} {skip:Option Str} {e:En} {r:Option Pl4} (F:FP (OnL e.w e.h e.t) 0 (ss.zip (AS ss.length hs skip)) r) :
  (r=none∧∀ q:Qp,¬ Ok ss hs skip (A4 ss e q))∨(∃ q:Qp,r=some ((q.n:Int),(A4 ss e q).u,(A4 ss e q).l,q.r)∧Ok ss hs skip (A4 ss e q)∧∀ q':Qp,Ok ss hs skip (A4 ss e q')→q.le q'):=by
 have gd:∀ {q:Qp} {sh},ss[q.n]?=some sh→Ok ss hs skip (A4 ss e q)→(q.r=true→e.t=true)∧Gd (Hl sh.b (An hs skip q.n)) (shP sh) (shS sh) (exT q.r (exA sh.b false e.w e.h) (exB sh.b false e.w e.h)) (exT q.r (exB sh.b false e.w e.h) (exA sh.b false e.w e.h)) q.p q.s:=fun {q sh} hsh ok=>by
  refine AU ok.ins fun sh' i=>?_
  have g:=Pu (ss:=ss) (hs:=hs) (skip:=skip) (e:=A4 ss e q) hsh
  rw [Cv] at i g
  rw [L6.1,L6.2]
  have i:InSh ss (A4 ss e q).dm q sh:=Option.some.inj (i.at_.symm.trans hsh)▸i
  exact ⟨i.turn,g.mpr ⟨⟨i.p0,i.s0,i.p1,i.s1⟩,ok.clear⟩⟩
 have nog:∀ (q:Qp) sh,ss[q.n]?=some sh→OnL e.w e.h e.t sh (An hs skip q.n) none→¬ Ok ss hs skip (A4 ss e q):=fun q sh hsh o ok=>Dy (Ic.mp o) q.p q.s q.r (gd hsh ok).1 (gd hsh ok).2
 have hin:∀ {q:Qp},Ok ss hs skip (A4 ss e q)→∃ sh,ss[q.n]?=some sh:=fun {q} ok=>AU ok.ins fun sh i=>by rw [Cv] at i;exact ⟨sh,i.at_⟩
 refine (KV F).elim (fun h=>.inl ⟨h.1,fun q ok=>(hin ok).elim fun sh i=>nog q sh i (h.2 _ (List.mem_of_getElem? (Gp i))) ok⟩) fun h=>.inr (Be h fun k x p h1 h2 h3 h4=>?_)
 refine (QO h1).elim fun hs1 hs2=>?_
 have T:=Dy (Ic.mp h2)
 have hbk:hbt ss k=x.1.b:=Kb hs1
 have un:=RF (b:=x.1.b) (p:=p)
 have qe:(k:Int)=((0 + k:Nat):Int):=by rw [Nat.zero_add]
 rw [hs2] at T
 have g:=Pu (ss:=ss) (hs:=hs) (skip:=skip) (e:=A4 ss e ⟨k,(De x.1.b p).1,(De x.1.b p).2.1,(De x.1.b p).2.2⟩) hs1
 have T2:=T.2.1
 rw [L6.1,L6.2] at T2
 rw [Cv] at g
 refine ⟨⟨k,(De x.1.b p).1,(De x.1.b p).2.1,(De x.1.b p).2.2⟩,?_,⟨⟨x.1,?_⟩,(g.mp T2).2⟩,fun q' ok=>?_⟩
 ·rw [h3,← qe]
  unfold A4 En.to
  dsimp only
  rw [hbk,un.1,un.2.1,un.2.2]
 ·rw [Cv];exact ⟨hs1,T.1,T2.p0,T2.s0,T2.p1,T2.s1⟩
 ·refine (hin ok).elim fun sh' i=>?_
  refine O4 (Nat.lt_trichotomy q'.n k) (fun hlt=>?_) (fun heq=>?_) .inl
  ·exact absurd ok (nog q' sh' i (h4 q'.n _ hlt (Gp i)))
  ·have g':=gd (heq.symm▸hs1) ok
   rw [heq] at g'
   exact .inr ⟨heq.symm,T.2.2 q'.p q'.s q'.r g'.1 g'.2⟩
end Mine
namespace Mine
open PySem
set_option genSizeOf false
set_option genInjectivity false
structure FirstOf (ss:List Sh) (hs:List En) (e e':En):Prop where
 to:e'=e.to e'.n e'.u e'.l e'.r
 fp:FP (OnL e.w e.h e.t) 0 (ss.zip (AS ss.length hs (some e.name))) (some ((e'.n:Int),e'.u,e'.l,e'.r))
theorem DD:A4 ss e (e.qp ss)=e:=by
 unfold A4 En.to En.qp
 cases hbt ss e.n <;> rfl
theorem FR {α:Type} {l:List α} {i:Nat} {x y:α} (h:l[i]?=some x):(l.set i y)[i]?=some y:=List.getElem?_set_self (List.getElem?_eq_some_iff.mp h).1
theorem Q7 (h:j ≠ i):cfg ss (hs.set i e) j=cfg ss hs j:=by
 unfold cfg;rw [List.getD_eq_getElem?_getD,List.getD_eq_getElem?_getD,List.getElem?_set_ne h.symm]
theorem Ey {α:Type} {l:List α} {i:Nat} {x:α} (h:l[i]?=some x):l.set i x=l:=by
 refine AU (List.getElem?_eq_some_iff.mp h) fun hi ze1=>?_;subst ze1
 exact List.set_getElem_self hi
theorem MR (h:hs[i]?=some e) (hd:e'.dm=e.dm):dms (hs.set i e')=dms hs:=by
 unfold dms
 rw [List.map_set,hd]
 exact Ey (by rw [List.getElem?_map,h];rfl)
theorem Hj {hs:List En} {i:Nat} {e e':En} (h:hs[i]?=some e) (hd:e'.name=e.name):(hs.set i e').map (·.name)=hs.map (·.name):=by
 rw [List.map_set,hd]
 exact Ey (by rw [List.getElem?_map,h];rfl)
theorem Le {hs:List En} {i j:Nat} {a b:En} (hn:(hs.map (·.name)).Nodup) (ha:hs[i]?=some a) (hb:hs[j]?=some b) (h:j ≠ i):b.name ≠ a.name:=fun e=>by
 refine h ((List.getElem?_inj (by rw [List.length_map];exact (List.getElem?_eq_some_iff.mp hb).1) hn).mp ?_)
 rw [List.getElem?_map,List.getElem?_map,ha,hb]
 exact congrArg some e
theorem DV:Bu (some x) y=true ↔ y ≠ x:=by
 unfold Bu
 rw [Bool.not_eq_true',beq_eq_false_iff_ne]
 exact ⟨fun h e=>h (congrArg some e.symm),fun h e=>h (Option.some.inj e).symm⟩
abbrev Oq (ss:List Sh) (D:List Dm) (N i:Nat) (X Y:Cfg):Prop:=Step (Ep ss D) (E8 ss D) (HZ ss D) N i X Y
abbrev RG (ss:List Sh) (D:List Dm) (N:Nat) (is:List Nat) (X Y:Cfg):Prop:=Steps (Ep ss D) (E8 ss D) (HZ ss D) N is X Y
theorem E5 {ss:List Sh} {hs:List En} {i:Nat} {e:En} {q:Qp} (hn:(hs.map (·.name)).Nodup) (hi:hs[i]?=some e):(∀ x ∈ hs,x.n=(A4 ss e q).n→Bu (some e.name) x.name=true→Av (A4 ss e q).ot.h (A4 ss e q).ot.w (A4 ss e q).ot.u (A4 ss e q).ot.l x.ot.low) ↔
  ∀ j,j < hs.length→j ≠ i→Apart (Ep ss (dms hs)) (E8 ss (dms hs)) i j q (cfg ss hs j):=by
 have key:∀ j x,hs[j]?=some x→(Apart (Ep ss (dms hs)) (E8 ss (dms hs)) i j q (cfg ss hs j) ↔ ((A4 ss e q).n=x.n→Av (A4 ss e q).ot.h (A4 ss e q).ot.w (A4 ss e q).ot.u (A4 ss e q).ot.l x.ot.low)):=fun j x hx=>by
  have:=HN (ss:=ss) (a:=A4 ss e q) (b:=x) (A:=Ep ss (dms hs) i q.n q.r) (B:=E8 ss (dms hs) i q.n q.r) (A':=Ep ss (dms hs) j x.n x.r) (B':=E8 ss (dms hs) j x.n x.r) (by unfold Ep;rw [CQ hi];rfl) (by unfold E8;rw [CQ hi];rfl) (by unfold Ep;rw [CQ hx];rfl) (by unfold E8;rw [CQ hx];rfl)
  rw [Cv] at this
  rw [BO hx];exact this
 refine ⟨fun h j hj hji=>?_,fun h x hx hxn hk=>?_⟩
 ·have hx:=List.getElem?_eq_getElem hj
  exact (key j _ hx).mpr fun hxn=>h _ (List.mem_of_getElem? hx) hxn.symm (DV.mpr (Le hn hi hx hji))
 ·refine AU (List.mem_iff_getElem?.mp hx) fun j hj=>?_
  refine (key j x hj).mp (h j (List.getElem?_eq_some_iff.mp hj).1 fun z=>DV.mp hk ?_) hxn.symm
  subst z
  rw [hi] at hj;cases hj;rfl
theorem HV (s:Snd ss hs) (hn:(hs.map (·.name)).Nodup) (hi:hs[i]?=some e) (F:FP (OnL e.w e.h e.t) 0 (ss.zip (AS ss.length hs (some e.name))) r) :
  ∃ e',r=some ((e'.n:Int),e'.u,e'.l,e'.r)∧FirstOf ss hs e e'∧Oq ss (dms hs) hs.length i (cfg ss hs) (cfg ss (hs.set i e')):=by
 have hlt:=(List.getElem?_eq_some_iff.mp hi).1
 have so:=s.sound
 rcases DA F with ⟨e1,h⟩ | ⟨q,e1,ok,least⟩
 ·exfalso
  refine h (e.qp ss) ⟨?_,(E5 hn hi).mpr fun j hj hji=>?_⟩
  ·rw [DD];exact s.ins e (List.mem_of_getElem? hi)
  ·have:=so.apart i j hlt hj hji.symm
   rw [BO hi] at this;exact this
 ·refine ⟨A4 ss e q,e1,⟨rfl,e1▸F⟩,⟨hlt,fun j hj=>Q7 hj,?_,fun j hj hji=>?_,fun q' hin hfree=>?_⟩⟩
  ·rw [BO (FR hi),Cv]
   refine AU ok.ins fun sh h=>?_
   rw [Cv] at h
   exact ⟨sh,by rw [CQ hi];exact h⟩
  ·rw [BO (FR hi),Cv]
   exact (E5 hn hi).mp ok.clear j hj hji
  ·rw [BO (FR hi),Cv]
   refine AU hin fun sh h=>?_
   rw [CQ hi] at h
   exact least q' ⟨⟨sh,by rw [Cv];exact h⟩,(E5 hn hi).mpr hfree⟩
inductive Rnd (ss:List Sh):List Nat→List En→List (En × En)→List En→Prop
 | nil {hs:List En}:Rnd ss [] hs [] hs
 | stay {i:Nat} {is:List Nat} {hs hs':List En} {e:En} {mv:List (En × En)}:hs[i]?=some e→FirstOf ss hs e e→Rnd ss is hs mv hs'→Rnd ss (i :: is) hs mv hs'
 | move {i:Nat} {is:List Nat} {hs hs':List En} {e e':En} {mv:List (En × En)}:hs[i]?=some e→FirstOf ss hs e e'→e'.qp ss ≠ e.qp ss→Rnd ss is (hs.set i e') mv hs'→Rnd ss (i :: is) hs ((e,e') :: mv) hs'
theorem Rnd.append (h:Rnd ss is hs mv hs') (h':Rnd ss js hs' mv' hs''):Rnd ss (is ++ js) hs (mv ++ mv') hs'':=by
 induction h with
 | nil=>exact h'
 | stay a b _ ih=>exact .stay a b (ih h')
 | move a b c _ ih=>exact .move a b c (ih h')
theorem FirstOf.dm (h:FirstOf ss hs e e'):e'.dm=e.dm∧e'.name=e.name:=by rw [h.to];exact ⟨rfl,rfl⟩
theorem Rnd.same {ss:List Sh} {is:List Nat} {hs hs':List En} {mv:List (En × En)} (h:Rnd ss is hs mv hs'):dms hs'=dms hs∧hs'.map (·.name)=hs.map (·.name)∧mv.length≤is.length∧(mv=[]→hs'=hs∧∀ i ∈ is,∃ e,hs[i]?=some e∧FirstOf ss hs e e):=by
 induction h with
 | nil=>exact ⟨rfl,rfl,Nat.le_refl _,fun _=>⟨rfl,fun _ h=>nomatch h⟩⟩
 | stay a b _ ih=>exact ⟨ih.1,ih.2.1,Nat.le_succ_of_le ih.2.2.1,fun hm=>⟨(ih.2.2.2 hm).1,fun j hj=>(List.mem_cons.mp hj).elim (fun z=>z▸⟨_,a,b⟩) ((ih.2.2.2 hm).2 j)⟩⟩
 | move a b c _ ih=>exact ⟨ih.1.trans (MR a b.dm.1),ih.2.1.trans (Hj a b.dm.2),Nat.succ_le_succ ih.2.2.1,fun hm=>nomatch hm⟩
theorem Dl (h:dms hs'=dms hs):hs'.length=hs.length:=by
 have:=congrArg List.length h
 unfold dms at this
 rwa [List.length_map,List.length_map] at this
theorem TG (h:dms hs'=dms hs) (hz:∀ e ∈ hs,0 < e.w∧0 < e.h):∀ e ∈ hs',0 < e.w∧0 < e.h:=fun e he=>by
 have:e.dm ∈ dms hs':=List.mem_map.mpr ⟨e,he,rfl⟩
 rw [h] at this
 refine AF (List.mem_map.mp this) fun x hx e1=>?_
 have:=hz x hx
 have e2:x.w=e.w∧x.h=e.h:=⟨congrArg (·.1) e1,congrArg (fun d:Dm=>d.2.1) e1⟩
 rw [e2.1,e2.2] at this;exact this
theorem GR (s:Snd ss hs) (hn:(hs.map (·.name)).Nodup) (hi:hs[i]?=some e) (F:FirstOf ss hs e e'):Oq ss (dms hs) hs.length i (cfg ss hs) (cfg ss (hs.set i e')):=by
 refine AZ (HV s hn hi F.fp) fun e'' h1 h2 h3=>?_
 have:e'=e'':=by
  rw [F.to,h2.to]
  have h1:=Option.some.inj h1
  rw [Prod.mk.injEq,Prod.mk.injEq,Prod.mk.injEq] at h1
  rw [Int.ofNat.inj h1.1,h1.2.1,h1.2.2.1,h1.2.2.2]
 rw [this];exact h3
theorem Rnd.steps {ss:List Sh} {is:List Nat} {hs hs':List En} {mv:List (En × En)} (h:Rnd ss is hs mv hs') (s:Snd ss hs) (hn:(hs.map (·.name)).Nodup):RG ss (dms hs) hs.length is (cfg ss hs) (cfg ss hs')∧Snd ss hs'∧(mv ≠ []→∃ i,i < hs.length∧cfg ss hs' i ≠ cfg ss hs i):=by
 induction h with
 | nil=>exact ⟨.nil,s,fun h=>absurd rfl h⟩
 | @stay i is hs hs' e mv a b _ ih=>
  refine Bm (ih s hn) fun h1 h2 h3=>?_
  refine ⟨.cons ?_ h1,h2,h3⟩
  have:=GR s hn a b
  rw [Ey a] at this;exact this
 | @move i is hs hs' e e' mv a b c rest ih=>
  have st:=GR s hn a b
  have hd:=MR a b.dm.1
  have hl:(hs.set i e').length=hs.length:=List.length_set ..
  have s':Snd ss (hs.set i e'):=Sound.snd (by rw [hd,hl];exact st.sound s.sound) (TG hd s.sz)
  refine Bm (ih s' (by rw [Hj a b.dm.2];exact hn)) fun h1 h2 h3=>?_
  rw [hd,hl] at h1
  refine ⟨.cons st h1,h2,fun _=>⟨i,st.lt,fun z=>c ?_⟩⟩
  have l1:=h1.le (st.sound s.sound) i
  rw [z] at l1
  have l2:=st.le s.sound i
  have:=Qp.le_antisymm l2 l1
  rw [BO (FR a),BO a] at this;exact this
inductive Rnds (ss:List Sh) (hs:List En):Nat→List (En × En)→List En→Prop
 | nil:Rnds ss hs 0 [] hs
 | next {k:Nat} {mv mv':List (En × En)} {hs' hs'':List En} {p:List Nat}:Rnds ss hs k mv hs'→p.Perm (List.range hs'.length)→p.Pairwise (BJ (hs'.map (En.key ss)))→Rnd ss p hs' mv' hs''→mv' ≠ []→Rnds ss hs (k + 1) (mv ++ mv') hs''
theorem Rnds.same (h:Rnds ss hs k mv hs'):dms hs'=dms hs∧hs'.map (·.name)=hs.map (·.name)∧mv.length≤k * hs.length:=by
 induction h with
 | nil=>exact ⟨rfl,rfl,by simp⟩
 | @next k mv mv' hs' hs'' p _ hp _ hr _ ih=>
  have:=hr.same
  refine ⟨this.1.trans ih.1,this.2.1.trans ih.2.1,?_⟩
  have h1:=this.2.2.1
  rw [hp.length_eq,List.length_range,Dl ih.1] at h1
  rw [List.length_append,Nat.succ_mul]
  exact Nat.add_le_add ih.2.2 h1
theorem Rnds.seq (h:Rnds ss hs k mv hs') (s:Snd ss hs) (hn:(hs.map (·.name)).Nodup):Snd ss hs'∧∃ Y:Nat→Cfg,Y 0=cfg ss hs∧Y k=cfg ss hs' ∧
  ∀ j,j < k→Round (Ep ss (dms hs)) (E8 ss (dms hs)) (HZ ss (dms hs)) hs.length (Y j) (Y (j + 1))∧∃ i,i < hs.length∧Y (j + 1) i ≠ Y j i:=by
 induction h with
 | nil=>exact ⟨s,fun _=>cfg ss hs,rfl,rfl,fun j hj=>absurd hj (Nat.not_lt_zero j)⟩
 | @next k mv mv' hs' hs'' p h hp _ hr hm ih=>
  refine Ez ih fun s' Y y0 yk yr=>?_
  have hsame:=h.same
  refine Bm (hr.steps s' (by rw [hsame.2.1];exact hn)) fun h1 h2 h3=>?_
  have hl:=Dl hsame.1
  rw [hsame.1,hl] at h1
  rw [hl] at h3 hp
  have hY:∃ Y':Nat→Cfg,(∀ j,j≤k→Y' j=Y j)∧Y' (k + 1)=cfg ss hs'':=⟨fun j=>if j≤k then Y j else cfg ss hs'',fun j h=>if_pos h,if_neg (Nat.not_succ_le_self k)⟩
  refine AF hY fun Y' y1 y2=>⟨h2,Y',(y1 0 (Nat.zero_le k)).trans y0,y2,fun j hj=>?_⟩
  refine Or.elim (Nat.lt_succ_iff_lt_or_eq.mp hj) (fun hlt=>?_) (fun e=>?_)
  ·rw [y1 j (Nat.le_of_lt hlt),y1 (j + 1) hlt];exact yr j hlt
  ·rw [e,y1 k (Nat.le_refl k),y2,yk]
   exact ⟨⟨p,h1,fun i hi=>hp.mem_iff.mpr (List.mem_range.mpr hi)⟩,h3 hm⟩
noncomputable def EK (N L K:Nat):Nat:=N * (L * K) * (N + 1) + N
theorem Rnds.bound {k:Nat} {K:Nat} (h:Rnds ss hs k mv hs') (s:Snd ss hs) (hn:(hs.map (·.name)).Nodup) (hK:∀ sh ∈ ss,shP sh≤K):k≤EK hs.length ss.length K:=by
 refine Ez (h.seq s hn) fun _ Y y0 _ yr=>?_
 have hz:=UC s.sz
 have low:∀ i x,HZ ss (dms hs) i x→x.n < ss.length∧0≤x.p∧x.p.toNat < K:=fun i x h=>h.elim fun sh h=>
  ⟨(List.getElem?_eq_some_iff.mp h.at_).1,h.p0,(Int.toNat_lt h.p0).mpr (Int.lt_of_lt_of_le (Int.lt_add_of_pos_right _ (IU (hz i).1 (hz i).2)) (Int.le_trans h.p1 (hK sh (List.mem_of_getElem? h.at_))))⟩
 have so:Sound (Ep ss (dms hs)) (E8 ss (dms hs)) (HZ ss (dms hs)) hs.length (Y 0):=y0▸s.sound
 have:=H9 (M:=k) (Yk:=Y) (fun i n r=>IU (hz i).1 (hz i).2) (fun i n r=>L1 (hz i).1 (hz i).2) so yr (fun q=>q.n * K + q.p.toNat) (fun i x y hx hy hxy=>by
  have h1:=low i x hx
  have h2:=low i y hy
  refine (Qp.le_np hxy).elim (fun hlt=>?_) fun heq=>?_
  ·have:(x.n + 1) * K≤y.n * K:=Nat.mul_le_mul_right K hlt
   rw [Nat.succ_mul] at this
   have lt:=Nat.lt_of_lt_of_le (Nat.add_lt_add_left h1.2.2 _) (Nat.le_trans this (Nat.le_add_right _ y.p.toNat))
   exact ⟨Nat.le_of_lt lt,fun e=>absurd e (Nat.ne_of_lt lt)⟩
  ·rw [heq.1]
   exact ⟨Nat.add_le_add_left (Int.toNat_le_toNat heq.2) _,fun e=>⟨rfl,(Int.toNat_of_nonneg h1.2.1).symm.trans ((congrArg Nat.cast (Nat.add_left_cancel e)).trans (Int.toNat_of_nonneg h2.2.1))⟩⟩) k (Nat.le_refl _)
 have h0:DQ (fun i=>(Y 0 i).n * K + (Y 0 i).p.toNat) hs.length≤hs.length * (ss.length * K):=K4 fun i hi=>by
  have h1:=low i _ (so.ins i hi)
  have:((Y 0 i).n + 1) * K≤ss.length * K:=Nat.mul_le_mul_right K h1.1
  rw [Nat.succ_mul] at this
  exact Nat.le_trans (Nat.add_le_add_left (Nat.le_of_lt h1.2.2) _) this
 have h2:=Nat.mul_le_mul_right (hs.length + 1) h0
 unfold EK
 exact an5 .le .v0 (.a .v1 .v2) (.l (.a .v0 .v3) (.a .v4 .v2) (.l .v4 .v1 .e)) rfl this h2
end Mine
namespace Mine
open PySem
set_option genSizeOf false
set_option genInjectivity false
noncomputable def En.by (m:Int) (e:En):En:=⟨e.name,e.w * m,e.h * m,e.t,e.n,e.u * m,e.l * m,e.r⟩
theorem En.by_ot {m:Int} {e:En}:(e.by m).ot=e.ot.by m:=by unfold En.ot En.by Ot.by;cases e.r <;> rfl
theorem BU {m:Int} {hs:List En}:(hs.map (En.by m)).map (·.name)=hs.map (·.name):=by rw [List.map_map];rfl
theorem OK {m:Int} {hs:List En} {skip:Option Str} {i:Nat}:An (hs.map (En.by m)) skip i=(An hs skip i).map (Ot.by m):=by
 unfold An
 rw [List.filter_map,List.map_map,List.map_map]
 exact List.map_congr_left fun e _=>En.by_ot
theorem UY {m:Int} {ss:List Sh} {hs:List En} {skip:Option Str}:(ss.map (Sh.by m)).zip (AS (ss.map (Sh.by m)).length (hs.map (En.by m)) skip)=(ss.zip (AS ss.length hs skip)).map fun x=>(x.1.by m,x.2.map (Ot.by m)):=by
 have e:AS (ss.map (Sh.by m)).length (hs.map (En.by m)) skip=(AS ss.length hs skip).map (List.map (Ot.by m)):=by
  unfold AS
  rw [List.length_map,List.map_map]
  exact List.map_congr_left fun i _=>OK
 rw [e,List.zip_map]
 exact List.map_congr_left fun ⟨_,_⟩ _=>rfl
theorem FB {m:Int} {ss:List Sh} {hs:List En} {skip:Option Str} {w h:Int} {t:Bool} {r d:Option Pl4} (hm:0 < m) (F:FP (OnP (w * m) (h * m) t) 0 ((ss.map (Sh.by m)).zip (AS (ss.map (Sh.by m)).length (hs.map (En.by m)) skip)) r)
  (G:FP (OnL w h t) 0 (ss.zip (AS ss.length hs skip)) d):r=by4 m d:=by
 rw [UY] at F
 exact U1 hm F G
theorem Th:((ss.map (Sh.by m)).getD n ⟨0,0,false⟩).b=hbt ss n:=by
 unfold hbt
 rw [List.getD_eq_getElem?_getD,List.getD_eq_getElem?_getD,List.getElem?_map]
 cases ss[n]? <;> rfl
noncomputable def Ms (q:Qp):List Int:=[(q.n:Int),q.p,q.s,b2i q.r]
theorem Iv {ss:List Sh} {e:En}:e.key ss=Ms (e.qp ss):=by
 unfold En.key GG Ms En.qp
 show (if hbt ss e.n=true then _ else _)=_
 cases hbt ss e.n <;> rfl
theorem P4 {m:Int} {ss:List Sh} {e:En}:(e.by m).key (ss.map (Sh.by m))=[((e.qp ss).n:Int),(e.qp ss).p * m,(e.qp ss).s * m,b2i e.r]:=by
 unfold En.key GG En.qp En.by
 rw [Th]
 dsimp only
 cases hbt ss e.n <;> rfl
theorem TX:b2i a < b2i b ↔ a=false∧b=true:=by cases a <;> cases b <;> decide
theorem Hz:Ab [n,p,s,b2i r] [n',p',s',b2i r']=true ↔ n < n'∨(n=n'∧(p < p'∨(p=p'∧(s < s'∨(s=s'∧(r=false∧r'=true)))))):=by
 unfold Ab
 by_cases h:n=n'
 ·rw [if_pos h]
  unfold Ab
  by_cases h':p=p'
  ·rw [if_pos h']
   unfold Ab
   by_cases h'':s=s'
   ·rw [if_pos h'']
    unfold Ab
    by_cases h3:b2i r=b2i r'
    ·rw [if_pos h3]
     refine ⟨(fun e=>nomatch e),fun e=>?_⟩
     have e:=e.resolve_left (by exact ai2 .nlt .v0 .v1 (.p .v0 .v1 .e) rfl h)
     have e:=e.2.resolve_left (by exact ai2 .nlt .v0 .v1 (.p .v0 .v1 .e) rfl h')
     have e:=e.2.resolve_left (by exact ai2 .nlt .v0 .v1 (.p .v0 .v1 .e) rfl h'')
     rw [e.2.1,e.2.2] at h3;cases h3
    ·rw [if_neg h3,decide_eq_true_iff,TX]
     exact ⟨fun e=>.inr ⟨h,.inr ⟨h',.inr ⟨h'',e⟩⟩⟩,fun e=>(((e.resolve_left (by exact ai2 .nlt .v0 .v1 (.p .v0 .v1 .e) rfl h)).2.resolve_left (by exact ai2 .nlt .v0 .v1 (.p .v0 .v1 .e) rfl h')).2.resolve_left (by exact ai2 .nlt .v0 .v1 (.p .v0 .v1 .e) rfl h'')).2⟩
   ·rw [if_neg h'',decide_eq_true_iff]
    exact ⟨fun e=>.inr ⟨h,.inr ⟨h',.inl e⟩⟩,fun e=>(((e.resolve_left (by exact ai2 .nlt .v0 .v1 (.p .v0 .v1 .e) rfl h)).2.resolve_left (by exact ai2 .nlt .v0 .v1 (.p .v0 .v1 .e) rfl h')).2).resolve_right fun z=>h'' z.1⟩
  ·rw [if_neg h',decide_eq_true_iff]
   exact ⟨fun e=>.inr ⟨h,.inl e⟩,fun e=>(e.resolve_left (by exact ai2 .nlt .v0 .v1 (.p .v0 .v1 .e) rfl h)).2.resolve_right fun z=>h' z.1⟩
 ·rw [if_neg h,decide_eq_true_iff]
  exact ⟨fun e=>.inl e,fun e=>e.resolve_right fun z=>h z.1⟩
theorem Lh:Ab (Ms x) (Ms y)=true ↔ x.le y∧x ≠ y:=by
 unfold Ms
 rw [Hz]
 constructor
 ·intro h
  refine ⟨?_,fun e=>?_⟩
  ·unfold Qp.le
   rcases h with h | ⟨h1,h | ⟨h2,h | ⟨h3,h4,h5⟩⟩⟩
   ·exact .inl (Int.ofNat_lt.mp h)
   ·exact .inr ⟨Int.ofNat.inj h1,.inl h⟩
   ·exact .inr ⟨Int.ofNat.inj h1,.inr ⟨h2,.inl h⟩⟩
   ·exact .inr ⟨Int.ofNat.inj h1,.inr ⟨h2,.inr ⟨h3,fun _=>h5⟩⟩⟩
  ·subst e
   rcases h with h | ⟨h1,h | ⟨h2,h | ⟨h3,h4,h5⟩⟩⟩
   ·exact aj1 (.t .v0 .v0 .e) rfl h
   ·exact aj1 (.t .v0 .v0 .e) rfl h
   ·exact aj1 (.t .v0 .v0 .e) rfl h
   ·rw [h4] at h5;cases h5
 ·rintro ⟨h,hne⟩
  unfold Qp.le at h
  rcases h with h | ⟨h1,h | ⟨h2,h | ⟨h3,h4⟩⟩⟩
  ·exact .inl (by exact ai2 .lt .v0 .v1 (.t .v0 .v1 .e) rfl (Int.ofNat_lt.mpr h))
  ·exact .inr ⟨congrArg Int.ofNat h1,.inl h⟩
  ·exact .inr ⟨congrArg Int.ofNat h1,.inr ⟨h2,.inl h⟩⟩
  ·refine .inr ⟨congrArg Int.ofNat h1,.inr ⟨h2,.inr ⟨h3,?_⟩⟩⟩
   cases hx:x.r with
   | true=>exact absurd (Qp.ext h1 h2 h3 (hx.trans (h4 hx).symm)) hne
   | false=>
    cases hy:y.r with
    | false=>exact absurd (Qp.ext h1 h2 h3 (hx.trans hy.symm)) hne
    | true=>exact ⟨rfl,rfl⟩
theorem OF {m:Int} {ss:List Sh} {e e':En} (hm:0 < m):Ab ((e'.by m).key (ss.map (Sh.by m))) ((e.by m).key (ss.map (Sh.by m)))=Ab (e'.key ss) (e.key ss):=by
 rw [Bool.eq_iff_iff,P4,P4,Iv,Iv]
 unfold Ms
 have h1:=fun x y:Int=>FK (x:=x) (y:=y) hm
 have h2:=fun x y:Int=>LA (x:=x) (y:=y) hm
 have e1:(e'.qp ss).r=e'.r:=rfl
 have e2:(e.qp ss).r=e.r:=rfl
 rw [Hz,Hz,h1,h1,h2,h2,e1,e2]
theorem Pb {m:Int} {ss:List Sh} {hs:List En} {p:List Nat} (hm:0 < m) (hp:∀ i ∈ p,i < hs.length) (h:p.Pairwise (BJ ((hs.map (En.by m)).map (En.key (ss.map (Sh.by m)))))):p.Pairwise (BJ (hs.map (En.key ss))):=by
 refine List.Pairwise.imp_of_mem (fun {a b} ha hb h=>?_) h
 have key:∀ i,i < hs.length→∃ e:En,(hs.map (En.key ss)).getD i []=e.key ss∧((hs.map (En.by m)).map (En.key (ss.map (Sh.by m)))).getD i []=(e.by m).key (ss.map (Sh.by m)):=fun i hi=>by
  refine ⟨hs[i],?_,?_⟩
  ·rw [List.getD_eq_getElem?_getD,List.getElem?_map,List.getElem?_eq_getElem hi];rfl
  ·rw [List.getD_eq_getElem?_getD,List.getElem?_map,List.getElem?_map,List.getElem?_eq_getElem hi];rfl
 refine AF (key a (hp a ha)) fun x x1 x2=>?_
 refine AF (key b (hp b hb)) fun y y1 y2=>?_
 unfold BJ at h ⊢
 rw [x2,y2,OF hm,OF hm] at h
 rw [x1,y1];exact h
theorem Esok.by {m:Int} {ss:List Sh} {hs:List En} (E:Esok ss hs):Esok (ss.map (Sh.by m)) (hs.map (En.by m)) where
 nodup:=by rw [BU];exact E.nodup
 num e he:=by refine AF (List.mem_map.mp he) fun x hx ze1=>?_;subst ze1;rw [List.length_map];exact E.num x hx
 str e he:=by refine AF (List.mem_map.mp he) fun x hx ze1=>?_;subst ze1;exact E.str x hx
 len:=by rw [List.length_map];exact E.len
theorem RO {f:En→V} {es:List En} {i:Nat} {e e':En} (hn:(es.map (·.name)).Nodup) (hi:es[i]?=some e) (he:e'.name=e.name):put e.name (f e') (es.map fun e=>(e.name,f e))=(es.set i e').map fun e=>(e.name,f e):=by
 unfold put
 rw [if_pos (by rw [JJ];exact decide_eq_true (List.mem_map.mpr ⟨e,List.mem_of_getElem? hi,rfl⟩)),List.map_map]
 apply List.ext_getElem?
 intro j
 rw [List.getElem?_map,List.getElem?_map]
 by_cases hj:j=i
 ·subst hj
  rw [hi,FR hi]
  show some (if e.name=e.name then (e.name,f e') else _)=some (e'.name,f e')
  rw [if_pos rfl,he]
 ·rw [List.getElem?_set_ne (Ne.symm hj)]
  cases hx:es[j]? with
  | none=>rfl
  | some x=>
   show some (if x.name=e.name then (x.name,f e') else (x.name,f x))=some (x.name,f x)
   rw [if_neg (Le hn hi hx hj)]
theorem Ly {f:En→V} {es:List En} {x:Str}:del x (es.map fun e=>(e.name,f e))=(es.filter fun e=>decide (e.name ≠ x)).map fun e=>(e.name,f e):=by
 unfold del
 rw [List.filter_map];rfl
noncomputable def KpR (B P:Nat) (σ σ':AD):Prop:=∀ (x:Nat) (o:O),x ≠ 1→x ≠ B→x ≠ P→σ[x]?=some o→σ'[x]?=some o
theorem KpR.trans (h:KpR B P σ σ') (h':KpR B P σ' σ''):KpR B P σ σ'':=fun x o h1 h2 h3 e=>h' x o h1 h2 h3 (h x o h1 h2 h3 e)
theorem KpR.pre (h:σ <+: σ'):KpR B P σ σ':=fun _ _ _ _ _ e=>AN h e
theorem KpR.kpB (h:KpB 1 σ σ'):KpR B P σ σ':=fun x o h1 _ _ e=>h x o h1 e
theorem KpR.setP:KpR B P σ (σ.set P o):=fun _ _ _ _ h3 e=>AI (Ne.symm h3) e
theorem TabN.set {k:Nat} {T:Addr} {σ:AD} {ln col:Int} {q:Str} {n:Nat} {o o':O} (t:TabN k T σ ln col q) (e:σ[n]?=some o) (h:∀ T ln col m,o ≠ .tab T∧o ≠ .row T ln col m) (hc:∀ q,o ≠ .code q):TabN k T (σ.set n o') ln col q:=by
 cases t with
 | tab e1=>exact .tab (AI (fun z=>by subst z;rw [e1] at e;cases e;exact (h T 0 0 0).1 rfl) e1)
 | row m e1 e2=>exact .row m (AI (fun z=>by subst z;rw [e1] at e;cases e;exact (h T ln col m).2 rfl) e1) (AI (fun z=>by subst z;rw [e2] at e;cases e;exact hc q rfl) e2)
theorem TabN.pre (t:TabN k T σ ln col q) (p:σ <+: σ'):TabN k T σ' ln col q:=by
 cases t with
 | tab e1=>exact .tab (AN p e1)
 | row m e1 e2=>exact .row m (AN p e1) (AN p e2)
theorem Rk.setO (R:Rk C σ r shs es S B P epB epP) (e:σ[n]?=some (.list vs)) (hn:n ≠ S):Rk C (σ.set n o) r shs es S B P epB epP:=by
 have kp:∀ (x:Nat) (ob:O),σ[x]?=some ob→(∀ vs,ob ≠ .list vs)→(σ.set n o)[x]?=some ob:=fun x ob h hd=>AI (fun z=>by subst z;rw [e] at h;cases h;exact hd _ rfl) h
 refine AF R.at_.ex fun m h1 h2=>?_
 exact ⟨⟨m,kp _ _ h1 nofun,kp _ _ h2 nofun⟩,AI hn R.sh,kp _ _ R.bx nofun,kp _ _ R.pl nofun⟩
theorem Rk.setP (R:Rk C σ r shs es S B P epB epP) (hBP:B ≠ P) (hb:Bz es'=Bz es):Rk C (σ.set P (.dict ep (Bj es'))) r shs es' S B P epB ep:=by
 have kp:∀ (x:Nat) (ob:O),σ[x]?=some ob→(∀ ep vs,ob ≠ .dict ep vs)→(σ.set P (.dict ep (Bj es')))[x]?=some ob:=fun x ob h hd=>AI (fun z=>by subst z;rw [R.pl] at h;cases h;exact hd _ _ rfl) h
 refine AF R.at_.ex fun m h1 h2=>?_
 exact ⟨⟨m,kp _ _ h1 nofun,kp _ _ h2 nofun⟩,kp _ _ R.sh nofun,hb▸AI hBP.symm R.bx,Ai R.pl⟩
noncomputable def mvV (m:Int) (x:En × En):V:=.tup [.str x.1.name,(x.1.by m).pl,(x.2.by m).pl]
theorem Og {m:Int} {hs:List En} {i:Nat} {e e':En} (hi:hs[i]?=some e) (hd:e'.dm=e.dm) (hn:e'.name=e.name):Bz ((hs.set i e').map (En.by m))=Bz (hs.map (En.by m)):=by
 unfold Bz
 rw [List.map_map,List.map_map,List.map_set]
 refine Ey ?_
 rw [List.getElem?_map,hi]
 have h1:e'.w=e.w:=congrArg (·.1) hd
 have h2:e'.h=e.h:=congrArg (fun d:Dm=>d.2.1) hd
 have h3:e'.t=e.t:=congrArg (fun d:Dm=>d.2.2) hd
 show some (e.name,En.box (e.by m))=some (e'.name,En.box (e'.by m))
 unfold En.box En.by
 rw [hn,h1,h2,h3]
theorem R1 (n:Nat) (q:GN C t ss Q n ρ σ):Em t ss C ρ σ Q:=⟨n,q⟩
theorem ER (I:Nat→List V→AD→Prop) (M:Nat) (bound:∀ k ρ σ,I k ρ σ→k≤M)
  (turn:∀ k ρ σ (R:List V→AD→Prop),I k ρ σ→(∀ ρ' σ',I (k + 1) ρ' σ'→R ρ' σ')→t C ρ σ (fun b σ₁=>brW (Bw ss C ρ σ₁ (EN R Q)) (Q .next ρ σ₁) b) (fun c σ₁=>Q (.exc c) ρ σ₁)):∀ (n k:Nat) ρ σ,k + n=M + 1→I k ρ σ→GN C t ss Q n ρ σ
 | 0,k,ρ,σ,hk,h=>by have:=bound k ρ σ h;exact (am2 (.l .v0 .v1 (.p (.a .v0 .n0) (.a .v1 .n1) .e)) rfl this hk).elim
 | n + 1,k,ρ,σ,hk,h=>turn k ρ σ _ h fun ρ' σ' h'=>ER I M bound turn n (k + 1) ρ' σ' (by exact Nat.le_antisymm (an3 .le (.a (.a .v0 .n1) .v1) (.a .v2 .n1) (.q (.a .v0 (.a .v1 .n1)) (.a .v2 .n1) .e) rfl hk) (an3 .le (.a .v0 .n1) (.a (.a .v1 .n1) .v2) (.p (.a .v1 (.a .v2 .n1)) (.a .v0 .n1) .e) rfl hk)) h'
theorem PZ {σ:AD} {n ep:Nat} {kvs:List (Str × V)} {A:Prop} (e:σ[n]?=some (.dict ep kvs)) (q:A):(∃ m ep kvs,V.ref n=.ref m∧σ[m]?=some (.dict ep kvs))∧A:=⟨⟨n,ep,kvs,rfl,e⟩,q⟩
end Mine
namespace Mine
open PySem
set_option genSizeOf false
set_option genInjectivity false
noncomputable def Bt (l:List Nat):Str:=⟨l.toArray⟩
theorem FA:(Bt l).length=l.length:=by
 show l.toArray.size=_
 exact List.size_toArray ..
theorem Eu {x y:Str}:(x ++ y).cps.toList=x.cps.toList ++ y.cps.toList:=by
 show (x.cps ++ y.cps).toList=_
 exact Array.toList_append
theorem E9 {x:Str}:x.length=x.cps.toList.length:=by
 show x.cps.size=_
 exact Array.length_toList.symm
theorem KD {x:Str}:x.cps.all (· < 128)=true ↔ ∀ c ∈ x.cps.toList,c < 128:=by
 rw [← Array.all_toList,List.all_eq_true]
 exact ⟨fun h c hc=>of_decide_eq_true (h c hc),fun h c hc=>decide_eq_true (h c hc)⟩
theorem Lp {α:Type} {l:List α} {a b:Nat} {x:α} (h:x ∈ cut l a b):x ∈ l:=List.mem_of_mem_take (List.mem_of_mem_drop h)
theorem Cx {α:Type} {l:List α} {a b:Nat}:(cut l a b).length≤l.length:=by
 unfold cut
 rw [List.length_drop,List.length_take];exact an3 .le .v0 .v1 (.l .v0 .v2 (.l .v2 .v1 .e)) rfl (Nat.sub_le _ _) (Nat.min_le_right _ _)
theorem B9 (h:0≤k) (h':k≤1000000):BoundK n d (some (.int k)) (min k.toNat n):=by
 have:=BoundK.pos (n:=n) (d:=d) (i:=k.toNat) (j:=min k.toNat n) (Dk (Int.le_trans (by decide) (Int.natCast_nonneg _)) (Int.le_trans (Int.toNat_of_nonneg h▸h') (by decide))) rfl
 rwa [Int.toNat_of_nonneg h] at this
theorem U5 (h:0≤k) (hk:k < 1000000) (e:s.cps[k.toNat]?=some c) (q:Q (.str (Ec c)) σ):SubK σ Q (.str s) (.int k):=
 .str (Dk (Int.le_trans (by decide) h) (Int.le_trans (Int.le_of_lt hk) (by decide))) (Lz h (by
  have:=(Array.getElem?_eq_some_iff.mp e).1
  exact this)) e q
theorem VM (hs:s.length≤1000) (h:0≤k) (hk:k≤1000000) (q:Q (.str (Bt (cut s.cps.toList 0 (min k.toNat s.length)))) σ):SliceK σ Q (.str s) none (some (.int k)):=
 .str (Nat.le_trans hs (by decide)) .no (B9 h hk) q
theorem Uw (hs:s.length≤1000) (h:0≤k) (hk:k≤1000000) (q:Q (.str (Bt (cut s.cps.toList (min k.toNat s.length) s.length))) σ):SliceK σ Q (.str s) (some (.int k)) none:=
 .str (Nat.le_trans hs (by decide)) (B9 h hk) .no q
theorem L5 {α β:Type} {f:α→β} {l:List α} {a b:Nat}:cut (l.map f) a b=(cut l a b).map f:=by
 unfold cut;rw [← List.map_take,← List.map_drop]
section
variable {σ:AD} {Q:AO} {n:Nat} {vs:List V} {k:Int}
theorem DG (e:σ[n]?=some (.list vs)) (h:0≤k) (hk:k≤1000000) (q:Q (.ref σ.length) (σ ++ [.list (cut vs 0 (min k.toNat vs.length))])):SliceK σ Q (.ref n) none (some (.int k)):=.list e .no (B9 h hk) q
theorem KT (e:σ[n]?=some (.list vs)) (h:0≤k) (hk:k≤1000000) (q:Q (.ref σ.length) (σ ++ [.list (cut vs (min k.toNat vs.length) vs.length)])):SliceK σ Q (.ref n) (some (.int k)) none:=.list e (B9 h hk) .no q
theorem Qb (e:σ[n]?=some (.list vs)) (h:0≤k) (hk:k≤1000) (hl:vs.length≤1000) (q:Q (.ref σ.length) (σ ++ [.list (repl vs k.toNat)])):BinK σ Q .mul (.ref n) (.int k):=by
 have h':k.toNat≤1000:=Int.toNat_le.mpr hk
 have:=BinK.mulL (k:=k.toNat) e (Nat.lt_of_le_of_lt h' (by decide)) (Nat.le_trans (Nat.mul_le_mul hl h') (by decide)) q
 rwa [Int.toNat_of_nonneg h] at this
end
theorem Of {s:Sh}:PyData.strOk s.x.s=true:=MX (b:=s.b)
end Mine
namespace Mine
open PySem
set_option genSizeOf false
set_option genInjectivity false
end Mine
namespace Mine
open PySem
end Mine
namespace Mine
open PySem
set_option genSizeOf false
set_option genInjectivity false
noncomputable def En.one (e:En):V:=.tup [.str e.name,.int e.w,.int e.h,.bool e.t,e.pl]
noncomputable def En.boxD (e:En):PyData:=.tuple [.str e.name,.int e.w,.int e.h,.bool e.t]
noncomputable def En.plD (e:En):PyData:=.tuple [.int e.n,.int e.u,.int e.l,.bool e.r]
theorem To {e:En}:e.plD.canLay0=true:=rfl
theorem LR {e:En} (h:PyData.strOk e.name=true):e.boxD.canLay0=true:=by
 unfold En.boxD
 simp only [PyData.canLay0,PyData.canLayAll0,h,Bool.and_self]
section
variable {σ:AD} {K:Bool→Prop} {e:En}
theorem Lm (q:K false):CmpK σ K .NotEq e.pl e.pl:=Cs (x:=e.plD) rfl rfl To q
theorem Qm (h:PyData.strOk e.name=true) (q:K false):CmpK σ K .NotEq e.box e.box:=Cs (x:=e.boxD) rfl rfl (LR h) q
theorem OS (hx:PyData.strOk x=true) (hy:PyData.strOk y=true) (q:x ≠ y→K true) (q':x=y→K false):CmpK σ K .NotEq (.str x) (.str y):=.ne (x:=.str x) (y:=.str y) rfl rfl hx hy (by
 rw [GD]
 by_cases h:x=y
 ·rw [beq_iff_eq.mpr h];exact q' h
 ·rw [beq_eq_false_iff_ne.mpr h];exact q h)
end
theorem F9 (q:Q (.tup [a,b,c,d]) σ):SliceK σ Q (.tup [a,b,c,d,e]) none (some (.int 4)):=
 .tup (x:=0) (y:=4) (show 5≤Ah by decide) .no (BoundK.pos (i:=4) (by decide) rfl) (by show 4 < 5;decide) q
structure GoodName (x:Str):Prop where
 low:x.cps.all (· < 128)=true
 len:x.length≤1000
 good:Ay x=true
 str:PyData.strOk x=true
theorem GJ (h:x.cps.all (· < 128)=true):PyData.strOk x=true:=by
 show x.cps.all (· < 0x110000)=true
 rw [← Array.all_toList,List.all_eq_true]
 exact fun c hc=>decide_eq_true (Nat.lt_of_lt_of_le (KD.mp h c hc) (by decide))
theorem Nt:∀ c ∈ Cw,c < 128:=by decide +kernel
theorem Od (hw:∀ c ∈ w,c ∈ Cw) (hl:w.length≤11) (hk:k≤w.length) (hc:c ∈ Cw):GoodName (Bt (cut w 0 k) ++ Ec c ++ Bt (cut w k w.length)):=by
 have e:(Bt (cut w 0 k) ++ Ec c ++ Bt (cut w k w.length)).cps.toList=cut w 0 k ++ [c] ++ cut w k w.length:=by rw [Eu,Eu];rfl
 have hall:∀ x ∈ cut w 0 k ++ [c] ++ cut w k w.length,x ∈ Cw:=fun x hx=>by
  refine Or.elim (List.mem_append.mp hx) (fun h=>?_) (fun h=>?_)
  ·refine Or.elim (List.mem_append.mp h) (fun h=>?_) (fun h=>?_)
   ·exact hw x (Lp h)
   ·exact List.mem_singleton.mp h▸hc
  ·exact hw x (Lp h)
 have hlen:(cut w 0 k ++ [c] ++ cut w k w.length).length=w.length + 1:=by
  unfold cut
  rw [List.length_append,List.length_append,List.length_drop,List.length_take,List.length_drop,List.length_take,List.length_singleton,Nat.min_eq_left hk,Nat.min_self,Nat.sub_zero,Nat.add_right_comm,Nat.add_sub_cancel' hk]
 have hlow:(Bt (cut w 0 k) ++ Ec c ++ Bt (cut w k w.length)).cps.all (· < 128)=true:=KD.mpr fun x hx=>Nt x (hall x (e▸hx))
 refine ⟨hlow,?_,?_,?_⟩
 ·rw [E9,e,hlen];exact an1 .le (.a .v0 .n1) (.n 1000) (.l .v0 (.n 11) .e) rfl hl
 ·unfold Ay
  rw [E9,e,hlen]
  simp only [Bool.and_eq_true,decide_eq_true_eq,List.all_eq_true]
  exact ⟨by exact an1 .lt .n0 (.a .v0 .n1) .e rfl,by exact an1 .le (.a .v0 .n1) (.n 12) (.l .v0 (.n 11) .e) rfl hl,fun x hx=>hall x hx⟩
 ·exact GJ hlow
noncomputable def F2:List Nat:=(Str.ofString "abcdxyz0189mno").cps.toList
theorem Qh:F2.Nodup∧F2.length=14∧∀ c ∈ F2,c ∈ Cw:=by decide +kernel
structure Names14 (ns:List Str):Prop where
 len:ns.length=14
 nodup:ns.Nodup
 good:∀ x ∈ ns,GoodName x
theorem Nj (hw:∀ c ∈ w,c ∈ Cw) (hl:w.length≤11) (hk:k≤w.length):Names14 (F2.map fun c=>Bt (cut w 0 k) ++ Ec c ++ Bt (cut w k w.length)):=by
 refine ⟨by rw [List.length_map];exact Qh.2.1,?_,fun x hx=>?_⟩
 ·refine List.pairwise_map.mpr (List.Pairwise.imp (fun {a b} h e=>h ?_) Qh.1)
  have e1:=congrArg (fun s:Str=>s.cps.toList) e
  simp only [Eu] at e1
  have e2:=List.append_cancel_right e1
  have e3:=List.append_cancel_left e2
  exact List.head_eq_of_cons_eq (show [a]=[b] from e3)
 ·refine AF (List.mem_map.mp hx) fun c hc ze1=>?_;subst ze1
  exact Od hw hl hk (Qh.2.2 c hc)
theorem N1 (h:j < 36):∃ c,(Str.ofString "abcdefghijklmnopqrstuvwxyz0123456789").cps[j]?=some c∧c ∈ Cw:=by
 have hl:Cw.length=36:=by decide +kernel
 have e:(Str.ofString "abcdefghijklmnopqrstuvwxyz0123456789").cps[j]?=Cw[j]?:=Array.getElem?_toList.symm
 rw [e,List.getElem?_eq_getElem (hl▸h)]
 exact ⟨_,rfl,List.getElem_mem _⟩
structure ShB (w h:Int) (s:Sh):Prop where
 w:1≤s.W∧s.W≤w
 h:1≤s.H∧s.H≤h
end Mine
namespace Mine
open PySem
set_option genSizeOf false
set_option genInjectivity false
section
variable {ss:List Sh} {hs:List En} {skip:Option Str} {e:En} {m:Int}
theorem Nc (h:x ∉ hs.map (·.name)):An hs (some x) i=An hs none i:=by
 unfold An
 refine congrArg (List.map En.ot) (List.filter_congr fun y hy=>?_)
 have hk:Bu (some x) y.name=true:=DV.mpr fun z=>h (by rw [← z];exact List.mem_map.mpr ⟨y,hy,rfl⟩)
 rw [hk];rfl
theorem Jl (h:x ∉ hs.map (·.name)):AS n hs (some x)=AS n hs none:=by
 unfold AS;exact List.map_congr_left fun i _=>Nc h
theorem Snd.add (s:Snd ss hs) (h:Ok ss hs none e) (hz:0 < e.w∧0 < e.h):Snd ss (hs ++ [e]) where
 ins x hx:=(List.mem_append.mp hx).elim (s.ins x) fun z=>List.mem_singleton.mp z▸h.ins
 apart:=List.pairwise_append.mpr ⟨s.apart,List.pairwise_singleton ..,fun a ha b hb=>by
  cases List.mem_singleton.mp hb
  exact GO fun z=>h.clear a ha z.symm rfl⟩
 sz x hx:=(List.mem_append.mp hx).elim (s.sz x) fun z=>List.mem_singleton.mp z▸hz
theorem Snd.ok_own (s:Snd ss hs) (hn:(hs.map (·.name)).Nodup) (he:e ∈ hs):Ok ss hs (some e.name) e:=by
 refine AU (List.mem_iff_getElem?.mp he) fun i hi=>?_
 have so:=s.sound
 refine ⟨s.ins e he,?_⟩
 have:=(E5 (q:=e.qp ss) hn hi).mpr fun j hj hji=>by
  have:=so.apart i j (List.getElem?_eq_some_iff.mp hi).1 hj hji.symm
  rw [BO hi] at this;exact this
 rw [DD] at this
 exact this
theorem Esok.add (E:Esok ss hs) (hn:e.name ∉ hs.map (·.name)) (hs1:PyData.strOk e.name=true) (hlt:e.n < ss.length) (hl:hs.length < 62):Esok ss (hs ++ [e]) where
 nodup:=by
  rw [List.map_append]
  exact List.nodup_append.mpr ⟨E.nodup,List.pairwise_singleton ..,fun a ha b hb z=>by
   cases List.mem_singleton.mp hb
   have z:a=e.name:=z
   exact hn (by rw [← z];exact ha)⟩
 num x hx:=(List.mem_append.mp hx).elim (E.num x) fun z=>List.mem_singleton.mp z▸hlt
 str x hx:=(List.mem_append.mp hx).elim (E.str x) fun z=>List.mem_singleton.mp z▸hs1
 len:=by rw [List.length_append,List.length_singleton];exact an1 .lt (.a .v0 .n1) (.n 63) (.t .v0 (.n 62) .e) rfl hl
theorem Mz:(hs.map (En.by m)).filter (fun y=>decide (y.name ≠ x))=(hs.filter fun y=>decide (y.name ≠ x)).map (En.by m):=by
 rw [List.filter_map];rfl
end
end Mine
namespace Mine
open PySem
set_option genSizeOf false
set_option genInjectivity false
theorem Hc (hy:1≤y∧y≤5) (hm:1≤m∧m≤200000):A9 (y * m):=
 ⟨Int.mul_le_mul hy.1 hm.1 (by decide) (Int.le_trans (by decide) hy.1),Int.mul_le_mul hy.2 hm.2 (Int.le_trans (by decide) hm.1) (by decide)⟩
section
variable {m:Int} {ss:List Sh} {ns:List Str} {B P:Nat}
end
theorem HK {α:Type} [DecidableEq α]:∀ {l l':List α},l.Nodup→(∀ x ∈ l,x ∈ l')→l.length≤l'.length
 | [],_,_,_=>Nat.zero_le _
 | x :: l,l',hn,hs=>by
  have hn':=List.nodup_cons.mp hn
  have hx:=hs x List.mem_cons_self
  have h1:=HK (l:=l) (l':=l'.erase x) hn'.2 fun y hy=>(List.mem_erase_of_ne (show y ≠ x from fun z=>hn'.1 (by rw [← z];exact hy))).mpr (hs y (List.mem_cons_of_mem _ hy))
  have h2:=List.length_erase_of_mem hx
  have h3:=List.length_pos_of_mem hx
  rw [List.length_cons];exact an4 .le (.a .v0 .n1) .v1 (.l .v0 .v2 (.q .v2 .v3 (.q (.a .v3 .n1) .v1 .e))) rfl h1 h2 (Nat.sub_add_cancel (an1 .le .n1 .v0 (.t .n0 .v0 .e) rfl h3))
section
variable {hs:List En} {e:En} {x:Str}
theorem Jt (h:x ∉ hs.map (·.name)):(hs.filter fun y=>decide (y.name ≠ x))=hs:=
 List.filter_eq_self.mpr fun z hz=>decide_eq_true fun q=>h (by rw [← q];exact List.mem_map.mpr ⟨z,hz,rfl⟩)
end
end Mine
namespace Mine
open PySem
set_option genSizeOf false
set_option genInjectivity false
theorem FZ:∀ (hs:List En) (L:Int),B4 (L * m * m) n (hs.map (En.by m))=B4 L n hs * m * m
 | [],_=>rfl
 | e :: hs,L=>by
  show B4 (if (e.by m).n=n then L * m * m - (e.by m).w * (e.by m).h else L * m * m) n (hs.map (En.by m))=B4 (if e.n=n then L - e.w * e.h else L) n hs * m * m
  by_cases h:e.n=n
  ·rw [if_pos (show (e.by m).n=n from h),if_pos h,← FZ hs]
   congr 1
   show L * m * m - e.w * m * (e.h * m)=(L - e.w * e.h) * m * m
   rw [Int.sub_mul,Int.sub_mul]
   congr 1
   rw [Int.mul_assoc e.w m,Int.mul_left_comm m e.h m,← Int.mul_assoc,Int.mul_assoc (e.w * e.h)]
  ·rw [if_neg (show ¬ (e.by m).n=n from h),if_neg h,FZ hs]
end Mine
namespace Mine
open PySem
noncomputable def Bx.sw (o:Bx):Bx:=⟨o.s,o.p,o.sl,o.pl⟩
theorem VF {O:List Bx} (g:Gd O P S a b p s):Gd (O.map Bx.sw) S P b a s p:=⟨g.s0,g.p0,g.s1,g.p1,List.forall_mem_map.mpr fun o ho=>Ds.mp (g.clear o ho)⟩
theorem Tb {O:List Bx} (g:Gd (O.map Bx.sw) S P b a s p):Gd O P S a b p s:=⟨g.s0,g.p0,g.s1,g.p1,fun o ho=>Ds.mp (g.clear _ (List.mem_map.mpr ⟨o,ho,rfl⟩))⟩
noncomputable def Ux (O:List Bx) (p:Int):Prop:=p=0∨∃ o ∈ O,p=o.p + o.pl
noncomputable def Ur (O:List Bx) (s:Int):Prop:=s=0∨∃ o ∈ O,s=o.s + o.sl
theorem Pw {O:List Bx} (g:Gd O P S a b p s) (h:∀ p' s',Gd O P S a b p' s'→p < p'∨(p=p'∧s≤s')):Ux O p∧Ur O s:=
 ⟨AZ (Gf g) fun e e1 e2 e3=>(h e s e3).elim (fun z=>absurd e1 (Int.not_le.mpr z)) fun z=>z.1▸e2.imp id fun h=>h.2,
  AZ (Gf (VF g)) fun e e1 e2 e3=>(h p e (Tb e3)).elim (fun z=>absurd z (Int.lt_irrefl p)) fun z=>Int.le_antisymm z.2 e1▸e2.imp id fun h=>AF h.2 fun o ho he=>AF (List.mem_map.mp ho) fun o' ho' e'=>⟨o',ho',he.trans (e'▸rfl)⟩⟩
theorem KH {O:List Bx} (h:QQ O P S a b t (some p)):Ux O p.1∧Ur O p.2.1:=
 Pw h.2.1 fun p' s' g=>(h.2.2 p' s' p.2.2 h.1 g).imp id fun z=>⟨z.1,z.2.elim Int.le_of_lt fun z=>Int.le_of_eq z.1⟩
noncomputable def U9 (x y:Int × Int):Prop:=x.1 < y.1∨(x.1=y.1∧x.2 < y.2)
noncomputable def NB (T:List (Int × Int)) (x:Int × Int):Prop:=∃ A B,T=A ++ x :: B∧∀ y ∈ A,U9 y x
theorem SM (hp:T.Pairwise Du) (hx:x ∈ T):NB T x:=by
 refine BL (List.eq_append_cons_of_mem hx) fun A B e n=>⟨A,B,e,fun y hy=>?_⟩
 rw [e] at hp
 exact Or.imp id (fun h:y.1=x.1∧y.2≤x.2=>⟨h.1,(Int.lt_or_eq_of_le h.2).resolve_right fun z=>n (Prod.ext (x:=y) (y:=x) h.1 z▸hy)⟩) ((List.pairwise_append.mp hp).2.2 y hy x List.mem_cons_self)
theorem LQ {x:Int} (hp:l.Pairwise (·≤·)) (hx:x ∈ l):∃ A B,l=A ++ x :: B∧∀ y ∈ A,y < x:=by
 refine BL (List.eq_append_cons_of_mem hx) fun A B e n=>⟨A,B,e,fun y hy=>?_⟩
 rw [e] at hp
 exact (Int.lt_or_eq_of_le ((List.pairwise_append.mp hp).2.2 y hy x List.mem_cons_self)).resolve_right fun z=>n (z▸hy)
noncomputable def pairsOf (us ls:List Int):List (Int × Int):=us.flatMap fun u=>ls.map fun l=>(u,l)
theorem GY {u l:Int} (hu:us.Pairwise (·≤·)) (hl:ls.Pairwise (·≤·)) (mu:u ∈ us) (ml:l ∈ ls):NB (pairsOf us ls) (u,l):=by
 refine BL (LQ hu mu) fun A B e h=>BL (LQ hl ml) fun A' B' e' h'=>?_
 refine ⟨pairsOf A ls ++ A'.map fun l=>(u,l),(B'.map fun l=>(u,l)) ++ pairsOf B ls,?_,fun y hy=>?_⟩
 ·unfold pairsOf
  rw [e,List.flatMap_append,List.flatMap_cons,← List.append_assoc]
  conv=>lhs;lhs;rhs;rw [e']
  rw [List.map_append,List.map_cons,List.append_assoc,List.append_assoc,List.append_assoc];rfl
 ·refine (List.mem_append.mp hy).elim (fun hy=>?_) fun hy=>?_
  ·exact AF (List.mem_flatMap.mp hy) fun a ha hy=>AF (List.mem_map.mp hy) fun b _ e=>.inl (e▸h a ha)
  ·exact AF (List.mem_map.mp hy) fun b hb e=>e▸.inr ⟨rfl,h' b hb⟩
noncomputable def psK (b:Bool) (x:Int × Int):Int × Int:=if b=true then x else (x.2,x.1)
noncomputable def GdU (os:List Ot) (W H w h:Int) (tr:Bool) (u l:Int):Prop:=Gd (os.map Ot.low) H W (exT tr h w) (exT tr w h) u l
section
variable {w h:Int} {t:Bool} {sh:Sh} {os:List Ot}
theorem KY (o:OnL w h t sh os none) (u l:Int) (tr:Bool) (hr:tr=true→t=true):¬ GdU os sh.W sh.H w h tr u l:=by
 obtain ⟨W,H,b⟩:=sh
 cases b with
 | true=>exact Dy o u l tr hr
 | false=>exact fun g=>Dy o l u tr hr (F4 g)
theorem Ea (o:OnL w h t sh os (some d)):(d.2.2=true→t=true)∧GdU os sh.W sh.H w h d.2.2 d.1 d.2.1∧∀ u l tr,(tr=true→t=true)→GdU os sh.W sh.H w h tr u l→Du (psK sh.b (d.1,d.2.1)) (psK sh.b (u,l))∧(d.1=u→d.2.1=l→d.2.2=true→tr=true):=by
 have key:∀ {p s p' s':Int} {A:Prop},p < p'∨(p=p'∧(s < s'∨(s=s'∧A)))→Du (p,s) (p',s')∧(p=p'→s=s'→A):=fun h=>
  ⟨h.imp id fun h=>⟨h.1,h.2.elim Int.le_of_lt fun h=>Int.le_of_eq h.1⟩,fun e1 e2=>h.elim (fun z=>absurd e1 (Int.ne_of_lt z)) fun z=>z.2.elim (fun z=>absurd e2 (Int.ne_of_lt z)) fun z=>z.2⟩
 obtain ⟨W,H,b⟩:=sh
 cases b with
 | true=>
  have o:=Dy o
  exact ⟨o.1,o.2.1,fun u l tr hr g=>key (o.2.2 u l tr hr g)⟩
 | false=>
  have o:QQ (os.map Ot.lef) W H w h t (some (d.2.1,d.1,d.2.2)):=Dy o
  exact ⟨o.1,OA o.2.1,fun u l tr hr g=>by
   have k:=key (o.2.2 l u tr hr (F4 g))
   exact ⟨k.1,fun e1 e2=>k.2 e2 e1⟩⟩
theorem LZ:psK b (psK b x)=x:=by cases b <;> rfl
theorem OG (o:OnL w h t sh os (some d)) (hs:NB T (psK sh.b (d.1,d.2.1))):∃ A B,T.map (psK sh.b)=A ++ (d.1,d.2.1) :: B∧∀ y ∈ A,∀ tr,(tr=true→t=true)→¬ GdU os sh.W sh.H w h tr y.1 y.2:=by
 refine BL hs fun A B e hA=>⟨A.map (psK sh.b),B.map (psK sh.b),?_,fun y hy tr hr g=>?_⟩
 ·rw [e,List.map_append,List.map_cons,LZ]
 ·refine AF (List.mem_map.mp hy) fun x hx e'=>?_
  have k:=((Ea o).2.2 y.1 y.2 tr hr g).1
  rw [show psK sh.b (y.1,y.2)=x from (congrArg (psK sh.b) e'.symm).trans LZ] at k
  exact (Fd (x:=x.1) Int.lt_trans (T:=x.2 < x.2) Int.lt_of_lt_of_le (hA x hx) k).elim (Int.lt_irrefl _) fun z=>Int.lt_irrefl _ z.2
theorem US (g:GdU os sh.W sh.H w h tr u l):∃ O a b,(a=w∨a=h)∧(b=w∨b=h)∧Gd O (shP sh) (shS sh) a b (psK sh.b (u,l)).1 (psK sh.b (u,l)).2:=by
 obtain ⟨W,H,b⟩:=sh
 cases tr <;> cases b
 ·exact ⟨_,_,_,.inl rfl,.inr rfl,F4 g⟩
 ·exact ⟨_,_,_,.inr rfl,.inl rfl,g⟩
 ·exact ⟨_,_,_,.inr rfl,.inl rfl,F4 g⟩
 ·exact ⟨_,_,_,.inl rfl,.inr rfl,g⟩
theorem Nh (hw:0 < w) (hh:0 < h) (hS:0 < shS sh) (o:OnL w h t sh os (some d)):NB (D6 (shS sh) (shP sh)) (psK sh.b (d.1,d.2.1)):=
 SM (I8 hS) (Ad (US (Ea o).2.1) fun _ a b ha hb g=>Ni (a:=a) (b:=b) (ha.elim (·▸hw) (·▸hh)) (hb.elim (·▸hw) (·▸hh)) g)
noncomputable def Ir (b:Bool) (us ls:List Int):List (Int × Int):=if b=true then pairsOf us ls else pairsOf ls us
theorem QL (hu:us.Pairwise (·≤·)) (hl:ls.Pairwise (·≤·)) (mu:∀ x,x ∈ us ↔ x ∈ 0 :: os.map fun o=>o.u + o.h) (ml:∀ x,x ∈ ls ↔ x ∈ 0 :: os.map fun o=>o.l + o.w) (o:OnL w h t sh os (some d)):NB (Ir sh.b us ls) (psK sh.b (d.1,d.2.1)):=by
 have go:∀ {f:Ot→Int} {k:Bx→Int} {q:Ot→Bx} {x:Int},(∀ o,k (q o)=f o)→(x=0∨∃ o ∈ os.map q,x=k o)→x ∈ 0 :: os.map f:=fun hk hx=>
  hx.elim (fun e=>e▸List.mem_cons_self) fun hx=>AF hx fun o' ho e=>AF (List.mem_map.mp ho) fun y hy e'=>List.mem_cons_of_mem _ (List.mem_map.mpr ⟨y,hy,(hk y).symm.trans ((congrArg _ e').trans e.symm)⟩)
 obtain ⟨W,H,b⟩:=sh
 cases b with
 | true=>
  have e:=KH (Dy o)
  exact GY hu hl ((mu _).mpr (go (k:=fun o=>o.p + o.pl) (fun _=>rfl) e.1)) ((ml _).mpr (go (k:=fun o=>o.s + o.sl) (fun _=>rfl) e.2))
 | false=>
  have e:=KH (p:=(d.2.1,d.1,d.2.2)) (Dy o)
  exact GY hl hu ((ml _).mpr (go (k:=fun o=>o.p + o.pl) (fun _=>rfl) e.1)) ((mu _).mpr (go (k:=fun o=>o.s + o.sl) (fun _=>rfl) e.2))
end
section
variable {w h:Int} {t:Bool} {ss:List Sh} {hs:List En} {skip:Option Str} {r:Option Pl4}
theorem Rq (F:FP (OnL w h t) 0 (ss.zip (AS ss.length hs skip)) r) {i:Nat} (hi:ss[i]?=some sh) (hr:∀ x,r=some x→(i:Int)≤x.1) :
  (OnL w h t sh (An hs skip i) none∧∀ x,r=some x→((i + 1:Nat):Int)≤x.1)∨(∃ p,OnL w h t sh (An hs skip i) (some p)∧r=some ((i:Int),p.1,p.2.1,p.2.2)):=by
 refine (KV F).elim (fun z=>.inl ⟨z.2 _ (List.mem_of_getElem? (Gp hi)),fun x e=>Di (z.1.symm.trans e)⟩) fun z=>Be z fun k x p h1 h2 h3 h4=>?_
 rw [Nat.zero_add] at h3
 have hk:=hr _ h3
 refine (Nat.lt_or_eq_of_le (Int.ofNat_le.mp hk)).elim (fun hlt=>?_) fun e=>?_
 ·exact .inl ⟨h4 i _ hlt (Gp hi),fun x e=>by rw [h3] at e;rw [← Option.some.inj e];exact Int.ofNat_le.mpr hlt⟩
 ·subst e
  have:=Option.some.inj (h1.symm.trans (Gp hi))
  subst this
  exact .inr ⟨p,h2,h3⟩
theorem S3 (F:FP (OnL w h t) 0 (ss.zip (AS ss.length hs skip)) r) (hr:∀ x,r=some x→(ss.length:Int)≤x.1):r=none:=by
 refine (KV F).elim (fun z=>z.1) fun z=>Be z fun k x p h1 h2 h3 h4=>?_
 rw [Nat.zero_add] at h3
 have:=Int.ofNat_le.mp (hr _ h3)
 exact absurd (List.getElem?_eq_some_iff.mp (QO h1).1).1 (Nat.not_lt.mpr this)
end
end Mine
namespace Mine
open PySem
noncomputable def En.sz (e:En):List Int:=[-e.h,-e.w]
noncomputable def Srt (bs ts:List En):Prop:=∃ p:List Nat,p.Perm (List.range bs.length)∧p.Pairwise (BJ (bs.map En.sz))∧ts=p.map fun i=>bs.getD i dfl
theorem M6 (h:BJ K i j) (h':BJ K j i):False:=
 h.elim (fun a=>h'.elim (fun b=>Gu (b.symm.trans (EG _ _ a))) fun b=>Gu (a.symm.trans b.1)) fun a=>h'.elim (fun b=>Gu (b.symm.trans a.1)) fun b=>Nat.lt_asymm a.2 b.2
theorem Nl {α:Type} {R:α→α→Prop} (hR:∀ {a b},R a b→R b a→False) {p:List α}:∀ {q:List α},p.Perm q→p.Pairwise R→q.Pairwise R→p=q:=by
 induction p with
 | nil=>intro q h _ _;exact h.nil_eq
 | cons a p ih=>
  intro q h hp hq
  cases q with
  | nil=>exact absurd h.symm (List.not_perm_nil_cons _ _)
  | cons b q=>
   have hp:=List.pairwise_cons.mp hp
   have hq:=List.pairwise_cons.mp hq
   have e:a=b:=Classical.byContradiction fun hne=>hR (hp.1 b ((List.mem_cons.mp (h.mem_iff.mpr List.mem_cons_self)).resolve_left fun z=>hne z.symm)) (hq.1 a ((List.mem_cons.mp (h.mem_iff.mp List.mem_cons_self)).resolve_left hne))
   subst e
   rw [ih h.cons_inv hp.2 hq.2]
theorem Srt.uniq (h:Srt bs ts) (h':Srt bs ts'):ts=ts':=
 AZ h fun p a b c=>AZ h' fun q a' b' c'=>by rw [c,c',Nl M6 (a.trans a'.symm) b b']
theorem OE (hm:0 < m) (a:List Int):∀ b:List Int,Ab (a.map (· * m)) (b.map (· * m))=Ab a b:=by
 induction a with
 | nil=>intro b;cases b <;> rfl
 | cons x a ih=>intro b;cases b with
  | nil=>rfl
  | cons y b=>
   show (if x * m=y * m then Ab (a.map (· * m)) (b.map (· * m)) else decide (x * m < y * m))=if x=y then Ab a b else decide (x < y)
   rw [ih b]
   by_cases e:x=y
   ·rw [if_pos e,if_pos (congrArg (· * m) e)]
   ·rw [if_neg e,if_neg fun z=>e ((LA hm).mp z)];exact decide_eq_decide.mpr (FK hm)
theorem PQ {α β:Type} {f:α→β} {l:List α} {i:Nat} {d:α}:(l.map f).getD i (f d)=f (l.getD i d):=by
 rw [List.getD_eq_getElem?_getD,List.getD_eq_getElem?_getD,List.getElem?_map]
 cases l[i]? <;> rfl
theorem Nw {m:Int} (hm:0 < m) {bs:List En}:BJ ((bs.map (En.by m)).map En.sz)=BJ (bs.map En.sz):=by
 have e:(bs.map (En.by m)).map En.sz=(bs.map En.sz).map fun k=>k.map (· * m):=by
  rw [List.map_map,List.map_map]
  refine List.map_congr_left fun e _=>?_
  show [-(e.h * m),-(e.w * m)]=[-e.h * m,-e.w * m]
  rw [Int.neg_mul,Int.neg_mul]
 rw [e]
 funext i j
 unfold BJ
 have g:∀ i,((bs.map En.sz).map fun k=>k.map (· * m)).getD i []=((bs.map En.sz).getD i []).map (· * m):=fun i=>PQ (f:=fun k:List Int=>k.map (· * m)) (d:=[])
 rw [g,g,OE hm,OE hm]
theorem Tq {K:List (List Int)} {q:List Nat} {k a:Nat} (hp:q.Perm (List.range k)) (hs:q.Pairwise (BJ K)) (h1:∀ j ∈ q.drop a,Ab (K.getD k []) (K.getD j [])=true) (h2:a=0∨∃ i,q[a - 1]?=some i∧Ab (K.getD k []) (K.getD i [])=false) :
  (q.take a ++ k :: q.drop a).Perm (List.range (k + 1))∧(q.take a ++ k :: q.drop a).Pairwise (BJ K):=by
 have lt:∀ i ∈ q,i < k:=fun i hi=>List.mem_range.mp (hp.mem_iff.mp hi)
 constructor
 ·refine List.perm_middle.trans ?_
  rw [List.take_append_drop,List.range_succ]
  exact (List.Perm.cons k hp).trans (List.perm_append_comm (l₁:=[k]))
 ·have hs':=hs
  rw [← List.take_append_drop a q] at hs'
  have hs':=List.pairwise_append.mp hs'
  have key:∀ i ∈ q.take a,BJ K i k:=fun i hi=>by
   refine .inr ⟨?_,lt i (List.mem_of_mem_take hi)⟩
   rcases h2 with z | ⟨z,hz,hn⟩
   ·rw [z] at hi;exact absurd hi List.not_mem_nil
   ·have ha:a=a - 1 + 1:=by
     cases a with
     | zero=>exact absurd hi List.not_mem_nil
     | succ a=>rfl
    rw [ha,Bh hz] at hi
    refine (List.mem_append.mp hi).elim (fun hi=>?_) fun hi=>List.mem_singleton.mp hi▸hn
    have hz':Ab (K.getD z []) (K.getD i [])=false:=(VL hs hz i hi).elim (fun h=>EG _ _ h) fun h=>h.1
    cases e:Ab (K.getD k []) (K.getD i []) with
    | false=>rfl
    | true=>exact (FC _ (K.getD z []) _ e).elim (fun h=>Gu (h.symm.trans hn)) fun h=>Gu (h.symm.trans hz')
  refine List.pairwise_append.mpr ⟨hs'.1,List.pairwise_cons.mpr ⟨fun j hj=>.inl (h1 j hj),hs'.2.1⟩,fun i hi j hj=>?_⟩
  exact (List.mem_cons.mp hj).elim (fun e=>e▸key i hi) fun hj=>hs'.2.2 i hi j hj
theorem Srt.mem (h:Srt bs ts):ts.Perm bs:=by
 refine AZ h fun p a _ c=>?_
 rw [c]
 refine (a.map _).trans (List.Perm.of_eq ?_)
 apply List.ext_getElem?
 intro i
 rw [List.getElem?_map]
 by_cases hi:i < bs.length
 ·rw [List.getElem?_range hi,List.getElem?_eq_getElem hi,Option.map_some,List.getD_eq_getElem?_getD,List.getElem?_eq_getElem hi];rfl
 ·rw [List.getElem?_eq_none (by rw [List.length_range];exact Nat.not_lt.mp hi),List.getElem?_eq_none (Nat.not_lt.mp hi)];rfl
noncomputable def B1 (m:Int) (b:En):Prop:=Ay b.name=true∧A9 (b.w * m)∧A9 (b.h * m)
inductive Pk (ss:List Sh) (m:Int):List En→List Str→List En→Option Nat→List En→List Str→Prop
 | nil {hs:List En} {lf:List Str}:Pk ss m hs lf [] none hs lf
 | bad {hs:List En} {lf:List Str} {b:En} {ts:List En}:¬ B1 m b→Pk ss m hs lf (b :: ts) (some 56) hs lf
 | dup {hs:List En} {lf:List Str} {b:En} {ts:List En}:B1 m b→b.name ∈ hs.map (·.name)→Pk ss m hs lf (b :: ts) (some 68) hs lf
 | put {hs:List En} {lf:List Str} {b:En} {ts:List En} {x:Option Nat} {hs':List En} {lf':List Str} (e:En):B1 m b→b.name ∉ hs.map (·.name)→e=b.to e.n e.u e.l e.r→FP (OnL b.w b.h b.t) 0 (ss.zip (AS ss.length hs (some b.name))) (some ((e.n:Int),e.u,e.l,e.r))→Pk ss m (hs ++ [e]) lf ts x hs' lf'→Pk ss m hs lf (b :: ts) x hs' lf'
 | out {hs:List En} {lf:List Str} {b:En} {ts:List En} {x:Option Nat} {hs':List En} {lf':List Str}:B1 m b→b.name ∉ hs.map (·.name)→FP (OnL b.w b.h b.t) 0 (ss.zip (AS ss.length hs (some b.name))) none→Pk ss m hs (lf ++ [b.name]) ts x hs' lf'→Pk ss m hs lf (b :: ts) x hs' lf'
inductive PkC (ss:List Sh) (m:Int) (hs:List En) (lf:List Str) (b:En) (ts hs':List En) (lf':List Str):Prop
 | put (e:En):B1 m b→b.name ∉ hs.map (·.name)→e=b.to e.n e.u e.l e.r→FP (OnL b.w b.h b.t) 0 (ss.zip (AS ss.length hs (some b.name))) (some ((e.n:Int),e.u,e.l,e.r))→Pk ss m (hs ++ [e]) lf ts none hs' lf'→PkC ss m hs lf b ts hs' lf'
 | out:B1 m b→b.name ∉ hs.map (·.name)→FP (OnL b.w b.h b.t) 0 (ss.zip (AS ss.length hs (some b.name))) none→Pk ss m hs (lf ++ [b.name]) ts none hs' lf'→PkC ss m hs lf b ts hs' lf'
theorem Pk.inv (h:Pk ss m hs lf (b :: ts) none hs' lf'):PkC ss m hs lf b ts hs' lf':=by
 cases h with
 | put e a b c d f=>exact .put e a b c d f
 | out a b c d=>exact .out a b c d
theorem Pk.nil_inv (h:Pk ss m hs lf [] none hs' lf'):hs'=hs∧lf'=lf:=by
 cases h;exact ⟨rfl,rfl⟩
theorem ED {b e:En} (h:e=b.to e.n e.u e.l e.r):e.name=b.name∧e.w=b.w∧e.h=b.h∧e.t=b.t:=by rw [h];exact ⟨rfl,rfl,rfl,rfl⟩
theorem Vh {ss:List Sh} {hs:List En} {b e:En} (hn:b.name ∉ hs.map (·.name)) (he:e=b.to e.n e.u e.l e.r) (F:FP (OnL b.w b.h b.t) 0 (ss.zip (AS ss.length hs (some b.name))) (some ((e.n:Int),e.u,e.l,e.r))):Ok ss hs none e:=by
 refine (DA F).elim (fun h=>HD h.1) fun h=>AZ h fun qq e1 ok _=>?_
 have e2:=Option.some.inj e1
 have:e=A4 ss b qq:=by
  rw [he,Int.ofNat.inj (congrArg (·.1) e2),show e.u=_ from congrArg (·.2.1) e2,show e.l=_ from congrArg (·.2.2.1) e2,show e.r=_ from congrArg (·.2.2.2) e2];rfl
 rw [← this] at ok
 exact ⟨ok.ins,fun x hx hxn _=>ok.clear x hx hxn (DV.mpr fun z=>hn (z▸List.mem_map.mpr ⟨x,hx,rfl⟩))⟩
section
variable {ss:List Sh} {m:Int} {hs hs':List En} {lf lf':List Str} {ts:List En} {x:Option Nat}
theorem FG (hm:0 < m) (h:1≤a * m):0 < a:=by
 refine Int.lt_of_not_ge fun z=>?_
 have:=Int.mul_le_mul_of_nonneg_right z (Int.le_of_lt hm)
 rw [Int.zero_mul] at this
 exact absurd (Int.le_trans h this) (by decide)
structure Kept (ss:List Sh) (hs:List En):Prop where
 E:Esok ss hs
 s:Snd ss hs
theorem Kept.put {b e:En} (k:Kept ss hs) (hm:0 < m) (ok:B1 m b) (hst:PyData.strOk b.name=true) (hn:b.name ∉ hs.map (·.name)) (he:e=b.to e.n e.u e.l e.r) (F:FP (OnL b.w b.h b.t) 0 (ss.zip (AS ss.length hs (some b.name))) (some ((e.n:Int),e.u,e.l,e.r))) (hl:hs.length < 62):Kept ss (hs ++ [e]):=by
 have o:=Vh hn he F
 have t:=ED he
 exact ⟨k.E.add (t.1▸hn) (t.1▸hst) (AU o.ins fun sh h=>(List.getElem?_eq_some_iff.mp h.at_).1) hl,k.s.add o ⟨t.2.1▸FG hm ok.2.1.1,t.2.2.1▸FG hm ok.2.2.1⟩⟩
structure PkE (hs:List En) (lf:List Str) (ts hs':List En) (lf':List Str):Prop where
 pre:hs <+: hs'
 lpre:lf <+: lf'
 lmem:∀ y ∈ lf',y ∈ lf∨y ∈ ts.map (·.name)
 len:hs'.length≤hs.length + ts.length
 llen:lf'.length≤lf.length + ts.length
theorem Pk.facts (r:Pk ss m hs lf ts x hs' lf'):PkE hs lf ts hs' lf':=by
 induction r with
 | nil=>exact ⟨List.prefix_refl _,List.prefix_refl _,fun y h=>.inl h,Nat.le_refl _,Nat.le_refl _⟩
 | bad _=>exact ⟨List.prefix_refl _,List.prefix_refl _,fun y h=>.inl h,Nat.le_add_right _ _,Nat.le_add_right _ _⟩
 | dup _ _=>exact ⟨List.prefix_refl _,List.prefix_refl _,fun y h=>.inl h,Nat.le_add_right _ _,Nat.le_add_right _ _⟩
 | put e _ _ _ _ _ ih=>exact ⟨(List.prefix_append _ _).trans ih.pre,ih.lpre,fun y h=>(ih.lmem y h).imp id fun h=>List.mem_cons_of_mem _ h,Nat.le_trans ih.len (Nat.le_of_eq (by rw [List.length_append];exact (Nat.add_assoc _ 1 _).trans (congrArg _ (Nat.add_comm 1 _)))),Nat.le_trans ih.llen (Nat.add_le_add_left (Nat.le_succ _) _)⟩
 | out _ _ _ _ ih=>exact ⟨ih.pre,(List.prefix_append _ _).trans ih.lpre,fun y h=>(ih.lmem y h).elim (fun h=>(List.mem_append.mp h).imp id fun h=>by rw [List.mem_singleton.mp h];exact List.mem_cons_self) fun h=>.inr (List.mem_cons_of_mem _ h),Nat.le_trans ih.len (Nat.add_le_add_left (Nat.le_succ _) _),Nat.le_trans ih.llen (Nat.le_of_eq (by rw [List.length_append];exact (Nat.add_assoc _ 1 _).trans (congrArg _ (Nat.add_comm 1 _))))⟩
noncomputable def Unl (hs:List En) (ts:List En):Prop:=(ts.map (·.name)).Nodup∧∀ x ∈ ts.map (·.name),x ∉ hs.map (·.name)
theorem Unl.put {b e:En} (u:Unl hs (b :: ts)) (he:e=b.to e.n e.u e.l e.r):Unl (hs ++ [e]) ts:=by
 have n:=List.nodup_cons.mp u.1
 refine ⟨n.2,fun x hx z=>?_⟩
 rw [List.map_append] at z
 refine (List.mem_append.mp z).elim (u.2 x (List.mem_cons_of_mem _ hx)) fun z=>n.1 ?_
 have z:x=b.name:=(List.mem_singleton.mp z).trans (ED he).1
 rw [z] at hx;exact hx
theorem Unl.out {b:En} (u:Unl hs (b :: ts)):Unl hs ts:=⟨(List.nodup_cons.mp u.1).2,fun x hx=>u.2 x (List.mem_cons_of_mem _ hx)⟩
theorem Pk.good (r:Pk ss m hs lf ts x hs' lf'):(∀ b ∈ ts,B1 m b)→Unl hs ts→x=none:=by
 induction r with
 | nil=>exact fun _ _=>rfl
 | bad h=>exact fun g _=>absurd (g _ List.mem_cons_self) h
 | dup _ h=>exact fun _ u=>absurd h (u.2 _ List.mem_cons_self)
 | put e _ _ he _ _ ih=>exact fun g u=>ih (fun b hb=>g b (List.mem_cons_of_mem _ hb)) (u.put he)
 | out _ _ _ _ ih=>exact fun g u=>ih (fun b hb=>g b (List.mem_cons_of_mem _ hb)) u.out
theorem Pk.wrong (r:Pk ss m hs lf ts x hs' lf'):Unl hs ts→(∃ b ∈ ts,¬ B1 m b)→x=some 56:=by
 induction r with
 | nil=>exact fun _ h=>AF h fun b hb _=>absurd hb List.not_mem_nil
 | bad h=>exact fun _ _=>rfl
 | dup _ h=>exact fun u _=>absurd h (u.2 _ List.mem_cons_self)
 | put e g _ he _ _ ih=>exact fun u h=>ih (u.put he) (AF h fun b hb n=>⟨b,(List.mem_cons.mp hb).resolve_left fun z=>n (z▸g),n⟩)
 | out g _ _ _ ih=>exact fun u h=>ih u.out (AF h fun b hb n=>⟨b,(List.mem_cons.mp hb).resolve_left fun z=>n (z▸g),n⟩)
end
end Mine
namespace Mine
open PySem
theorem Ko {l:List Sh}:l.map (Sh.by 1)=l:=by
 refine (List.map_congr_left fun s _=>?_).trans (List.map_id l)
 show Sh.mk (s.W * 1) (s.H * 1) s.b=s
 rw [Int.mul_one,Int.mul_one]
theorem Ud {e:En}:e.by 1=e:=by
 show En.mk e.name (e.w * 1) (e.h * 1) e.t e.n (e.u * 1) (e.l * 1) e.r=e
 rw [Int.mul_one,Int.mul_one,Int.mul_one,Int.mul_one]
theorem L9 {l:List En}:l.map (En.by 1)=l:=(List.map_congr_left fun _ _=>Ud).trans (List.map_id l)
theorem Lb {ss:List Sh} {e:En} {skip:Option Str} {r:Option Pl4} {sh:Sh} (h0:ss[0]?=some sh) (hw:e.w=1) (hh:e.h=1) (ht:e.t=false) (hW:1≤sh.W) (hH:1≤sh.H) (F:FP (OnL e.w e.h e.t) 0 (ss.zip (AS ss.length [] skip)) r):r=some (0,0,0,false):=by
 have sP:1≤shP sh:=by unfold shP;split <;> assumption
 have sS:1≤shS sh:=by unfold shS;split <;> assumption
 have xA:∀ b r,exA b r e.w e.h=1:=fun b r=>by unfold exA;split <;> assumption
 have xB:∀ b r,exB b r e.w e.h=1:=fun b r=>by unfold exB;split <;> assumption
 have ok0:Ok ss [] skip (A4 ss e ⟨0,0,0,false⟩):=⟨⟨sh,by
  rw [Cv]
  exact ⟨h0,nofun,Int.le_refl _,Int.le_refl _,by show (0:Int) + exA sh.b false e.w e.h≤_;rw [xA];exact sP,by show (0:Int) + exB sh.b false e.w e.h≤_;rw [xB];exact sS⟩⟩,CC⟩
 refine (DA F).elim (fun h=>absurd ok0 (h.2 _)) fun h=>AZ h fun q e1 ok le=>?_
 have i:∃ sh,InSh ss (A4 ss e q).dm q sh:=by have:=ok.ins;rwa [Cv] at this
 refine AU i fun sh' i=>?_
 have l:=le _ ok0
 have r0:q.r=false:=by
  cases hr:q.r with
  | false=>rfl
  | true=>exact absurd ((i.turn hr).symm.trans (show (A4 ss e q).dm.2.2=false from ht)) nofun
 have hq:q.n=0∧q.p=0∧q.s=0:=by
  refine l.elim (fun z=>absurd z (Nat.not_lt_zero _)) fun z=>⟨z.1,z.2.elim (fun z=>absurd z (Int.not_lt.mpr i.p0)) fun z=>⟨z.1,z.2.elim (fun z=>absurd z (Int.not_lt.mpr i.s0)) fun z=>z.1⟩⟩
 rw [e1,hq.1,r0]
 have:(A4 ss e q).u=0∧(A4 ss e q).l=0:=by
  show (if hbt ss q.n=true then q.p else q.s)=0∧(if hbt ss q.n=true then q.s else q.p)=0
  rw [hq.2.1,hq.2.2];split <;> exact ⟨rfl,rfl⟩
 rw [this.1,this.2];rfl
theorem Tj {ss:List Sh} {hs:List En} {e:En} {skip:Option Str} {r:Option Pl4} {g:Int} (hw:e.w=g) (hh:e.h=g) (hS:∀ s ∈ ss,s.H < g) (F:FP (OnL e.w e.h e.t) 0 (ss.zip (AS ss.length hs skip)) r):r=none:=by
 refine (DA F).elim (fun h=>h.1) fun h=>AZ h fun q e1 ok le=>?_
 have i:∃ sh,InSh ss (A4 ss e q).dm q sh:=by have:=ok.ins;rwa [Cv] at this
 refine AU i fun sh i=>?_
 have hH:=hS sh (List.mem_of_getElem? i.at_)
 have p1:q.p + g≤shP sh:=by have:=i.p1;rwa [show exA sh.b q.r (A4 ss e q).dm.1 (A4 ss e q).dm.2.1=g by unfold exA;split <;> assumption] at this
 have s1:q.s + g≤shS sh:=by have:=i.s1;rwa [show exB sh.b q.r (A4 ss e q).dm.1 (A4 ss e q).dm.2.1=g by unfold exB;split <;> assumption] at this
 have p0:=i.p0
 have s0:=i.s0
 unfold shP at p1
 unfold shS at s1
 split at p1
 ·exact (aj3 (.l (.a .v0 .v1) .v2 (.l .n0 .v0 (.t .v2 .v1 .e))) rfl p1 p0 hH).elim
 ·rename_i hb;rw [if_neg hb] at s1;exact (aj3 (.l .n0 .v0 (.l (.a .v0 .v1) .v2 (.t .v2 .v1 .e))) rfl s0 s1 hH).elim
theorem Kx {x:En} {m:Int} (hm:1≤m) (hw:x.w≤3 * m) (hh:x.h≤3 * m) {u l u' l':Int} (h:(u + 4 * m≤u')∨(l + 4 * m≤l')) (n:¬ Av 1 1 u l x.ot.low) (n':¬ Av 1 1 u' l' x.ot.low):False:=by
 have e:(x.ot.low.pl≤3 * m)∧x.ot.low.sl≤3 * m:=by unfold En.ot;split <;> exact ⟨by assumption,by assumption⟩
 unfold Av at n n'
 exact Or.elim h (fun z0=>aj5 (.l (.a .v0 (.m 4 .v1)) .v2 (.m (.a .v0 .n1) .v3 (.m (.a .v3 .v4) .v2 (.l .v4 (.m 3 .v1) (.l .n1 .v1 .e))))) rfl z0 (not_or.mp n).1 (not_or.mp (not_or.mp n').2).1 e.1 hm) (fun z0=>aj5 (.l (.a .v0 (.m 4 .v1)) .v2 (.m (.a .v0 .n1) .v3 (.m (.a .v3 .v4) .v2 (.l .v4 (.m 3 .v1) (.l .n1 .v1 .e))))) rfl z0 (not_or.mp (not_or.mp (not_or.mp n).2).2).1 (not_or.mp (not_or.mp (not_or.mp n').2).2).2 e.2 hm)
theorem U8 {ss:List Sh} {hs:List En} {b:En} {skip:Option Str} {m:Int} (hm:1≤m) (h0:ss[0]?=some ⟨5 * m,5 * m,true⟩) (hl:hs.length≤2) (hz:∀ x ∈ hs,x.w≤3 * m∧x.h≤3 * m) (hw:b.w=1) (hh:b.h=1) (F:FP (OnL b.w b.h b.t) 0 (ss.zip (AS ss.length hs skip)) none):False:=by
 have no:=(DA F).elim (fun h=>h.2) fun h=>AZ h fun q e1 _ _=>Di e1
 have hb:hbt ss 0=true:=Kb h0
 have key:∀ u l:Int,0≤u→u + 1≤5 * m→0≤l→l + 1≤5 * m→∃ x ∈ hs,¬ Av 1 1 u l x.ot.low:=fun u l u0 u1 l0 l1=>by
  refine Classical.byContradiction fun hn=>no ⟨0,u,l,false⟩ ?_
  have cl:∀ x ∈ hs,Av 1 1 u l x.ot.low:=fun x hx=>Classical.byContradiction fun z=>hn ⟨x,hx,z⟩
  refine ⟨⟨⟨5 * m,5 * m,true⟩,?_⟩,fun x hx _ _=>?_⟩
  ·rw [Cv]
   exact ⟨h0,nofun,u0,l0,by show u + exA true false b.w b.h≤5 * m;rw [show exA true false b.w b.h=1 from hh];exact u1,by show l + exB true false b.w b.h≤5 * m;rw [show exB true false b.w b.h=1 from hw];exact l1⟩
  ·have:(A4 ss b ⟨0,u,l,false⟩).ot=⟨l,u,1,1⟩:=by
    show Ot.mk (if hbt ss 0=true then l else u) (if hbt ss 0=true then u else l) b.w b.h=_
    rw [if_pos hb,if_pos hb,hw,hh]
   rw [this];exact cl x hx
 refine AF (key 0 0 (by decide) (by exact ai1 .le (.a .n0 .n1) (.m 5 .v0) (.w 5 (.l .n1 .v0 .e)) rfl hm) (by decide) (by exact ai1 .le (.a .n0 .n1) (.m 5 .v0) (.w 5 (.l .n1 .v0 .e)) rfl hm)) fun x hx nx=>AF (key 0 (5 * m - 1) (by decide) (by exact ai1 .le (.a .n0 .n1) (.m 5 .v0) (.w 5 (.l .n1 .v0 .e)) rfl hm) (by exact ai1 .le .n0 (.s (.m 5 .v0) .n1) (.w 5 (.l .n1 .v0 .e)) rfl hm) (by exact ai1 .le (.a (.s (.m 5 .v0) .n1) .n1) (.m 5 .v0) .e rfl)) fun y hy ny=>AF (key (5 * m - 1) 0 (by exact ai1 .le .n0 (.s (.m 5 .v0) .n1) (.w 5 (.l .n1 .v0 .e)) rfl hm) (by exact ai1 .le (.a (.s (.m 5 .v0) .n1) .n1) (.m 5 .v0) .e rfl) (by decide) (by exact ai1 .le (.a .n0 .n1) (.m 5 .v0) (.w 5 (.l .n1 .v0 .e)) rfl hm)) fun w hw' nw=>?_
 have xy:x ≠ y:=fun e=>Kx hm (hz x hx).1 (hz x hx).2 (.inr (by exact ai1 .le (.a .n0 (.m 4 .v0)) (.s (.m 5 .v0) .n1) (.l .n1 .v0 .e) rfl hm)) nx (e▸ny)
 have xw:x ≠ w:=fun e=>Kx hm (hz x hx).1 (hz x hx).2 (.inl (by exact ai1 .le (.a .n0 (.m 4 .v0)) (.s (.m 5 .v0) .n1) (.l .n1 .v0 .e) rfl hm)) nx (e▸nw)
 have yw:y ≠ w:=fun e=>Kx hm (hz w hw').1 (hz w hw').2 (.inl (by exact ai1 .le (.a .n0 (.m 4 .v0)) (.s (.m 5 .v0) .n1) (.l .n1 .v0 .e) rfl hm)) (e▸ny) nw
 have nd:[x,y,w].Nodup:=List.nodup_cons.mpr ⟨fun h=>(List.mem_cons.mp h).elim xy fun h=>xw (List.mem_singleton.mp h),List.nodup_cons.mpr ⟨fun h=>yw (List.mem_singleton.mp h),List.nodup_cons.mpr ⟨List.not_mem_nil,List.nodup_nil⟩⟩⟩
 have:=@HK En (fun _ _=>Classical.propDecidable _) _ hs nd fun v hv=>(List.mem_cons.mp hv).elim (fun e=>e▸hx) fun hv=>(List.mem_cons.mp hv).elim (fun e=>e▸hy) fun hv=>List.mem_singleton.mp hv▸hw'
 exact absurd (Nat.le_trans this hl) (show ¬ 3≤2 by decide)
section
variable {ss:List Sh} {m:Int} {hs hs':List En} {lf lf':List Str} {ts:List En} {x:Option Nat} {nm:Str}
theorem Pk.again (r:Pk ss m hs lf ts x hs' lf'):(∀ b ∈ ts,B1 m b)→(∃ b ∈ ts,b.name=nm)→nm ∈ hs.map (·.name)→x=some 68:=by
 induction r with
 | nil=>exact fun _ h _=>AF h fun b hb _=>absurd hb List.not_mem_nil
 | bad h=>exact fun g _ _=>absurd (g _ List.mem_cons_self) h
 | dup _ h=>exact fun _ _ _=>rfl
 | put e _ hn he _ _ ih=>exact fun g h hm=>ih (fun b hb=>g b (List.mem_cons_of_mem _ hb)) (AF h fun b hb e=>⟨b,(List.mem_cons.mp hb).resolve_left fun z=>hn (z▸e▸hm),e⟩) (by rw [List.map_append];exact List.mem_append_left _ hm)
 | out _ hn _ _ ih=>exact fun g h hm=>ih (fun b hb=>g b (List.mem_cons_of_mem _ hb)) (AF h fun b hb e=>⟨b,(List.mem_cons.mp hb).resolve_left fun z=>hn (z▸e▸hm),e⟩) hm
noncomputable def Cn (nm:Str) (b:En):Bool:=decide (b.w=1∧b.h=1∧b.name=nm)
theorem C8:Cn nm b=true ↔ b.w=1∧b.h=1∧b.name=nm:=decide_eq_true_iff
theorem Pk.twice {g:Int} (hg:1≤g) (h0:ss[0]?=some ⟨5 * g,5 * g,true⟩) (r:Pk ss m hs lf ts x hs' lf'):(∀ b ∈ ts,B1 m b)→(∀ b ∈ ts,b.w≤3 * g∧b.h≤3 * g)→(∀ b ∈ hs,b.w≤3 * g∧b.h≤3 * g)→2≤(ts.filter (Cn nm)).length→hs.length + (ts.filter fun b=>!Cn nm b).length≤2→x=some 68:=by
 have mem1:∀ {l:List En},1≤(l.filter (Cn nm)).length→∃ b ∈ l,b.name=nm:=fun {l} h=>by
  cases e:l.filter (Cn nm) with
  | nil=>rw [e] at h;exact absurd h (by decide)
  | cons b _=>
   have:=List.mem_filter.mp (show b ∈ l.filter (Cn nm) from e▸List.mem_cons_self)
   exact ⟨b,this.1,(C8.mp this.2).2.2⟩
 induction r with
 | nil=>exact fun _ _ _ h _=>absurd h (show ¬ 2≤0 by decide)
 | bad h=>exact fun g _ _ _ _=>absurd (g _ List.mem_cons_self) h
 | dup _ _=>exact fun _ _ _ _ _=>rfl
 | @put hs lf b ts x hs' lf' e _ hn he F pk ih=>
  intro ok sz hz h2 hc
  have t:=ED he
  have okt:=fun b hb=>ok b (List.mem_cons_of_mem _ hb)
  cases ho:Cn nm b with
  | true=>
   rw [List.filter_cons_of_pos ho] at h2
   exact pk.again (nm:=nm) okt (mem1 (Nat.le_of_succ_le_succ h2)) (by rw [List.map_append];exact List.mem_append_right _ (by rw [← (C8.mp ho).2.2,← t.1];exact List.mem_cons_self))
  | false=>
   rw [List.filter_cons_of_neg (by rw [ho];exact Bool.false_ne_true)] at h2
   rw [List.filter_cons_of_pos (p:=fun b=>!Cn nm b) (by rw [ho];rfl)] at hc
   refine ih okt (fun b hb=>sz b (List.mem_cons_of_mem _ hb)) (fun y hy=>(List.mem_append.mp hy).elim (hz y) fun hy=>by rw [List.mem_singleton.mp hy,t.2.1,t.2.2.1];exact sz b List.mem_cons_self) h2 (by rw [List.length_append];exact Nat.le_trans (Nat.le_of_eq ((Nat.add_assoc _ 1 _).trans (congrArg _ (Nat.add_comm 1 _)))) hc)
 | @out hs lf b ts x hs' lf' _ hn F pk ih=>
  intro ok sz hz h2 hc
  have okt:=fun b hb=>ok b (List.mem_cons_of_mem _ hb)
  cases ho:Cn nm b with
  | true=>
   have o:=C8.mp ho
   exact (U8 hg h0 (Nat.le_trans (Nat.le_add_right _ _) hc) hz o.1 o.2.1 F).elim
  | false=>
   rw [List.filter_cons_of_neg (by rw [ho];exact Bool.false_ne_true)] at h2
   rw [List.filter_cons_of_pos (p:=fun b=>!Cn nm b) (by rw [ho];rfl)] at hc
   exact ih okt (fun b hb=>sz b (List.mem_cons_of_mem _ hb)) hz h2 (Nat.le_trans (Nat.add_le_add_left (Nat.le_succ _) _) hc)
end
end Mine
namespace Mine
open PySem
noncomputable def Ee:Str:="Rack.names.<locals>.<lambda>"
noncomputable def U4:Str:="by_size.<locals>.<lambda>"
noncomputable def Sz:Fn:=⟨1,2,[
  Em (By (Ao true)) [QS]]⟩
noncomputable def MV:Fn:=⟨2,8,[
  AT (.tup [2,3,4,5]) (AA 1),
  AT (.var 6) (AG 0),
  sIf (By (AA 5)) [AT (.var 6) (AG 1)] [],
  sIf (AY (AJ (AJ (AA 0) (AA 2)) (AG 2)) [.Eq] [(Aw (Str.ofString "low"))]) [AV (Ap [(AA 2),(AA 3),(AA 4),(AA 6)])] [],
  AV (Ap [(AA 2),(AA 4),(AA 3),(AA 6)])]⟩
noncomputable def Ho:Fn:=⟨3,4,[
  AV (xOf (AY (AP 1 [(AA 0),(AA 1)]) [.Lt] [(AP 1 [(AA 0),(AA 2)])]))]⟩
noncomputable def Ld:Fn:=⟨3,7,[
  AT (.var 3) (AG 0),
  CK (.tup [4,5]) .plain [(E3 false (AA 0))] [sIf (EH [(AY (AA 4) [.Lt] [(AM .add (AA 3) (AA 1))]),(AY (AA 5) [.Gt] [(AA 3)])]) [AT (.var 3) (AA 5)] []],
  sIf (AY (AM .add (AA 3) (AA 1)) [.Gt] [(AA 2)]) [AV CF] [],
  AV (AA 3)]⟩
noncomputable def Lv:Fn:=⟨3,4,[
  AV (E3 true (AM .add (Al [(AG 0)]) (BB (AA 3) 3 .plain [(AA 0)] [(AY (AG 0) [.Lt,.LtE] [(AA 3),(AM .sub (AA 2) (AA 1))])])))]⟩
noncomputable def LW:Fn:=⟨5,9,[
  CK (.var 5) .plain [(AP 4 [(BB (AM .add (AJ (AA 8) (AG 1)) (AJ (AA 8) (AG 3))) 8 .plain [(AA 0)] []),(AA 4),(AA 2)])] [AT (.var 6) (BB (AA 8) 8 .plain [(AA 0)] [(EH [(AY (AJ (AA 8) (AG 1)) [.Lt] [(AM .add (AA 5) (AA 4))]),(AY (AA 5) [.Lt] [(AM .add (AJ (AA 8) (AG 1)) (AJ (AA 8) (AG 3)))])])]),AT (.var 7) (AP 3 [(BB (Ap [(AJ (AA 8) (AG 0)),(AM .add (AJ (AA 8) (AG 0)) (AJ (AA 8) (AG 2)))]) 8 .plain [(AA 6)] []),(AA 3),(AA 1)]),sIf (EH [(AY (AA 7) [.IsNot] [CF]),(AY (AM .add (AA 5) (AA 4)) [.LtE] [(AA 2)])]) [AV (Ap [(AA 5),(AA 7)])] []],
  AV CF]⟩
noncomputable def MQ:Fn:=⟨5,9,[
  CK (.var 5) .plain [(AP 4 [(BB (AM .add (AJ (AA 8) (AG 0)) (AJ (AA 8) (AG 2))) 8 .plain [(AA 0)] []),(AA 3),(AA 1)])] [AT (.var 6) (BB (AA 8) 8 .plain [(AA 0)] [(EH [(AY (AJ (AA 8) (AG 0)) [.Lt] [(AM .add (AA 5) (AA 3))]),(AY (AA 5) [.Lt] [(AM .add (AJ (AA 8) (AG 0)) (AJ (AA 8) (AG 2)))])])]),AT (.var 7) (AP 3 [(BB (Ap [(AJ (AA 8) (AG 1)),(AM .add (AJ (AA 8) (AG 1)) (AJ (AA 8) (AG 3)))]) 8 .plain [(AA 6)] []),(AA 4),(AA 2)]),sIf (EH [(AY (AA 7) [.IsNot] [CF]),(AY (AM .add (AA 5) (AA 3)) [.LtE] [(AA 1)])]) [AV (Ap [(AA 7),(AA 5)])] []],
  AV CF]⟩
noncomputable def Lf:Fn:=⟨4,8,[
  AT (.tup [4,5,6]) (AA 1),
  sIf (AY (AA 6) [.Eq] [(Aw (Str.ofString "low"))]) [AV (AP 5 [(AA 0),(AA 4),(AA 5),(AA 2),(AA 3)])] [],
  AV (AP 6 [(AA 0),(AA 4),(AA 5),(AA 2),(AA 3)])]⟩
noncomputable def Li:Fn:=⟨6,10,[
  AT (.var 6) CF,
  AT (.var 7) (AP 7 [(AA 2),(AJ (AA 0) (AA 1)),(AA 3),(AA 4)]),
  sIf (AY (AA 7) [.IsNot] [CF]) [AT (.var 6) (Ap [(AA 1),(AJ (AA 7) (AG 0)),(AJ (AA 7) (AG 1)),(Ao false)])] [],
  sIf (DE (By (AA 5))) [AV (AA 6)] [],
  AT (.var 7) (AP 7 [(AA 2),(AJ (AA 0) (AA 1)),(AA 4),(AA 3)]),
  sIf (AY (AA 7) [.IsNot] [CF]) [AT (.var 8) (Ap [(AA 1),(AJ (AA 7) (AG 0)),(AJ (AA 7) (AG 1)),(Ao true)]),sIf (tOr [(AY (AA 6) [.Is] [CF]),(By (AP 2 [(AA 0),(AA 8),(AA 6)]))]) [AT (.var 6) (AA 8)] []] [],
  AV (AA 6)]⟩
noncomputable def L7:Fn:=⟨5,8,[
  CK (.var 5) .range [(A0 .len [(AA 0)])] [AT (.var 6) (AP 8 [(AA 0),(AA 5),(AJ (AA 1) (AA 5)),(AA 2),(AA 3),(AA 4)]),sIf (AY (AA 6) [.IsNot] [CF]) [AV (AA 6)] []],
  AV CF]⟩
noncomputable def Iw:Fn:=⟨1,2,[
  AV (xOf (AY (AG 1) [.LtE,.LtE] [(AA 0),(AG 1000000)]))]⟩
noncomputable def Hr:Fn:=⟨1,2,[
  AV (KG true [(A0 (.isinst .str) [(AA 0)]),(xOf (AY (AG 0) [.Lt,.LtE] [(A0 .len [(AA 0)]),(AG 12)])),(A0 .all [(BB (xOf (AY (AA 1) [.In] [(Aw (Str.ofString "abcdefghijklmnopqrstuvwxyz0123456789"))])) 1 .plain [(AA 0)] [])])])]⟩
noncomputable def It:Fn:=⟨2,3,[
  sIf (By (AJ (AA 1) (AG 3))) [AV (Ap [(AJ (AA 1) (AG 2)),(AJ (AA 1) (AG 1)),(AJ (AA 0) (AG 2)),(AJ (AA 0) (AG 1))])] [],
  AV (Ap [(AJ (AA 1) (AG 2)),(AJ (AA 1) (AG 1)),(AJ (AA 0) (AG 1)),(AJ (AA 0) (AG 2))])]⟩
noncomputable def H3:Fn:=⟨1,2,[
  AV (G1 289 U4 185 29 (AA 0) 1 (Ap [(Rv (AJ (AA 1) (AG 2))),(Rv (AJ (AA 1) (AG 1)))]))]⟩
noncomputable def FF:Fn:=⟨2,9,[
  AT (.var 2) (TN 283 40 [(AA 0)]),
  AT (.var 3) (Al []),
  CK (.tup [4,5,6,7]) .plain [(AP 13 [(AA 1)])] [Sy [Ba (A8 283 "put" 44 (AA 2) [(AA 4),(AA 5),(AA 6),(AA 7)])] [80] 3 4],
  AV (Ap [(AA 2),(AA 3)])]⟩
noncomputable def I3:Fn:=⟨1,2,[
  sIf (AY (AM .mod (AA 0) (AG 3)) [.Eq] [(AG 0)]) [AV (AG 1)] [],
  AV (AM .add (AG 1) (AM .mod (AM .floordiv (AA 0) (AG 3)) (AG 200000)))]⟩
noncomputable def IC:Fn:=⟨2,3,[
  sIf (AY (AA 1) [.Lt] [(A0 .len [(AA 0)])]) [AV (AJ (AA 0) (AA 1))] [],
  AV (AG 0)]⟩
noncomputable def I1:Fn:=⟨3,4,[
  sIf (AY (A0 .len [(AA 0)]) [.Gt] [(AG 63)]) [AV (AA 2)] [],
  AV (AA 1)]⟩
noncomputable def Fc:Fn:=⟨3,4,[
  AV (KG false [(xOf (AY (AM .add (AJ (AA 0) (AA 2)) (AJ (AA 0) (AM .add (AA 2) (AG 2)))) [.LtE] [(AJ (AA 1) (AA 2))])),(xOf (AY (AM .add (AJ (AA 1) (AA 2)) (AJ (AA 1) (AM .add (AA 2) (AG 2)))) [.LtE] [(AJ (AA 0) (AA 2))]))])]⟩
noncomputable def Ia:Fn:=⟨4,6,[
  sIf (tOr [(AY (AJ (AA 1) (AG 0)) [.Lt] [(AG 0)]),(AY (AJ (AA 1) (AG 1)) [.Lt] [(AG 0)]),(AY (AM .add (AJ (AA 1) (AG 0)) (AJ (AA 1) (AG 2))) [.Gt] [(AA 2)]),(AY (AM .add (AJ (AA 1) (AG 1)) (AJ (AA 1) (AG 3))) [.Gt] [(AA 3)])]) [AV (Ao false)] [],
  CK (.var 4) .plain [(AA 0)] [sIf (EH [(DE (By (AP 18 [(AA 1),(AA 4),(AG 0)]))),(DE (By (AP 18 [(AA 1),(AA 4),(AG 1)])))]) [AV (Ao false)] []],
  AV (Ao true)]⟩
noncomputable def Hs:Fn:=⟨1,2,[
  sIf (AY (AJ (AA 0) (AG 2)) [.Eq] [(Aw (Str.ofString "low"))]) [AV (BB (Ap [(AM .floordiv (AA 1) (AJ (AA 0) (AG 0))),(AM .mod (AA 1) (AJ (AA 0) (AG 0)))]) 1 .range [(AM .mul (AJ (AA 0) (AG 0)) (AJ (AA 0) (AG 1)))] [])] [],
  AV (BB (Ap [(AM .mod (AA 1) (AJ (AA 0) (AG 1))),(AM .floordiv (AA 1) (AJ (AA 0) (AG 1)))]) 1 .range [(AM .mul (AJ (AA 0) (AG 0)) (AJ (AA 0) (AG 1)))] [])]⟩
noncomputable def H6:Fn:=⟨1,3,[
  AT (.var 1) (AJ (AA 0) (AG 4)),
  sIf (By (AJ (AA 1) (AG 3))) [AV (Ap [(AJ (AA 1) (AG 2)),(AJ (AA 1) (AG 1)),(AJ (AA 0) (AG 2)),(AJ (AA 0) (AG 1))])] [],
  AV (Ap [(AJ (AA 1) (AG 2)),(AJ (AA 1) (AG 1)),(AJ (AA 0) (AG 1)),(AJ (AA 0) (AG 2))])]⟩
noncomputable def Ig:Fn:=⟨3,4,[
  AV (BB (AP 21 [(AA 3)]) 3 .plain [(AA 0)] [(EH [(AY (AJ (AJ (AA 3) (AG 4)) (AG 0)) [.Eq] [(AA 1)]),(AY (AJ (AA 3) (AG 0)) [.NotEq] [(AA 2)])])])]⟩
noncomputable def Iy:Fn:=⟨1,5,[
  AT (.var 2) (BB (Ap [(AG 1),(AG 1),(Aw (Str.ofString "low"))]) 4 .range [(A0 .max [(AG 0),(AM .sub (AM .mod (AM .floordiv (AP 16 [(AA 0),(AG 1)]) (AG 3)) (AG 14)) (AG 7))])] []),
  CK (.var 1) .range [(AM .add (AG 1) (AM .mod (AP 16 [(AA 0),(AG 1)]) (AG 3)))] [AT (.var 3) (AM .mod (AM .add (AM .mul (AP 16 [(AA 0),(AM .add (AG 2) (AA 1))]) (AG 48271)) (AG 11)) (AG 2147483647)),Ba (FX (AA 2) (Ap [(AM .add (AG 1) (AM .mod (AA 3) (AG 5))),(AM .add (AG 1) (AM .mod (AM .floordiv (AA 3) (AG 5)) (AG 4))),(AJ (Al [(Aw (Str.ofString "low")),(Aw (Str.ofString "left"))]) (AM .mod (AM .floordiv (AA 3) (AG 20)) (AG 2)))]))],
  AV (AA 2)]⟩
noncomputable def Iu:Fn:=⟨2,3,[
  AV (BB (Ap [(AM .mul (AJ (AA 2) (AG 0)) (AA 1)),(AM .mul (AJ (AA 2) (AG 1)) (AA 1)),(AJ (AA 2) (AG 2))]) 2 .plain [(AA 0)] [])]⟩
noncomputable def IF:Fn:=⟨2,3,[
  AV (Ap [(AJ (AA 0) (AG 0)),(AM .mul (AJ (AA 0) (AG 1)) (AA 1)),(AM .mul (AJ (AA 0) (AG 2)) (AA 1)),(AJ (AA 0) (AG 3))])]⟩
noncomputable def IQ:Fn:=⟨1,6,[
  AT (.var 1) (Aw (Str.ofString "abcdefghijklmnopqrstuvwxyz0123456789")),
  AT (.var 2) (Aw (Str.ofString "")),
  AT (.var 3) (AM .mod (AM .floordiv (AA 0) (AG 12)) (AG 12)),
  CK (.var 4) .range [(AM .mod (AA 0) (AG 10))] [AT (.var 0) (AM .mod (AM .add (AM .mul (AA 0) (AG 48271)) (AG 11)) (AG 2147483647)),AT (.var 2) (AM .add (AA 2) (AJ (AA 1) (AM .mod (AA 0) (AG 36))))],
  AV (BB (AM .add (AM .add (As (AA 2) none (some (AA 3))) (AA 5)) (As (AA 2) (some (AA 3)) none)) 5 .plain [(Aw (Str.ofString "abcdxyz0189mno"))] [])]⟩
noncomputable def FL:Fn:=⟨2,8,[
  AT (.var 2) (E3 false (AM .add (Al [(AG 0)]) (BB (AM .add (AJ (AA 7) (AG 1)) (AJ (AA 7) (AG 3))) 7 .plain [(AA 0)] []))),
  AT (.var 3) (E3 false (AM .add (Al [(AG 0)]) (BB (AM .add (AJ (AA 7) (AG 0)) (AJ (AA 7) (AG 2))) 7 .plain [(AA 0)] []))),
  AT (.var 4) (Al []),
  sIf (AY (AJ (AA 1) (AG 2)) [.Eq] [(Aw (Str.ofString "low"))]) [CK (.var 5) .plain [(AA 2)] [AT (.var 4) (AM .add (AA 4) (BB (Ap [(AA 5),(AA 7)]) 7 .plain [(AA 3)] []))]] [CK (.var 6) .plain [(AA 3)] [AT (.var 4) (AM .add (AA 4) (BB (Ap [(AA 7),(AA 6)]) 7 .plain [(AA 2)] []))]],
  AV (AA 4)]⟩
noncomputable def I4:Fn:=⟨3,4,[
  sIf (By (AA 2)) [AV (AP 27 [(AA 0),(AA 1)])] [],
  AV (AP 20 [(AA 1)])]⟩
noncomputable def H2:Fn:=⟨2,4,[
  AT (.var 0) (AM .mod (AM .add (AM .add (AM .mul (AA 0) (AG 48271)) (AM .mul (AG 11) (AA 1))) (AG 5)) (AG 2147483647)),
  AT (.var 2) (AM .mod (AM .mul (AA 0) (AG 69621)) (AG 2147483647)),
  AV (Ap [(AM .add (AG 1) (AM .mod (AA 0) (AG 1000))),(AM .add (AG 1) (AM .mod (AA 2) (AG 1000))),(AJ (Al [(Aw (Str.ofString "low")),(Aw (Str.ofString "left"))]) (AM .mod (AM .floordiv (AA 0) (AG 1000)) (AG 2)))])]⟩
noncomputable def IY:Fn:=⟨5,12,[
  CK (.var 5) .range [(A0 .len [(AA 0)])] [AT (.var 6) (AP 22 [(AA 1),(AA 5),(AJ (AA 2) (AG 0))]),CK (.var 7) .plain [(AP 28 [(AA 6),(AJ (AA 0) (AA 5)),(AA 4)])] [CK (.var 8) .plain [(As (Al [(Ao false),(Ao true)]) none (some (AM .add (AG 1) (A0 .int [(AJ (AA 2) (AG 3))]))))] [AT (.var 9) (Ap [(AA 5),(AJ (AA 7) (AG 0)),(AJ (AA 7) (AG 1)),(AA 8)]),AT (.var 10) (AP 19 [(AA 6),(AP 21 [(AM .add (AA 2) (Ap [(AA 9)]))]),(AJ (AJ (AA 0) (AA 5)) (AG 0)),(AJ (AJ (AA 0) (AA 5)) (AG 1))]),sIf (AY (AA 9) [.Eq] [(AA 3)]) [AV (AA 10)] [],sIf (By (AA 10)) [AV (Ao false)] []]]],
  AV (xOf (AY (AA 3) [.Is] [CF]))]⟩
noncomputable def IP:Fn:=⟨3,10,[
  AT (.var 3) (Al []),
  CK (.tup [4,5]) .enum [(As (AA 0) (some (AG 7)) (some (AM .add (AG 7) (AP 17 [(AA 0),(AG 8),(AG 30)]))))] [AT (.var 5) (AM .mod (AM .add (AM .mul (AA 5) (AG 48271)) (AM .mul (AG 11) (AA 4))) (AG 2147483647)),AT (.var 6) (AM .add (AJ (AA 1) (AM .mod (AA 4) (AG 14))) (AM .mul (Aw (Str.ofString "q")) (AM .floordiv (AA 4) (AG 14)))),AT (.var 7) (Ap [(AA 6),(AM .add (AG 1) (AM .mod (AA 5) (AG 3))),(AM .add (AG 1) (AM .mod (AM .floordiv (AA 5) (AG 3)) (AG 3))),(xOf (AY (AM .mod (AM .floordiv (AA 5) (AG 9)) (AG 2)) [.Eq] [(AG 1)]))]),sIf (By (AA 2)) [AT (.var 8) (AM .mod (AM .mul (AA 5) (AG 69621)) (AG 2147483647)),AT (.var 7) (Ap [(AJ (AA 7) (AG 0)),(AM .add (AG 1) (AM .mod (AM .floordiv (AA 5) (AG 18)) (AG 400))),(AM .add (AG 1) (AM .mod (AA 8) (AG 400))),(AJ (AA 7) (AG 3))])] [],Ba (FX (AA 3) (AA 7))],
  AV (AA 3)]⟩
noncomputable def IX:Fn:=⟨1,6,[
  AT (.var 1) (Al []),
  CK (.var 2) .plain [(AA 0)] [AT (.var 3) (A0 .len [(AA 1)]),Em (EH [(AY (AA 3) [.Gt] [(AG 0)]),(AY (Al [(AJ (AA 2) (AG 2)),(AJ (AA 2) (AG 1))]) [.NotEq] [(Al [(AJ (AJ (AA 1) (AM .sub (AA 3) (AG 1))) (AG 2)),(AJ (AJ (AA 1) (AM .sub (AA 3) (AG 1))) (AG 1))])])]) [AT (.var 4) (AJ (AA 1) (AM .sub (AA 3) (AG 1))),sIf (tOr [(AY (AJ (AA 2) (AG 2)) [.Lt] [(AJ (AA 4) (AG 2))]),(EH [(AY (AJ (AA 2) (AG 2)) [.Eq] [(AJ (AA 4) (AG 2))]),(AY (AJ (AA 2) (AG 1)) [.Lt] [(AJ (AA 4) (AG 1))])])]) [Uh] [],AT (.var 3) (AM .sub (AA 3) (AG 1))],AT (.var 1) (AM .add (AM .add (As (AA 1) none (some (AA 3))) (Al [(AA 2)])) (As (AA 1) (some (AA 3)) none))],
  AV (AA 1)]⟩
noncomputable def FN:Fn:=⟨2,3,[
  VB [Ba (AP 14 [(AA 0),(AA 1)])] [([44],.str (Str.ofString "shelf"),none),([68],.str (Str.ofString "twice"),none),([56],.str (Str.ofString "box"),none)],
  AV (Aw (Str.ofString ""))]⟩
noncomputable def Ii:Fn:=⟨1,5,[
  AT (.var 1) (Ap [(Aw (Str.ofString "twice")),(AM .pow (AG 10) (AG 6)),(AM .pow (AG 10) (AG 6)),(Ao true)]),
  AT (.tup [2,3]) (AP 14 [(AA 0),(Al [(Ap [(Aw (Str.ofString "twice")),(AG 1),(AG 1),(Ao false)]),(AA 1)])]),
  sIf (tOr [(AY (AA 3) [.NotEq] [(Al [(Aw (Str.ofString "twice"))])]),(AY (A8 283 "where" 48 (AA 2) [(Aw (Str.ofString "twice"))]) [.NotEq] [(Ap [(AG 0),(AG 0),(AG 0),(Ao false)])]),(AY (A8 283 "box" 49 (AA 2) [(Aw (Str.ofString "twice"))]) [.NotEq] [(Ap [(Aw (Str.ofString "twice")),(AG 1),(AG 1),(Ao false)])])]) [AV (Ao false)] [],
  Ba (FX (AA 3) (Aw (Str.ofString ""))),
  AT (.tup [2,3]) (AP 14 [(AA 0),(Al [(AA 1),(AA 1)])]),
  AV (KG true [(xOf (AY (AA 3) [.Eq] [(Al [(Aw (Str.ofString "twice")),(Aw (Str.ofString "twice"))])])),(xOf (AY (A8 283 "names" 51 (AA 2) []) [.Eq] [(Al [])]))])]⟩
noncomputable def Io:Fn:=⟨3,7,[
  sIf (AY (AM .mod (AA 2) (AG 5)) [.Eq] [(AG 0)]) [AT (.var 3) (AJ (Al [(Al []),(AM .add (AA 0) (Al [(Ap [(AG 1),(AG 0),(Aw (Str.ofString "low"))])])),(AM .mul (As (AA 0) none (some (AG 1))) (AG 10))]) (AM .mod (AM .floordiv (AA 2) (AG 5)) (AG 3))),AV (xOf (AY (AP 33 [(AA 3),(AM .add (As (AA 1) none (some (AG 1))) (Al [(Ap [(Aw (Str.ofString "")),(AG 1),(AG 1),(Ao true)])]))]) [.Eq] [(Aw (Str.ofString "shelf"))]))] [],
  AT (.var 4) (AM .mod (AM .floordiv (AA 2) (AG 2)) (A0 .len [(AA 1)])),
  AT (.var 5) (AJ (AA 1) (AA 4)),
  sIf (AY (AM .mod (AA 2) (AG 2)) [.Eq] [(AG 0)]) [AV (xOf (AY (AP 33 [(AA 0),(AM .add (AM .add (As (AA 1) none (some (AA 4))) (Al [(Ap [(Aw (Str.ofString "")),(AJ (AA 5) (AG 1)),(AJ (AA 5) (AG 2)),(AJ (AA 5) (AG 3))])])) (As (AA 1) (some (AM .add (AA 4) (AG 1))) none))]) [.Eq] [(Aw (Str.ofString "box"))]))] [],
  AV (xOf (AY (AP 33 [(AA 0),(AM .add (AM .add (As (AA 1) none (some (AA 4))) (Al [(Ap [(AJ (AA 5) (AG 0)),(AG 0),(AJ (AA 5) (AG 2)),(AJ (AA 5) (AG 3))])])) (As (AA 1) (some (AM .add (AA 4) (AG 1))) none))]) [.Eq] [(Aw (Str.ofString "box"))]))]⟩
noncomputable def Iz:Fn:=⟨3,5,[
  AT (.var 3) (A8 283 "where" 48 (AA 0) [(AA 1)]),
  AV (Ap [(AJ (AA 3) (AG 0)),(AM .floordiv (AJ (AA 3) (AG 1)) (AA 2)),(AM .floordiv (AJ (AA 3) (AG 2)) (AA 2)),(AJ (AA 3) (AG 3))])]⟩
noncomputable def DI:Fn:=⟨5,12,[
  CK (.var 5) .range [(A0 .len [(AA 1)])] [AT (.var 6) (AM .mul (AJ (AJ (AA 1) (AA 5)) (AG 0)) (AJ (AJ (AA 1) (AA 5)) (AG 1))),CK (.var 7) .plain [(AP 22 [(AA 2),(AA 5),(Aw (Str.ofString ""))])] [AT (.var 6) (AM .sub (AA 6) (AM .mul (AJ (AA 7) (AG 2)) (AJ (AA 7) (AG 3))))],sIf (AY (A8 283 "free" 52 (AA 0) [(AA 5)]) [.NotEq] [(AM .mul (AM .mul (AA 6) (AA 3)) (AA 3))]) [AV (Ao false)] []],
  CK (.var 8) .plain [(As (AA 2) none (some (AG 1)))] [AT (.var 7) (AP 21 [(AA 8)]),AT (.var 9) (Ap [(AM .mul (AJ (AA 7) (AG 0)) (AA 3)),(AM .mul (AJ (AA 7) (AG 1)) (AA 3)),(AM .mul (AJ (AA 7) (AG 2)) (AA 3)),(AM .mul (AJ (AA 7) (AG 3)) (AA 3))]),sIf (tOr [(AY (A8 283 "outline" 50 (AA 0) [(AJ (AA 8) (AG 0))]) [.NotEq] [(AA 9)]),(AY (A8 283 "take_out" 47 (AA 0) [(AJ (AA 8) (AG 0))]) [.NotEq] [(AP 25 [(AJ (AA 8) (AG 4)),(AA 3)])])]) [AV (Ao false)] [],Ba (A8 283 "put" 44 (AA 0) [(AJ (AA 8) (AG 0)),(AM .mul (AJ (AA 8) (AG 1)) (AA 3)),(AM .mul (AJ (AA 8) (AG 2)) (AA 3)),(AJ (AA 8) (AG 3))]),AT (.var 10) (AP 36 [(AA 0),(AJ (AA 8) (AG 0)),(AA 3)]),sIf (DE (By (AP 30 [(AA 1),(As (AA 2) (some (AG 1)) none),(As (AA 8) none (some (AG 4))),(AA 10),(AA 4)]))) [AV (Ao false)] [],AT (.var 2) (AM .add (As (AA 2) (some (AG 1)) none) (Al [(AM .add (As (AA 8) none (some (AG 4))) (Ap [(AA 10)]))]))],
  Ba (A8 283 "settle" 54 (AA 0) []),
  AT (.var 2) (BB (AM .add (As (AA 11) none (some (AG 4))) (Ap [(AP 36 [(AA 0),(AJ (AA 11) (AG 0)),(AA 3)])])) 11 .plain [(AA 2)] []),
  CK (.var 8) .plain [(AA 2)] [sIf (DE (By (AP 30 [(AA 1),(AA 2),(As (AA 8) none (some (AG 4))),(AJ (AA 8) (AG 4)),(AA 4)]))) [AV (Ao false)] []],
  AV (Ao true)]⟩
noncomputable def IH:Fn:=⟨6,14,[
  AT (.var 6) (A8 283 "names" 51 (AA 2) []),
  AT (.var 7) (Al []),
  AT (.var 8) (Al []),
  CK (.var 9) .plain [(AP 32 [(AA 1)])] [AT (.var 10) CF,sIf (AY (AJ (AA 9) (AG 0)) [.In] [(AA 3)]) [Ba (FX (AA 8) (AJ (AA 9) (AG 0)))] [sIf (AY (AJ (AA 9) (AG 0)) [.NotIn] [(AA 6)]) [AV (Ao false)] [AT (.var 11) (A8 283 "where" 48 (AA 2) [(AJ (AA 9) (AG 0))]),AT (.var 10) (Ap [(AJ (AA 11) (AG 0)),(AM .floordiv (AJ (AA 11) (AG 1)) (AA 4)),(AM .floordiv (AJ (AA 11) (AG 2)) (AA 4)),(AJ (AA 11) (AG 3))]),sIf (tOr [(AY (AA 11) [.NotEq] [(AP 25 [(AA 10),(AA 4)])]),(DE (By (A0 (.isinst .bool) [(AJ (AA 11) (AG 3))])))]) [AV (Ao false)] [],AT (.var 12) (A8 283 "box" 49 (AA 2) [(AJ (AA 9) (AG 0))]),sIf (AY (AA 12) [.NotEq] [(Ap [(AJ (AA 9) (AG 0)),(AM .mul (AJ (AA 9) (AG 1)) (AA 4)),(AM .mul (AJ (AA 9) (AG 2)) (AA 4)),(AJ (AA 9) (AG 3))])]) [AV (Ao false)] [],sIf (DE (By (A0 (.isinst .bool) [(AJ (AA 12) (AG 3))]))) [AV (Ao false)] []]],sIf (DE (By (AP 30 [(AA 0),(AA 7),(AA 9),(AA 10),(AA 5)]))) [AV (Ao false)] [],sIf (AY (AA 10) [.IsNot] [CF]) [AT (.var 7) (AM .add (AA 7) (Al [(AM .add (AA 9) (Ap [(AA 10)]))]))] []],
  sIf (tOr [(AY (AA 3) [.NotEq] [(AA 8)]),(AY (A0 .len [(A8 283 "names" 51 (AA 2) [])]) [.NotEq] [(A0 .len [(AA 7)])]),(AY (Ar 283 "shelves" (AA 2)) [.NotEq] [(AP 24 [(AA 0),(AA 4)])])]) [AV (Ao false)] [],
  AV (AP 37 [(AA 2),(AA 0),(AA 7),(AA 4),(AA 5)])]⟩
noncomputable def CR:Fn:=⟨1,15,[
  AT (.var 1) (AP 15 [(AP 16 [(AA 0),(AG 0)])]),
  AT (.var 2) (AP 23 [(AA 0)]),
  AT (.var 3) (xOf (AY (AM .mod (AM .floordiv (AP 16 [(AA 0),(AG 1)]) (AG 42)) (AG 3)) [.Eq] [(AG 1)])),
  AT (.var 4) (AP 31 [(AA 0),(AP 26 [(AP 16 [(AA 0),(AG 5)])]),(AA 3)]),
  sIf (By (AA 3)) [AT (.var 1) (AG 1),AT (.var 2) (BB (AP 29 [(AP 16 [(AA 0),(AM .add (AG 2) (AA 14))]),(AA 14)]) 14 .range [(AM .add (AG 1) (AM .mod (AP 16 [(AA 0),(AG 1)]) (AG 3)))] [])] [],
  AT (.var 5) (BB (Ap [(AJ (AA 14) (AG 0)),(AM .mul (AJ (AA 14) (AG 1)) (AA 1)),(AM .mul (AJ (AA 14) (AG 2)) (AA 1)),(AJ (AA 14) (AG 3))]) 14 .plain [(AA 4)] []),
  AT (.var 6) (AM .mod (AP 16 [(AA 0),(AG 6)]) (AG 8)),
  sIf (EH [(AY (AA 6) [.Eq] [(AG 1)]),(AY (AA 4) [.NotEq] [(Al [])])]) [AV (AP 35 [(AP 24 [(AA 2),(AA 1)]),(AA 5),(AM .floordiv (AP 16 [(AA 0),(AG 6)]) (AG 8))])] [],
  sIf (EH [(AY (AA 6) [.Eq] [(AG 2)]),(AY (AA 4) [.NotEq] [(Al [])])]) [sIf (tOr [(By (AA 3)),(AY (AM .mod (AM .floordiv (AP 16 [(AA 0),(AG 6)]) (AG 8)) (AG 2)) [.Eq] [(AG 0)])]) [AV (AP 34 [(AP 24 [(AA 2),(AA 1)])])] [],AT (.var 7) (Ap [(Aw (Str.ofString "twice")),(AG 1),(AG 1),(Ao true)]),AT (.var 8) (AP 24 [(AM .add (Al [(Ap [(AG 5),(AG 5),(Aw (Str.ofString "low"))])]) (As (AA 2) (some (AG 1)) none)),(AA 1)]),AV (xOf (AY (AP 33 [(AA 8),(AM .add (Al [(AA 7),(AA 7)]) (As (AA 5) none (some (AG 2))))]) [.Eq] [(Aw (Str.ofString "twice"))]))] [],
  AT (.var 9) (AP 24 [(AA 2),(AA 1)]),
  AT (.var 10) (A0 .list [(AA 5)]),
  AT (.var 11) (AP 14 [(AA 9),(AA 10)]),
  sIf (tOr [(DE (By (A0 (.isinst .tuple) [(AA 11)]))),(AY (A0 .len [(AA 11)]) [.NotEq] [(AG 2)]),(DE (By (A0 (.isinst .list) [(AJ (AA 11) (AG 1))])))]) [AV (Ao false)] [],
  sIf (tOr [(AY (AA 9) [.NotEq] [(AP 24 [(AA 2),(AA 1)])]),(AY (AA 10) [.NotEq] [(AA 5)])]) [AV (Ao false)] [],
  AT (.var 12) (AP 14 [(AA 9),(AA 10)]),
  AT (.var 13) (A0 .list [(AJ (AA 11) (AG 1))]),
  Ba (FX (AA 9) (Ap [(AG 1),(AG 1),(Aw (Str.ofString "low"))])),
  Ba (Tl (AA 10)),
  sIf (DE (By (AP 38 [(AA 2),(AA 4),(AJ (AA 11) (AG 0)),(AJ (AA 11) (AG 1)),(AA 1),(AA 3)]))) [AV (Ao false)] [],
  sIf (AY (AJ (AA 11) (AG 1)) [.NotEq] [(AA 13)]) [AV (Ao false)] [],
  AV (AP 38 [(AA 2),(AA 4),(AJ (AA 12) (AG 0)),(AJ (AA 12) (AG 1)),(AA 1),(AA 3)])]⟩
noncomputable def Ih:Fn:=⟨2,6,[
  sIf (DE (AY (AG 1) [.LtE,.LtE] [(A0 .len [(AA 1)]),(AG 9)])) [DO 44 (Aw (Str.ofString "no shelves, or too many"))] [],
  CK (.tup [2,3,4]) .plain [(AA 1)] [sIf (tOr [(DE (By (AP 10 [(AA 2)]))),(DE (By (AP 10 [(AA 3)]))),(AY (AA 4) [.NotIn] [(Ap [(Aw (Str.ofString "low")),(Aw (Str.ofString "left"))])])]) [DO 44 (Aw (Str.ofString "no shelf"))] []],
  KI 283 "shelves" (AA 0) (A0 .list [(AA 1)]),
  KI 283 "boxes" (AA 0) MP,
  KI 283 "places" (AA 0) MP]⟩
noncomputable def JE:Fn:=⟨2,6,[
  AT (.var 2) (BB (Al []) 5 .plain [(Ar 283 "shelves" (AA 0))] []),
  CK (.var 3) .plain [(Ar 283 "places" (AA 0))] [sIf (AY (AA 3) [.NotEq] [(AA 1)]) [AT (.var 4) (AJ (Ar 283 "places" (AA 0)) (AA 3)),Ba (FX (AJ (AA 2) (AJ (AA 4) (AG 0))) (AP 12 [(AJ (Ar 283 "boxes" (AA 0)) (AA 3)),(AA 4)]))] []],
  AV (AA 2)]⟩
noncomputable def IS:Fn:=⟨4,5,[
  sIf (tOr [(DE (By (AP 11 [(AA 1)]))),(DE (By (AP 10 [(AA 2)]))),(DE (By (AP 10 [(AA 3)])))]) [DO 56 (Aw (Str.ofString "no box"))] [],
  sIf (AY (AA 1) [.In] [(Ar 283 "boxes" (AA 0))]) [DO 68 (Aw (Str.ofString "the name stands there"))] []]⟩
noncomputable def IT:Fn:=⟨3,4,[
  Ja (Ar 283 "boxes" (AA 0)) (AJ (AA 1) (AG 0)) (AA 1),
  Ja (Ar 283 "places" (AA 0)) (AJ (AA 1) (AG 0)) (AA 2)]⟩
noncomputable def I5:Fn:=⟨5,7,[
  Ba (A8 283 "need_new" 42 (AA 0) [(AA 1),(AA 2),(AA 3)]),
  AT (.var 5) (AP 9 [(Ar 283 "shelves" (AA 0)),(A8 283 "rows_without" 41 (AA 0) [CF]),(AA 2),(AA 3),(AA 4)]),
  sIf (AY (AA 5) [.Is] [CF]) [DO 80 (Aw (Str.ofString "no place for it"))] [],
  Ba (A8 283 "stand" 43 (AA 0) [(Ap [(AA 1),(AA 2),(AA 3),(AA 4)]),(AA 5)]),
  AV (AA 5)]⟩
noncomputable def Pe:Fn:=⟨6,7,[
  Ba (AP 0 [(AG 0)])]⟩
noncomputable def Hy:Fn:=⟨2,3,[
  sIf (AY (AA 1) [.NotIn] [(Ar 283 "boxes" (AA 0))]) [DO 92 (Aw (Str.ofString "no box of that name"))] []]⟩
noncomputable def JF:Fn:=⟨2,3,[
  Ba (A8 283 "need" 46 (AA 0) [(AA 1)]),
  Ba (SH (Ar 283 "boxes" (AA 0)) (AA 1)),
  AV (SH (Ar 283 "places" (AA 0)) (AA 1))]⟩
noncomputable def JH:Fn:=⟨2,3,[
  Ba (A8 283 "need" 46 (AA 0) [(AA 1)]),
  AV (AJ (Ar 283 "places" (AA 0)) (AA 1))]⟩
noncomputable def Ix:Fn:=⟨2,3,[
  Ba (A8 283 "need" 46 (AA 0) [(AA 1)]),
  AV (AJ (Ar 283 "boxes" (AA 0)) (AA 1))]⟩
noncomputable def IJ:Fn:=⟨2,3,[
  Ba (A8 283 "need" 46 (AA 0) [(AA 1)]),
  AV (AP 12 [(AJ (Ar 283 "boxes" (AA 0)) (AA 1)),(AJ (Ar 283 "places" (AA 0)) (AA 1))])]⟩
noncomputable def H7:Fn:=⟨1,2,[
  AV (G1 254 Ee 154 39 (Ar 283 "places" (AA 0)) 1 (AP 1 [(Ar 283 "shelves" (AA 0)),(AJ (Ar 283 "places" (AA 0)) (AA 1))]))]⟩
noncomputable def IZ:Fn:=⟨2,5,[
  sIf (DE (AY (AG 0) [.LtE,.Lt] [(AA 1),(A0 .len [(Ar 283 "shelves" (AA 0))])])) [DO 44 (Aw (Str.ofString "no shelf of that number"))] [],
  AT (.var 2) (AM .mul (AJ (AJ (Ar 283 "shelves" (AA 0)) (AA 1)) (AG 0)) (AJ (AJ (Ar 283 "shelves" (AA 0)) (AA 1)) (AG 1))),
  CK (.var 3) .plain [(Ar 283 "places" (AA 0))] [sIf (AY (AJ (AJ (Ar 283 "places" (AA 0)) (AA 3)) (AG 0)) [.Eq] [(AA 1)]) [AT (.var 2) (AM .sub (AA 2) (AM .mul (AJ (AJ (Ar 283 "boxes" (AA 0)) (AA 3)) (AG 1)) (AJ (AJ (Ar 283 "boxes" (AA 0)) (AA 3)) (AG 2))))] []],
  AV (AA 2)]⟩
noncomputable def Iq:Fn:=⟨1,7,[
  AT (.var 1) (Al []),
  CK (.var 2) .plain [(A8 283 "names" 51 (AA 0) [])] [AT (.var 3) (AJ (Ar 283 "places" (AA 0)) (AA 2)),AT (.var 4) (AJ (Ar 283 "boxes" (AA 0)) (AA 2)),AT (.var 5) (AP 9 [(Ar 283 "shelves" (AA 0)),(A8 283 "rows_without" 41 (AA 0) [(AA 2)]),(AJ (AA 4) (AG 1)),(AJ (AA 4) (AG 2)),(AJ (AA 4) (AG 3))]),sIf (By (AP 2 [(Ar 283 "shelves" (AA 0)),(AA 5),(AA 3)])) [Ja (Ar 283 "places" (AA 0)) (AA 2) (AA 5),Ba (FX (AA 1) (Ap [(AA 2),(AA 3),(AA 5)]))] []],
  AV (AA 1)]⟩
noncomputable def IW:Fn:=⟨1,4,[
  AT (.var 1) (Al []),
  AT (.var 2) (A8 283 "gone_round" 53 (AA 0) []),
  Em (AY (A0 .len [(AA 2)]) [.Gt] [(AG 0)]) [Ba (TH (AA 1) (AA 2)),AT (.var 2) (A8 283 "gone_round" 53 (AA 0) [])],
  AV (AA 1)]⟩
noncomputable def P13:List Fn:=[Sz,MV,Ho,Ld,Lv,LW,MQ,Lf,Li,L7,Iw,Hr,It,H3,FF,I3,IC,I1,Fc,Ia,Hs,H6,Ig,Iy,Iu,IF,IQ,FL,I4,H2,IY,IP,IX,FN,Ii,Io,Iz,DI,IH,CR,Ih,JE,IS,IT,I5,Pe,Hy,JF,JH,Ix,IJ,H7,IZ,Iq,IW]
noncomputable def PB13:List (Fn × Nat):=[(Sz,0),(MV,0),(Ho,0),(Ld,0),(Lv,0),(LW,0),(MQ,0),(Lf,0),(Li,0),(L7,0),(Iw,0),(Hr,0),(It,0),(H3,2),(FF,0),(I3,0),(IC,0),(I1,0),(Fc,0),(Ia,0),(Hs,0),(H6,0),(Ig,0),(Iy,0),(Iu,0),(IF,0),(IQ,0),(FL,0),(I4,0),(H2,0),(IY,0),(IP,0),(IX,0),(FN,0),(Ii,0),(Io,0),(Iz,0),(DI,0),(IH,0),(CR,0),(Ih,0),(JE,0),(IS,0),(IT,0),(I5,0),(Pe,0),(Hy,0),(JF,0),(JH,0),(Ix,0),(IJ,0),(H7,1),(IZ,0),(Iq,0),(IW,0)]
end Mine
namespace Mine
open PySem PySem.Calls PySem.W PyProof.Rows
noncomputable def q13:Program:=view PySem.Challenge.pw_uf030015_13 [0,2,3,4,5,6,7,9,10,11,12,13,14,15,16,17,18,19,21,22,23,24,25,26,27,28,30,31,33,34,35,36,37,38,39,40,41,42,43,44,45,46,47,48,49,50,51,52,53,54,55,56,57]
noncomputable def c13:ClsRec:=match clsOf? q13 "Rack" with
 | some c=>c
 | none=>⟨"", none,[],[],0,[]⟩
noncomputable def P9 (k:Nat):List Value:=.ref k :: .ref 31 :: [.type "ValueError", .type "Exception", .type "BaseException", .type "object"]
noncomputable def wh13:Wh:=⟨283,40,258,254,293,289,[⟨"ShelfError", 31,[31,44,56,68,80,92],[.ref 31,.type "ValueError", .type "Exception", .type "BaseException", .type "object"]⟩,
 ⟨"NoShelf", 44,[44],P9 44⟩,⟨"NoBox", 56,[56],P9 56⟩,⟨"Twice", 68,[68],P9 68⟩,⟨"NoRoom", 80,[80],P9 80⟩,⟨"Unknown", 92,[92],P9 92⟩]⟩
set_option maxRecDepth 100000 in
theorem reads13:Reads (Dg q13 c13 wh13) (C0 q13 c13) 1 PB13:=by
 intro K fa mg mb B S
 kernel_rfl
set_option maxRecDepth 100000 in
theorem text13:TextOk q13 [] c13 wh13 where
 mem:=by
  have e:(plainsOf q13 [])=[c13]:=by kernel_rfl
  rw [e];exact List.mem_singleton.mpr rfl
 name:=by kernel_rfl
 quiet:=by kernel_rfl
 dots:=by kernel_rfl
 init:=by kernel_rfl
 owns:=by kernel_rfl
 kids:=by kernel_rfl
 blt:=by kernel_rfl
 lit:=by kernel_rfl
theorem hk13:∀ (i:Nat) (r:Fn × Nat),PB13[i]?=some r→r.2 ≠ 0→∃ d:FRec,(C0 q13 c13)[i]?=some d∧((r.2=1∧d.name=AX ++ "." ++ "names")∨r.2=2∧d.name="by_size"):=by
 intro i r h hr
 have key:∀ i,i < 55→i ≠ 51→i ≠ 13→(PB13[i]?.map Prod.snd)=some 0:=by decide
 have hlt:i < 55:=(List.getElem?_eq_some_iff.mp h).1
 by_cases e:i=51
 ·subst e
  have e:((C0 q13 c13).map (·.name))[51]?=some (AX ++ "." ++ "names"):=by kernel_rfl
  rw [List.getElem?_map] at e
  cases h
  refine AF (Option.map_eq_some_iff.mp e) fun d a b=>⟨d,a,.inl ⟨rfl,b⟩⟩
 ·by_cases e':i=13
  ·subst e'
   have e:((C0 q13 c13).map (·.name))[13]?=some ("by_size":Str):=by kernel_rfl
   rw [List.getElem?_map] at e
   cases h
   refine AF (Option.map_eq_some_iff.mp e) fun d a b=>⟨d,a,.inr ⟨rfl,b⟩⟩
  ·have:=key i hlt e e'
   rw [h] at this
   exact absurd (Option.some.inj this) hr
end Mine
namespace Mine
open PySem
set_option maxHeartbeats 2000000
local macro_rules | `(tactic| wtm_at "mine rfl") => `(tactic| with_unfolding_all rfl)
local macro_rules | `(tactic| wtm_at "mine ref") => `(tactic| first | assumption | with_unfolding_all rfl | exact AC | (refine AB ?_; wtm_at "mine ref"))
local macro_rules | `(tactic| wtm_at "mine rk") => `(tactic| first | assumption | exact Rk.at_ (by assumption) | (apply Tn; wtm_at "mine rk"))
local macro_rules | `(tactic| wtm_at "mine s") => `(tactic| first
  | (refine (?_ : AttrK _ _ _ _ _); with_reducible first | refine Vp (by wtm_at "mine rk") ?_ | refine V5 (by wtm_at "mine rk") ?_ | refine WC (by wtm_at "mine rk") ?_)
  | (refine (?_ : _ ∧ _); with_reducible first | refine TQ (by wtm_at "mine rk") (by decide +kernel) ?_ | refine OM (by wtm_at "mine ref") ?_)
  | (refine (?_ : BinK _ _ _ _ _); with_reducible first | (refine Tg ?_ ?_; · wtm_at "mine rfl") | (refine S0 ?_ ?_; · omega) | (refine UV ?_ ?_; · wtm_at "mine rfl") | (refine Px ?_ ?_; · omega) | (refine TO ?_ ?_; · wtm_at "mine rfl") | (refine Sf ?_ ?_; · omega) | refine BinK.addT (List.cons_ne_nil _ _) (List.cons_ne_nil _ _) (Nat.le_of_ble_eq_true rfl) ?_ | refine TK ?_)
  | (refine (?_ : PrimK _ _ _ _); with_reducible first | refine PrimK.lenL (by wtm_at "mine ref") ?_ | refine PrimK.lenT (Nat.le_of_ble_eq_true rfl) ?_ | refine Uo ?_ | refine U7 (by wtm_at "mine rfl") ?_ | refine VG (by wtm_at "mine ref") ?_ | refine PrimK.list (by wtm_at "mine ref") ?_ | refine PrimK.intB ?_)
  | (refine (?_ : CmpK _ _ _ _ _); with_reducible first | refine ST (by decide +kernel) ?_ | refine cm_eqSf (by decide +kernel) ?_)
  | (refine (?_ : SubK _ _ _ _); with_reducible refine r_subLK (by wtm_at "mine ref") (by wtm_at "mine rfl") (by wtm_at "mine rfl") ?_)
  | refine TruK.list (by wtm_at "mine ref") ?_ | refine BindK.list (by wtm_at "mine ref") (by wtm_at "mine rfl") ?_)
local macro_rules | `(tactic| wtm_at "mine") => `(tactic| repeat wtm_at "mine s")
section
variable {d:Nat} {σ:AD} {Q:AO} {X:Ac}
theorem So (e:σ[n]?=some (.list (rows.map Cu))) (hz:rows.length < 64) (q:∀ g σ',σ <+: σ'→IsGap size room rows g→Q (PR g) σ'):callW P13 (d + 1) 3 [.ref n,.int size,.int room] σ Q X:=by
 refine AL (fn:=Ld) rfl rfl ?_
 dsimp only [Ld]
 refine SortK.rows (rs:=rows.map fun r=>[r.1,r.2]) (by rw [e,List.map_map];rfl) (by rw [List.length_map];exact hz) (fun r hr=>?_) fun ts hp hs=>?_
 ·obtain ⟨x,_,rfl⟩:=List.mem_map.mp hr;exact List.cons_ne_nil _ _
 obtain ⟨rs,rfl,hp,hs⟩:=Na hp hs
 rw [List.map_map]
 refine BW (vs:=rs.map Cu) (fun i ρ' σ'=>σ'=σ ++ [.list (rs.map Cu)]∧∃ a b,ρ'=[.ref n,.int size,.int room,.int ((rs.take i).foldl (BE size) 0),a,b,.undef]) AC ⟨rfl,_,_,rfl⟩ (fun i v ρ' σ' R hv hI hR=>?_) fun ρ' σ' hI=>?_
 ·obtain ⟨rfl,a,b,rfl⟩:=hI
  obtain ⟨r,hr,rfl⟩:=List.mem_map_get hv
  have hn:(rs.take (i + 1)).foldl (BE size) 0=if r.1 < (rs.take i).foldl (BE size) 0 + size∧r.2 > (rs.take i).foldl (BE size) 0 then r.2 else (rs.take i).foldl (BE size) 0:=by
   rw [List.take_add_one,hr,List.foldl_append];rfl
  dsimp only [Cu]
  refine Am (fun h1=>?_) fun h1=>?_
  ·refine Am (fun h2=>?_) fun h2=>?_
   ·exact hR _ _ AC ⟨rfl,_,_,by rw [hn,if_pos ⟨h1,h2⟩];rfl⟩
   ·exact hR _ _ AC ⟨rfl,_,_,by rw [hn,if_neg fun h=>h2 h.2];rfl⟩
  ·exact hR _ _ AC ⟨rfl,_,_,by rw [hn,if_neg fun h=>h1 h.1];rfl⟩
 ·obtain ⟨rfl,a,b,rfl⟩:=hI
  rw [List.length_map,List.take_length]
  have hg:=Vk (size:=size) (room:=room) hp hs rfl
  refine Am (fun h=>?_) fun h=>?_
  ·rw [if_pos h] at hg
   exact q _ _ AH hg
  ·rw [if_neg h] at hg
   exact q _ _ AH hg
theorem Jg {n:Nat} {es:List Int} {size room:Int} (e:σ[n]?=some (.list (es.map .int))) (hz:es.length < 63)
  (q:∀ (ms:List Int) k σ',σ <+: σ'→ms.Pairwise (· < ·)→(∀ x,x ∈ ms ↔ x ∈ 0 :: es.filter fun e=>decide (0 < e) && decide (e≤room - size))→σ'[k]?=some (.list (ms.map .int))→Q (.ref k) σ'):callW P13 (d + 1) 4 [.ref n,.int size,.int room] σ Q X:=by
 refine AL (fn:=Lv) rfl rfl ?_
 dsimp only [Lv]
 refine Gz (g:=.int) (fun e=>decide (0 < e) && decide (e≤room - size)) (AB e) (Nat.le_trans (Nat.le_of_lt hz) (by decide)) (fun x hx K hK hK'=>?_) ?_
 ·refine Am (fun h1=>?_) fun h1=>?_
  ·refine Am (fun h2=>?_) fun h2=>?_
   ·exact hK (by rw [decide_eq_true h1,decide_eq_true h2];rfl)
   ·exact hK' (by rw [decide_eq_false h2,Bool.and_false])
  ·exact hK' (by rw [decide_eq_false h1];rfl)
 ·refine BinK.addL (AB AC) AC ?_ ?_
  ·rw [List.length_map]
   exact Nat.le_trans (Nat.add_le_add_left (List.length_filter_le _ _) _) (Nat.le_trans (Nat.add_le_add_left (Nat.le_of_lt hz) _) (by decide))
  ·refine SortK.set (ns:=0 :: es.filter fun e=>decide (0 < e) && decide (e≤room - size)) AC ?_ fun ms h1 h2=>?_
   ·exact Nat.lt_of_le_of_lt (Nat.succ_le_succ (List.length_filter_le _ _)) (Nat.succ_lt_succ hz)
   ·exact q ms _ _ (AH.trans (AH.trans (AH.trans AH))) h1 h2 AC
theorem QX {n:Nat} {os:List Ot} {W H w h:Int} (e:σ[n]?=some (.list (os.map Ot.v))) (hz:os.length < 63)
  (q:∀ r σ',σ <+: σ'→Ci (Gd (os.map Ot.low) H W h w) r→D8 (os.map Ot.low) r→Q (Dv r) σ'):callW P13 (d + 2) 5 [.ref n,.int W,.int H,.int w,.int h] σ Q X:=by
 refine AL (fn:=LW) rfl rfl ?_
 dsimp only [LW]
 refine EO (g:=Ot.v) (fun o=>o.u + o.h) .int e (Nat.le_trans (Nat.le_of_lt hz) (by decide)) (fun x hx K hK=>?_) ?_
 ·dsimp only [Ot.v]
  exact hK
 refine Jg AC (by rw [List.length_map];exact hz) fun ms k σ₁ p₁ h1 h2 e1=>?_
 have p₁:=AH.trans p₁
 refine BW (fun i ρ' σ'=>σ₁ <+: σ'∧(∃ a b c,ρ'=[.ref n,.int W,.int H,.int w,.int h,a,b,c,.undef])∧∀ r,Search (os.map Ot.low) H W h w (ms.drop i) r→Search (os.map Ot.low) H W h w ms r) e1 ⟨List.prefix_refl _,⟨_,_,_,rfl⟩,fun r h=>h⟩ (fun i v ρ' σ' R hv hI hR=>?_) fun ρ' σ' hI=>?_
 ·refine Bm hI fun p₂ zt1 hS=>CH zt1 fun a b c ze2=>?_;subst ze2
  refine AF (List.mem_map_get hv) fun p hp ze1=>?_;subst ze1
  have hd:ms.drop i=p :: ms.drop (i + 1):=C1 hp
  rw [hd] at hS
  refine Gz (g:=Ot.v) (fun o=>decide (o.u < p + h) && decide (p < o.u + o.h)) (AN (p₁.trans p₂) e) (Nat.le_trans (Nat.le_of_lt hz) (by decide)) (fun x hx K hK hK'=>?_) ?_
  ·dsimp only [Ot.v]
   refine Am (fun h1=>?_) fun h1=>?_
   ·refine Am (fun h2=>?_) fun h2=>?_
    ·exact hK (by rw [decide_eq_true h1,decide_eq_true h2];rfl)
    ·exact hK' (by rw [decide_eq_false h2,Bool.and_false])
   ·exact hK' (by rw [decide_eq_false h1];rfl)
  refine EO (g:=Ot.v) (fun o=>(o.l,o.l + o.w)) Cu AC (Nat.le_trans (List.length_filter_le _ _) (Nat.le_trans (Nat.le_of_lt hz) (by decide))) (fun x hx K hK=>?_) ?_
  ·dsimp only [Ot.v]
   exact hK
  have hband:(os.filter fun o=>decide (o.u < p + h) && decide (p < o.u + o.h)).map (fun o=>(o.l,o.l + o.w))=CJ (Kg h p (os.map Ot.low)):=by
   unfold CJ Kg
   rw [List.filter_map,List.map_map];rfl
  rw [hband]
  refine So AC (by rw [← hband,List.length_map];exact Nat.lt_of_le_of_lt (List.length_filter_le _ _) (Nat.lt_succ_of_lt hz)) fun g σ₃ p₃ hg=>?_
  have p₃:=AH.trans (AH.trans p₃)
  cases g with
  | none=>
   dsimp only [PR]
   exact hR _ _ (AN (p₂.trans p₃) e1) ⟨p₂.trans p₃,⟨_,_,_,rfl⟩,fun r h=>hS r (.miss hg (.inl rfl) h)⟩
  | some s=>
   dsimp only [PR]
   refine Am (fun h3=>?_) fun h3=>?_
   ·obtain ⟨f1,f2⟩:=CX (hS _ (.hit hg h3)) h1 fun x=>by rw [h2,C7,List.map_map];rfl
    exact q _ _ ((p₁.trans p₂).trans p₃) f1 f2
   ·exact hR _ _ (AN (p₂.trans p₃) e1) ⟨p₂.trans p₃,⟨_,_,_,rfl⟩,fun r h=>hS r (.miss hg (.inr h3) h)⟩
 ·refine Bm hI fun p₂ zt1 hS=>CH zt1 fun a b c ze2=>?_;subst ze2
  rw [List.length_map,List.drop_length] at hS
  obtain ⟨f1,f2⟩:=CX (hS _ .nil) h1 fun x=>by rw [h2,C7,List.map_map];rfl
  exact q _ _ (p₁.trans p₂) f1 f2
theorem Kr {n:Nat} {os:List Ot} {W H w h:Int} (e:σ[n]?=some (.list (os.map Ot.v))) (hz:os.length < 63)
  (q:∀ r σ',σ <+: σ'→Ci (Gd (os.map Ot.lef) W H w h) r→D8 (os.map Ot.lef) r→Q (Sg r) σ'):callW P13 (d + 2) 6 [.ref n,.int W,.int H,.int w,.int h] σ Q X:=by
 refine AL (fn:=MQ) rfl rfl ?_
 dsimp only [MQ]
 refine EO (g:=Ot.v) (fun o=>o.l + o.w) .int e (Nat.le_trans (Nat.le_of_lt hz) (by decide)) (fun x hx K hK=>?_) ?_
 ·dsimp only [Ot.v]
  exact hK
 refine Jg AC (by rw [List.length_map];exact hz) fun ms k σ₁ p₁ h1 h2 e1=>?_
 have p₁:=AH.trans p₁
 refine BW (fun i ρ' σ'=>σ₁ <+: σ'∧(∃ a b c,ρ'=[.ref n,.int W,.int H,.int w,.int h,a,b,c,.undef])∧∀ r,Search (os.map Ot.lef) W H w h (ms.drop i) r→Search (os.map Ot.lef) W H w h ms r) e1 ⟨List.prefix_refl _,⟨_,_,_,rfl⟩,fun r h=>h⟩ (fun i v ρ' σ' R hv hI hR=>?_) fun ρ' σ' hI=>?_
 ·refine Bm hI fun p₂ zt1 hS=>CH zt1 fun a b c ze2=>?_;subst ze2
  refine AF (List.mem_map_get hv) fun p hp ze1=>?_;subst ze1
  have hd:ms.drop i=p :: ms.drop (i + 1):=C1 hp
  rw [hd] at hS
  refine Gz (g:=Ot.v) (fun o=>decide (o.l < p + w) && decide (p < o.l + o.w)) (AN (p₁.trans p₂) e) (Nat.le_trans (Nat.le_of_lt hz) (by decide)) (fun x hx K hK hK'=>?_) ?_
  ·dsimp only [Ot.v]
   refine Am (fun h1=>?_) fun h1=>?_
   ·refine Am (fun h2=>?_) fun h2=>?_
    ·exact hK (by rw [decide_eq_true h1,decide_eq_true h2];rfl)
    ·exact hK' (by rw [decide_eq_false h2,Bool.and_false])
   ·exact hK' (by rw [decide_eq_false h1];rfl)
  refine EO (g:=Ot.v) (fun o=>(o.u,o.u + o.h)) Cu AC (Nat.le_trans (List.length_filter_le _ _) (Nat.le_trans (Nat.le_of_lt hz) (by decide))) (fun x hx K hK=>?_) ?_
  ·dsimp only [Ot.v]
   exact hK
  have hband:(os.filter fun o=>decide (o.l < p + w) && decide (p < o.l + o.w)).map (fun o=>(o.u,o.u + o.h))=CJ (Kg w p (os.map Ot.lef)):=by
   unfold CJ Kg
   rw [List.filter_map,List.map_map];rfl
  rw [hband]
  refine So AC (by rw [← hband,List.length_map];exact Nat.lt_of_le_of_lt (List.length_filter_le _ _) (Nat.lt_succ_of_lt hz)) fun g σ₃ p₃ hg=>?_
  have p₃:=AH.trans (AH.trans p₃)
  cases g with
  | none=>
   dsimp only [PR]
   exact hR _ _ (AN (p₂.trans p₃) e1) ⟨p₂.trans p₃,⟨_,_,_,rfl⟩,fun r h=>hS r (.miss hg (.inl rfl) h)⟩
  | some s=>
   dsimp only [PR]
   refine Am (fun h3=>?_) fun h3=>?_
   ·obtain ⟨f1,f2⟩:=CX (hS _ (.hit hg h3)) h1 fun x=>by rw [h2,C7,List.map_map];rfl
    exact q _ _ ((p₁.trans p₂).trans p₃) f1 f2
   ·exact hR _ _ (AN (p₂.trans p₃) e1) ⟨p₂.trans p₃,⟨_,_,_,rfl⟩,fun r h=>hS r (.miss hg (.inr h3) h)⟩
 ·refine Bm hI fun p₂ zt1 hS=>CH zt1 fun a b c ze2=>?_;subst ze2
  rw [List.length_map,List.drop_length] at hS
  obtain ⟨f1,f2⟩:=CX (hS _ .nil) h1 fun x=>by rw [h2,C7,List.map_map];rfl
  exact q _ _ (p₁.trans p₂) f1 f2
theorem KR {n:Nat} {os:List Ot} {W H w h:Int} (b:Bool) (e:σ[n]?=some (.list (os.map Ot.v))) (hz:os.length < 63) (q:∀ r σ',σ <+: σ'→FI os W H w h b r→Q (Dv r) σ'):callW P13 (d + 3) 7 [.ref n,.tup [.int W,.int H,hab b],.int w,.int h] σ Q X:=by
 refine AL (fn:=Lf) rfl rfl ?_
 dsimp only [Lf]
 refine GX ?_
 cases b with
 | true=>
  exact QX e hz fun r σ' p h1 h2=>q r σ' p ⟨h1,h2⟩
 | false=>
  refine Kr e hz fun r σ' p h1 h2=>?_
  rw [PT]
  exact q (Dn r) σ' p ⟨by rw [Fs];exact h1,by rw [Fs];exact h2⟩
end
section
variable {d:Nat} {σ:AD} {Q:AO} {X:Ac}
theorem Hw {n i:Nat} {shs:List Sh} {sh:Sh} {x:Int × Int} {t:Bool} (e:σ[n]?=some (.list (shs.map Sh.v))) (hi:shs[i]?=some sh) (q:Q (.tup ((GG sh.b i x t).map .int)) σ):callW P13 (d + 1) 1 [.ref n,.tup [.int i,.int x.1,.int x.2,.bool t]] σ Q X:=by
 refine AL (fn:=MV) rfl rfl ?_
 dsimp only [MV]
 have hv:(shs.map Sh.v)[(i:Int).toNat]?=some sh.v:=by rw [Int.toNat_natCast,List.getElem?_map,hi];rfl
 obtain ⟨W,H,b⟩:=sh
 cases t with
 | true=>
  refine Aq e (Int.natCast_nonneg i) hv ?_
  dsimp only [Sh.v]
  refine GX ?_
  cases b with
  | true=>exact q
  | false=>exact q
 | false=>
  refine Aq e (Int.natCast_nonneg i) hv ?_
  dsimp only [Sh.v]
  refine GX ?_
  cases b with
  | true=>exact q
  | false=>exact q
theorem R2 {n i:Nat} {shs:List Sh} {sh:Sh} {x y:Int × Int} (e:σ[n]?=some (.list (shs.map Sh.v))) (hi:shs[i]?=some sh) (q:NL sh.b y x→Q (.bool true) σ) (q':¬ NL sh.b y x→Q (.bool false) σ) :
  callW P13 (d + 2) 2 [.ref n,.tup [.int i,.int y.1,.int y.2,.bool true],.tup [.int i,.int x.1,.int x.2,.bool false]] σ Q X:=by
 refine AL (fn:=Ho) rfl rfl ?_
 dsimp only [Ho]
 refine Hw e hi ?_
 refine Hw e hi ?_
 refine CmpK.ltT ?_
 by_cases h:NL sh.b y x
 ·rw [KK.mpr h];exact q h
 ·rw [Bool.eq_false_iff.mpr fun z=>h (KK.mp z)];exact q' h
theorem Mc {n i k:Nat} {shs:List Sh} {sh:Sh} {os:List Ot} {w h:Int} {turns:Bool} (e:σ[n]?=some (.list (shs.map Sh.v))) (hi:shs[i]?=some sh) (ek:σ[k]?=some (.list (os.map Ot.v))) (hz:os.length < 63)
  (q:∀ r σ',σ <+: σ'→OnP w h turns sh os r→Q (UM i r) σ'):callW P13 (d + 4) 8 [.ref n,.int i,.ref k,.int w,.int h,.bool turns] σ Q X:=by
 refine AL (fn:=Li) rfl rfl ?_
 dsimp only [Li]
 have hv:(shs.map Sh.v)[(i:Int).toNat]?=some sh.v:=by rw [Int.toNat_natCast,List.getElem?_map,hi];rfl
 refine Aq e (Int.natCast_nonneg i) hv ?_
 refine KR sh.b ek hz fun r1 σ₁ p₁ f1=>?_
 have e1:=AN p₁ e
 have ek1:=AN p₁ ek
 cases turns with
 | false=>
  cases r1 with
  | none=>
   dsimp only [Dv]
   exact q none _ p₁ (Ej f1 (fun e=>(nomatch e)) (fun _=>rfl) .no)
  | some x=>
   dsimp only [Dv]
   exact q (some (x.1,x.2,false)) _ p₁ (Ej f1 (fun e=>(nomatch e)) (fun _=>rfl) .up)
 | true=>
  cases r1 with
  | none=>
   dsimp only [Dv]
   refine Aq e1 (Int.natCast_nonneg i) hv ?_
   refine KR sh.b ek1 hz fun r2 σ₂ p₂ f2=>?_
   cases r2 with
   | none=>
    dsimp only [Dv]
    exact q none _ (p₁.trans p₂) (Ej f1 (fun _=>f2) (fun e=>(nomatch e)) .no)
   | some y=>
    dsimp only [Dv]
    exact q (some (y.1,y.2,true)) _ (p₁.trans p₂) (Ej f1 (fun _=>f2) (fun e=>(nomatch e)) .turned)
  | some x=>
   dsimp only [Dv]
   refine Aq e1 (Int.natCast_nonneg i) hv ?_
   refine KR sh.b ek1 hz fun r2 σ₂ p₂ f2=>?_
   cases r2 with
   | none=>
    dsimp only [Dv]
    exact q (some (x.1,x.2,false)) _ (p₁.trans p₂) (Ej f1 (fun _=>f2) (fun e=>(nomatch e)) .up)
   | some y=>
    dsimp only [Dv]
    refine R2 (x:=x) (y:=y) (AN p₂ e1) hi (fun hl=>?_) fun hl=>?_
    ·exact q (some (y.1,y.2,true)) _ (p₁.trans p₂) (Ej f1 (fun _=>f2) (fun e=>(nomatch e)) (.less hl))
    ·exact q (some (x.1,x.2,false)) _ (p₁.trans p₂) (Ej f1 (fun _=>f2) (fun e=>(nomatch e)) (.more hl))
end
section
variable {d:Nat} {σ:AD} {Q:AO} {X:Ac}
theorem E6 {n m:Nat} {shs:List Sh} {ks:List Nat} {oss:List (List Ot)} {w h:Int} {turns:Bool} (e:σ[n]?=some (.list (shs.map Sh.v))) (em:σ[m]?=some (.list (ks.map .ref))) (A:Ka σ ks oss) (hl:shs.length=oss.length) (hs:shs.length≤1000) (hz:∀ os ∈ oss,os.length < 63)
  (q:∀ r σ',σ <+: σ'→FP (OnP w h turns) 0 (shs.zip oss) r→Q (Fb r) σ'):callW P13 (d + 5) 9 [.ref n,.ref m,.int w,.int h,.bool turns] σ Q X:=by
 refine AL (fn:=L7) rfl rfl ?_
 dsimp only [L7]
 wtm_at "mine"
 rw [List.length_map]
 refine E7 (fun i ρ' σ'=>σ <+: σ'∧(∃ a c,ρ'=[.ref n,.ref m,.int w,.int h,.bool turns,a,c,.undef])∧∀ r,FP (OnP w h turns) i ((shs.zip oss).drop i) r→FP (OnP w h turns) 0 (shs.zip oss) r) (by exact ⟨ai1 .le (.g (.n 1000000)) .v0 (.l .n0 .v0 .e) rfl (Int.natCast_nonneg _),ai1 .le .v0 (.n 1000000) (.l .v0 (.n 1000) .e) rfl (Int.ofNat_le.mpr hs)⟩) ⟨List.prefix_refl _,⟨_,_,rfl⟩,fun r h=>h⟩ (fun i ρ' σ' R hi hI hR=>?_) fun ρ' σ' hI=>?_
 ·refine Bm hI fun p₁ zt1 hF=>CL zt1 fun a c ze2=>?_;subst ze2
  have i1:i < shs.length:=Int.ofNat_lt.mp hi
  have i2:i < oss.length:=by exact an3 .lt .v0 .v1 (.t .v0 .v2 (.q .v2 .v1 .e)) rfl i1 hl
  have i3:i < ks.length:=A.1▸i2
  have hk:=List.getElem?_eq_getElem i3
  have ho:=List.getElem?_eq_getElem i2
  have hd:(shs.zip oss).drop i=(shs[i],oss[i]) :: (shs.zip oss).drop (i + 1):=C1 (List.getElem?_zip_eq_some.mpr ⟨List.getElem?_eq_getElem i1,ho⟩)
  rw [hd] at hF
  refine Aq (v:=.ref ks[i]) (AN p₁ em) (Int.natCast_nonneg i) (by rw [Int.toNat_natCast,List.getElem?_map,hk];rfl) ?_
  refine Mc (AN p₁ e) (List.getElem?_eq_getElem i1) (AN p₁ (A.2 i _ _ hk ho)) (hz _ (List.mem_of_getElem? ho)) fun r σ₂ p₂ on=>?_
  cases r with
  | none=>
   dsimp only [UM]
   exact hR _ _ ⟨p₁.trans p₂,⟨_,_,rfl⟩,fun r h=>hF r (.miss on h)⟩
  | some x=>
   dsimp only [UM]
   exact q (some (_,_,_,_)) _ (p₁.trans p₂) (hF _ (.hit on))
 ·refine Bm hI fun p₁ zt1 hF=>CL zt1 fun a c ze2=>?_;subst ze2
  rw [Int.toNat_natCast,List.drop_of_length_le (by rw [List.length_zip];exact Nat.min_le_left _ _)] at hF
  exact q none _ p₁ (hF _ .nil)
end
set_option maxHeartbeats 2000000
section
variable {d:Nat} {σ:AD} {Q:AO} {X:Ac}
theorem Hx (q:1≤k∧k≤1000000→Q (.bool true) σ) (q':¬ (1≤k∧k≤1000000)→Q (.bool false) σ):callW P13 (d + 1) 10 [.int k] σ Q X:=by
 refine AL (fn:=Iw) rfl rfl ?_
 dsimp only [Iw]
 refine Am (fun h=>?_) fun h=>?_
 ·by_cases h':k≤1000000
  ·refine (?_:Q (.bool _) _);rw [decide_eq_true h'];exact q ⟨h,h'⟩
  ·refine (?_:Q (.bool _) _);rw [decide_eq_false h'];exact q' fun z=>h' z.2
 ·exact q' fun z=>h z.1
theorem Tt (hx:x.cps.all (· < 128)=true) (hl:x.length≤1000) (q:Ay x=true→∀ σ',σ <+: σ'→Q (.bool true) σ') (q':Ay x=false→∀ σ',σ <+: σ'→Q (.bool false) σ'):callW P13 (d + 1) 11 [.str x] σ Q X:=by
 refine AL (fn:=Hr) rfl rfl ?_
 dsimp only [Hr]
 unfold Ay at q q'
 wtm_at "mine"
 refine PrimK.lenS (Nat.le_trans hl (by decide)) ?_
 refine Am (fun h1=>?_) fun h1=>?_
 ·refine Am (fun h2=>?_) fun h2=>?_
  ·refine Sj (fun c=>.bool (decide (c ∈ Cw))) hx hl (fun c hc K hK=>?_) ?_
   ·refine CmpK.inS ?_
    exact hK
   ·refine PrimK.all (bs:=x.cps.toList.map fun c=>decide (c ∈ Cw)) (by rw [List.map_map];exact AC) ?_
    refine (?_:Q (.bool _) _)
    rw [List.all_map]
    cases hb:x.cps.toList.all (id ∘ fun c=>decide (c ∈ Cw)) with
    | true=>exact q (by rw [decide_eq_true (Int.ofNat_lt.mp h1:0 < x.length),decide_eq_true (Int.ofNat_le.mp h2:x.length≤12)];exact hb) _ AH
    | false=>exact q' (by rw [decide_eq_true (Int.ofNat_lt.mp h1:0 < x.length),decide_eq_true (Int.ofNat_le.mp h2:x.length≤12)];exact hb) _ AH
  ·refine (?_:Q (.bool _) _)
   rw [decide_eq_false h2]
   exact q' (by rw [decide_eq_true (Int.ofNat_lt.mp h1:0 < x.length),decide_eq_false (fun z=>h2 (Int.ofNat_le.mpr z):¬ x.length≤12)];rfl) _ (List.prefix_refl _)
 ·exact q' (by rw [decide_eq_false (fun z=>h1 (Int.ofNat_lt.mpr z):¬ 0 < x.length)];rfl) _ (List.prefix_refl _)
theorem HR {e:En} (q:Q e.ot.v σ):callW P13 (d + 1) 12 [e.box,e.pl] σ Q X:=by
 refine AL (fn:=It) rfl rfl ?_
 dsimp only [It,En.box,En.pl]
 unfold En.ot at q
 refine JQ (fun h=>?_) fun h=>?_
 ·rw [if_pos h] at q
  exact q
 ·rw [if_neg (by rw [h];exact Bool.false_ne_true)] at q
  exact q
theorem Pj (e:σ[n]?=some (.list (xs.map Shx.v))) (hs:∀ x ∈ xs,PyData.strOk x.s=true) (er:σ[r]?=some (.inst 283 m)) (em:σ[m]?=some (.ns [])) (hm:m ≠ 0) (hz:xs.length≤1000)
  (q:Fit xs→∀ σ' S B P,KpB m σ σ'→σ'[m]?=some (.ns (Ed S B P))→σ'[S]?=some (.list (xs.map Shx.v))→σ'[B]?=some (.dict 0 [])→σ'[P]?=some (.dict 0 [])→B ≠ P→σ.length≤S→σ.length≤B→σ.length≤P→Q .none σ') (q':¬ Fit xs→X 44 σ):callW P13 (d + 2) 40 [.ref r,.ref n] σ Q X:=by
 refine AL (fn:=Ih) rfl rfl ?_
 dsimp only [Ih]
 have no:¬ (1≤xs.length∧xs.length≤9)→X 44 σ:=fun h=>q' fun z=>h z.n
 wtm_at "mine"
 rw [List.length_map]
 refine Am (fun h1=>?_) fun h1=>?_
 ·refine FO (fun h2=>?_) fun h2=>?_
  ·exact no fun z=>by exact aj1 (.m .v0 (.n 9) (.l .v0 (.n 9) .e)) rfl h2 (Int.ofNat_le.mpr z.2)
  refine BW (fun i ρ' σ'=>σ'=σ∧(∃ a b c,ρ'=[.ref r,.ref n,a,b,c,.undef])∧∀ x ∈ xs.take i,x.Good) e ⟨rfl,⟨_,_,_,rfl⟩,fun x hx=>by rw [List.take_zero] at hx;cases hx⟩ (fun i v ρ' σ' R hv hI hR=>?_) fun ρ' σ' hI=>?_
  ·refine Bm hI fun ze1 zt2 hg=>CH zt2 fun a b c ze3=>?_;subst ze1;subst ze3
   refine AF (List.mem_map_get hv) fun x hx ze1=>?_;subst ze1
   have hmem:=List.mem_of_getElem? hx
   dsimp only [Shx.v]
   refine Hx (fun hw=>?_) fun hw=>?_
   ·refine Hx (fun hh=>?_) fun hh=>?_
    ·refine N3 (hs x hmem) (fun hc=>?_) fun hc=>?_
     ·refine hR _ _ e ⟨rfl,⟨_,_,_,rfl⟩,fun y hy=>?_⟩
      rw [Bh hx] at hy
      exact (List.mem_append.mp hy).elim (hg y) fun m=>List.mem_singleton.mp m▸⟨hw,hh,hc⟩
     ·exact q' fun z=>hc (z.all x hmem).s
    ·exact q' fun z=>hh (z.all x hmem).h
   ·exact q' fun z=>hw (z.all x hmem).w
  ·refine Bm hI fun ze1 zt2 hg=>CH zt2 fun a b c ze3=>?_;subst ze1;subst ze3
   rw [List.length_map,List.take_length] at hg
   have hlt:∀ {x:Nat} {o:O},σ'[x]?=some o→x < σ'.length:=fun h=>(List.getElem?_eq_some_iff.mp h).1
   have hm':=hlt em
   have hne:m ≠ r:=fun z=>by rw [z,er] at em;cases em
   wtm_at "mine"
   refine PutK.mk (AB er) (AB em) hm (by decide) ?_
   rw [Uj]
   refine PutK.mk (AB (AI hne (AB er))) (AB (Ai (AB em))) hm (Nat.le_of_ble_eq_true rfl) ?_
   rw [Tz]
   refine PutK.mk (AB (AI hne (AB (AI hne (AB er))))) (AB (Ai (AB (Ai (AB em))))) hm (Nat.le_of_ble_eq_true rfl) ?_
   rw [UK]
   have l2:∀ {τ:AD} {o u:O},((τ ++ [o]).set m u).length=τ.length + 1:=fun {τ o u}=>by rw [List.length_set,List.length_append];rfl
   refine q ⟨⟨Int.ofNat_le.mp h1,Int.ofNat_le.mp h2⟩,hg⟩ _ _ _ _ (fun x o hx h=>AI (Ne.symm hx) (AB (AI (Ne.symm hx) (AB (AI (Ne.symm hx) (AB h)))))) (Ai (AB (Ai (AB (Ai (AB em)))))) ?_ ?_ ?_ ?_ ?_ ?_ ?_
   ·exact AI (by exact fun z0=>am2 (.p .v0 .v1 (.t .v0 .v1 .e)) rfl z0 hm') (AB (AI (by exact fun z0=>am2 (.p .v0 .v1 (.t .v0 .v1 .e)) rfl z0 hm') (AB (AI (by exact fun z0=>am2 (.p .v0 .v1 (.t .v0 .v1 .e)) rfl z0 hm') AC))))
   ·exact AI (by rw [l2];exact fun z0=>am2 (.p .v0 (.a .v1 .n1) (.t .v0 .v1 .e)) rfl z0 hm') (AB (AI (by rw [l2];exact fun z0=>am2 (.p .v0 (.a .v1 .n1) (.t .v0 .v1 .e)) rfl z0 hm') AC))
   ·exact AI (by rw [l2,l2];exact fun z0=>am2 (.p .v0 (.a (.a .v1 .n1) .n1) (.t .v0 .v1 .e)) rfl z0 hm') AC
   ·simp only [List.length_set,List.length_append,List.length_singleton];exact fun z0=>am1 (.p (.a .v0 .n1) (.a (.a .v0 .n1) .n1) .e) rfl z0
   ·exact Nat.le_refl _
   ·rw [l2];exact an1 .le .v0 (.a .v0 .n1) .e rfl
   ·rw [l2,l2];exact an1 .le .v0 (.a (.a .v0 .n1) .n1) .e rfl
 ·exact no fun z=>by exact aj1 (.m .n1 .v0 (.l .n1 .v0 .e)) rfl h1 (Int.ofNat_le.mpr z.1)
end
set_option maxHeartbeats 2000000
section
variable {d:Nat} {σ:AD} {Q:AO} {X:Ac} {r S B P epB epP:Nat} {shs:List Sh} {es:List En}
theorem Ls (R:Rk 283 σ r shs es S B P epB epP) (hs:shs.length≤1000) (E:Esok shs es) (hk:∀ s,skip=some s→PyData.strOk s=true) (h0:0 < σ.length)
  (q:∀ kr ks σ',σ <+: σ'→σ'[kr]?=some (.list (ks.map .ref))→Ka σ' ks (AS shs.length es skip)→Q (.ref kr) σ'):callW P13 (d + 2) 41 [.ref r,QB skip] σ Q X:=by
 refine AL (fn:=JE) rfl rfl ?_
 dsimp only [JE]
 wtm_at "mine"
 refine PD (fun i acc σ'=>σ'=σ ++ List.replicate i (.list [])∧acc=(List.range' σ.length i).map .ref) R.sh (by rw [List.length_map];exact an1 .le .v0 (.n 1000000) (.l .v0 (.n 1000) .e) rfl hs) ⟨(List.append_nil σ).symm,rfl⟩ (fun i v acc σ' K hv hI hK=>?_) fun acc σ' hI=>?_
 ·obtain ⟨rfl,rfl⟩:=hI
  refine hK _ _ (AB (AB R.sh)) ⟨?_,?_⟩
  ·rw [List.replicate_succ',List.append_assoc]
  ·rw [List.range'_concat,List.map_append,List.length_append,List.length_replicate,Nat.one_mul];rfl
 obtain ⟨rfl,rfl⟩:=hI
 rw [List.length_map]
 have e0:List.replicate shs.length (O.list [])=(AS shs.length (es.take 0) skip).map JI:=by rw [List.take_zero,LL,List.map_replicate];rfl
 rw [e0]
 wtm_at "mine"
 have el:∀ j,((AS shs.length (es.take j) skip).map JI).length=shs.length:=fun j=>by rw [List.length_map,BC]
 have eL:(σ ++ (AS shs.length (es.take 0) skip).map JI).length=σ.length + shs.length:=by rw [List.length_append,el]
 rw [eL]
 refine Pa (fun j ρ' σ'=>σ'=σ ++ (AS shs.length (es.take j) skip).map JI ++ [.list ((List.range' σ.length shs.length).map .ref)]∧∃ a b,ρ'=[.ref r,QB skip,.ref (σ.length + shs.length),a,b,.undef]) (AB (AB R.pl)) ⟨rfl,_,_,rfl⟩ (fun j p ρ' σ' R' hp hI hR=>?_) fun ρ' σ' hI=>?_
 ·obtain ⟨rfl,a,b,rfl⟩:=hI
  refine AF (List.mem_map_get hp) fun x hx ze1=>?_;subst ze1
  have hm:=List.mem_of_getElem? hx
  have hn:=E.num x hm
  have Rn:Rk 283 (σ ++ (AS shs.length (es.take j) skip).map JI ++ [.list ((List.range' σ.length shs.length).map .ref)]) r shs es S B P epB epP:=R.keeps (At (AH.trans AH))
  refine Vn (v:=QB skip) Qj ?_
  refine RS (E.str x hm) hk ?_
  refine JQ (fun h=>?_) fun h=>?_
  ·wtm_at "mine"
   refine SubK.dict Rn.pl (BN E.nodup hm) ?_
   dsimp only [En.pl]
   refine Aq (v:=.ref (σ.length + x.n)) (L2 (el j)) (Int.natCast_nonneg _) (by rw [Int.toNat_natCast,List.getElem?_map,List.getElem?_range' hn,Nat.one_mul];rfl) ?_
   have eg:(σ ++ (AS shs.length (es.take j) skip).map JI ++ [.list ((List.range' σ.length shs.length).map .ref)])[σ.length + x.n]?=some (.list ((An (es.take j) skip x.n).map Ot.v)):=MI (by rw [List.getElem?_map,Ch hn];rfl)
   refine OM eg ?_
   wtm_at "mine"
   refine SubK.dict Rn.bx (BN E.nodup hm) ?_
   refine HR ?_
   refine CB eg (by exact fun z0=>am2 (.q (.a .v0 .v1) .n0 (.t .n0 .v0 .e)) rfl z0 h0) ?_ ?_
   ·have:(An (es.take j) skip x.n).length≤es.length:=by
     unfold An;rw [List.length_map];exact Nat.le_trans (List.length_filter_le _ _) (by rw [List.length_take];exact Nat.min_le_right _ _)
    rw [List.length_map];exact Nat.lt_of_le_of_lt this (Nat.lt_trans E.len (by decide))
   refine hR _ _ ?_ ⟨?_,_,_,rfl⟩
   ·rw [Lj (by rw [el];exact hn)];exact AB (AB R.pl)
   ·rw [Lj (by rw [el];exact hn),Bh hx,LM h,List.map_set,show JI (An (es.take j) skip x.n ++ [x.ot])=.list ((An (es.take j) skip x.n).map Ot.v ++ [x.ot.v]) by rw [JI,List.map_append];rfl]
  ·exact hR _ _ Rn.pl ⟨by rw [Bh hx,J4 h],_,_,rfl⟩
 ·obtain ⟨rfl,a,b,rfl⟩:=hI
  have e1:es.take (Bj es).length=es:=by rw [Bj,List.length_map,List.take_length]
  refine q (σ.length + shs.length) (List.range' σ.length shs.length) _ ?_ ?_ ?_
  ·rw [List.append_assoc];exact AH
  ·exact L2 (el _)
  ·rw [e1];exact LG BC
end
set_option maxHeartbeats 2000000
section
variable {d:Nat} {σ:AD} {Q:AO} {X:Ac} {r S B P epB epP:Nat} {shs:List Sh} {es:List En}
theorem Mi (R:Rk 283 σ r shs es S B P epB epP) (hx:x.cps.all (· < 128)=true) (hl:x.length≤1000)
  (q:Ay x=true→A9 w→A9 h→x ∉ es.map (·.name)→∀ σ',σ <+: σ'→Q .none σ')
  (q1:¬ (Ay x=true∧A9 w∧A9 h)→∀ σ',σ <+: σ'→X 56 σ')
  (q2:Ay x=true→A9 w→A9 h→x ∈ es.map (·.name)→∀ σ',σ <+: σ'→X 68 σ'):callW P13 (d + 2) 42 [.ref r,.str x,.int w,.int h] σ Q X:=by
 refine AL (fn:=IS) rfl rfl ?_
 dsimp only [IS]
 refine Tt hx hl (fun hg σ₁ p=>?_) fun hg σ₁ p=>?_
 ·have R₁:=R.keeps (At p)
  refine Hx (fun hw=>?_) fun hw=>?_
  ·refine Hx (fun hh=>?_) fun hh=>?_
   ·wtm_at "mine"
    refine CmpK.inD R₁.bx ?_
    rw [Bz,JJ]
    refine Am (fun hm=>?_) fun hm=>?_
    ·exact q2 hg hw hh hm _ p
    ·exact q hg hw hh hm _ p
   ·exact q1 (fun z=>hh z.2.2) _ p
  ·exact q1 (fun z=>hw z.2.1) _ p
 ·exact q1 (fun z=>by rw [z.1] at hg;cases hg) _ p
theorem SA (R:Rk 283 σ r shs es S B P epB epP) (hn:e.name ∉ es.map (·.name)) (hB:B ≠ 0) (hP:P ≠ 0) (hz:es.length < 63) (hBP:B ≠ P) (q:∀ ep1 ep2,Q .none (stood σ B P ep1 ep2 (es ++ [e]))):callW P13 (d + 1) 43 [.ref r,e.box,e.pl] σ Q X:=by
 refine AL (fn:=IT) rfl rfl ?_
 dsimp only [IT]
 wtm_at "mine"
 refine SetK.dict R.bx hB (by rw [Bz,List.length_map];exact Nat.lt_trans hz (by decide)) fun ep1=>?_
 have eb:=L0 (f:=En.box) hn
 have ep:=L0 (f:=En.pl) hn
 unfold Bz
 rw [eb]
 have R₁:RackAt 283 (σ.set B (.dict ep1 ((es ++ [e]).map fun e=>(e.name,e.box)))) r S B P:=by
  refine AF R.at_.ex fun m h1 h2=>?_
  exact ⟨m,AI (fun z=>by rw [← z,R.bx] at h1;cases h1) h1,AI (fun z=>by rw [← z,R.bx] at h2;cases h2) h2⟩
 wtm_at "mine"
 refine SetK.dict (AI hBP R.pl) hP (by rw [Bj,List.length_map];exact Nat.lt_trans hz (by decide)) fun ep2=>?_
 unfold Bj
 rw [ep]
 exact q ep1 ep2
theorem I6 (R:Rk 283 σ r shs es S B P epB epP) (q:x ∈ es.map (·.name)→Q .none σ) (q':x ∉ es.map (·.name)→X 92 σ):callW P13 (d + 1) 46 [.ref r,.str x] σ Q X:=by
 refine AL (fn:=Hy) rfl rfl ?_
 dsimp only [Hy]
 wtm_at "mine"
 refine CmpK.ninD R.bx ?_
 rw [Bz,JJ]
 refine FO (fun hm=>?_) fun hm=>?_
 ·exact q' hm
 ·exact q hm
theorem H4 (R:Rk 283 σ r shs es S B P epB epP) (hn:(es.map (·.name)).Nodup) (hm:e ∈ es) (q:Q e.pl σ):callW P13 (d + 2) 48 [.ref r,.str e.name] σ Q X:=by
 refine AL (fn:=JH) rfl rfl ?_
 dsimp only [JH]
 wtm_at "mine"
 refine I6 R (fun _=>?_) fun z=>absurd (List.mem_map.mpr ⟨e,hm,rfl⟩) z
 wtm_at "mine"
 refine SubK.dict R.pl (BN hn hm) ?_
 exact q
theorem Sm (R:Rk 283 σ r shs es S B P epB epP) (hn:(es.map (·.name)).Nodup) (hm:e ∈ es) (q:Q e.box σ):callW P13 (d + 2) 49 [.ref r,.str e.name] σ Q X:=by
 refine AL (fn:=Ix) rfl rfl ?_
 dsimp only [Ix]
 wtm_at "mine"
 refine I6 R (fun _=>?_) fun z=>absurd (List.mem_map.mpr ⟨e,hm,rfl⟩) z
 wtm_at "mine"
 refine SubK.dict R.bx (BN hn hm) ?_
 exact q
theorem NV (R:Rk 283 σ r shs es S B P epB epP) (hn:(es.map (·.name)).Nodup) (hm:e ∈ es) (q:Q e.ot.v σ):callW P13 (d + 2) 50 [.ref r,.str e.name] σ Q X:=by
 refine AL (fn:=IJ) rfl rfl ?_
 dsimp only [IJ]
 wtm_at "mine"
 refine I6 R (fun _=>?_) fun z=>absurd (List.mem_map.mpr ⟨e,hm,rfl⟩) z
 wtm_at "mine"
 refine SubK.dict R.bx (BN hn hm) ?_
 wtm_at "mine"
 refine SubK.dict R.pl (BN hn hm) ?_
 refine HR ?_
 exact q
end
set_option maxHeartbeats 2000000
section
variable {d:Nat} {σ:AD} {Q:AO} {X:Ac} {r S B P epB epP:Nat} {shs:List Sh} {es:List En}
theorem VA (R:Rk 283 σ r shs es S B P epB epP) (hx:x.cps.all (· < 128)=true) (hl:x.length≤1000) (hs:shs.length≤1000) (E:Esok shs es) (hB:B ≠ 0) (hP:P ≠ 0) (hBP:B ≠ P)
  (q:Ay x=true→A9 w→A9 h→x ∉ es.map (·.name)→∀ (e:En) σ' ep1 ep2,e.name=x→e.w=w→e.h=h→e.t=t→e.n < shs.length→σ <+: σ'→FP (OnP w h t) 0 (shs.zip (AS shs.length es none)) (some (e.n,e.u,e.l,e.r))→Q e.pl (stood σ' B P ep1 ep2 (es ++ [e])))
  (q1:¬ (Ay x=true∧A9 w∧A9 h)→∀ σ',σ <+: σ'→X 56 σ')
  (q2:Ay x=true→A9 w→A9 h→x ∈ es.map (·.name)→∀ σ',σ <+: σ'→X 68 σ')
  (q3:Ay x=true→A9 w→A9 h→x ∉ es.map (·.name)→FP (OnP w h t) 0 (shs.zip (AS shs.length es none)) none→∀ σ',σ <+: σ'→X 80 σ'):callW P13 (d + 6) 44 [.ref r,.str x,.int w,.int h,.bool t] σ Q X:=by
 refine AL (fn:=I5) rfl rfl ?_
 dsimp only [I5]
 wtm_at "mine"
 refine Mi R hx hl (fun g1 g2 g3 g4 σ₁ p₁=>?_) q1 q2
 have R₁:=R.keeps (At p₁)
 have h0:0 < σ₁.length:=by have:=(List.getElem?_eq_some_iff.mp R₁.sh).1;exact an2 .lt .n0 .v0 (.t .v1 .v0 .e) rfl this
 wtm_at "mine"
 refine Ls (skip:=none) R₁ hs E nofun h0 fun kr ks σ₂ p₂ ek A=>?_
 have R₂:=R₁.keeps (At p₂)
 refine E6 R₂.sh ek A BC.symm hs (fun os ho=>?_) fun rr σ₃ p₃ F=>?_
 ·refine AF (List.mem_map.mp ho) fun i hi ze1=>?_;subst ze1
  unfold An
  rw [List.length_map]
  exact Nat.lt_of_le_of_lt (List.length_filter_le _ _) E.len
 have R₃:=R₂.keeps (At p₃)
 have pa:=(p₁.trans p₂).trans p₃
 cases rr with
 | none=>
  dsimp only [Fb]
  exact q3 g1 g2 g3 g4 F _ pa
 | some p=>
  obtain ⟨n,u,l,tr⟩:=p
  refine AZ (Hu F) fun k ek' hk0 hk=>?_
  dsimp only at ek'
  subst ek'
  dsimp only [Fb]
  wtm_at "mine"
  have hkl:k < shs.length:=by rw [List.length_zip,BC,Nat.min_self] at hk;exact an2 .lt .v0 .v1 (.t .v0 (.a .n0 .v1) .e) rfl hk
  refine SA (e:=⟨x,w,h,t,k,u,l,tr⟩) R₃ g4 hB hP E.len hBP fun ep1 ep2=>?_
  exact q g1 g2 g3 g4 ⟨x,w,h,t,k,u,l,tr⟩ _ ep1 ep2 rfl rfl rfl rfl hkl pa F
end
set_option maxHeartbeats 2000000
section
variable {d:Nat} {σ:AD} {Q:AO} {X:Ac} {r S B P epB epP:Nat} {shs:List Sh} {es:List En}
theorem TB (R:Rk 283 σ r shs es S B P epB epP) (E:Esok shs es) (hk:shs[k]?=some sh) (hw:A9 sh.W) (he:∀ e ∈ es,A9 e.w) (q:Q (.int (B4 (sh.W * sh.H) k es)) σ):callW P13 (d + 1) 52 [.ref r,.int k] σ Q X:=by
 refine AL (fn:=IZ) rfl rfl ?_
 dsimp only [IZ]
 have hl:=(List.getElem?_eq_some_iff.mp hk).1
 have hv:(shs.map Sh.v)[(k:Int).toNat]?=some sh.v:=by rw [Int.toNat_natCast,List.getElem?_map,hk];rfl
 wtm_at "mine"
 refine PrimK.lenL R.sh ?_
 rw [List.length_map]
 refine FO (fun h=>absurd (show (k:Int) < shs.length by exact ai2 .lt .v0 .v1 (.t .v0 .v1 .e) rfl (Int.ofNat_lt.mpr hl)) h) fun _=>?_
 wtm_at "mine"
 refine Aq R.sh (Int.natCast_nonneg k) hv ?_
 dsimp only [Sh.v]
 wtm_at "mine"
 refine Aq R.sh (Int.natCast_nonneg k) hv ?_
 dsimp only [Sh.v]
 wtm_at "mine"
 refine Pa (fun j ρ' σ'=>σ'=σ∧∃ a,ρ'=[.ref r,.int k,.int (B4 (sh.W * sh.H) k (es.take j)),a,.undef]) R.pl ⟨rfl,_,rfl⟩ (fun j p ρ' σ' R' hp hI hR=>?_) fun ρ' σ' hI=>?_
 ·obtain ⟨rfl,a,rfl⟩:=hI
  refine AF (List.mem_map_get hp) fun x hx ze1=>?_;subst ze1
  have hm:=List.mem_of_getElem? hx
  have hsz:=he x hm
  wtm_at "mine"
  refine SubK.dict R.pl (BN E.nodup hm) ?_
  dsimp only [En.pl]
  refine Am (fun h=>?_) fun h=>?_
  ·wtm_at "mine"
   refine SubK.dict R.bx (BN E.nodup hm) ?_
   dsimp only [En.box]
   wtm_at "mine"
   refine SubK.dict R.bx (BN E.nodup hm) ?_
   dsimp only [En.box]
   wtm_at "mine"
   exact hR _ _ R.pl ⟨rfl,_,by rw [Bh hx,El,if_pos (Int.ofNat.inj h)];rfl⟩
  ·exact hR _ _ R.pl ⟨rfl,_,by rw [Bh hx,El,if_neg fun z=>h (congrArg Int.ofNat z)];rfl⟩
 ·obtain ⟨rfl,a,rfl⟩:=hI
  rw [show es.take (Bj es).length=es by rw [Bj,List.length_map,List.take_length]]
  exact q
theorem JO (R:Rk 283 σ r shs es S B P epB epP) (E:Esok shs es) (t:TabAt 254 σ 154 39 Ee)
  (q:∀ (p:List Nat) m σ',KpB 1 σ σ'→TabAt 254 σ' 154 39 Ee→p.Perm (List.range es.length)→p.Pairwise (BJ (es.map (En.key shs)))→σ'[m]?=some (.list (p.map fun i=>.str ((es.map (·.name)).getD i "")))→σ.length≤m→Q (.ref m) σ'):callW P13 (d + 2) 51 [.ref r] σ Q X:=by
 refine AL (fn:=H7) rfl rfl ?_
 dsimp only [H7]
 wtm_at "mine"
 have ei:(Bj es).map (fun p=>V.str p.1)=es.map fun e=>V.str e.name:=by rw [Bj,List.map_map];rfl
 refine ⟨_,.dict R.pl,by rw [List.length_map,Bj,List.length_map];exact Nat.lt_succ_of_lt E.len,t.w fun m σ' kp em e1=>?_⟩
 have R':=R.keepsB t kp
 rw [ei]
 refine FW (g:=fun e:En=>V.str e.name) (fun e=>.tup ((e.key shs).map .int)) es [] (fun e hm K hK=>⟨em,?_⟩) ?_
 ·wtm_at "mine"
  refine SubK.dict R'.pl (BN E.nodup hm) ?_
  have hn:=E.num e hm
  refine Hw (x:=(e.u,e.l)) (sh:=shs[e.n]) R'.sh (List.getElem?_eq_getElem hn) ?_
  unfold En.key at hK
  rw [List.getD_eq_getElem?_getD,List.getElem?_eq_getElem hn] at hK
  exact hK
 ·refine ⟨es.map (En.key shs),by rw [List.map_map];rfl,fun r hr=>by refine AF (List.mem_map.mp hr) fun e _ ze1=>?_;subst ze1;exact Ts,fun p hp ho=>?_⟩
  rw [List.length_map] at hp
  have hlen:σ.length≤σ'.length:=Nat.le_of_not_lt fun z=>by
   have h1:=(List.getElem?_eq_some_iff.mp e1).1
   have hx:=List.getElem?_eq_getElem (l:=σ) (i:=σ'.length) z
   have:=(List.getElem?_eq_some_iff.mp (kp _ _ (by exact fun z0=>am1 (.q .v0 .n1 (.t .n1 .v0 .e)) rfl z0 h1) hx)).1
   exact Nat.lt_irrefl _ this
  refine q p _ _ (fun x o hx h=>AB (kp x o hx h)) (.row m (AB e1) (AB em)) hp ho ?_ hlen
  rw [AC]
  refine congrArg (fun l=>some (O.list l)) (List.map_congr_left fun i hi=>?_)
  have hi':i < es.length:=List.mem_range.mp (hp.mem_iff.mp hi)
  rw [List.getD_eq_getElem?_getD,List.getD_eq_getElem?_getD,List.getElem?_map,List.getElem?_map,List.getElem?_eq_getElem hi'];rfl
theorem RX (R:Rk 283 σ r shs es S B P epB epP) (E:Esok shs es) (t:TabAt 254 σ 154 39 Ee)
  (q:∀ (p:List Nat) m σ',KpB 1 σ σ'→TabAt 254 σ' 154 39 Ee→p.Perm (List.range es.length)→p.Pairwise (BJ (es.map (En.key shs)))→σ'[m]?=some (.list (p.map fun i=>.str ((es.map (·.name)).getD i "")))→Q (.ref m) σ'):callW P13 (d + 2) 51 [.ref r] σ Q X:=
 JO R E t fun p m σ' h1 h2 h3 h4 h5 _=>q p m σ' h1 h2 h3 h4 h5
end
set_option maxHeartbeats 2000000
section
variable {d:Nat} {σ:AD} {Q:AO} {X:Ac} {r S B P epB epP:Nat} {shs ss:List Sh} {es hs:List En} {m:Int}
theorem N5 {n:Nat} {a b:En} (e:σ[n]?=some (.list (shs.map Sh.v))) (ha:a.n < shs.length) (hb:b.n < shs.length) (q:Q (.bool (Ab (a.key shs) (b.key shs))) σ):callW P13 (d + 2) 2 [.ref n,a.pl,b.pl] σ Q X:=by
 have key:∀ x:En,x.n < shs.length→∀ {Q:AO},Q (.tup ((x.key shs).map .int)) σ→callW P13 (d + 1) 1 [.ref n,x.pl] σ Q X:=fun x hx {Q} q=>by
  refine Hw (x:=(x.u,x.l)) (sh:=shs[x.n]) e (List.getElem?_eq_getElem hx) ?_
  unfold En.key at q
  rw [List.getD_eq_getElem?_getD,List.getElem?_eq_getElem hx] at q
  exact q
 refine AL (fn:=Ho) rfl rfl ?_
 dsimp only [Ho]
 refine key a ha ?_
 refine key b hb ?_
 refine CmpK.ltT ?_
 exact q
theorem Nn (R:Rk 283 σ r shs es S B P epB epP) (hn:(es.map (·.name)).Nodup) (hm:e ∈ es) (hB:B ≠ 0) (hP:P ≠ 0) (hBP:B ≠ P) (q:∀ ep1 ep2,Q e.pl (stood σ B P ep1 ep2 (es.filter fun x=>decide (x.name ≠ e.name)))):callW P13 (d + 2) 47 [.ref r,.str e.name] σ Q X:=by
 refine AL (fn:=JF) rfl rfl ?_
 dsimp only [JF]
 wtm_at "mine"
 refine I6 R (fun _=>?_) fun z=>absurd (List.mem_map.mpr ⟨e,hm,rfl⟩) z
 wtm_at "mine"
 refine PZ R.bx ?_
 refine PopK.mk R.bx hB (BN hn hm) fun ep1=>?_
 have R₁:RackAt 283 (σ.set B (.dict ep1 (del e.name (Bz es)))) r S B P:=by
  refine AF R.at_.ex fun m h1 h2=>?_
  exact ⟨m,AI (fun z=>by rw [← z,R.bx] at h1;cases h1) h1,AI (fun z=>by rw [← z,R.bx] at h2;cases h2) h2⟩
 have pl₁:(σ.set B (.dict ep1 (del e.name (Bz es))))[P]?=some (.dict epP (Bj es)):=AI hBP R.pl
 wtm_at "mine"
 refine PZ pl₁ ?_
 refine PopK.mk pl₁ hP (BN hn hm) fun ep2=>?_
 have:=q ep1 ep2
 unfold stood at this
 unfold Bz Bj at this ⊢
 rw [Ly,Ly]
 exact this
inductive GR13 (σ:AD) (r:Nat) (ss:List Sh) (m:Int) (hs:List En) (S B P epB:Nat) (p:List Nat) (mN j:Nat):List V→AD→Prop
 | mk (mv:List (En × En)) (hs':List En) (epP':Nat) (a b c e:V) (σ':AD):Rnd ss (p.take j) hs mv hs'→KpR B P σ σ'→TabAt 254 σ' 154 39 Ee→Rk 283 σ' r (ss.map (Sh.by m)) (hs'.map (En.by m)) S B P epB epP'→σ'[σ.length]?=some (.list (mv.map (mvV m)))→σ'[mN]?=some (.list (p.map fun i=>V.str (((hs.map (En.by m)).map (·.name)).getD i "")))→0 < σ'.length →
  GR13 σ r ss m hs S B P epB p mN j [.ref r,.ref σ.length,a,b,c,e,.undef] σ'
inductive SR13 (σ:AD) (r:Nat) (ss:List Sh) (m:Int) (hs:List En) (S B P epB j:Nat):List V→AD→Prop
 | mk (mv0:List (En × En)) (hs1:List En) (p:List Nat) (mv':List (En × En)) (hs2:List En) (epP' a:Nat) (σ':AD):Rnds ss hs j mv0 hs1→p.Perm (List.range hs1.length)→p.Pairwise (BJ (hs1.map (En.key ss)))→Rnd ss p hs1 mv' hs2→KpR B P σ σ'→TabAt 254 σ' 154 39 Ee→Rk 283 σ' r (ss.map (Sh.by m)) (hs2.map (En.by m)) S B P epB epP' →
  σ'[σ.length]?=some (.list (mv0.map (mvV m)))→σ'[a]?=some (.list (mv'.map (mvV m)))→a ≠ σ.length→SR13 σ r ss m hs S B P epB j [.ref r,.ref σ.length,.ref a,.undef] σ'
theorem Fo (R:Rk 283 σ r (ss.map (Sh.by m)) (hs.map (En.by m)) S B P epB epP) (hm:0 < m) (hP:P ≠ 0) (hBP:B ≠ P) (hsl:ss.length≤1000) (E:Esok ss hs) (s:Snd ss hs) (t:TabAt 254 σ 154 39 Ee)
  (q:∀ p mv hs' k σ' epP',p.Perm (List.range hs.length)→p.Pairwise (BJ (hs.map (En.key ss)))→Rnd ss p hs mv hs'→KpR B P σ σ'→TabAt 254 σ' 154 39 Ee→Rk 283 σ' r (ss.map (Sh.by m)) (hs'.map (En.by m)) S B P epB epP'→σ'[k]?=some (.list (mv.map (mvV m)))→σ.length≤k→k ≠ S→Q (.ref k) σ') :
  callW P13 (d + 6) 53 [.ref r] σ Q X:=by
 refine AL (fn:=Iq) rfl rfl ?_
 dsimp only [Iq]
 have hS:S < σ.length:=(List.getElem?_eq_some_iff.mp R.sh).1
 have hr1:1 < σ.length:=by
  cases t with
  | tab e=>exact (List.getElem?_eq_some_iff.mp e).1
  | row m e _=>exact (List.getElem?_eq_some_iff.mp e).1
 have R₀:=R.keeps (At (AH (τ:=[O.list []])))
 wtm_at "mine"
 refine JO R₀ E.by (t.pre AH) fun p mN σ₁ kp₁ t₁ hp ho eN hmN=>?_
 have R₁:=R₀.keepsB (t.pre AH) kp₁
 rw [List.length_map] at hp
 have hpl:∀ i ∈ p,i < hs.length:=fun i hi=>List.mem_range.mp (hp.mem_iff.mp hi)
 have ho':=Pb hm hpl ho
 have ek:σ₁[σ.length]?=some (.list []):=kp₁ _ _ (by exact fun z0=>am1 (.q .v0 .n1 (.t .n1 .v0 .e)) rfl z0 hr1) AC
 refine BW (GR13 σ r ss m hs S B P epB p mN) eN (.mk [] hs epP _ _ _ _ _ .nil ((KpR.pre AH).trans (.kpB kp₁)) t₁ R₁ ek eN (Nat.zero_lt_of_lt (List.getElem?_eq_some_iff.mp eN).1)) (fun j v ρ' σ' R' hv hI hR=>?_) fun ρ' σ' hI=>?_
 ·cases hI with | mk mv hs' epP' a b c x σ' rn kp tt Rr em en h0=>
  refine AF (List.mem_map_get hv) fun i hi ze1=>?_;subst ze1
  have hil:=hpl i (List.mem_of_getElem? hi)
  have same:=rn.same
  have hl':=Dl same.1
  have hn':(hs'.map (·.name)).Nodup:=same.2.1▸E.nodup
  refine Bm (rn.steps s E.nodup) fun _ s' _=>?_
  have hi':i < hs'.length:=hl'.symm▸hil
  have ei:hs'[i]?=some hs'[i]:=List.getElem?_eq_getElem hi'
  generalize hs'[i]=e at ei
  have enm:((hs.map (En.by m)).map (·.name)).getD i ("":Str)=(e.by m).name:=by
   rw [BU,← same.2.1,List.getD_eq_getElem?_getD,List.getElem?_map,ei];rfl
  rw [enm]
  have hmem:e.by m ∈ hs'.map (En.by m):=List.mem_map.mpr ⟨e,List.mem_of_getElem? ei,rfl⟩
  have hnb:((hs'.map (En.by m)).map (·.name)).Nodup:=by rw [BU];exact hn'
  have E':Esok ss hs':=⟨hn',fun x hx=>by refine AU (s'.ins x hx) fun sh h=>?_;exact (List.getElem?_eq_some_iff.mp h.at_).1,fun x hx=>by
    have:x.name ∈ hs.map (·.name):=same.2.1▸List.mem_map.mpr ⟨x,hx,rfl⟩
    refine AF (List.mem_map.mp this) fun y hy e1=>?_
    exact e1▸E.str y hy,hl'.symm▸E.len⟩
  have hstr:=E'.str e (List.mem_of_getElem? ei)
  wtm_at "mine"
  refine SubK.dict Rr.pl (BN hnb hmem) ?_
  wtm_at "mine"
  refine SubK.dict Rr.bx (BN hnb hmem) ?_
  wtm_at "mine"
  refine Ls (skip:=some e.name) Rr (by rw [List.length_map];exact hsl) E'.by (fun z hz=>by cases hz;exact hstr) h0 fun kr ks σ₂ p₂ ek₂ A₂=>?_
  have R₂:=Rr.keeps (At p₂)
  dsimp only [En.box]
  refine E6 R₂.sh ek₂ A₂ (by rw [BC]) (by rw [List.length_map];exact hsl) (fun os ho=>?_) fun rr σ₃ p₃ F=>?_
  ·unfold AS at ho
   refine AF (List.mem_map.mp ho) fun z _ ze1=>?_;subst ze1
   unfold An
   rw [List.length_map]
   refine Nat.lt_of_le_of_lt (List.length_filter_le ..) ?_
   rw [List.length_map,hl'];exact E.len
  have R₃:=R₂.keeps (At p₃)
  have hz:=s'.sz e (List.mem_of_getElem? ei)
  refine AU (Lu (t:=e.t) hz.1 hz.2 (ss.zip (AS ss.length hs' (some e.name))) 0) fun dd hdd=>?_
  have hr:=FB hm F hdd
  refine AZ (HV s' hn' ei hdd) fun e' hd fo st=>?_
  subst hd
  subst hr
  have hlt':e'.n < (ss.map (Sh.by m)).length:=by
   refine AZ (Hu hdd) fun k h1 _ h3=>?_
   have h1:(e'.n:Int)=k:=h1
   rw [List.length_map]
   exact Int.ofNat.inj h1▸Nat.lt_of_lt_of_le h3 (by rw [Nat.zero_add,List.length_zip];exact Nat.min_le_left ..)
  have hlt:e.n < (ss.map (Sh.by m)).length:=by rw [List.length_map];exact E'.num e (List.mem_of_getElem? ei)
  have kp₃:KpR B P σ' σ₃:=.pre (p₂.trans p₃)
  have em₃:=AN (p₂.trans p₃) em
  have en₃:=AN (p₂.trans p₃) en
  have t₃:=tt.pre (p₂.trans p₃)
  have h0₃:0 < σ₃.length:=Nat.zero_lt_of_lt (List.getElem?_eq_some_iff.mp em₃).1
  have pt:p.take (j + 1)=p.take j ++ [i]:=Bh hi
  have epl:Fb (by4 m (some ((e'.n:Int),e'.u,e'.l,e'.r)))=(e'.by m).pl:=rfl
  rw [epl]
  wtm_at "mine"
  refine N5 (a:=e'.by m) (b:=e.by m) R₃.sh hlt' hlt ?_
  rw [OF hm,Iv,Iv]
  have hle:(e'.qp ss).le (e.qp ss):=by
   have:=st.le s'.sound i
   rw [BO (FR ei),BO ei] at this;exact this
  refine JQ (fun h=>?_) fun h=>?_
  ·have hne:=(Lh.mp h).2
   wtm_at "mine"
   refine SetK.dict R₃.pl hP (by rw [Bj,List.length_map,List.length_map,hl'];exact Nat.lt_trans E.len (by decide)) fun ep=>?_
   have ekv:put (e.by m).name (e'.by m).pl (Bj (hs'.map (En.by m)))=Bj ((hs'.set i e').map (En.by m)):=by
    unfold Bj
    have:=RO (f:=En.pl) (es:=hs'.map (En.by m)) (i:=i) (e:=e.by m) (e':=e'.by m) hnb (by rw [List.getElem?_map,ei];rfl) (show (e'.by m).name=(e.by m).name from fo.dm.2)
    refine this.trans (congrArg (List.map fun e:En=>(e.name,e.pl)) ?_)
    rw [List.map_set]
   rw [ekv]
   have R₄:=R₃.setP (ep:=ep) hBP (Og (m:=m) ei fo.dm.1 fo.dm.2)
   have em₄:(σ₃.set P (.dict ep (Bj ((hs'.set i e').map (En.by m)))))[σ.length]?=some (.list (mv.map (mvV m))):=AI (fun z=>by have:=R₃.pl;rw [z,em₃] at this;cases this) em₃
   have en₄:(σ₃.set P (.dict ep (Bj ((hs'.set i e').map (En.by m)))))[mN]?=some (.list (p.map fun i=>V.str (((hs.map (En.by m)).map (·.name)).getD i ""))):=AI (fun z=>by have:=R₃.pl;rw [z,en₃] at this;cases this) en₃
   have t₄:TabAt 254 (σ₃.set P (.dict ep (Bj ((hs'.set i e').map (En.by m))))) 154 39 Ee:=t₃.set R₃.pl (fun _ _ _ _=>⟨nofun,nofun⟩) nofun
   have hmvl:mv.length≤j:=Nat.le_trans same.2.2.1 (by rw [List.length_take];exact Nat.min_le_left ..)
   have hjl:j < 63:=by
    have:=(List.getElem?_eq_some_iff.mp hi).1
    rw [hp.length_eq,List.length_range] at this
    exact Nat.lt_trans this E.len
   have hNm:mN ≠ σ.length:=by rw [List.length_append] at hmN;exact Nat.ne_of_gt hmN
   wtm_at "mine"
   refine CB em₄ (by exact fun z0=>am1 (.q .v0 .n0 (.t .n1 .v0 .e)) rfl z0 hr1) (by rw [List.length_map];exact Nat.lt_trans (Nat.lt_of_le_of_lt hmvl hjl) (by decide)) ?_
   refine hR _ _ (AI hNm.symm en₄) (.mk (mv ++ [(e,e')]) (hs'.set i e') ep _ _ _ _ _ (pt▸rn.append (.move ei fo hne .nil)) ?_ ?_ (R₄.setO em₄ (Nat.ne_of_gt hS)) ?_ (AI hNm.symm en₄) (by rw [List.length_set,List.length_set];exact h0₃))
   ·exact fun x o h1 h2 h3 hx=>AI (fun z=>by have:=(List.getElem?_eq_some_iff.mp hx).1;exact am2 (.t .v0 .v1 (.q .v1 .v0 .e)) rfl this z) (KpR.setP (B:=B) x o h1 h2 h3 ((kp.trans kp₃) x o h1 h2 h3 hx))
   ·exact t₄.set em₄ (fun _ _ _ _=>⟨nofun,nofun⟩) nofun
   ·rw [Ai em₄,List.map_append];rfl
  ·have heq:e'.qp ss=e.qp ss:=by
    refine Classical.byContradiction fun hne=>?_
    rw [Lh.mpr ⟨hle,hne⟩] at h;cases h
   have hee:e'=e:=by
    have h1:=DD (ss:=ss) (e:=e')
    have h3:A4 ss e' (e.qp ss)=A4 ss e (e.qp ss):=(congrArg (fun x=>A4 ss x (e.qp ss)) fo.to).trans rfl
    rw [heq,h3,DD] at h1
    exact h1.symm
   subst hee
   exact hR _ _ en₃ (.mk mv hs' epP' _ _ _ _ _ (pt▸(by have:=rn.append (.stay ei fo .nil);rw [List.append_nil] at this;exact this)) (kp.trans kp₃) t₃ R₃ em₃ en₃ h0₃)
 ·cases hI with | mk mv hs' epP' a b c x σ' rn kp tt Rr em en h0=>
  rw [List.length_map,List.take_length] at rn
  exact q p mv hs' _ _ epP' hp ho' rn kp tt Rr em (Nat.le_refl _) (by exact fun z0=>am2 (.q .v0 .v1 (.t .v1 .v0 .e)) rfl z0 hS)
theorem Qx {K:Nat} (R:Rk 283 σ r (ss.map (Sh.by m)) (hs.map (En.by m)) S B P epB epP) (hm:0 < m) (hP:P ≠ 0) (hBP:B ≠ P) (hsl:ss.length≤1000) (E:Esok ss hs) (s:Snd ss hs) (t:TabAt 254 σ 154 39 Ee) (hK:∀ sh ∈ ss,shP sh≤K) (hbig:EK hs.length ss.length K * hs.length≤16000000)
  (q:∀ k mv hs' a σ' epP',Rnds ss hs k mv hs'→Snd ss hs'→(∀ e ∈ hs',FirstOf ss hs' e e)→KpR B P σ σ'→TabAt 254 σ' 154 39 Ee→Rk 283 σ' r (ss.map (Sh.by m)) (hs'.map (En.by m)) S B P epB epP'→σ'[a]?=some (.list (mv.map (mvV m)))→σ.length≤a→Q (.ref a) σ') :
  callW P13 (d + 7) 54 [.ref r] σ Q X:=by
 refine AL (fn:=IW) rfl rfl ?_
 dsimp only [IW]
 have hr1:1 < σ.length:=by
  cases t with
  | tab e=>exact (List.getElem?_eq_some_iff.mp e).1
  | row m e _=>exact (List.getElem?_eq_some_iff.mp e).1
 have hS:S < σ.length:=(List.getElem?_eq_some_iff.mp R.sh).1
 have R₀:=R.keeps (At (AH (τ:=[O.list []])))
 wtm_at "mine"
 refine Fo R₀ hm hP hBP hsl E s (t.pre AH) fun p mv hs₁ k σ₁ epP₁ hp ho rn kp t₁ R₁ ek hk hkS=>?_
 refine R1 (EK hs.length ss.length K + 1) ?_
 refine ER (M:=EK hs.length ss.length K) (SR13 σ r ss m hs S B P epB) (fun j ρ' σ' h=>?_) (fun j ρ' σ' R' hI hR=>?_) (EK hs.length ss.length K + 1) 0 _ _ (Nat.zero_add _) (.mk [] hs p mv hs₁ epP₁ k _ .nil hp ho rn ((KpR.pre AH).trans kp) t₁ R₁ (kp _ _ (Nat.ne_of_gt hr1) (Nat.ne_of_gt (List.getElem?_eq_some_iff.mp R.bx).1) (Nat.ne_of_gt (List.getElem?_eq_some_iff.mp R.pl).1) AC) ek (by rw [List.length_append] at hk;exact Nat.ne_of_gt hk))
 ·cases h with | mk mv0 hs1 p mv' hs2 epP' a σ' h=>
  exact h.bound s E.nodup hK
 ·cases hI with | mk mv0 hs1 p mv' hs2 epP' a σ' h hp ho rn kp tt Rr ef em ha=>
  have same:=h.same
  have same2:=rn.same
  obtain ⟨s1,_⟩:=h.seq s E.nodup
  have hn1:(hs1.map (·.name)).Nodup:=same.2.1▸E.nodup
  obtain ⟨_,s2,_⟩:=rn.steps s1 hn1
  wtm_at "mine"
  rw [List.length_map]
  refine Am (fun hpos=>?_) fun hpos=>?_
  ·have hne:mv' ≠ []:=fun z=>by subst z;exact absurd hpos (by decide)
   have h':=Rnds.next h hp ho rn hne
   have hb:=h'.bound s E.nodup hK
   have hlen:=h'.same.2.2
   have hmul:=Nat.mul_le_mul_right hs.length hb
   have hn2:(hs2.map (·.name)).Nodup:=h'.same.2.1▸E.nodup
   have hl2:=Dl h'.same.1
   have E2:Esok ss hs2:=⟨hn2,fun x hx=>by obtain ⟨sh,h⟩:=s2.ins x hx;exact (List.getElem?_eq_some_iff.mp h.at_).1,fun x hx=>by
    have:x.name ∈ hs.map (·.name):=h'.same.2.1▸List.mem_map.mpr ⟨x,hx,rfl⟩
    obtain ⟨y,hy,e1⟩:=List.mem_map.mp this
    exact e1▸E.str y hy,hl2.symm▸E.len⟩
   wtm_at "mine"
   refine ExtK.mk ef em (by rw [List.length_map,List.length_map,← List.length_append];exact Nat.le_trans hlen (Nat.le_trans hmul hbig)) (by exact fun z0=>am2 (.q .v0 .n0 (.t .v1 .v0 .e)) rfl z0 hS) ?_
   have hSf:σ.length ≠ S:=by exact fun z0=>am2 (.q .v0 .v1 (.t .v1 .v0 .e)) rfl z0 hS
   have R₃:=Rr.setO (o:=.list (mv0.map (mvV m) ++ mv'.map (mvV m))) ef hSf
   have t₃:TabAt 254 (σ'.set σ.length (.list (mv0.map (mvV m) ++ mv'.map (mvV m)))) 154 39 Ee:=tt.set ef (fun _ _ _ _=>⟨nofun,nofun⟩) nofun
   wtm_at "mine"
   refine Fo R₃ hm hP hBP hsl E2 s2 t₃ fun p3 mv3 hs3 k3 σ3 epP3 hp3 ho3 rn3 kp3 tt3 Rr3 ek3 hk3 hkS3=>?_
   have hlt:σ.length < (σ'.set σ.length (.list (mv0.map (mvV m) ++ mv'.map (mvV m)))).length:=by rw [List.length_set];exact (List.getElem?_eq_some_iff.mp ef).1
   have hBl:B ≠ σ.length:=fun z=>by have:=Rr.bx;rw [z,ef] at this;cases this
   have hPl:P ≠ σ.length:=fun z=>by have:=Rr.pl;rw [z,ef] at this;cases this
   refine hR _ _ (.mk (mv0 ++ mv') hs2 p3 mv3 hs3 epP3 k3 _ h' hp3 ho3 rn3 (fun x o h1 h2 h3 hx=>kp3 x o h1 h2 h3 (AI (Nat.ne_of_gt (List.getElem?_eq_some_iff.mp hx).1) (kp x o h1 h2 h3 hx))) tt3 Rr3 (kp3 _ _ (Nat.ne_of_gt hr1) hBl.symm hPl.symm ?_) ek3 (Nat.ne_of_gt (Nat.lt_of_lt_of_le hlt hk3)))
   rw [Ai ef,List.map_append]
  ·have hne:mv'=[]:=by
    cases mv' with
    | nil=>rfl
    | cons x l=>exact absurd (by rw [List.length_cons];exact ai2 .lt .n0 .v0 (.p .v0 (.a .v1 .n1) (.l .n0 .v1 .e)) rfl (Int.natCast_add _ _) (Int.natCast_nonneg _)) hpos
   obtain ⟨e1,fo⟩:=same2.2.2.2 hne
   subst e1
   refine q j mv0 hs2 _ _ epP' h s2 (fun e he=>?_) kp tt Rr ef (Nat.le_refl _)
   obtain ⟨i,hi⟩:=List.mem_iff_getElem?.mp he
   obtain ⟨e2,h2,h3⟩:=fo i (hp.mem_iff.mpr (List.mem_range.mpr (List.getElem?_eq_some_iff.mp hi).1))
   rw [hi] at h2
   cases h2;exact h3
end
set_option maxHeartbeats 2000000
section
variable {d:Nat} {σ:AD} {Q:AO} {X:Ac}
theorem Cg (h:σ[0]?=some (.list (xs.map .int))) (hk:0≤k) (q:Q (.int (Ef xs k)) σ):callW P13 (d + 1) 16 [.ref 0,.int k] σ Q X:=by
 refine AL (fn:=IC) rfl rfl ?_
 dsimp only [IC]
 unfold Ef at q
 wtm_at "mine"
 rw [List.length_map]
 refine Am (fun hl=>?_) fun hl=>?_
 ·have h9:=(Int.toNat_lt hk).mpr hl
  rw [List.getD_eq_getElem?_getD,List.getElem?_eq_getElem h9] at q
  refine Aq h hk (v:=.int xs[k.toNat]) ?_ ?_
  ·rw [List.getElem?_map,List.getElem?_eq_getElem h9];rfl
  ·exact q
 ·rw [List.getD_eq_getElem?_getD,List.getElem?_eq_none ((Int.le_toNat hk).mpr (Int.not_lt.mp hl))] at q
  exact q
theorem M5 {o x:Ot} (q:o.l + o.w≤x.l∨x.l + x.w≤o.l→Q (.bool true) σ) (q':¬ (o.l + o.w≤x.l∨x.l + x.w≤o.l)→Q (.bool false) σ):callW P13 (d + 1) 18 [o.v,x.v,.int 0] σ Q X:=by
 refine AL (fn:=Fc) rfl rfl ?_
 dsimp only [Fc,Ot.v]
 refine OQ (fun h=>?_) fun h=>?_
 ·by_cases h':x.l + x.w≤o.l
  ·refine (?_:Q (.bool _) _);rw [decide_eq_true h'];exact q (.inr h')
  ·refine (?_:Q (.bool _) _);rw [decide_eq_false h'];exact q' fun z=>z.elim h h'
 ·refine (?_:Q (.bool _) _);rw [decide_eq_true h];exact q (.inl h)
theorem NY {o x:Ot} (q:o.u + o.h≤x.u∨x.u + x.h≤o.u→Q (.bool true) σ) (q':¬ (o.u + o.h≤x.u∨x.u + x.h≤o.u)→Q (.bool false) σ):callW P13 (d + 1) 18 [o.v,x.v,.int 1] σ Q X:=by
 refine AL (fn:=Fc) rfl rfl ?_
 dsimp only [Fc,Ot.v]
 refine OQ (fun h=>?_) fun h=>?_
 ·by_cases h':x.u + x.h≤o.u
  ·refine (?_:Q (.bool _) _);rw [decide_eq_true h'];exact q (.inr h')
  ·refine (?_:Q (.bool _) _);rw [decide_eq_false h'];exact q' fun z=>z.elim h h'
 ·refine (?_:Q (.bool _) _);rw [decide_eq_true h];exact q (.inl h)
theorem Tk {n:Nat} {os:List Ot} {o:Ot} {W H:Int} (e:σ[n]?=some (.list (os.map Ot.v))) (q:Gd (os.map Ot.low) H W o.h o.w o.u o.l→Q (.bool true) σ) (q':¬ Gd (os.map Ot.low) H W o.h o.w o.u o.l→Q (.bool false) σ):callW P13 (d + 2) 19 [.ref n,o.v,.int W,.int H] σ Q X:=by
 refine AL (fn:=Ia) rfl rfl ?_
 dsimp only [Ia,Ot.v]
 refine Am (fun h1=>?_) fun h1=>?_
 ·exact q' fun g=>absurd g.s0 (Int.not_le.mpr h1)
 refine Am (fun h2=>?_) fun h2=>?_
 ·exact q' fun g=>absurd g.p0 (Int.not_le.mpr h2)
 refine Am (fun h3=>?_) fun h3=>?_
 ·exact q' fun g=>absurd g.s1 (Int.not_le.mpr h3)
 refine Am (fun h4=>?_) fun h4=>?_
 ·exact q' fun g=>absurd g.p1 (Int.not_le.mpr h4)
 refine BW (fun i ρ' σ'=>σ'=σ∧(∃ a,ρ'=[.ref n,o.v,.int W,.int H,a,.undef])∧∀ x ∈ os.take i,Av o.h o.w o.u o.l x.low) e ⟨rfl,⟨_,rfl⟩,fun x hx=>by rw [List.take_zero] at hx;cases hx⟩ (fun i v ρ' σ' R hv hI hR=>?_) fun ρ' σ' hI=>?_
 ·refine Bm hI fun ze1 zt2 hc=>AU zt2 fun a ze3=>?_;subst ze1;subst ze3
  refine AF (List.mem_map_get hv) fun x hx ze1=>?_;subst ze1
  have hn:Av o.h o.w o.u o.l x.low→∀ y ∈ os.take (i + 1),Av o.h o.w o.u o.l y.low:=fun h y hy=>by
   rw [Bh hx] at hy
   exact (List.mem_append.mp hy).elim (hc y) fun m=>List.mem_singleton.mp m▸h
  refine M5 (fun h5=>?_) fun h5=>?_
  ·exact hR _ _ e ⟨rfl,⟨_,rfl⟩,hn (h5.elim (fun h=>.inr (.inr (.inl h))) fun h=>.inr (.inr (.inr h)))⟩
  refine NY (fun h6=>?_) fun h6=>?_
  ·exact hR _ _ e ⟨rfl,⟨_,rfl⟩,hn (h6.elim .inl fun h=>.inr (.inl h))⟩
  refine q' fun g=>?_
  refine GF (g.clear x.low (List.mem_map.mpr ⟨x,List.mem_of_getElem? hx,rfl⟩)) (fun h=>?_) (fun h=>?_) (fun h=>?_) (fun h=>?_)
  ·exact h6 (.inl h)
  ·exact h6 (.inr h)
  ·exact h5 (.inl h)
  ·exact h5 (.inr h)
 ·refine Bm hI fun ze1 zt2 hc=>AU zt2 fun a ze3=>?_;subst ze1;subst ze3
  rw [List.length_map,List.take_length] at hc
  exact q ⟨Int.not_lt.mp h2,Int.not_lt.mp h1,Int.not_lt.mp h4,Int.not_lt.mp h3,fun y hy=>by refine AF (List.mem_map.mp hy) fun x hx ze1=>?_;subst ze1;exact hc x hx⟩
noncomputable def GE (W H:Int):Bool→List (Int × Int)
 | true=>D6 W H
 | false=>(D6 H W).map fun x=>(x.2,x.1)
theorem Ry (hW:0 < W∧W≤1000) (hH:0 < H∧H≤1000) (hWH:-1000000≤W * H∧W * H≤1000000) (q:Q (.ref σ.length) (σ ++ [.list ((GE W H b).map Cu)])):callW P13 (d + 1) 20 [.tup [.int W,.int H,hab b]] σ Q X:=by
 refine AL (fn:=Hs) rfl rfl ?_
 dsimp only [Hs]
 refine GX ?_
 cases b with
 | true=>
  wtm_at "mine"
  refine KX (fun i=>((i:Int) / W,(i:Int) % W)) Cu hWH (fun i hi K hK=>?_) ?_
  ·wtm_at "mine"; exact hK
  ·exact q
 | false=>
  wtm_at "mine"
  refine KX (fun i=>((i:Int) % H,(i:Int) / H)) Cu hWH (fun i hi K hK=>?_) ?_
  ·wtm_at "mine"; exact hK
  ·have e:GE W H false=(List.range (W * H).toNat).map fun i:Nat=>((i:Int) % H,(i:Int) / H):=by
    unfold GE D6;rw [List.map_map,Int.mul_comm H W];rfl
   rw [e] at q
   exact q
end
section
variable {d:Nat} {σ:AD} {Q:AO} {X:Ac} {m:Int} {hs:List En} {ss:List Sh}
theorem EU {e:En} (q:Q e.ot.v σ):callW P13 (d + 1) 21 [e.one] σ Q X:=by
 refine AL (fn:=H6) rfl rfl ?_
 dsimp only [H6,En.one,En.pl]
 unfold En.ot at q
 cases hr:e.r with
 | true=>rw [hr] at q;exact q
 | false=>rw [hr] at q;exact q
theorem Ju {n k:Nat} {x:Str} (e:σ[n]?=some (.list (hs.map En.one))) (hl:hs.length≤1000) (hstr:∀ y ∈ hs,PyData.strOk y.name=true) (hx:PyData.strOk x=true) (q:Q (.ref σ.length) (σ ++ [.list ((An hs (some x) k).map Ot.v)])):callW P13 (d + 2) 22 [.ref n,.int k,.str x] σ Q X:=by
 refine AL (fn:=Ig) rfl rfl ?_
 dsimp only [Ig]
 refine Ks (fun y:En=>if (decide (y.n=k) && Bu (some x) y.name)=true then some y.ot.v else none) e (by exact an1 .le .v0 (.n 1000000) (.l .v0 (.n 1000) .e) rfl hl) (fun y hy K hK=>?_) ?_
 ·dsimp only [En.one,En.pl]
  refine Am (fun h=>?_) fun h=>?_
  ·have h':y.n=k:=Int.ofNat.inj h
   refine OS (hstr y hy) hx (fun h2=>?_) fun h2=>?_
   ·rw [decide_eq_true h',DV.mpr h2] at hK
    refine EU (e:=y) ?_
    exact hK
   ·rw [show Bu (some x) y.name=false from Bool.eq_false_iff.mpr fun z=>DV.mp z h2,Bool.and_false] at hK
    exact hK
  ·rw [decide_eq_false (fun z=>h (congrArg Int.ofNat z)),Bool.false_and] at hK
   exact hK
 ·rw [CY (f:=fun y:En=>decide (y.n=k) && Bu (some x) y.name) (g:=fun y:En=>y.ot.v)]
  unfold An at q
  rw [List.map_map] at q
  exact q
theorem DR (e:σ[n]?=some (.list (ss.map Sh.v))) (hl:ss.length≤1000) (hm:1≤m∧m≤1000000) (q:Q (.ref σ.length) (σ ++ [.list ((ss.map (Sh.by m)).map Sh.v)])):callW P13 (d + 1) 24 [.ref n,.int m] σ Q X:=by
 refine AL (fn:=Iu) rfl rfl ?_
 dsimp only [Iu]
 refine EO (Sh.by m) Sh.v e (by exact an1 .le .v0 (.n 1000000) (.l .v0 (.n 1000) .e) rfl hl) (fun s hs K hK=>?_) ?_
 ·dsimp only [Sh.v]
  wtm_at "mine"
  exact hK
 ·exact q
theorem S2 {e:En} (hm:1≤m∧m≤1000000) (q:Q (e.by m).pl σ):callW P13 (d + 1) 25 [e.pl,.int m] σ Q X:=by
 refine AL (fn:=IF) rfl rfl ?_
 dsimp only [IF,En.pl]
 wtm_at "mine"
 exact q
theorem QF (q:∀ ns,Names14 ns→Q (.ref σ.length) (σ ++ [.list (ns.map .str)])):callW P13 (d + 1) 26 [.int c] σ Q X:=by
 refine AL (fn:=IQ) rfl rfl ?_
 dsimp only [IQ]
 wtm_at "mine"
 refine E7 (fun i ρ' σ'=>σ'=σ∧∃ (w:List Nat) (c':Int) (a:V),(∀ c ∈ w,c ∈ Cw)∧w.length=i∧ρ'=[.int c',.str (Str.ofString "abcdefghijklmnopqrstuvwxyz0123456789"),.str (Bt w),.int (c / 12 % 12),a,.undef]) (by exact ⟨ai1 .le (.g (.n 1000000)) .v0 (.l .n0 .v0 .e) rfl (Int.emod_nonneg _ (by decide)),ai1 .le .v0 (.n 1000000) (.t .v0 (.n 10) .e) rfl (Int.emod_lt_of_pos _ (by decide))⟩) ⟨rfl,[],_,_,(fun _ h=>nomatch h),rfl,rfl⟩ (fun i ρ' σ' R hi hI hR=>?_) fun ρ' σ' hI=>?_
 ·obtain ⟨rfl,w,c',a,hw,hl,rfl⟩:=hI
  wtm_at "mine"
  refine AF (N1 (j:=(((c' * 48271 + 11) % 2147483647) % 36).toNat) ((Int.toNat_lt' (by decide)).mpr (Int.emod_lt_of_pos _ (by decide)))) fun b eb hb=>?_
  refine U5 (c:=b) (by exact ai1 .le .n0 .v0 (.l .n0 .v0 .e) rfl (Int.emod_nonneg _ (by decide))) (by exact ai1 .lt .v0 (.n 1000000) (.t .v0 (.n 36) .e) rfl (Int.emod_lt_of_pos _ (by decide))) eb ?_
  refine BinK.addS ?_ ?_
  ·rw [FA,hl]
   show i + 1≤Ah
   exact Nat.le_trans (Int.ofNat_lt.mp (Int.lt_trans hi (Int.emod_lt_of_pos c (by decide))):i < 10) (by decide)
  have epc:Bt w ++ Ec b=Bt (w ++ [b]):=congrArg Str.mk (by show w.toArray ++ #[b]=(w ++ [b]).toArray;simp)
  rw [epc]
  exact hR _ _ ⟨rfl,w ++ [b],_,_,fun x hx=>(List.mem_append.mp hx).elim (hw x) fun z=>List.mem_singleton.mp z▸hb,by rw [List.length_append,hl];rfl,rfl⟩
 ·obtain ⟨rfl,w,c',a,hw,hl,rfl⟩:=hI
  have hl13:w.length≤11:=by rw [hl];exact Int.toNat_le.mpr (Int.le_trans (Int.le_of_lt (Int.emod_lt_of_pos _ (by decide))) (by decide))
  have ew:(Bt w).cps.toList=w:=rfl
  have elen:(Bt w).length=w.length:=FA
  refine Sj (fun s=>.str (Bt (cut w 0 (min (c / 12 % 12).toNat w.length)) ++ Ec s ++ Bt (cut w (min (c / 12 % 12).toNat w.length) w.length))) (by decide +kernel) (by decide +kernel) (fun s hs K hK=>?_) ?_
  ·have l1:∀ a b,(Bt (cut w a b)).length≤11:=fun a b=>by rw [FA];exact Nat.le_trans Cx hl13
   refine VM (by rw [elen];exact an1 .le .v0 (.n 1000) (.l .v0 (.n 11) .e) rfl hl13) (by exact ai1 .le .n0 .v0 (.l .n0 .v0 .e) rfl (Int.emod_nonneg _ (by decide))) (by exact ai1 .le .v0 (.n 1000000) (.t .v0 (.n 12) .e) rfl (Int.emod_lt_of_pos _ (by decide))) ?_
   refine BinK.addS (Nat.le_trans (Nat.add_le_add_right (l1 _ _) 1) (by decide)) ?_
   refine Uw (by rw [elen];exact an1 .le .v0 (.n 1000) (.l .v0 (.n 11) .e) rfl hl13) (by exact ai1 .le .n0 .v0 (.l .n0 .v0 .e) rfl (Int.emod_nonneg _ (by decide))) (by exact ai1 .le .v0 (.n 1000000) (.t .v0 (.n 12) .e) rfl (Int.emod_lt_of_pos _ (by decide))) ?_
   rw [elen]
   have l2:∀ a b,(Bt (cut w a b) ++ Ec s).length≤12:=fun a b=>by
    rw [E9,Eu,List.length_append]
    have:=l1 a b
    rw [E9] at this
    exact Nat.add_le_add_right this 1
   refine BinK.addS (Nat.le_trans (Nat.add_le_add (l2 _ _) (l1 _ _)) (by decide)) ?_
   exact hK
  ·have:=q _ (Nj hw hl13 (Nat.min_le_right (c / 12 % 12).toNat w.length))
   rw [List.map_map] at this
   exact this
end
set_option maxHeartbeats 2000000
section
variable {d:Nat} {σ:AD} {Q:AO} {X:Ac} {m:Int} {hs:List En} {ss:List Sh}
theorem RY (q:∀ m,1≤m∧m≤200000→Q (.int m) σ):callW P13 (d + 1) 15 [.int c] σ Q X:=by
 refine AL (fn:=I3) rfl rfl ?_
 dsimp only [I3]
 wtm_at "mine"
 refine Am (fun _=>?_) fun _=>?_
 ·exact q 1 (by exact ⟨ari [] .le .n1 .n1 .e rfl,ari [] .le .n1 (.n 200000) .e rfl⟩)
 ·wtm_at "mine"; exact q _ (by exact ⟨ai1 .le .n1 (.a .n1 .v0) (.l .n0 .v0 .e) rfl (Int.emod_nonneg _ (by decide)),ai1 .le (.a .n1 .v0) (.n 200000) (.t .v0 (.n 200000) .e) rfl (Int.emod_lt_of_pos _ (by decide))⟩)
theorem LJ {xs:List Int} (e:σ[0]?=some (.list (xs.map .int))) (q:∀ (ss:List Sh) (k:Nat) (σ':AD),KpB σ.length σ σ'→σ'[k]?=some (.list (ss.map Sh.v))→σ.length≤k→1≤ss.length→ss.length≤9→(∀ s ∈ ss,ShB 5 4 s)→Q (.ref k) σ'):callW P13 (d + 2) 23 [.ref 0] σ Q X:=by
 refine AL (fn:=Iy) rfl rfl ?_
 dsimp only [Iy]
 refine Cg e (by decide) ?_
 wtm_at "mine"
 have hmx:max 0 (Ef xs 1 / 3 % 14 - 7)≤6:=Int.max_le.mpr ⟨by decide,Int.sub_le_sub_right (Int.lt_add_one_iff.mp (Int.emod_lt_of_pos _ (by decide):_ < (13:Int) + 1)) 7⟩
 have h4:1 + Ef xs 1 % 3 < 4:=Int.add_lt_add_left (Int.emod_lt_of_pos _ (by decide)) 1
 refine KX (fun _=>(⟨1,1,true⟩:Sh)) Sh.v ⟨Int.le_trans (by decide) (Int.le_max_left _ _),Int.le_trans hmx (by decide)⟩ (fun i hi K hK=>?_) ?_
 ·exact hK
 have hk0:σ.length ≠ 0:=Nat.ne_of_gt (List.getElem?_eq_some_iff.mp e).1
 generalize hss:(List.range _).map (fun _=>(⟨1,1,true⟩:Sh))=ss₀
 have hl₀:ss₀.length≤6:=by rw [← hss,List.length_map,List.length_range];exact Int.toNat_le.mpr hmx
 have ok₀:∀ s ∈ ss₀,ShB 5 4 s:=fun s hs=>by
  rw [← hss] at hs
  refine AF (List.mem_map.mp hs) fun _ _ ze1=>?_;subst ze1
  exact ⟨by decide,by decide⟩
 refine Cg (AB e) (by decide) ?_
 wtm_at "mine"
 refine E7 (fun i ρ' σ'=>KpB σ.length σ σ'∧∃ (ss:List Sh) (a c:V),ρ'=[.ref 0,a,.ref σ.length,c,.undef]∧i≤ss.length∧ss.length≤6 + i∧(∀ s ∈ ss,ShB 5 4 s)∧σ'[σ.length]?=some (.list (ss.map Sh.v))) (by exact ⟨ai1 .le (.g (.n 1000000)) (.a .n1 .v0) (.l .n0 .v0 .e) rfl (Int.emod_nonneg _ (by decide)),ai1 .le (.a .n1 .v0) (.n 1000000) (.t .v0 .n3 .e) rfl (Int.emod_lt_of_pos _ (by decide))⟩) ⟨fun x o hx h=>AB h,ss₀,_,_,rfl,Nat.zero_le _,by exact an1 .le .v0 (.a (.n 6) .n0) (.l .v0 (.n 6) .e) rfl hl₀,ok₀,AC⟩ (fun i ρ' σ' R hi hI hR=>?_) fun ρ' σ' hI=>?_
 ·refine D5 hI fun kp ss a c ze1 hi' hl ok ek=>?_;subst ze1
  have e0:=kp 0 _ (Ne.symm hk0) e
  refine Cg e0 (by exact ai1 .le .n0 (.a .n2 .v0) (.l .n0 .v0 .e) rfl (Int.natCast_nonneg _)) ?_
  wtm_at "mine"
  generalize (Ef xs (2 + (i:Int)) * 48271 + 11) % 2147483647=dr
  refine N9 AC (by exact ⟨ai1 .le .n0 .v0 (.l .n0 .v0 .e) rfl (Int.emod_nonneg _ (by decide)),ai1 .lt .v0 .n2 (.t .v0 .n2 .e) rfl (Int.emod_lt_of_pos _ (by decide))⟩) fun b=>?_
  refine CB (AB ek) hk0 (by rw [List.length_map];exact Nat.lt_of_le_of_lt hl (Nat.lt_trans (Nat.add_lt_add_left (Int.ofNat_lt.mp (Int.lt_trans hi h4):i < 4) 6) (by decide))) ?_
  refine hR _ _ ⟨fun x o hx h=>AI (Ne.symm hx) (AB (kp x o hx h)),ss ++ [⟨1 + dr % 5,1 + dr / 5 % 4,b⟩],_,_,rfl,by rw [List.length_append];exact Nat.succ_le_succ hi',by rw [List.length_append];exact Nat.succ_le_succ hl,fun s hs=>(List.mem_append.mp hs).elim (ok s) fun z=>List.mem_singleton.mp z▸⟨by dsimp only;exact ⟨ai1 .le .n1 (.a .n1 .v0) (.l .n0 .v0 .e) rfl (Int.emod_nonneg _ (by decide)),ai1 .le (.a .n1 .v0) (.n 5) (.t .v0 (.n 5) .e) rfl (Int.emod_lt_of_pos _ (by decide))⟩,by dsimp only;exact ⟨ai1 .le .n1 (.a .n1 .v0) (.l .n0 .v0 .e) rfl (Int.emod_nonneg _ (by decide)),ai1 .le (.a .n1 .v0) (.n 4) (.t .v0 (.n 4) .e) rfl (Int.emod_lt_of_pos _ (by decide))⟩⟩,by rw [List.map_append];exact Ai (AB ek)⟩
 ·refine D5 hI fun kp ss a c ze1 hi' hl ok ek=>?_;subst ze1
  exact q ss _ _ kp ek (Nat.le_refl _) (Nat.le_trans (Int.lt_toNat.mpr (Int.lt_of_lt_of_le (by decide) (Int.le_add_of_nonneg_right (Int.emod_nonneg _ (by decide))))) hi') (Nat.le_trans hl (Nat.add_le_add_left (Int.toNat_le.mpr (Int.lt_add_one_iff.mp h4)) 6)) ok
end
set_option maxHeartbeats 2000000
section
variable {d:Nat} {σ:AD} {Q:AO} {X:Ac} {m:Int} {hs:List En} {ss:List Sh}
theorem UH (q:∀ (sh:Sh) σ',σ <+: σ'→ShB 1000 1000 sh→Q sh.v σ'):callW P13 (d + 1) 29 [.int c,.int k] σ Q X:=by
 refine AL (fn:=H2) rfl rfl ?_
 dsimp only [H2]
 wtm_at "mine"
 generalize (c * 48271 + 11 * k + 5) % 2147483647=x
 generalize x * 69621 % 2147483647=y
 refine N9 AC ⟨Int.emod_nonneg _ (by decide),Int.emod_lt_of_pos _ (by decide)⟩ fun b=>?_
 refine q ⟨1 + x % 1000,1 + y % 1000,b⟩ _ AH ⟨⟨?_,?_⟩,?_,?_⟩
 ·exact ai1 .le .n1 (.a .n1 .v0) (.l .n0 .v0 .e) rfl (Int.emod_nonneg _ (by decide))
 ·exact ai1 .le (.a .n1 .v0) (.n 1000) (.t .v0 (.n 1000) .e) rfl (Int.emod_lt_of_pos _ (by decide))
 ·exact ai1 .le .n1 (.a .n1 .v0) (.l .n0 .v0 .e) rfl (Int.emod_nonneg _ (by decide))
 ·exact ai1 .le (.a .n1 .v0) (.n 1000) (.t .v0 (.n 1000) .e) rfl (Int.emod_lt_of_pos _ (by decide))
end
set_option maxHeartbeats 2000000
section
variable {d:Nat} {σ:AD} {Q:AO} {X:Ac} {m:Int} {hs:List En} {ss:List Sh} {n k r S B P epB epP:Nat} {e:En}
theorem Gn:pairsOf (us ++ [u]) ls=pairsOf us ls ++ ls.map fun l=>(u,l):=by
 unfold pairsOf;rw [List.flatMap_append,List.flatMap_singleton]
theorem Mk (hu:us.length < 64) (hl:ls.length < 64):(pairsOf us ls).length≤4096:=by
 unfold pairsOf
 rw [List.length_flatMap]
 have:(us.map fun u=>(ls.map fun l=>(u,l)).length)=us.map fun _=>ls.length:=List.map_congr_left fun u _=>List.length_map ..
 rw [this,List.map_const',List.sum_replicate_nat]
 exact Nat.le_trans (Nat.mul_le_mul (Nat.le_of_lt hu) (Nat.le_of_lt hl)) (by decide)
theorem Ol (eu:σ[a]?=some (.list (us.map .int))) (el:σ[a']?=some (.list (ls.map .int))) (hu:us.length < 64) (hl:ls.length < 64)
  (q:∀ x σ',σ <+: σ'→σ'[x]?=some (.list (((Ir b us ls).map (psK b)).map Cu))→Q (.ref x) σ') :
  Bw (FL.body.drop 2) (callW P13 d) [.ref c,.tup [.int W,.int H,hab b],.ref a,.ref a',.undef,.undef,.undef,.undef] σ (LF Q X):=by
 have le:∀ {us ls:List Int} {i:Nat},us.length < 64→ls.length < 64→(pairsOf (us.take i) ls).length≤4096:=fun hu hl=>Mk (Nat.lt_of_le_of_lt (List.length_take_le' ..) hu) hl
 dsimp only [FL,List.drop]
 refine GX ?_
 cases b with
 | true=>
  refine BW (fun i ρ' σ'=>σ <+: σ'∧(∃ x a5,ρ'=[.ref c,.tup [.int W,.int H,hab true],.ref a,.ref a',.ref x,a5,.undef,.undef]∧σ'[x]?=some (.list ((pairsOf (us.take i) ls).map Cu)))) (AB eu) ⟨AH,_,_,rfl,AC⟩ (fun i v ρ' σ' R hv hI hR=>?_) fun ρ' σ' hI=>?_
  ·refine DY hI fun p x a5 ze ex=>?_;subst ze
   refine AF (List.mem_map_get hv) fun u hi ze1=>?_;subst ze1
   refine EO (g:=.int) (fun l=>(u,l)) Cu (AN p el) (Nat.le_trans (Nat.le_of_lt hl) (by decide)) (fun x hx K hK=>?_) ?_
   ·exact hK
   refine BinK.addL (AB ex) AC (by rw [List.length_map,List.length_map,List.length_map];exact Nat.le_trans (Nat.add_le_add (le hu hl) (Nat.le_of_lt hl)) (by decide)) ?_
   refine hR _ _ (AB (AB (AN p eu))) ⟨p.trans (AH.trans AH),_,_,rfl,?_⟩
   rw [AC,Bh hi,Gn,List.map_append]
  ·refine DY hI fun p x a5 ze ex=>?_;subst ze
   rw [List.length_map,List.take_length] at ex
   refine q x σ' p ?_
   rw [ex]
   exact congrArg (fun l=>some (O.list (List.map Cu l))) (List.map_id' (pairsOf us ls)).symm
 | false=>
  refine BW (fun i ρ' σ'=>σ <+: σ'∧(∃ x a5,ρ'=[.ref c,.tup [.int W,.int H,hab false],.ref a,.ref a',.ref x,.undef,a5,.undef]∧σ'[x]?=some (.list (((pairsOf (ls.take i) us).map (psK false)).map Cu)))) (AB el) ⟨AH,_,_,rfl,AC⟩ (fun i v ρ' σ' R hv hI hR=>?_) fun ρ' σ' hI=>?_
  ·refine DY hI fun p x a5 ze ex=>?_;subst ze
   refine AF (List.mem_map_get hv) fun l hi ze1=>?_;subst ze1
   refine EO (g:=.int) (fun u=>(u,l)) Cu (AN p eu) (Nat.le_trans (Nat.le_of_lt hu) (by decide)) (fun x hx K hK=>?_) ?_
   ·exact hK
   refine BinK.addL (AB ex) AC (by rw [List.length_map,List.length_map,List.length_map,List.length_map];exact Nat.le_trans (Nat.add_le_add (le hl hu) (Nat.le_of_lt hu)) (by decide)) ?_
   refine hR _ _ (AB (AB (AN p el))) ⟨p.trans (AH.trans AH),_,_,rfl,?_⟩
   rw [AC,Bh hi,Gn,List.map_append,List.map_append,List.map_map (f:=fun u=>(l,u))];rfl
  ·refine DY hI fun p x a5 ze ex=>?_;subst ze
   rw [List.length_map,List.take_length] at ex
   exact q x σ' p ex
theorem SE {c:Nat} {os:List Ot} {W H:Int} {b:Bool} (er:σ[c]?=some (.list (os.map Ot.v))) (hz:os.length < 63)
  (q:∀ us ls a σ',σ <+: σ'→us.Pairwise (·≤·)→ls.Pairwise (·≤·)→(∀ x,x ∈ us ↔ x ∈ 0 :: os.map fun o=>o.u + o.h)→(∀ x,x ∈ ls ↔ x ∈ 0 :: os.map fun o=>o.l + o.w)→σ'[a]?=some (.list (((Ir b us ls).map (psK b)).map Cu))→Q (.ref a) σ') :
  callW P13 (d + 1) 27 [.ref c,.tup [.int W,.int H,hab b]] σ Q X:=by
 refine AL (fn:=FL) rfl rfl ?_
 dsimp only [FL]
 refine EO (g:=Ot.v) (fun o=>o.u + o.h) .int (AB er) (Nat.le_trans (Nat.le_of_lt hz) (by decide)) (fun x hx K hK=>?_) ?_
 ·dsimp only [Ot.v]
  exact hK
 refine BinK.addL (AB AC) AC (by rw [List.length_map,List.length_map];exact Nat.le_trans (Nat.add_le_add_left (Nat.le_of_lt hz) 1) (by decide)) ?_
 refine SortK.ints (ns:=0 :: os.map fun o=>o.u + o.h) AC (by rw [List.length_cons,List.length_map];exact Nat.succ_lt_succ hz) fun us hpu hsu=>?_
 refine EO (g:=Ot.v) (fun o=>o.l + o.w) .int (AB (AB (AB (AB (AB er))))) (Nat.le_trans (Nat.le_of_lt hz) (by decide)) (fun x hx K hK=>?_) ?_
 ·dsimp only [Ot.v]
  exact hK
 refine BinK.addL (AB AC) AC (by rw [List.length_map,List.length_map];exact Nat.le_trans (Nat.add_le_add_left (Nat.le_of_lt hz) 1) (by decide)) ?_
 refine SortK.ints (ns:=0 :: os.map fun o=>o.l + o.w) AC (by rw [List.length_cons,List.length_map];exact Nat.succ_lt_succ hz) fun ls hpl hsl=>?_
 refine Ol (AB (AB (AB (AB AC)))) AC (by rw [hpu.length_eq,List.length_cons,List.length_map];exact Nat.succ_lt_succ hz) (by rw [hpl.length_eq,List.length_cons,List.length_map];exact Nat.succ_lt_succ hz) fun x σ' p ex=>?_
 exact q us ls x σ' ((((((((AH.trans AH).trans AH).trans AH).trans AH).trans AH).trans AH).trans AH).trans p) hsu hsl (fun x=>hpu.mem_iff) (fun x=>hpl.mem_iff) ex
noncomputable def Vj (os:List Ot) (sh:Sh) (T:List (Int × Int)):Prop:=∀ (w h:Int) (t:Bool) (d:Pl3),0 < w→0 < h→OnL w h t sh os (some d)→NB T (psK sh.b (d.1,d.2.1))
theorem LC:(D6 (shS sh) (shP sh)).map (psK sh.b)=GE sh.W sh.H sh.b:=by
 obtain ⟨W,H,b⟩:=sh
 cases b with
 | true=>exact List.map_id' _
 | false=>rfl
theorem SY {c:Nat} {os:List Ot} {sh:Sh} {far:Bool} (er:σ[c]?=some (.list (os.map Ot.v))) (hz:os.length < 63) (ok:ShB 1000 1000 sh)
  (q:∀ T a σ',σ <+: σ'→Vj os sh T→σ'[a]?=some (.list ((T.map (psK sh.b)).map Cu))→Q (.ref a) σ'):callW P13 (d + 2) 28 [.ref c,sh.v,.bool far] σ Q X:=by
 refine AL (fn:=I4) rfl rfl ?_
 dsimp only [I4,Sh.v]
 cases far with
 | true=>exact SE (b:=sh.b) er hz fun us ls a σ' p h1 h2 h3 h4 ea=>q (Ir sh.b us ls) a σ' p (fun w h t d _ _ o=>QL h1 h2 h3 h4 o) ea
 | false=>
  have hW:0 < sh.W:=ok.w.1
  have hH:0 < sh.H:=ok.h.1
  have hS:0 < shS sh:=by unfold shS;split <;> assumption
  refine Ry (b:=sh.b) ⟨hW,ok.w.2⟩ ⟨hH,ok.h.2⟩ ⟨Int.le_trans (by decide) (Int.mul_nonneg (Int.le_of_lt hW) (Int.le_of_lt hH)),Int.le_trans (Int.mul_le_mul ok.w.2 ok.h.2 (Int.le_of_lt hH) (by decide)) (by decide)⟩ ?_
  exact q (D6 (shS sh) (shP sh)) _ _ AH (fun w h t d hw hh o=>Nh hw hh hS o) (by rw [LC];exact AC)
end
set_option maxHeartbeats 2000000
section
variable {d:Nat} {σ:AD} {Q:AO} {X:Ac} {m:Int} {hs:List En} {ss:List Sh}
theorem IK (q:r=some (n,u,l,tr)→K true) (q':r ≠ some (n,u,l,tr)→K false):My σ K .Eq (.tup [.int n,.int u,.int l,.bool tr]) (Fb r):=by
 cases r with
 | none=>exact CmpK.eq (x:=.tuple [.int n,.int u,.int l,.bool tr]) (y:=.none) rfl rfl rfl rfl (q' nofun)
 | some p=>
  refine CmpK.eq (x:=.tuple [.int n,.int u,.int l,.bool tr]) (y:=.tuple [.int p.1,.int p.2.1,.int p.2.2.1,.bool p.2.2.2]) rfl rfl rfl rfl ?_
  show K ((n == p.1) && ((u == p.2.1) && ((l == p.2.2.1) && ((tr == p.2.2.2) && true))))
  by_cases h:p=(n,u,l,tr)
  ·subst h
   rw [beq_self_eq_true,beq_self_eq_true,beq_self_eq_true,beq_self_eq_true]
   exact q rfl
  ·have:((n == p.1) && ((u == p.2.1) && ((l == p.2.2.1) && ((tr == p.2.2.2) && true))))=false:=Bool.eq_false_iff.mpr fun z=>h (by
    have z:=Bool.and_eq_true_iff.mp z
    have z1:=Bool.and_eq_true_iff.mp z.2
    have z2:=Bool.and_eq_true_iff.mp z1.2
    have z3:=Bool.and_eq_true_iff.mp z2.2
    exact Prod.ext (beq_iff_eq.mp z.1).symm (Prod.ext (beq_iff_eq.mp z1.1).symm (Prod.ext (beq_iff_eq.mp z2.1).symm (beq_iff_eq.mp z3.1).symm)))
   rw [this]
   exact q' fun e=>h (Option.some.inj e)
abbrev Ow:List Sx:=[AT (.var 9) (Ap [(AA 5),(AJ (AA 7) (AG 0)),(AJ (AA 7) (AG 1)),(AA 8)]),AT (.var 10) (AP 19 [(AA 6),(AP 21 [(AM .add (AA 2) (Ap [(AA 9)]))]),(AJ (AJ (AA 0) (AA 5)) (AG 0)),(AJ (AJ (AA 0) (AA 5)) (AG 1))]),sIf (AY (AA 9) [.Eq] [(AA 3)]) [AV (AA 10)] [],sIf (By (AA 10)) [AV (Ao false)] []]
abbrev TM:List Sx:=[CK (.var 8) .plain [(As (Al [(Ao false),(Ao true)]) none (some (AM .add (AG 1) (A0 .int [(AJ (AA 2) (AG 3))]))))] Ow]
theorem NA {n k i c:Nat} {e:En} {os:List Ot} {W H:Int} {b tr far:Bool} {y:Int × Int} {a8 a9 a10:V} {r:Option Pl4} {Pr:BR} (es:σ[n]?=some (.list (ss.map Sh.v))) (hv:(ss.map Sh.v)[(i:Int).toNat]?=some (Sh.v ⟨W,H,b⟩)) (er:σ[c]?=some (.list (os.map Ot.v)))
  (hc:(r=some ((i:Int),y.1,y.2,tr)∧GdU os W H e.w e.h tr y.1 y.2∧∀ ρ₃,Pr (.ret (.bool true)) ρ₃ σ)∨(r ≠ some ((i:Int),y.1,y.2,tr)∧¬ GdU os W H e.w e.h tr y.1 y.2∧∀ b9 b10,Pr .next [.ref n,.ref k,e.box,Fb r,.bool far,.int i,.ref c,Cu y,.bool tr,b9,b10,.undef] σ)) :
  Er (callW P13 (d + 2)) (.var 8) Ow (.bool tr) [.ref n,.ref k,e.box,Fb r,.bool far,.int i,.ref c,Cu y,a8,a9,a10,.undef] σ Pr:=by
 dsimp only [Cu,En.box] at hc ⊢
 wtm_at "mine"
 refine EU (e:=e.to i y.1 y.2 tr) ?_
 refine Aq es (Int.natCast_nonneg i) hv ?_
 dsimp only [Sh.v]
 refine Aq es (Int.natCast_nonneg i) hv ?_
 dsimp only [Sh.v]
 have eu:(e.to i y.1 y.2 tr).ot.u=y.1∧(e.to i y.1 y.2 tr).ot.l=y.2∧(e.to i y.1 y.2 tr).ot.h=exT tr e.h e.w∧(e.to i y.1 y.2 tr).ot.w=exT tr e.w e.h:=by unfold En.ot En.to;cases tr <;> exact ⟨rfl,rfl,rfl,rfl⟩
 refine Tk (o:=(e.to i y.1 y.2 tr).ot) er (fun g=>?_) fun g=>?_
 ·rw [eu.1,eu.2.1,eu.2.2.1,eu.2.2.2] at g
  cases r with
  | none=>
   refine IK (r:=none) (fun h=>?_) fun h=>?_
   ·exact hc.elim (fun z=>z.2.2 _) fun z=>absurd h z.1
   ·exact hc.elim (fun z=>absurd z.1 h) fun z=>absurd g z.2.1
  | some p=>
   refine IK (r:=some p) (fun h=>?_) fun h=>?_
   ·exact hc.elim (fun z=>z.2.2 _) fun z=>absurd h z.1
   ·exact hc.elim (fun z=>absurd z.1 h) fun z=>absurd g z.2.1
 ·rw [eu.1,eu.2.1,eu.2.2.1,eu.2.2.2] at g
  cases r with
  | none=>
   refine IK (r:=none) (fun h=>?_) fun h=>?_
   ·exact hc.elim (fun z=>absurd z.2.1 g) fun z=>absurd h z.1
   ·exact hc.elim (fun z=>absurd z.1 h) fun z=>z.2.2 _ _
  | some p=>
   refine IK (r:=some p) (fun h=>?_) fun h=>?_
   ·exact hc.elim (fun z=>absurd z.2.1 g) fun z=>absurd h z.1
   ·exact hc.elim (fun z=>absurd z.1 h) fun z=>z.2.2 _ _
theorem UI {n k i c:Nat} {e:En} {os:List Ot} {W H:Int} {b far:Bool} {y:Int × Int} {a7 a8 a9 a10:V} {r:Option Pl4} {Pq:BR} (es:σ[n]?=some (.list (ss.map Sh.v))) (hv:(ss.map Sh.v)[(i:Int).toNat]?=some (Sh.v ⟨W,H,b⟩)) (er:σ[c]?=some (.list (os.map Ot.v)))
  (hc:(∃ tr0,r=some ((i:Int),y.1,y.2,tr0)∧(tr0=true→e.t=true)∧GdU os W H e.w e.h tr0 y.1 y.2∧(tr0=true→¬ GdU os W H e.w e.h false y.1 y.2)∧∀ ρ₃ σ₃,σ <+: σ₃→Pq (.ret (.bool true)) ρ₃ σ₃) ∨
   ((∀ tr,r ≠ some ((i:Int),y.1,y.2,tr))∧(∀ tr,(tr=true→e.t=true)→¬ GdU os W H e.w e.h tr y.1 y.2)∧∀ σ₃,σ <+: σ₃→∀ b8 b9 b10,Pq .next [.ref n,.ref k,e.box,Fb r,.bool far,.int i,.ref c,Cu y,b8,b9,b10,.undef] σ₃)) :
  Er (callW P13 (d + 2)) (.var 7) TM (Cu y) [.ref n,.ref k,e.box,Fb r,.bool far,.int i,.ref c,a7,a8,a9,a10,.undef] σ Pq:=by
 have eb:e.box=.tup [.str e.name,.int e.w,.int e.h,.bool e.t]:=rfl
 cases ht:e.t with
 | false=>
  rw [ht] at eb
  rw [eb]
  wtm_at "mine"
  refine DG AC (by decide) (by decide) ?_
  rw [← eb]
  refine ⟨_,_,.list AC,?_⟩
  refine NA (tr:=false) (AB (AB es)) hv (AB (AB er)) (hc.imp (fun z=>B3 z fun tr0 h1 h2 h3 h4 h5=>?_) fun z=>⟨z.1 false,z.2.1 false nofun,fun b9 b10=>⟨AC,z.2.2 _ (AH.trans AH) _ _ _⟩⟩)
  have:tr0=false:=Bool.eq_false_iff.mpr fun z=>Gu ((h2 z).symm.trans ht)
  subst this
  exact ⟨h1,h3,fun ρ₃=>h5 ρ₃ _ (AH.trans AH)⟩
 | true=>
  rw [ht] at eb
  rw [eb]
  wtm_at "mine"
  refine DG AC (by decide) (by decide) ?_
  rw [← eb]
  refine ⟨_,_,.list AC,?_⟩
  refine hc.elim (fun z=>B3 z fun tr0 h1 h2 h3 h4 h5=>?_) fun z=>?_
  ·cases tr0 with
   | false=>exact NA (tr:=false) (AB (AB es)) hv (AB (AB er)) (.inl ⟨h1,h3,fun ρ₃=>h5 ρ₃ _ (AH.trans AH)⟩)
   | true=>
    refine NA (tr:=false) (AB (AB es)) hv (AB (AB er)) (.inr ⟨fun z=>?_,h4 rfl,fun b9 b10=>⟨AC,?_⟩⟩)
    ·exact Gu (congrArg (·.2.2.2) (Option.some.inj (h1.symm.trans z)))
    ·exact NA (tr:=true) (AB (AB es)) hv (AB (AB er)) (.inl ⟨h1,h3,fun ρ₃=>h5 ρ₃ _ (AH.trans AH)⟩)
  ·refine NA (tr:=false) (AB (AB es)) hv (AB (AB er)) (.inr ⟨z.1 false,z.2.1 false nofun,fun b9 b10=>⟨AC,?_⟩⟩)
   exact NA (tr:=true) (AB (AB es)) hv (AB (AB er)) (.inr ⟨z.1 true,z.2.1 true fun _=>ht,fun b9 b10=>⟨AC,z.2.2 _ (AH.trans AH) _ _ _⟩⟩)
end
set_option maxHeartbeats 2000000
section
variable {d:Nat} {σ:AD} {Q:AO} {X:Ac} {m:Int} {hs:List En} {ss:List Sh}
theorem F3 {n k:Nat} {e:En} {r:Option Pl4} {far:Bool} (F:FP (OnL e.w e.h e.t) 0 (ss.zip (AS ss.length hs (some e.name))) r) (es:σ[n]?=some (.list (ss.map Sh.v))) (eh:σ[k]?=some (.list (hs.map En.one))) (hl:ss.length≤9) (ok:∀ s ∈ ss,ShB 1000 1000 s) (hh:hs.length < 63)
  (hstr:∀ y ∈ hs,PyData.strOk y.name=true) (hx:PyData.strOk e.name=true) (hw:0 < e.w) (hht:0 < e.h) (q:∀ σ',σ <+: σ'→Q (.bool true) σ'):callW P13 (d + 3) 30 [.ref n,.ref k,e.box,Fb r,.bool far] σ Q X:=by
 refine AL (fn:=IY) rfl rfl ?_
 dsimp only [IY]
 wtm_at "mine"
 rw [List.length_map]
 refine E7 (fun i ρ' σ'=>σ <+: σ'∧(∃ a5 a6 a7 a8 a9 a10,ρ'=[.ref n,.ref k,e.box,Fb r,.bool far,a5,a6,a7,a8,a9,a10,.undef])∧∀ x,r=some x→(i:Int)≤x.1) ⟨Int.le_trans (by decide) (Int.natCast_nonneg _),Int.le_trans (Int.ofNat_le.mpr hl) (by decide)⟩ ⟨List.prefix_refl _,⟨_,_,_,_,_,_,rfl⟩,fun x hx=>?_⟩ (fun i ρ' σ' R hi hI hR=>?_) fun ρ' σ' hI=>?_
 ·subst hx
  exact AZ (Hu F) fun k hk _ _=>hk▸Int.natCast_nonneg k
 ·refine Bm hI fun p₁ zt hr=>?_
  refine CH zt fun a5 a6 a7 zt=>CH zt fun a8 a9 a10 ze=>?_;subst ze
  have i1:i < ss.length:=Int.ofNat_lt.mp hi
  have hsh:=List.getElem?_eq_getElem i1
  have hv:(ss.map Sh.v)[(i:Int).toNat]?=some ss[i].v:=by rw [Int.toNat_natCast,List.getElem?_map,hsh];rfl
  have ok:=ok _ (List.mem_of_getElem? hsh)
  have st:=Rq F hsh hr
  have hz:(An hs (some e.name) i).length < 63:=by
   unfold An;rw [List.length_map];exact Nat.lt_of_le_of_lt (List.length_filter_le ..) hh
  refine Ju (AN p₁ eh) (Nat.le_trans (Nat.le_of_lt hh) (by decide)) hstr hx ?_
  generalize ss[i]=sh at *
  generalize An hs (some e.name) i=os at *
  refine Aq (AB (AN p₁ es)) (Int.natCast_nonneg i) hv ?_
  refine SY AC hz ok fun T a σ₁ p₂ hT ea=>?_
  have es₁:=AN p₂ (AB (AN p₁ es))
  have er₁:=AN p₂ (AC (σ:=σ') (o:=.list (os.map Ot.v)))
  have p₃:σ <+: σ₁:=p₁.trans (AH.trans p₂)
  refine st.elim (fun z=>?_) fun z=>?_
  ·refine BW (fun j ρ' σ''=>σ₁ <+: σ''∧(∃ a7 a8 a9 a10,ρ'=[.ref n,.ref k,e.box,Fb r,.bool far,.int i,.ref σ'.length,a7,a8,a9,a10,.undef])) ea ⟨List.prefix_refl _,_,_,_,_,rfl⟩ (fun j v ρ' σ'' R' hv' hI hR'=>?_) fun ρ' σ'' hI=>?_
   ·obtain ⟨p,a7,a8,a9,a10,rfl⟩:=hI
    refine AF (List.mem_map_get hv') fun y hy ze1=>?_;subst ze1
    refine UI (AN p es₁) hv (AN p er₁) (.inr ⟨fun tr e=>?_,fun tr hr=>KY z.1 y.1 y.2 tr hr,fun σ₃ p₄ b8 b9 b10=>?_⟩)
    ·exact absurd (z.2 _ e) (Int.not_le.mpr (Int.lt_succ _))
    ·exact hR' _ _ (AN (p.trans p₄) ea) ⟨p.trans p₄,_,_,_,_,rfl⟩
   ·obtain ⟨p,a7,a8,a9,a10,rfl⟩:=hI
    exact hR _ _ ⟨p₃.trans p,⟨_,_,_,_,_,_,rfl⟩,z.2⟩
  ·refine AF z fun pp o hrr=>?_
   have so:=Ea o
   refine BL (OG o (hT _ _ _ _ hw hht o)) fun A B eT hA=>?_
   rw [eT] at ea
   refine BW (fun j ρ' σ''=>σ₁ <+: σ''∧(∃ a7 a8 a9 a10,ρ'=[.ref n,.ref k,e.box,Fb r,.bool far,.int i,.ref σ'.length,a7,a8,a9,a10,.undef])∧j≤A.length) ea ⟨List.prefix_refl _,⟨_,_,_,_,rfl⟩,Nat.zero_le _⟩ (fun j v ρ' σ'' R' hv' hI hR'=>?_) fun ρ' σ'' hI=>?_
   ·obtain ⟨p,⟨a7,a8,a9,a10,rfl⟩,hj⟩:=hI
    refine AF (List.mem_map_get hv') fun y hy ze1=>?_;subst ze1
    refine (Nat.lt_or_eq_of_le hj).elim (fun hlt=>?_) fun e0=>?_
    ·rw [List.getElem?_append_left hlt] at hy
     have hA:=hA y (List.mem_of_getElem? hy)
     refine UI (AN p es₁) hv (AN p er₁) (.inr ⟨fun tr e=>?_,hA,fun σ₃ p₄ b8 b9 b10=>?_⟩)
     ·have e:=Option.some.inj (hrr.symm.trans e)
      have e1:pp.1=y.1:=congrArg (·.2.1) e
      have e2:pp.2.1=y.2:=congrArg (·.2.2.1) e
      exact hA _ so.1 (e1▸e2▸so.2.1)
     ·exact hR' _ _ (AN (p.trans p₄) ea) ⟨p.trans p₄,⟨_,_,_,_,rfl⟩,hlt⟩
    ·rw [e0,List.getElem?_append_right (Nat.le_refl _),Nat.sub_self] at hy
     have hy:=Option.some.inj hy
     subst hy
     exact UI (AN p es₁) hv (AN p er₁) (.inl ⟨pp.2.2,hrr,so.1,so.2.1,fun h g=>QY ((so.2.2 _ _ false nofun g).2 rfl rfl h),fun ρ₃ σ₃ p₄=>q _ (p₃.trans (p.trans p₄))⟩)
   ·refine absurd hI.2.2 (Nat.not_le.mpr ?_)
    rw [List.length_map,List.length_append];exact Nat.lt_add_of_pos_right (Nat.zero_lt_succ _)
 ·refine Bm hI fun p₁ zt hr=>?_
  refine CH zt fun a5 a6 a7 zt=>CH zt fun a8 a9 a10 ze=>?_;subst ze
  rw [Int.toNat_natCast] at hr
  have:=S3 F hr
  subst this
  exact q _ p₁
end
set_option maxHeartbeats 2000000
structure Tabs (σ:AD):Prop where
 a:TabAt 254 σ 154 39 Ee
 b:TabN 2 289 σ 185 29 U4
noncomputable def Kp2 (σ σ':AD):Prop:=∀ (x:Nat) (o:O),x ≠ 1→x ≠ 2→σ[x]?=some o→σ'[x]?=some o
noncomputable def JG:O→Prop
 | .tab _=>False
 | .row _ _ _ _=>False
 | _=>True
theorem TabN.ne (t:TabN k T σ ln col q) (h:σ[x]?=some o) (hd:JG o):x ≠ k:=fun z=>by
 subst z
 cases t with
 | tab e=>rw [e] at h;cases h;exact hd
 | row m e _=>rw [e] at h;cases h;exact hd
theorem TabN.keepB (t:TabN k T σ ln col q) (u:TabN j U σ ln' col' q') (hkj:k ≠ j) (kp:KpB j σ σ'):TabN k T σ' ln col q:=by
 cases t with
 | tab e=>exact .tab (kp _ _ hkj e)
 | row m e e'=>exact .row m (kp _ _ hkj e) (kp _ _ (u.ne e' trivial) e')
theorem TabN.keeps (t:TabN k T σ ln col q) (kp:Kp σ σ'):TabN k T σ' ln col q:=by
 cases t with
 | tab e1=>exact .tab (kp _ _ e1)
 | row m e1 e2=>exact .row m (kp _ _ e1) (kp _ _ e2)
section
variable {d:Nat} {σ σ':AD} {Q:AO} {X:Ac} {m:Int} {hs bs:List En} {ss:List Sh} {n k r S B P epB epP:Nat} {e:En}
theorem Tabs.keeps (t:Tabs σ) (kp:Kp σ σ'):Tabs σ':=⟨t.a.keeps kp,t.b.keeps kp⟩
theorem Tabs.pre (t:Tabs σ) (p:σ <+: σ'):Tabs σ':=t.keeps (At p)
theorem Tabs.ne (t:Tabs σ) (h:σ[x]?=some o) (hd:JG o):x ≠ 1∧x ≠ 2:=⟨t.a.ne h hd,t.b.ne h hd⟩
theorem Tabs.kp2 (t:Tabs σ) (kp:Kp2 σ σ') {x:Nat} (h:σ[x]?=some o) (hd:JG o):σ'[x]?=some o:=kp x o (t.ne h hd).1 (t.ne h hd).2 h
theorem Rk.kp2 (R:Rk C σ r shs es S B P epB epP) (t:Tabs σ) (kp:Kp2 σ σ'):Rk C σ' r shs es S B P epB epP:=by
 refine AF R.at_.ex fun m h1 h2=>?_
 exact ⟨⟨m,t.kp2 kp h1 trivial,t.kp2 kp h2 trivial⟩,t.kp2 kp R.sh trivial,t.kp2 kp R.bx trivial,t.kp2 kp R.pl trivial⟩
theorem Tabs.kpR (t:Tabs σ) (R:Rk C σ r shs es S B P epB epP) (kp:KpR B P σ σ') (t':TabAt 254 σ' 154 39 Ee):Tabs σ':=by
 refine ⟨t',?_⟩
 have nd:∀ {x o},σ[x]?=some o→(∀ ep kvs,o ≠ .dict ep kvs)→x ≠ B∧x ≠ P:=fun {x o} h hd=>⟨fun z=>by rw [z,R.bx] at h;cases h;exact hd _ _ rfl,fun z=>by rw [z,R.pl] at h;cases h;exact hd _ _ rfl⟩
 cases t.b with
 | tab e=>exact .tab (kp _ _ (by decide) (nd e nofun).1 (nd e nofun).2 e)
 | row m e e'=>exact .row m (kp _ _ (by decide) (nd e nofun).1 (nd e nofun).2 e) (kp _ _ (t.a.ne e' trivial) (nd e' nofun).1 (nd e' nofun).2 e')
theorem Tabs.setL (t:Tabs σ) (h:σ[n]?=some (.list vs)):Tabs (σ.set n o):=⟨t.a.set h (fun _ _ _ _=>⟨nofun,nofun⟩) nofun,t.b.set h (fun _ _ _ _=>⟨nofun,nofun⟩) nofun⟩
theorem Tabs.stood (t:Tabs σ) (R:Rk C σ r shs es S B P epB epP):Tabs (stood σ B P ep1 ep2 es'):=by
 have kp:∀ (x:Nat) (o:O),σ[x]?=some o→(∀ ep kvs,o ≠ .dict ep kvs)→(Mine.stood σ B P ep1 ep2 es')[x]?=some o:=fun x o h hd=>
  AI (fun z=>by rw [← z,R.pl] at h;cases h;exact hd _ _ rfl) (AI (fun z=>by rw [← z,R.bx] at h;cases h;exact hd _ _ rfl) h)
 have go:∀ {k:Nat} {T:Addr} {ln col:Int} {q:Str},TabN k T σ ln col q→TabN k T (Mine.stood σ B P ep1 ep2 es') ln col q:=fun t=>by
  cases t with
  | tab h=>exact .tab (kp _ _ h nofun)
  | row m h h'=>exact .row m (kp _ _ h nofun) (kp _ _ h' nofun)
 exact ⟨go t.a,go t.b⟩
theorem Q0 (R:Rk 283 σ r (ss.map (Sh.by m)) (hs.map (En.by m)) S B P epB epP) (hlow:e.name.cps.all (· < 128)=true) (hlen:e.name.length≤1000) (hl:ss.length≤9) (E:Esok ss hs) (hB:B ≠ 0) (hP:P ≠ 0) (hBP:B ≠ P) (hm:0 < m)
  (q0:¬ B1 m e→∀ σ',σ <+: σ'→X 56 σ') (q1:B1 m e→e.name ∈ hs.map (·.name)→∀ σ',σ <+: σ'→X 68 σ')
  (q2:B1 m e→e.name ∉ hs.map (·.name)→FP (OnL e.w e.h e.t) 0 (ss.zip (AS ss.length hs (some e.name))) none→∀ σ',σ <+: σ'→X 80 σ')
  (q3:∀ e' σ' ep1 ep2,B1 m e→e.name ∉ hs.map (·.name)→e'=e.to e'.n e'.u e'.l e'.r→FP (OnL e.w e.h e.t) 0 (ss.zip (AS ss.length hs (some e.name))) (some ((e'.n:Int),e'.u,e'.l,e'.r))→σ <+: σ'→Q (e'.by m).pl (stood σ' B P ep1 ep2 ((hs ++ [e']).map (En.by m)))) :
  callW P13 (d + 6) 44 [.ref r,.str e.name,.int (e.w * m),.int (e.h * m),.bool e.t] σ Q X:=by
 refine VA R hlow hlen (by rw [List.length_map];exact Nat.le_trans hl (by decide)) E.by hB hP hBP (fun g1 g2 g3 hn e₁ σ' ep1 ep2 h1 h2 h3 h4 h5 p F=>?_) q0 (fun g1 g2 g3 hn=>q1 ⟨g1,g2,g3⟩ (by rw [BU] at hn;exact hn)) fun g1 g2 g3 hn F σ' p=>?_
 ·rw [BU] at hn
  refine AU (Lu (t:=e.t) (FG hm g2.1) (FG hm g3.1) (ss.zip (AS ss.length hs (some e.name))) 0) fun dd G=>?_
  have G':=G
  rw [Jl hn] at G'
  have hr:=FB hm F G'
  cases dd with
  | none=>exact HD hr
  | some x=>
   refine AZ (Hu G) fun kk hk _ _=>?_
   have hx:x=((kk:Int),x.2.1,x.2.2.1,x.2.2.2):=Prod.ext hk rfl
   have hr:=Option.some.inj hr
   have e1:e₁=(e.to kk x.2.1 x.2.2.1 x.2.2.2).by m:=congr (congr (congr (congr (congr (congr (congr (congrArg En.mk h1) h2) h3) h4) (Int.ofNat.inj ((congrArg (·.1) hr).trans hk))) (congrArg (·.2.1) hr)) (congrArg (·.2.2.1) hr)) (congrArg (·.2.2.2) hr)
   rw [e1]
   have:=q3 (e.to kk x.2.1 x.2.2.1 x.2.2.2) σ' ep1 ep2 ⟨g1,g2,g3⟩ hn rfl (hx▸G) p
   rw [List.map_append] at this
   exact this
 ·rw [BU] at hn
  refine AU (Lu (t:=e.t) (FG hm g2.1) (FG hm g3.1) (ss.zip (AS ss.length hs (some e.name))) 0) fun dd G=>?_
  have G':=G
  rw [Jl hn] at G'
  have hr:=FB hm F G'
  cases dd with
  | none=>exact q2 ⟨g1,g2,g3⟩ hn G _ p
  | some x=>exact Di hr
theorem P8 (hm:0 < m) (ek:σ[k]?=some (.list ((bs.map (En.by m)).map En.box))) (t:Tabs σ) (hb:bs.length < 64) (q:∀ ts a σ',Srt bs ts→KpB 2 σ σ'→Tabs σ'→σ'[a]?=some (.list ((ts.map (En.by m)).map En.box))→σ.length≤a→Q (.ref a) σ'):callW P13 (d + 1) 13 [.ref k] σ Q X:=by
 refine AL (fn:=H3) rfl rfl ?_
 dsimp only [H3]
 refine ⟨_,.list ek,by rw [List.length_map,List.length_map];exact hb,TabN.w (by decide) t.b fun c σ' kp em e1=>?_⟩
 refine FW (g:=En.box) (fun e=>.tup (e.sz.map .int)) (bs.map (En.by m)) [] (fun e he K hK=>⟨em,hK⟩) ?_
 refine ⟨(bs.map (En.by m)).map En.sz,by rw [List.map_map (f:=En.sz)];rfl,fun r hr=>by refine AF (List.mem_map.mp hr) fun e _ ze1=>?_;subst ze1;exact List.cons_ne_nil _ _,fun p hp ho=>?_⟩
 rw [Nw hm] at ho
 rw [List.length_map,List.length_map] at hp
 have hlen:σ.length≤σ'.length:=Nat.le_of_not_lt fun z=>by
  have h1:=(List.getElem?_eq_some_iff.mp e1).1
  have hx:=List.getElem?_eq_getElem (l:=σ) (i:=σ'.length) z
  have:=(List.getElem?_eq_some_iff.mp (kp _ _ (Nat.ne_of_gt h1) hx)).1
  exact Nat.lt_irrefl _ this
 refine q (p.map fun i=>bs.getD i dfl) _ _ ⟨p,hp,ho,rfl⟩ (fun x o hx h=>AB (kp x o hx h)) ⟨(t.a.keepB t.b (by decide) kp).pre AH,.row c (AB e1) (AB em)⟩ ?_ hlen
 rw [AC]
 refine congrArg (fun l=>some (O.list l)) ?_
 rw [List.map_map,List.map_map,List.map_map]
 refine List.map_congr_left fun i hi=>?_
 have hi':i < bs.length:=List.mem_range.mp (hp.mem_iff.mp hi)
 rw [Function.comp_apply,List.getD_eq_getElem?_getD,List.getD_eq_getElem?_getD,List.getElem?_map,List.getElem?_eq_getElem hi'];rfl
end
set_option maxHeartbeats 2000000
section
variable {d:Nat} {σ σ':AD} {Q:AO} {X:Ac} {m:Int} {hs bs:List En} {ss:List Sh} {n k r S B P epB epP:Nat} {e:En}
theorem NR (e:σ[n]?=some (.list (shs.map Sh.v))) (hl:1≤shs.length∧shs.length≤9) (hs:∀ s ∈ shs,A9 s.W∧A9 s.H) (q:∀ σ' S B P,Kp σ σ'→Rk 283 σ' (σ.length + 1) shs [] S B P 0 0→B ≠ P→σ.length≤S→σ.length≤B→σ.length≤P→Q .none σ') :
  callW P13 (d + 2) 40 [.ref (σ.length + 1),.ref n] (σ ++ [.ns [],.inst 283 σ.length]) Q X:=by
 have ex:shs.map Sh.v=(shs.map Sh.x).map Shx.v:=by rw [List.map_map];rfl
 have h0:0 < σ.length:=by have:=(List.getElem?_eq_some_iff.mp e).1;exact an2 .lt .n0 .v0 (.t .v1 .v0 .e) rfl this
 have em:(σ ++ [O.ns [],O.inst 283 σ.length])[σ.length]?=some (.ns []):=by rw [List.getElem?_append_right (Nat.le_refl _),Nat.sub_self];rfl
 have er:(σ ++ [O.ns [],O.inst 283 σ.length])[σ.length + 1]?=some (.inst 283 σ.length):=by rw [List.getElem?_append_right (Nat.le_add_right _ _),Nat.add_sub_cancel_left];rfl
 have fit:Fit (shs.map Sh.x):=⟨by rw [List.length_map];exact hl,fun x hx=>by
  refine AF (List.mem_map.mp hx) fun s hs' ze1=>?_;subst ze1
  exact ⟨(hs s hs').1,(hs s hs').2,by unfold Sh.x;cases s.b;exact .inr rfl;exact .inl rfl⟩⟩
 rw [ex] at e
 refine Pj (AB e) (fun x hx=>by refine AF (List.mem_map.mp hx) fun s _ ze1=>?_;subst ze1;exact Of) er em (by exact fun z0=>am1 (.q .v0 .n0 (.t .n0 .v0 .e)) rfl z0 h0) (by rw [List.length_map];exact an1 .le .v0 (.n 1000) (.l .v0 (.n 9) .e) rfl hl.2) (fun _ σ' S B P kp eN eS eB eP hBP hS hB hP=>?_) fun z=>absurd fit z
 rw [← ex] at eS
 rw [List.length_append] at hS hB hP
 exact q σ' S B P (fun x o h=>kp x o (Nat.ne_of_lt (List.getElem?_eq_some_iff.mp h).1) (AB h)) ⟨⟨σ.length,kp _ _ (by exact fun z0=>am1 (.q (.a .v0 .n1) .v0 .e) rfl z0) er,eN⟩,eS,eB,eP⟩ hBP (by exact an3 .le .v0 .v1 (.l (.a .v0 .v2) .v1 .e) rfl hS) (by exact an3 .le .v0 .v1 (.l (.a .v0 .v2) .v1 .e) rfl hB) (by exact an3 .le .v0 .v1 (.l (.a .v0 .v2) .v1 .e) rfl hP)
theorem Ta {ks:List Nat} {i j c:Nat} {Q:BR} {ρ:List V} {vs:List V} {a:Nat} {v:V} (h:ks.contains c=true) (hi:ρ[i]?=some (.ref a)) (hj:ρ[j]?=some v) (hv:dfK True v) (ea:σ[a]?=some (.list vs)) (h0:a ≠ 0) (hz:vs.length < 1000000) (q:Q .next ρ (σ.set a (.list (vs ++ [v])))):Mj ks i j Q (.exc c) ρ σ:=by
 show brW (FX (AA i) (AA j) (fun _ _ _ _ _=>False) ρ σ (fun _ σ'=>Q .next ρ σ') noX) (Q (.exc c) ρ σ) (ks.contains c)
 rw [h]
 show M3 (fun v=>isList σ v∧M3 (fun u=>AppK σ (fun _ σ'=>Q .next ρ σ') u v) ρ[j]?) ρ[i]?
 rw [hi,hj]
 refine ⟨⟨a,vs,rfl,ea⟩,?_⟩
 cases v with
 | undef=>exact hv
 | _=>exact CB ea h0 hz q
theorem Hk {ep1 ep2 x:Nat} (R:Rk C σ r shs es S B P epB epP) (h:σ[x]?=some o) (hd:∀ ep kvs,o ≠ .dict ep kvs):(stood σ B P ep1 ep2 es')[x]?=some o:=
 AI (fun z=>by rw [← z,R.pl] at h;cases h;exact hd _ _ rfl) (AI (fun z=>by rw [← z,R.bx] at h;cases h;exact hd _ _ rfl) h)
structure Packed (σ σ':AD) (m:Int) (ss:List Sh) (hs:List En) (lf:List Str) (r l S B P:Nat):Prop where
 kp:Kp2 σ σ'
 tabs:Tabs σ'
 rk:∃ epB epP,Rk 283 σ' r (ss.map (Sh.by m)) (hs.map (En.by m)) S B P epB epP
 left:σ'[l]?=some (.list (lf.map .str))
 kept:Kept ss hs
 bp:B ≠ P
 nS:σ.length≤S
 nB:σ.length≤B
 nP:σ.length≤P
 nl:σ.length≤l
 lS:l ≠ S
theorem Dz (hm:0 < m) (en:σ[n]?=some (.list ((ss.map (Sh.by m)).map Sh.v))) (ek:σ[k]?=some (.list ((bs.map (En.by m)).map En.box))) (t:Tabs σ) (hl:1≤ss.length∧ss.length≤9) (hss:∀ s ∈ ss,A9 (s.W * m)∧A9 (s.H * m)) (hb:bs.length≤60) (hlow:∀ b ∈ bs,b.name.cps.all (· < 128)=true∧b.name.length≤1000)
  (q1:∀ ts c hs lf σ',Srt bs ts→Pk ss m [] [] ts (some c) hs lf→Tabs σ'→X c σ')
  (q2:∀ ts hs lf σ' r l S B P,Srt bs ts→Pk ss m [] [] ts none hs lf→Packed σ σ' m ss hs lf r l S B P→Q (.tup [.ref r,.ref l]) σ'):callW P13 (d + 8) 14 [.ref n,.ref k] σ Q X:=by
 refine AL (fn:=FF) rfl rfl ?_
 dsimp only [FF]
 have h3:2 < σ.length:=by
  cases t.b with
  | tab e=>exact (List.getElem?_eq_some_iff.mp e).1
  | row m e _=>exact (List.getElem?_eq_some_iff.mp e).1
 refine NR (shs:=ss.map (Sh.by m)) en (by rw [List.length_map];exact hl) (fun s hs=>AF (List.mem_map.mp hs) fun y hy ze=>ze▸hss y hy) fun σ₂ S B P kp₂ R₂ hBP hS hB hP=>⟨rfl,?_⟩
 have ek₂:=kp₂ _ _ ek
 have hσ₂:σ.length≤σ₂.length:=Nat.le_trans hS (Nat.le_of_lt (List.getElem?_eq_some_iff.mp R₂.sh).1)
 refine P8 hm (AB ek₂) ((t.keeps kp₂).pre AH) (Nat.lt_of_le_of_lt hb (by decide)) fun ts a σ₃ hts kp₃ t₃ ea ha=>?_
 have hp:=hts.mem
 have t₂:=(t.keeps kp₂).pre (AH (τ:=[O.list []]))
 have hl0:σ₂.length ≠ 0:=Nat.ne_of_gt (Nat.lt_of_lt_of_le (Nat.zero_lt_of_lt h3) hσ₂)
 have el₃:σ₃[σ₂.length]?=some (.list (([]:List Str).map V.str)):=kp₃ _ _ (t₂.b.ne AC trivial) AC
 have kp23:Kp2 (σ₂ ++ [O.list []]) σ₃:=fun x o _ h2 h=>kp₃ x o h2 h
 have kp03:Kp2 σ σ₃:=fun x o _ h2 h=>kp₃ x o h2 (AB (kp₂ x o h))
 have R₃:=(R₂.keeps (At (AH (τ:=[O.list []])))).kp2 t₂ kp23
 have hla:σ₂.length ≠ a:=Nat.ne_of_lt (Nat.lt_of_lt_of_le (by rw [List.length_append];exact Nat.lt_succ_self _) ha)
 have hlS:σ₂.length ≠ S:=Nat.ne_of_gt (List.getElem?_eq_some_iff.mp R₂.sh).1
 rw [List.map_map] at ea
 have keep:∀ {σ':AD},Kp2 σ σ'→∀ {epB epP} {hs:List En},Rk 283 σ' (σ.length + 1) (ss.map (Sh.by m)) (hs.map (En.by m)) S B P epB epP→∀ ep1 ep2 es',Kp2 σ (stood σ' B P ep1 ep2 es'):=fun kp _ _ _ R ep1 ep2 es' x o h1 h2 h=>
  AI (Ne.symm (Nat.ne_of_lt (Nat.lt_of_lt_of_le (List.getElem?_eq_some_iff.mp h).1 hP))) (AI (Ne.symm (Nat.ne_of_lt (Nat.lt_of_lt_of_le (List.getElem?_eq_some_iff.mp h).1 hB))) (kp x o h1 h2 h))
 refine BW (fun i ρ' σ'=>∃ hs lf epB epP,(∃ a4 a5 a6 a7,ρ'=[.ref n,.ref k,.ref (σ.length + 1),.ref σ₂.length,a4,a5,a6,a7,.undef])∧Kp2 σ σ'∧Tabs σ'∧Rk 283 σ' (σ.length + 1) (ss.map (Sh.by m)) (hs.map (En.by m)) S B P epB epP∧σ'[σ₂.length]?=some (.list (lf.map .str))∧Kept ss hs∧hs.length≤i∧lf.length≤i∧σ'[a]?=some (.list (ts.map (En.box ∘ En.by m)))∧∀ x hs' lf',Pk ss m hs lf (ts.drop i) x hs' lf'→Pk ss m [] [] ts x hs' lf')
  ea ⟨[],[],0,0,⟨_,_,_,_,rfl⟩,kp03,t₃,R₃,el₃,⟨⟨List.nodup_nil,CC,CC,by decide⟩,⟨CC,List.Pairwise.nil,CC⟩⟩,Nat.le_refl _,Nat.le_refl _,ea,fun _ _ _ h=>h⟩ (fun i v ρ' σ' R' hv hI hR=>?_) fun ρ' σ' hI=>?_
 ·refine Bd hI fun hs lf epB epP zt1 kp tb R el kt hhi hli ea' hpk=>MB zt1 fun a4 a5 a6 a7 ze2=>?_;subst ze2
  refine AF (List.mem_map_get hv) fun b hbi ze1=>?_;subst ze1
  have hi:=(List.getElem?_eq_some_iff.mp hbi).1
  have hi60:i < 60:=Nat.lt_of_lt_of_le hi (hp.length_eq▸hb)
  have hbm:=hlow b (hp.mem_iff.mp (List.mem_of_getElem? hbi))
  rw [C1 hbi] at hpk
  have nP0:∀ {x:Nat},σ.length≤x→x ≠ 0:=fun h=>Nat.ne_of_gt (Nat.lt_of_lt_of_le (Nat.zero_lt_of_lt h3) h)
  show Lr _ _ _ _
  wtm_at "mine"
  refine Q0 (e:=b) R hbm.1 hbm.2 hl.2 kt.E (nP0 hB) (nP0 hP) hBP hm (fun g σ'' p=>?_) (fun g hn σ'' p=>?_) (fun g hn F σ'' p=>?_) fun e' σ'' ep1 ep2 g hn he F p=>?_
  ·exact (q1 ts _ _ _ _ hts (hpk _ _ _ (.bad g)) (tb.pre p))
  ·exact (q1 ts _ _ _ _ hts (hpk _ _ _ (.dup g hn)) (tb.pre p))
  ·show Mj [80] 3 4 _ (.exc 80) _ _
   refine Ta (a:=σ₂.length) (v:=.str b.name) (by rfl) (by rfl) (by rfl) trivial (AN p el) hl0 (by rw [List.length_map];exact Nat.lt_of_le_of_lt hli (Nat.lt_trans hi60 (by decide))) ?_
   have R'':=R.keeps (At p)
   have ea'':=AI (x:=O.list (lf.map V.str ++ [.str b.name])) hla (AN p ea')
   refine hR _ _ ea'' ⟨hs,lf ++ [b.name],epB,epP,⟨_,_,_,_,rfl⟩,fun x o h1 h2 h=>AI (Ne.symm (Nat.ne_of_lt (Nat.lt_of_lt_of_le (List.getElem?_eq_some_iff.mp h).1 hσ₂))) (AN p (kp x o h1 h2 h)),(tb.pre p).setL (AN p el),R''.setO (AN p el) hlS,?_,kt,Nat.le_succ_of_le hhi,by rw [List.length_append];exact Nat.succ_le_succ hli,ea'',fun x hs' lf' h=>hpk _ _ _ (.out g hn F h)⟩
   rw [Ai (AN p el),List.map_append];rfl
  ·have R'':=R.keeps (At p)
   have ea'':=Hk (es':=(hs ++ [e']).map (En.by m)) (ep1:=ep1) (ep2:=ep2) R'' (AN p ea') nofun
   exact hR _ _ ea'' ⟨hs ++ [e'],lf,ep1,ep2,⟨_,_,_,_,rfl⟩,keep (fun x o h1 h2 h=>AN p (kp x o h1 h2 h)) R'' _ _ _,(tb.pre p).stood R'',R''.stood hBP _ _,Hk R'' (AN p el) nofun,kt.put hm g (GJ hbm.1) hn he F (Nat.lt_of_le_of_lt hhi (Nat.lt_trans hi60 (by decide))),by rw [List.length_append];exact Nat.succ_le_succ hhi,Nat.le_succ_of_le hli,ea'',fun x hs' lf' h=>hpk _ _ _ (.put e' g hn he F h)⟩
 ·refine Bd hI fun hs lf epB epP zt1 kp tb R el kt hhi hli ea' hpk=>MB zt1 fun a4 a5 a6 a7 ze2=>?_;subst ze2
  rw [List.length_map,List.drop_length] at hpk
  exact q2 ts hs lf σ' _ _ S B P hts (hpk _ _ _ .nil) ⟨kp,tb,⟨epB,epP,R⟩,el,kt,hBP,hS,hB,hP,hσ₂,hlS⟩
theorem K9 (en:σ[n]?=some (.list (xs.map Shx.v))) (hs:∀ x ∈ xs,PyData.strOk x.s=true) (hz:xs.length≤1000) (t:Tabs σ) (no:¬ Fit xs) (q:∀ σ',Tabs σ'→X 44 σ'):callW P13 (d + 8) 14 [.ref n,.ref k] σ Q X:=by
 refine AL (fn:=FF) rfl rfl ?_
 dsimp only [FF]
 have h0:0 < σ.length:=Nat.zero_lt_of_lt (List.getElem?_eq_some_iff.mp en).1
 have em:(σ ++ [O.ns [],O.inst 283 σ.length])[σ.length]?=some (.ns []):=by rw [List.getElem?_append_right (Nat.le_refl _),Nat.sub_self];rfl
 have er:(σ ++ [O.ns [],O.inst 283 σ.length])[σ.length + 1]?=some (.inst 283 σ.length):=by rw [List.getElem?_append_right (Nat.le_add_right _ _),Nat.add_sub_cancel_left];rfl
 exact Pj (AB en) hs er em (Nat.ne_of_gt h0) hz (fun f=>absurd f no) fun _=>q _ (t.pre AH)
end
set_option maxHeartbeats 2000000
section
variable {d:Nat} {σ σ':AD} {Q:AO} {X:Ac} {hs bs:List En} {n k:Nat} {e:En}
theorem VO {C:Br} {t:Tx} {ss:List Sx} {ρ:List V} {Q:BR} (I:Nat→List V→AD→Prop) (E:List V→AD→Prop) (M:Nat) (bound:∀ k ρ σ,I k ρ σ→k≤M) (h0:I 0 ρ σ)
  (turn:∀ k ρ σ (R:List V→AD→Prop) (Q:BR),I k ρ σ→(∀ ρ' σ',I (k + 1) ρ' σ'→R ρ' σ')→(∀ ρ' σ',E ρ' σ'→Q .next ρ' σ')→t C ρ σ (fun b σ₁=>brW (Bw ss C ρ σ₁ (EN R Q)) (Q .next ρ σ₁) b) (fun c σ₁=>Q (.exc c) ρ σ₁))
  (fin:∀ ρ σ,E ρ σ→Q .next ρ σ):Em t ss C ρ σ Q:=
 ⟨M + 1,ER I M bound (fun k ρ σ R h hR=>turn k ρ σ R Q h hR fin) (M + 1) 0 ρ σ (Nat.zero_add _) h0⟩
theorem WJ {σ a b c d:AD}:σ <+: σ ++ a ++ b ++ c ++ d:=AH.trans (AH.trans (AH.trans AH))
theorem M7 {σ a b c d e:AD}:σ <+: σ ++ a ++ b ++ c ++ d ++ e:=AH.trans (AH.trans (AH.trans (AH.trans AH)))
theorem Sp (ea:σ[a]?=some (.list [.int x,.int y])):toD σ 6 (.ref a)=some (.list [.int x,.int y]):=DM (m:=5) (l:=[x,y]) (g:=V.int) ea fun _ _=>rfl
theorem T9 (ea:σ[a]?=some (.list [.int x,.int y])) (eb:σ[b]?=some (.list [.int x',.int y'])) (q:x=x'∧y=y'→K false) (q':¬ (x=x'∧y=y')→K true):CmpK σ K .NotEq (.ref a) (.ref b):=by
 refine .ne (Sp ea) (Sp eb) rfl rfl ?_
 have e:PyData.eqv (.list [.int x,.int y]) (.list [.int x',.int y'])=(decide (x=x') && decide (y=y')):=by
  show (decide (x=x') && (decide (y=y') && true))=_
  rw [Bool.and_true]
 rw [e]
 by_cases h1:x=x'
 ·by_cases h2:y=y'
  ·rw [decide_eq_true h1,decide_eq_true h2];exact q ⟨h1,h2⟩
  ·rw [decide_eq_false h2,Bool.and_false];exact q' fun z=>h2 z.2
 ·rw [decide_eq_false h1,Bool.false_and];exact q' fun z=>h1 z.1
theorem Sq {a b:En}:Ab a.sz b.sz=true ↔ (b.h < a.h∨(a.h=b.h∧b.w < a.w)):=by
 show (if -a.h=-b.h then (if -a.w=-b.w then false else decide (-a.w < -b.w)) else decide (-a.h < -b.h))=true ↔ _
 by_cases h1:-a.h=-b.h
 ·rw [if_pos h1]
  by_cases h2:-a.w=-b.w
  ·rw [if_pos h2];exact ⟨QY,fun h=>by exact Or.elim h (fun z0=>(aj2 (.t .v0 .v1 (.p (.g .v1) (.g .v0) .e)) rfl z0 h1).elim) (fun z0=>(aj2 (.t .v0 .v1 (.p (.g .v1) (.g .v0) .e)) rfl z0.2 h2).elim)⟩
  ·rw [if_neg h2,decide_eq_true_iff]
   have e:=Int.neg_inj.mp h1
   exact ⟨fun h=>.inr ⟨e,Int.lt_of_neg_lt_neg h⟩,fun h=>h.elim (fun h=>absurd (e▸h) (Int.lt_irrefl _)) fun h=>Int.neg_lt_neg h.2⟩
 ·rw [if_neg h1,decide_eq_true_iff]
  exact ⟨fun h=>.inl (Int.lt_of_neg_lt_neg h),fun h=>h.elim Int.neg_lt_neg fun h=>absurd (congrArg _ h.1) h1⟩
theorem PM {a b:En} (h:¬ (b.h < a.h∨(a.h=b.h∧b.w < a.w))):Ab a.sz b.sz=false:=by
 cases e:Ab a.sz b.sz with
 | false=>rfl
 | true=>exact absurd (Sq.mp e) h
theorem PG (h:bs[i]?=some b):(bs.map En.sz).getD i []=b.sz:=by rw [List.getD_eq_getElem?_getD,List.getElem?_map,h];rfl
theorem NU (ek:σ[k]?=some (.list (bs.map En.box))) (hb:bs.length≤60) (q:∀ ts a σ',Srt bs ts→σ <+: σ'→σ'[a]?=some (.list (ts.map En.box))→σ.length≤a→Q (.ref a) σ'):callW P13 (d + 1) 32 [.ref k] σ Q X:=by
 refine AL (fn:=IX) rfl rfl ?_
 dsimp only [IX]
 refine BW (fun i ρ' σ'=>σ <+: σ'∧∃ (p:List Nat) (fo:Nat),(∃ a2 a3 a4,ρ'=[.ref k,.ref fo,a2,a3,a4,.undef])∧p.Perm (List.range i)∧p.Pairwise (BJ (bs.map En.sz))∧σ'[fo]?=some (.list ((p.map fun i=>bs.getD i dfl).map En.box))∧σ.length≤fo) (AB ek) ⟨AH,[],_,⟨_,_,_,rfl⟩,List.Perm.refl _,List.Pairwise.nil,AC,Nat.le_refl _⟩ (fun i v ρ' σ' R' hv hI hR=>?_) fun ρ' σ' hI=>?_
 ·refine Gm hI fun p₁ p fo zt1 hp ho ef hfo=>CH zt1 fun a2 a3 a4 ze2=>?_;subst ze2
  refine AF (List.mem_map_get hv) fun b hbi ze1=>?_;subst ze1
  have hi:=(List.getElem?_eq_some_iff.mp hbi).1
  have hpl:p.length=i:=by rw [hp.length_eq,List.length_range]
  have hi60:i < 60:=Nat.lt_of_lt_of_le hi hb
  wtm_at "mine"
  rw [List.length_map,List.length_map]
  refine VO (fun j ρ' σ''=>σ' <+: σ''∧∃ a a4,a + j=i∧ρ'=[.ref k,.ref fo,b.box,.int (a:Nat),a4,.undef]∧∀ x ∈ p.drop a,Ab ((bs.map En.sz).getD i []) ((bs.map En.sz).getD x [])=true)
   (fun ρ' σ''=>σ' <+: σ''∧∃ a a4,a≤i∧ρ'=[.ref k,.ref fo,b.box,.int (a:Nat),a4,.undef]∧(∀ x ∈ p.drop a,Ab ((bs.map En.sz).getD i []) ((bs.map En.sz).getD x [])=true)∧(a=0∨∃ x,p[a - 1]?=some x∧Ab ((bs.map En.sz).getD i []) ((bs.map En.sz).getD x [])=false))
   i (fun j _ _ h=>by refine DY h fun _ a _ h _=>?_;exact h▸Nat.le_add_left _ _) ⟨List.prefix_refl _,i,_,rfl,by rw [hpl];rfl,by rw [← hpl,List.drop_length];exact CC⟩ (fun j ρ' σ'' R Qw hI hR' hE=>?_) fun ρ' σ'' hE=>?_
  ·refine B7 hI fun p₂ a a4 ha ze1 hd=>?_;subst ze1
   have ha':a≤i:=ha▸Nat.le_add_right _ _
   have e1:=PG hbi
   have ef':=AN p₂ ef
   refine Am (fun h=>?_) fun h=>?_
   ·have ha0:0 < a:=Int.ofNat_lt.mp h
    have hx9:a - 1 < p.length:=hpl▸Nat.lt_of_lt_of_le (Nat.sub_lt ha0 Nat.one_pos) ha'
    have hx:=List.getElem?_eq_getElem hx9
    generalize p[a - 1]=x at hx
    have hxi:x < i:=List.mem_range.mp (hp.mem_iff.mp (List.mem_of_getElem? hx))
    have hb9:=Nat.lt_trans hxi hi
    have hbx:=List.getElem?_eq_getElem hb9
    generalize bs[x]=y at hbx
    have e2:=PG hbx
    have hv:((p.map fun i=>bs.getD i dfl).map En.box)[((a:Int) - 1).toNat]?=some y.box:=by
     rw [show ((a:Int) - 1).toNat=a - 1 from Int.toNat_sub a 1,List.getElem?_map,List.getElem?_map,hx]
     show some (bs.getD x dfl).box=_
     rw [List.getD_eq_getElem?_getD,hbx];rfl
    have h1:0≤(a:Int) - 1:=Int.sub_nonneg_of_le h
    have ex:∀ τ a4,σ'' <+: τ→¬ (y.h < b.h∨(b.h=y.h∧y.w < b.w))→Qw .next [.ref k,.ref fo,b.box,.int (a:Nat),a4,.undef] τ:=fun τ a4 pp hn=>hE _ _ ⟨p₂.trans pp,a,a4,ha',rfl,hd,.inr ⟨x,hx,by rw [e1,e2];exact PM hn⟩⟩
    refine Aq (AB ef') h1 hv ?_
    refine Aq (AB ef') h1 hv ?_
    have pp:=(AH (σ:=σ'') (τ:=[O.list [.int b.h,.int b.w]])).trans (AH (τ:=[O.list [.int y.h,.int y.w]]))
    refine T9 (x:=b.h) (y:=b.w) (x':=y.h) (y':=y.w) (AB AC) AC (fun z=>?_) fun z=>?_
    ·exact ex _ _ pp (by exact fun z0=>Or.elim z0 (fun z1=>aj2 (.t .v0 .v1 (.q .v1 .v0 .e)) rfl z1 z.1) (fun z1=>aj2 (.t .v0 .v1 (.q .v1 .v0 .e)) rfl z1.2 z.2))
    ·refine Aq (AN pp ef') h1 hv ?_
     have go:(y.h < b.h∨(b.h=y.h∧y.w < b.w))→R [.ref k,.ref fo,b.box,.int ((a:Int) - 1),y.box,.undef] (σ'' ++ [O.list [.int b.h,.int b.w]] ++ [O.list [.int y.h,.int y.w]]):=fun hl=>hR' _ _ ⟨p₂.trans pp,a - 1,_,by rw [← ha,Nat.add_comm j 1,← Nat.add_assoc,Nat.sub_add_cancel ha0],by rw [show ((a - 1:Nat):Int)=(a:Int) - 1 from Int.ofNat_sub ha0],fun w hw=>by
      rw [C1 hx,Nat.sub_add_cancel ha0] at hw
      refine (List.mem_cons.mp hw).elim (fun z=>?_) (hd w)
      rw [z,e1,e2];exact Sq.mpr hl⟩
     refine Am (fun g=>?_) fun g=>?_
     ·exact ex _ _ pp (by exact fun z0=>Or.elim z0 (fun z1=>aj2 (.t .v0 .v1 (.t .v1 .v0 .e)) rfl z1 g) (fun z1=>aj2 (.p .v0 .v1 (.t .v0 .v1 .e)) rfl z1.1 g))
     ·refine Am (fun g2=>?_) fun g2=>?_
      ·refine Am (fun g3=>?_) fun g3=>?_
       ·exact ex _ _ pp (by exact fun z0=>Or.elim z0 (fun z1=>aj2 (.t .v0 .v1 (.q .v1 .v0 .e)) rfl z1 g2) (fun z1=>aj2 (.t .v0 .v1 (.t .v1 .v0 .e)) rfl z1.2 g3))
       ·exact go (by exact Classical.or_iff_not_imp_left.mpr fun z0=>⟨Int.le_antisymm (ai2 .le .v0 .v1 (.o .v1 .v0 .e) rfl z0) (ai2 .le .v0 .v1 (.p .v1 .v0 .e) rfl g2),Or.elim (Classical.not_and_iff_not_or_not.mp z) (fun z1=>Or.elim (Int.lt_or_gt_of_ne z1) (fun z2=>ai4 .lt .v0 .v1 (.o .v1 .v0 (.t .v2 .v3 (.p .v2 .v3 .e))) rfl g3 z2 g2) (fun z2=>ai4 .lt .v0 .v1 (.o .v1 .v0 (.t .v2 .v3 (.o .v2 .v3 .e))) rfl g3 z2 z0)) (fun z1=>Or.elim (Int.lt_or_gt_of_ne z1) (fun z2=>ai2 .lt .v0 .v1 (.w 2 (.o .v1 .v0 (.t .v1 .v0 .e))) rfl g3 z2) (fun z2=>ai2 .lt .v0 .v1 (.t .v0 .v1 .e) rfl z2))⟩)
      ·exact go (by exact Classical.or_iff_not_imp_left.mpr fun z0=>⟨Int.le_antisymm (ai2 .le .v0 .v1 (.o .v1 .v0 .e) rfl z0) (ai2 .le .v0 .v1 (.o .v1 .v0 .e) rfl g),Or.elim (Int.lt_or_gt_of_ne g2) (fun z1=>(aj2 (.t .v0 .v1 (.o .v0 .v1 .e)) rfl z1 g).elim) (fun z1=>(aj2 (.t .v0 .v1 (.o .v0 .v1 .e)) rfl z1 z0).elim)⟩)
   ·exact hE _ _ ⟨p₂,a,a4,ha',rfl,hd,.inl (Nat.le_zero.mp (Nat.le_of_not_lt fun z=>h (Int.ofNat_lt.mpr z)))⟩
  ·refine Cd hE fun p₂ a a4 ha ze1 hd hz=>?_;subst ze1
   have en:=Tq hp ho hd hz
   have ef':=AN p₂ ef
   have hl:((p.map fun i=>bs.getD i dfl).map En.box).length=i:=by rw [List.length_map,List.length_map,hpl]
   have hmin:min (a:Int).toNat ((p.map fun i=>bs.getD i dfl).map En.box).length=a:=by rw [hl,Int.toNat_natCast];exact Nat.min_eq_left ha
   have a6:(a:Int)≤1000000:=Int.le_trans (Int.ofNat_le.mpr ha) (Int.le_trans (Int.ofNat_le.mpr (Nat.le_of_lt hi60)) (by decide))
   refine SliceK.list ef' .no (B9 (Int.natCast_nonneg a) a6) ?_
   rw [hmin]
   refine BinK.addL (AB AC) AC (Nat.le_trans (Nat.add_le_add_right (Cx (b:=a)) 1) (by rw [hl];exact Nat.le_trans (Nat.succ_le_of_lt hi60) (by decide))) ?_
   refine SliceK.list (AB (AB (AB ef'))) (B9 (Int.natCast_nonneg a) a6) .no ?_
   rw [hmin]
   refine BinK.addL (AB AC) AC (Nat.le_trans (Nat.add_le_add (by rw [List.length_append];exact Nat.add_le_add_right (Cx (b:=a)) 1) Cx) (by rw [hl];exact Nat.le_trans (Nat.add_le_add (Nat.succ_le_of_lt hi60) (Nat.le_of_lt hi60)) (by decide))) ?_
   refine hR _ _ (AN (p₁.trans (p₂.trans M7)) ek) ⟨p₁.trans (p₂.trans M7),p.take a ++ i :: p.drop a,_,⟨_,_,_,rfl⟩,en.1,en.2,?_,(p₁.trans (p₂.trans WJ)).length_le⟩
   rw [AC]
   refine congrArg (fun l=>some (O.list l)) ?_
   have ecut:∀ {l:List V},l.length=i→cut l 0 a=l.take a∧cut l a l.length=l.drop a:=fun {l} _=>⟨rfl,by unfold cut;rw [List.take_length]⟩
   rw [(ecut hl).1,(ecut hl).2,List.map_append,List.map_append,List.map_cons,List.map_cons,← List.map_take,← List.map_take,← List.map_drop,← List.map_drop,List.append_assoc,List.getD_eq_getElem?_getD,hbi];rfl
 ·refine Gm hI fun p₁ p fo zt1 hp ho ef hfo=>CH zt1 fun a2 a3 a4 ze2=>?_;subst ze2
  rw [List.length_map] at hp
  exact q _ _ _ ⟨p,hp,ho,rfl⟩ p₁ ef hfo
end
set_option maxHeartbeats 2000000
structure LD (z m:Int) (K:Nat) (ss:List Sh):Prop where
 hm:1≤m∧m≤1000000
 zm:∀ y,1≤y∧y≤z→A9 (y * m)
 shm:∀ s ∈ ss,A9 (s.W * m)∧A9 (s.H * m)
 len:1≤ss.length∧ss.length≤9
 sh:∀ s ∈ ss,ShB 1000 1000 s
 hK:∀ s ∈ ss,shP s≤K
 big:EK 14 ss.length K * 14≤16000000
structure GS (z m:Int) (ss:List Sh) (r n S B P:Nat) (hs:List En) (k:Nat) (σ:AD):Prop where
 rk:∃ epB epP,Rk 283 σ r (ss.map (Sh.by m)) (hs.map (En.by m)) S B P epB epP
 tabs:Tabs σ
 sh:σ[n]?=some (.list (ss.map Sh.v))
 held:σ[k]?=some (.list (hs.map En.one))
 kept:Kept ss hs
 good:∀ e ∈ hs,GoodName e.name
 sz:∀ e ∈ hs,(1≤e.w∧e.w≤z)∧(1≤e.h∧e.h≤z)
 len:hs.length≤14
section
variable {d:Nat} {σ σ':AD} {Q:AO} {X:Ac} {z m:Int} {K:Nat} {hs bs:List En} {ss:List Sh} {n k r S B P epB epP:Nat} {e:En}
theorem Gx (h:N≤N') (h':L≤L'):EK N L K * N≤EK N' L' K * N':=by
 unfold EK
 exact Nat.mul_le_mul (Nat.add_le_add (Nat.mul_le_mul (Nat.mul_le_mul h (Nat.mul_le_mul_right K h')) (Nat.succ_le_succ h)) h) h
theorem LD.near (hm:1≤m∧m≤200000) (hl1:1≤ss.length) (hl9:ss.length≤9) (hss:∀ s ∈ ss,ShB 5 4 s):LD 3 m 5 ss where
 hm:=⟨hm.1,Int.le_trans hm.2 (by decide)⟩
 zm:=fun y hy=>Hc ⟨hy.1,Int.le_trans hy.2 (by decide)⟩ hm
 shm:=fun s hs=>⟨Hc (hss s hs).w hm,Hc ⟨(hss s hs).h.1,Int.le_trans (hss s hs).h.2 (by decide)⟩ hm⟩
 len:=⟨hl1,hl9⟩
 sh:=fun s hs=>⟨⟨(hss s hs).w.1,Int.le_trans (hss s hs).w.2 (by decide)⟩,(hss s hs).h.1,Int.le_trans (hss s hs).h.2 (by decide)⟩
 hK:=fun s hs=>by
  unfold shP
  split
  ·exact Int.le_trans (hss s hs).h.2 (by decide)
  ·exact (hss s hs).w.2
 big:=Nat.le_trans (Gx (Nat.le_refl _) hl9) (by decide)
theorem LD.far (hl1:1≤ss.length) (hl3:ss.length≤3) (hss:∀ s ∈ ss,ShB 1000 1000 s):LD 400 1 1000 ss where
 hm:=by decide
 zm:=fun y hy=>by rw [Int.mul_one];exact ⟨hy.1,Int.le_trans hy.2 (by decide)⟩
 shm:=fun s hs=>by rw [Int.mul_one,Int.mul_one];exact ⟨⟨(hss s hs).w.1,Int.le_trans (hss s hs).w.2 (by decide)⟩,(hss s hs).h.1,Int.le_trans (hss s hs).h.2 (by decide)⟩
 len:=⟨hl1,Nat.le_trans hl3 (by decide)⟩
 sh:=hss
 hK:=fun s hs=>by
  unfold shP
  split
  ·exact (hss s hs).h.2
  ·exact (hss s hs).w.2
 big:=Nat.le_trans (Gx (Nat.le_refl _) hl3) (by decide)
theorem GS.pre (G:GS z m ss r n S B P hs k σ) (p:σ <+: σ'):GS z m ss r n S B P hs k σ':=⟨CL G.rk fun x y h=>⟨x,y,h.keeps (At p)⟩,G.tabs.pre p,AN p G.sh,AN p G.held,G.kept,G.good,G.sz,G.len⟩
theorem MS {a:Str} {xs:List Str}:((xs.map PyData.str).any fun y=>PyData.eqv y (.str a))=decide (a ∈ xs):=by
 rw [List.any_map]
 refine Bool.eq_iff_iff.mpr ⟨fun h=>decide_eq_true ?_,fun h=>?_⟩
 ·refine AF (List.any_eq_true.mp h) fun x hx e=>?_
  exact (beq_iff_eq.mp (show (x == a)=true from e))▸hx
 ·exact List.any_eq_true.mpr ⟨a,of_decide_eq_true h,show (a == a)=true from beq_self_eq_true a⟩
theorem BI {xs:List Str} (e:σ[n]?=some (.list (xs.map .str))):toD σ 6 (.ref n)=some (.list (xs.map PyData.str)):=DM (m:=5) e fun _ _=>rfl
theorem OV {K:Bool→Prop} {a:Str} {xs:List Str} (e:σ[n]?=some (.list (xs.map .str))) (ha:PyData.strOk a=true) (hx:∀ x ∈ xs,PyData.strOk x=true) (q:K (decide (a ∈ xs))):CmpK σ K .In (.str a) (.ref n):=
 .inL (x:=.str a) rfl (BI e) ha (DJ _ hx) (by rw [MS];exact q)
theorem Rh {K:Bool→Prop} {a:Str} {xs:List Str} (e:σ[n]?=some (.list (xs.map .str))) (ha:PyData.strOk a=true) (hx:∀ x ∈ xs,PyData.strOk x=true) (q:K (!decide (a ∈ xs))):CmpK σ K .NotIn (.str a) (.ref n):=
 .ninL (x:=.str a) rfl (BI e) ha (DJ _ hx) (by rw [MS];exact q)
theorem GQ (R:Rk 283 σ r (ss.map (Sh.by m)) (hs.map (En.by m)) S B P epB epP) (E:Esok ss hs) (t:Tabs σ) (q:∀ (xs:List Str) mN σ',KpB 1 σ σ'→Tabs σ'→xs.Perm (hs.map (·.name))→σ'[mN]?=some (.list (xs.map .str))→Q (.ref mN) σ'):callW P13 (d + 2) 51 [.ref r] σ Q X:=by
 refine RX R E.by t.a fun p mN σ₁ kp t₁ hp ho eN=>?_
 refine q (p.map fun i=>(hs.map (·.name)).getD i "") mN σ₁ kp ⟨t₁,t.b.keepB t.a (by decide) kp⟩ ?_ ?_
 ·rw [List.length_map] at hp
  refine (hp.map _).trans (List.Perm.of_eq ?_)
  apply List.ext_getElem?
  intro i
  rw [List.getElem?_map]
  by_cases hi:i < hs.length
  ·rw [List.getElem?_range hi,Option.map_some,List.getD_eq_getElem?_getD,List.getElem?_map,List.getElem?_eq_getElem hi];rfl
  ·rw [List.getElem?_eq_none (by rw [List.length_range];exact Nat.not_lt.mp hi),List.getElem?_eq_none (by rw [List.length_map];exact Nat.not_lt.mp hi)];rfl
 ·rw [eN,BU,List.map_map];rfl
theorem MA (R:Rk 283 σ r (ss.map (Sh.by m)) (hs.map (En.by m)) S B P epB epP) (E:Esok ss hs) (he:e ∈ hs) (hm:1≤m∧m≤1000000) (q:Q e.pl σ):callW P13 (d + 3) 36 [.ref r,.str e.name,.int m] σ Q X:=by
 refine AL (fn:=Iz) rfl rfl ?_
 dsimp only [Iz]
 wtm_at "mine"
 refine H4 (e:=e.by m) R (by rw [BU];exact E.nodup) (List.mem_map.mpr ⟨e,he,rfl⟩) ?_
 dsimp only [En.pl,En.by]
 wtm_at "mine"
 have hm0:m ≠ 0:=Int.ne_of_gt (Int.lt_of_lt_of_le (by decide) hm.1)
 rw [Int.mul_ediv_cancel _ hm0,Int.mul_ediv_cancel _ hm0]
 exact q
theorem KZ (hg:∀ e ∈ hs,e.name ≠ ""):∀ L:Int,B4 L k hs=((An hs (some "") k).foldl (fun a o=>a - o.w * o.h) L):=by
 induction hs with
 | nil=>exact fun L=>rfl
 | cons e hs ih=>
  intro L
  have hk:Bu (some "") e.name=true:=DV.mpr (hg e List.mem_cons_self)
  have ih:=ih fun x hx=>hg x (List.mem_cons_of_mem _ hx)
  show B4 (if e.n=k then L - e.w * e.h else L) k hs=_
  unfold An at ih ⊢
  by_cases h:e.n=k
  ·rw [if_pos h,List.filter_cons_of_pos (by rw [hk,decide_eq_true h];rfl),List.map_cons,List.foldl_cons,ih]
   congr 1
   unfold En.ot
   cases e.r
   ·rfl
   ·show L - e.w * e.h=L - e.h * e.w;rw [Int.mul_comm]
  ·rw [if_neg h,List.filter_cons_of_neg (by rw [decide_eq_false h];exact Bool.false_ne_true),ih]
theorem Lx (h:GoodName x):x ≠ "":=fun e=>by have:=h.good;rw [e] at this;exact QY this
theorem QP (G:GS z m ss r n S B P hs k σ) (c0:LD z m K ss) (q:∀ a5 a6 a7 σ',σ <+: σ'→Pq .next [.ref r,.ref n,.ref k,.int m,.bool far,a5,a6,a7,.undef,.undef,.undef,.undef] σ') :
  Bw (DI.body.take 1) (callW P13 (d + 7)) [.ref r,.ref n,.ref k,.int m,.bool far,.undef,.undef,.undef,.undef,.undef,.undef,.undef] σ Pq:=by
 refine CL G.rk fun epB epP R=>?_
 have hm:=c0.hm
 dsimp only [DI,List.take]
 wtm_at "mine"
 refine PrimK.lenL G.sh ?_
 rw [List.length_map]
 refine E7 (fun i ρ' σ'=>σ <+: σ'∧∃ a5 a6 a7,ρ'=[.ref r,.ref n,.ref k,.int m,.bool far,a5,a6,a7,.undef,.undef,.undef,.undef]) ⟨Int.le_trans (by decide) (Int.natCast_nonneg _),Int.le_trans (Int.ofNat_le.mpr c0.len.2) (by decide)⟩ ⟨List.prefix_refl _,_,_,_,rfl⟩ (fun i ρ' σ' R' hi hI hR=>?_) fun ρ' σ' hI=>?_
 ·refine MG hI fun p a5 a6 a7 ze1=>?_;subst ze1
  have i1:i < ss.length:=Int.ofNat_lt.mp hi
  have hsh:=List.getElem?_eq_getElem i1
  have hv:(ss.map Sh.v)[(i:Int).toNat]?=some ss[i].v:=by rw [Int.toNat_natCast,List.getElem?_map,hsh];rfl
  generalize ss[i]=sh at *
  have ok:=c0.sh _ (List.mem_of_getElem? hsh)
  have ow:=ok.w
  have oh:=ok.h
  refine Aq (AN p G.sh) (Int.natCast_nonneg i) hv ?_
  dsimp only [Sh.v]
  refine Aq (AN p G.sh) (Int.natCast_nonneg i) hv ?_
  dsimp only [Sh.v]
  wtm_at "mine"
  refine Ju (x:="") (AN p G.held) (Nat.le_trans G.len (by decide)) G.kept.E.str (by decide +kernel) ?_
  refine BW (fun j ρ' σ''=>σ''=σ' ++ [O.list ((An hs (some "") i).map Ot.v)]∧∃ a7,ρ'=[.ref r,.ref n,.ref k,.int m,.bool far,.int i,.int (((An hs (some "") i).take j).foldl (fun a o=>a - o.w * o.h) (sh.W * sh.H)),a7,.undef,.undef,.undef,.undef]) AC ⟨rfl,_,rfl⟩ (fun j v ρ' σ'' R'' hv' hI hR'=>?_) fun ρ' σ'' hI=>?_
  ·refine MC hI fun ze1 a7 ze2=>?_;subst ze1;subst ze2
   refine AF (List.mem_map_get hv') fun o ho ze1=>?_;subst ze1
   dsimp only [Ot.v]
   have hmem:=List.mem_of_getElem? ho
   have hw:-1000000000000000≤o.w∧o.w≤1000000000000000:=by
    refine AF (List.mem_map.mp hmem) fun e he ze=>?_
    have hz:=G.sz e (List.mem_filter.mp he).1
    have z1:=c0.zm _ hz.1
    have z2:=c0.zm _ hz.2
    have b:∀ {y:Int},1≤y∧y≤z→y * m≤1000000→y≤1000000:=fun {y} h h'=>Int.le_trans (by have:=Int.mul_le_mul_of_nonneg_left hm.1 (Int.le_trans (by decide) h.1);rwa [Int.mul_one] at this) h'
    have w1:=b hz.1 z1.2
    have w2:=b hz.2 z2.2
    rw [← ze]
    unfold En.ot
    split
    ·exact ⟨Int.le_trans (by decide) hz.2.1,Int.le_trans w2 (by decide)⟩
    ·exact ⟨Int.le_trans (by decide) hz.1.1,Int.le_trans w1 (by decide)⟩
   refine S0 (.inl hw) ?_
   exact hR' _ _ AC ⟨rfl,_,by rw [Bh ho,List.foldl_append];rfl⟩
  ·refine MC hI fun ze1 a7 ze2=>?_;subst ze1;subst ze2
   rw [List.length_map,List.take_length,← KZ fun e he=>Lx (G.good e he)]
   have R₁:=R.keeps (At (p.trans (AH (τ:=[O.list ((An hs (some "") i).map Ot.v)]))))
   wtm_at "mine"
   refine TB (sh:=sh.by m) R₁ G.kept.E.by (by rw [List.getElem?_map,hsh];rfl) (c0.shm _ (List.mem_of_getElem? hsh)).1 (fun e he=>?_) ?_
   ·refine AF (List.mem_map.mp he) fun y hy ze1=>?_;subst ze1
    exact c0.zm _ (G.sz y hy).1
   have ef:B4 ((sh.by m).W * (sh.by m).H) i (hs.map (En.by m))=B4 (sh.W * sh.H) i hs * m * m:=by
    rw [← FZ]
    congr 1
    show sh.W * m * (sh.H * m)=sh.W * sh.H * m * m
    rw [Int.mul_assoc sh.W m,Int.mul_left_comm m sh.H m,← Int.mul_assoc,← Int.mul_assoc]
   rw [ef]
   wtm_at "mine"
   refine FO (fun h=>absurd rfl h) fun _=>?_
   exact hR _ _ ⟨p.trans AH,_,_,_,rfl⟩
 ·refine MG hI fun p a5 a6 a7 ze1=>?_;subst ze1
  exact q _ _ _ _ p
end
set_option maxHeartbeats 2000000
section
variable {d:Nat} {σ σ':AD} {Q:AO} {X:Ac} {z m:Int} {K:Nat} {hs bs:List En} {ss:List Sh} {n k r S B P epB epP:Nat} {e:En}
theorem N2 {r:Option Pl4} {hs1:List En} (kt:Kept ss (e :: hs1)) (F:FP (OnL e.w e.h e.t) 0 (ss.zip (AS ss.length hs1 (some e.name))) r):r ≠ none:=fun z=>by
 subst z
 refine (DA F).elim (fun h=>?_) fun h=>AZ h fun _ e1 _ _=>Di e1
 refine h.2 (e.qp ss) ?_
 rw [DD]
 have o:=kt.s.ok_own kt.E.nodup List.mem_cons_self
 exact ⟨o.ins,fun x hx=>o.clear x (List.mem_cons_of_mem _ hx)⟩
theorem Kept.tail (kt:Kept ss (e :: hs1)):Kept ss hs1∧e.name ∉ hs1.map (·.name):=
 have nd:=List.nodup_cons.mp (show (e.name :: hs1.map (·.name)).Nodup from kt.E.nodup)
 ⟨⟨⟨nd.2,fun x hx=>kt.E.num x (List.mem_cons_of_mem _ hx),fun x hx=>kt.E.str x (List.mem_cons_of_mem _ hx),Nat.lt_of_succ_lt kt.E.len⟩,⟨fun x hx=>kt.s.ins x (List.mem_cons_of_mem _ hx),(List.pairwise_cons.mp kt.s.apart).2,fun x hx=>kt.s.sz x (List.mem_cons_of_mem _ hx)⟩⟩,nd.1⟩
theorem Jq:σ <+: σ ++ a ++ b ++ c:=AH.trans (AH.trans AH)
theorem SI:(e.by m).ot.v=.tup [.int (e.ot.l * m),.int (e.ot.u * m),.int (e.ot.w * m),.int (e.ot.h * m)]:=by rw [En.by_ot];rfl
theorem Cl (R:Rk C σ r shs es S B P epB epP) (h:σ[x]?=some (.list vs)):x ≠ B∧x ≠ P:=⟨(fun z=>by rw [z,R.bx] at h;cases h),fun z=>by rw [z,R.pl] at h;cases h⟩
theorem KpR.stood (_:Rk C σ r shs es S B P epB epP):KpR B P σ (stood σ B P ep1 ep2 es'):=fun _ _ _ h2 h3 h=>AI (Ne.symm h3) (AI (Ne.symm h2) h)
theorem PO {far:Bool} {Pq:BR} {a5 a6 a7:V} (G:GS z m ss r n S B P hs k σ) (c0:LD z m K ss) (hB:B ≠ 0) (hP:P ≠ 0) (hBP:B ≠ P)
  (q:∀ hs' k' a7 a8 a9 a10 σ',GS z m ss r n S B P hs' k' σ'→KpR B P σ σ'→Pq .next [.ref r,.ref n,.ref k',.int m,.bool far,a5,a6,a7,a8,a9,a10,.undef] σ') :
  Bw ((DI.body.drop 1).take 1) (callW P13 (d + 7)) [.ref r,.ref n,.ref k,.int m,.bool far,a5,a6,a7,.undef,.undef,.undef,.undef] σ Pq:=by
 have hm:=c0.hm
 have hm0:0 < m:=Int.lt_of_lt_of_le (by decide) hm.1
 dsimp only [DI,List.take,List.drop]
 refine SliceK.list G.held .no (B9 (k:=1) (by decide) (by decide)) ?_
 rw [L5]
 cases hs with
 | nil=>
  refine BW (fun i ρ' σ'=>i=0∧σ'=σ ++ [.list []]∧ρ'=[.ref r,.ref n,.ref k,.int m,.bool far,a5,a6,a7,.undef,.undef,.undef,.undef]) AC ⟨rfl,rfl,rfl⟩ (fun i v ρ' σ' R' hv hI hR=>?_) fun ρ' σ' hI=>?_
  ·exact absurd hv.symm nofun
  ·obtain ⟨_,rfl,rfl⟩:=hI
   exact q _ _ _ _ _ _ _ (G.pre AH) (.pre AH)
 | cons e hs1=>
  have ecut:cut (e :: hs1) 0 (min (1:Int).toNat ((e :: hs1).map En.one).length)=[e]:=by
   have:min (1:Int).toNat ((e :: hs1).map En.one).length=1:=by rw [List.length_map];exact Nat.min_eq_left (Nat.succ_le_succ (Nat.zero_le _))
   rw [this];rfl
  rw [ecut]
  refine BW (fun i ρ' σ'=>(i=0∧σ'=σ ++ [.list [e.one]]∧ρ'=[.ref r,.ref n,.ref k,.int m,.bool far,a5,a6,a7,.undef,.undef,.undef,.undef])∨(i=1∧∃ hs' k' a7 a8 a9 a10,GS z m ss r n S B P hs' k' σ'∧KpR B P σ σ'∧ρ'=[.ref r,.ref n,.ref k',.int m,.bool far,a5,a6,a7,a8,a9,a10,.undef])) AC (.inl ⟨rfl,rfl,rfl⟩) (fun i v ρ' σ' R' hv hI hR=>?_) fun ρ' σ' hI=>?_
  ·rcases hI with ⟨rfl,rfl,rfl⟩ | ⟨rfl,_⟩
   ·have hv:=Option.some.inj hv
    subst hv
    have G₁:=G.pre (AH (τ:=[O.list [e.one]]))
    refine CL G₁.rk fun epB epP R=>?_
    have kt:=G.kept
    have tl:=kt.tail
    have gn:=G.good e List.mem_cons_self
    have sz:=G.sz e List.mem_cons_self
    have hnb:(((e :: hs1).map (En.by m)).map (·.name)).Nodup:=by rw [BU];exact kt.E.nodup
    have hmem:e.by m ∈ (e :: hs1).map (En.by m):=List.mem_cons_self
    have el₁:=AC (σ:=σ) (o:=.list [e.one])
    have p₁:=AH (σ:=σ) (τ:=[O.list [e.one]])
    generalize σ ++ [O.list [e.one]]=σ₁ at *
    have n1:=Cl R G₁.sh
    have k1:=Cl R G₁.held
    have l1:=Cl R el₁
    have n0:=G₁.tabs.ne G₁.sh trivial
    have k0:=G₁.tabs.ne G₁.held trivial
    have l0:=G₁.tabs.ne el₁ trivial
    have e1:e.one=.tup [.str e.name,.int e.w,.int e.h,.bool e.t,e.pl]:=rfl
    rw [e1]
    refine EU (e:=e) ?_
    have eo:e.ot.v=.tup [.int e.ot.l,.int e.ot.u,.int e.ot.w,.int e.ot.h]:=rfl
    rw [eo]
    wtm_at "mine"
    refine NV (e:=e.by m) R hnb hmem ?_
    refine Cs (x:=.tuple [.int (e.ot.l * m),.int (e.ot.u * m),.int (e.ot.w * m),.int (e.ot.h * m)]) (by rw [SI];rfl) rfl rfl ?_
    wtm_at "mine"
    refine Nn (e:=e.by m) R hnb hmem hB hP hBP fun ep1 ep2=>?_
    rw [Mz,show ((e :: hs1).filter fun y=>decide (y.name ≠ (e.by m).name))=hs1 from (List.filter_cons_of_neg (by simp [En.by])).trans (Jt tl.2)]
    refine S2 (e:=e) hm ?_
    refine Lm (e:=e.by m) ?_
    have kp₂:KpR B P σ (stood σ₁ B P ep1 ep2 (hs1.map (En.by m))):=(KpR.pre p₁).trans (.stood R)
    have R₂:=R.stood (es':=hs1.map (En.by m)) hBP ep1 ep2
    have t₂:=G₁.tabs.stood (es':=hs1.map (En.by m)) (ep1:=ep1) (ep2:=ep2) R
    have es₂:=kp₂ _ _ n0.1 n1.1 n1.2 G.sh
    have eh₂:=kp₂ _ _ k0.1 k1.1 k1.2 G.held
    have el₂:=KpR.stood (ep1:=ep1) (ep2:=ep2) (es':=hs1.map (En.by m)) R _ _ l0.1 l1.1 l1.2 el₁
    generalize stood σ₁ B P ep1 ep2 (hs1.map (En.by m))=σ₂ at *
    wtm_at "mine"
    refine Q0 (e:=e) R₂ gn.low gn.len c0.len.2 tl.1.E hB hP hBP hm0 (fun h=>absurd ⟨gn.good,c0.zm _ sz.1,c0.zm _ sz.2⟩ h) (fun _ h=>absurd h tl.2) (fun _ _ F=>absurd rfl (N2 kt F)) fun e' σ₃ ep3 ep4 ok hn he F p=>?_
    have R₃:=R₂.keeps (At p)
    have kp₄:KpR B P σ (stood σ₃ B P ep3 ep4 ((hs1 ++ [e']).map (En.by m))):=(kp₂.trans (.pre p)).trans (.stood R₃)
    have R₄:=R₃.stood (es':=(hs1 ++ [e']).map (En.by m)) hBP ep3 ep4
    have t₄:=(t₂.pre p).stood (es':=(hs1 ++ [e']).map (En.by m)) (ep1:=ep3) (ep2:=ep4) R₃
    have es₄:=kp₄ _ _ n0.1 n1.1 n1.2 G.sh
    have eh₄:=kp₄ _ _ k0.1 k1.1 k1.2 G.held
    have el₄:=KpR.stood (ep1:=ep3) (ep2:=ep4) (es':=(hs1 ++ [e']).map (En.by m)) R₃ _ _ l0.1 l1.1 l1.2 (AN p el₂)
    have hlen:hs1.length < 14:=G.len
    have kt':=tl.1.put hm0 ok gn.str hn he F (Nat.lt_trans hlen (by decide))
    have tn:=ED he
    generalize stood σ₃ B P ep3 ep4 ((hs1 ++ [e']).map (En.by m))=σ₄ at *
    wtm_at "mine"
    rw [← tn.1]
    refine MA (e:=e') R₄ kt'.E (List.mem_append_right _ List.mem_cons_self) hm ?_
    rw [tn.1]
    refine SliceK.list eh₄ (B9 (k:=1) (by decide) (by decide)) .no ?_
    have ec:cut ((e :: hs1).map En.one) (min (1:Int).toNat ((e :: hs1).map En.one).length) ((e :: hs1).map En.one).length=hs1.map En.one:=by
     have:min (1:Int).toNat ((e :: hs1).map En.one).length=1:=by rw [List.length_map];exact Nat.min_eq_left (Nat.succ_le_succ (Nat.zero_le _))
     rw [this];unfold cut;rw [List.take_length];rfl
    rw [ec]
    refine F9 ?_
    refine F3 (e:=e) (r:=some ((e'.n:Int),e'.u,e'.l,e'.r)) F (AB es₄) AC c0.len.2 c0.sh tl.1.E.len tl.1.E.str gn.str (Int.lt_of_lt_of_le (by decide) sz.1.1) (Int.lt_of_lt_of_le (by decide) sz.2.1) fun σ₅ p₅=>?_
    have p₅:=AH.trans p₅
    refine SliceK.list (AN p₅ eh₄) (B9 (k:=1) (by decide) (by decide)) .no ?_
    rw [ec]
    refine F9 ?_
    wtm_at "mine"
    refine BinK.addL (AB AC) AC (by rw [List.length_map];exact Nat.le_trans (Nat.succ_le_of_lt hlen) (by decide)) ?_
    refine hR _ _ (AN (p₅.trans Jq) el₄) (.inr ⟨rfl,hs1 ++ [e'],_,_,_,_,_,⟨⟨_,_,R₄.keeps (At (p₅.trans Jq))⟩,t₄.pre (p₅.trans Jq),AN (p₅.trans Jq) es₄,?_,kt',fun x hx=>(List.mem_append.mp hx).elim (fun h=>G.good x (List.mem_cons_of_mem _ h)) fun h=>by rw [List.mem_singleton.mp h,tn.1];exact gn,fun x hx=>(List.mem_append.mp hx).elim (fun h=>G.sz x (List.mem_cons_of_mem _ h)) fun h=>by rw [List.mem_singleton.mp h,tn.2.1,tn.2.2.1];exact sz,by rw [List.length_append];exact hlen⟩,kp₄.trans (.pre (p₅.trans Jq)),rfl⟩)
    rw [AC,List.map_append]
    show some (O.list (hs1.map En.one ++ [V.tup [.str e.name,.int e.w,.int e.h,.bool e.t,e'.pl]]))=some (O.list (hs1.map En.one ++ [V.tup [.str e'.name,.int e'.w,.int e'.h,.bool e'.t,e'.pl]]))
    rw [tn.1,tn.2.1,tn.2.2.1,tn.2.2.2]
   ·exact absurd hv.symm nofun
  ·rcases hI with ⟨h,_⟩ | ⟨_,hs',k',a7,a8,a9,a10,G',kp,rfl⟩
   ·exact absurd h (Nat.succ_ne_zero 0)
   ·exact q _ _ _ _ _ _ _ G' kp
end
set_option maxHeartbeats 2000000
section
variable {d:Nat} {σ σ':AD} {Q:AO} {X:Ac} {z m:Int} {K:Nat} {hs bs:List En} {ss:List Sh} {n k r S B P epB epP:Nat} {e:En}
theorem QI (G:GS z m ss r n S B P hs k σ) (c0:LD z m K ss) (hP:P ≠ 0) (hBP:B ≠ P) (q:∀ σ',KpR B P σ σ'→Tabs σ'→Q (.bool true) σ') :
  Bw (DI.body.drop 2) (callW P13 (d + 7)) [.ref r,.ref n,.ref k,.int m,.bool far,a5,a6,a7,a8,a9,a10,.undef] σ (LF Q X):=by
 have hm:=c0.hm
 refine CL G.rk fun epB epP R=>?_
 dsimp only [DI,List.drop]
 wtm_at "mine"
 have kt:=G.kept
 refine Qx (K:=K) R (Int.lt_of_lt_of_le (by decide) hm.1) hP hBP (Nat.le_trans c0.len.2 (by decide)) kt.E kt.s G.tabs.a c0.hK (Nat.le_trans (Gx G.len (Nat.le_refl _)) c0.big) fun j mv hs' a0 σ₁ epP₁ rs s' fo kp₁ t₁ R₁ ea0 ha0=>?_
 have same:=rs.same
 have hlen:=Dl same.1
 have n0:=G.tabs.ne G.sh trivial
 have n1:=Cl R G.sh
 have k0:=G.tabs.ne G.held trivial
 have k1:=Cl R G.held
 have es₁:=kp₁ n _ n0.1 n1.1 n1.2 G.sh
 have eh₁:=kp₁ k _ k0.1 k1.1 k1.2 G.held
 have tb₁:=G.tabs.kpR R kp₁ t₁
 have hn':(hs'.map (·.name)).Nodup:=same.2.1▸kt.E.nodup
 have E':Esok ss hs':=⟨hn',fun x hx=>AU (s'.ins x hx) fun sh h=>(List.getElem?_eq_some_iff.mp h.at_).1,fun x hx=>by
  have:x.name ∈ hs.map (·.name):=same.2.1▸List.mem_map.mpr ⟨x,hx,rfl⟩
  refine AF (List.mem_map.mp this) fun y hy e1=>?_
  exact e1▸kt.E.str y hy,hlen.symm▸kt.E.len⟩
 refine PD (fun i acc σ'=>σ'=σ₁∧acc=(hs'.take i).map En.one) eh₁ (by rw [List.length_map];exact Nat.le_trans G.len (by decide)) ⟨rfl,rfl⟩ (fun i v acc σ' Kk hv hI hK=>?_) fun acc σ' hI=>?_
 ·obtain ⟨rfl,rfl⟩:=hI
  refine AF (List.mem_map_get hv) fun e he ze1=>?_;subst ze1
  have hi':i < hs'.length:=by rw [hlen];exact (List.getElem?_eq_some_iff.mp he).1
  have ei:hs'[i]?=some hs'[i]:=List.getElem?_eq_getElem hi'
  generalize hs'[i]=e' at ei
  have nm:e.name=e'.name:=by
   have:=congrArg (fun l:List Str=>l[i]?) same.2.1
   simp only [List.getElem?_map,ei,he] at this
   exact (Option.some.inj this).symm
  have dm:e.dm=e'.dm:=by
   have:=congrArg (fun l:List Dm=>l[i]?) same.1
   simp only [dms,List.getElem?_map,ei,he] at this
   exact (Option.some.inj this).symm
  have dw:e.w=e'.w∧e.h=e'.h∧e.t=e'.t:=⟨congrArg (·.1) dm,congrArg (·.2.1) dm,congrArg (·.2.2) dm⟩
  have e1:e.one=.tup [.str e'.name,.int e'.w,.int e'.h,.bool e'.t,e.pl]:=by rw [← nm,← dw.1,← dw.2.1,← dw.2.2];rfl
  rw [e1]
  refine F9 ?_
  refine MA (e:=e') R₁ E' (List.mem_of_getElem? ei) hm ?_
  wtm_at "mine"
  refine hK _ _ eh₁ ⟨rfl,?_⟩
  rw [Bh ei,List.map_append];rfl
 ·obtain ⟨rfl,rfl⟩:=hI
  rw [List.length_map,← hlen,List.take_length]
  refine BW (vs:=hs'.map En.one) (fun i ρ' σ''=>σ' ++ [O.list (hs'.map En.one)] <+: σ''∧∃ a8,ρ'=[.ref r,.ref n,.ref σ'.length,.int m,.bool far,a5,a6,a7,a8,a9,a10,.undef]) AC ⟨List.prefix_refl _,_,rfl⟩ (fun i v ρ' σ'' R' hv hI hR=>?_) fun ρ' σ'' hI=>?_
  ·refine MC hI fun p a8 ze1=>?_;subst ze1
   refine AF (List.mem_map_get hv) fun e' he' ze1=>?_;subst ze1
   have hm':=List.mem_of_getElem? he'
   have sz:=s'.sz e' hm'
   dsimp only [En.one]
   refine F9 ?_
   refine F3 (e:=e') (fo e' hm').fp (AN p (AB es₁)) (AN p AC) c0.len.2 c0.sh E'.len E'.str (E'.str e' hm') sz.1 sz.2 fun σ₃ p₃=>?_
   exact hR _ _ (AN (p.trans p₃) AC) ⟨p.trans p₃,_,rfl⟩
  ·refine MC hI fun p a8 ze1=>?_;subst ze1
   exact q _ (kp₁.trans (.pre (AH.trans p))) (tb₁.pre (AH.trans p))
theorem Po (G:GS z m ss r n S B P hs k σ) (c0:LD z m K ss) (hB:B ≠ 0) (hP:P ≠ 0) (hBP:B ≠ P) (q:∀ σ',KpR B P σ σ'→Tabs σ'→Q (.bool true) σ'):callW P13 (d + 8) 37 [.ref r,.ref n,.ref k,.int m,.bool far] σ Q X:=by
 refine AL (fn:=DI) rfl rfl ?_
 refine HP 1 (fun ρ' σ'=>∃ a5 a6 a7,ρ'=[.ref r,.ref n,.ref k,.int m,.bool far,a5,a6,a7,.undef,.undef,.undef,.undef]∧σ <+: σ') (fun R' hR=>QP G c0 fun a5 a6 a7 σ' p=>hR _ _ ⟨a5,a6,a7,rfl,p⟩) fun ρ' σ₁ hI=>?_
 refine EF hI fun a5 a6 a7 ze1 p=>?_;subst ze1
 refine HP 1 (fun ρ' σ'=>∃ hs' k' a7 a8 a9 a10,GS z m ss r n S B P hs' k' σ'∧KpR B P σ₁ σ'∧ρ'=[.ref r,.ref n,.ref k',.int m,.bool far,a5,a6,a7,a8,a9,a10,.undef]) (fun R' hR=>PO (G.pre p) c0 hB hP hBP fun hs' k' a7 a8 a9 a10 σ' G' kp=>hR _ _ ⟨hs',k',a7,a8,a9,a10,G',kp,rfl⟩) fun ρ' σ₂ hI=>?_
 refine JY hI fun hs' k' a7 a8 a9 a10 G' kp ze1=>?_;subst ze1
 exact QI G' c0 hP hBP fun σ' kp' t=>q σ' ((KpR.pre p).trans (kp.trans kp')) t
end
set_option maxHeartbeats 2000000
theorem Lo {l:List Sh}:(PyData.list (l.map Sh.dat)).canLay0=true:=E1 fun s _=>by
 show PyData.canLayAll0 [.int s.W,.int s.H,Tp s.b]=true
 rw [PyData.canLayAll0,PyData.canLayAll0,PyData.canLayAll0,MX];rfl
structure Bxs (z:Int) (bs:List En):Prop where
 good:∀ b ∈ bs,GoodName b.name
 nodup:(bs.map (·.name)).Nodup
 sz:∀ b ∈ bs,(1≤b.w∧b.w≤z)∧(1≤b.h∧b.h≤z)
 len:bs.length≤14
section
variable {d:Nat} {σ σ':AD} {Q:AO} {X:Ac} {z m:Int} {K:Nat} {hs bs ts:List En} {ss:List Sh} {n k l r S B P epB epP:Nat} {e:En} {lf:List Str}
theorem Pk.src (r:Pk ss m hs lf ts x hs' lf'):∀ e ∈ hs',e ∈ hs∨∃ b ∈ ts,e.name=b.name∧e.w=b.w∧e.h=b.h:=by
 induction r with
 | nil=>exact fun e h=>.inl h
 | bad _=>exact fun e h=>.inl h
 | dup _ _=>exact fun e h=>.inl h
 | put e' _ _ he _ _ ih=>exact fun e h=>(ih e h).elim (fun h=>(List.mem_append.mp h).imp id fun h=>by
   have t:=ED he
   rw [List.mem_singleton.mp h];exact ⟨_,List.mem_cons_self,t.1,t.2.1,t.2.2.1⟩) fun h=>.inr (AF h fun b hb q=>⟨b,List.mem_cons_of_mem _ hb,q⟩)
 | out _ _ _ _ ih=>exact fun e h=>(ih e h).imp id fun h=>AF h fun b hb q=>⟨b,List.mem_cons_of_mem _ hb,q⟩
inductive RT13 (ss:List Sh) (m:Int) (far:Bool) (n k r l mN h8:Nat) (ts hs:List En) (lf:List Str) (σ₃:AD) (i:Nat):List V→AD→Prop
 | mk (hs0:List En) (lf0:List Str) (h7:Nat) (a9 a10 a11 a12:V) (σ':AD):KpB h8 σ₃ σ'→σ'[h7]?=some (.list (hs0.map En.one))→σ'[h8]?=some (.list (lf0.map V.str))→h7 ≠ h8→Pk ss m hs0 lf0 (ts.drop i) none hs lf→(∀ x ∈ lf0,x ∉ (ts.drop i).map (·.name)) →
  RT13 ss m far n k r l mN h8 ts hs lf σ₃ i [.ref n,.ref k,.ref r,.ref l,.int m,.bool far,.ref mN,.ref h7,.ref h8,a9,a10,a11,a12,.undef] σ'
theorem MO (c0:LD z m K ss) (b0:Bxs z bs) (R:Rk 283 σ r (ss.map (Sh.by m)) (hs.map (En.by m)) S B P epB epP) (t:Tabs σ) (es:σ[n]?=some (.list (ss.map Sh.v))) (ek:σ[k]?=some (.list (bs.map En.box))) (el:σ[l]?=some (.list (lf.map .str))) (pk:Pk ss m [] [] ts none hs lf) (hts:Srt bs ts) (kt:Kept ss hs) (hB:B ≠ 0) (hP:P ≠ 0) (hBP:B ≠ P)
  (q:∀ σ',KpR B P σ σ'→Tabs σ'→Q (.bool true) σ'):callW P13 (d + 9) 38 [.ref n,.ref k,.ref r,.ref l,.int m,.bool far] σ Q X:=by
 have hm:=c0.hm
 have hm0:m ≠ 0:=Int.ne_of_gt (Int.lt_of_lt_of_le (by decide) hm.1)
 have perm:=hts.mem
 have tlen:ts.length≤14:=perm.length_eq▸b0.len
 have hlen:hs.length≤14:=Nat.le_trans (by have:=pk.facts.len;rw [List.length_nil,Nat.zero_add] at this;exact this) tlen
 have llow:∀ x ∈ lf,PyData.strOk x=true:=fun x hx=>(pk.facts.lmem x hx).elim (fun h=>absurd h List.not_mem_nil) fun h=>AF (List.mem_map.mp h) fun b hb e=>e▸(b0.good b (perm.mem_iff.mp hb)).str
 refine AL (fn:=IH) rfl rfl ?_
 dsimp only [IH]
 wtm_at "mine"
 refine GQ R kt.E t fun xs mN σ₁ kp₁ t₁ hxs eN=>?_
 have n0:=t.ne es trivial
 have k0:=t.ne ek trivial
 have l0:=t.ne el trivial
 have es₁:=kp₁ _ _ n0.1 es
 have ek₁:=kp₁ _ _ k0.1 ek
 have el₁:=kp₁ _ _ l0.1 el
 refine NU (AB (AB ek₁)) (Nat.le_trans b0.len (by decide)) fun ts' a σ₃ hts' p₃ ea ha=>?_
 have:=hts'.uniq hts
 subst this
 have e7:σ₃[σ₁.length]?=some (.list (([]:List En).map En.one)):=AN p₃ (AB AC)
 have e8:σ₃[(σ₁ ++ [O.list []]).length]?=some (.list (([]:List Str).map V.str)):=AN p₃ AC
 have h78:σ₁.length ≠ (σ₁ ++ [O.list []]).length:=by rw [List.length_append];exact Nat.ne_of_lt (Nat.lt_succ_self _)
 have h8a:a ≠ (σ₁ ++ [O.list []]).length:=Nat.ne_of_gt (Nat.lt_of_lt_of_le (List.getElem?_eq_some_iff.mp (AC (σ:=σ₁ ++ [O.list []]) (o:=O.list []))).1 ha)
 have h80:(σ₁ ++ [O.list []]).length ≠ 0:=by rw [List.length_append];exact Nat.succ_ne_zero _
 have p13:∀ (x:Nat) (o:O),σ₁[x]?=some o→σ₃[x]?=some o:=fun x o h=>AN p₃ (AB (AB h))
 have lt8:∀ (x:Nat) (o:O),σ₁[x]?=some o→x ≠ (σ₁ ++ [O.list []]).length:=fun x o h=>by rw [List.length_append];exact Nat.ne_of_lt (Nat.lt_succ_of_lt (List.getElem?_eq_some_iff.mp h).1)
 generalize (σ₁ ++ [O.list []]).length=h8 at *
 have ndts:(ts'.map (·.name)).Nodup:=(perm.map _).nodup_iff.mpr b0.nodup
 refine BW (RT13 ss m far n k r l mN h8 ts' hs lf σ₃) ea (.mk [] [] _ _ _ _ _ _ (fun _ _ _ h=>h) e7 e8 h78 pk CC) (fun i v ρ' σ' R' hv hI hR=>?_) fun ρ' σ' hI=>?_
 ·cases hI with | mk hs0 lf0 h7 a9 a10 a11 a12 σ' kp eh er h78' pk' hno=>
  refine AF (List.mem_map_get hv) fun b hbi ze1=>?_;subst ze1
  have gb:=b0.good b (perm.mem_iff.mp (List.mem_of_getElem? hbi))
  have sb:=b0.sz b (perm.mem_iff.mp (List.mem_of_getElem? hbi))
  have ea':=kp _ _ h8a ea
  have kpo:∀ (x:Nat) (o:O),σ₁[x]?=some o→σ'[x]?=some o:=fun x o h=>kp x o (lt8 x o h) (p13 x o h)
  have es':=kpo _ _ es₁
  have el':=kpo _ _ el₁
  have R₃:Rk 283 σ' r (ss.map (Sh.by m)) (hs.map (En.by m)) S B P epB epP:=(R.keepsB t.a kp₁).keeps kpo
  have hsub:∀ y ∈ hs0,y ∈ hs:=fun y hy=>pk'.facts.pre.subset hy
  have hl0:hs0.length≤14:=Nat.le_trans pk'.facts.pre.length_le hlen
  have nd':((ts'.drop i).map (·.name)).Nodup:=by rw [List.map_drop];exact ndts.sublist (List.drop_sublist _ _)
  rw [C1 hbi] at pk' hno nd'
  have nb:=List.nodup_cons.mp (show (b.name :: (ts'.drop (i + 1)).map (·.name)).Nodup from nd')
  generalize hdr:ts'.drop (i + 1)=rest at *
  cases pk'.inv with
  | put e ok hn he F pk2=>
   have tn:=ED he
   have eb:b.box=e.box:=by rw [he];rfl
   have he':e ∈ hs:=pk2.facts.pre.subset (List.mem_append_right _ List.mem_cons_self)
   have nlf:e.name ∉ lf:=by
    rw [tn.1]
    exact fun h=>(pk2.facts.lmem _ h).elim (fun h=>hno _ h List.mem_cons_self) nb.1
   have hin:e.name ∈ xs:=hxs.mem_iff.mpr (List.mem_map.mpr ⟨e,he',rfl⟩)
   have gx:∀ x ∈ xs,PyData.strOk x=true:=fun x hx=>AF (List.mem_map.mp (hxs.mem_iff.mp hx)) fun y hy e1=>e1▸kt.E.str y hy
   have ge:GoodName e.name:=tn.1▸gb
   have F':FP (OnL e.w e.h e.t) 0 (ss.zip (AS ss.length hs0 (some e.name))) (some ((e.n:Int),e.u,e.l,e.r)):=by rw [tn.1,tn.2.1,tn.2.2.1,tn.2.2.2];exact F
   have hnb:((hs.map (En.by m)).map (·.name)).Nodup:=by rw [BU];exact kt.E.nodup
   have hmem:e.by m ∈ hs.map (En.by m):=List.mem_map.mpr ⟨e,he',rfl⟩
   rw [eb]
   dsimp only [En.box]
   refine OV el' ge.str llow ?_
   refine Am (fun h=>absurd h nlf) fun _=>?_
   refine Rh (kpo _ _ eN) ge.str gx ?_
   refine FO (fun h=>absurd hin h) fun _=>?_
   wtm_at "mine"
   refine H4 (e:=e.by m) R₃ hnb hmem ?_
   dsimp only [En.pl,En.by]
   wtm_at "mine"
   rw [Int.mul_ediv_cancel _ hm0,Int.mul_ediv_cancel _ hm0]
   refine S2 (e:=e) hm ?_
   refine Lm (e:=e.by m) ?_
   wtm_at "mine"
   refine Sm (e:=e.by m) R₃ hnb hmem ?_
   dsimp only [En.box,En.by]
   wtm_at "mine"
   refine Qm (e:=e.by m) ge.str ?_
   wtm_at "mine"
   refine F3 (e:=e) (r:=some ((e.n:Int),e.u,e.l,e.r)) F' es' eh c0.len.2 c0.sh (Nat.lt_of_le_of_lt hl0 (by decide)) (fun y hy=>kt.E.str y (hsub y hy)) ge.str (Int.lt_of_lt_of_le (by decide) (tn.2.1▸sb.1.1)) (Int.lt_of_lt_of_le (by decide) (tn.2.2.1▸sb.2.1)) fun σ₅ p₅=>?_
   wtm_at "mine"
   refine BinK.addL (AB (AN p₅ eh)) AC (by rw [List.length_map];exact Nat.le_trans (Nat.succ_le_succ hl0) (by decide)) ?_
   refine hR _ _ (AN (p₅.trans (AH.trans AH)) ea') (.mk (hs0 ++ [e]) lf0 _ _ _ _ _ _ (fun x o hx h=>AN (p₅.trans (AH.trans AH)) (kp x o hx h)) ?_ (AN (p₅.trans (AH.trans AH)) er) ?_ (hdr▸pk2) fun x hx h=>hno x hx (List.mem_cons_of_mem _ (hdr▸h)))
   ·rw [AC,List.map_append];rfl
   ·exact Nat.ne_of_gt (Nat.lt_of_lt_of_le (List.getElem?_eq_some_iff.mp er).1 (p₅.trans AH).length_le)
  | out ok hn F pk2=>
   have inlf:b.name ∈ lf:=pk2.facts.lpre.subset (List.mem_append_right _ List.mem_cons_self)
   dsimp only [En.box]
   refine OV el' gb.str llow ?_
   refine Am (fun _=>?_) fun h=>absurd inlf h
   wtm_at "mine"
   have lfl:lf0.length≤14:=Nat.le_trans ((List.prefix_append _ _).trans pk2.facts.lpre).length_le (Nat.le_trans (by have:=pk.facts.llen;rw [List.length_nil,Nat.zero_add] at this;exact this) tlen)
   refine CB er h80 (by rw [List.length_map];exact Nat.lt_of_le_of_lt lfl (by decide)) ?_
   have eh':=AI (x:=O.list (lf0.map V.str ++ [.str b.name])) (Ne.symm h78') eh
   refine F3 (e:=b) (r:=none) F (AI (Ne.symm (lt8 _ _ es₁)) es') eh' c0.len.2 c0.sh (Nat.lt_of_le_of_lt hl0 (by decide)) (fun y hy=>kt.E.str y (hsub y hy)) gb.str (Int.lt_of_lt_of_le (by decide) sb.1.1) (Int.lt_of_lt_of_le (by decide) sb.2.1) fun σ₅ p₅=>?_
   refine hR _ _ (AN p₅ (AI (Ne.symm h8a) ea')) (.mk hs0 (lf0 ++ [b.name]) h7 _ _ _ _ _ (fun x o hx h=>AN p₅ (AI (Ne.symm hx) (kp x o hx h))) (AN p₅ eh') (AN p₅ ?_) h78' (hdr▸pk2) fun x hx h=>(List.mem_append.mp hx).elim (fun hx=>hno x hx (List.mem_cons_of_mem _ (hdr▸h))) fun hx=>nb.1 (List.mem_singleton.mp hx▸hdr▸h))
   rw [Ai er,List.map_append];rfl
 ·cases hI with | mk hs0 lf0 h7 a9 a10 a11 a12 σ' kp eh er h78' pk' hno=>
  rw [List.length_map,List.drop_length] at pk'
  have e1:=pk'.nil_inv.1
  have e2:=pk'.nil_inv.2
  subst e1;subst e2
  have kpo:∀ (x:Nat) (o:O),σ₁[x]?=some o→σ'[x]?=some o:=fun x o h=>kp x o (lt8 x o h) (p13 x o h)
  have R₃:Rk 283 σ' r (ss.map (Sh.by m)) (hs.map (En.by m)) S B P epB epP:=(R.keepsB t.a kp₁).keeps kpo
  have t₃:=t₁.keeps kpo
  refine Cs (x:=.list (lf.map PyData.str)) (BI (kpo _ _ el₁)) (BI er) (E1 llow) ?_
  wtm_at "mine"
  refine GQ R₃ kt.E t₃ fun xs' mN' σ₅ kp₅ t₅ hx5 eN5=>?_
  have eh₅:=kp₅ _ _ (t₃.ne eh trivial).1 eh
  have es₅:=kp₅ _ _ (t₃.ne (kpo _ _ es₁) trivial).1 (kpo _ _ es₁)
  have R₅:=R₃.keepsB t₃.a kp₅
  wtm_at "mine"
  rw [List.length_map,hx5.length_eq,List.length_map,List.length_map]
  refine FO (fun h=>absurd rfl h) fun _=>?_
  wtm_at "mine"
  refine DR es₅ (Nat.le_trans c0.len.2 (by decide)) hm ?_
  refine Cs (x:=.list ((ss.map (Sh.by m)).map Sh.dat)) (DM (m:=5) (AB R₅.sh) fun _ _=>rfl) (DM (m:=5) AC fun _ _=>rfl) Lo ?_
  have src:∀ e ∈ hs,∃ b ∈ bs,e.name=b.name∧e.w=b.w∧e.h=b.h:=fun e he=>(pk.src e he).elim (fun h=>absurd h List.not_mem_nil) fun h=>AF h fun b hb q=>⟨b,perm.mem_iff.mp hb,q⟩
  refine Po ⟨⟨_,_,R₅.keeps (At AH)⟩,t₅.pre AH,AB es₅,AB eh₅,kt,fun e he=>AF (src e he) fun b hb q=>q.1▸b0.good b hb,fun e he=>AF (src e he) fun b hb q=>q.2.1▸q.2.2▸b0.sz b hb,hlen⟩ c0 hB hP hBP fun σ' kp' t'=>?_
  exact q σ' (fun x o h1 h2 h3 h=>kp' x o h1 h2 h3 (AB (kp₅ x o h1 (kpo x o (kp₁ x o h1 h))))) t'
end
set_option maxHeartbeats 2000000
section
variable {d:Nat} {σ σ':AD} {Q:AO} {X:Ac} {m:Int} {hs bs:List En} {ss:List Sh} {n k:Nat}
theorem H0 (en:σ[n]?=some (.list (xs.map Shx.v))) (hs:∀ x ∈ xs,PyData.strOk x.s=true) (hz:xs.length≤1000) (t:Tabs σ) (no:¬ Fit xs) (q:∀ σ',Tabs σ'→Q (.str (Str.ofString "shelf")) σ'):callW P13 (d + 9) 33 [.ref n,.ref k] σ Q X:=by
 refine AL (fn:=FN) rfl rfl ?_
 dsimp only [FN]
 exact K9 en hs hz t no fun σ' t'=>q σ' t'
theorem Kj (hc:(c=68∧w=Str.ofString "twice")∨(c=56∧w=Str.ofString "box")) (en:σ[n]?=some (.list (ss.map Sh.v))) (ek:σ[k]?=some (.list (bs.map En.box))) (t:Tabs σ) (hl:1≤ss.length∧ss.length≤9) (hss:∀ s ∈ ss,A9 s.W∧A9 s.H) (hb:bs.length≤60) (hlow:∀ b ∈ bs,b.name.cps.all (· < 128)=true∧b.name.length≤1000)
  (hx:∀ ts x hs lf,Srt bs ts→Pk ss 1 [] [] ts x hs lf→x=some c) (q:∀ σ',Tabs σ'→Q (.str w) σ'):callW P13 (d + 9) 33 [.ref n,.ref k] σ Q X:=by
 refine AL (fn:=FN) rfl rfl ?_
 dsimp only [FN]
 refine Dz (m:=1) (ss:=ss) (bs:=bs) (by decide) (by rw [Ko];exact en) (by rw [L9];exact ek) t hl (fun s hs=>by rw [Int.mul_one,Int.mul_one];exact hss s hs) hb hlow (fun ts c' hs lf σ' hts pk t'=>?_) fun ts hs lf σ' r l S B P hts pk _=>?_
 ·have:=Option.some.inj (hx _ _ _ _ hts pk)
  subst this
  rcases hc with ⟨rfl,rfl⟩ | ⟨rfl,rfl⟩ <;> exact q σ' t'
 ·exact Di (hx _ _ _ _ hts pk)
noncomputable def DX (t:Bool):En:=⟨Str.ofString "twice", 1,1,t,0,0,0,false⟩
noncomputable def Fv:En:=⟨Str.ofString "twice", 1000000,1000000,true,0,0,0,false⟩
theorem G0:Ay (Str.ofString "twice")=true:=by decide +kernel
theorem C9:(Str.ofString "twice").cps.all (· < 128)=true∧(Str.ofString "twice").length≤1000:=by decide +kernel
theorem Ng:PyData.strOk (Str.ofString "twice")=true:=by decide +kernel
theorem S6:B1 1 Fv:=⟨G0,by decide,by decide⟩
theorem Qs:B1 1 (DX t):=⟨G0,show A9 (1 * 1) by decide,show A9 (1 * 1) by decide⟩
theorem VN:Srt [DX false,Fv] [Fv,DX false]:=⟨[1,0],by decide,List.Pairwise.cons (fun j hj=>by rw [List.mem_singleton.mp hj];exact .inl rfl) (List.Pairwise.cons CC List.Pairwise.nil),rfl⟩
theorem VC:Srt [Fv,Fv] [Fv,Fv]:=⟨[0,1],by decide,List.Pairwise.cons (fun j hj=>by rw [List.mem_singleton.mp hj];exact .inr ⟨rfl,by decide⟩) (List.Pairwise.cons CC List.Pairwise.nil),rfl⟩
theorem FE (hS:∀ s ∈ ss,s.H < 1000000) (hn:Str.ofString "twice" ∉ hs.map (·.name)) (r:Pk ss 1 hs lf (Fv :: ts) x hs' lf'):Pk ss 1 hs (lf ++ [Str.ofString "twice"]) ts x hs' lf':=by
 cases r with
 | bad h=>exact absurd S6 h
 | dup _ h=>exact absurd h hn
 | put e _ _ _ F _=>exact HD (Tj (e:=Fv) rfl rfl hS F)
 | out _ _ _ r=>exact r
theorem Pc (h0:ss[0]?=some sh) (hW:1≤sh.W) (hH:1≤sh.H) (r:Pk ss 1 [] lf [DX false] x hs' lf'):x=none∧hs'=[DX false]∧lf'=lf:=by
 cases r with
 | bad h=>exact absurd Qs h
 | dup _ h=>exact absurd h List.not_mem_nil
 | put e _ _ he F r=>
  have h:=Option.some.inj (Lb (e:=DX false) h0 rfl rfl rfl hW hH F)
  cases r
  have e1:(e.n:Int)=0:=congrArg (·.1) h
  have e2:e.u=0:=congrArg (·.2.1) h
  have e3:e.l=0:=congrArg (·.2.2.1) h
  have e4:e.r=false:=congrArg (·.2.2.2) h
  rw [he,e2,e3,e4,Int.ofNat.inj e1]
  exact ⟨rfl,rfl,rfl⟩
 | out _ _ F r=>exact Di (Lb (e:=DX false) h0 rfl rfl rfl hW hH F)
theorem RJ (en:σ[n]?=some (.list (ss.map Sh.v))) (t:Tabs σ) (hl:1≤ss.length∧ss.length≤9) (hss:∀ s ∈ ss,A9 s.W∧A9 s.H) (hS:∀ s ∈ ss,s.H < 1000000) (q:∀ σ',Tabs σ'→Q (.bool true) σ'):callW P13 (d + 9) 34 [.ref n] σ Q X:=by
 have hss1:∀ s ∈ ss,A9 (s.W * 1)∧A9 (s.H * 1):=fun s hs=>by rw [Int.mul_one,Int.mul_one];exact hss s hs
 have h01:0 < ss.length:=hl.1
 have h0:=List.getElem?_eq_getElem h01
 generalize ss[0]=sh at h0
 have hs0:=hss sh (List.mem_of_getElem? h0)
 refine AL (fn:=Ii) rfl rfl ?_
 dsimp only [Ii]
 wtm_at "mine"
 refine Dz (m:=1) (ss:=ss) (bs:=[DX false,Fv]) (by decide) (by rw [Ko];exact AB en) AC (t.pre AH) hl hss1 (by decide) (fun b hb=>(List.mem_cons.mp hb).elim (fun z=>z▸C9) fun z=>List.mem_singleton.mp z▸C9) (fun ts c hs lf σ' hts pk t'=>?_) fun ts hs lf σ₁ r l S B P hts pk P₁=>?_
 ·have e:=hts.uniq VN
  subst e
  exact HD (Pc h0 hs0.1.1 hs0.2.1 (FE hS List.not_mem_nil pk)).1
 ·have e:=hts.uniq VN
  subst e
  obtain ⟨_,rfl,rfl⟩:=Pc h0 hs0.1.1 hs0.2.1 (FE hS List.not_mem_nil pk)
  refine CL P₁.rk fun epB epP R=>?_
  rw [L9] at R
  have R₂:=R.keeps (At (AH (τ:=[O.list [V.str (Str.ofString "twice")]])))
  have t₂:=P₁.tabs.pre (AH (τ:=[O.list [V.str (Str.ofString "twice")]]))
  have el₂:(σ₁ ++ [O.list [V.str (Str.ofString "twice")]])[l]?=some (.list ([Str.ofString "twice"].map V.str)):=AB P₁.left
  have nd:([DX false].map (·.name)).Nodup:=List.nodup_cons.mpr ⟨List.not_mem_nil,List.nodup_nil⟩
  refine Cs (x:=.list ([Str.ofString "twice"].map PyData.str)) (BI el₂) (BI AC) (E1 fun x hx=>List.mem_singleton.mp hx▸Ng) ?_
  have en₂:=AB (τ:=[O.list [V.str (Str.ofString "twice")]]) (P₁.kp _ _ (t.ne en trivial).1 (t.ne en trivial).2 (AB en))
  have hnl:l ≠ n:=Nat.ne_of_gt (Nat.lt_of_lt_of_le (List.getElem?_eq_some_iff.mp en).1 (Nat.le_trans AH.length_le P₁.nl))
  have hl0:l ≠ 0:=Nat.ne_of_gt (Nat.lt_of_lt_of_le (Nat.zero_lt_of_lt (List.getElem?_eq_some_iff.mp en).1) (Nat.le_trans AH.length_le P₁.nl))
  generalize σ₁ ++ [O.list [V.str (Str.ofString "twice")]]=σ₂ at *
  wtm_at "mine"
  refine H4 (e:=DX false) R₂ nd List.mem_cons_self ?_
  refine Cs (x:=.tuple [.int 0,.int 0,.int 0,.bool false]) rfl rfl rfl ?_
  wtm_at "mine"
  refine Sm (e:=DX false) R₂ nd List.mem_cons_self ?_
  refine Cs (x:=.tuple [.str (Str.ofString "twice"),.int 1,.int 1,.bool false]) rfl rfl (by decide +kernel) ?_
  wtm_at "mine"
  refine CB el₂ hl0 (by decide) ?_
  have t₃:=t₂.setL (o:=.list ([Str.ofString "twice"].map V.str ++ [.str (Str.ofString "")])) el₂
  have en₃:=AI (x:=.list ([Str.ofString "twice"].map V.str ++ [.str (Str.ofString "")])) hnl en₂
  generalize σ₂.set l (.list ([Str.ofString "twice"].map V.str ++ [.str (Str.ofString "")]))=σ₃ at *
  refine Dz (m:=1) (ss:=ss) (bs:=[Fv,Fv]) (by decide) (by rw [Ko];exact AB en₃) AC (t₃.pre AH) hl hss1 (by decide) (fun b hb=>(List.mem_cons.mp hb).elim (fun z=>z▸C9) fun z=>List.mem_singleton.mp z▸C9) (fun ts c hs lf σ' hts pk t'=>?_) fun ts hs lf σ₄ r' l' S' B' P' hts pk P₄=>?_
  ·have e:=hts.uniq VC
   subst e
   exact nomatch FE hS List.not_mem_nil (FE hS List.not_mem_nil pk)
  ·have e:=hts.uniq VC
   subst e
   cases FE hS List.not_mem_nil (FE hS List.not_mem_nil pk)
   refine CL P₄.rk fun epB epP R₄=>?_
   refine Oc (x:=.list ([Str.ofString "twice", Str.ofString "twice"].map PyData.str)) (BI (AB P₄.left)) (BI (xs:=[Str.ofString "twice", Str.ofString "twice"]) AC) (by decide +kernel) ?_
   wtm_at "mine"
   refine GQ (R₄.keeps (At AH)) P₄.kept.E (P₄.tabs.pre AH) fun xs mN σ₅ kp₅ t₅ hx eN=>?_
   have:=hx.eq_nil
   subst this
   refine Oc (x:=.list []) (BI (xs:=[]) (AB eN)) (BI (xs:=[]) AC) rfl ?_
   exact q _ (t₅.pre AH)
end
set_option maxHeartbeats 2000000
section
variable {d:Nat} {σ σ':AD} {Q:AO} {X:Ac} {z m:Int} {hs bs:List En} {ss:List Sh} {n k:Nat}
theorem Ro:x ++ Str.empty=x:=by
 cases x with
 | mk a=>show Str.mk (a ++ #[])=Str.mk a;rw [Array.append_empty]
theorem Sa:(Str.ofString "").cps.all (· < 128)=true∧(Str.ofString "").length≤1000:=by decide +kernel
theorem Ra:¬ Ay (Str.ofString "")=true:=by decide +kernel
theorem Hh:(l₁ ++ x :: l₂).Nodup ↔ x ∉ l₁ ++ l₂∧(l₁ ++ l₂).Nodup:=List.perm_middle.nodup_iff.trans List.nodup_cons
theorem Fm {a:Nat} {b b':En} (hb:∀ b ∈ bs,GoodName b.name) (nd:(bs.map (·.name)).Nodup) (ha:bs[a]?=some b) (hn:b'.name=""∨b'.name=b.name) (bad:¬ B1 1 b'):∀ ts x hs lf,Srt (bs.take a ++ [b'] ++ bs.drop (a + 1)) ts→Pk ss 1 [] [] ts x hs lf→x=some 56:=fun ts x hs lf hts pk=>by
 have eb:bs=bs.take a ++ b :: bs.drop (a + 1):=by rw [← C1 ha,List.take_append_drop]
 have nd':=nd
 rw [eb,List.map_append,List.map_cons] at nd'
 have nd':=Hh.mp nd'
 have e:bs.take a ++ [b'] ++ bs.drop (a + 1)=bs.take a ++ b' :: bs.drop (a + 1):=by rw [List.append_assoc];rfl
 rw [e] at hts
 refine pk.wrong ⟨(hts.mem.map _).nodup_iff.mpr ?_,fun _ _=>List.not_mem_nil⟩ ⟨b',hts.mem.mem_iff.mpr (List.mem_append_right _ List.mem_cons_self),bad⟩
 rw [List.map_append,List.map_cons]
 refine Hh.mpr ⟨fun h=>?_,nd'.2⟩
 refine hn.elim (fun e=>?_) fun e=>nd'.1 (e▸h)
 rw [← List.map_append] at h
 refine AF (List.mem_map.mp h) fun y hy ey=>?_
 have hy':y ∈ bs:=(List.mem_append.mp hy).elim List.mem_of_mem_take List.mem_of_mem_drop
 exact Lx (hb y hy') (ey.trans e)
theorem RK {c:Int} (en:σ[n]?=some (.list (ss.map Sh.v))) (ek:σ[k]?=some (.list (bs.map En.box))) (t:Tabs σ) (hl:1≤ss.length∧ss.length≤9) (hss:∀ s ∈ ss,A9 s.W∧A9 s.H) (hb:∀ b ∈ bs,GoodName b.name) (nd:(bs.map (·.name)).Nodup) (hbl:0 < bs.length∧bs.length≤14) (q:∀ σ',Tabs σ'→Q (.bool true) σ'):callW P13 (d + 10) 35 [.ref n,.ref k,.int c] σ Q X:=by
 refine AL (fn:=Io) rfl rfl ?_
 dsimp only [Io]
 wtm_at "mine"
 refine Am (fun h5=>?_) fun h5=>?_
 ·have h3:c / 5 % 3=0∨c / 5 % 3=1∨c / 5 % 3=2:=by exact Classical.or_iff_not_imp_left.mpr fun z0=>Classical.or_iff_not_imp_left.mpr fun z1=>Or.elim (Int.lt_or_gt_of_ne z1) (fun z2=>Or.elim (Int.lt_or_gt_of_ne z0) (fun z3=>Int.le_antisymm (ai1 .le .v0 .n2 (.t .v0 .n0 .e) rfl z3) (ai1 .le .n2 .v0 (.w 3 (.l .n0 .v0 (.w 2 (.t .v0 .n0 .e)))) rfl (Int.emod_nonneg _ (by decide)) z3)) (fun z3=>Int.le_antisymm (ai1 .le .v0 .n2 (.t .v0 .n1 .e) rfl z2) (ai1 .le .n2 .v0 (.w 2 (.t .n0 .v0 (.t .v0 .n1 .e))) rfl z3 z2))) (fun z2=>Int.le_antisymm (ai1 .le .v0 .n2 (.t .v0 .n3 .e) rfl (Int.emod_lt_of_pos _ (by decide))) (ai1 .le .n2 .v0 (.t .n1 .v0 .e) rfl z2))
  have hz:(ss.map Sh.v).length≤1000:=by rw [List.length_map];exact Nat.le_trans hl.2 (by decide)
  have hbz:(bs.map En.box).length≤1000:=by rw [List.length_map];exact Nat.le_trans hbl.2 (by decide)
  have ex:ss.map Sh.v=(ss.map Sh.x).map Shx.v:=by rw [List.map_map];rfl
  have h01:0 < ss.length:=hl.1
  have h0:=List.getElem?_eq_getElem h01
  generalize ss[0]=sh at h0
  have ec:cut (ss.map Sh.v) 0 (min (1:Int).toNat (ss.map Sh.v).length)=[sh.v]:=by
   have:min (1:Int).toNat (ss.map Sh.v).length=1:=by rw [List.length_map];exact Nat.min_eq_left hl.1
   rw [this]
   cases ss with
   | nil=>exact absurd h0 nofun
   | cons s l=>cases h0;rfl
  refine BinK.addL (AB (AB en)) AC (Nat.le_trans (Nat.add_le_add_right hz _) (by decide)) ?_
  refine DG (k:=1) (AB (AB (AB en))) (by decide) (by decide) ?_
  rw [ec]
  refine Qb (k:=10) AC (by decide) (by decide) (by show 1≤1000;decide) ?_
  wtm_at "mine"
  have t':∀ {τ},σ <+: τ→Tabs τ:=fun p=>t.pre p
  refine O4 h3 (fun h=>?_) (fun h=>?_) (fun h=>?_)
  ·rw [h]
   refine Aq AC (by decide) rfl ?_
   refine DG (k:=1) (by wtm_at "mine ref") (by decide) (by decide) ?_
   refine BinK.addL (AB AC) AC (Nat.le_trans (Nat.add_le_add_right (Nat.le_trans Cx hbz) _) (by decide)) ?_
   refine H0 (xs:=[]) (by wtm_at "mine ref") CC (by decide) (t.pre (by repeat (first | exact AH | refine List.IsPrefix.trans ?_ AH))) (fun z=>absurd z.n (by decide)) fun σ' t'=>?_
   wtm_at "mine"
   exact q σ' t'
  ·rw [h]
   refine Aq AC (by decide) rfl ?_
   refine DG (k:=1) (by wtm_at "mine ref") (by decide) (by decide) ?_
   refine BinK.addL (AB AC) AC (Nat.le_trans (Nat.add_le_add_right (Nat.le_trans Cx hbz) _) (by decide)) ?_
   refine H0 (xs:=ss.map Sh.x ++ [⟨1,0,Str.ofString "low"⟩]) (by rw [List.map_append,← ex];wtm_at "mine ref") (fun x hx=>(List.mem_append.mp hx).elim (fun h=>by refine AF (List.mem_map.mp h) fun s _ ze1=>?_;subst ze1;exact Of) fun h=>by rw [List.mem_singleton.mp h];decide +kernel) (by rw [List.length_append,List.length_map];exact Nat.le_trans (Nat.add_le_add_right hl.2 _) (by decide)) (t.pre (by repeat (first | exact AH | refine List.IsPrefix.trans ?_ AH))) (fun z=>absurd (z.all _ (List.mem_append_right _ List.mem_cons_self)).h.1 (by decide)) fun σ' t'=>?_
   wtm_at "mine"
   exact q σ' t'
  ·rw [h]
   refine Aq AC (by decide) rfl ?_
   refine DG (k:=1) (by wtm_at "mine ref") (by decide) (by decide) ?_
   refine BinK.addL (AB AC) AC (Nat.le_trans (Nat.add_le_add_right (Nat.le_trans Cx hbz) _) (by decide)) ?_
   refine H0 (xs:=List.replicate 10 sh.x) (by wtm_at "mine ref") (fun x hx=>by rw [List.eq_of_mem_replicate hx];exact Of) (by rw [List.length_replicate];decide) (t.pre (by repeat (first | exact AH | refine List.IsPrefix.trans ?_ AH))) (fun z=>absurd z.n (by rw [List.length_replicate];decide)) fun σ' t'=>?_
   wtm_at "mine"
   exact q σ' t'
 ·wtm_at "mine"
  rw [List.length_map]
  refine Px (Int.ofNat_lt.mpr hbl.1) ?_
  have a0:=Int.emod_nonneg (c / 2) (Int.ne_of_gt (Int.ofNat_lt.mpr hbl.1))
  have a1:=Int.emod_lt_of_pos (c / 2) (Int.ofNat_lt.mpr hbl.1)
  generalize c / 2 % (bs.length:Int)=a at *
  refine AU (Int.eq_ofNat_of_zero_le a0) fun a ze1=>?_;subst ze1
  have ha:a < bs.length:=Int.ofNat_lt.mp a1
  have hba:=List.getElem?_eq_getElem ha
  generalize bs[a]=b at hba
  have hv:(bs.map En.box)[(a:Int).toNat]?=some b.box:=by rw [Int.toNat_natCast,List.getElem?_map,hba];rfl
  have gb:=hb b (List.mem_of_getElem? hba)
  have hbz:(bs.map En.box).length≤1000:=by rw [List.length_map];exact Nat.le_trans hbl.2 (by decide)
  have a6:(a:Int) + 1≤1000000:=Int.le_trans (Int.add_le_add_right (Int.ofNat_le.mpr (Nat.le_trans (Nat.le_of_lt ha) hbl.2)) 1) (by decide)
  have e1:cut (bs.map En.box) 0 (min (a:Int).toNat (bs.map En.box).length)=(bs.take a).map En.box:=by rw [Int.toNat_natCast,List.length_map,Nat.min_eq_left (Nat.le_of_lt ha),List.map_take];rfl
  have e2:cut (bs.map En.box) (min ((a:Int) + 1).toNat (bs.map En.box).length) (bs.map En.box).length=(bs.drop (a + 1)).map En.box:=by
   rw [show ((a:Int) + 1).toNat=a + 1 from rfl,Nat.min_eq_left (by rw [List.length_map];exact ha),List.map_drop];unfold cut;rw [List.take_length]
  have l1:((bs.take a).map En.box).length≤14:=by rw [List.length_map];exact Nat.le_trans (List.length_take_le _ _) (Nat.le_trans (Nat.le_of_lt ha) hbl.2)
  have l2:((bs.drop (a + 1)).map En.box).length≤14:=by rw [List.length_map,List.length_drop];exact Nat.le_trans (Nat.sub_le _ _) hbl.2
  have lo:∀ b':En,(b'.name.cps.all (· < 128)=true∧b'.name.length≤1000)→∀ y ∈ bs.take a ++ [b'] ++ bs.drop (a + 1),y.name.cps.all (· < 128)=true∧y.name.length≤1000:=fun b' h' y hy=>(List.mem_append.mp hy).elim (fun hy=>(List.mem_append.mp hy).elim (fun hy=>have g:=hb y (List.mem_of_mem_take hy);⟨g.low,g.len⟩) fun hy=>List.mem_singleton.mp hy▸h') fun hy=>have g:=hb y (List.mem_of_mem_drop hy);⟨g.low,g.len⟩
  have ln:∀ b':En,(bs.take a ++ [b'] ++ bs.drop (a + 1)).length≤60:=fun b'=>by
   rw [List.length_map] at l1 l2
   rw [List.length_append,List.length_append];exact Nat.le_trans (Nat.add_le_add (Nat.add_le_add_right l1 _) l2) (show 14 + 1 + 14≤60 by decide)
  refine Aq ek a0 hv ?_
  have eb:b.box=.tup [.str b.name,.int b.w,.int b.h,.bool b.t]:=rfl
  rw [eb]
  wtm_at "mine"
  refine Am (fun h2=>?_) fun h2=>?_
  ·refine DG ek a0 (Int.le_trans (Int.le_add_of_nonneg_right (by decide)) a6) ?_
   rw [e1]
   refine BinK.addL (AB AC) AC (Nat.le_trans (Nat.add_le_add_right l1 _) (show 14 + 1≤1000000 by decide)) ?_
   refine KT (AB (AB (AB ek))) (Int.add_nonneg a0 (by decide)) a6 ?_
   rw [e2]
   refine BinK.addL (AB AC) AC (by rw [List.length_append];exact Nat.le_trans (Nat.add_le_add (Nat.add_le_add_right l1 _) l2) (show 14 + 1 + 14≤1000000 by decide)) ?_
   refine Kj (c:=56) (w:=Str.ofString "box") (ss:=ss) (bs:=bs.take a ++ [⟨"", b.w,b.h,b.t,0,0,0,false⟩] ++ bs.drop (a + 1)) (.inr ⟨rfl,rfl⟩) (AN M7 en) (by rw [List.map_append,List.map_append];exact AC) (t.pre M7) hl hss (ln _) (lo _ Sa) (Fm (b':=⟨"", b.w,b.h,b.t,0,0,0,false⟩) hb nd hba (.inl rfl) fun z=>absurd z.1 Ra) fun σ' t'=>?_
   wtm_at "mine"
   exact q σ' t'
  ·refine DG ek a0 (Int.le_trans (Int.le_add_of_nonneg_right (by decide)) a6) ?_
   rw [e1]
   refine BinK.addL (AB AC) AC (Nat.le_trans (Nat.add_le_add_right l1 _) (show 14 + 1≤1000000 by decide)) ?_
   refine KT (AB (AB (AB ek))) (Int.add_nonneg a0 (by decide)) a6 ?_
   rw [e2]
   refine BinK.addL (AB AC) AC (by rw [List.length_append];exact Nat.le_trans (Nat.add_le_add (Nat.add_le_add_right l1 _) l2) (show 14 + 1 + 14≤1000000 by decide)) ?_
   refine Kj (c:=56) (w:=Str.ofString "box") (ss:=ss) (bs:=bs.take a ++ [⟨b.name,0,b.h,b.t,0,0,0,false⟩] ++ bs.drop (a + 1)) (.inr ⟨rfl,rfl⟩) (AN M7 en) (by rw [List.map_append,List.map_append];exact AC) (t.pre M7) hl hss (ln _) (lo _ ⟨gb.low,gb.len⟩) (Fm hb nd hba (.inr rfl) fun z=>absurd z.2.1.1 (show ¬ (1:Int)≤0 * 1 by decide)) fun σ' t'=>?_
   wtm_at "mine"
   exact q σ' t'
end
set_option maxHeartbeats 2000000
section
variable {d:Nat} {σ σ':AD} {Q:AO} {X:Ac} {z m:Int} {hs bs:List En} {ss:List Sh} {n k a:Nat}
theorem RH {xs:List Int} (h:σ[0]?=some (.list (xs.map .int))) (hz:xs.length≤63) (q:Q (.int 8) σ):callW P13 (d + 1) 17 [.ref 0,.int 8,.int 30] σ Q X:=by
 refine AL (fn:=I1) rfl rfl ?_
 dsimp only [I1]
 wtm_at "mine"
 rw [List.length_map]
 refine Am (fun h=>absurd h (Int.not_lt.mpr (Int.ofNat_le.mpr hz))) fun _=>?_
 exact q
theorem md3 (k:Int) (hk:0 < k):1≤1 + c % k∧1 + c % k≤k:=⟨Int.le_add_of_nonneg_right (Int.emod_nonneg _ (Int.ne_of_gt hk)),Int.add_comm _ 1▸Int.add_one_le_of_lt (Int.emod_lt_of_pos _ hk)⟩
theorem SB {xs:List Int} {ns:List Str} {far:Bool} (e0:σ[0]?=some (.list (xs.map .int))) (hz:xs.length≤63) (ea:σ[a]?=some (.list (ns.map .str))) (hns:Names14 ns) (h3:(far=false→3≤z)∧(far=true→400≤z)) (q:∀ bs k σ',Bxs z bs→Kp σ σ'→σ'[k]?=some (.list (bs.map En.box))→σ.length≤k→Q (.ref k) σ'):callW P13 (d + 2) 31 [.ref 0,.ref a,.bool far] σ Q X:=by
 refine AL (fn:=IP) rfl rfl ?_
 dsimp only [IP]
 refine RH (AB e0) hz ?_
 refine SliceK.list (AB e0) (B9 (k:=7) (by decide) (by decide)) (B9 (k:=15) (by decide) (by decide)) ?_
 rw [L5]
 have hcl:(cut xs (min (7:Int).toNat (xs.map V.int).length) (min (15:Int).toNat (xs.map V.int).length)).length≤8:=by
  unfold cut
  rw [List.length_drop,List.length_take,List.length_map]
  exact Nat.sub_le_of_le_add (by rw [← Nat.add_min_add_left];exact Nat.le_min.mpr ⟨Nat.le_trans (Nat.min_le_left _ _) (Nat.min_le_left _ _),Nat.le_trans (Nat.min_le_right _ _) (Nat.le_add_left _ _)⟩)
 generalize cut xs _ _=cs at *
 have h0:σ.length ≠ 0:=Nat.ne_of_gt (Nat.zero_lt_of_lt (List.getElem?_eq_some_iff.mp e0).1)
 have hne:∀ (x:Nat) (o:O),σ[x]?=some o→x ≠ σ.length:=fun x o h=>Nat.ne_of_lt (List.getElem?_eq_some_iff.mp h).1
 have hls:(σ ++ [O.list []]).length ≠ σ.length:=by rw [List.length_append];exact Nat.ne_of_gt (Nat.lt_succ_self _)
 refine S4 (fun i ρ' σ'=>KpB σ.length (σ ++ [O.list []] ++ [O.list (cs.map .int)]) σ'∧∃ bs a4 a5 a6 a7 a8,ρ'=[.ref 0,.ref a,.bool far,.ref σ.length,a4,a5,a6,a7,a8,.undef]∧σ'[σ.length]?=some (.list (bs.map En.box))∧bs.map (·.name)=ns.take i∧∀ b ∈ bs,(1≤b.w∧b.w≤z)∧(1≤b.h∧b.h≤z)) AC ⟨fun _ _ _ h=>h,[],_,_,_,_,_,rfl,AB AC,rfl,CC⟩ (fun i v ρ' σ' R' hv hI hR=>?_) fun ρ' σ' hI=>?_
 ·refine EP hI fun kp bs a4 a5 a6 a7 a8 ze1 eb hnm hsz=>?_;subst ze1
  refine AF (List.mem_map_get hv) fun c hc ze1=>?_;subst ze1
  have hi8:i < 8:=Nat.lt_of_lt_of_le (List.getElem?_eq_some_iff.mp hc).1 hcl
  have hin:i < ns.length:=by rw [hns.len];exact Nat.lt_trans hi8 (by decide)
  have hni:=List.getElem?_eq_getElem hin
  generalize ns[i]=x at hni
  have gx:=hns.good x (List.mem_of_getElem? hni)
  have el':=kp _ _ hls AC
  have ea':=kp _ _ (hne _ _ ea) (AB (AB ea))
  wtm_at "mine"
  have i14:(i:Int) % 14=i:=Int.emod_eq_of_lt (Int.natCast_nonneg i) (Int.ofNat_lt.mpr (Nat.lt_trans hi8 (by decide)))
  have i0:(i:Int) / 14=0:=Int.ediv_eq_zero_of_lt (Int.natCast_nonneg i) (Int.ofNat_lt.mpr (Nat.lt_trans hi8 (by decide)))
  rw [i14]
  refine Aq ea' (Int.natCast_nonneg i) (by rw [Int.toNat_natCast,List.getElem?_map,hni];rfl) ?_
  wtm_at "mine"
  rw [i0]
  refine BinK.mulS ?_
  refine BinK.addS (Nat.le_trans (Nat.add_le_add_right gx.len _) (by decide)) ?_
  rw [Ro]
  have blen:bs.length≤8:=by have:=congrArg List.length hnm;rw [List.length_map,List.length_take] at this;exact this▸Nat.le_trans (Nat.min_le_left _ _) (Nat.le_of_lt hi8)
  have go:∀ (e:En),e.name=x→(1≤e.w∧e.w≤z)∧(1≤e.h∧e.h≤z)→∀ a8,(∀ σ'',σ''=σ'.set σ.length (.list (bs.map En.box ++ [e.box]))→∀ a5 a6 a7,R' [.ref 0,.ref a,.bool far,.ref σ.length,.int i,a5,a6,a7,a8,.undef] σ''):=fun e he hez a8 σ'' hs a5 a6 a7=>by
   rw [hs]
   refine hR _ _ (AI (Ne.symm hls) el') ⟨fun x o hx h=>AI (Ne.symm hx) (kp x o hx h),bs ++ [e],_,_,_,_,_,rfl,?_,?_,fun b hb=>(List.mem_append.mp hb).elim (hsz b) fun h=>List.mem_singleton.mp h▸hez⟩
   ·rw [Ai eb,List.map_append];rfl
   ·rw [List.map_append,hnm,Bh hni]
    exact congrArg (fun y=>ns.take i ++ [y]) he
  wtm_at "mine"
  cases far with
  | true=>
   wtm_at "mine"
   refine CB eb h0 (by rw [List.length_map];exact Nat.lt_of_le_of_lt blen (by decide)) ?_
   exact go ⟨x,_,_,_,0,0,0,false⟩ rfl ⟨⟨(md3 400 (by decide)).1,Int.le_trans (md3 400 (by decide)).2 (h3.2 rfl)⟩,(md3 400 (by decide)).1,Int.le_trans (md3 400 (by decide)).2 (h3.2 rfl)⟩ _ _ rfl _ _ _
  | false=>
   wtm_at "mine"
   refine CB eb h0 (by rw [List.length_map];exact Nat.lt_of_le_of_lt blen (by decide)) ?_
   exact go ⟨x,_,_,_,0,0,0,false⟩ rfl ⟨⟨(md3 3 (by decide)).1,Int.le_trans (md3 3 (by decide)).2 (h3.1 rfl)⟩,(md3 3 (by decide)).1,Int.le_trans (md3 3 (by decide)).2 (h3.1 rfl)⟩ _ _ rfl _ _ _
 ·refine EP hI fun kp bs a4 a5 a6 a7 a8 ze1 eb hnm hsz=>?_;subst ze1
  rw [List.length_map] at hnm
  have hmem:∀ b ∈ bs,b.name ∈ ns:=fun b hb=>List.mem_of_mem_take (hnm▸List.mem_map.mpr ⟨b,hb,rfl⟩)
  refine q bs _ _ ⟨fun b hb=>hns.good _ (hmem b hb),hnm▸hns.nodup.sublist (List.take_sublist _ _),hsz,?_⟩ (fun x o h=>kp x o (hne x o h) (AB (AB h))) eb (Nat.le_refl _)
  have:=congrArg List.length hnm
  rw [List.length_map,List.length_take] at this
  exact this▸Nat.le_trans (Nat.min_le_left _ _) (Nat.le_trans hcl (by decide))
end
set_option maxHeartbeats 2000000
section
variable {d:Nat} {σ σ':AD} {Q:AO} {X:Ac} {z m:Int} {K:Nat} {hs bs:List En} {ss:List Sh} {n k a:Nat}
theorem EC (e:σ[n]?=some (.list (bs.map En.box))):toD σ 6 (.ref n)=some (.list (bs.map En.boxD)):=DM (m:=5) e fun _ _=>rfl
theorem Hf (h:∀ b ∈ bs,GoodName b.name):(PyData.list (bs.map En.boxD)).canLay0=true:=E1 fun b hb=>LR (h b hb).str
theorem Hd {K:Bool→Prop} {m:Nat} (e:σ[n]?=some (.list (bs.map En.box))) (e':σ[m]?=some (.list [])) (h:∀ b ∈ bs,GoodName b.name) (q:bs ≠ []→K true) (q':bs=[]→K false):CmpK σ K .NotEq (.ref n) (.ref m):=by
 refine .ne (EC e) (EC (bs:=[]) e') (Hf h) rfl ?_
 cases bs with
 | nil=>exact q' rfl
 | cons x l=>exact q (List.cons_ne_nil _ _)
theorem MM (b0:Bxs z bs):∀ b ∈ bs.map (En.by m),GoodName b.name:=fun b hb=>AF (List.mem_map.mp hb) fun y hy e=>e▸b0.good y hy
theorem Vd (c0:LD z m K ss) (b0:Bxs z bs):∀ b ∈ bs,B1 m b:=fun b hb=>⟨(b0.good b hb).good,c0.zm _ (b0.sz b hb).1,c0.zm _ (b0.sz b hb).2⟩
theorem R3 (hm:1≤m∧m≤200000) (hl:ss.length≤9) (hss:∀ s ∈ ss,A9 (s.W * m)∧A9 (s.H * m)) (b0:Bxs 3 bs) (en:σ[n]?=some (.list (((⟨5,5,true⟩ :: ss.drop 1).map (Sh.by m)).map Sh.v))) (ek:σ[k]?=some (.list ((DX true :: DX true :: (bs.map (En.by m)).take 2).map En.box))) (t:Tabs σ) (q:∀ σ',Tabs σ'→Q (.str (Str.ofString "twice")) σ'):callW P13 (d + 9) 33 [.ref n,.ref k] σ Q X:=by
 have mem:∀ b ∈ DX true :: DX true :: (bs.map (En.by m)).take 2,b=DX true∨∃ y ∈ bs,y.by m=b:=fun b hb=>by
  refine Or.elim (List.mem_cons.mp hb) (fun h=>?_) (fun h=>?_)
  ·exact .inl h
  ·refine Or.elim (List.mem_cons.mp h) (fun h=>?_) (fun h=>?_)
   ·exact .inl h
   ·exact .inr (List.mem_map.mp (List.mem_of_mem_take h))
 have zm:∀ y:Int,1≤y∧y≤3→A9 (y * m):=fun y h=>Hc ⟨h.1,Int.le_trans h.2 (by decide)⟩ hm
 have sz3:∀ y:Int,1≤y∧y≤3→y * m≤3 * m:=fun y h=>Int.mul_le_mul_of_nonneg_right h.2 (Int.le_trans (by decide) hm.1)
 have h1:(1:Int)≤3 * m:=Int.le_trans (by decide) (Int.mul_le_mul_of_nonneg_left hm.1 (by decide:(0:Int)≤3))
 refine Kj (c:=68) (.inl ⟨rfl,rfl⟩) en ek t ⟨by rw [List.length_map];exact Nat.succ_le_succ (Nat.zero_le _),?_⟩ (fun s hs=>?_) ?_ (fun b hb=>?_) (fun ts x hs lf hts pk=>?_) q
 ·rw [List.length_map,List.length_cons,List.length_drop]
  exact Nat.le_trans (Nat.succ_le_succ (Nat.sub_le_sub_right hl 1)) (by decide)
 ·refine AF (List.mem_map.mp hs) fun y hy e=>?_
  rw [← e]
  refine Or.elim (List.mem_cons.mp hy) (fun h=>?_) (fun h=>?_)
  ·rw [h];exact ⟨Hc (by decide) hm,Hc (by decide) hm⟩
  ·exact hss y (List.mem_of_mem_drop h)
 ·show ((bs.map (En.by m)).take 2).length + 1 + 1≤60
  exact Nat.le_trans (Nat.add_le_add_right (Nat.add_le_add_right (List.length_take_le _ _) 1) 1) (by decide)
 ·refine Or.elim (mem b hb) (fun h=>?_) (fun zt1=>AF zt1 fun y hy h=>?_)
  ·rw [h];exact C9
  ·rw [← h];exact ⟨(b0.good y hy).low,(b0.good y hy).len⟩
 ·have pm:=hts.mem
  refine pk.twice (g:=m) (nm:=Str.ofString "twice") hm.1 rfl (fun b hb=>?_) (fun b hb=>?_) CC ?_ ?_
  ·refine Or.elim (mem b (pm.mem_iff.mp hb)) (fun h=>?_) (fun zt1=>AF zt1 fun y hy h=>?_)
   ·rw [h];exact Qs
   ·rw [← h];exact ⟨(b0.good y hy).good,by show A9 (y.w * m * 1);rw [Int.mul_one];exact zm _ (b0.sz y hy).1,by show A9 (y.h * m * 1);rw [Int.mul_one];exact zm _ (b0.sz y hy).2⟩
  ·refine Or.elim (mem b (pm.mem_iff.mp hb)) (fun h=>?_) (fun zt1=>AF zt1 fun y hy h=>?_)
   ·rw [h];exact ⟨h1,h1⟩
   ·rw [← h];exact ⟨sz3 _ (b0.sz y hy).1,sz3 _ (b0.sz y hy).2⟩
  ·rw [(pm.filter _).length_eq]
   have o1:Cn (Str.ofString "twice") (DX true)=true:=C8.mpr ⟨rfl,rfl,rfl⟩
   rw [List.filter_cons_of_pos o1,List.filter_cons_of_pos o1]
   exact Nat.succ_le_succ (Nat.succ_le_succ (Nat.zero_le _))
  ·rw [(pm.filter _).length_eq,List.length_nil,Nat.zero_add]
   have o1:¬ (!Cn (Str.ofString "twice") (DX true))=true:=by rw [show Cn (Str.ofString "twice") (DX true)=true from C8.mpr ⟨rfl,rfl,rfl⟩];exact Bool.false_ne_true
   rw [List.filter_cons_of_neg (p:=fun b=>!Cn (Str.ofString "twice") b) o1,List.filter_cons_of_neg (p:=fun b=>!Cn (Str.ofString "twice") b) o1]
   exact Nat.le_trans (List.length_filter_le _ _) (List.length_take_le _ _)
theorem Rk.kpR (R:Rk C σ r shs es S B P epB epP) (R':Rk C' σ r' shs' es' S' B' P' epB' epP') (t:Tabs σ) (kp:KpR B' P' σ σ') (h:B ≠ B'∧B ≠ P'∧P ≠ B'∧P ≠ P'):Rk C σ' r shs es S B P epB epP:=by
 have nd:∀ {x o},σ[x]?=some o→(∀ ep kvs,o ≠ .dict ep kvs)→JG o→σ'[x]?=some o:=fun {x o} h hd hp=>kp x o (t.ne h hp).1 (fun z=>by rw [z,R'.bx] at h;cases h;exact hd _ _ rfl) (fun z=>by rw [z,R'.pl] at h;cases h;exact hd _ _ rfl) h
 refine AF R.at_.ex fun m h1 h2=>?_
 exact ⟨⟨m,nd h1 nofun trivial,nd h2 nofun trivial⟩,nd R.sh nofun trivial,kp _ _ (t.ne R.bx trivial).1 h.1 h.2.1 R.bx,kp _ _ (t.ne R.pl trivial).1 h.2.2.1 h.2.2.2 R.pl⟩
end
set_option maxHeartbeats 2000000
section
variable {d:Nat} {σ σ':AD} {Q:AO} {X:Ac} {z m:Int} {K:Nat} {hs bs:List En} {ss:List Sh} {n k g:Nat}
inductive Beg13 (xs:List Int):List V→AD→Prop
 | mk (z m:Int) (K:Nat) (ss:List Sh) (bs:List En) (far:Bool) (n k:Nat) (σ:AD):LD z m K ss→Bxs z bs→(∀ s ∈ ss,s.H * m < 1000000)→(far=false→m≤200000∧z=3)→σ[0]?=some (.list (xs.map .int))→σ[1]?=some (.tab 254)→σ[2]?=some (.tab 289)→σ[n]?=some (.list (ss.map Sh.v))→σ[k]?=some (.list (bs.map En.box)) →
  Beg13 xs [.ref 0,.int m,.ref n,.bool far,.ref k,.undef,.undef,.undef,.undef,.undef,.undef,.undef,.undef,.undef,.undef] σ
structure LawS (xs:List Int) (m:Int) (ss:List Sh) (bs:List En) (n k g:Nat) (σ:AD):Prop where
 e0:σ[0]?=some (.list (xs.map .int))
 t:Tabs σ
 en:σ[n]?=some (.list (ss.map Sh.v))
 ek:σ[k]?=some (.list (bs.map En.box))
 eg:σ[g]?=some (.list ((bs.map (En.by m)).map En.box))
theorem LawS.pre (L:LawS xs m ss bs n k g σ) (p:σ <+: σ'):LawS xs m ss bs n k g σ':=⟨AN p L.e0,L.t.pre p,AN p L.en,AN p L.ek,AN p L.eg⟩
theorem VW (hz:xs.length≤63) (hR:∀ ρ' σ',Beg13 xs ρ' σ'→Pq .next ρ' σ'):Bw (CR.body.take 5) (callW P13 59) [.ref 0,.undef,.undef,.undef,.undef,.undef,.undef,.undef,.undef,.undef,.undef,.undef,.undef,.undef,.undef] [.list (xs.map .int),.tab 254,.tab 289] Pq:=by
 have e0:([.list (xs.map .int),.tab 254,.tab 289]:AD)[0]?=some (.list (xs.map .int)):=rfl
 dsimp only [CR,List.take]
 refine Cg e0 (by decide) ?_
 refine RY fun m hm=>?_
 refine LJ e0 fun ss n σ₁ kp₁ en hn hl1 hl9 hss=>?_
 have z0:=kp₁ 0 _ (show (0:Nat) ≠ 3 by decide) e0
 have z1:σ₁[1]?=some (.tab 254):=kp₁ 1 _ (show (1:Nat) ≠ 3 by decide) rfl
 have z2:σ₁[2]?=some (.tab 289):=kp₁ 2 _ (show (2:Nat) ≠ 3 by decide) rfl
 refine Cg z0 (by decide) ?_
 wtm_at "mine"
 refine Cg z0 (by decide) ?_
 refine QF fun ns hns=>?_
 generalize decide (Ef xs 1 / 42 % 3=1)=far
 refine SB (z:=if far=true then 400 else 3) (AB z0) hz AC hns ⟨fun h=>by rw [h];decide,fun h=>by rw [h];decide⟩ fun bs k σ₂ b0 kp₂ ek hk=>?_
 have kp:Kp σ₁ σ₂:=fun x o h=>kp₂ x o (AB h)
 cases far with
 | true=>
  refine Cg (kp _ _ z0) (by decide) ?_
  wtm_at "mine"
  refine Td (fun i acc σ'=>σ₂ <+: σ'∧∃ ss':List Sh,acc=ss'.map Sh.v∧ss'.length=i∧∀ s ∈ ss',ShB 1000 1000 s) ⟨Int.le_trans (by decide) (md3 3 (by decide)).1,Int.le_trans (md3 3 (by decide)).2 (by decide)⟩ ⟨List.prefix_refl _,[],rfl,rfl,CC⟩ (fun i acc σ' K hi hI hK=>?_) fun acc σ' hI=>?_
  ·refine Ez hI fun p ss' ze1 hl ok=>?_;subst ze1
   refine Cg (AN p (kp _ _ z0)) (Int.add_nonneg (by decide) (Int.natCast_nonneg _)) ?_
   refine UH fun sh σ₂ p₂ hsh=>?_
   refine hK _ _ ⟨p.trans p₂,ss' ++ [sh],by rw [List.map_append];rfl,by rw [List.length_append,hl];rfl,fun s hs=>(List.mem_append.mp hs).elim (ok s) fun z=>List.mem_singleton.mp z▸hsh⟩
  ·refine Ez hI fun p ss' ze1 hl ok=>?_;subst ze1
   have hr:=md3 (c:=Ef xs 1) 3 (by decide)
   have hl1:1≤ss'.length:=hl▸Int.toNat_le_toNat hr.1
   have hl3:ss'.length≤3:=hl▸Int.toNat_le_toNat hr.2
   exact hR _ _ (.mk 400 1 1000 ss' bs true _ _ _ (LD.far hl1 hl3 ok) b0 (fun s hs=>by rw [Int.mul_one];exact Int.lt_of_le_of_lt (ok s hs).h.2 (by decide)) nofun (AB (AN p (kp _ _ z0))) (AB (AN p (kp _ _ z1))) (AB (AN p (kp _ _ z2))) AC (AB (AN p ek)))
 | false=>
  exact hR _ _ (.mk 3 m 5 ss bs false n k _ (LD.near hm hl1 hl9 hss) b0 (fun s hs=>Int.lt_of_le_of_lt (Int.mul_le_mul (hss s hs).h.2 hm.2 (Int.le_trans (by decide) hm.1) (by decide)) (by decide)) (fun _=>⟨hm.2,rfl⟩) (kp _ _ z0) (kp _ _ z1) (kp _ _ z2) (kp _ _ en) ek)
end
set_option maxHeartbeats 2000000
theorem TabN.ex (t:TabN k T σ ln col q):TabEx σ k T:=by
 cases t with
 | tab e=>exact ⟨_,e,.inl rfl⟩
 | row m e _=>exact ⟨_,e,.inr ⟨_,_,_,rfl⟩⟩
section
variable {d:Nat} {σ σ':AD} {Q:AO} {X:Ac} {z m:Int} {K:Nat} {hs bs:List En} {ss:List Sh} {n k g:Nat} {xs:List Int} {far:Bool} {w:Int}
theorem Rp (L:LawS xs m ss bs n k g σ) (c0:LD z m K ss) (b0:Bxs z bs) (hR:∀ σ',LawS xs m ss bs n k g σ'→Pq .next [.ref 0,.int m,.ref n,.bool far,.ref k,.ref g,.int w,.undef,.undef,.undef,.undef,.undef,.undef,.undef,.undef] σ') (q:∀ ρ σ',Tabs σ'→Pq (.ret (.bool true)) ρ σ') :
  Bw ((CR.body.drop 7).take 1) (callW P13 59) [.ref 0,.int m,.ref n,.bool far,.ref k,.ref g,.int w,.undef,.undef,.undef,.undef,.undef,.undef,.undef,.undef] σ Pq:=by
 dsimp only [CR,List.take,List.drop]
 have hm:=c0.hm
 have hl9:=c0.len
 refine Am (fun h=>?_) fun h=>?_
 ·refine Hd (AB L.ek) AC b0.good (fun hb=>?_) fun hb=>?_
  ·refine DR (AB L.en) (Nat.le_trans hl9.2 (by decide)) hm ?_
   refine Cg (AB (AB L.e0)) (by decide) ?_
   wtm_at "mine"
   refine RK (ss:=ss.map (Sh.by m)) (bs:=bs.map (En.by m)) AC (AB (AB L.eg)) ((L.t.pre AH).pre AH) (by rw [List.length_map];exact hl9) (fun s hs=>AF (List.mem_map.mp hs) fun y hy e=>e▸c0.shm y hy) (MM b0) (by rw [BU];exact b0.nodup) ⟨by rw [List.length_map];exact List.length_pos_iff.mpr hb,by rw [List.length_map];exact b0.len⟩ fun σ' t'=>?_
   exact q _ σ' t'
  ·exact hR _ (L.pre AH)
 ·exact hR _ L
theorem Rs (L:LawS xs m ss bs n k g σ) (c0:LD z m K ss) (b0:Bxs z bs) (hS:∀ s ∈ ss,s.H * m < 1000000) (hnear:far=false→m≤200000∧z=3) (hR:∀ σ',LawS xs m ss bs n k g σ'→Pq .next [.ref 0,.int m,.ref n,.bool far,.ref k,.ref g,.int w,.undef,.undef,.undef,.undef,.undef,.undef,.undef,.undef] σ') (q:∀ ρ σ',Tabs σ'→Pq (.ret (.bool true)) ρ σ') :
  Bw ((CR.body.drop 8).take 1) (callW P13 59) [.ref 0,.int m,.ref n,.bool far,.ref k,.ref g,.int w,.undef,.undef,.undef,.undef,.undef,.undef,.undef,.undef] σ Pq:=by
 dsimp only [CR,List.take,List.drop]
 have hm:=c0.hm
 have hl9:=c0.len
 have l9:(ss.map (Sh.by m)).length=ss.length:=List.length_map _
 refine Am (fun h=>?_) fun h=>?_
 ·refine Hd (AB L.ek) AC b0.good (fun hb=>?_) fun hb=>?_
  ·have L₁:=L.pre (AH (τ:=[O.list []]))
   generalize σ ++ [O.list []]=σ₁ at *
   have ag:callW P13 59 34 [.ref σ₁.length] (σ₁ ++ [.list ((ss.map (Sh.by m)).map Sh.v)]) (fun v σ'=>Pq (.ret v) [.ref 0,.int m,.ref n,.bool far,.ref k,.ref g,.int w,.undef,.undef,.undef,.undef,.undef,.undef,.undef,.undef] σ') (fun c σ'=>Pq (.exc c) [.ref 0,.int m,.ref n,.bool far,.ref k,.ref g,.int w,.undef,.undef,.undef,.undef,.undef,.undef,.undef,.undef] σ'):=
    RJ (d:=50) (ss:=ss.map (Sh.by m)) AC (L₁.t.pre AH) (by rw [l9];exact hl9) (fun s hs=>AF (List.mem_map.mp hs) fun y hy e=>e▸c0.shm y hy) (fun s hs=>AF (List.mem_map.mp hs) fun y hy e=>e▸hS y hy) fun σ' t'=>q _ σ' t'
   refine JQ (b:=far) (fun hf=>?_) fun hf=>?_
   ·refine DR L₁.en (Nat.le_trans hl9.2 (by decide)) hm ?_
    exact ag
   ·refine Cg L₁.e0 (by decide) ?_
    wtm_at "mine"
    refine Am (fun _=>?_) fun _=>?_
    ·refine DR L₁.en (Nat.le_trans hl9.2 (by decide)) hm ?_
     exact ag
    ·obtain ⟨hm2,hz3⟩:=hnear hf
     subst hz3
     refine KT (k:=1) (AB L₁.en) (by decide) (by decide) ?_
     have hmin:min (1:Int).toNat (ss.map Sh.v).length=1:=by rw [List.length_map];exact Nat.min_eq_left hl9.1
     have ec:cut (ss.map Sh.v) (min (1:Int).toNat (ss.map Sh.v).length) (ss.map Sh.v).length=(ss.drop 1).map Sh.v:=by rw [hmin,List.map_drop];unfold cut;rw [List.take_length]
     rw [ec]
     have dl:((ss.drop 1).map Sh.v).length≤9:=by rw [List.length_map,List.length_drop];exact Nat.le_trans (Nat.sub_le _ _) hl9.2
     refine BinK.addL (AB AC) AC (Nat.le_trans (Nat.add_le_add_left dl _) (by show 1 + 9≤1000000;decide)) ?_
     refine DR (ss:=⟨5,5,true⟩ :: ss.drop 1) AC (by show (ss.drop 1).length + 1≤1000;rw [List.length_map] at dl;exact Nat.le_trans (Nat.succ_le_succ dl) (by decide)) hm ?_
     have L₂:=L₁.pre (Jq.trans (AH (τ:=[O.list (((⟨5,5,true⟩ :: ss.drop 1).map (Sh.by m)).map Sh.v)])):σ₁ <+: σ₁ ++ [O.list [V.tup [.int 5,.int 5,.str (Str.ofString "low")]]] ++ [O.list ((ss.drop 1).map Sh.v)] ++ [O.list ([V.tup [.int 5,.int 5,.str (Str.ofString "low")]] ++ (ss.drop 1).map Sh.v)] ++ [O.list (((⟨5,5,true⟩ :: ss.drop 1).map (Sh.by m)).map Sh.v)])
     have eL:=AC (σ:=σ₁ ++ [O.list [V.tup [.int 5,.int 5,.str (Str.ofString "low")]]] ++ [O.list ((ss.drop 1).map Sh.v)] ++ [O.list ([V.tup [.int 5,.int 5,.str (Str.ofString "low")]] ++ (ss.drop 1).map Sh.v)]) (o:=.list (((⟨5,5,true⟩ :: ss.drop 1).map (Sh.by m)).map Sh.v))
     refine DG (k:=2) (AB L₂.eg) (by decide) (by decide) ?_
     refine BinK.addL (AB AC) AC (Nat.le_trans (Nat.add_le_add_left (Nat.le_trans Cx (by rw [List.length_map,List.length_map];exact b0.len)) _) (by show 2 + 14≤1000000;decide)) ?_
     have e2:cut ((bs.map (En.by m)).map En.box) 0 (min (2:Int).toNat ((bs.map (En.by m)).map En.box).length)=((bs.map (En.by m)).take 2).map En.box:=by
      unfold cut
      rw [List.drop_zero,← List.take_eq_take_min,List.map_take];rfl
     rw [e2]
     refine R3 (m:=m) ⟨hm.1,hm2⟩ hl9.2 c0.shm b0 (AN Jq eL) AC (L₂.t.pre Jq) fun σ' t'=>?_
     wtm_at "mine"
     exact q _ σ' t'
  ·exact hR _ (L.pre AH)
 ·exact hR _ L
end
set_option maxHeartbeats 2000000
section
variable {σ σ':AD} {Q:AO} {X:Ac} {z m:Int} {K:Nat} {hs bs:List En} {ss:List Sh} {n k g:Nat} {xs:List Int} {far:Bool} {w:Int}
theorem Ui (L:LawS xs m ss bs n k g σ) (c0:LD z m K ss) (b0:Bxs z bs) (q:∀ σ',Tabs σ'→Q (.bool true) σ') :
  Bw (CR.body.drop 9) (callW P13 59) [.ref 0,.int m,.ref n,.bool far,.ref k,.ref g,.int w,.undef,.undef,.undef,.undef,.undef,.undef,.undef,.undef] σ (LF Q X):=by
 dsimp only [CR,List.drop]
 have hm:=c0.hm
 have hm0:0 < m:=Int.lt_of_lt_of_le (by decide) hm.1
 have hl9:=c0.len
 have good:∀ ts x hs lf,Srt bs ts→Pk ss m [] [] ts x hs lf→x=none:=fun ts x hs lf hts pk=>pk.good (fun b hb=>Vd c0 b0 b (hts.mem.mem_iff.mp hb)) ⟨(hts.mem.map _).nodup_iff.mpr b0.nodup,fun _ _=>List.not_mem_nil⟩
 have low:∀ b ∈ bs,b.name.cps.all (· < 128)=true∧b.name.length≤1000:=fun b hb=>⟨(b0.good b hb).low,(b0.good b hb).len⟩
 have b60:bs.length≤60:=Nat.le_trans b0.len (by decide)
 have h0:0 < σ.length:=Nat.zero_lt_of_lt (List.getElem?_eq_some_iff.mp L.e0).1
 refine DR L.en (Nat.le_trans hl9.2 (by decide)) hm ?_
 refine PrimK.list (AB L.eg) ?_
 have La:=L.pre ((AH (τ:=[O.list ((ss.map (Sh.by m)).map Sh.v)])).trans (AH (τ:=[O.list ((bs.map (En.by m)).map En.box)])))
 have ea:(σ ++ [O.list ((ss.map (Sh.by m)).map Sh.v)] ++ [O.list ((bs.map (En.by m)).map En.box)])[σ.length]?=some (.list ((ss.map (Sh.by m)).map Sh.v)):=AB AC
 have eb:(σ ++ [O.list ((ss.map (Sh.by m)).map Sh.v)] ++ [O.list ((bs.map (En.by m)).map En.box)])[(σ ++ [O.list ((ss.map (Sh.by m)).map Sh.v)]).length]?=some (.list ((bs.map (En.by m)).map En.box)):=AC
 have hab:(σ ++ [O.list ((ss.map (Sh.by m)).map Sh.v)]).length ≠ σ.length:=by rw [List.length_append];exact Nat.ne_of_gt (Nat.lt_succ_self _)
 have hb0:(σ ++ [O.list ((ss.map (Sh.by m)).map Sh.v)]).length ≠ 0:=by rw [List.length_append];exact Nat.succ_ne_zero _
 have ha0:σ.length ≠ 0:=Nat.ne_of_gt h0
 have hna:n ≠ σ.length∧n ≠ (σ ++ [O.list ((ss.map (Sh.by m)).map Sh.v)]).length:=⟨Nat.ne_of_lt (List.getElem?_eq_some_iff.mp L.en).1,by rw [List.length_append];exact Nat.ne_of_lt (Nat.lt_succ_of_lt (List.getElem?_eq_some_iff.mp L.en).1)⟩
 have hka:k ≠ σ.length∧k ≠ (σ ++ [O.list ((ss.map (Sh.by m)).map Sh.v)]).length:=⟨Nat.ne_of_lt (List.getElem?_eq_some_iff.mp L.ek).1,by rw [List.length_append];exact Nat.ne_of_lt (Nat.lt_succ_of_lt (List.getElem?_eq_some_iff.mp L.ek).1)⟩
 generalize (σ ++ [O.list ((ss.map (Sh.by m)).map Sh.v)]).length=ib at *
 generalize σ ++ [O.list ((ss.map (Sh.by m)).map Sh.v)] ++ [O.list ((bs.map (En.by m)).map En.box)]=σa at *
 generalize σ.length=ia at *
 refine Dz (ss:=ss) (bs:=bs) hm0 ea eb La.t hl9 c0.shm b60 low (fun ts c hs lf σ' hts pk _=>HD (good _ _ _ _ hts pk)) fun ts hs lf σ₁ r l S B P hts pk P₁=>?_
 have el₁:=P₁.left
 wtm_at "mine"
 have L₁:LawS xs m ss bs n k g σ₁:=⟨P₁.kp _ _ (by decide) (by decide) La.e0,P₁.tabs,La.t.kp2 P₁.kp La.en trivial,La.t.kp2 P₁.kp La.ek trivial,La.t.kp2 P₁.kp La.eg trivial⟩
 have ea₁:=La.t.kp2 P₁.kp ea trivial
 have eb₁:=La.t.kp2 P₁.kp eb trivial
 refine DR L₁.en (Nat.le_trans hl9.2 (by decide)) hm ?_
 refine Cs (x:=.list ((ss.map (Sh.by m)).map Sh.dat)) (DM (m:=5) (AB ea₁) fun _ _=>rfl) (DM (m:=5) AC fun _ _=>rfl) Lo ?_
 refine Cs (x:=.list ((bs.map (En.by m)).map En.boxD)) (EC (AB eb₁)) (EC (AB L₁.eg)) (Hf (MM b0)) ?_
 have L₂:=L₁.pre (AH (τ:=[O.list ((ss.map (Sh.by m)).map Sh.v)]))
 have ea₂:=AB (τ:=[O.list ((ss.map (Sh.by m)).map Sh.v)]) ea₁
 have eb₂:=AB (τ:=[O.list ((ss.map (Sh.by m)).map Sh.v)]) eb₁
 have el₂:=AB (τ:=[O.list ((ss.map (Sh.by m)).map Sh.v)]) el₁
 refine CL P₁.rk fun epB epP R₁=>?_
 have R₂:=R₁.keeps (At (AH (τ:=[O.list ((ss.map (Sh.by m)).map Sh.v)])))
 have ln1:σ₁.length≤(σ₁ ++ [O.list ((ss.map (Sh.by m)).map Sh.v)]).length:=AH.length_le
 generalize σ₁ ++ [O.list ((ss.map (Sh.by m)).map Sh.v)]=σ₂ at *
 refine Dz (ss:=ss) (bs:=bs) hm0 ea₂ eb₂ L₂.t hl9 c0.shm b60 low (fun ts c hs lf σ' hts pk _=>HD (good _ _ _ _ hts pk)) fun ts' hs' lf' σ₃ r' l' S' B' P' hts' pk' P₃=>?_
 have e:=hts'.uniq hts
 subst e
 refine CL P₃.rk fun epB' epP' R₃'=>?_
 have el₃:=L₂.t.kp2 P₃.kp el₂ trivial
 have el₃':=P₃.left
 have ea₃:=L₂.t.kp2 P₃.kp ea₂ trivial
 have eb₃:=L₂.t.kp2 P₃.kp eb₂ trivial
 have en₃:=L₂.t.kp2 P₃.kp L₂.en trivial
 have ek₃:=L₂.t.kp2 P₃.kp L₂.ek trivial
 have R₃:=R₂.kp2 L₂.t P₃.kp
 have lla:=(List.getElem?_eq_some_iff.mp ea).1
 have llb:=(List.getElem?_eq_some_iff.mp eb).1
 have ll2:∀ {x:Nat} {o:O},σ₂[x]?=some o→x < σ₂.length:=fun h=>(List.getElem?_eq_some_iff.mp h).1
 refine PrimK.list el₃ ?_
 have ea₄:=AB (τ:=[O.list (lf.map V.str)]) ea₃
 have eb₄:=AB (τ:=[O.list (lf.map V.str)]) eb₃
 wtm_at "mine"
 refine CB ea₄ ha0 (by rw [List.length_map,List.length_map];exact Nat.lt_of_le_of_lt hl9.2 (by decide)) ?_
 have eb₅:=AI (x:=O.list ((ss.map (Sh.by m)).map Sh.v ++ [V.tup [.int 1,.int 1,.str (Str.ofString "low")]])) (Ne.symm hab) eb₄
 refine ClrK.mk eb₅ hb0 ?_
 have t₆:=((P₃.tabs.pre (AH (τ:=[O.list (lf.map V.str)]))).setL (o:=O.list ((ss.map (Sh.by m)).map Sh.v ++ [V.tup [.int 1,.int 1,.str (Str.ofString "low")]])) ea₄).setL (o:=O.list []) eb₅
 have keep:∀ {x:Nat} {o:O},σ₃[x]?=some o→x ≠ ia→x ≠ ib→(((σ₃ ++ [O.list (lf.map V.str)]).set ia (O.list ((ss.map (Sh.by m)).map Sh.v ++ [V.tup [.int 1,.int 1,.str (Str.ofString "low")]]))).set ib (O.list []))[x]?=some o:=fun h h1 h2=>AI (Ne.symm h2) (AI (Ne.symm h1) (AB h))
 have ef₆:(((σ₃ ++ [O.list (lf.map V.str)]).set ia (O.list ((ss.map (Sh.by m)).map Sh.v ++ [V.tup [.int 1,.int 1,.str (Str.ofString "low")]]))).set ib (O.list []))[σ₃.length]?=some (.list (lf.map V.str)):=AI (Nat.ne_of_lt (List.getElem?_eq_some_iff.mp eb₃).1) (AI (Nat.ne_of_lt (List.getElem?_eq_some_iff.mp ea₃).1) AC)
 have R₆:=((R₃.keeps (At (AH (τ:=[O.list (lf.map V.str)])))).setO (o:=O.list ((ss.map (Sh.by m)).map Sh.v ++ [V.tup [.int 1,.int 1,.str (Str.ofString "low")]])) ea₄ (Nat.ne_of_lt (Nat.lt_of_lt_of_le lla P₁.nS))).setO (o:=O.list []) eb₅ (Nat.ne_of_lt (Nat.lt_of_lt_of_le llb P₁.nS))
 have R₆':=((R₃'.keeps (At (AH (τ:=[O.list (lf.map V.str)])))).setO (o:=O.list ((ss.map (Sh.by m)).map Sh.v ++ [V.tup [.int 1,.int 1,.str (Str.ofString "low")]])) ea₄ (Nat.ne_of_lt (Nat.lt_of_lt_of_le (ll2 ea₂) P₃.nS))).setO (o:=O.list []) eb₅ (Nat.ne_of_lt (Nat.lt_of_lt_of_le (ll2 eb₂) P₃.nS))
 have en₆:=keep en₃ hna.1 hna.2
 have ek₆:=keep ek₃ hka.1 hka.2
 have el₆:=keep el₃ (Nat.ne_of_gt (Nat.lt_of_lt_of_le lla P₁.nl)) (Nat.ne_of_gt (Nat.lt_of_lt_of_le llb P₁.nl))
 have el₆':=keep el₃' (Nat.ne_of_gt (Nat.lt_of_lt_of_le (ll2 ea₂) P₃.nl)) (Nat.ne_of_gt (Nat.lt_of_lt_of_le (ll2 eb₂) P₃.nl))
 have z1:∀ {x:Nat},σa.length≤x→x ≠ 0:=fun h=>Nat.ne_of_gt (Nat.lt_of_lt_of_le (Nat.zero_lt_of_lt lla) h)
 have z2:∀ {x:Nat},σ₂.length≤x→x ≠ 0:=fun h=>Nat.ne_of_gt (Nat.lt_of_lt_of_le (Nat.zero_lt_of_lt (ll2 ea₂)) h)
 generalize ((σ₃ ++ [O.list (lf.map V.str)]).set ia (O.list ((ss.map (Sh.by m)).map Sh.v ++ [V.tup [.int 1,.int 1,.str (Str.ofString "low")]]))).set ib (O.list [])=σ₆ at *
 have llow:∀ x ∈ lf,PyData.strOk x=true:=fun x hx=>(pk.facts.lmem x hx).elim (fun h=>absurd h List.not_mem_nil) fun h=>AF (List.mem_map.mp h) fun b hb e=>e▸(b0.good b (hts.mem.mem_iff.mp hb)).str
 refine MO (d:=50) c0 b0 R₆ t₆ en₆ ek₆ el₆ pk hts P₁.kept (z1 P₁.nB) (z1 P₁.nP) P₁.bp fun σ₇ kp₇ t₇=>?_
 have k7:∀ {x:Nat} {vs:List V},σ₆[x]?=some (.list vs)→σ₇[x]?=some (.list vs):=fun h=>kp₇ _ _ (t₆.ne h trivial).1 (Cl R₆ h).1 (Cl R₆ h).2 h
 refine Cs (x:=.list (lf.map PyData.str)) (BI (k7 el₆)) (BI (k7 ef₆)) (E1 llow) ?_
 have lB:=ll2 R₂.bx
 have lP:=ll2 R₂.pl
 have R₇':=R₆'.kpR R₆ t₆ kp₇ ⟨Nat.ne_of_gt (Nat.lt_of_lt_of_le lB P₃.nB),Nat.ne_of_gt (Nat.lt_of_lt_of_le lP P₃.nB),Nat.ne_of_gt (Nat.lt_of_lt_of_le lB P₃.nP),Nat.ne_of_gt (Nat.lt_of_lt_of_le lP P₃.nP)⟩
 refine MO (d:=50) c0 b0 R₇' t₇ (k7 en₆) (k7 ek₆) (k7 el₆') pk' hts' P₃.kept (z2 P₃.nB) (z2 P₃.nP) P₃.bp fun σ₈ _ t₈=>?_
 exact q σ₈ t₈
theorem UG (xs:List Int) (hz:xs.length≤63):callW P13 60 39 [.ref 0] [.list (xs.map .int),.tab 254,.tab 289] (fun v σ=>v=.bool true∧TabEx σ 1 254∧TabEx σ 2 289) (fun _ _=>False):=by
 refine AL (fn:=CR) rfl rfl ?_
 have fin:∀ σ',Tabs σ'→(V.bool true=V.bool true∧TabEx σ' 1 254∧TabEx σ' 2 289):=fun σ' t=>⟨rfl,t.a.ex,t.b.ex⟩
 refine HP 5 (Beg13 xs) (fun R hR=>VW hz hR) fun ρ' σ hI=>?_
 cases hI with | mk z m K ss bs far n k σ c0 b0 hS hnear s0 s1 s2 en ek=>
 have hm:=c0.hm
 have t:Tabs σ:=⟨.tab s1,.tab s2⟩
 refine HP 2 (fun ρ' σ'=>∃ g w,ρ'=[.ref 0,.int m,.ref n,.bool far,.ref k,.ref g,.int w,.undef,.undef,.undef,.undef,.undef,.undef,.undef,.undef]∧LawS xs m ss bs n k g σ') (fun R hR=>?_) fun ρ' σ hI=>?_
 ·dsimp only [CR,List.drop,List.take]
  refine EO (En.by m) En.box ek (Nat.le_trans b0.len (by decide)) (fun e he K hK=>?_) ?_
  ·dsimp only [En.box]
   wtm_at "mine"
   exact hK
  ·refine Cg (AB s0) (by decide) ?_
   wtm_at "mine"
   exact hR _ _ ⟨_,_,rfl,AB s0,t.pre AH,AB en,AB ek,AC⟩
 obtain ⟨g,w,rfl,L⟩:=hI
 refine HP 1 (fun ρ' σ'=>ρ'=[.ref 0,.int m,.ref n,.bool far,.ref k,.ref g,.int w,.undef,.undef,.undef,.undef,.undef,.undef,.undef,.undef]∧LawS xs m ss bs n k g σ') (fun R hR=>Rp L c0 b0 (fun σ' L'=>hR _ _ ⟨rfl,L'⟩) fun _ σ' t'=>fin σ' t') fun ρ' σ hI=>?_
 obtain ⟨rfl,L⟩:=hI
 refine HP 1 (fun ρ' σ'=>ρ'=[.ref 0,.int m,.ref n,.bool far,.ref k,.ref g,.int w,.undef,.undef,.undef,.undef,.undef,.undef,.undef,.undef]∧LawS xs m ss bs n k g σ') (fun R hR=>Rs L c0 b0 hS hnear (fun σ' L'=>hR _ _ ⟨rfl,L'⟩) fun _ σ' t'=>fin σ' t') fun ρ' σ hI=>?_
 obtain ⟨rfl,L⟩:=hI
 exact Ui L c0 b0 fun σ' t'=>fin σ' t'
theorem law13 (xs:List Int) (hz:xs.length≤63):callW (PB13.map (·.1)) 60 39 [.ref 0] [.list (xs.map .int),.tab 254,.tab 289] (fun v σ=>v=.bool true∧TabEx σ 1 254∧TabEx σ 2 289) (fun _ _=>False):=UG xs hz
end
end Mine

namespace Mine
open PySem PySem.Calls PySem.W PyProof.Rows
set_option maxRecDepth 100000 in
theorem Vg : ∀ w os, T3 PySem.Challenge.pw_uf030015_13 q13 (I9 wh13) 9000 w os = some (openGood q13 []) := by
  intro w os
  kernel_rfl
set_option maxRecDepth 100000 in
theorem left13 : LeftO PySem.Challenge.pw_uf030015_13 q13 [] (I9 wh13) (fun _ => ()) (fun _ => ()) 9000 := Tm rfl rfl (fun _ => rfl) Vg
end Mine
open PySem PySem.W PyProof.Rows
set_option maxRecDepth 100000 in
set_option maxHeartbeats 8000000 in
theorem PySem.Challenge.cw_uf030015_13_holds : PySem.Challenge.rw_uf030015_13.Holds := by
  w_on
  refine holds_law Mine.said13 fun said => ?_
  refine PySem.W.holds_open (XP := Mine.SeenP Mine.wh13) (YP := fun _ _ => True) Mine.left13 (fun _ _ _ => trivial) (fun _ _ _ _ _ => trivial) (fun _ h => Mine.seen_of h) (fun _ _ _ x k => x.keeps k) (by rfl) (by rfl) (by rfl) (fun s _ => recFacts_nil rfl) (by rfl) (by assumption) (by decide +kernel) ⟨rfl, rfl, rfl, rfl, rfl, by decide +kernel⟩ ?hw ?hc
  case hw => w_witness2
  intro w s₀ s₁ mg mb G Y fa o pm cd doc dV kV ho hd hcd hD hmg hg args vals as hpre hlay hrd hwl hlo
  have T := Ground.T G
  have TE := Ground.TE G
  have X := Ground.X G
  wrow_args hpre hlay hrd hwl hlo
  refine enter_call ?_
  obtain ⟨vs, e, hv⟩ := Mine.well_ints ‹Well _ _ _ _›
  refine Mine.law_go (P := Mine.PB13) (extra := 1) (i := 39) (d := 60) T TE X Mine.text13 Mine.reads13 Mine.hk13 (by kernel_rfl) (by decide) (by decide) hmg hg e hv (by omega) (fun _ => rfl) ?_ (Mine.law13 _ (by omega))
  wrow_post