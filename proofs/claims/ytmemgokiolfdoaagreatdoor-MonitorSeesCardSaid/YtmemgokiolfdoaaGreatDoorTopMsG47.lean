/- A part of the proof. -/
import Derived.Test.YtmemgokiolfdoaaGreatDoorTopMsG46
import Derived.Test.YtmemgokiolfdoaaGreatDoorTopMsG43
set_option maxRecDepth 100000
set_option maxHeartbeats 1000000
set_option linter.unusedSimpArgs false
set_option linter.unusedVariables false
namespace Go.Proofs.YtmemgokiolfdoaaGreatDoor
open Go Go.Fw Go.Proofs.Tryz
def qOg(l:List En)(i:Nat):List Value:=(l.take i).map λx=>iN ((x.v:Nat):Int)
theorem qQY{l:List En}{i:Nat}(h:i<l.length):qOg l i++ [iN (((l.getD i qAz).v:Nat):Int)]=qOg l (i+1):=by
 unfold qOg
 rw [jK h,jO,jB,jC h];rfl
theorem qT0(l:List En):qOg l l.length=l.map λx=>iN ((x.v:Nat):Int):=by unfold qOg;rw [jm]
theorem qNG(l:List En)(i:Nat): ∀v∈qOg l i,isI v:=λv hv=>by
 unfold qOg at hv
 obtain ⟨x,_,rfl⟩:=List.mem_map.1 hv
 trivial
structure ReR where
 A:Option Addr
 c:Nat
 m:Hp
 B:Option Addr
 d:Nat
 q:Hp
structure ReP (lb:xA) (k:Nat) (l:List En) (r:ReR):Prop where
 row:Row r.m 66 1 r.A 3 r.c (qB0 [iS lb,iN ((k:Nat):Int),.iface 177 (.slice r.B l.length r.d)])
 nums:Row r.q 66 1 r.B l.length r.d (qB0 (qOg l l.length))
theorem qXn(F:Hp)(gm gk:Nat)(lb:xA)(A:Option Addr)(n c:Nat)(l:List En)(hs:Sl F 5 A n c (qBz l))(hn:n≤1000000)(hM:qAG F ⟨gm,0,none⟩ [Str lb,.map (some gk),.slice A n c])(own:List Pk)(hk:qHi pkK F gk (qEq own))(hver: ∀x∈l,x.v≤9223372036854775807):Ct prog 35 [Ptr gm] [F] (λr:ReR=> .iface 177 (.slice r.A 3 r.c)) (ReP lb l.length (qCU own l)) (λr=> [F,r.m,r.q]):=by
 have hkn:l.length=n:=by have:=hs.1;simpa [qBz] using this
 have hSL:(qCU own l).length≤l.length:=zZ _ _
 refine Ct.walk func35 O ntmps35 O (λw0 hw0=>?_)
 refine J.f λ_ j1=>J.b O<|J.c j1<|J.k λ_ j2=>J.f λ_ j3=>J.b O<|J.g ((qA6 underlying76 O O O).as (v':= .bool false) O) O<|J.c j3<|J.a3 ?_
 refine J.M j2<|J.f λ_ j4=>J.b O<|J.c j4<|J.k λ_ j5=>J.f λ_ j6=>J.b O<|J.q (qBb O O (λF' hF=>qRO F' gm (gk) lb A n c l (hs.mono (Fa hF)) xB (hM.mono (Fa hF)) (own) (hk.mono (Fa hF)))) O ?_
 rintro⟨A10,c10,m10⟩ h10
 try dsimp only at h10
 refine J.g (qAO qCK O O) O<|J.b O<|J.c j6<|J.T<|J.b5 (X:=Nat×Option Addr×Nat×Hp) (λζ=> [(0,Ptr gm),(3,.slice ζ.2.1 ζ.1 ζ.2.2.1),(10,.slice A10 ((qCU own l).length) c10),(11,I ((qCU own l).length:Nat)),(12,I (ζ.1:Nat))]) (λζ=> [F,m10,ζ.2.2.2]) (λζ=>ζ.1≤(qCU own l).length∧Row ζ.2.2.2 66 1 ζ.2.1 ζ.1 ζ.2.2.1 (qB0 (qOg (qCU own l) ζ.1))) (λζ=>(qCU own l).length-ζ.1) (0,none,0,(λ_=>none)) (⟨jE _,qBZ.nil⟩) ⟨O,O,O,O,O,trivial⟩ (λ_ h=>h.empty.pick [0,1,2] xC) ?_
 rintro⟨i,A3,c3,m3⟩ ⟨hi,h3⟩ I0 hI0
 dsimp only at hi h3⊢
 refine J.f λ_ j7=>J.g (qAS O O O) O<|J.c j7<|J.k λ_ j8=>J.Z O (λh13=>?_) (λh13=>?_)
 ·
  refine J.M j8<|J.k λ_ j9=>J.T<|J.k λ_ j10=>?_
  have hvi:((qCU own l).getD i qAz).v≤9223372036854775807:=hver _ (List.mem_filter.1 (show((qCU own l).getD i qAz)∈l.filter _ by rw [jB,jC (show i<(qCU own l).length by omega)];exact jQ _)).1
  refine J.H<|J.g (qAF O O O qCK qAj h10.sl xB) O<|J.g (qAP O O qBB qAj (m:=m10) xD (h10.sl.elem (qCk xB)) O) O<|J.q (qAJ O qDe O) O λg5 _=>J.a7 (qAC (i:=3) (l:= [.int .u64 0,Str [],Str [],I 0,Str []]) (vs:= [N64 (((qCU own l).getD i qAz).v),Str (((qCU own l).getD i qAz).o),Str (((qCU own l).getD i qAz).r),I (((qCU own l).getD i qAz).h),Str (((qCU own l).getD i qAz).p)]) O O O O O qAj O O) O O λ_ _=>J.c j10<|J.H<|J.b O<|J.W 0 qCA qDs O O O O O<|J.a6 3 qEv O O O O O<|J.g (qDJ O O qEV u2_ xB) O<|J.q (qAZ O O (λF' hF=>qRs F' (((((qCU own l).getD i qAz).v:Nat)):Int))) O λg20 _=>J.q (qAE (l:= [.tmp 20]) (xs:= [[iN ((((qCU own l).getD i qAz).v:Nat):Int)]]) O O O O qYu el66 O xC xC xD) O λg21 _=>?_
  change J _ _ _ [_,_,_,_,blk g21 [iN ((((qCU own l).getD i qAz).v:Nat):Int)] 66] _
  refine J.q (qAX (i:=2) (xs:=qB0 (qOg (qCU own l) i)) (m2:=blk g21 [iN ((((qCU own l).getD i qAz).v:Nat):Int)] 66) (ys:= [[iN ((((qCU own l).getD i qAz).v:Nat):Int)]]) O O O qYu qYu el66 O h3 xD ((qBO (q:=True) (qB0 [iN ((((qCU own l).getD i qAz).v:Nat):Int)]) O (by simp [qB0]) O).sl) O xB xB) O ?_
  rintro⟨A22,c22,m22⟩ h22
  try dsimp only at h22
  change J _ ((22,.slice A22 (i+1) c22)::_) _ [_,_,m22,_,_] _
  rw [←qON] at h22
  refine J.b O<|J.a4<|J.a2<|J.u (J.D j9 ?_)
  exact J.H<|J.g ((qAR O O O xB).nat (i+1) xB) O<|J.b O<|J.a4<|J.u<|J.a8 (i+1,A22,c22,m22) (λη (hη:_∧(qCU own l).length-η.1<(qCU own l).length-i)=>hI0 η hη.1 hη.2) ⟨⟨by dsimp only;omega,by dsimp only;rw [←qQY xB];exact h22⟩,by first|omega|(dsimp only;omega)⟩ ⟨O,O,O,O,O,trivial⟩ (λ_ h=>h.pick [0,1,2] xC)
 refine J.b3<|J.a0<|J.a0<|J.b4 ?_
 refine J.u (J.D j5 ?_)
 refine J.k λ_ j11=>?_
 obtain rfl:i=(qCU own l).length:=by omega
 refine J.b1 [F,m10,m3] [] (.y 0 (.y 1 (.y 2 (.y 3 (.y 5 (.y 6 (.y 7 (.y 8 (.y 9 (.y 11 (.e 4 (.e 10 (.e 12 (.e 13 (.e 14 (.y 15 .nil)))))))))))))))) Tryz.wide xF xD ?_
 refine J.L ?_
 refine J.j O (qAB O O) O O<|J.j O (qAA O O qHo O z9_ O) O O<|J.j O (qAI O O b9_ (m:=F) xD (hM.at (i:=0) O)) O O<|J.L ?_
 refine J.j O (qAB O O) O O<|J.j O (qAA O O qHo O qLi O) O O<|J.j O (qAI O O qOD (m:=F) xD (hM.at (i:=2) O)) O O<|J.j O (qAO qCK O O) O O<|J.L ?_
 refine J.a1 O (qAZ O O (λF' hF=>qUv F' lb)) O xD λg28 _=>J.a1 O (qAZ O O (λF' hF=>qRs F' ((n:Nat):Int))) O xD λg34 _=>J.a1 O (qBb O O (λF' hF=>qNv F' A3 (qCU own l).length c3 (qOg (qCU own l) (qCU own l).length) (h3.sl.mono (Fa hF)) (qNG _ _) xB)) O xD ?_
 rintro⟨A36,c36,m36⟩ h36
 try dsimp only at h36
 refine J.a1 O (qAE (l:= [.tmp 28,.tmp 34,.tmp 36]) (xs:= [[iS (lb)],[iN ((n:Nat):Int)],[.iface 177 (.slice A36 (qCU own l).length c36)]]) O O O O qYu el66 O xC xC xD) O xD λg37 _=>J.a1 O (qBb O O (λF' hF=>qNv F' (some ⟨g37,0,none⟩) 3 3 [iS (lb),iN ((n:Nat):Int),.iface 177 (.slice A36 (qCU own l).length c36)] ((qBO (q:=True) (qB0 [iS (lb),iN ((n:Nat):Int),.iface 177 (.slice A36 (qCU own l).length c36)]) O (by simp [qB0]) O).sl.mono (hF (blk g37 [iS (lb),iN ((n:Nat):Int),.iface 177 (.slice A36 (qCU own l).length c36)] 66) xD)) (by simp [isI]) xB)) O xD ?_
 rintro⟨A38,c38,m38⟩ h38
 try dsimp only at h38
 refine J.b7 ?_
 refine J.b0<|J.u (J.D j11 ?_)
 exact J.A<|J.E hw0 O (⟨A38,c38,m38,A36,c36,m36⟩:ReR) O ⟨by rw [hkn];exact h38,h36⟩ [0,5,3] O xC
def qEE(l:List Bool):List (List Value):=l.map λb=> [.bool b]
theorem qIk{l:List Bool}{k:Nat}(h:k<l.length):(qEE l)[k]?=some [.bool (l.getD k false)]:=by
 unfold qEE;rw [jN,jC h,jB,jC h];rfl
theorem qPL(l:List Bool)(k:Nat)(b:Bool):(qEE l).set k [.bool b]=qEE (l.set k b):=by simp [qEE,List.map_set]
theorem qKE(F:Hp)(A:Option Addr)(n c:Nat)(t:List Nat)(hs:Sl F 1 A n c (qBp t))(hn:n≤1000)(B:Option Addr)(m d:Nat)(ow:List Bool)(hs2:Sl F 1 B m d (qEE ow))(hmb:m≤1000)(hm: ∀k∈t,k<m):Ct prog 33 [.slice A n c,.slice B m d] [F] (λx:Option Addr×Nat×Hp=> .slice x.1 (qIz ow t n).length x.2.1) (λx=>Row x.2.2 2 1 x.1 (qIz ow t n).length x.2.1 (qB6 (qIz ow t n))) (λx=> [F,x.2.2]):=by
 have hln:t.length=n:=by have:=hs.1;simpa [qBp] using this
 have hlm:ow.length=m:=by have:=hs2.1;simpa [qEE] using this
 refine Ct.walk func33 O ntmps33 O (λw0 hw0=>?_)
 refine J.f λ_ j1=>J.b O<|J.c j1<|J.f λ_ j2=>J.b O<|J.c j2<|J.k λ_ j3=>J.f λ_ j4=>J.b O<|J.c j4<|J.T<|J.b5 (X:=Nat×List Int×Option Addr×Nat×Hp) (λζ=> [(0,.slice A n c),(1,.slice B m d),(5,.slice ζ.2.2.1 ζ.2.1.length ζ.2.2.2.1),(6,I (ζ.1:Nat))]) (λζ=> [F,ζ.2.2.2.2]) (λζ=>ζ.1≤n∧Row ζ.2.2.2.2 2 1 ζ.2.2.1 ζ.2.1.length ζ.2.2.2.1 (qB6 ζ.2.1)∧ζ.2.1.length≤ζ.1∧ζ.2.1=qIz ow t ζ.1) (λζ=>n-ζ.1) (0,[],none,0,(λ_=>none)) (⟨jE _,qBZ.nil,jJ _,O⟩) ⟨O,O,O,O,trivial⟩ (λ_ h=>h.empty.pick [0,1] xC) ?_
 rintro⟨i,l5,A5,c5,m5⟩ ⟨hi,h5,hl5,he5⟩ I0 hI0
 dsimp only at hi h5 hl5 he5⊢
 refine J.k λ_ j5=>J.f λ_ j6=>J.p 2 O<|J.g (qAO qEa O O) O<|J.g (qAS O O O) O<|J.c j6<|J.Z O (λh10=>?_) (λh10=>?_)
 ·
  refine J.M j5<|J.k λ_ j7=>J.T<|J.k λ_ j8=>?_
  have htm:t.getD i 0<m:=hm _ (by rw [jB,jC (show i<t.length by omega)];exact jQ _)
  refine J.H<|J.p 3 O<|J.g (qAF O O O qEa z3_ hs xB) O<|J.g (qAI O O b3_ (m:=F) xD (hs.elem (qDL xB))) O<|J.g (qAF O O O underlying79 z4_ hs2 xB) O<|J.g (qAI O O b4_ (m:=F) xD (hs2.elem (qIk xB))) O<|J.g (qAs O O) O<|J.c j8<|J.c5 O (λh20=>?_) (λh20=>?_)
  ·
   refine J.H<|J.p 2 O<|J.g ((qAR O O O xB).nat (i+1) xB) O<|J.q (qAE (l:= [.tmp 23]) (xs:= [[I (((i+1:Nat):Int))]]) O O O O qPS el2 O xC xC xD) O λg24 _=>J.q (qAX (i:=1) (m2:=blk g24 [I (((i+1:Nat):Int))] 2) O O O qPS qPS el2 O h5 xD ((qBO (q:=True) (qB6 [((i+1:Nat):Int)]) O (by simp [qB6]) O).sl) O xB xB) O ?_
   rintro⟨A25,c25,m25⟩ h25
   try dsimp only at h25
   replace h25:Row m25 2 1 A25 (l5.length+1) c25 (qB6 (l5++ [((i+1:Nat):Int)])):=by rw [qIZ];exact h25
   rw [show l5.length+1=(l5++ [((i+1:Nat):Int)]).length by rw [jA];rfl] at h25⊢
   refine J.b O<|J.a4<|J.a2<|J.u (J.D j7 ?_)
   exact J.H<|J.b O<|J.g ((qAR O O O xB).nat (i+1) xB) O<|J.b O<|J.a4<|J.u<|J.a8 (i+1,(l5++ [((i+1:Nat):Int)]),A25,c25,m25) (λη (hη:_∧n-η.1<n-i)=>hI0 η hη.1 hη.2) ⟨⟨by dsimp only;omega,h25,by dsimp only;rw [jA,jH];omega,by dsimp only;rw [qIz,if_neg (by simpa using h20),he5]⟩,by first|omega|(dsimp only;omega)⟩ ⟨O,O,O,O,trivial⟩ (λ_ h=>h.pick [0,1] xC)
  refine J.b2<|J.a2<|J.u (J.D j7 ?_)
  exact J.H<|J.b O<|J.g ((qAR O O O xB).nat (i+1) xB) O<|J.b O<|J.a4<|J.u<|J.a8 (i+1,l5,A5,c5,m5) (λη (hη:_∧n-η.1<n-i)=>hI0 η hη.1 hη.2) ⟨⟨by dsimp only;omega,h5,by dsimp only;omega,by dsimp only;rw [qIz,if_pos (by simpa using h20),he5]⟩,by first|omega|(dsimp only;omega)⟩ ⟨O,O,O,O,trivial⟩ (λ_ h=>h)
 refine J.b3<|J.a0<|J.a0<|J.b4 ?_
 refine J.u (J.D j3 ?_)
 refine J.k λ_ j9=>?_
 obtain rfl:i=n:=by omega
 subst he5
 exact J.H<|J.p 2 O<|J.c j9<|J.A<|J.E hw0 O (A5,c5,m5) O h5 [0,1] O xC
attribute [local irreducible] Sha.tagged Wo.pub Wo.publicOf Wo.signs Wo.ends Wo.digs Wo.walk Wo.opn Mk.root Mk.path Mk.climb Xm.root sgC sgP qBH qBX qCO sgB normal qAM SN.tagN
theorem qIc: ∀(l:List Sm.PR) {k j:xA} (v:xA),k≠j→Sm.getP (Sm.putP l k v) j=Sm.getP l j
  | [],k,j,v,h=>by show(if k=j then _ else _)=_;rw [if_neg h]
  |p::r,k,j,v,h=>by
    rw [Sm.putP]
    split
    · rename_i e
      show(if k=j then _ else Sm.getP r j)=(if p.1=j then _ else Sm.getP r j)
      rw [if_neg h,if_neg (λq=>h (e.symm.trans q))]
    · show(if p.1=j then _ else Sm.getP (Sm.putP r k v) j)=(if p.1=j then _ else Sm.getP r j)
      rw [qIc r v h]
def SvR.putT(x:SvR)(l:List En)(n b:Nat)(y:SbR):SvR:=x.e1 ALI (l.length+1) (Wo.opn (OWS n)) (Xm.root (OWS n) 0) ((0:Nat):Int) (qJA l) 0 (sgC (OWS b) 0 (qEd ALI (l.length+1) (Wo.opn (OWS n)) (Xm.root (OWS n) 0) ((0:Nat):Int) (qJA l))) (sgP (OWS b) 0 0) y
structure RI (i:Nat) (l:List En) (x:SvR):Prop where
 ep:EpE i x
 nx:qBC (lbE x.nxt) ALI=l
 nw:qBC (lbE x.now) ALI=l
 no:x.no= []
 cl:x.cl= []
 sz:x.bk.size=300
 e:x.bk.e≤25*i
theorem RI.new{x:SvR}(h:qS2 x):RI 0 [] x:=⟨h.toBasE.ep,by rw [h.nxt];rfl,by rw [h.now];rfl,h.no,h.cl,h.sz,by rw [h.e0];exact jE _⟩
section
variable{i:Nat}{l:List En}{x:SvR}(h:RI i l x){n b:Nat}{y:SbR}
include h
theorem RI.ep2:EpE i (x.putT l n b y):=⟨h.ep.dp,h.ep.hl,h.ep.tl,h.ep.an,h.ep.hdr,h.ep.get⟩
theorem RI.nx2:qBC (lbE (x.putT l n b y).nxt) ALI=l++ [nxE l n]:=by
 unfold SvR.putT
 rw [SvR.sub_nxt,qNy,if_pos rfl,h.nx];rfl
theorem RI.need(hI:SvI (x.putT l n b y)):qCh ((x.putT l n b y).no++ [cmB (x.putT l n b y).no.length (x.putT l n b y).hd.length])≤25:=by
 obtain ⟨nt,hnt⟩: ∃nt,(x.putT l n b y).no=x.no++ [nt]:=⟨_,rfl⟩
 have h9:=hI.n9 nt (by rw [hnt];exact jW _ (.head _))
 have h24:=qD2 h9
 rw [hnt,h.no,qCF,qN5]
 show qCh ([]++ [nt])+1≤25
 rw [qCF,show qCh []=0 from rfl];omega
theorem RI.room(hi:i≤5)(hI:SvI (x.putT l n b y)):(x.putT l n b y).bk.e+qCh ((x.putT l n b y).no++ [cmB (x.putT l n b y).no.length (x.putT l n b y).hd.length])≤(x.putT l n b y).bk.size:=by
 have h1:=h.need hI
 have h2:=h.e
 have h3:=h.sz
 show x.bk.e+_≤x.bk.size
 omega
theorem RI.kv(hI:SvI (x.putT l n b y))(r:StR×WrR):((x.putT l n b y).pub r).kvL=Sm.putP x.kvL (Sha.tagged 11 [ALI]) (nxE l n).val:=by
 rw [SvR.pub_kvL _ r hI.tk]
 have hc:(x.putT l n b y).cl= [⟨Sha.tagged 11 [ALI],(nxE l n).val⟩]:=by show x.cl++ [_]=_;rw [h.cl];rfl
 have hb:qCz [(⟨Sha.tagged 11 [ALI],(nxE l n).val⟩:Chg)] 0 0= [⟨Sha.tagged 11 [ALI],(nxE l n).val⟩]:=by
  unfold qCz
  rw [zx (by rw [qZM];rfl)];rfl
 rw [hc,show(x.putT l n b y).dp=0 from h.ep.dp]
 show kvC _ (qCz _ 0 0)=_
 rw [hb];rfl
theorem RI.pub(hi:i≤5)(hI:SvI (x.putT l n b y)){m G G2:Hp}{r:StR×WrR}(hp:PbP m G G2 (x.putT l n b y) r):RI (i+1) (l++ [nxE l n]) ((x.putT l n b y).pub r) where
 ep:=h.ep2.pub xB hI r (by rw [h.kv hI,qIc _ _ (λe=>plNA e.symm)];exact h.ep.get)
 nx:=h.nx2 (n:=n) (b:=b) (y:=y)
 nw:=(qQh hp hI _).trans (h.nx2 (n:=n) (b:=b) (y:=y))
 no:=rfl
 cl:=rfl
 sz:=by show r.2.x.size=300;rw [hp.bk.sz];exact h.sz
 e:=by
  have h1:=h.need hI
  have h2:=h.e
  show r.2.x.e≤_
  rw [hp.bk.e]
  show x.bk.e+_≤_
  omega
theorem RI.get(hI:SvI (x.putT l n b y))(r:StR×WrR):Sm.getP ((x.putT l n b y).pub r).kvL (Sha.tagged 11 [ALI])=some (nxE l n).val:=by
 rw [h.kv hI];exact qHS _ _ _
end
theorem qTq(F ms G:Hp)(hK:qAG F ⟨3,0,none⟩ (Sha.K.map W32))(hA:qAG F ⟨0,0,none⟩ qBT)(hT_:qBv F)(hGF:Le G F)(x:SvR)(hS:Srv ms G x)(gr:Nat)(vc vk vu:Value)(hw:qAG F ⟨gr,0,none⟩ [Ptr x.gs,vc,vk,vu]){i:Nat}{t:List Nat}{l:List En}(h:RI i l x)(hT:TD t l)(n a:Nat)(hn:n≤3)(ha:a≤3)(hat:0<t.length→a=t.getD (t.length-1) 0):Ct prog 29 [Ptr gr,Str ALI,I (n:Nat),I (a:Nat)] [ms,F] (λ_:Hp×SbR=> .bool true) (λy=>Srv y.1 G (x.putT l n (if l.length=0 then n else a) y.2)) (λy=> [y.1,F]):=by
  have hno:x.no.length<256:=by rw [h.no];decide
  by_cases h0:t.length=0
  · have hl:l= []:=jT (hT.len.trans h0)
    subst hl
    have:=qQR F ms G hK hA hT_ hGF x hS gr vc vk vu (I (a:Nat)) hw ALI xC qKx n hn hno h.nx h.nw
    exact this
  · have hp:0<t.length:=by omega
    obtain ⟨e1,e2⟩:=hT.last hp
    have hl:=hT.len
    rw [if_neg xB]
    have h10:=hT.t10
    have e3:qJA l=(qDR t.length a (qJA (l.take (t.length-1)))).val:=by
      unfold qJA
      rw [if_neg xB,e2,hat hp];rfl
    have:=qTr F ms G hK hA hT_ hGF x hS gr vc vk vu hw ALI xC qKx (l.take (t.length-1)) t.length a (qJA (l.take (t.length-1))) (by rw [jF];omega) xB (hT.p16 _ xB) n hn ha hno (by rw [h.nx,hat hp];exact e1) (by rw [h.nw,hat hp];exact e1)
    rw [←e3] at this
    unfold SvR.putT
    rw [hl]
    exact this
theorem qRQ(F:Hp)(A:Option Addr)(c:Nat)(lb:xA)(k:Nat)(B:Option Addr)(n d:Nat)(l:List En)(hl:l.length=n)(hn:n≤1000)(hs:Sl F 1 A 3 c (qB0 [iS lb,iN ((k:Nat):Int),.iface 177 (.slice B n d)]))(hb:Sl F 1 B n d (qB0 (qOg l n))):Ct prog 23 [.iface 177 (.slice A 3 c)] [F] (λx:Option Addr×Nat×Hp=> .tuple #[Str lb,I (k:Nat),.slice x.1 n x.2.1,I (0:Nat)]) (λx=>Row x.2.2 2 1 x.1 n x.2.1 (qB6 (qLx l))) (λx=> [F,x.2.2]):=by
 subst hl
 have hvl:(qLx l).length=l.length:=jP _
 have hv:=NV.yes B l.length d (qOg l l.length) hb (qNG _ _) xB (qLx l) (Nat.le_of_eq hvl) (λi hi=>by
  rw [hvl] at hi
  unfold qLx
  rw [qT0,jB,jN,jC hi,jB,jN,jC hi];rfl) (λh=>absurd h xB)
 rw [if_pos hvl] at hv
 have h:=qUT F A 3 c [iS lb,iN ((k:Nat):Int),.iface 177 (.slice B l.length d)] hs (by simp [isI]) xC (some (qLx l)) hv lb true O ((k:Nat):Int) true O
 have e:rdE 3 true true (some (qLx l)) ((k:Nat):Int)=0:=by unfold rdE;rw [show rdB 3 true true (some (qLx l))=true from rfl,if_pos O,if_neg xB]
 have e2:rdN 3 true true (some (qLx l)) ((k:Nat):Int)=qLx l:=by unfold rdN;rw [e];rfl
 rw [e,if_pos rfl,if_pos rfl,e2,hvl] at h
 exact h
end Go.Proofs.YtmemgokiolfdoaaGreatDoor
namespace Go.Proofs.YtmemgokiolfdoaaGreatDoor
open Go Go.Fw Go.Proofs.Tryz
attribute [local irreducible] Sha.tagged Wo.pub Wo.publicOf Wo.signs Wo.ends Wo.digs Wo.walk Wo.opn Mk.root Mk.path Mk.climb Xm.root sgC sgP qBH qBX sgB normal qAM SN.tagN
attribute [local irreducible] kvT qCO
theorem qE9(ow:List Bool)(k:Nat):qG7 ow (k+1)=qG7 ow k++(if ow.getD k false=true then [kyO k] else []):=by
 unfold qG7
 rw [jx,jo,jO]
 congr 1
 split
 · rename_i h;rw [zx (p:=λn=>ow.getD n false) h];rfl
 · rename_i h;rw [List.filter_cons_of_neg (p:=λn=>ow.getD n false) h];rfl
theorem qHT(l:List Bool)(k j:Nat)(h:k<l.length):(l.set k true).getD j false=if k=j then true else l.getD j false:=by
 rw [jB,zC]
 split
 · subst_vars;simp [h]
 · rw [←jB]
theorem qNT{ow:List Bool}{k:Nat}(h:k<ow.length): ∀j,j≤k→qG7 (ow.set k true) j=qG7 ow j
 |0,_=>rfl
 |j+1,hj=>by
  have e:(ow.set k true).getD j false=ow.getD j false:=by rw [qHT _ _ _ h,if_neg xB]
  rw [qE9,qE9,qNT h j xB,e]
theorem qUC{ow:List Bool}{k:Nat}(h:k<ow.length):qG7 (ow.set k true) (k+1)=qG7 ow k++ [kyO k]:=by
 have e:(ow.set k true).getD k false=true:=by rw [qHT _ _ _ h,if_pos rfl]
 rw [qE9,qNT h k (jJ _),e,if_pos rfl]
theorem qXK{ow:List Bool}{k:Nat}(h:ow.getD k false=false):qG7 ow (k+1)=qG7 ow k:=by
 rw [qE9,h,if_neg xC,jR]
structure RdI (ow:List Bool) (gk i:Nat) (t:List Nat) (l:List En) (x:SvR) (a:Nat) (hd:List RhD) (ms H:Hp):Prop where
 td:TD t l
 ti:t.length=i
 i5:i≤5
 ri:RI i l x
 s:Srv ms H x
 key:qOH H gk SDA 3
 hl:hd.length=i+1
 hx:qA7 (hd.getD (hd.length-1) qAY)=qA7 x.hdL
 ha:(hd.getD (hd.length-2) qAY).aud=1
 hn:nsl H (hd.getD (hd.length-1) qAY)
 st:qLx (qCU (qG7 ow 4) l)=qIz ow t t.length
 a3:a≤3
 at_:0<t.length→a=t.getD (t.length-1) 0
theorem qY0{own:List Pk}{l:List En}{x:En}:qID ALI ALI 0 l (l++ [x])=0:=by
 unfold qID
 rw [if_neg (λh=>h rfl),if_neg (λh=>h rfl),if_neg (by rw [jA];omega),if_neg (λh=>h (List.take_left' rfl))]
theorem qQJ(F:Hp)(hK:qAG F ⟨3,0,none⟩ (Sha.K.map W32))(hA:qAG F ⟨0,0,none⟩ qBT)(hT:qBv F)(A0:Option Addr)(n0 c0:Nat)(l0:xA)(sl0:Sl F 1 A0 n0 c0 (qAf l0))(w8:UInt8):Cz prog 5 [.slice A0 n0 c0,B8 (w8)] F (.bool true):=by
 have hln:l0.length=n0:=by have:=sl0.1;simpa [qAf] using this
 refine Ct.walk func5 O ntmps5 O (λw0 hw0=>?_)
 refine J.f λ_ j1=>J.b O<|J.c j1<|J.k λ_ j2=>J.f λ_ j3=>J.q (qAZ O O (λF' hF=>qL5 F' (hK.mo hF) (hA.mono (Fa hF)) (hT.mono (Fa hF)))) O λg24 _=>J.g ((qAs O O).as (v':= .bool false) O) O<|J.c j3<|J.a3 ?_
 refine J.M j2<|J.f λ_ j4=>J.q (qBb O O (λF' hF=>qKv F' (hK.mo hF) (hA.mono (Fa hF)) (hT.mono (Fa hF)))) O ?_
 rintro⟨gr,gk,gc,gh,x0,p,ms0,G,km⟩ hP
 try dsimp only at hP
 obtain ⟨hS0,hN,hp,hpn0,hkey0⟩:=hP
 dsimp only at hS0 hN hp hpn0 hkey0
 refine J.b O<|J.c2 [2,3,4,5,6,1,0] [G,km,blk gc [I (1:Nat),I (1:Nat),.slice (some ⟨gh,0,none⟩) 1 1] 279,blk gh [N64 (p.ep),Str (p.par),I (p.dep:Nat),I (p.aud:Nat),.slice p.nsA p.ns.length p.nsc] 52,blk gr [Ptr x0.gs,Ptr gc,Ptr gk,I (0:Nat)] 93,ms0,F] O xC<|J.d5 (λhj0=>?_)
 refine J.c j4<|J.k λ_ j5=>?_
 obtain ⟨H0,hH0⟩: ∃q,q=U [G,km]:=⟨_,rfl⟩
 rw [←hH0]
 have l1:Le G H0:=by rw [hH0];exact qSw hj0
 have l2:Le km H0:=by rw [hH0];exact qYj hj0
 have hS:Srv ms0 H0 x0:=hS0.mono l1
 have hkey:qOH H0 gk SDA 3:=hkey0.mono l2
 have hpn1:nsl H0 p:=hpn0.mono l1
 have hpE:qA7 p=pE:=by rw [←hp];exact hN.h0
 have hpa:p.aud=1:=yJ (congrArg Hd.aud hpE)
 have hl1:qA7 (([p]:List RhD).getD (([p]:List RhD).length-1) qAY)=qA7 x0.hdL:=by
  show qA7 p=qA7 (x0.hd.getD (x0.hd.length-1) qAY)
  rw [hN.hd1,←hp]
 refine J.H<|J.q (qBb O O (λF' hF=>qRS F' (hA.mono (Fa hF)) (hT.mono (Fa hF)) [97,108,105,99,101] xC qKx)) O ?_
 rintro⟨gm,gq⟩ _
 refine J.p 5 O<|J.c j5<|J.f λ_ j6=>J.q (qBx (n':=4) O O underlying79 el4 xB xB) O ?_
 rintro g31 _
 refine J.b O<|J.c j6<|J.k λ_ j7=>J.f λ_ j8=>J.b O<|J.c j8<|J.T<|J.b5 (X:=Nat×List Bool×Hp×Hp) (λζ=> [(0,.slice A0 n0 c0),(1,B8 (w8)),(5,Ptr gr),(6,Ptr gm),(8,.slice (some ⟨g31,0,none⟩) 4 4),(9,I (ζ.1:Nat))]) (λζ=> [ζ.2.2.1,ζ.2.2.2,blk gm [Str [97,108,105,99,101],.map (some gq),.slice none 0 0] 195,H0,blk gc [I (1:Nat),I (1:Nat),.slice (some ⟨gh,0,none⟩) 1 1] 279,blk gh [N64 (p.ep),Str (p.par),I (p.dep:Nat),I (p.aud:Nat),.slice p.nsA p.ns.length p.nsc] 52,blk gr [Ptr x0.gs,Ptr gc,Ptr gk,I (0:Nat)] 93,ms0,F]) (λζ=>ζ.1≤4∧Row ζ.2.2.1 4 1 (some ⟨g31,0,none⟩) 4 4 (qEE ζ.2.1)∧qF0 pkK ζ.2.2.2 gq (qEq (qG7 ζ.2.1 ζ.1))∧(∀j,ζ.1≤j→ζ.2.1.getD j false=false)) (λζ=>4-ζ.1) (0,(List.replicate 4 false),blk g31 (List.replicate 4 [Value.bool false]).flatten 4,qAN gq (.map #[] 0)) (⟨jE _,qAm (q:=True) (sz:=1) (xs:=qEE (List.replicate 4 false)) O (by intro x hx;obtain ⟨_,_,rfl⟩:=List.mem_map.1 hx;rfl),qF0.nil pkK gq,λj _=>by match j with|0|1|2|3=>rfl|j+4=>rfl⟩) ⟨O,O,O,O,O,O,trivial⟩ (λ_ h=>h.pick [8,6,7,0,1,2,3,4,5] xC) ?_
 rintro⟨i,ow,mo,mq⟩ ⟨hi,hro,hmq,hoz⟩ I0 hI0
 dsimp only at hi hro hmq hoz⊢
 refine J.k λ_ j9=>J.f λ_ j10=>J.b O<|J.g (qAS O O O) O<|J.c j10<|J.Z O (λh33=>?_) (λh33=>?_)
 ·
  refine J.M j9<|J.k λ_ j11=>J.T<|J.k λ_ j12=>?_
  have hol:ow.length=4:=by have:=hro.sl.1;simpa [qEE] using this
  refine J.H<|J.p 2 O<|J.g (qME O O O) O<|J.g (qQ8 (b:=1) O O O) O<|J.g (qAe O O O) O<|J.c j12<|J.Z O (λh40=>?_) (λh40=>?_)
  ·
   refine J.f λ_ j13=>J.p 2 O<|J.g (qAh (i:=i) (j:=0+i*1) O O O underlying79 z4_ xB xB) O<|J.a7 (qBL (i:=0) (k:=i) (off:=0) (b:= [.bool (true)]) O O O O hro (vs:= [.bool (true)]) O z4_ O xB (qIk xB) O (jJ _)) O O ?_
   rintro m10_1 hm10_1
   rw [qPL] at hm10_1
   refine J.c j13<|J.H<|J.p 2 O<|J.q (qBb O O (λF' hF=>qCE F' (hK.mo hF) i xB)) O ?_
   rintro⟨g46,m46⟩ h46
   try dsimp only at h46
   refine J.q (qAZ O O (λF' hF=>qEw F' g46 (OWS i) 0 (h46.mono (Fa hF)))) O λg47 _=>J.c2 [2,1,0,3,4,5,6,7,8,9] [blk gm [Str [97,108,105,99,101],.map (some gq),.slice none 0 0] 195,mq,m10_1,H0,blk gc [I (1:Nat),I (1:Nat),.slice (some ⟨gh,0,none⟩) 1 1] 279,blk gh [N64 (p.ep),Str (p.par),I (p.dep:Nat),I (p.aud:Nat),.slice p.nsA p.ns.length p.nsc] 52,blk gr [Ptr x0.gs,Ptr gc,Ptr gk,I (0:Nat)] 93,ms0,F,m46] O xC<|J.q (qAK O O ent (Ct.useA [blk gm [Str [97,108,105,99,101],.map (some gq),.slice none 0 0] 195,mq] [m10_1,H0,blk gc [I (1:Nat),I (1:Nat),.slice (some ⟨gh,0,none⟩) 1 1] 279,blk gh [N64 (p.ep),Str (p.par),I (p.dep:Nat),I (p.aud:Nat),.slice p.nsA p.ns.length p.nsc] 52,blk gr [Ptr x0.gs,Ptr gc,Ptr gk,I (0:Nat)] 93,ms0,F,m46] (A':=λm:Hp=> [blk gm [Str [97,108,105,99,101],.map (some gq),.slice none 0 0] 195,m]) (new:=λ_=> []) (λF' hF=>qRR F' mq gm gq [97,108,105,99,101] none 0 0 (qG7 ow i) hmq (kyO i) (λh=>Nat.lt_irrefl i ((qMC xB xB).1 h).1)))) O ?_
   rintro mk48 hk48
   refine J.a4<|J.a2<|J.u (J.D j11 ?_)
   exact J.H<|J.b O<|J.g ((qAR O O O xB).nat (i+1) xB) O<|J.b O<|J.a4<|J.u<|J.a8 (i+1,(ow.set i true),m10_1,mk48) (λη (hη:_∧4-η.1<4-i)=>hI0 η hη.1 hη.2) ⟨⟨by dsimp only;omega,hm10_1,by dsimp only;rw [qUC xB];exact hk48,λj hj=>by dsimp only at hj⊢;rw [qHT _ _ _ xB,if_neg xB];exact hoz j xB⟩,by first|omega|(dsimp only;omega)⟩ ⟨O,O,O,O,O,O,trivial⟩ (λ_ h=>h.pick [2,1,0,3,4,5,6,7,8] xC)
  refine J.b2<|J.a2<|J.u (J.D j11 ?_)
  exact J.H<|J.b O<|J.g ((qAR O O O xB).nat (i+1) xB) O<|J.b O<|J.a4<|J.u<|J.a8 (i+1,ow,mo,mq) (λη (hη:_∧4-η.1<4-i)=>hI0 η hη.1 hη.2) ⟨⟨by dsimp only;omega,hro,by dsimp only;rw [qXK (hoz i (jJ _))];exact hmq,λj hj=>hoz j (by dsimp only at hj;omega)⟩,by first|omega|(dsimp only;omega)⟩ ⟨O,O,O,O,O,O,trivial⟩ (λ_ h=>h)
 refine J.b3<|J.a0<|J.a0<|J.b4 ?_
 refine J.u (J.D j7 ?_)
 refine J.k λ_ j14=>?_
 obtain rfl:i=4:=by omega
 have hol:ow.length=4:=by have:=hro.sl.1;simpa [qEE] using this
 refine J.H<|J.b O<|J.c j14<|J.f λ_ j15=>J.b O<|J.c j15<|J.k λ_ j16=>J.f λ_ j17=>J.b O<|J.c j17<|J.T<|J.b5 (X:=Nat×List Nat×List En×SvR×Nat×List RhD×Option Addr×Nat×Hp×Option Addr×Nat×Hp×Option Addr×Nat×Hp×Hp×Hp) (λζ=> [(0,.slice A0 n0 c0),(5,Ptr gr),(6,Ptr gm),(8,.slice (some ⟨g31,0,none⟩) 4 4),(10,.slice ζ.2.2.2.2.2.2.1 ζ.2.1.length ζ.2.2.2.2.2.2.2.1),(11,I (ζ.2.2.2.2.1:Nat)),(12,I (ζ.1:Nat))]) (λζ=> [ζ.2.2.2.2.2.2.2.2.1,ζ.2.2.2.2.2.2.2.2.2.2.2.1,blk gm [Str [97,108,105,99,101],.map (some gq),.slice ζ.2.2.2.2.2.2.2.2.2.1 ζ.2.2.1.length ζ.2.2.2.2.2.2.2.2.2.2.1] 195,mq,mo,blk gc [I (1:Nat),I (1:Nat),.slice ζ.2.2.2.2.2.2.2.2.2.2.2.2.1 ζ.2.2.2.2.2.1.length ζ.2.2.2.2.2.2.2.2.2.2.2.2.2.1] 279,ζ.2.2.2.2.2.2.2.2.2.2.2.2.2.2.1,blk gr [Ptr ζ.2.2.2.1.gs,Ptr gc,Ptr gk,I (ζ.1:Nat)] 93,ζ.2.2.2.2.2.2.2.2.2.2.2.2.2.2.2.1,ζ.2.2.2.2.2.2.2.2.2.2.2.2.2.2.2.2,F]) (λζ=>RdI ow gk ζ.1 ζ.2.1 ζ.2.2.1 ζ.2.2.2.1 ζ.2.2.2.2.1 ζ.2.2.2.2.2.1 ζ.2.2.2.2.2.2.2.2.2.2.2.2.2.2.2.1 ζ.2.2.2.2.2.2.2.2.2.2.2.2.2.2.2.2∧Row ζ.2.2.2.2.2.2.2.2.1 3 1 ζ.2.2.2.2.2.2.1 ζ.2.1.length ζ.2.2.2.2.2.2.2.1 (qBp ζ.2.1)∧Row ζ.2.2.2.2.2.2.2.2.2.2.2.1 102 5 ζ.2.2.2.2.2.2.2.2.2.1 ζ.2.2.1.length ζ.2.2.2.2.2.2.2.2.2.2.1 (qBz ζ.2.2.1)∧Row ζ.2.2.2.2.2.2.2.2.2.2.2.2.2.2.1 52 5 ζ.2.2.2.2.2.2.2.2.2.2.2.2.1 ζ.2.2.2.2.2.1.length ζ.2.2.2.2.2.2.2.2.2.2.2.2.2.1 (qDQ ζ.2.2.2.2.2.1)) (λζ=>5-ζ.1) (0,[],[],x0,0,[p],none,0,(λ_=>none),none,0,(λ_=>none),(some ⟨gh,0,none⟩),1,blk gh [N64 (p.ep),Str (p.par),I (p.dep:Nat),I (p.aud:Nat),.slice p.nsA p.ns.length p.nsc] 52,ms0,H0) (⟨⟨TD.nil,O,jE _,RI.new hN,hS,hkey,O,hl1,hpa,hpn1,O,jE _,λh=>absurd h (Nat.lt_irrefl 0)⟩,qBZ.nil,qBZ.nil,qVn gh p⟩) ⟨O,O,O,O,O,O,O,trivial⟩ (λ_ h=>h.empty.empty.pick [9,10,2,1,0,4,5,6,7,3,8] xC) ?_
 rintro⟨i,t,l,x,ahd,hd,At,ct,mt,Ak,ck,mk,Ac,cc,mh,ms,H⟩ ⟨hR,htr,hkr,hhr⟩ I2 hI2
 dsimp only at hR htr hkr hhr⊢
 refine J.k λ_ j18=>J.f λ_ j19=>J.p 2 O<|J.g (qAO qBu O O) O<|J.g (qAS O O O) O<|J.b O<|J.b9 (d:=53) O (λh53=>?_) (λh53=>?_)
 ·
  refine J.b O<|J.G (qAS O O O) O<|J.b O<|J.c j19<|J.Z O (λh56=>?_) (λh56=>?_)
  ·
   refine J.M j18<|J.k λ_ j20=>J.T<|J.k λ_ j21=>?_
   have hil:i<l0.length:=xB
   obtain ⟨n,hn⟩: ∃n,n=(l0.getD i 0).toNat%4:=⟨_,rfl⟩
   have hn3:n≤3:=xB
   have hi5:=hR.i5
   have hti:=hR.ti
   have htl:=hR.td.len
   have hhl:=hR.hl
   have hS3:=hR.s
   refine J.H<|J.p 2 O<|J.g (qAF O O O qBu z5_ sl0 xB) O<|J.g (qAI O O b5_ (m:=F) xD (sl0.elem (qBh (qAi 0 xB)))) O<|J.g (qCM O O u5_ u3_) O<|J.g (((qKk O O O xB).nat (n) xB)) O<|J.b O<|J.c j21<|J.k λ_ j22=>J.f λ_ j23=>J.p 3 O<|J.q (qAK O O ent (Ct.use1 8 O (λF' hF=>qTq F' ms H (hK.mo hF) (hA.mono (Fa hF)) (hT.mono (Fa hF)) (Fa hF) x hR.s gr (Ptr gc) (Ptr gk) (I (i:Nat)) (qAG.blk0.mono (hF (blk gr [Ptr x.gs,Ptr gc,Ptr gk,I (i:Nat)] 93) xD)) hR.ri hR.td n ahd hn3 hR.a3 hR.at_))) O ?_
   rintro⟨ms1,y68⟩ hS1
   try dsimp only at hS1
   obtain ⟨b,hb⟩: ∃b,b=(if l.length=0 then n else ahd):=⟨_,rfl⟩
   rw [←hb] at hS1
   have hI1:=hS1.i
   have hE1:EpE i (x.putT l n b y68):=hR.ri.ep2
   refine J.g (qAs O O) O<|J.p 2 O<|J.c2 [5,6,7,8,9,0,1,2,3,4,10] [blk gc [I (1:Nat),I (1:Nat),.slice Ac hd.length cc] 279,mh,blk gr [Ptr x.gs,Ptr gc,Ptr gk,I (i:Nat)] 93,ms1,H,mt,mk,blk gm [Str [97,108,105,99,101],.map (some gq),.slice Ak l.length ck] 195,mq,mo,F] O xC<|J.d0 (qAK O O ent (Ct.useA [blk gc [I (1:Nat),I (1:Nat),.slice Ac hd.length cc] 279,mh,blk gr [Ptr x.gs,Ptr gc,Ptr gk,I (i:Nat)] 93,ms1,H] [mt,mk,blk gm [Str [97,108,105,99,101],.map (some gq),.slice Ak l.length ck] 195,mq,mo,F] (A':=λr:RpR=> [blk gc [I (1:Nat),I (1:Nat),.slice r.A (hd.length+1) r.c] 279,r.m,blk gr [Ptr (x.putT l n b y68).gs,Ptr gc,Ptr gk,I (i+1:Nat)] 93,r.mp,r.H]) (new:=λ_=> []) (λF' hF=>qQS F' H ms1 mh (hK.mo hF) (x.putT l n b y68) hS1 i xB hE1 (hR.ri.room xB hI1) gr gc gk i xB hR.key Ac cc hd hhr xB xB hR.hx hR.ha hR.hn))) O ?_
   rintro⟨y72,mp,yl,A72,c72,m72,H2⟩ hR72
   try dsimp only at hR72
   obtain ⟨hle72,hS2,hpb72,hrow72,hyl72,hyn72⟩:=hR72
   dsimp only at hle72 hS2 hpb72 hrow72 hyl72 hyn72
   have hRI2:=hR.ri.pub xB hI1 hpb72
   have hget:=hR.ri.get hI1 y72
   have hTD2:=hR.td.snoc hn3 xB
   have hst2:=qTT hR.td hR.st hn3
   have hx2:l++ [nxE l n]=l++ [nxE l n]:=rfl
   have hkf2:=hS2.i.kf
   have hyt:qA7 yl=⟨i+1,(qA7 (x.putT l n b y68).hdL).dig,((0:Nat):Int),((1:Nat):Int),qAo ((x.putT l n b y68).pub y72).kvL 0⟩:=hyl72.trans (hE1.pub_hd hI1 y72)
   obtain ⟨par0,hpar0,hz0⟩:=hE1.hdr
   obtain ⟨_,_,_,_,w2,_,_⟩:=qJb xB hpar0 hI1.kf hkf2 hz0 hyt
   obtain ⟨l2,hl2⟩: ∃q,q=l++ [nxE l n]:=⟨_,rfl⟩
   obtain ⟨t2,ht2⟩: ∃q,q=t++ [n]:=⟨_,rfl⟩
   rw [←hl2] at hRI2 hTD2 hst2
   rw [←ht2] at hTD2 hst2
   have hnw:=hRI2.nw
   have htl2:=hTD2.len
   have ht2l:t2.length=i+1:=by rw [ht2,jA,hti];rfl
   have hzl:l2.getD (l2.length-1) qAz=nxE l n:=by rw [hl2];exact qCt _ _ _
   have hse:qID ALI ALI 0 l l2=0:=by rw [hl2];exact qY0 (own:= [])
   have hR2:RdI ow gk (i+1) t2 l2 ((x.putT l n b y68).pub y72) n (hd++ [yl]) mp H2:={
    td:=hTD2,ti:=ht2l,i5:=xB,ri:=hRI2,s:=hS2,key:=hR.key.mono hle72,hl:=(by rw [jA,hhl];rfl),hx:=(by rw [qCt];exact hyl72),hn:=(by rw [qCt];exact hyn72),st:=hst2,a3:=hn3,
    at_:=(λ_=>by rw [ht2];exact(qCt _ _ _).symm),
    ha:=(by
     rw [jA,jH,hhl,show i+1+1-2=i by omega,qCj _ _ _ xB]
     obtain ⟨par1,_,hz1⟩:=hR.ri.ep.hdr
     have:=congrArg Hd.aud (hR.hx.trans hz1)
     rw [hhl,yL] at this
     exact yJ this)}
   obtain ⟨kv2,hkv2⟩: ∃q,q=((x.putT l n b y68).pub y72).kvL:=⟨_,rfl⟩
   rw [←hkv2] at hget hkf2 hyt
   refine J.G (qAs O O) O<|J.b O<|J.c j23<|J.a3 ?_
   refine J.M j22<|J.f λ_ j24=>J.p 2 O<|J.q (qAE (l:= [.tmp 76]) (xs:= [[I (n:Nat)]]) O O O O qEa el3 O xC xC xD) O λg77 _=>J.q (qAX (i:=5) (m2:=blk g77 [I (n:Nat)] 3) O O O qEa qEa el3 O htr xD ((qBO (q:=True) (qBp [n]) O (by simp [qBp]) O).sl) O xB xB) O ?_
   rintro⟨A78,c78,m78⟩ h78
   try dsimp only at h78
   replace h78:Row m78 3 1 A78 (t.length+1) c78 (qBp t2):=by rw [ht2,qO1];exact h78
   rw [show t.length+1=t2.length by omega] at h78⊢
   refine J.p 3 O<|J.c j24<|J.f λ_ j25=>J.b O<|J.g (qAB O O) O<|J.W 0 qLn qVe O O O O O<|J.a6 2 isAgg28 O O O O O<|J.q (qBb O O (λF' hF=>qGJ F' (hK.mo hF) ((x.putT l n b y68).pub y72) hS2.i (hS2.cells.mono (Fa hF)) (hS2.tsl.mono (Fa hF)) (hS2.tree.mono (hF (H2) xD)) (hS2.p.nw.mono (hF (H2) xD)) (hS2.p.nl.mono (hF (H2) xD)) [97,108,105,99,101] xC)) O ?_
   rintro r85 hr85
   have hro85:=hr85.ro
   have hst85:=hr85.st
   have hrb85:=hr85.rb
   rw [hnw] at hro85⊢
   rw [←hkv2] at hst85 hrb85⊢
   refine J.p 3 O<|J.q (qAJ O qYk O) O λg14 _=>J.a7 (qAC (i:=14) (l:= [Str [],.slice none 0 0,.slice none 0 0,.bool false,Str [],Str []]) (vs:= [Str [97,108,105,99,101],.slice r85.A l2.length r85.c,.slice r85.bA (bsd kv2 (Sha.tagged 11 [[97,108,105,99,101]]) 0 (r85.s-0)).length r85.bc,.bool (qAl kv2 (Sha.tagged 11 [[97,108,105,99,101]]) r85.s),Str (qBk kv2 (Sha.tagged 11 [[97,108,105,99,101]]) r85.s),Str (qBo kv2 (Sha.tagged 11 [[97,108,105,99,101]]) r85.s)]) O O O O O qS4 O O) O O λ_ _=>J.b O<|J.c j25<|J.k λ_ j26=>J.b1 [blk gr [Ptr (x.putT l n b y68).gs,Ptr gc,Ptr gk,I (i+1:Nat)] 93,blk g14 [Str [97,108,105,99,101],.slice r85.A l2.length r85.c,.slice r85.bA (bsd kv2 (Sha.tagged 11 [[97,108,105,99,101]]) 0 (r85.s-0)).length r85.bc,.bool (qAl kv2 (Sha.tagged 11 [[97,108,105,99,101]]) r85.s),Str (qBk kv2 (Sha.tagged 11 [[97,108,105,99,101]]) r85.s),Str (qBo kv2 (Sha.tagged 11 [[97,108,105,99,101]]) r85.s)] 89] [] (.y 0 (.y 1 (.y 2 (.y 3 (.y 4 (.y 5 (.e 6 (.y 7 (.y 8 (.y 9 (.y 10 (.y 11 .nil)))))))))))) Tryz.wide xF xD ?_
   refine J.L ?_
   refine J.L ?_
   refine J.j O (qAB O O) O O<|J.j O (qAA O O qLn O sizeOf91 O) O O<|J.j O (qAD 0 O O O isAgg91 O) O O<|J.j O (qAU 1 O O O isAgg89 qS4 O) O O<|J.c2 [7,6,0,1,2,3,4,5,8,9,10,11,12,13,14] [blk gm [Str [97,108,105,99,101],.map (some gq),.slice Ak l.length ck] 195,mk,blk gc [I (1:Nat),I (1:Nat),.slice A72 (hd.length+1) c72] 279,m72,blk gr [Ptr (x.putT l n b y68).gs,Ptr gc,Ptr gk,I (i+1:Nat)] 93,mp,H2,m78,mq,mo,F,blk g77 [I (n:Nat)] 3,r85.mb,r85.m,blk g14 [Str [97,108,105,99,101],.slice r85.A l2.length r85.c,.slice r85.bA (bsd kv2 (Sha.tagged 11 [[97,108,105,99,101]]) 0 (r85.s-0)).length r85.bc,.bool (qAl kv2 (Sha.tagged 11 [[97,108,105,99,101]]) r85.s),Str (qBk kv2 (Sha.tagged 11 [[97,108,105,99,101]]) r85.s),Str (qBo kv2 (Sha.tagged 11 [[97,108,105,99,101]]) r85.s)] 89] O xC<|J.a1 O (qAK O O ent (Ct.useA [blk gm [Str [97,108,105,99,101],.map (some gq),.slice Ak l.length ck] 195,mk] [blk gc [I (1:Nat),I (1:Nat),.slice A72 (hd.length+1) c72] 279,m72,blk gr [Ptr (x.putT l n b y68).gs,Ptr gc,Ptr gk,I (i+1:Nat)] 93,mp,H2,m78,mq,mo,F,blk g77 [I (n:Nat)] 3,r85.mb,r85.m,blk g14 [Str [97,108,105,99,101],.slice r85.A l2.length r85.c,.slice r85.bA (bsd kv2 (Sha.tagged 11 [[97,108,105,99,101]]) 0 (r85.s-0)).length r85.bc,.bool (qAl kv2 (Sha.tagged 11 [[97,108,105,99,101]]) r85.s),Str (qBk kv2 (Sha.tagged 11 [[97,108,105,99,101]]) r85.s),Str (qBo kv2 (Sha.tagged 11 [[97,108,105,99,101]]) r85.s)] 89] (A':=λr:SeR=> [blk gm [Str [97,108,105,99,101],.map (some gq),.slice r.A (qOc ALI ALI 0 l l2).length r.c] 195,r.m]) (new:=λ_=> []) (λF' hF=>qRP F' mk gm gq ALI Ak ck l hkr xB (qG7 ow 4) (hmq.at.mono (Fa hF)) ALI r85.A l2.length r85.c l2 (hro85.sl.mono (Fa hF)) xB r85.bA _ r85.bc _ _ _ (Ptr gc) (nxE l n) true 0 (λF'' hl=>by have:=qSS F'' (hK.mono ((hF F xD).trans hl)) gc 1 1 A72 (hd.length+1) c72 (hd++ [yl]) (hrow72.sl.mono ((hF m72 xD).trans hl)) xB xB (qAG.blk0.mono ((hF (blk gc [I (1:Nat),I (1:Nat),.slice A72 (hd.length+1) c72] 279) xD).trans hl)) (by rw [show hd.length+1-1=hd.length by omega,qB7 _ _ _ O];exact w2) (by rw [show hd.length+1-1=hd.length by omega,qB7 _ _ _ O];exact hyn72.mono ((hF H2 xD).trans hl)) (by rw [show hd.length+1-1=hd.length by omega,qB7 _ _ _ O];rw [show yl.ns=qAo kv2 0 from congrArg Hd.nodes hyt];exact qEm _) [97,108,105,99,101] xC r85.A l2.length r85.c l2 (hro85.sl.mono ((hF r85.m xD).trans hl)) hTD2.good xB r85.bA r85.bc _ (hrb85.sl.mono ((hF r85.mb xD).trans hl)) _ _ _ (qEN hkf2 (Sha.tagged_length _ _) hst85) (qEQ hkf2 _ _);rw [show hd.length+1-1=hd.length by omega,qB7 _ _ _ O,qZw hkf2 (Sha.tagged_length _ _) hst85 hyt (hTD2.hist xB) xB hzl hget] at this;exact this)))) O xD ?_
   rintro⟨A95,c95,m95⟩ h95
   try dsimp only at h95
   have hsL:(qOc ALI ALI 0 l l2)=l2:=by unfold qOc;rw [hse,if_pos rfl]
   have hsB:qVl (qG7 ow 4) ALI ALI 0 l l2=decide ((qIz ow t2 t2.length).length=0):=by unfold qVl;rw [hse,decide_eq_true rfl,Bool.true_and,←hst2,qLx,jP]
   rw [hsL] at h95⊢
   rw [hsB,hse]
   refine J.L ?_
   refine J.c7 (.bool (decide ((qIz ow t2 t2.length).length=0))) ?_
   refine J.c7 (I (0:Nat)) ?_
   refine J.b7 ?_
   refine J.b7 ?_
   refine J.b0<|J.u (J.D j26 ?_)
   refine J.k λ_ j27=>?_
   obtain ⟨W,hW⟩: ∃q,q=qIz ow t2 t2.length:=⟨_,rfl⟩
   rw [←hW]
   have hWl:(qCU (qG7 ow 4) l2).length=W.length:=by rw [hW,←hst2,qLx,jP]
   have hSn:(qCU (qG7 ow 4) l2).length≤l2.length:=zZ _ _
   refine J.H<|J.p 2 O<|J.q (qBb O O (λF' hF=>by have:=qKE F' A78 t2.length c78 t2 (h78.sl.mono (Fa hF)) xB (some ⟨g31,0,none⟩) 4 4 ow (hro.sl.mono (Fa hF)) xC (λk hk=>by have:=hTD2.sm k hk;omega);rw [←hW] at this;exact this)) O ?_
   rintro⟨A100,c100,m100⟩ h100
   try dsimp only at h100
   refine J.b O<|J.c j27<|J.k λ_ j28=>J.f λ_ j29=>J.b O<|J.g ((qAV O O O).no xC) O<|J.p 3 O<|J.G (qAO qPS O O) O<|J.G (qAe O O O) O<|J.G ((qXV u4_ O O O).as (v':= .bool false) xD) O<|J.p 3 O<|J.d0 (qBb O O (λF' hF=>qHI F' gm gq ALI A95 l2.length c95 l2 (h95.sl.mono (Fa hF)) xB (qAG.blk0.mono (hF (blk gm [Str [97,108,105,99,101],.map (some gq),.slice A95 l2.length c95] 195) xD)))) O ?_
   rintro⟨A112,c112,m112⟩ h112
   try dsimp only at h112
   refine J.G (qAO qCK O O) O<|J.b O<|J.G (qAO qEa O O) O<|J.G ((qAV O O O).no xB) O<|J.b O<|J.c j29<|J.a3 ?_
   refine J.M j28<|J.f λ_ j30=>J.b O<|J.q (qBb O O (λF' hF=>qXn F' gm gq ALI A95 l2.length c95 l2 (h95.sl.mono (Fa hF)) xB (qAG.blk0.mono (hF (blk gm [Str [97,108,105,99,101],.map (some gq),.slice A95 l2.length c95] 195) xD)) (qG7 ow 4) (hmq.at.mono (Fa hF)) hTD2.ver)) O ?_
   rintro r120 hp120
   have hpr:=hp120.row
   have hpn:=hp120.nums
   rw [hWl] at hpr hpn
   refine J.q (qBb O O (λF' hF=>qRQ F' r120.A r120.c ALI l2.length r120.B W.length r120.d (qCU (qG7 ow 4) l2) hWl xB (hpr.sl.mono (Fa hF)) (hpn.sl.mono (Fa hF)))) O ?_
   rintro⟨A121,c121,m121⟩ h121
   try dsimp only at h121
   rw [hst2,←hW] at h121
   refine J.p 9 O<|J.c j30<|J.k λ_ j31=>J.f λ_ j32=>J.b O<|J.g ((qAV O O O).no xC) O<|J.p 2 O<|J.G ((qDH O O O).no xC) O<|J.p 4 O<|J.G (qAO qEa O O) O<|J.G ((qAV O O O).no xB) O<|J.p 3 O<|J.G (qAO qPS O O) O<|J.b O<|J.G (qAO qPS O O) O<|J.G ((qAV O O O).no xB) O<|J.b O<|J.c j32<|J.a3 ?_
   refine J.M j31<|J.f λ_ j33=>J.b O<|J.c j33<|J.T<|J.b5 (X:=Nat) (λζ=> [(0,.slice A0 n0 c0),(5,Ptr gr),(6,Ptr gm),(8,.slice (some ⟨g31,0,none⟩) 4 4),(10,.slice A78 t2.length c78),(11,I (n:Nat)),(12,I (i:Nat)),(18,.slice A100 W.length c100),(21,.slice A121 W.length c121),(23,I (ζ:Nat))]) (λζ=> [blk gm [Str [97,108,105,99,101],.map (some gq),.slice A95 l2.length c95] 195,m95,blk gc [I (1:Nat),I (1:Nat),.slice A72 (hd.length+1) c72] 279,m72,blk gr [Ptr (x.putT l n b y68).gs,Ptr gc,Ptr gk,I (i+1:Nat)] 93,mp,H2,m78,mq,mo,F,blk g77 [I (n:Nat)] 3,r85.mb,r85.m,blk g14 [Str [97,108,105,99,101],.slice r85.A l2.length r85.c,.slice r85.bA (bsd kv2 (Sha.tagged 11 [[97,108,105,99,101]]) 0 (r85.s-0)).length r85.bc,.bool (qAl kv2 (Sha.tagged 11 [[97,108,105,99,101]]) r85.s),Str (qBk kv2 (Sha.tagged 11 [[97,108,105,99,101]]) r85.s),Str (qBo kv2 (Sha.tagged 11 [[97,108,105,99,101]]) r85.s)] 89,m100,m112,r120.m,r120.q,m121]) (λζ=>ζ≤W.length) (λζ=>W.length-ζ) 0 (jE _) ⟨O,O,O,O,O,O,O,O,O,O,trivial⟩ (λ_ h=>h) ?_
   rintro k hk I4 hI4
   refine J.k λ_ j34=>J.f λ_ j35=>J.p 2 O<|J.g (qAO qPS O O) O<|J.g (qAS O O O) O<|J.c j35<|J.Z O (λh148=>?_) (λh148=>?_)
   ·
    refine J.M j34<|J.k λ_ j36=>J.T<|J.k λ_ j37=>J.b1 [blk gm [Str [97,108,105,99,101],.map (some gq),.slice A95 l2.length c95] 195,m95,blk gc [I (1:Nat),I (1:Nat),.slice A72 (hd.length+1) c72] 279,m72,blk gr [Ptr (x.putT l n b y68).gs,Ptr gc,Ptr gk,I (i+1:Nat)] 93,mp,H2,m78,mq,mo,F,blk g77 [I (n:Nat)] 3,r85.mb,r85.m,blk g14 [Str [97,108,105,99,101],.slice r85.A l2.length r85.c,.slice r85.bA (bsd kv2 (Sha.tagged 11 [[97,108,105,99,101]]) 0 (r85.s-0)).length r85.bc,.bool (qAl kv2 (Sha.tagged 11 [[97,108,105,99,101]]) r85.s),Str (qBk kv2 (Sha.tagged 11 [[97,108,105,99,101]]) r85.s),Str (qBo kv2 (Sha.tagged 11 [[97,108,105,99,101]]) r85.s)] 89,m100,m112,r120.m,r120.q,m121] [] (.y 0 (.y 1 (.y 2 (.y 3 (.y 4 (.y 5 (.y 6 (.y 7 (.y 8 .nil))))))))) Tryz.wide xF xD ?_
    refine J.L ?_
    refine J.L ?_
    refine J.j O (qAF O O O qPS sizeOf2 h121.sl xB) O O<|J.j O (qAI O O isAgg2 (m:=m121) xD (h121.sl.elem (qIa xB))) O O<|J.L ?_
    refine J.L ?_
    refine J.j O (qAF O O O qPS sizeOf2 h100.sl xB) O O<|J.j O (qAI O O isAgg2 (m:=m100) xD (h100.sl.elem (qIa xB))) O O<|J.j O ((qAV O O O).no (λh=>h O)) O O<|J.b0<|J.u (J.D j37 ?_)
    refine J.a3 ?_
    refine J.b2<|J.a2<|J.u (J.D j36 ?_)
    exact J.H<|J.b O<|J.g ((qAR O O O xB).nat (k+1) xB) O<|J.b O<|J.a4<|J.u<|J.a8 (k+1) (λη (hη:_∧W.length-η<W.length-k)=>hI4 η hη.1 hη.2) ⟨xB,by first|omega|(dsimp only;omega)⟩ ⟨O,O,O,O,O,O,O,O,O,O,trivial⟩ (λ_ h=>h)
   refine J.b3<|J.a0<|J.a0<|J.b4 ?_
   refine J.a2<|J.u (J.D j20 ?_)
   rw [show hd.length+1=(hd++ [yl]).length by rw [jA];rfl] at hrow72⊢
   exact J.H<|J.b O<|J.g ((qAR O O O xB).nat (i+1) xB) O<|J.b O<|J.a4<|J.u<|J.a8 (i+1,t2,l2,((x.putT l n b y68).pub y72),n,(hd++ [yl]),A78,c78,m78,A95,c95,m95,A72,c72,m72,mp,H2) (λη (hη:_∧5-η.1<5-i)=>hI2 η hη.1 hη.2) ⟨⟨hR2,h78,h95,hrow72⟩,by dsimp only;omega⟩ ⟨O,O,O,O,O,O,O,trivial⟩ (λ_ h=>h.pick [7,1,0,8,9,2,3,4,5,6,10] xC)
  refine J.b3<|J.a0<|J.a0<|J.b4 ?_
  refine J.u (J.D j16 ?_)
  exact J.f λ_ j38=>J.b O<|J.c j38<|J.A<|J.E hw0 O () O trivial [10] O xC
 refine J.p 3 O<|J.c j19<|J.a3 ?_
 refine J.b3<|J.a0<|J.a0<|J.b4 ?_
 refine J.u (J.D j16 ?_)
 exact J.f λ_ j39=>J.b O<|J.c j39<|J.A<|J.E hw0 O () O trivial [10] O xC
end Go.Proofs.YtmemgokiolfdoaaGreatDoor
namespace Go.Proofs.YtmemgokiolfdoaaGreatDoor
open Go Go.Fw Go.Proofs.Tryz
theorem qVG{H:Type}{enc:TypeId×Value→H}{P:Program}{W:World}{e:TypeId}{xs:List (List Value)}(he:P.underlying e=some (.int .u8))(hc:P.cellsOf e=1)(h: ∀x∈xs,x.length=1∧ ∃fuel y,DataW.trod enc P W 0 (λ_=>true) true fuel e x=some y): ∃l:xA,xs=qAf l:=by
 obtain ⟨l,hl,_⟩:=qQU (f:=λb:UInt8=> [B8 b]) (Q:=λ_=>True) (xs:=xs) λx hx=>by
  obtain ⟨h1,fuel,y,hy⟩:=h x hx
  match x,h1,hy with
  | [v],_,hy=>
   obtain ⟨b,rfl⟩:=u8_of he hy
   exact⟨b,O,trivial⟩
 exact⟨l,hl⟩
theorem qWj{m:Hp}{sz A n c xs}(h:Sl m sz A n c xs): ∀x∈xs,x.length=sz:=λx hx=>by
 obtain ⟨i,hi⟩:=List.mem_iff_getElem?.1 hx
 exact(h.2.2 i x hi).1
end Go.Proofs.YtmemgokiolfdoaaGreatDoor