/- A part of the proof. -/
import Derived.Test.YtmemgokiolfdoaaGreatDoorTopMrG36
set_option maxRecDepth 100000
set_option maxHeartbeats 1000000
set_option linter.unusedSimpArgs false
set_option linter.unusedVariables false
namespace Go.Proofs.YtmemgokiolfdoaaGreatDoor
open Go Go.Fw Go.Proofs.Tryz
theorem qWB(F m:Hp)(A:Option Addr)(n c:Nat)(l:List En)(hr:Row m 102 5 A n c (qCT l))(hn:n≤1000000)(gm gk:Nat)(lb:xA)(A0:Option Addr)(n0 c0:Nat)(l0:List En)(hs0:Sl F 5 A0 n0 c0 (qCT l0))(hn0:n0≤1000000)(hM:qAG F ⟨gm,0,none⟩ [Str lb,.map (some gk),.slice A0 n0 c0])(own:List Pk)(hk:qHS pkK F gk (qFW own))(gq:Nat)(hq:qAG F ⟨gq,0,none⟩ [Ptr gm]):
    Ct prog 181 [.slice A n c,.func (.func 182) #[] #[Ptr gq]] [m,F] (λ_:Hp=> .slice A (qOO own l).length c) (λm'=>Row m' 102 5 A (qOO own l).length c (qCT (qOO own l))) (λm'=> [m',F]):=by
  have hkn:l.length=n:=by have:=hr.len;simpa [qCT] using this
  have hnc:=hr.2.2.1
  refine Ct.walk func181 O ntmps181 O (λw0 hw0=>?_)
  refine J.f λ_ j1=>J.b O<|J.c j1<|J.f λ_ j2=>J.j 2 O<|J.q (qAa O O (λF' hF=>qV9 F' A n c l (hr.sl.mono (Fa hF)) hn gm gk lb A0 n0 c0 l0 (hs0.mono (Fa hF)) hn0 (hM.mono (Fa hF)) own (hk.mono (Fa hF)) gq (hq.mono (Fa hF)))) O λg10 _=>J.b O<|J.c j2<|J.p λ_ j3=>J.f λ_ j4=>J.b O<|J.g (qAZ O O O) O<|J.c j4<|J.Z O (λh12=>?_) (λh12=>?_)
  ·
    refine J.f λ_ j5=>J.j 2 O<|J.c j5<|J.A<|J.V ?_
    have hf:(qOO own l)=l:=qS0 h12
    exact J.E hw0 O m (by rw [hf,hkn]) (by rw [hf,hkn];exact hr) [0,1] O xC
  refine J.M j3<|J.p λ_ j6=>J.p λ_ j7=>?_
  obtain ⟨i0,h5,hi0,hf0⟩:=qXO h12
  obtain ⟨ga,rfl⟩:=hr.at xB
  rw [h5]
  refine J.H<|J.b O<|J.g ((qAR O O O xB).nat (i0+1) xB) O<|J.b O<|J.c j7<|J.T<|J.b6 (X:=Nat×Nat×List En×Hp) (λζ=> [(0,.slice (some ⟨ga,0,none⟩) n c),(1,.func (.func 182) #[] #[Ptr gq]),(5,I (ζ.1:Nat)),(6,I (ζ.2.1:Nat))]) (λζ=> [ζ.2.2.2,F]) (λζ=>ζ.1<ζ.2.1∧ζ.2.1≤n∧ζ.2.2.1.length=n∧ζ.2.2.1.take ζ.1=(l.take ζ.2.1).filter (λx=>!qTr own x)∧ζ.2.2.1.drop ζ.2.1=l.drop ζ.2.1∧Row ζ.2.2.2 102 5 (some ⟨ga,0,none⟩) n c (qCT ζ.2.2.1)) (λζ=>n-ζ.2.1) (i0,i0+1,l,m) (⟨by dsimp only;omega,by dsimp only;omega,hkn,hf0,O,hr⟩) ⟨O,O,O,O,trivial⟩ (λ_ h=>h) ?_
  rintro⟨w,j,L,m⟩ ⟨hw,hj,hL,hA,hB,hr⟩ I0 hI0
  dsimp only at hw hj hL hA hB hr⊢
  refine J.p λ_ j8=>J.f λ_ j9=>J.j 2 O<|J.g (qAP qCt O O) O<|J.g (qAQ O O O) O<|J.c j9<|J.Z O (λh19=>?_) (λh19=>?_)
  ·
    refine J.M j8<|J.p λ_ j10=>J.T<|J.f λ_ j11=>J.j 2 O<|J.g (qAF O O O qCt qAw hr.sl xB) O<|J.g (qAT O O qBZ qAw (m:=m) xD (hr.sl.elem (qD2 xB)) O) O<|J.q (qAJ O qE7 O) O λg7 _=>J.a8 (qAD (i:=2) (l:= [.int .u64 0,Str [],Str [],I 0,Str []]) (vs:= [N64 ((L.getD j qBD).v),Str ((L.getD j qBD).o),Str ((L.getD j qBD).r),I ((L.getD j qBD).h),Str ((L.getD j qBD).p)]) O O O O O qAw O O) O O λ_ _=>J.c j11<|J.f λ_ j12=>J.b O<|J.c0 2 qBZ qAw O O O O O<|J.q (qCM O O O ent (Ct.use0 (λF' hF=>qO1 F' (L.getD j qBD) gm gk lb A0 n0 c0 l0 (hs0.mono (Fa hF)) hn0 (hM.mono (Fa hF)) own (hk.mono (Fa hF)) gq (hq.mono (Fa hF))))) O λg28 _=>J.g (qAu O O) O<|J.c j12<|J.c6 O (λh29=>?_) (λh29=>?_)
    ·
      refine J.f λ_ j13=>J.j 2 O<|J.c0 2 qBZ qAw O O O O O<|J.g (qAi (i:=w) (j:=0+w*5) O O O qCt qAw xB xB) O<|J.a8 (qBM (i:=0) (k:=w) (off:=0) (b:=(L.getD j qBD).cells) O O O O hr (vs:= [N64 ((L.getD j qBD).v),Str ((L.getD j qBD).o),Str ((L.getD j qBD).r),I ((L.getD j qBD).h),Str ((L.getD j qBD).p)]) O qAw O xB (qD2 xB) O (by show 0+5≤5;decide)) O O ?_
      rintro m9 h9
      rw [qTC] at h9
      refine J.c j13<|J.H<|J.b O<|J.g ((qAR O O O xB).nat (w+1) xB) O<|J.b O<|J.a4<|J.a1<|J.u (J.D j10 ?_)
      exact J.H<|J.b O<|J.g ((qAR O O O xB).nat (j+1) xB) O<|J.b O<|J.a4<|J.u<|J.a7 (w+1,j+1,L.set w (L.getD j qBD),m9) (λη (hη:_∧n-η.2.1<n-j)=>hI0 η hη.1 hη.2) ⟨⟨by dsimp only;omega,by dsimp only;omega,by dsimp only;rw [jk];exact hL,(qKS hw xB xB hA hB (by simpa using h29)).1,(qKS hw xB xB hA hB (by simpa using h29)).2,by assumption⟩,by first|omega|(dsimp only;omega)⟩ ⟨O,O,O,O,trivial⟩ (λ_ h=>h.pick [0,1] xC)
    refine J.b2<|J.a1<|J.u (J.D j10 ?_)
    exact J.H<|J.b O<|J.g ((qAR O O O xB).nat (j+1) xB) O<|J.b O<|J.a4<|J.u<|J.a7 (w,j+1,L,m) (λη (hη:_∧n-η.2.1<n-j)=>hI0 η hη.1 hη.2) ⟨⟨by dsimp only;omega,by dsimp only;omega,hL,(qKT xB hA hB (by simpa using h29)).1,(qKT xB hA hB (by simpa using h29)).2,hr⟩,by first|omega|(dsimp only;omega)⟩ ⟨O,O,O,O,trivial⟩ (λ_ h=>h.pick [0,1] xC)
  refine J.b4<|J.a0<|J.a0<|J.b5 ?_
  refine J.u (J.D j6 ?_)
  refine J.f λ_ j14=>J.j 2 O<|J.g (qCd O O qCt qAw O O xB) O<|J.a8 (qDE (i:=0) (l:=w) (h:=n) O O (by split<;>simp [Addr.add_lit]) qCt el102 O O O (hr.shrink xB) O xB xB) O O ?_
  rintro mc hmc
  refine J.c j14<|J.f λ_ j15=>J.j 2 O<|J.g (qBy O O qCt qAw O xB) O<|J.b O<|J.c j15<|J.A ?_
  have hfl:(qOO own l)=L.take w:=by show l.filter _=_;rw [hA,jY xB]
  have hfw:(qOO own l).length=w:=by rw [hfl,jE];omega
  rw [qKM,←hfl] at hmc
  exact J.E hw0 O mc (by rw [hfw]) (by rw [hfw];exact hmc) [0,1] O xC
theorem qVj(F:Hp)(gm gk:Nat)(lb:xA)(A:Option Addr)(n c:Nat)(l:List En)(hs:Sl F 5 A n c (qCT l))(hn:n≤1000000)(hM:qAG F ⟨gm,0,none⟩ [Str lb,.map (some gk),.slice A n c])(own:List Pk)(hk:qHS pkK F gk (qFW own)):Ct prog 101 [Ptr gm] [F] (λx:Option Addr×Nat×Hp=> .slice x.1 (qOO own l).length x.2.1) (λx=>Row x.2.2 102 5 x.1 (qOO own l).length x.2.1 (qCT (qOO own l))) (λx=> [F,x.2.2]):=by
 have hkn:l.length=n:=by have:=hs.1;simpa [qCT] using this
 refine Ct.walk func101 O ntmps101 O (λw0 hw0=>?_)
 refine J.f λ_ j1=>J.q (qAd O O O) O λg1 _=>J.b O<|J.c j1<|J.f λ_ j2=>J.a5 1 isAgg76 O O O O O<|J.q (qBV O O (λF' hF=>qJ3 F' gm (gk) lb A n c l (hs.mono (Fa hF)) xB (hM.mono (Fa hF)))) O ?_
 rintro⟨A4,c4,m4⟩ h4
 try dsimp only at h4
 refine J.g (qBC O O) O<|J.q (qAK O O ent (Ct.use1 2 O (λF' hF=>qWB F' m4 A4 l.length c4 l h4 xB gm gk lb A n c l (hs.mono (Fa hF)) hn (hM.mono (Fa hF)) own (hk.mono (Fa hF)) g1 (qAG.blk0.mono (hF (blk g1 [Ptr gm] 76) xD))))) O ?_
 rintro m6 h6
 exact J.b O<|J.c j2<|J.A<|J.E hw0 O (A4,c4,m6) O h6 [0,2] O xC
theorem qVm(F:Hp)(hA:qAG F ⟨0,0,none⟩ qBW)(hT:qB0 F)(s:xA)(hsl:s.length≤1000000)(hns:normal s=(s,0)):Ct prog 25 [Str s] [F] (λx:Nat×Nat=> .tuple #[Ptr x.1,I 0]) (λ_=>True) (λx=> [F,qAM x.2 (.map #[] 0),blk x.1 [Str s,.map (some x.2),.slice none 0 0] 195]):=by
 refine Ct.walk func25 O ntmps25 O (λw0 hw0=>?_)
 refine J.f λ_ j1=>J.j 2 O<|J.c j1<|J.f λ_ j2=>J.b O<|J.q (qAa O O (λF' hF=>(by have:=qGl F' (hA.mono (Fa hF)) (hT.mono (Fa hF)) s xN;rw [hns] at this;exact this))) O λg8 _=>J.j 5 O<|J.c j2<|J.p λ_ j3=>J.T<|J.f λ_ j4=>J.b O<|J.g ((qAY O O O).no (λh=>h O)) O<|J.b O<|J.c j4<|J.a3 ?_
 refine J.f λ_ j5=>J.j 2 O<|J.g ((qCy O O O).no (λh=>h O)) O<|J.b O<|J.c j5<|J.a3 ?_
 refine J.b2<|J.a1<|J.u (J.D j3 ?_)
 refine J.f λ_ j6=>J.b O<|J.q (qCz O) O ?_
 rintro g20 _
 exact J.g (qAL (places:= [(0,1),(1,1),(2,1)]) (r:= [Str (s),.map (some g20),.slice none 0 0]) O O O qJO zeroValue195 (λ_=>xH) O) O<|J.q (qAd O O O) O λg22 _=>J.j 2 O<|J.c j6<|J.A<|J.a9 hw0 (λ_ _ h=>h) (qBk O O O) (qAg (g22,g20) O trivial [0,1,2] O xC)
theorem qVl(F mk:Hp)(gm gk:Nat)(lb:xA)(A:Option Addr)(n c:Nat)(own:List Pk)(hk:qHB pkK mk gk (qFW own))(k:Pk)(hnk:k∉own):Ct prog 26 [Ptr gm,.agg #[Str k.1,Str k.2.1,I k.2.2]] [blk gm [Str lb,.map (some gk),.slice A n c] 195,mk,F] (λ_:Hp=> .tuple #[]) (λm=>qHB pkK m gk (qFW (own++ [k]))) (λm=> [blk gm [Str lb,.map (some gk),.slice A n c] 195,m,F]):=by
 refine Ct.walk func26 O ntmps26 O (λw0 hw0=>?_)
 refine J.f λ_ j1=>J.q (qAd O O O) O λg3 _=>J.c j1<|J.f λ_ j2=>J.b O<|J.g ((qTs underlying76 O O O).as (v':= .bool true) O) O<|J.c j2<|J.c4 ?_
 refine J.b1 [blk gm [Str lb,.map (some gk),.slice A n c] 195,F,blk g3 [Str (k.1),Str (k.2.1),I (k.2.2)] 32] [5] (.y 0 (.y 1 (.y 2 (.y 3 (.y 4 (.e 5 .nil)))))) Tryz.wide xF xD ?_
 refine J.L ?_
 refine J.k O (qAB O O) O O<|J.k O (qAA O O qJO O sizeOf193 O) O O<|J.k O (qAC 0 O O O isAgg193 O) O O<|J.k O (qAe 2 O O O qKf qDp O) O O<|J.c1 O (qHn qXL O O O O underlying193 (i:=1) O hk (by rw [qJ9,if_neg hnk])) O O O ?_
 rintro m2 h2
 rw [qN3] at h2
 exact J.b0<|J.d3 hw0 (λ_ _ h=>h) (qIU O) (qAg m2 O h2 [0,1,2] O xC)
theorem qWA(F:Hp)(A:Option Addr)(n c:Nat)(l:List En)(hs:Sl F 5 A n c (qCT l))(hn:n≤1000000)(A2:Option Addr)(n2 c2:Nat)(l2:List En)(hs2:Sl F 5 A2 n2 c2 (qCT l2)):Cz prog 100 [.slice A n c,.slice A2 n2 c2] F (.bool (decide (l=l2))):=by
 have hkn:l.length=n:=by have:=hs.1;simpa [qCT] using this
 have hkn2:l2.length=n2:=by have:=hs2.1;simpa [qCT] using this
 refine Ct.walk func100 O ntmps100 O (λw0 hw0=>?_)
 refine J.f λ_ j1=>J.b O<|J.c j1<|J.p λ_ j2=>J.f λ_ j3=>J.b O<|J.g (qAP qCt O O) O<|J.b O<|J.g (qAP qCt O O) O<|J.g (qAY O O O) O<|J.c j3<|J.Z O (λh10=>?_) (λh10=>?_)
 ·
  exact J.f λ_ j4=>J.b O<|J.c j4<|J.A<|J.V<|J.E hw0 O () (by rw [decide_eq_false (λe=>by rw [e] at hkn;omega)]) trivial [0] O xC
 refine J.M j2<|J.p λ_ j5=>J.f λ_ j6=>J.b O<|J.g (qAP qCt O O) O<|J.b O<|J.c j6<|J.T<|J.b6 (X:=Nat) (λζ=> [(0,.slice A n c),(1,.slice A2 n2 c2),(12,I (n:Nat)),(13,I (ζ:Nat))]) (λζ=> [F]) (λζ=>ζ≤n∧ ∀j<ζ,l.getD j qBD=l2.getD j qBD) (λζ=>n-ζ) 0 (⟨jF _,λj h=>absurd h (jw j)⟩) ⟨O,O,O,O,trivial⟩ (λ_ h=>h) ?_
 rintro k ⟨hk,hno⟩ I0 hI0
 refine J.f λ_ j7=>J.g (qAQ O O O) O<|J.c j7<|J.p λ_ j8=>J.Z O (λh14=>?_) (λh14=>?_)
 ·
  refine J.M j8<|J.p λ_ j9=>J.T<|J.f λ_ j10=>J.j 2 O<|J.c j10<|J.p λ_ j11=>J.b1 [F] [] (.y 0 (.y 1 (.y 2 (.y 3 (.y 4 (.y 5 (.y 6 (.y 7 (.y 8 .nil))))))))) Tryz.wide xF xD ?_
  refine J.L ?_
  refine J.L ?_
  refine J.k O (qAF O O O qCt qAw hs xB) O O<|J.k O (qAT O O qBZ qAw (m:=F) xD (hs.elem (qD2 xB)) O) O O<|J.L ?_
  refine J.L ?_
  refine J.k O (qAF O O O qCt qAw hs2 xB) O O<|J.k O (qAT O O qBZ qAw (m:=F) xD (hs2.elem (qD2 xB)) O) O O<|J.k O ((qW8 O O O xH (λw=>eqEn (l.getD k qBD) (l2.getD k qBD) w)).as (v':= .bool (!decide ((l.getD k qBD)=(l2.getD k qBD)))) O) O O<|J.b0<|J.u (J.D j11 ?_)
  refine J.c6 O (λh24=>?_) (λh24=>?_)
  ·
   exact J.f λ_ j12=>J.b O<|J.c j12<|J.A<|J.a6<|J.V<|J.V<|J.a6<|J.V<|J.E hw0 O () (by rw [decide_eq_false (λe=>by rw [e] at h24;simp at h24)]) trivial [0] O xC
  refine J.b2<|J.a1<|J.u (J.D j9 ?_)
  exact J.H<|J.g ((qAR O O O xB).nat (k+1) xB) O<|J.b O<|J.a4<|J.u<|J.a7 (k+1) (λη (hη:_∧n-η<n-k)=>hI0 η hη.1 hη.2) ⟨⟨xB,λj hj=>by rcases Nat.lt_succ_iff_lt_or_eq.1 hj with h|rfl;exact hno j h;simpa using h24⟩,by first|omega|(dsimp only;omega)⟩ ⟨O,O,O,O,trivial⟩ (λ_ h=>h)
 refine J.b4<|J.a0<|J.a0<|J.b5 ?_
 refine J.u (J.D j5 ?_)
 exact J.f λ_ j13=>J.b O<|J.c j13<|J.A<|J.E hw0 O () (by rw [decide_eq_true (List.ext_getElem xB (λj h1 h2=>by have:=hno j xB;rw [jB,jC h1,jB,jC h2] at this;exact this))]) trivial [0] O xC
def qJc(lb s:xA)(e:Int)(l le:List En):Int:=
 if s≠lb then 20 else if e≠0 then e else if le.length<l.length then 13 else if le.take l.length≠l then 15 else 0
def qRO(lb s:xA)(e:Int)(l le:List En):List En:=if qJc lb s e l le=0 then le else l
def qWh(own:List Pk)(lb s:xA)(e:Int)(l le:List En):Bool:=decide (qJc lb s e l le=0)&&decide ((qOO own le).length=0)
structure SeR where
 A:Option Addr
 c:Nat
 m:Hp
section
variable{own:List Pk}{lb s:xA}{e:Int}{l le:List En}{E:Int}
theorem qDc(h:qJc lb s e l le=E)(hE:E≠0):qRO lb s e l le=l:=by unfold qRO;rw [h,if_neg hE]
theorem qIT(h:qJc lb s e l le=E)(hE:E≠0):qWh own lb s e l le=false:=by unfold qWh;rw [h,decide_eq_false hE];rfl
end
theorem qVk(F mk:Hp)(gm gk:Nat)(lb:xA)(A:Option Addr)(c:Nat)(l:List En)(hr:Row mk 102 5 A l.length c (qCT l))(hl:l.length≤1000000)(own:List Pk)(hk:qHS pkK F gk (qFW own))(s:xA)(Ae:Option Addr)(ne ce:Nat)(le:List En)(hse:Sl F 5 Ae ne ce (qCT le))(hne:ne≤1000000)(Ab:Option Addr)(nb cb:Nat)(th:Bool)(pk pv:xA)(cv:Value)(xe:En)(xb:Bool)(xr:Int)(hck: ∀F',Le F F'→Cz prog 99 [cv,.agg #[Str (s),.slice Ae ne ce,.slice Ab nb cb,.bool (th),Str (pk),Str (pv)]] F' (.tuple #[.agg #[N64 (xe.v),Str (xe.o),Str (xe.r),I (xe.h),Str (xe.p)],.bool xb,I xr])):
    Ct prog 32 [Ptr gm,cv,.agg #[Str (s),.slice Ae ne ce,.slice Ab nb cb,.bool (th),Str (pk),Str (pv)]] [blk gm [Str lb,.map (some gk),.slice A l.length c] 195,mk,F] (λ_:SeR=> .tuple #[.bool (qWh own lb s xr l le),I (qJc lb s xr l le)]) (λr=>Row r.m 102 5 r.A (qRO lb s xr l le).length r.c (qCT (qRO lb s xr l le))) (λr=> [blk gm [Str lb,.map (some gk),.slice r.A (qRO lb s xr l le).length r.c] 195,r.m,F]):=by
  have hle:le.length=ne:=by have:=hse.1;simpa [qCT] using this
  have hcap:=hse.2.1
  refine Ct.walk func32 O ntmps32 O (λw0 hw0=>?_)
  refine J.f λ_ j1=>J.q (qAd O O O) O λg5 _=>J.j 2 O<|J.c j1<|J.p λ_ j2=>J.T<|J.f λ_ j3=>J.b O<|J.g ((qA2 underlying76 O O O).as (v':= .bool false) O) O<|J.b O<|J.c j3<|J.a3 ?_
  refine J.p λ_ j4=>J.b1 [blk gm [Str lb,.map (some gk),.slice A l.length c] 195,blk g5 [Str (s),.slice Ae ne ce,.slice Ab nb cb,.bool (th),Str (pk),Str (pv)] 89] [] (.y 0 (.y 1 (.y 2 (.y 3 (.y 4 (.y 5 (.y 6 (.y 7 .nil)))))))) Tryz.wide xF xD ?_
  refine J.k O (qAA O O qNR O z9_ O) O O<|J.k O (qAC 1 O O O b9_ O) O O<|J.L ?_
  refine J.k O (qAB O O) O O<|J.k O (qAA O O qJO O z9_ O) O O<|J.k O (qAC 0 O O O b9_ O) O O<|J.k O (qCy O O O) O O<|J.b7 ?_
  refine J.b0<|J.u (J.D j4 ?_)
  refine J.Z O (λh15=>?_) (λh15=>?_)
  ·
    refine J.f λ_ j5=>J.j 2 O<|J.c j5<|J.A<|J.a6<|J.V ?_
    have hE:qJc lb s xr l le=20:=by unfold qJc;rw [if_pos h15]
    exact J.a9 hw0 (λ_ _ h=>h) (qBk O O O) (qAg (⟨A,c,mk⟩:SeR) (by rw [qIT (E:=20) hE xK,hE]) (by rw [qDc (E:=20) hE xK];exact hr) [0,1,2] (by rw [qDc (E:=20) hE xK];rfl) xC)
  refine J.b2<|J.a1<|J.u (J.D j2 ?_)
  refine J.p λ_ j6=>J.f λ_ j7=>J.b O<|J.c0 3 isAgg89 sizeOf89 O O O O O<|J.q (qAa O O (λF' hF=>hck F' (Fa hF))) O λg26 _=>J.j 4 O<|J.q (qAJ O qE7 O) O λg8 _=>J.a8 (qAD (i:=4) (l:= [.int .u64 0,Str [],Str [],I 0,Str []]) (vs:= [N64 (xe.v),Str (xe.o),Str (xe.r),I (xe.h),Str (xe.p)]) O O O O O qAw O O) O O λ_ _=>J.j 2 O<|J.c j7<|J.f λ_ j8=>J.b O<|J.g (qAY O O O) O<|J.c j8<|J.Z O (λh31=>?_) (λh31=>?_)
  ·
    refine J.f λ_ j9=>J.j 3 O<|J.c j9<|J.A<|J.V ?_
    have hE:qJc lb s xr l le=xr:=by unfold qJc;rw [if_neg h15,if_pos h31]
    exact J.a9 hw0 (λ_ _ h=>h) (qBk O O O) (qAg (⟨A,c,mk⟩:SeR) (by rw [qIT (E:=xr) hE xK,hE]) (by rw [qDc (E:=xr) hE xK];exact hr) [0,1,2] (by rw [qDc (E:=xr) hE xK];rfl) xC)
  refine J.M j6<|J.p λ_ j10=>J.f λ_ j11=>J.b O<|J.g (qAB O O) O<|J.W 2 qJO qNK O O O O O<|J.a5 0 qQ9 O O O O O<|J.g (qAP qCt O O) O<|J.b O<|J.c j11<|J.T<|J.f λ_ j12=>J.W 1 qNR qNK O O O O O<|J.a5 3 qQ9 O O O O O<|J.g (qAP qCt O O) O<|J.b O<|J.g (qAQ O O O) O<|J.b O<|J.c j12<|J.Z O (λh38=>?_) (λh38=>?_)
  ·
    refine J.f λ_ j13=>J.j 2 O<|J.c j13<|J.A<|J.a6<|J.V ?_
    have hE:qJc lb s xr l le=13:=by unfold qJc;rw [if_neg h15,if_neg h31,if_pos xB]
    exact J.a9 hw0 (λ_ _ h=>h) (qBk O O O) (qAg (⟨A,c,mk⟩:SeR) (by rw [qIT (E:=13) hE xK,hE]) (by rw [qDc (E:=13) hE xK];exact hr) [0,1,2] (by rw [qDc (E:=13) hE xK];rfl) xC)
  refine J.p λ_ j14=>J.b1 [F,mk,blk gm [Str lb,.map (some gk),.slice A l.length c] 195,blk g5 [Str (s),.slice Ae ne ce,.slice Ab nb cb,.bool (th),Str (pk),Str (pv)] 89] [] (.y 0 (.y 1 (.y 2 (.y 3 (.y 4 (.y 5 (.y 6 (.y 7 (.e 8 (.y 9 (.y 10 .nil))))))))))) Tryz.wide xF xD ?_
  refine J.k O (qAA O O qNR O qNK O) O O<|J.k O (qAC 3 O O O qQ9 O) O O<|J.L ?_
  refine J.k O (qBy O O qCt qAw O xB) O O<|J.L ?_
  refine J.k O (qAB O O) O O<|J.k O (qAA O O qJO O qNK O) O O<|J.k O (qAC 2 O O O qQ9 O) O O<|J.a2 O (qAa O O (λF' hF=>qWA F' Ae l.length ce (le.take l.length) (by rw [←qKM];exact((hse.to xB).mono (Fa hF))) xB A l.length c l (hr.sl.mono (Fa hF)))) O xD λg53 _=>J.k O (qFP O O) O O<|J.b7 ?_
  refine J.b0<|J.u (J.D j14 ?_)
  refine J.Z O (λh44=>?_) (λh44=>?_)
  ·
    refine J.f λ_ j15=>J.j 2 O<|J.c j15<|J.A<|J.a6<|J.V ?_
    have hE:qJc lb s xr l le=15:=by unfold qJc;rw [if_neg h15,if_neg h31,if_neg xB,if_pos h44]
    exact J.a9 hw0 (λ_ _ h=>h) (qBk O O O) (qAg (⟨A,c,mk⟩:SeR) (by rw [qIT (E:=15) hE xK,hE]) (by rw [qDc (E:=15) hE xK];exact hr) [0,1,2] (by rw [qDc (E:=15) hE xK];rfl) xC)
  refine J.b2<|J.a1<|J.u (J.D j10 ?_)
  refine J.f λ_ j16=>J.b O<|J.W 1 qNR qNK O O O O O<|J.a5 3 qQ9 O O O O O<|J.q (qBV O O (λF' hF=>qE9 F' Ae ne ce le (hse.mono (Fa hF)) xO)) O ?_
  rintro⟨A58,c58,m58⟩ h58
  try dsimp only at h58
  refine J.g (qAB O O) O<|J.W 2 qJO qNK O O O O O<|J.a8 (qAV (i:=0) O O O O O qNK O xD) O O λ_ _=>?_
  change J _ _ _ [blk gm [Str lb,.map (some gk),.slice A58 ((le).length) c58] 195,_,_,_,_,_] _
  refine J.c j16<|J.f λ_ j17=>J.b O<|J.q (qAK O O ent (Ct.use (new:=λx:Option Addr×Nat×Hp=> [x.2.2]) (λF' hF=>qVj F' gm gk lb A58 le.length c58 le (h58.sl.mono (Fa hF)) xB (qAG.blk0.mono (hF (blk gm [Str lb,.map (some gk),.slice A58 le.length c58] 195) xD)) own (hk.mono (Fa hF))))) O ?_
  rintro⟨A62,c62,m62⟩ h62
  try dsimp only at h62
  refine J.g (qAP qCt O O) O<|J.g ((qAZ O O O).as (v':= .bool (decide ((qOO own le).length=0))) (congrArg Value.bool (decide_eq_decide.2 xB))) O<|J.j 2 O<|J.c j17<|J.A ?_
  have hE:qJc lb s xr l le=0:=by unfold qJc;rw [if_neg h15,if_neg h31,if_neg xB,if_neg h44]
  exact J.a9 hw0 (λ_ _ h=>h) (qBk O O O) (qAg (⟨A58,c58,m58⟩:SeR) (by unfold qWh;rw [hE];rfl) (by unfold qRO;rw [hE,if_pos rfl];exact h58) [0,5,2] (by unfold qRO;rw [hE];rfl) xC)
end Go.Proofs.YtmemgokiolfdoaaGreatDoor
namespace Go.Proofs.YtmemgokiolfdoaaGreatDoor
open Go Go.Fw Go.Proofs.Tryz
theorem rv3c{P:Program}{env:Env}{ms:List Hp}{fn:Func}{n:Nat}{w0:Wd}{x t x' t' u v v' v''}(h:fn.results= #[.cell x t,.cell x' t',.tmp u])(h1:RV P env ms (.cell x t) v)(h2:RV P env ms (.cell x' t') v')(h3:RV P env ms (.tmp u) v''): ∀a w,Kn n env a→St w0 ms w→(results fn a.tmps).run P w= .ok (.tuple #[v,v',v'']) w:=λa w hk hs=>by
  have e:=RV.run hk hs h1
  have e':=RV.run hk hs h2
  have e'':=RV.run hk hs h3
  have hA: ∀(f:Value→World→Result Value) (x:Tmp) (t:TypeId) (u:Value),(do loadVar t (←asAddr (a.tmps.getD x undef)):Sem Value).run P w= .ok u w→
      ((Sem.run P (asAddr (a.tmps[x]?.getD undef)) w).andThen λb w'=>(Sem.run P (loadVar t b) w').andThen f)=f u w:=λf x t u hu=>by
    have h3:((Sem.run P (asAddr (a.tmps[x]?.getD undef)) w).andThen λb w'=>(Sem.run P (loadVar t b) w'))= .ok u w:=by simpa using hu
    cases hq:Sem.run P (asAddr (a.tmps[x]?.getD undef)) w with
    |ok b w'=>rw [hq] at h3;simp only [Result.andThen_ok] at h3⊢;rw [h3];rfl
    |halt x w'=>rw [hq] at h3;cases h3
  simp at e''
  unfold results
  rw [h]
  simp
  rw [hA _ _ _ _ e]
  rw [hA _ _ _ _ e']
  simp [e'']
theorem qU6(F:Hp)(g:Nat)(RA:Option Addr)(rn rc:Nat)(l:List Aud)(hrc:qAG F ⟨g,0,none⟩ [.slice RA rn rc])(hrs:Sl F 4 RA rn rc (qBf l))(k:Nat)(hk:k<l.length):Cz prog 170 [Ptr g,I (k:Nat)] F (.tuple #[.agg #[Str ((l.getD k qAq).nm),Str ((l.getD k qAq).op),Str ((l.getD k qAq).rt),I ((l.getD k qAq).ht)],I (0:Nat)]):=by
 have hrl:l.length=rn:=by have:=hrs.1;rw [qDo] at this;exact this
 refine Ct.walk func170 O ntmps170 O (λw0 hw0=>?_)
 refine J.f λ_ j1=>J.q (qAJ O qQi O) O λg4 _=>J.b O<|J.c j1<|J.p λ_ j2=>J.f λ_ j3=>J.b O<|J.g ((qAQ O O O).no xB) O<|J.j 3 O<|J.d0 (qAa O O (λF' hF=>qMJ F' g RA rn rc (hrc.mono (Fa hF)))) O λg11 _=>J.G ((qBA O O O).no xB) O<|J.b O<|J.c j3<|J.a3 ?_
 exact J.M j2<|J.f λ_ j4=>J.b O<|J.g (qAB O O) O<|J.W 0 qGN qHD O O O O O<|J.g (qAI O O isAgg118 (m:=F) xD (hrc)) O<|J.b O<|J.g (qAF O O O qDS qDW hrs xB) O<|J.g (qAT O O qKe qDW (m:=F) xD (hrs.elem (qFD xB)) O) O<|J.a8 (qAD (i:=1) (l:= [Str [],Str [],Str [],I 0]) (vs:= [Str ((l.getD k qAq).nm),Str ((l.getD k qAq).op),Str ((l.getD k qAq).rt),I ((l.getD k qAq).ht)]) O O O O O qDW O O) O O λ_ _=>J.b O<|J.c j4<|J.A<|J.a9 hw0 (λ_ _ h=>h) (rv2 O (RV.blkA 1 O O qKe qDW) O) (qAg () O trivial [0] O xC)
structure MbR where
 s:Nat
 A:Option Addr
 c:Nat
 m:Hp
structure MbP (x:SvR) (e k:Nat) (r:MbR):Prop where
 st:qJE (x.kv.getD e []) (qAN k) 0 r.s
 rb:Row r.m 9 1 r.A (bsd (x.kv.getD e []) (qAN k) 0 (r.s-0)).length r.c (qAH (bsd (x.kv.getD e []) (qAN k) 0 (r.s-0)))
theorem qGT(F:Hp)(hK:qAG F ⟨3,0,none⟩ (Sha.K.map W32))(x:SvR)(hc:qAG F ⟨x.gs,0,none⟩ [I (x.dp:Nat),Ptr x.gb,.bool false,.map (some x.nA),Ptr x.rA,.map (some x.nB),Ptr x.rB,.slice x.cA x.cl.length x.cc,.slice x.oA x.no.length x.oc,.slice x.tA x.tg.length x.tc,.slice x.hA x.hd.length x.hc])(hts:Sl F 1 x.tA x.tg.length x.tc (qDT x.tg))(hhs:Sl F 5 x.hA x.hd.length x.hc (qDC x.hd))(hnb:x.hd.length≤1000)(hra:qRL F x.rA x.aud)(e k:Nat)(he:e<x.hd.length)(het:e<x.tg.length)(hk:k<(x.hd.getD e qAX).aud)(hka:k<x.aud.length)(hal:x.aud.length≤64)(hT:qCQ F (x.tg.getD e 0) (x.kv.getD e []))(hf:qCE (x.kv.getD e [])):Ct prog 94 [Ptr x.gs,N64 e,I (k:Nat)] [F] (λr:MbR=> .tuple #[.agg #[Str ((x.aud.getD k qAq).nm),Str ((x.aud.getD k qAq).op),Str ((x.aud.getD k qAq).rt),I ((x.aud.getD k qAq).ht)],.agg #[.slice r.A (bsd (x.kv.getD e []) (qAN k) 0 (r.s-0)).length r.c,.bool (qAn (x.kv.getD e []) (qAN k) r.s),Str (qBj (x.kv.getD e []) (qAN k) r.s),Str (qBl (x.kv.getD e []) (qAN k) r.s)],I (0:Nat)]) (MbP x e k) (λr=> [F,r.m]):=by
 obtain ⟨RA,rn,rc,hrc,hrs⟩:=hra
 have hrl:x.aud.length=rn:=by have:=hrs.1;rw [qDo] at this;exact this
 refine Ct.walk func94 O ntmps94 O (λw0 hw0=>?_)
 refine J.f λ_ j1=>J.q (qAJ O qQi O) O λg6 _=>J.q (qAJ O qOE O) O λg7 _=>J.b O<|J.c j1<|J.p λ_ j2=>J.T<|J.f λ_ j3=>J.b O<|J.g ((qA2 qWs O O O).as (v':= .bool false) O) O<|J.j 3 O<|J.G (qAB O O) O<|J.G (qAA O O qBB O qKp O) O<|J.G (qAI O O qOS (m:=F) xD (hc.at (i:=10) O)) O<|J.G (qAP qGM O O) O<|J.G (qDz O O u3_ qEF xB) O<|J.G ((qBA O O O).no xB) O<|J.j 2 O<|J.c j3<|J.a3 ?_
 refine J.f λ_ j4=>J.b O<|J.g ((qAQ O O O).no xB) O<|J.j 3 O<|J.G (qAB O O) O<|J.G (qAA O O qBB O qKp O) O<|J.G (qAI O O qOS (m:=F) xD (hc.at (i:=10) O)) O<|J.b O<|J.G (qAF O O O qGM qC6 hhs xB) O<|J.G (qEk O O qDs O z3_ hhs xB O) O<|J.G (qAI O O b3_ (m:=F) xD (hhs.part (qEd xB) 3 1)) O<|J.G ((qBA O O O).no xB) O<|J.j 2 O<|J.c j4<|J.a3 ?_
 refine J.b2<|J.a1<|J.u (J.D j2 ?_)
 refine J.f λ_ j5=>J.b O<|J.g (qAB O O) O<|J.W 3 qBB qCU O O O O O<|J.W 4 qEI sizeOf121 O O O O O<|J.g (qAI O O isAgg121 (m:=F) xD (hc.at (i:=4) O)) O<|J.b O<|J.q (qAa O O (λF' hF=>(by have:=qU6 F' x.rA RA rn rc x.aud (hrc.mono (Fa hF)) (hrs.mono (Fa hF)) k hka;exact this))) O λg51 _=>J.j 3 O<|J.q (qAJ O qQi O) O λg9 _=>J.a8 (qAD (i:=3) (l:= [Str [],Str [],Str [],I 0]) (vs:= [Str ((x.aud.getD k qAq).nm),Str ((x.aud.getD k qAq).op),Str ((x.aud.getD k qAq).rt),I ((x.aud.getD k qAq).ht)]) O O O O O qDW O O) O O λ_ _=>J.b O<|J.c j5<|J.p λ_ j6=>J.f λ_ j7=>J.b O<|J.g ((qAY O O O).no xC) O<|J.c j7<|J.a3 ?_
 refine J.M j6<|J.p λ_ j8=>J.b1 [F] [14,15,100012] (.y 0 (.y 1 (.y 2 (.y 3 (.y 4 (.y 5 (.y 6 (.y 7 (.br (.e 8 (.br (.e 9 (.y 10 (.y 11 (.y 12 (.e 13 (.e 14 (.e 15 .nil))))))) (.e 13 (.e 9 (.y 10 (.y 11 (.y 12 (.e 14 (.e 15 .nil))))))))) (.e 13 (.e 8 (.e 9 (.y 10 (.y 11 (.y 12 (.e 14 (.e 15 .nil))))))))))))))))) Tryz.wide xF xD ?_
 refine J.L ?_
 refine J.k O (qAB O O) O O<|J.k O (qAA O O qBB O sizeOf127 O) O O<|J.k O (qAI O O isAgg127 (m:=F) xD (hc.at (i:=9) O)) O O<|J.L ?_
 refine J.k O (qAF O O O qNW sizeOf130 hts xB) O O<|J.k O (qAI O O isAgg130 (m:=F) xD (hts.elem (qJk xB))) O O<|J.L ?_
 refine J.d7 ?_ ?_
 ·
  refine J.a2 O (qAa O O (λF' hF=>qDw F' (hK.mo hF) k xB)) O xD λg68 _=>J.d7 ?_ ?_
  ·
   refine J.a2 O (qBV O O (λF' hF=>qEe F' (hK.mo hF) (x.tg.getD e 0) (x.kv.getD e []) (hT.mono (Fa hF)) hf (qAN k) (qBc k) 0 xB)) O xD ?_
   rintro⟨s69,A69,c69,m69⟩ ⟨hst69,hr69⟩
   refine J.L ?_
   refine J.c8 (.agg #[.slice A69 (bsd (x.kv.getD e []) (qAN k) 0 (s69-0)).length c69,.bool (qAn (x.kv.getD e []) (qAN k) s69),Str (qBj (x.kv.getD e []) (qAN k) s69),Str (qBl (x.kv.getD e []) (qAN k) s69)]) ?_
   refine J.d1 O (qAS O O O) O O O ?_
   refine J.a2 O (qAJ O qOE O) O xD λg11 _=>J.c1 O (qAD (i:=5) (l:= [.slice none 0 0,.bool false,Str [],Str []]) (vs:= [.slice A69 (bsd (x.kv.getD e []) (qAN k) 0 (s69-0)).length c69,.bool (qAn (x.kv.getD e []) (qAN k) s69),Str (qBj (x.kv.getD e []) (qAN k) s69),Str (qBl (x.kv.getD e []) (qAN k) s69)]) O O O O O qCl O O) O O O λ_ _=>J.d4 O (YOp.eop (qA9 O O)) O O O O ?_
   intro _ _
   refine J.b0<|J.u (J.D j8 ?_)
   refine J.p λ_ j9=>J.b1 [blk g9 [Str ((x.aud.getD k qAq).nm),Str ((x.aud.getD k qAq).op),Str ((x.aud.getD k qAq).rt),I ((x.aud.getD k qAq).ht)] 34,blk g11 [.slice A69 (bsd (x.kv.getD e []) (qAN k) 0 (s69-0)).length c69,.bool (qAn (x.kv.getD e []) (qAN k) s69),Str (qBj (x.kv.getD e []) (qAN k) s69),Str (qBl (x.kv.getD e []) (qAN k) s69)] 87] [] (.y 0 (.y 1 (.y 2 (.e 3 (.e 4 (.y 5 .nil)))))) Tryz.wide xF xD ?_
   refine J.k O (qAe 0 O O O qKe qDW O) O O<|J.k O (qAe 1 O O O qGC qCl O) O O<|J.L ?_
   refine J.e0 O (qAD (i:=1) (l:= [Str [],Str [],Str [],I 0]) (vs:= [Str ((x.aud.getD k qAq).nm),Str ((x.aud.getD k qAq).op),Str ((x.aud.getD k qAq).rt),I ((x.aud.getD k qAq).ht)]) O O O O O qDW O O) O O xD λ_ _=>J.e0 O (qAD (i:=2) (l:= [.slice none 0 0,.bool false,Str [],Str []]) (vs:= [.slice A69 (bsd (x.kv.getD e []) (qAN k) 0 (s69-0)).length c69,.bool (qAn (x.kv.getD e []) (qAN k) s69),Str (qBj (x.kv.getD e []) (qAN k) s69),Str (qBl (x.kv.getD e []) (qAN k) s69)]) O O O O O qCl O O) O O xD λ_ _=>J.b7 ?_
   refine J.b0<|J.u (J.D j9 ?_)
   exact J.A<|J.a9 hw0 (λ_ _ h=>h) (rv3c O (RV.blkA 1 O O qKe qDW) (RV.blkA 2 O O qGC qCl) O) (qAg (⟨s69,A69,c69,m69⟩:MbR) O ⟨hst69,hr69⟩ [0,4] O xC)
  refine J.a2 O (qAJ O qOE O) O xD λg11 _=>J.a2 O (qBV O O (λF' hF=>qEe F' (hK.mo hF) (x.tg.getD e 0) (x.kv.getD e []) (hT.mono (Fa hF)) hf (qAN k) (qBc k) 0 xB)) O xD ?_
  rintro⟨s69,A69,c69,m69⟩ ⟨hst69,hr69⟩
  refine J.L ?_
  refine J.c8 (.agg #[.slice A69 (bsd (x.kv.getD e []) (qAN k) 0 (s69-0)).length c69,.bool (qAn (x.kv.getD e []) (qAN k) s69),Str (qBj (x.kv.getD e []) (qAN k) s69),Str (qBl (x.kv.getD e []) (qAN k) s69)]) ?_
  refine J.d1 O (qAS O O O) O O O ?_
  refine J.c1 O (qAD (i:=4) (l:= [.slice none 0 0,.bool false,Str [],Str []]) (vs:= [.slice A69 (bsd (x.kv.getD e []) (qAN k) 0 (s69-0)).length c69,.bool (qAn (x.kv.getD e []) (qAN k) s69),Str (qBj (x.kv.getD e []) (qAN k) s69),Str (qBl (x.kv.getD e []) (qAN k) s69)]) O O O O O qCl O O) O O O λ_ _=>J.d4 O (YOp.eop (qA9 O O)) O O O O ?_
  intro _ _
  refine J.b0<|J.u (J.D j8 ?_)
  refine J.p λ_ j10=>J.b1 [blk g9 [Str ((x.aud.getD k qAq).nm),Str ((x.aud.getD k qAq).op),Str ((x.aud.getD k qAq).rt),I ((x.aud.getD k qAq).ht)] 34,blk g11 [.slice A69 (bsd (x.kv.getD e []) (qAN k) 0 (s69-0)).length c69,.bool (qAn (x.kv.getD e []) (qAN k) s69),Str (qBj (x.kv.getD e []) (qAN k) s69),Str (qBl (x.kv.getD e []) (qAN k) s69)] 87] [] (.y 0 (.y 1 (.y 2 (.e 3 (.e 4 (.y 5 .nil)))))) Tryz.wide xF xD ?_
  refine J.k O (qAe 0 O O O qKe qDW O) O O<|J.k O (qAe 1 O O O qGC qCl O) O O<|J.L ?_
  refine J.e0 O (qAD (i:=1) (l:= [Str [],Str [],Str [],I 0]) (vs:= [Str ((x.aud.getD k qAq).nm),Str ((x.aud.getD k qAq).op),Str ((x.aud.getD k qAq).rt),I ((x.aud.getD k qAq).ht)]) O O O O O qDW O O) O O xD λ_ _=>J.e0 O (qAD (i:=2) (l:= [.slice none 0 0,.bool false,Str [],Str []]) (vs:= [.slice A69 (bsd (x.kv.getD e []) (qAN k) 0 (s69-0)).length c69,.bool (qAn (x.kv.getD e []) (qAN k) s69),Str (qBj (x.kv.getD e []) (qAN k) s69),Str (qBl (x.kv.getD e []) (qAN k) s69)]) O O O O O qCl O O) O O xD λ_ _=>J.b7 ?_
  refine J.b0<|J.u (J.D j10 ?_)
  exact J.A<|J.a9 hw0 (λ_ _ h=>h) (rv3c O (RV.blkA 1 O O qKe qDW) (RV.blkA 2 O O qGC qCl) O) (qAg (⟨s69,A69,c69,m69⟩:MbR) O ⟨hst69,hr69⟩ [0,5] O xC)
 refine J.a2 O (qAJ O qOE O) O xD λg11 _=>J.a2 O (qAa O O (λF' hF=>qDw F' (hK.mo hF) k xB)) O xD λg68 _=>J.a2 O (qBV O O (λF' hF=>qEe F' (hK.mo hF) (x.tg.getD e 0) (x.kv.getD e []) (hT.mono (Fa hF)) hf (qAN k) (qBc k) 0 xB)) O xD ?_
 rintro⟨s69,A69,c69,m69⟩ ⟨hst69,hr69⟩
 refine J.L ?_
 refine J.c8 (.agg #[.slice A69 (bsd (x.kv.getD e []) (qAN k) 0 (s69-0)).length c69,.bool (qAn (x.kv.getD e []) (qAN k) s69),Str (qBj (x.kv.getD e []) (qAN k) s69),Str (qBl (x.kv.getD e []) (qAN k) s69)]) ?_
 refine J.d1 O (qAS O O O) O O O ?_
 refine J.c1 O (qAD (i:=4) (l:= [.slice none 0 0,.bool false,Str [],Str []]) (vs:= [.slice A69 (bsd (x.kv.getD e []) (qAN k) 0 (s69-0)).length c69,.bool (qAn (x.kv.getD e []) (qAN k) s69),Str (qBj (x.kv.getD e []) (qAN k) s69),Str (qBl (x.kv.getD e []) (qAN k) s69)]) O O O O O qCl O O) O O O λ_ _=>J.d4 O (YOp.eop (qA9 O O)) O O O O ?_
 intro _ _
 refine J.b0<|J.u (J.D j8 ?_)
 refine J.p λ_ j11=>J.b1 [blk g9 [Str ((x.aud.getD k qAq).nm),Str ((x.aud.getD k qAq).op),Str ((x.aud.getD k qAq).rt),I ((x.aud.getD k qAq).ht)] 34,blk g11 [.slice A69 (bsd (x.kv.getD e []) (qAN k) 0 (s69-0)).length c69,.bool (qAn (x.kv.getD e []) (qAN k) s69),Str (qBj (x.kv.getD e []) (qAN k) s69),Str (qBl (x.kv.getD e []) (qAN k) s69)] 87] [] (.y 0 (.y 1 (.y 2 (.e 3 (.e 4 (.y 5 .nil)))))) Tryz.wide xF xD ?_
 refine J.k O (qAe 0 O O O qKe qDW O) O O<|J.k O (qAe 1 O O O qGC qCl O) O O<|J.L ?_
 refine J.e0 O (qAD (i:=1) (l:= [Str [],Str [],Str [],I 0]) (vs:= [Str ((x.aud.getD k qAq).nm),Str ((x.aud.getD k qAq).op),Str ((x.aud.getD k qAq).rt),I ((x.aud.getD k qAq).ht)]) O O O O O qDW O O) O O xD λ_ _=>J.e0 O (qAD (i:=2) (l:= [.slice none 0 0,.bool false,Str [],Str []]) (vs:= [.slice A69 (bsd (x.kv.getD e []) (qAN k) 0 (s69-0)).length c69,.bool (qAn (x.kv.getD e []) (qAN k) s69),Str (qBj (x.kv.getD e []) (qAN k) s69),Str (qBl (x.kv.getD e []) (qAN k) s69)]) O O O O O qCl O O) O O xD λ_ _=>J.b7 ?_
 refine J.b0<|J.u (J.D j11 ?_)
 exact J.A<|J.a9 hw0 (λ_ _ h=>h) (rv3c O (RV.blkA 1 O O qKe qDW) (RV.blkA 2 O O qGC qCl) O) (qAg (⟨s69,A69,c69,m69⟩:MbR) O ⟨hst69,hr69⟩ [0,5] O xC)
def zEn:En:=⟨0,[],[],0,[]⟩
def qJC(root nm:xA)(l:List En)(bs:List xA)(th:Bool)(pk pv:xA):En×Bool×Int:=
 if l.length=0 then(if qGs bs th pk pv root nm 0=true then(zEn,false,0) else(zEn,false,18))
 else if En.hist l≠0 then(zEn,false,En.hist l)
 else if qOA bs th pk pv root nm (l.getD (l.length-1) qBD).val 0=true then(l.getD (l.length-1) qBD,true,0) else(zEn,false,18)
section
variable{root nm:xA}{l:List En}{bs:List xA}{th:Bool}{pk pv:xA}
theorem chk_1(h:l.length=0)(h2:qGs bs th pk pv root nm 0=true):qJC root nm l bs th pk pv=(zEn,false,0):=by unfold qJC;rw [if_pos h,if_pos h2]
theorem chk_2(h:l.length=0)(h2:qGs bs th pk pv root nm 0=false):qJC root nm l bs th pk pv=(zEn,false,18):=by unfold qJC;rw [if_pos h,h2];rfl
theorem chk_3(h: ¬l.length=0)(h2:En.hist l≠0):qJC root nm l bs th pk pv=(zEn,false,En.hist l):=by unfold qJC;rw [if_neg h,if_pos h2]
theorem chk_4(h: ¬l.length=0)(h2: ¬En.hist l≠0)(h3:qOA bs th pk pv root nm (l.getD (l.length-1) qBD).val 0=false):qJC root nm l bs th pk pv=(zEn,false,18):=by unfold qJC;rw [if_neg h,if_neg h2,h3];rfl
theorem qXl(h: ¬l.length=0)(h2: ¬En.hist l≠0)(h3:qOA bs th pk pv root nm (l.getD (l.length-1) qBD).val 0=true):qJC root nm l bs th pk pv=(l.getD (l.length-1) qBD,true,0):=by unfold qJC;rw [if_neg h,if_neg h2,if_pos h3]
end
theorem qWP(F:Hp)(hK:qAG F ⟨3,0,none⟩ (Sha.K.map W32))(gc sl nd:Nat)(A:Option Addr)(n c:Nat)(l:List RhD)(hs:Sl F 5 A n c (qDC l))(h0:0<n)(hn:n≤1000000)(hC:qAG F ⟨gc,0,none⟩ [I (sl:Nat),I (nd:Nat),.slice A n c])(hg:(qA4 (l.getD (n-1) qAX)).good)(hxs:nsl F (l.getD (n-1) qAX))(hsm: ∀s∈(l.getD (n-1) qAX).ns,s.length≤1048576)(s:xA)(hsl:s.length≤1000000)(Ae:Option Addr)(ne ce:Nat)(le:List En)(hse:Sl F 5 Ae ne ce (qCT le))(hel: ∀x∈le,x.good)(hne:ne≤1000000)(Ab:Option Addr)(cb:Nat)(bs:List xA)(hsb:Sl F 1 Ab bs.length cb (qAH bs))(th:Bool)(pk pv:xA)(hgp:qKn bs th pk pv (Sha.tagged 11 [s]) 0)(hpv:pv.length≤1000000):Cz prog 99 [Ptr gc,.agg #[Str (s),.slice Ae ne ce,.slice Ab bs.length cb,.bool (th),Str (pk),Str (pv)]] F (.tuple #[.agg #[N64 ((qJC (qCP (l.getD (n-1) qAX).ns (((l.getD (n-1) qAX).dep:Nat):Int)) (Sha.tagged 11 [s]) le bs th pk pv).1.v),Str ((qJC (qCP (l.getD (n-1) qAX).ns (((l.getD (n-1) qAX).dep:Nat):Int)) (Sha.tagged 11 [s]) le bs th pk pv).1.o),Str ((qJC (qCP (l.getD (n-1) qAX).ns (((l.getD (n-1) qAX).dep:Nat):Int)) (Sha.tagged 11 [s]) le bs th pk pv).1.r),I ((qJC (qCP (l.getD (n-1) qAX).ns (((l.getD (n-1) qAX).dep:Nat):Int)) (Sha.tagged 11 [s]) le bs th pk pv).1.h),Str ((qJC (qCP (l.getD (n-1) qAX).ns (((l.getD (n-1) qAX).dep:Nat):Int)) (Sha.tagged 11 [s]) le bs th pk pv).1.p)],.bool ((qJC (qCP (l.getD (n-1) qAX).ns (((l.getD (n-1) qAX).dep:Nat):Int)) (Sha.tagged 11 [s]) le bs th pk pv).2.1),I ((qJC (qCP (l.getD (n-1) qAX).ns (((l.getD (n-1) qAX).dep:Nat):Int)) (Sha.tagged 11 [s]) le bs th pk pv).2.2)]):=by
 have hln:l.length=n:=by have:=hs.1;simpa [qDC] using this
 have hle:le.length=ne:=by have:=hse.1;simpa [qCT] using this
 refine Ct.walk func99 O ntmps99 O (λw0 hw0=>?_)
 refine J.f λ_ j1=>J.q (qAd O O O) O λg3 _=>J.q (qAJ O qE7 O) O λg4 _=>J.j 2 O<|J.c j1 ?_
 refine J.p λ_ j2=>J.f λ_ j3=>J.b O<|J.g ((qA2 underlying91 O O O).as (v':= .bool false) O) O<|J.c j3 ?_
 refine J.a3 ?_
 refine J.M j2 ?_
 refine J.d6 (X:=Unit) (λζ=> [(3,Ptr g3),(4,Ptr g4),(7,Str ((qCP (l.getD (n-1) qAX).ns (((l.getD (n-1) qAX).dep:Nat):Int)))),(8,Str ((Sha.tagged 11 [s])))]) (λζ=> [F,blk g3 [Str (s),.slice Ae ne ce,.slice Ab bs.length cb,.bool (th),Str (pk),Str (pv)] 89,blk g4 [.int .u64 0,Str [],Str [],I 0,Str []] 102]) (λζ=>True) (λ_ j4=>?_) ?_
 ·
  refine J.b1 [F,blk g3 [Str (s),.slice Ae ne ce,.slice Ab bs.length cb,.bool (th),Str (pk),Str (pv)] 89] [] (.y 0 (.y 3 (.y 4 (.e 1 (.e 2 (.e 5 (.y 6 (.y 7 .nil)))))))) Tryz.wide xF xD ?_
  refine J.L ?_
  refine J.k O (qAA O O qNR O z9_ O) O O<|J.k O (qAC 1 O O O b9_ O) O O<|J.a2 O (qAa O O (λF' hF=>qM9 F' gc sl nd A n c l (hs.mono (Fa hF)) h0 hn (hC.mono (Fa hF)))) O xD λg15 _=>J.a2 O (qAa O O (λF' hF=>qMz F' (hK.mo hF) (qA4 (l.getD (n-1) qAX)) (l.getD (n-1) qAX).nsA (l.getD (n-1) qAX).nsc hg (hxs.mono (Fa hF)) hsm)) O xD λg16 _=>J.a2 O (qAa O O (λF' hF=>qF4 F' (hK.mo hF) s xB)) O xD λg19 _=>J.b7 ?_
  refine J.b7 ?_
  exact J.b0<|J.u<|J.a7 () j4 (trivial) ⟨O,O,O,O,trivial⟩ (λ_ h=>h)
 rintro _ _
 refine J.p λ_ j5=>J.f λ_ j6=>J.W 1 qNR qNK O O O O O<|J.a5 1 qQ9 O O O O O<|J.g (qAP qCt O O) O<|J.g (qAZ O O O) O<|J.c j6 ?_
 refine J.Z O (λh23=>?_) (λh23=>?_)
 ·
  refine J.p λ_ j7=>J.f λ_ j8=>J.W 2 qNR qCl O O O O O<|J.g (qAT O O qGC qCl (m:=blk g3 [Str (s),.slice Ae ne ce,.slice Ab bs.length cb,.bool (th),Str (pk),Str (pv)] 89) xD (qAG.blk0.sub 2 4) O) O<|J.j 2 O<|J.q (qAa O O (λF' hF=>qN2 F' (hK.mo hF) Ab cb bs (hsb.mono (Fa hF)) th pk pv (Sha.tagged 11 [s]) 0 hgp (qCP (l.getD (n-1) qAX).ns (((l.getD (n-1) qAX).dep:Nat):Int)) hpv)) O λg28 _=>J.g (qAu O O) O<|J.c j8 ?_
  refine J.c6 O (λh29=>?_) (λh29=>?_)
  ·
   refine J.f λ_ j9=>J.g (qAL (places:= [(0,1),(1,3),(4,1)]) (r:= [.int .u64 0,Str [],Str [],I 0,Str []]) O O O qCv qE7 (λ_=>xH) O) O<|J.a8 (qAD (i:=2) O O O O O qAw O O) O O λ_ _=>J.j 2 O<|J.c j9 ?_
   exact J.A<|J.V<|J.V<|J.a9 hw0 (λ_ _ h=>h) (rv3 O (RV.blkA 2 O O qBZ qAw) O O) (qAg () (by rw [chk_2 xB (by simpa using h29)];rfl) trivial [0] O xC)
  refine J.M j7 ?_
  refine J.f λ_ j10=>J.g (qAL (places:= [(0,1),(1,3),(4,1)]) (r:= [.int .u64 0,Str [],Str [],I 0,Str []]) O O O qCv qE7 (λ_=>xH) O) O<|J.a8 (qAD (i:=2) O O O O O qAw O O) O O λ_ _=>J.j 2 O<|J.c j10 ?_
  exact J.A<|J.V<|J.a9 hw0 (λ_ _ h=>h) (rv3 O (RV.blkA 2 O O qBZ qAw) O O) (qAg () (by rw [chk_1 xB (by simpa using h29)];rfl) trivial [0] O xC)
 refine J.M j5 ?_
 refine J.p λ_ j11=>J.f λ_ j12=>J.W 1 qNR qNK O O O O O<|J.a5 1 qQ9 O O O O O<|J.q (qAa O O (λF' hF=>qLj F' (hK.mo hF) le hel Ae ne ce (hse.mono (Fa hF)) xB)) O λg34 _=>J.b O<|J.c j12 ?_
 refine J.f λ_ j13=>J.b O<|J.g (qAY O O O) O<|J.c j13 ?_
 refine J.Z O (λh36=>?_) (λh36=>?_)
 ·
  refine J.f λ_ j14=>J.g (qAL (places:= [(0,1),(1,3),(4,1)]) (r:= [.int .u64 0,Str [],Str [],I 0,Str []]) O O O qCv qE7 (λ_=>xH) O) O<|J.b O<|J.a8 (qAD (i:=2) O O O O O qAw O O) O O λ_ _=>J.j 2 O<|J.c j14 ?_
  exact J.A<|J.V<|J.a9 hw0 (λ_ _ h=>h) (rv3 O (RV.blkA 2 O O qBZ qAw) O O) (qAg () (by rw [chk_3 xB h36];rfl) trivial [0] O xC)
 refine J.M j11 ?_
 refine J.p λ_ j15=>?_
 have hE:(le.getD (ne-1) qBD).good:=hel _ (by rw [jB,jC (show ne-1<le.length by omega)];exact jS _)
 refine J.H<|J.W 1 qNR qNK O O O O O<|J.a5 1 qQ9 O O O O O<|J.W 1 qNR qNK O O O O O<|J.a5 1 qQ9 O O O O O<|J.g (qAP qCt O O) O<|J.g ((qA1 O O O xB).nat (ne-1) xB) O<|J.g (qAF O O O qCt qAw hse xB) O<|J.g (qAT O O qBZ qAw (m:=F) xD (hse.elem (qD2 xB)) O) O<|J.q (qAJ O qE7 O) O λg10 _=>J.a8 (qAD (i:=3) (l:= [.int .u64 0,Str [],Str [],I 0,Str []]) (vs:= [N64 ((le.getD (ne-1) qBD).v),Str ((le.getD (ne-1) qBD).o),Str ((le.getD (ne-1) qBD).r),I ((le.getD (ne-1) qBD).h),Str ((le.getD (ne-1) qBD).p)]) O O O O O qAw O O) O O λ_ _=>J.c j15 ?_
 refine J.p λ_ j16=>J.p λ_ j17=>J.b1 [F,blk g3 [Str (s),.slice Ae ne ce,.slice Ab bs.length cb,.bool (th),Str (pk),Str (pv)] 89,blk g10 [N64 ((le.getD (ne-1) qBD).v),Str ((le.getD (ne-1) qBD).o),Str ((le.getD (ne-1) qBD).r),I ((le.getD (ne-1) qBD).h),Str ((le.getD (ne-1) qBD).p)] 102] [] (.y 0 (.y 1 (.y 2 (.y 3 (.y 4 (.e 5 (.e 6 (.y 7 .nil)))))))) Tryz.wide xF xD ?_
 refine J.k O (qAA O O qNR O qCl O) O O<|J.k O (qAT O O qGC qCl (m:=blk g3 [Str (s),.slice Ae ne ce,.slice Ab bs.length cb,.bool (th),Str (pk),Str (pv)] 89) xD (qAG.blk0.sub 2 4) O) O O<|J.L ?_
 refine J.L ?_
 refine J.k O (qAe 2 O O O qBZ qAw O) O O<|J.a2 O (qAa O O (λF' hF=>qE5 F' (hK.mo hF) (le.getD (ne-1) qBD).v (le.getD (ne-1) qBD).o (le.getD (ne-1) qBD).r (le.getD (ne-1) qBD).h (le.getD (ne-1) qBD).p hE.1 hE.2.1 hE.2.2.1 hE.2.2.2)) O xD λg52 _=>J.a2 O (qAa O O (λF' hF=>qM2 F' (hK.mo hF) Ab cb bs (hsb.mono (Fa hF)) th pk pv (Sha.tagged 11 [s]) 0 hgp (qCP (l.getD (n-1) qAX).ns (((l.getD (n-1) qAX).dep:Nat):Int)) (qCr (le.getD (ne-1) qBD).v (le.getD (ne-1) qBD).o (le.getD (ne-1) qBD).r (le.getD (ne-1) qBD).h (le.getD (ne-1) qBD).p) hpv)) O xD λg53 _=>J.k O (qAu O O) O O<|J.b0<|J.u (J.D j17 ?_)
 refine J.c6 O (λh54=>?_) (λh54=>?_)
 ·
  refine J.f λ_ j18=>J.g (qAL (places:= [(0,1),(1,3),(4,1)]) (r:= [.int .u64 0,Str [],Str [],I 0,Str []]) O O O qCv qE7 (λ_=>xH) O) O<|J.a8 (qAD (i:=2) O O O O O qAw O O) O O λ_ _=>J.j 2 O<|J.c j18 ?_
  exact J.A<|J.V<|J.a9 hw0 (λ_ _ h=>h) (rv3 O (RV.blkA 2 O O qBZ qAw) O O) (qAg () (by rw [chk_4 xB h36 (by rw [hle];exact(by simpa using h54:qOA bs th pk pv (qCP (l.getD (n-1) qAX).ns (((l.getD (n-1) qAX).dep:Nat):Int)) (Sha.tagged 11 [s]) (qCr (le.getD (ne-1) qBD).v (le.getD (ne-1) qBD).o (le.getD (ne-1) qBD).r (le.getD (ne-1) qBD).h (le.getD (ne-1) qBD).p) 0=false))];rfl) trivial [0] O xC)
 refine J.M j16 ?_
 refine J.f λ_ j19=>J.c0 3 qBZ qAw O O O O O<|J.a8 (qAD (i:=2) (l:= [.int .u64 0,Str [],Str [],I 0,Str []]) (vs:= [N64 ((le.getD (ne-1) qBD).v),Str ((le.getD (ne-1) qBD).o),Str ((le.getD (ne-1) qBD).r),I ((le.getD (ne-1) qBD).h),Str ((le.getD (ne-1) qBD).p)]) O O O O O qAw O O) O O λ_ _=>J.j 2 O<|J.c j19 ?_
 exact J.A<|J.a9 hw0 (λ_ _ h=>h) (rv3 O (RV.blkA 2 O O qBZ qAw) O O) (qAg () (by rw [qXl xB h36 (by rw [hle];exact(by simpa using h54:qOA bs th pk pv (qCP (l.getD (n-1) qAX).ns (((l.getD (n-1) qAX).dep:Nat):Int)) (Sha.tagged 11 [s]) (qCr (le.getD (ne-1) qBD).v (le.getD (ne-1) qBD).o (le.getD (ne-1) qBD).r (le.getD (ne-1) qBD).h (le.getD (ne-1) qBD).p) 0=true)),hle]) trivial [0] O xC)
end Go.Proofs.YtmemgokiolfdoaaGreatDoor