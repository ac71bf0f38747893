/- A part of the proof. -/
import Derived.Test.YtmemgokiolfdoaaGreatDoorTopMsG29
import Derived.Test.YtmemgokiolfdoaaGreatDoorTopMsG31
set_option maxRecDepth 100000
set_option maxHeartbeats 1000000
set_option linter.unusedSimpArgs false
set_option linter.unusedVariables false
namespace Go.Proofs.YtmemgokiolfdoaaGreatDoor
open Go Go.Fw Go.Proofs.Tryz
structure SbR where
 mX:Hp
 A:Option Addr
 c:Nat
 mE:Hp
 w:WtR
 mr:Hp
theorem qTY(F mX mr mo mC mO:Hp)(s:xA)(hK:qAG F ⟨3,0,none⟩ (Sha.K.map W32))(gs nB:Nat)(v0 v1 v2 v3 v4 v6 v9 v10:Value)(cA:Option Addr)(cc:Nat)(cl:List Chg)(hrc:Row mC 155 2 cA cl.length cc (qDo cl))(hcl:cl.length≤100000)(oA:Option Addr)(oc:Nat)(no:List xA)(hro:Row mO 9 1 oA no.length oc (qAH no))(hno:no.length≤100000)(nxt:List Lb)(hmp:Fw.MapS mX nB (lbV nxt))(hro2:Row mo 102 5 (qJZ nxt s) (qBC (lbE nxt) s).length (qJY nxt s) (qBz (qBC (lbE nxt) s)))(hon:(qBC (lbE nxt) s).length≤1000)(hs2:s.length≤200)(v:Nat)(o r:xA)(h:Int)(p:xA)(hE:qBX v o r h p=0)(i:Nat)(A1:Option Addr)(n1 c1:Nat)(ch:List xA)(hch:Sl F 1 A1 n1 c1 (qAH ch))(A2:Option Addr)(n2 c2:Nat)(pt:List xA)(hpt:Sl F 1 A2 n2 c2 (qAH pt))(hi:i≤63)(h35:ch.length=35)(hn6:pt.length≤6)(hc16: ∀s∈ch,s.length=16)(hp16: ∀s∈pt,s.length=16)(hp3:pt.length≤3)(hno2:no.length<256)(z:En)(had:Bool)(hL: ∀F':Hp,Le F F'→Le mX F'→Le mr F'→Le mo F'→Cz prog 102 [.agg #[.map (some nB),v6],Str s] F' (.tuple #[.agg #[N64 z.v,Str z.o,Str z.r,I z.h,Str z.p],.bool had]))(hJ: ∀F':Hp,Le F F'→Cz prog 103 [.agg #[Str s,N64 (v),Str (o),Str (r),I (h),Str (p),I (i:Nat),.slice A1 n1 c1,.slice A2 n2 c2],.bool had,.agg #[N64 z.v,Str z.o,Str z.r,I z.h,Str z.p]] F' (I (((0:Nat):Int)))):Ct prog 36 [Ptr gs,.agg #[Str s,N64 (v),Str (o),Str (r),I (h),Str (p),I (i:Nat),.slice A1 n1 c1,.slice A2 n2 c2]] [blk gs [v0,v1,v2,v3,v4,.map (some nB),v6,.slice cA cl.length cc,.slice oA no.length oc,v9,v10] 129,mX,mr,mo,mC,mO,F] (λ_:SbR=>I (0:Nat)) (λx=>Fw.MapS x.mX nB (lbV (qDG nxt ⟨s,x.A,x.c,((qBC (lbE nxt) s)++ [(⟨v,o,r,h,p⟩:En)]),x.mE⟩))∧Row x.mE 102 5 x.A ((qBC (lbE nxt) s)++ [(⟨v,o,r,h,p⟩:En)]).length x.c (qBz ((qBC (lbE nxt) s)++ [(⟨v,o,r,h,p⟩:En)]))∧Row x.w.mC 155 2 x.w.cA (cl++ [(⟨Sha.tagged 11 [s],qCO v o r h p⟩:Chg)]).length x.w.cc (qDo (cl++ [⟨Sha.tagged 11 [s],qCO v o r h p⟩]))∧Row x.w.mO 9 1 x.w.oA (no++ [117::(upB s (qBH v o r h p) (sgB i ch pt))]).length x.w.oc (qAH (no++ [117::(upB s (qBH v o r h p) (sgB i ch pt))]))) (λx=> [blk gs [v0,v1,v2,v3,v4,.map (some nB),v6,.slice x.w.cA (cl++ [(⟨Sha.tagged 11 [s],qCO v o r h p⟩:Chg)]).length x.w.cc,.slice x.w.oA (no++ [117::(upB s (qBH v o r h p) (sgB i ch pt))]).length x.w.oc,v9,v10] 129,x.mX,mr,x.w.mC,x.w.mO,F,x.mE]):=by
 obtain ⟨e1,e2,⟨e3,e4⟩,e5,e6,e7⟩:=qHX hE
 have hsg:=qI4 (i:=i) hc16 hp16 h35
 have hul:=qIs s (qBH v o r h p) (sgB i ch pt)
 have hel:=qB8 hE
 refine Ct.walk func36 O ntmps36 O (λw0 hw0=>?_)
 refine J.f λ_ j1=>J.q (qAb O O O) O λg3 _=>J.b O<|J.c j1<|J.k λ_ j2=>J.f λ_ j3=>J.b O<|J.g (qA6 qYv O O O) O<|J.c j3<|J.a3 ?_
 refine J.M j2<|J.k λ_ j4=>J.b1 [blk gs [v0,v1,v2,v3,v4,.map (some nB),v6,.slice cA cl.length cc,.slice oA no.length oc,v9,v10] 129,blk g3 [Str s,N64 (v),Str (o),Str (r),I (h),Str (p),I (i:Nat),.slice A1 n1 c1,.slice A2 n2 c2] 108] [11,12,100009] (.y 0 (.y 1 (.y 2 (.y 3 (.y 4 (.y 5 (.br (.e 6 (.y 7 (.y 8 (.y 9 (.e 10 (.e 11 (.e 12 .nil))))))) (.e 10 (.e 6 (.y 7 (.y 8 (.y 9 (.e 11 (.e 12 .nil)))))))))))))) Tryz.wide xF xD ?_
 refine J.L ?_
 refine J.j O (qAB O O) O O<|J.j O (qAA O O qBJ O qCp O) O O<|J.j O (qAP O O isAgg124 qCp (m:=blk gs [v0,v1,v2,v3,v4,.map (some nB),v6,.slice cA cl.length cc,.slice oA no.length oc,v9,v10] 129) xD (qAG.blk0.sub 5 2) O) O O<|J.j O (qAA O O qBP O z9_ O) O O<|J.j O (qAD 1 O O O b9_ O) O O<|J.d6 ?_ ?_
 ·
  refine J.a1 O (qAZ O O (λF' hF=>hL F' (Fa hF) (Fa hF) (Fa hF) (Fa hF))) O xD λg19 _=>J.L ?_
  refine J.c7 (.agg #[N64 (z.v),Str (z.o),Str (z.r),I (z.h),Str (z.p)]) ?_
  refine J.d1 O (qAT O O O) O O O ?_
  refine J.a1 O (qAJ O qDe O) O xD λg5 _=>J.c1 O (qAC (i:=8) (l:= [.int .u64 0,Str [],Str [],I 0,Str []]) (vs:= [N64 (z.v),Str (z.o),Str (z.r),I (z.h),Str (z.p)]) O O O O O qAj O O) O O O λ_ _=>J.d4 O (YOp.eop (qBF O O)) O O O O ?_
  intro _ _
  refine J.b0<|J.u (J.D j4 ?_)
  refine J.k λ_ j5=>J.f λ_ j6=>J.c0 7 isAgg108 qHm O O O O O<|J.b O<|J.c0 8 qBB qAj O O O O O<|J.q (qAZ O O (λF' hF=>hJ F' (Fa hF))) O λg25 _=>J.b O<|J.c j6<|J.f λ_ j7=>J.b O<|J.g ((qAV O O O).no xC) O<|J.c j7<|J.a3 ?_
  refine J.M j5<|J.f λ_ j8=>J.c0 7 isAgg108 qHm O O O O O<|J.q (qAZ O O (λF' hF=>qKg F' s xH v o r h p xH i A1 n1 c1 ch (hch.mono (Fa hF)) A2 n2 c2 pt (hpt.mono (Fa hF)) xH xH xH xH xH)) O λg31 _=>J.p 5 O<|J.c j8<|J.k λ_ j9=>J.T<|J.f λ_ j10=>J.b O<|J.g ((qAV O O O).no xC) O<|J.b O<|J.c j10<|J.a3 ?_
  refine J.f λ_ j11=>J.b O<|J.g (qAu u9_ O O) O<|J.g ((qAR O O O xB).as (v':=I (1+((upB (s) (qBH (v) (o) (r) (h) (p)) (sgB (i) (ch) (pt))).length):Nat)) (congrArg I xB)) O<|J.g ((qA5 O O O).no xB) O<|J.b O<|J.c j11<|J.a3 ?_
  refine J.f λ_ j12=>J.b O<|J.g (qAB O O) O<|J.W 8 qBJ qB9 O O O O O<|J.a6 0 qCQ O O O O O<|J.g (qAO qAn O O) O<|J.g ((qBI O O O).no xB) O<|J.b O<|J.c j12<|J.a3 ?_
  refine J.b2<|J.a2<|J.u (J.D j9 ?_)
  refine J.k λ_ j13=>J.b1 [blk gs [v0,v1,v2,v3,v4,.map (some nB),v6,.slice cA cl.length cc,.slice oA no.length oc,v9,v10] 129,blk g3 [Str s,N64 (v),Str (o),Str (r),I (h),Str (p),I (i:Nat),.slice A1 n1 c1,.slice A2 n2 c2] 108,mX] [19] (.y 0 (.y 1 (.y 2 (.y 3 (.y 4 (.y 5 (.y 6 (.y 7 (.y 8 (.y 9 (.y 10 (.y 11 (.y 12 (.y 13 (.y 14 (.y 15 (.y 16 (.e 17 (.e 18 (.e 19 .nil)))))))))))))))))))) Tryz.wide xF xD ?_
  refine J.L ?_
  refine J.j O (qAB O O) O O<|J.j O (qAA O O qBJ O qCp O) O O<|J.j O (qAA O O qEW O qIo O) O O<|J.j O (qAD 0 O O O isAgg120 O) O O<|J.j O (qAA O O qBP O z9_ O) O O<|J.j O (qAD 1 O O O b9_ O) O O<|J.L ?_
  refine J.j O (qAB O O) O O<|J.j O (qAA O O qBJ O qCp O) O O<|J.j O (qAA O O qEW O qIo O) O O<|J.j O (qAD 0 O O O isAgg120 O) O O<|J.j O (qAA O O qBP O z9_ O) O O<|J.j O (qAD 1 O O O b9_ O) O O<|J.j O ((qCn O O O qIu u9_ qZr (m:=mX) xD hmp.at).as (v':= .slice (qJZ nxt s) (qBC (lbE nxt) s).length (qJY nxt s)) (qKz nxt s)) O O<|J.j O (qAA O O qBP O qAj O) O O<|J.j O (qAP O O qBB qAj (m:=blk g3 [Str s,N64 (v),Str (o),Str (r),I (h),Str (p),I (i:Nat),.slice A1 n1 c1,.slice A2 n2 c2] 108) xD (qAG.blk0.sub 1 5) O) O O<|J.a1 O (qAE (l:= [.tmp 66]) (xs:= [[N64 (v),Str (o),Str (r),I (h),Str (p)]]) O O O O qCK el102 O xC xC xD) O xD λg67 _=>J.a1 O (qAX (i:=3) (m2:=blk g67 [N64 (v),Str (o),Str (r),I (h),Str (p)] 102) O O O qCK qCK el102 O hro2 xD ((qAm (q:=True) (xs:=qBz [(⟨v,o,r,h,p⟩:En)]) O (by intro x hx;rw [List.mem_singleton.1 hx];rfl)).sl) O xB xB) O xD ?_
  rintro⟨A68,c68,m68⟩ h68
  try dsimp only at h68
  replace h68:Row m68 102 5 A68 ((qBC (lbE nxt) s).length+1) c68 (qBz ((qBC (lbE nxt) s)++ [(⟨v,o,r,h,p⟩:En)])):=by rw [qLG];exact h68
  rw [show(qBC (lbE nxt) s).length+1=((qBC (lbE nxt) s)++ [(⟨v,o,r,h,p⟩:En)]).length by rw [jA];rfl] at h68⊢
  refine J.c1 O (qC2 (i:=1) O O O O qIu u9_ O hmp) O O O ?_
  rintro mu hmu
  rw [←qRd nxt ⟨s,A68,c68,((qBC (lbE nxt) s)++ [(⟨v,o,r,h,p⟩:En)]),m68⟩] at hmu
  refine J.b0<|J.u (J.D j13 ?_)
  refine J.k λ_ j14=>J.c2 [0,4,5,6,2,1,3,7] [blk gs [v0,v1,v2,v3,v4,.map (some nB),v6,.slice cA cl.length cc,.slice oA no.length oc,v9,v10] 129,mC,mO,F,mr,mu,m68,blk g3 [Str s,N64 (v),Str (o),Str (r),I (h),Str (p),I (i:Nat),.slice A1 n1 c1,.slice A2 n2 c2] 108] O xC<|J.b1 [blk g3 [Str s,N64 (v),Str (o),Str (r),I (h),Str (p),I (i:Nat),.slice A1 n1 c1,.slice A2 n2 c2] 108,F] [] (.y 0 (.y 1 (.y 2 (.y 3 (.y 4 (.y 6 (.y 7 (.e 5 (.e 8 (.y 9 (.e 10 .nil))))))))))) Tryz.wide xF xD ?_
  refine J.L ?_
  refine J.L ?_
  refine J.j O ((qBe O O O xJ).as (v':=Str (117::(upB s (qBH v o r h p) (sgB i ch pt)))) O) O O<|J.j O (qAA O O qBP O z9_ O) O O<|J.j O (qAD 0 O O O b9_ O) O O<|J.j O (qAA O O qBP O qAj O) O O<|J.j O (qAP O O qBB qAj (m:=blk g3 [Str s,N64 (v),Str (o),Str (r),I (h),Str (p),I (i:Nat),.slice A1 n1 c1,.slice A2 n2 c2] 108) xD (qAG.blk0.sub 1 5) O) O O<|J.a1 O (qAZ O O (λF' hF=>qGT F' (hK.mo hF) s xB)) O xD λg74 _=>J.a1 O (qAZ O O (λF' hF=>qEA F' (hK.mo hF) v o r h p xB xB xB xB)) O xD λg77 _=>J.j O (qAL (places:= [(0,1),(1,1)]) (r:= [Str (Sha.tagged 11 [s]),Str (qCO v o r h p)]) O O O qL1 zeroValue155 (λ_=>xI) O) O O<|J.a1 O (qAK O O ent (Ct.useA [blk gs [v0,v1,v2,v3,v4,.map (some nB),v6,.slice cA cl.length cc,.slice oA no.length oc,v9,v10] 129,mC,mO] [F,mr,mu,m68,blk g3 [Str s,N64 (v),Str (o),Str (r),I (h),Str (p),I (i:Nat),.slice A1 n1 c1,.slice A2 n2 c2] 108] (A':=λx:WtR=> [blk gs [v0,v1,v2,v3,v4,.map (some nB),v6,.slice x.cA (cl++ [(⟨Sha.tagged 11 [s],qCO v o r h p⟩:Chg)]).length x.cc,.slice x.oA (no++ [117::(upB s (qBH v o r h p) (sgB i ch pt))]).length x.oc,v9,v10] 129,x.mC,x.mO]) (new:=λ_=> []) (λF' hF=>qM6 F' mC mO gs v0 v1 v2 v3 v4 (.map (some nB)) v6 v9 v10 cA cc cl hrc hcl oA oc no hro hno (117::(upB s (qBH v o r h p) (sgB i ch pt))) (Sha.tagged 11 [s]) (qCO v o r h p)))) O xD ?_
  rintro w79 ⟨hwc,hwo⟩
  refine J.b0<|J.u (J.D j14 ?_)
  exact J.f λ_ j15=>J.b O<|J.c j15<|J.A<|J.E hw0 O (⟨mu,A68,c68,m68,w79,mr⟩:SbR) O ⟨hmu,h68,hwc,hwo⟩ [0,5,4,1,2,3,6] O xC
 refine J.a1 O (qAJ O qDe O) O xD λg5 _=>J.a1 O (qAZ O O (λF' hF=>hL F' (Fa hF) (Fa hF) (Fa hF) (Fa hF))) O xD λg19 _=>J.L ?_
 refine J.c7 (.agg #[N64 (z.v),Str (z.o),Str (z.r),I (z.h),Str (z.p)]) ?_
 refine J.d1 O (qAT O O O) O O O ?_
 refine J.c1 O (qAC (i:=8) (l:= [.int .u64 0,Str [],Str [],I 0,Str []]) (vs:= [N64 (z.v),Str (z.o),Str (z.r),I (z.h),Str (z.p)]) O O O O O qAj O O) O O O λ_ _=>J.d4 O (YOp.eop (qBF O O)) O O O O ?_
 intro _ _
 refine J.b0<|J.u (J.D j4 ?_)
 refine J.k λ_ j16=>J.f λ_ j17=>J.c0 7 isAgg108 qHm O O O O O<|J.b O<|J.c0 8 qBB qAj O O O O O<|J.q (qAZ O O (λF' hF=>hJ F' (Fa hF))) O λg25 _=>J.b O<|J.c j17<|J.f λ_ j18=>J.b O<|J.g ((qAV O O O).no xC) O<|J.c j18<|J.a3 ?_
 refine J.M j16<|J.f λ_ j19=>J.c0 7 isAgg108 qHm O O O O O<|J.q (qAZ O O (λF' hF=>qKg F' s xH v o r h p xH i A1 n1 c1 ch (hch.mono (Fa hF)) A2 n2 c2 pt (hpt.mono (Fa hF)) xH xH xH xH xH)) O λg31 _=>J.p 5 O<|J.c j19<|J.k λ_ j20=>J.T<|J.f λ_ j21=>J.b O<|J.g ((qAV O O O).no xC) O<|J.b O<|J.c j21<|J.a3 ?_
 refine J.f λ_ j22=>J.b O<|J.g (qAu u9_ O O) O<|J.g ((qAR O O O xB).as (v':=I (1+((upB (s) (qBH (v) (o) (r) (h) (p)) (sgB (i) (ch) (pt))).length):Nat)) (congrArg I xB)) O<|J.g ((qA5 O O O).no xB) O<|J.b O<|J.c j22<|J.a3 ?_
 refine J.f λ_ j23=>J.b O<|J.g (qAB O O) O<|J.W 8 qBJ qB9 O O O O O<|J.a6 0 qCQ O O O O O<|J.g (qAO qAn O O) O<|J.g ((qBI O O O).no xB) O<|J.b O<|J.c j23<|J.a3 ?_
 refine J.b2<|J.a2<|J.u (J.D j20 ?_)
 refine J.k λ_ j24=>J.b1 [blk gs [v0,v1,v2,v3,v4,.map (some nB),v6,.slice cA cl.length cc,.slice oA no.length oc,v9,v10] 129,blk g3 [Str s,N64 (v),Str (o),Str (r),I (h),Str (p),I (i:Nat),.slice A1 n1 c1,.slice A2 n2 c2] 108,mX] [19] (.y 0 (.y 1 (.y 2 (.y 3 (.y 4 (.y 5 (.y 6 (.y 7 (.y 8 (.y 9 (.y 10 (.y 11 (.y 12 (.y 13 (.y 14 (.y 15 (.y 16 (.e 17 (.e 18 (.e 19 .nil)))))))))))))))))))) Tryz.wide xF xD ?_
 refine J.L ?_
 refine J.j O (qAB O O) O O<|J.j O (qAA O O qBJ O qCp O) O O<|J.j O (qAA O O qEW O qIo O) O O<|J.j O (qAD 0 O O O isAgg120 O) O O<|J.j O (qAA O O qBP O z9_ O) O O<|J.j O (qAD 1 O O O b9_ O) O O<|J.L ?_
 refine J.j O (qAB O O) O O<|J.j O (qAA O O qBJ O qCp O) O O<|J.j O (qAA O O qEW O qIo O) O O<|J.j O (qAD 0 O O O isAgg120 O) O O<|J.j O (qAA O O qBP O z9_ O) O O<|J.j O (qAD 1 O O O b9_ O) O O<|J.j O ((qCn O O O qIu u9_ qZr (m:=mX) xD hmp.at).as (v':= .slice (qJZ nxt s) (qBC (lbE nxt) s).length (qJY nxt s)) (qKz nxt s)) O O<|J.j O (qAA O O qBP O qAj O) O O<|J.j O (qAP O O qBB qAj (m:=blk g3 [Str s,N64 (v),Str (o),Str (r),I (h),Str (p),I (i:Nat),.slice A1 n1 c1,.slice A2 n2 c2] 108) xD (qAG.blk0.sub 1 5) O) O O<|J.a1 O (qAE (l:= [.tmp 66]) (xs:= [[N64 (v),Str (o),Str (r),I (h),Str (p)]]) O O O O qCK el102 O xC xC xD) O xD λg67 _=>J.a1 O (qAX (i:=3) (m2:=blk g67 [N64 (v),Str (o),Str (r),I (h),Str (p)] 102) O O O qCK qCK el102 O hro2 xD ((qAm (q:=True) (xs:=qBz [(⟨v,o,r,h,p⟩:En)]) O (by intro x hx;rw [List.mem_singleton.1 hx];rfl)).sl) O xB xB) O xD ?_
 rintro⟨A68,c68,m68⟩ h68
 try dsimp only at h68
 replace h68:Row m68 102 5 A68 ((qBC (lbE nxt) s).length+1) c68 (qBz ((qBC (lbE nxt) s)++ [(⟨v,o,r,h,p⟩:En)])):=by rw [qLG];exact h68
 rw [show(qBC (lbE nxt) s).length+1=((qBC (lbE nxt) s)++ [(⟨v,o,r,h,p⟩:En)]).length by rw [jA];rfl] at h68⊢
 refine J.c1 O (qC2 (i:=1) O O O O qIu u9_ O hmp) O O O ?_
 rintro mu hmu
 rw [←qRd nxt ⟨s,A68,c68,((qBC (lbE nxt) s)++ [(⟨v,o,r,h,p⟩:En)]),m68⟩] at hmu
 refine J.b0<|J.u (J.D j24 ?_)
 refine J.k λ_ j25=>J.c2 [0,4,5,6,2,1,3,7] [blk gs [v0,v1,v2,v3,v4,.map (some nB),v6,.slice cA cl.length cc,.slice oA no.length oc,v9,v10] 129,mC,mO,F,mr,mu,m68,blk g3 [Str s,N64 (v),Str (o),Str (r),I (h),Str (p),I (i:Nat),.slice A1 n1 c1,.slice A2 n2 c2] 108] O xC<|J.b1 [blk g3 [Str s,N64 (v),Str (o),Str (r),I (h),Str (p),I (i:Nat),.slice A1 n1 c1,.slice A2 n2 c2] 108,F] [] (.y 0 (.y 1 (.y 2 (.y 3 (.y 4 (.y 6 (.y 7 (.e 5 (.e 8 (.y 9 (.e 10 .nil))))))))))) Tryz.wide xF xD ?_
 refine J.L ?_
 refine J.L ?_
 refine J.j O ((qBe O O O xJ).as (v':=Str (117::(upB s (qBH v o r h p) (sgB i ch pt)))) O) O O<|J.j O (qAA O O qBP O z9_ O) O O<|J.j O (qAD 0 O O O b9_ O) O O<|J.j O (qAA O O qBP O qAj O) O O<|J.j O (qAP O O qBB qAj (m:=blk g3 [Str s,N64 (v),Str (o),Str (r),I (h),Str (p),I (i:Nat),.slice A1 n1 c1,.slice A2 n2 c2] 108) xD (qAG.blk0.sub 1 5) O) O O<|J.a1 O (qAZ O O (λF' hF=>qGT F' (hK.mo hF) s xB)) O xD λg74 _=>J.a1 O (qAZ O O (λF' hF=>qEA F' (hK.mo hF) v o r h p xB xB xB xB)) O xD λg77 _=>J.j O (qAL (places:= [(0,1),(1,1)]) (r:= [Str (Sha.tagged 11 [s]),Str (qCO v o r h p)]) O O O qL1 zeroValue155 (λ_=>xI) O) O O<|J.a1 O (qAK O O ent (Ct.useA [blk gs [v0,v1,v2,v3,v4,.map (some nB),v6,.slice cA cl.length cc,.slice oA no.length oc,v9,v10] 129,mC,mO] [F,mr,mu,m68,blk g3 [Str s,N64 (v),Str (o),Str (r),I (h),Str (p),I (i:Nat),.slice A1 n1 c1,.slice A2 n2 c2] 108] (A':=λx:WtR=> [blk gs [v0,v1,v2,v3,v4,.map (some nB),v6,.slice x.cA (cl++ [(⟨Sha.tagged 11 [s],qCO v o r h p⟩:Chg)]).length x.cc,.slice x.oA (no++ [117::(upB s (qBH v o r h p) (sgB i ch pt))]).length x.oc,v9,v10] 129,x.mC,x.mO]) (new:=λ_=> []) (λF' hF=>qM6 F' mC mO gs v0 v1 v2 v3 v4 (.map (some nB)) v6 v9 v10 cA cc cl hrc hcl oA oc no hro hno (117::(upB s (qBH v o r h p) (sgB i ch pt))) (Sha.tagged 11 [s]) (qCO v o r h p)))) O xD ?_
 rintro w79 ⟨hwc,hwo⟩
 refine J.b0<|J.u (J.D j25 ?_)
 exact J.f λ_ j26=>J.b O<|J.c j26<|J.A<|J.E hw0 O (⟨mu,A68,c68,m68,w79,mr⟩:SbR) O ⟨hmu,h68,hwc,hwo⟩ [0,5,4,1,2,3,6] O xC
end Go.Proofs.YtmemgokiolfdoaaGreatDoor