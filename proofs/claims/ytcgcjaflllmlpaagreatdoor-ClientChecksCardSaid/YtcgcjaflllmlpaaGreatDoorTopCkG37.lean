/- A part of the proof. -/
import Derived.Test.YtcgcjaflllmlpaaGreatDoorTopCkG35
import Derived.Test.YtcgcjaflllmlpaaGreatDoorTopCkG36
set_option maxRecDepth 100000
set_option maxHeartbeats 1000000
set_option linter.unusedSimpArgs false
set_option linter.unusedVariables false
namespace Go.Proofs.YtcgcjaflllmlpaaGreatDoor
open Go Go.Fw Go.Proofs.Tryz
structure SbR where
 mX:Hp
 A:Option Addr
 c:Nat
 mE:Hp
 w:WtR
theorem qTX(F mX NX mC mO:Hp)(hK:KF F)(gs nB:Nat)(v0 v1 v2 v3 v4 v6 v9 v10:Value)(cA:Option Addr)(cc:Nat)(cl:List Chg)(hrc:Row mC 153 2 cA cl.length cc (qDi cl))(hcl:cl.length≤100000)(oA:Option Addr)(oc:Nat)(no:List xA)(hro:Row mO 9 1 oA no.length oc (qAG no))(hno:no.length≤100000)(nxt:List Lb)(hmp:Fw.MapS mX nB (lbV nxt))(hnx:NxS NX nxt)(s:xA)(hs2:s.length≤200)(v:Nat)(o r:xA)(h:Int)(p:xA)(hE:qBf v o r h p=0)(i:Nat)(A1:Option Addr)(n1 c1:Nat)(ch:List xA)(hch:Sl F 1 A1 n1 c1 (qAG ch))(A2:Option Addr)(n2 c2:Nat)(pt:List xA)(hpt:Sl F 1 A2 n2 c2 (qAG pt))(hi:i≤63)(h35:ch.length=35)(hn6:pt.length≤6)(hc16: ∀s∈ch,s.length=16)(hp16: ∀s∈pt,s.length=16)(hp3:pt.length≤3)(hno2:no.length<256)(hg0:qCp nxt s=none)(hJ: ∀F':Hp,Le F F'→Cz prog 64 [.agg #[Str s,N64 (v),Str (o),Str (r),I (h),Str (p),I (i:Nat),.slice A1 n1 c1,.slice A2 n2 c2],.bool false,.agg #[.int .u64 0,Str [],Str [],I 0,Str []]] F' (I (0:Nat))):Ct prog 25 [Ptr gs,.agg #[Str s,N64 (v),Str (o),Str (r),I (h),Str (p),I (i:Nat),.slice A1 n1 c1,.slice A2 n2 c2]] [blk gs [v0,v1,v2,v3,v4,.map (some nB),v6,.slice cA cl.length cc,.slice oA no.length oc,v9,v10] 99,mX,NX,mC,mO,F] (λ_:SbR=>I (0:Nat)) (λx=>Fw.MapS x.mX nB (lbV (nxt++ [⟨s,x.A,x.c,[(⟨v,o,r,h,p⟩:En)],x.mE⟩]))∧Row x.mE 61 5 x.A 1 x.c (qDD [(⟨v,o,r,h,p⟩:En)])∧Row x.w.mC 153 2 x.w.cA (cl++ [(⟨Sha.tagged 11 [s],qCV v o r h p⟩:Chg)]).length x.w.cc (qDi (cl++ [⟨Sha.tagged 11 [s],qCV v o r h p⟩]))∧Row x.w.mO 9 1 x.w.oA (no++ [117::(upB s (qBI v o r h p) (sgB i ch pt))]).length x.w.oc (qAG (no++ [117::(upB s (qBI v o r h p) (sgB i ch pt))]))) (λx=> [blk gs [v0,v1,v2,v3,v4,.map (some nB),v6,.slice x.w.cA (cl++ [(⟨Sha.tagged 11 [s],qCV v o r h p⟩:Chg)]).length x.w.cc,.slice x.w.oA (no++ [117::(upB s (qBI v o r h p) (sgB i ch pt))]).length x.w.oc,v9,v10] 99,x.mX,NX,x.w.mC,x.w.mO,F,x.mE]):=by
 obtain ⟨e1,e2,⟨e3,e4⟩,e5,e6,e7⟩:=qKw hE
 have hsg:=qIu (i:=i) hc16 hp16 h35
 have hul:=qIi s (qBI v o r h p) (sgB i ch pt)
 have hel:=qCS hE
 have hgn:qDf (lbE nxt) s= []:=by rw [qJS,hg0]
 refine Ct.walk func25 O ntmps25 O (λw0 hw0=>?_)
 refine J.g λ_ j1=>J.p (qAZ O O O) O λg3 _=>J.b O<|J.c j1<|J.q λ_ j2=>J.g λ_ j3=>J.b O<|J.f (qA4 qYj O O O) O<|J.c j3<|J.a2 ?_
 refine J.T j2<|J.q λ_ j4=>J.b1 [blk gs [v0,v1,v2,v3,v4,.map (some nB),v6,.slice cA cl.length cc,.slice oA no.length oc,v9,v10] 99,blk g3 [Str s,N64 (v),Str (o),Str (r),I (h),Str (p),I (i:Nat),.slice A1 n1 c1,.slice A2 n2 c2] 101] [11,12,100009] (.y 0 (.y 1 (.y 2 (.y 3 (.y 4 (.y 5 (.br (.e 6 (.y 7 (.y 8 (.y 9 (.e 10 (.e 11 (.e 12 .nil))))))) (.e 10 (.e 6 (.y 7 (.y 8 (.y 9 (.e 11 (.e 12 .nil)))))))))))))) Tryz.wide xF xD ?_
 refine J.L ?_
 refine J.j O (qAB O O) O O<|J.j O (qAA O O qCi O qGS O) O O<|J.j O (qAV O O isAgg95 qGS (m:=blk gs [v0,v1,v2,v3,v4,.map (some nB),v6,.slice cA cl.length cc,.slice oA no.length oc,v9,v10] 99) xD (qAM.blk0.sub 5 2) O) O O<|J.j O (qAA O O qB7 O z9_ O) O O<|J.j O (qAC 1 O O O b9_ O) O O<|J.d5 ?_ ?_
 ·
  refine J.Z O (qAa O O (λF' hF=>qMx F' nB v6 nxt (hmp.at.mono (Fa hF)) (hnx.at.mono (Fa hF)) s (by rw [hgn];exact jG _) hgn)) O xD λg19 _=>J.L ?_
  refine J.c2 (.agg #[.int .u64 0,Str [],Str [],I 0,Str []]) ?_
  refine J.d3 O (qAb O O O) O O O ?_
  refine J.Z O (qAJ O qFh O) O xD λg5 _=>J.c1 O (qAD (i:=7) O O O O O qBY O O) O O O λ_ _=>J.d1 O (YOp.eop (qBG O O)) O O O O ?_
  intro _ _
  refine J.a9<|J.u (J.G j4 ?_)
  refine J.q λ_ j5=>J.g λ_ j6=>J.b8 6 isAgg101 sizeOf101 O O O O O<|J.b O<|J.b8 7 qC6 qBY O O O O O<|J.p (qAa O O (λF' hF=>hJ F' (Fa hF))) O λg25 _=>J.b O<|J.c j6<|J.g λ_ j7=>J.b O<|J.f ((qAe O O O).no xC) O<|J.c j7<|J.a2 ?_
  refine J.T j5<|J.g λ_ j8=>J.b8 6 isAgg101 sizeOf101 O O O O O<|J.p (qAa O O (λF' hF=>qKN F' s xH v o r h p xH i A1 n1 c1 ch (hch.mono (Fa hF)) A2 n2 c2 pt (hpt.mono (Fa hF)) xH xH xH xH xH)) O λg31 _=>J.k 5 O<|J.c j8<|J.q λ_ j9=>J.V<|J.g λ_ j10=>J.b O<|J.f ((qAe O O O).no xC) O<|J.b O<|J.c j10<|J.a2 ?_
  refine J.g λ_ j11=>J.b O<|J.f (qAs u9_ O O) O<|J.f ((qAQ O O O xB).as (v':=I (1+((upB (s) (qBI (v) (o) (r) (h) (p)) (sgB (i) (ch) (pt))).length):Nat)) (congrArg I xB)) O<|J.f ((qAz O O O).no xB) O<|J.b O<|J.c j11<|J.a2 ?_
  refine J.g λ_ j12=>J.b O<|J.f (qAB O O) O<|J.M 8 qCi qB1 O O O O O<|J.a7 0 qCC O O O O O<|J.f (qAR qAk O O) O<|J.f ((qBL O O O).no xB) O<|J.b O<|J.c j12<|J.a2 ?_
  refine J.b5<|J.a3<|J.u (J.G j9 ?_)
  refine J.q λ_ j13=>J.b1 [blk gs [v0,v1,v2,v3,v4,.map (some nB),v6,.slice cA cl.length cc,.slice oA no.length oc,v9,v10] 99,blk g3 [Str s,N64 (v),Str (o),Str (r),I (h),Str (p),I (i:Nat),.slice A1 n1 c1,.slice A2 n2 c2] 101,mX] [19] (.y 0 (.y 1 (.y 2 (.y 3 (.y 4 (.y 5 (.y 6 (.y 7 (.y 8 (.y 9 (.y 10 (.y 11 (.y 12 (.y 13 (.y 14 (.y 15 (.y 16 (.e 17 (.e 18 (.e 19 .nil)))))))))))))))))))) Tryz.wide xF xD ?_
  refine J.L ?_
  refine J.j O (qAB O O) O O<|J.j O (qAA O O qCi O qGS O) O O<|J.j O (qAA O O qLd O qVW O) O O<|J.j O (qAC 0 O O O isAgg92 O) O O<|J.j O (qAA O O qB7 O z9_ O) O O<|J.j O (qAC 1 O O O b9_ O) O O<|J.L ?_
  refine J.j O (qAB O O) O O<|J.j O (qAA O O qCi O qGS O) O O<|J.j O (qAA O O qLd O qVW O) O O<|J.j O (qAC 0 O O O isAgg92 O) O O<|J.j O (qAA O O qB7 O z9_ O) O O<|J.j O (qAC 1 O O O b9_ O) O O<|J.j O ((qC9 O O O qVc u9_ zeroValue51 (m:=mX) xD hmp.at).as (v':= .slice none 0 0) (by rw [qFe,hg0];rfl)) O O<|J.j O (qAA O O qB7 O qBY O) O O<|J.j O (qAV O O qC6 qBY (m:=blk g3 [Str s,N64 (v),Str (o),Str (r),I (h),Str (p),I (i:Nat),.slice A1 n1 c1,.slice A2 n2 c2] 101) xD (qAM.blk0.sub 1 5) O) O O<|J.Z O (qAE (l:= [.tmp 66]) (xs:= [[N64 (v),Str (o),Str (r),I (h),Str (p)]]) O O O O qDJ el61 O xC xC xD) O xD λg67 _=>J.d0 [0,1,2,3,4,5,6,7,8,9] [blk gs [v0,v1,v2,v3,v4,.map (some nB),v6,.slice cA cl.length cc,.slice oA no.length oc,v9,v10] 99,mX,NX,mC,mO,F,blk g3 [Str s,N64 (v),Str (o),Str (r),I (h),Str (p),I (i:Nat),.slice A1 n1 c1,.slice A2 n2 c2] 101,blk g5 [.int .u64 0,Str [],Str [],I 0,Str []] 61,blk g67 [N64 (v),Str (o),Str (r),I (h),Str (p)] 61,(λ_=>none)] O xC<|J.Z O (qAU (i:=9) (m2:=blk g67 [N64 (v),Str (o),Str (r),I (h),Str (p)] 61) O O O qDJ qDJ el61 O (qBh.nil (q:=True)) xD ((qAl (q:=True) (xs:=qDD [(⟨v,o,r,h,p⟩:En)]) O (by intro x hx;rw [List.mem_singleton.1 hx];rfl)).sl) O xB xB) O xD ?_
  rintro⟨A68,c68,m68⟩ h68
  try dsimp only at h68
  replace h68:Row m68 61 5 A68 (0+1) c68 (qDD ([(⟨v,o,r,h,p⟩:En)])):=h68
  refine J.c1 O (qCw (i:=1) O O O O qVc u9_ O hmp) O O O ?_
  rintro mu hmu
  replace hmu:Fw.MapS mu nB (qNE (lbV nxt) s (.slice A68 [(⟨v,o,r,h,p⟩:En)].length c68)):=hmu
  rw [qI0 (by rw [qFe,hg0];rfl),←qJP nxt ⟨s,A68,c68,[(⟨v,o,r,h,p⟩:En)],m68⟩] at hmu
  refine J.a9<|J.u (J.G j13 ?_)
  refine J.q λ_ j14=>J.c5 [0,3,4,5,2,1,9,6] [blk gs [v0,v1,v2,v3,v4,.map (some nB),v6,.slice cA cl.length cc,.slice oA no.length oc,v9,v10] 99,mC,mO,F,NX,mu,m68,blk g3 [Str s,N64 (v),Str (o),Str (r),I (h),Str (p),I (i:Nat),.slice A1 n1 c1,.slice A2 n2 c2] 101] O xC<|J.b1 [blk g3 [Str s,N64 (v),Str (o),Str (r),I (h),Str (p),I (i:Nat),.slice A1 n1 c1,.slice A2 n2 c2] 101,F] [] (.y 0 (.y 1 (.y 2 (.y 3 (.y 4 (.y 6 (.y 7 (.e 5 (.e 8 (.y 9 (.e 10 .nil))))))))))) Tryz.wide xF xD ?_
  refine J.L ?_
  refine J.L ?_
  refine J.j O ((qBN O O O xK).as (v':=Str (117::(upB s (qBI v o r h p) (sgB i ch pt)))) O) O O<|J.j O (qAA O O qB7 O z9_ O) O O<|J.j O (qAC 0 O O O b9_ O) O O<|J.j O (qAA O O qB7 O qBY O) O O<|J.j O (qAV O O qC6 qBY (m:=blk g3 [Str s,N64 (v),Str (o),Str (r),I (h),Str (p),I (i:Nat),.slice A1 n1 c1,.slice A2 n2 c2] 101) xD (qAM.blk0.sub 1 5) O) O O<|J.Z O (qAa O O (λF' hF=>qFG F' (hK.mo hF) s xB)) O xD λg74 _=>J.Z O (qAa O O (λF' hF=>qDC F' (hK.mo hF) v o r h p xB xB xB xB)) O xD λg77 _=>J.j O (qAH (places:= [(0,1),(1,1)]) (r:= [Str (Sha.tagged 11 [s]),Str (qCV v o r h p)]) O O O qLh zeroValue153 (λ_=>xI) O) O O<|J.Z O (qAK O O ent (Ct.useA [blk gs [v0,v1,v2,v3,v4,.map (some nB),v6,.slice cA cl.length cc,.slice oA no.length oc,v9,v10] 99,mC,mO] [F,NX,mu,m68,blk g3 [Str s,N64 (v),Str (o),Str (r),I (h),Str (p),I (i:Nat),.slice A1 n1 c1,.slice A2 n2 c2] 101] (A':=λx:WtR=> [blk gs [v0,v1,v2,v3,v4,.map (some nB),v6,.slice x.cA (cl++ [(⟨Sha.tagged 11 [s],qCV v o r h p⟩:Chg)]).length x.cc,.slice x.oA (no++ [117::(upB s (qBI v o r h p) (sgB i ch pt))]).length x.oc,v9,v10] 99,x.mC,x.mO]) (new:=λ_=> []) (λF' hF=>qMv F' mC mO gs v0 v1 v2 v3 v4 (.map (some nB)) v6 v9 v10 cA cc cl hrc hcl oA oc no hro hno (117::(upB s (qBI v o r h p) (sgB i ch pt))) (Sha.tagged 11 [s]) (qCV v o r h p)))) O xD ?_
  rintro w79 ⟨hwc,hwo⟩
  refine J.a9<|J.u (J.G j14 ?_)
  exact J.g λ_ j15=>J.b O<|J.c j15<|J.A<|J.E hw0 O (⟨mu,A68,c68,m68,w79⟩:SbR) O ⟨hmu,h68,hwc,hwo⟩ [0,5,4,1,2,3,6] O xC
 refine J.Z O (qAJ O qFh O) O xD λg5 _=>J.Z O (qAa O O (λF' hF=>qMx F' nB v6 nxt (hmp.at.mono (Fa hF)) (hnx.at.mono (Fa hF)) s (by rw [hgn];exact jG _) hgn)) O xD λg19 _=>J.L ?_
 refine J.c2 (.agg #[.int .u64 0,Str [],Str [],I 0,Str []]) ?_
 refine J.d3 O (qAb O O O) O O O ?_
 refine J.c1 O (qAD (i:=7) O O O O O qBY O O) O O O λ_ _=>J.d1 O (YOp.eop (qBG O O)) O O O O ?_
 intro _ _
 refine J.a9<|J.u (J.G j4 ?_)
 refine J.q λ_ j16=>J.g λ_ j17=>J.b8 6 isAgg101 sizeOf101 O O O O O<|J.b O<|J.b8 7 qC6 qBY O O O O O<|J.p (qAa O O (λF' hF=>hJ F' (Fa hF))) O λg25 _=>J.b O<|J.c j17<|J.g λ_ j18=>J.b O<|J.f ((qAe O O O).no xC) O<|J.c j18<|J.a2 ?_
 refine J.T j16<|J.g λ_ j19=>J.b8 6 isAgg101 sizeOf101 O O O O O<|J.p (qAa O O (λF' hF=>qKN F' s xH v o r h p xH i A1 n1 c1 ch (hch.mono (Fa hF)) A2 n2 c2 pt (hpt.mono (Fa hF)) xH xH xH xH xH)) O λg31 _=>J.k 5 O<|J.c j19<|J.q λ_ j20=>J.V<|J.g λ_ j21=>J.b O<|J.f ((qAe O O O).no xC) O<|J.b O<|J.c j21<|J.a2 ?_
 refine J.g λ_ j22=>J.b O<|J.f (qAs u9_ O O) O<|J.f ((qAQ O O O xB).as (v':=I (1+((upB (s) (qBI (v) (o) (r) (h) (p)) (sgB (i) (ch) (pt))).length):Nat)) (congrArg I xB)) O<|J.f ((qAz O O O).no xB) O<|J.b O<|J.c j22<|J.a2 ?_
 refine J.g λ_ j23=>J.b O<|J.f (qAB O O) O<|J.M 8 qCi qB1 O O O O O<|J.a7 0 qCC O O O O O<|J.f (qAR qAk O O) O<|J.f ((qBL O O O).no xB) O<|J.b O<|J.c j23<|J.a2 ?_
 refine J.b5<|J.a3<|J.u (J.G j20 ?_)
 refine J.q λ_ j24=>J.b1 [blk gs [v0,v1,v2,v3,v4,.map (some nB),v6,.slice cA cl.length cc,.slice oA no.length oc,v9,v10] 99,blk g3 [Str s,N64 (v),Str (o),Str (r),I (h),Str (p),I (i:Nat),.slice A1 n1 c1,.slice A2 n2 c2] 101,mX] [19] (.y 0 (.y 1 (.y 2 (.y 3 (.y 4 (.y 5 (.y 6 (.y 7 (.y 8 (.y 9 (.y 10 (.y 11 (.y 12 (.y 13 (.y 14 (.y 15 (.y 16 (.e 17 (.e 18 (.e 19 .nil)))))))))))))))))))) Tryz.wide xF xD ?_
 refine J.L ?_
 refine J.j O (qAB O O) O O<|J.j O (qAA O O qCi O qGS O) O O<|J.j O (qAA O O qLd O qVW O) O O<|J.j O (qAC 0 O O O isAgg92 O) O O<|J.j O (qAA O O qB7 O z9_ O) O O<|J.j O (qAC 1 O O O b9_ O) O O<|J.L ?_
 refine J.j O (qAB O O) O O<|J.j O (qAA O O qCi O qGS O) O O<|J.j O (qAA O O qLd O qVW O) O O<|J.j O (qAC 0 O O O isAgg92 O) O O<|J.j O (qAA O O qB7 O z9_ O) O O<|J.j O (qAC 1 O O O b9_ O) O O<|J.j O ((qC9 O O O qVc u9_ zeroValue51 (m:=mX) xD hmp.at).as (v':= .slice none 0 0) (by rw [qFe,hg0];rfl)) O O<|J.j O (qAA O O qB7 O qBY O) O O<|J.j O (qAV O O qC6 qBY (m:=blk g3 [Str s,N64 (v),Str (o),Str (r),I (h),Str (p),I (i:Nat),.slice A1 n1 c1,.slice A2 n2 c2] 101) xD (qAM.blk0.sub 1 5) O) O O<|J.Z O (qAE (l:= [.tmp 66]) (xs:= [[N64 (v),Str (o),Str (r),I (h),Str (p)]]) O O O O qDJ el61 O xC xC xD) O xD λg67 _=>J.d0 [0,1,2,3,4,5,6,7,8,9] [blk gs [v0,v1,v2,v3,v4,.map (some nB),v6,.slice cA cl.length cc,.slice oA no.length oc,v9,v10] 99,mX,NX,mC,mO,F,blk g3 [Str s,N64 (v),Str (o),Str (r),I (h),Str (p),I (i:Nat),.slice A1 n1 c1,.slice A2 n2 c2] 101,blk g5 [.int .u64 0,Str [],Str [],I 0,Str []] 61,blk g67 [N64 (v),Str (o),Str (r),I (h),Str (p)] 61,(λ_=>none)] O xC<|J.Z O (qAU (i:=9) (m2:=blk g67 [N64 (v),Str (o),Str (r),I (h),Str (p)] 61) O O O qDJ qDJ el61 O (qBh.nil (q:=True)) xD ((qAl (q:=True) (xs:=qDD [(⟨v,o,r,h,p⟩:En)]) O (by intro x hx;rw [List.mem_singleton.1 hx];rfl)).sl) O xB xB) O xD ?_
 rintro⟨A68,c68,m68⟩ h68
 try dsimp only at h68
 replace h68:Row m68 61 5 A68 (0+1) c68 (qDD ([(⟨v,o,r,h,p⟩:En)])):=h68
 refine J.c1 O (qCw (i:=1) O O O O qVc u9_ O hmp) O O O ?_
 rintro mu hmu
 replace hmu:Fw.MapS mu nB (qNE (lbV nxt) s (.slice A68 [(⟨v,o,r,h,p⟩:En)].length c68)):=hmu
 rw [qI0 (by rw [qFe,hg0];rfl),←qJP nxt ⟨s,A68,c68,[(⟨v,o,r,h,p⟩:En)],m68⟩] at hmu
 refine J.a9<|J.u (J.G j24 ?_)
 refine J.q λ_ j25=>J.c5 [0,3,4,5,2,1,9,6] [blk gs [v0,v1,v2,v3,v4,.map (some nB),v6,.slice cA cl.length cc,.slice oA no.length oc,v9,v10] 99,mC,mO,F,NX,mu,m68,blk g3 [Str s,N64 (v),Str (o),Str (r),I (h),Str (p),I (i:Nat),.slice A1 n1 c1,.slice A2 n2 c2] 101] O xC<|J.b1 [blk g3 [Str s,N64 (v),Str (o),Str (r),I (h),Str (p),I (i:Nat),.slice A1 n1 c1,.slice A2 n2 c2] 101,F] [] (.y 0 (.y 1 (.y 2 (.y 3 (.y 4 (.y 6 (.y 7 (.e 5 (.e 8 (.y 9 (.e 10 .nil))))))))))) Tryz.wide xF xD ?_
 refine J.L ?_
 refine J.L ?_
 refine J.j O ((qBN O O O xK).as (v':=Str (117::(upB s (qBI v o r h p) (sgB i ch pt)))) O) O O<|J.j O (qAA O O qB7 O z9_ O) O O<|J.j O (qAC 0 O O O b9_ O) O O<|J.j O (qAA O O qB7 O qBY O) O O<|J.j O (qAV O O qC6 qBY (m:=blk g3 [Str s,N64 (v),Str (o),Str (r),I (h),Str (p),I (i:Nat),.slice A1 n1 c1,.slice A2 n2 c2] 101) xD (qAM.blk0.sub 1 5) O) O O<|J.Z O (qAa O O (λF' hF=>qFG F' (hK.mo hF) s xB)) O xD λg74 _=>J.Z O (qAa O O (λF' hF=>qDC F' (hK.mo hF) v o r h p xB xB xB xB)) O xD λg77 _=>J.j O (qAH (places:= [(0,1),(1,1)]) (r:= [Str (Sha.tagged 11 [s]),Str (qCV v o r h p)]) O O O qLh zeroValue153 (λ_=>xI) O) O O<|J.Z O (qAK O O ent (Ct.useA [blk gs [v0,v1,v2,v3,v4,.map (some nB),v6,.slice cA cl.length cc,.slice oA no.length oc,v9,v10] 99,mC,mO] [F,NX,mu,m68,blk g3 [Str s,N64 (v),Str (o),Str (r),I (h),Str (p),I (i:Nat),.slice A1 n1 c1,.slice A2 n2 c2] 101] (A':=λx:WtR=> [blk gs [v0,v1,v2,v3,v4,.map (some nB),v6,.slice x.cA (cl++ [(⟨Sha.tagged 11 [s],qCV v o r h p⟩:Chg)]).length x.cc,.slice x.oA (no++ [117::(upB s (qBI v o r h p) (sgB i ch pt))]).length x.oc,v9,v10] 99,x.mC,x.mO]) (new:=λ_=> []) (λF' hF=>qMv F' mC mO gs v0 v1 v2 v3 v4 (.map (some nB)) v6 v9 v10 cA cc cl hrc hcl oA oc no hro hno (117::(upB s (qBI v o r h p) (sgB i ch pt))) (Sha.tagged 11 [s]) (qCV v o r h p)))) O xD ?_
 rintro w79 ⟨hwc,hwo⟩
 refine J.a9<|J.u (J.G j25 ?_)
 exact J.g λ_ j26=>J.b O<|J.c j26<|J.A<|J.E hw0 O (⟨mu,A68,c68,m68,w79⟩:SbR) O ⟨hmu,h68,hwc,hwo⟩ [0,5,4,1,2,3,6] O xC
theorem qLy{P:Program}{env:Env}{ms:List Hp}{o:Oper}{t e x n' by'}(ho:o.op= .makeSlice t x x)(hx:ev env x=some (I (n':Nat)))(hu:P.underlying t=some (.slice e))(he:qCt P e [.int .i64 0] by')(hb:by'*n'≤281474976710656)(hn:n'≤9223372036854775807):
    EOp P env ms o (λx:Nat×Hp=> .slice (some ⟨x.1,0,none⟩) n' n') (λx=>Row x.2 e 1 (some ⟨x.1,0,none⟩) n' n' (qBP (List.replicate n' 0))) (λx=>ms++ [x.2]):=λn a w0 w next Q hk hs hq=>
  qCP ho hx hu he hb hn n a w0 w next Q hk hs λg w' _ hst=>by
    refine hq (g,blk g (List.replicate n' [.int .i64 0]).flatten e) w' ?_ hst
    have e1:qBP (List.replicate n' 0)=List.replicate n' [Value.int .i64 0]:=by unfold qBP;rw [List.map_replicate];rfl
    show Row (blk g (List.replicate n' [.int .i64 0]).flatten e) e 1 (some ⟨g,0,none⟩) n' n' (qBP (List.replicate n' 0))
    rw [e1]
    exact qAl (q:=True) (sz:=1) xD (by intro y hy;rw [(List.mem_replicate.1 hy).2];rfl)
def stK(p:Nat×Nat):Value:= .agg #[I (p.1:Nat),I (p.2:Nat)]
theorem qUL(a b:Nat):(((a:Int)==(b:Int))=decide (a=b)):=by
 by_cases h:a=b
 · simp [h]
 · rw [decide_eq_false h,beq_eq_false_iff_ne];omega
theorem eqSt(x y:Nat×Nat)(w:World):(Op.equalIn 10000 172 (stK x) (stK y)).run prog w= .ok (decide (x=y)) w:=by
 have u3:=u3_
 have a3:=b3_
 have hS:prog.underlying 172=some (.struct (prog.fieldsOf 172)):=xI
 have hp:prog.stoodInHeld 172=false:=xI
 unfold stK
 rw [show(10000:Nat)=9999+1 from rfl,run_equalIn_struct w 9999 172 _ _ hS hp]
 simp only [Program.fieldsOf,underlying172]
 obtain ⟨v,b⟩:=x
 obtain ⟨v',b'⟩:=y
 have hj: ∀(a b:Int) (w:World),(Op.equalIn 9999 3 (.int .i64 a) (.int .i64 b)).run prog w= .ok (a==b) w:=λa b w=>run_equalIn_int w 9998 3 .i64 .i64 a b u3
 simp only [Op.eqFields]
 simp [part,a3,hj,qUL]
 by_cases h1:v=v'<;>by_cases h2:b=b'<;>simp [h1,h2]
theorem ckSt(x:Nat×Nat)(e:Bool)(w:World):(Instr.checkKey e 10000 172 (stK x)).run prog w= .ok () w:=by
 have a3:=b3_
 have us:=run_underlying (w:=w) underlying172
 have c2: ∀(v:Int),(Instr.checkKey e 9999 3 (.int .i64 v)).run prog w= .ok () w:=λv=>MapKept.run_checkKey (d:= .int .i64) u3_ (k:= .int .i64 v) (show IntKind.i64=IntKind.i64 from rfl) e 9998
 unfold stK
 rw [show(10000:Nat)=9999+1 from rfl]
 unfold Instr.checkKey
 simp only [Sem.run_bind,us,Result.andThen_ok]
 rw [←Array.forIn_toList]
 simp [part,a3,c2,Result.andThen]
theorem qZW:qVR stK prog 172 where
 wide:=by kernel_rfl
 ck:=ckSt
 eq a b w:=eqSt a b w
 inj a b h:=by
  unfold stK at h
  obtain ⟨v,b1⟩:=a
  obtain ⟨v',b2⟩:=b
  simp at h
  exact Prod.ext (by dsimp only;omega) (by dsimp only;omega)
def qEy(v:VtD):Nat×Nat:=(v.b,v.nm)
def qDr(vs:List VtD):List ((Nat×Nat)×Value):=vs.map λv=>(qEy v,.bool true)
theorem qH3{vs:List VtD}{s:Nat×Nat}(h: ∀v∈vs,qEy v≠s):qKq (qDr vs) s=none:=by
 induction vs with
 |nil=>rfl
 |cons v r ih=>
  show(if qEy v=s then some (Value.bool true) else qKq (qDr r) s)=none
  rw [if_neg (h v (.head _))]
  exact ih λz hz=>h z (.tail _ hz)
theorem qOl{vs:List VtD}{s:Nat×Nat}(h: ∃v∈vs,qEy v=s):qKq (qDr vs) s=some (.bool true):=by
  induction vs with
  |nil=>obtain ⟨v,hv,_⟩:=h;cases hv
  |cons v r ih=>
    show(if qEy v=s then some (Value.bool true) else qKq (qDr r) s)=_
    by_cases e:qEy v=s
    · rw [if_pos e]
    · rw [if_neg e]
      obtain ⟨z,hz,hs⟩:=h
      cases hz with
      |head=>exact absurd hs e
      |tail _ hz=>exact ih ⟨z,hz,hs⟩
theorem qJ3{α:Type}(l:List α)(i:Nat)(no:α)(h:i<l.length):l.take (i+1)=l.take i++ [l.getD i no]:=by
 rw [jQ h,jB,jC h];rfl
theorem qOk{vs:List VtD}{i:Nat}(h:i<vs.length):qDr (vs.take i)++ [(qEy (vs.getD i qAo),.bool true)]=qDr (vs.take (i+1)):=by
 rw [qJ3 vs i qAo h];unfold qDr;rw [jM];rfl
def qZ3(vs:List VtD):Prop:= ∀i j,i<j→j<vs.length→qEy (vs.getD i qAo)≠qEy (vs.getD j qAo)
theorem qJN{vs:List VtD}{i:Nat}{v:VtD}(h:v∈vs.take i): ∃j,j<i∧j<vs.length∧v=vs.getD j qAo:=by
 obtain ⟨j,hj,rfl⟩:=zN h
 rw [jF] at hj
 refine⟨j,xB,xB,?_⟩
 rw [List.getElem_take,jB,jC xB];rfl
theorem qZ3.none{vs:List VtD}(h:qZ3 vs){i:Nat}(hi:i<vs.length):qKq (qDr (vs.take i)) (qEy (vs.getD i qAo))=none:=qH3 λv hv=>by
 obtain ⟨j,h1,_,rfl⟩:=qJN hv
 exact h j i h1 hi
def qLR(vs:List VtD)(b:Nat):Nat:=(vs.filter λv=>decide (v.b=b)).length
def qJb(n:Nat)(vs:List VtD):List Nat:=(List.range n).map (qLR vs)
theorem qFI(n:Nat)(vs:List VtD):(qJb n vs).length=n:=by unfold qJb;rw [jO,zX]
theorem qGP{n:Nat}{vs:List VtD}{b:Nat}(h:b<n):(qJb n vs).getD b 0=qLR vs b:=by
 unfold qJb;rw [jB,jN,zC h];rfl
theorem qUy(n:Nat):qJb n []=List.replicate n 0:=by
 unfold qJb
 induction n with
 |zero=>rfl
 |succ n ih=>rw [jx,jM,ih,zf];rfl
theorem qSG{n:Nat}{vs:List VtD}{i:Nat}(hi:i<vs.length):(qJb n (vs.take i)).set (vs.getD i qAo).b ((qJb n (vs.take i)).getD (vs.getD i qAo).b 0+1)=qJb n (vs.take (i+1)):=by
  apply zW
  intro j
  rw [zD,qFI]
  have hs: ∀b,qLR (vs.take (i+1)) b=qLR (vs.take i) b+if(vs.getD i qAo).b=b then 1 else 0:=λb=>by
    unfold qLR
    rw [qJ3 vs i qAo hi,zG,jA,jn,zj]
    by_cases e:(vs.getD i qAo).b=b
    · rw [if_pos (decide_eq_true e),if_pos e];rfl
    · rw [if_neg (by simpa using e),if_neg e];rfl
  by_cases hj:j<n
  · have e2:(qJb n (vs.take (i+1)))[j]?=some (qLR (vs.take (i+1)) j):=by unfold qJb;rw [jN,zC hj];rfl
    have e1:(qJb n (vs.take i))[j]?=some (qLR (vs.take i) j):=by unfold qJb;rw [jN,zC hj];rfl
    rw [e2,e1,hs]
    by_cases e:(vs.getD i qAo).b=j
    · rw [if_pos e,if_pos xB,if_pos e,e,qGP hj]
    · rw [if_neg e,if_neg e];rfl
  · have e2:(qJb n (vs.take (i+1)))[j]?=none:=ji (by rw [qFI];omega)
    have e1:(qJb n (vs.take i))[j]?=none:=ji (by rw [qFI];omega)
    rw [e2,e1]
    split
    · rw [if_neg xB]
    · rfl
def qLm(W:Nat→List Int)(sl n b nm:Nat):Bool:=decide (b<n)&&decide (0≤Wd.find ((W b).take sl) ((nm:Nat):Int) 0)
theorem qWp{G:Hp}{W:Nat→List Int}{sl n:Nat}{ws:List WnD}(h:qEr G W sl ws)(hl:ws.length=n)(b nm:Nat):qGl ws b nm=qLm W sl n b nm:=by
 unfold qGl qLm
 rw [hl]
 by_cases hb:b<n
 · rw [(h b xB).1]
 · rw [decide_eq_false hb];rfl
def qMp(x y:Hd)(W:Nat→List Int)(sl n:Nat)(v:VtD):Nat:=if y.dig= []∨v.ep≠y.ep∨v.hd≠y.dig then 15 else if qLm W sl n v.b v.nm=false then 17 else if qRr x v=false then 18 else if qSw v=false then 12 else 0
theorem vck_W{G:Hp}{W:Nat→List Int}{sl n:Nat}{ws:List WnD}(h:qEr G W sl ws)(hl:ws.length=n)(x y:Hd)(v:VtD):qOU x y ws v=qMp x y W sl n v:=by
 unfold qOU qMp
 rw [qWp h hl]
theorem qPv{x y:Hd}{W:Nat→List Int}{sl n:Nat}{v:VtD}(h:qMp x y W sl n v=0):v.b<n:=by
  unfold qMp at h
  split at h
  · cases h
  · split at h
    · cases h
    · rename_i h2
      unfold qLm at h2
      simp at h2
      exact h2.1
def qKA(vs:List VtD)(i:Nat):Bool:=(vs.take i).any λv=>decide (qEy v=qEy (vs.getD i qAo))
theorem qM2(vs:List VtD)(i:Nat):qKq (qDr (vs.take i)) (qEy (vs.getD i qAo))=if qKA vs i=true then some (.bool true) else none:=by
  by_cases h:qKA vs i=true
  · rw [if_pos h]
    obtain ⟨v,hv,h2⟩:=List.any_eq_true.1 h
    exact qOl ⟨v,hv,of_decide_eq_true h2⟩
  · rw [if_neg h]
    exact qH3 λv hv e=>h (List.any_eq_true.2 ⟨v,hv,decide_eq_true e⟩)
def qHh(x y:Hd)(W:Nat→List Int)(sl n nd:Nat)(vs:List VtD):Nat→Nat
 |0=>if∀b,b<n→nd≤qLR vs b then 0 else 16
 |k+1=>if qKA vs (vs.length-(k+1))=true then 19 else if qMp x y W sl n (vs.getD (vs.length-(k+1)) qAo)=0 then qHh x y W sl n nd vs k else qMp x y W sl n (vs.getD (vs.length-(k+1)) qAo)
theorem qTm{x y:Hd}{W:Nat→List Int}{sl n nd:Nat}{vs:List VtD}{i:Nat}(hi:i<vs.length):qHh x y W sl n nd vs (vs.length-i)=if qKA vs i=true then 19 else if qMp x y W sl n (vs.getD i qAo)=0 then qHh x y W sl n nd vs (vs.length-(i+1)) else qMp x y W sl n (vs.getD i qAo):=by
 obtain ⟨k,hk⟩: ∃k,vs.length-i=k+1:=⟨vs.length-i-1,xB⟩
 rw [hk,qHh,show vs.length-(k+1)=i by omega,show vs.length-(i+1)=k by omega]
def qEV(x y:Hd)(W:Nat→List Int)(sl n nd:Nat)(vs:List VtD):Int:=if x.next y=0 then((qHh x y W sl n nd vs vs.length:Nat):Int) else x.next y
theorem qSQ(F:Hp)(hK:KF F)(x:Hd)(A:Option Addr)(c:Nat)(hg:x.good)(hsl:Sl F 1 A x.nodes.length c (qAG x.nodes))(y:Hd)(B:Option Addr)(e:Nat)(hgy:y.good)(hsy:Sl F 1 B y.nodes.length e (qAG y.nodes))(hsm: ∀s∈x.nodes,s.length≤1048576)(d a sl nd:Nat)(hd:d≤4)(hxd:x.dep=((d:Nat):Int))(hx:x.err=0)(h1:1≤nd)(h2:nd≤sl)(h3:sl≤a)(h4:a≤64)(W:Nat→List Int)(hW:qMh x.dig (2^d) a sl W)(Av:Option Addr)(nv cv:Nat)(vs:List VtD)(hvs:Sl F 15 Av nv cv (qOT vs))(hnv:nv≤100000)(hvo: ∀i,i<vs.length→qSr F (vs.getD i qAo)):
    Cz prog 29 [.agg #[N64 y.ep,Str y.par,I y.dep,I y.aud,.slice B y.nodes.length e,.slice Av nv cv],.agg #[N64 x.ep,Str x.par,I x.dep,I x.aud,.slice A x.nodes.length c],I (a:Nat),.agg #[I (sl:Nat),I (nd:Nat)]] F (I (qEV x y W sl (2^d) nd vs)):=by
  have hvl:vs.length=nv:=by have:=hvs.1;simpa [qOT] using this
  have hpw:=qXL hd
  refine Ct.walk func29 O ntmps29 O (λw0 hw0=>?_)
  refine J.g λ_ j1=>J.p (qAZ O O O) O λg4 _=>J.p (qAZ O O O) O λg5 _=>J.p (qAZ O O O) O λg7 _=>J.b O<|J.c j1 ?_
  refine J.q λ_ j2=>J.g λ_ j3=>J.b8 2 qDF qBv O O O O O<|J.M 0 qVd qBv O O O O O<|J.f (qAV O O qDF qBv (m:=blk g4 [N64 y.ep,Str (y.par),I (y.dep),I (y.aud),.slice B y.nodes.length e,.slice Av nv cv] 50) xD (qAM.blk0.sub 0 5) O) O<|J.p (qAa O O (λF' hF=>qUm F' (hK.mo hF) x A c hg (hsl.mono (Fa hF)) y B e hgy (hsy.mono (Fa hF)))) O λg23 _=>J.b O<|J.c j3 ?_
  refine J.g λ_ j4=>J.b O<|J.f (qAe O O O) O<|J.c j4 ?_
  refine J.a0 O (λh25=>?_) (λh25=>?_)
  ·
    refine J.g λ_ j5=>J.k 2 O<|J.c j5 ?_
    exact J.A<|J.W<|J.E hw0 O () (by unfold qEV;rw [if_neg h25]) trivial [0] O xC
  refine J.T j2 ?_
  refine J.g λ_ j6=>J.b8 2 qDF qBv O O O O O<|J.b O<|J.b8 3 qS2 qON O O O O O<|J.p (qBr O O (λF' hF=>qHv F' (hK.mo hF) x A c hg (hsl.mono (Fa hF)) d a sl nd hd hxd hx h1 h2 h3 h4 W hW)) O ?_
  rintro r31 hp31
  refine J.k 5 O<|J.c j6 ?_
  refine J.q λ_ j7=>J.g λ_ j8=>J.b O<|J.f ((qAe O O O).no xC) O<|J.c j8 ?_
  refine J.a2 ?_
  refine J.T j7 ?_
  refine J.g λ_ j9=>J.p (qEM O) O ?_
  rintro g37 _
  refine J.b O<|J.c j9 ?_
  refine J.g λ_ j10=>J.b O<|J.f (qAR qIl O O) O<|J.p (qLy O (by show some (I (r31.ws.length:Nat))=_;rw [hp31.len]) qDM el3 xB xB) O ?_
  rintro⟨g40,m40⟩ h40
  try dsimp only at h40
  rw [←qUy] at h40
  refine J.b O<|J.c j10 ?_
  refine J.q λ_ j11=>J.g λ_ j12=>J.M 5 qVd sizeOf47 O O O O O<|J.a7 1 isAgg47 O O O O O<|J.f (qAR qYx O O) O<|J.b O<|J.c j12 ?_
  refine J.V<|J.b6 (X:=Nat×Hp×Hp) (λζ=> [(4,Ptr g4),(5,Ptr g5),(7,Ptr g7),(10,.slice r31.A r31.ws.length r31.c),(12,.map (some g37)),(13,.slice (some ⟨g40,0,none⟩) (2^d) (2^d)),(42,.slice Av nv cv),(43,I (nv:Nat)),(44,I (ζ.1:Nat))]) (λζ=> [F,blk g4 [N64 y.ep,Str (y.par),I (y.dep),I (y.aud),.slice B y.nodes.length e,.slice Av nv cv] 50,blk g5 [N64 x.ep,Str (x.par),I (x.dep),I (x.aud),.slice A x.nodes.length c] 34,blk g7 [I (sl:Nat),I (nd:Nat)] 26,r31.mr,r31.G,ζ.2.1,ζ.2.2]) (λζ=>ζ.1≤nv∧qLM stK ζ.2.1 g37 (qDr (vs.take ζ.1))∧Row ζ.2.2 3 1 (some ⟨g40,0,none⟩) (2^d) (2^d) (qBP (qJb (2^d) (vs.take ζ.1)))∧qHh x y W sl (2^d) nd vs (vs.length-ζ.1)=qHh x y W sl (2^d) nd vs vs.length) (λζ=>nv-ζ.1) (0,qAO g37 (.map #[] 0),m40) (⟨jG _,qLM.nil stK g37,h40,O⟩) ⟨O,O,O,O,O,O,O,O,O,trivial⟩ (λ_ h=>h) ?_
  rintro⟨i,mm,mc⟩ ⟨hi,hmm,hrc,hsc⟩ I0 hI0
  dsimp only at hi hmm hrc hsc⊢
  refine J.g λ_ j13=>J.f (qAS O O O) O<|J.c j13 ?_
  refine J.q λ_ j14=>J.a0 O (λh45=>?_) (λh45=>?_)
  ·
    refine J.T j14 ?_
    refine J.q λ_ j15=>J.V<|J.g λ_ j16=>J.f (qAF O O O qYx sizeOf74 hvs xB) O<|J.f (qAV O O isAgg74 sizeOf74 (m:=F) xD (hvs.elem (qTC xB)) O) O<|J.p (qAJ O zeroValue74 O) O λg15 _=>J.a6 (qAD (i:=8) (l:= [.int .u64 0,I 0,Str [],I 0,I 0,.slice none 0 0,.slice none 0 0,Str [],Str [],Str [],I 0,.slice none 0 0,.bool false,Str [],Str []]) (vs:= [N64 ((vs.getD i qAo).ep),I ((vs.getD i qAo).b:Nat),Str ((vs.getD i qAo).hd),I ((vs.getD i qAo).nm:Nat),I ((vs.getD i qAo).i:Nat),.slice (vs.getD i qAo).chA (vs.getD i qAo).ch.length (vs.getD i qAo).chc,.slice (vs.getD i qAo).ptA (vs.getD i qAo).pt.length (vs.getD i qAo).ptc,Str ((vs.getD i qAo).an),Str ((vs.getD i qAo).op),Str ((vs.getD i qAo).rt),I ((vs.getD i qAo).ht:Nat),.slice (vs.getD i qAo).bsA (vs.getD i qAo).bs.length (vs.getD i qAo).bsc,.bool ((vs.getD i qAo).th),Str ((vs.getD i qAo).pk),Str ((vs.getD i qAo).pv)]) O O O O O sizeOf74 O O) O O λ_ _=>J.c j16 ?_
    refine J.g λ_ j17=>J.M 0 qLe qHp O O O O O<|J.M 1 qF6 z3_ O O O O O<|J.a7 8 b3_ O O O O O<|J.M 0 qLe qHp O O O O O<|J.M 3 qF6 z3_ O O O O O<|J.a7 8 b3_ O O O O O<|J.f (qAH (places:= [(0,1),(1,1)]) (r:= [I ((vs.getD i qAo).b:Nat),I ((vs.getD i qAo).nm:Nat)]) O O O underlying172 zeroValue172 (λ_=>xI) O) O<|J.p (qAJ O zeroValue172 O) O λg16 _=>J.a6 (qAD (i:=9) (l:= [I 0,I 0]) (vs:= [I ((vs.getD i qAo).b:Nat),I ((vs.getD i qAo).nm:Nat)]) O O O O O sizeOf172 O O) O O λ_ _=>J.c j17 ?_
    refine J.q λ_ j18=>J.q λ_ j19=>?_
    have hvi:=hvo i xB
    have hvk:qOU x y r31.ws (vs.getD i qAo)=qMp x y W sl (2^d) (vs.getD i qAo):=vck_W hp31.ok hp31.len x y (vs.getD i qAo)
    have hsc2:=qTm (x:=x) (y:=y) (W:=W) (sl:=sl) (n:=2^d) (nd:=nd) (vs:=vs) (i:=i) xB
    rw [hsc] at hsc2
    refine J.H<|J.b O<|J.b8 9 isAgg172 sizeOf172 O O O O O<|J.f ((qLz qZW O O O underlying170 e4_ (m:=mm) xD hmm.at).as (v':= .bool (qKA vs i)) (by rw [qM2];cases qKA vs i<;>rfl)) O<|J.c j19 ?_
    refine J.c7 O (λh57=>?_) (λh57=>?_)
    ·
      refine J.g λ_ j20=>J.b O<|J.c j20 ?_
      exact J.A<|J.W<|J.a8<|J.W<|J.W<|J.a8<|J.W<|J.E hw0 O () (by unfold qEV;rw [if_pos (show x.next y=0 by omega),hsc2,if_pos h57];rfl) trivial [0] O xC
    refine J.T j18 ?_
    refine J.q λ_ j21=>?_
    have hnone:qKq (qDr (vs.take i)) (qEy (vs.getD i qAo))=none:=by rw [qM2,h57];rfl
    rw [h57,if_neg xC] at hsc2
    refine J.H<|J.b O<|J.b8 9 isAgg172 sizeOf172 O O O O O<|J.a6 (qO0 qZW O O O O underlying170 (i:=6) O hmm hnone) O O ?_
    rintro m15 hm15
    rw [qOk xB] at hm15
    refine J.c j21 ?_
    refine J.q λ_ j22=>J.g λ_ j23=>J.b8 8 isAgg74 sizeOf74 O O O O O<|J.b8 2 qDF qBv O O O O O<|J.M 0 qVd qBv O O O O O<|J.f (qAV O O qDF qBv (m:=blk g4 [N64 y.ep,Str (y.par),I (y.dep),I (y.aud),.slice B y.nodes.length e,.slice Av nv cv] 50) xD (qAM.blk0.sub 0 5) O) O<|J.b O<|J.p (qAa O O (λF' hF=>(by have:=qPx F' (hK.mo hF) (vs.getD i qAo) (hvi.mono (Fa hF)) x A c hg (hsl.mono (Fa hF)) y B e hgy (hsy.mono (Fa hF)) hsm r31.A r31.ws.length r31.c r31.ws (hp31.row.sl.mono (Fa hF)) W sl xB (hp31.ok.mono (Fa hF));rw [hvk] at this;exact this))) O λg65 _=>J.b O<|J.c j23 ?_
    refine J.g λ_ j24=>J.b O<|J.f (qAe O O O) O<|J.c j24 ?_
    refine J.a0 O (λh67=>?_) (λh67=>?_)
    ·
      refine J.g λ_ j25=>J.k 2 O<|J.c j25 ?_
      exact J.A<|J.W<|J.a8<|J.W<|J.W<|J.a8<|J.W<|J.E hw0 O () (by unfold qEV;rw [if_pos (show x.next y=0 by omega),hsc2,if_neg xB]) trivial [0] O xC
    refine J.T j22 ?_
    have hvz:qMp x y W sl (2^d) (vs.getD i qAo)=0:=xB
    have hbn:=qPv hvz
    rw [if_pos hvz] at hsc2
    have hcl:=qFI (2^d) (vs.take i)
    have hcg:=qGP (vs:=vs.take i) hbn
    have hcv:qLR (vs.take i) (vs.getD i qAo).b≤i:=jZ (yB _ _) (by rw [jF];omega)
    refine J.H<|J.b O<|J.M 0 qLe qHp O O O O O<|J.M 1 qF6 z3_ O O O O O<|J.f (qAC 8 (v:=I ((vs.getD i qAo).b:Nat)) O O O b3_ O) O<|J.f (qAj (i:=(vs.getD i qAo).b) (j:=0+((vs.getD i qAo).b)*1) O O O qDM z3_ xB xB) O<|J.f (qAI O O b3_ (m:=mc) xD (hrc.sl.cells (qCQ xB))) O<|J.f ((qAQ O O O xB).as (v':=I ((qJb (2^d) (vs.take i)).getD ((vs.getD i qAo).b) 0+1:Nat)) (congrArg I xB)) O<|J.f (qAj (i:=(vs.getD i qAo).b) (j:=0+((vs.getD i qAo).b)*1) O O O qDM z3_ xB xB) O<|J.a6 (qBK (i:=7) (k:=(vs.getD i qAo).b) (off:=0) (b:= [I ((qJb (2^d) (vs.take i)).getD ((vs.getD i qAo).b) 0+1:Nat)]) O O O O hrc (vs:= [I ((qJb (2^d) (vs.take i)).getD ((vs.getD i qAo).b) 0+1:Nat)]) O z3_ O xB (qCQ xB) O (jK _)) O O ?_
    rintro m19_1 hm19_1
    change J _ _ _ [F,blk g4 [N64 y.ep,Str (y.par),I (y.dep),I (y.aud),.slice B y.nodes.length e,.slice Av nv cv] 50,blk g5 [N64 x.ep,Str (x.par),I (x.dep),I (x.aud),.slice A x.nodes.length c] 34,blk g7 [I (sl:Nat),I (nd:Nat)] 26,r31.mr,r31.G,m15,m19_1,blk g15 [N64 ((vs.getD i qAo).ep),I ((vs.getD i qAo).b:Nat),Str ((vs.getD i qAo).hd),I ((vs.getD i qAo).nm:Nat),I ((vs.getD i qAo).i:Nat),.slice (vs.getD i qAo).chA (vs.getD i qAo).ch.length (vs.getD i qAo).chc,.slice (vs.getD i qAo).ptA (vs.getD i qAo).pt.length (vs.getD i qAo).ptc,Str ((vs.getD i qAo).an),Str ((vs.getD i qAo).op),Str ((vs.getD i qAo).rt),I ((vs.getD i qAo).ht:Nat),.slice (vs.getD i qAo).bsA (vs.getD i qAo).bs.length (vs.getD i qAo).bsc,.bool ((vs.getD i qAo).th),Str ((vs.getD i qAo).pk),Str ((vs.getD i qAo).pv)] 74,blk g16 [I ((vs.getD i qAo).b:Nat),I ((vs.getD i qAo).nm:Nat)] 172] _
    rw [qKe] at hm19_1
    refine J.a4<|J.a3<|J.u (J.G j15 ?_)
    exact J.H<|J.f ((qAQ O O O xB).nat (i+1) xB) O<|J.b O<|J.a4<|J.u<|J.a5 (i+1,m15,m19_1) (λη (hη:_∧nv-η.1<nv-i)=>hI0 η hη.1 hη.2) ⟨⟨by dsimp only;omega,hm15,by dsimp only;rw [←qSG (n:=2^d) xB];exact hm19_1,hsc2.symm⟩,by first|omega|(dsimp only;omega)⟩ ⟨O,O,O,O,O,O,O,O,O,trivial⟩ (λ_ h=>h.pick [0,1,2,3,4,5,6,7] xC)
  refine J.b3<|J.a1<|J.a1<|J.b4 ?_
  refine J.u (J.G j11 ?_)
  refine J.q λ_ j26=>J.q λ_ j27=>?_
  obtain rfl:i=vs.length:=by omega
  rw [jp] at hrc
  rw [zH,qHh] at hsc
  refine J.H<|J.b O<|J.f (qAR qDM O O) O<|J.b O<|J.c j27 ?_
  refine J.V<|J.b6 (X:=Nat) (λζ=> [(7,Ptr g7),(78,.slice (some ⟨g40,0,none⟩) (2^d) (2^d)),(79,I ((2^d):Nat)),(80,I (ζ:Nat))]) (λζ=> [F,blk g4 [N64 y.ep,Str (y.par),I (y.dep),I (y.aud),.slice B y.nodes.length e,.slice Av nv cv] 50,blk g5 [N64 x.ep,Str (x.par),I (x.dep),I (x.aud),.slice A x.nodes.length c] 34,blk g7 [I (sl:Nat),I (nd:Nat)] 26,r31.mr,r31.G,mm,mc]) (λζ=>ζ≤2^d∧ ∀b,b<ζ→nd≤qLR vs b) (λζ=>2^d-ζ) 0 (⟨jG _,λb h=>absurd h (jy b)⟩) ⟨O,O,O,O,trivial⟩ (λ_ h=>h) ?_
  rintro k ⟨hk,hlo⟩ I2 hI2
  refine J.g λ_ j28=>J.f (qAS O O O) O<|J.c j28 ?_
  refine J.q λ_ j29=>J.a0 O (λh81=>?_) (λh81=>?_)
  ·
    refine J.T j29 ?_
    refine J.q λ_ j30=>J.V<|J.q λ_ j31=>?_
    have hcl2:=qFI (2^d) vs
    refine J.H<|J.f (qAj (i:=k) (j:=0+k*1) O O O qDM z3_ xB xB) O<|J.f (qAI O O b3_ (m:=mc) xD (hrc.sl.cells (qCQ xB))) O<|J.b O<|J.c j31 ?_
    refine J.g λ_ j32=>J.b O<|J.M 1 qHx z3_ O O O O O<|J.a7 3 b3_ O O O O O<|J.f (qAS O O O) O<|J.c j32 ?_
    refine J.a0 O (λh87=>?_) (λh87=>?_)
    ·
      refine J.g λ_ j33=>J.b O<|J.c j33 ?_
      refine J.A<|J.a8<|J.W<|J.W<|J.a8<|J.W ?_
      have hno: ¬ ∀b,b<2^d→nd≤qLR vs b:=λh=>by have:=h k xB;rw [←qGP (vs:=vs) (show k<2^d by omega)] at this;omega
      rw [if_neg hno] at hsc
      exact J.E hw0 O () (by unfold qEV;rw [if_pos (show x.next y=0 by omega),←hsc];rfl) trivial [0] O xC
    refine J.b5<|J.a3<|J.u (J.G j30 ?_)
    exact J.H<|J.f ((qAQ O O O xB).nat (k+1) xB) O<|J.b O<|J.a4<|J.u<|J.a5 (k+1) (λη (hη:_∧2^d-η<2^d-k)=>hI2 η hη.1 hη.2) ⟨⟨xB,λb hb=>by rcases Nat.lt_succ_iff_lt_or_eq.1 hb with h|rfl;exact hlo b h;rw [←qGP (vs:=vs) (show b<2^d by omega)];omega⟩,by first|omega|(dsimp only;omega)⟩ ⟨O,O,O,O,trivial⟩ (λ_ h=>h)
  refine J.b3<|J.a1<|J.a1<|J.b4 ?_
  refine J.u (J.G j26 ?_)
  refine J.g λ_ j34=>J.b O<|J.c j34 ?_
  refine J.A ?_
  have hall: ∀b,b<2^d→nd≤qLR vs b:=λb hb=>hlo b xB
  rw [if_pos hall] at hsc
  exact J.E hw0 O () (by unfold qEV;rw [if_pos (show x.next y=0 by omega),←hsc];rfl) trivial [0] O xC
end Go.Proofs.YtcgcjaflllmlpaaGreatDoor