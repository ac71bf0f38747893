/- A part of the proof. -/
import Derived.Test.YtcgcjaflllmlpaaGreatDoorTopCfG8
import Derived.Test.YtcgcjaflllmlpaaGreatDoorTopCfG37
import Derived.Test.YtcgcjaflllmlpaaGreatDoorTopCfG38
import Derived.Test.YtcgcjaflllmlpaaGreatDoorTopCfG28
import Derived.Test.YtcgcjaflllmlpaaGreatDoorTopCfG31
import Derived.Test.YtcgcjaflllmlpaaGreatDoorTopCfG32
set_option linter.unusedSimpArgs false
set_option linter.unusedVariables false
namespace Go.Proofs.YtcgcjaflllmlpaaGreatDoor
open Go Go.Fw Go.Proofs.Tryz
set_option maxRecDepth 100000
set_option maxHeartbeats 1000000
theorem ent39:qAD prog 39:=qAD.of func39 rfl (by kernel_rfl)
theorem ent63:qAD prog 63:=qAD.of func63 rfl (by kernel_rfl)
theorem ent64:qAD prog 64:=qAD.of func64 rfl (by kernel_rfl)
theorem ent65:qAD prog 65:=qAD.of func65 rfl (by kernel_rfl)
theorem ent66:qAD prog 66:=qAD.of func66 rfl (by kernel_rfl)
structure SbR where
 mX:Hp
 A:Option Addr
 c:Nat
 mE:Hp
 w:WtR
theorem qSs(F mX NX mC mO:Hp)(hK:KF F)(gs nB:Nat)(v0 v1 v2 v3 v4 v6 v9 v10:Value)(cA:Option Addr)(cc:Nat)(cl:List Chg)(hrc:Row mC 153 2 cA cl.length cc (qDR cl))(hcl:cl.length≤100000)(oA:Option Addr)(oc:Nat)(no:List (List UInt8))(hro:Row mO 9 1 oA no.length oc (qAI no))(hno:no.length≤100000)(nxt:List Lb)(hmp:Fw.MapS mX nB (lbV nxt))(hnx:NxS NX nxt)(s:List UInt8)(hs2:s.length≤200)(v:Nat)(o r:List UInt8)(h:Int)(p:List UInt8)(hE:qBd v o r h p=0)(i:Nat)(A1:Option Addr)(n1 c1:Nat)(ch:List (List UInt8))(hch:Sl F 1 A1 n1 c1 (qAI ch))(A2:Option Addr)(n2 c2:Nat)(pt:List (List UInt8))(hpt:Sl F 1 A2 n2 c2 (qAI pt))(hi:i≤63)(h35:ch.length=35)(hn6:pt.length≤6)(hc16: ∀s∈ch,s.length=16)(hp16: ∀s∈pt,s.length=16)(hp3:pt.length≤3)(hno2:no.length<256)(hg0:qCq nxt s=none)(hJ: ∀F':Hp,Le F F'→Cz prog 64 [.agg #[Str s,N64 (v),Str (o),Str (r),I (h),Str (p),I ((i:Nat):Int),.slice A1 n1 c1,.slice A2 n2 c2],.bool false,.agg #[.int .u64 0,Str [],Str [],I 0,Str []]] F' (I ((0:Nat):Int))):Ct prog 25 [Ptr gs,.agg #[Str s,N64 (v),Str (o),Str (r),I (h),Str (p),I ((i:Nat):Int),.slice A1 n1 c1,.slice A2 n2 c2]] [blk gs [v0,v1,v2,v3,v4,.map (some nB),v6,.slice cA cl.length cc,.slice oA no.length oc,v9,v10] 99,mX,NX,mC,mO,F] (λ_:SbR=>I ((0:Nat):Int)) (λx=>Fw.MapS x.mX nB (lbV (nxt++ [⟨s,x.A,x.c,[(⟨v,o,r,h,p⟩:En)],x.mE⟩]))∧Row x.mE 61 5 x.A 1 x.c (qHy [(⟨v,o,r,h,p⟩:En)])∧Row x.w.mC 153 2 x.w.cA (cl++ [(⟨Sha.tagged 11 [s],qCs v o r h p⟩:Chg)]).length x.w.cc (qDR (cl++ [⟨Sha.tagged 11 [s],qCs v o r h p⟩]))∧Row x.w.mO 9 1 x.w.oA (no++ [117::(upB s (qBG v o r h p) (sgB i ch pt))]).length x.w.oc (qAI (no++ [117::(upB s (qBG v o r h p) (sgB i ch pt))]))) (λx=> [blk gs [v0,v1,v2,v3,v4,.map (some nB),v6,.slice x.w.cA (cl++ [(⟨Sha.tagged 11 [s],qCs v o r h p⟩:Chg)]).length x.w.cc,.slice x.w.oA (no++ [117::(upB s (qBG v o r h p) (sgB i ch pt))]).length x.w.oc,v9,v10] 99,x.mX,NX,x.w.mC,x.w.mO,F,x.mE]):=by
 obtain ⟨e1,e2,⟨e3,e4⟩,e5,e6,e7⟩:=qKZ hE
 have hsg:=qIS (i:=i) hc16 hp16 h35
 have hul:=qIG s (qBG v o r h p) (sgB i ch pt)
 have hel:=qCE hE
 have hgn:qED (lbE nxt) s= []:=by rw [qI5,hg0]
 refine Ct.walk func25 rfl ntmps25 rfl (λw0 hw0=>?_)
 refine J.f λ_ j1=>J.p (qAd O O O) O λg3 _=>J.b O<|J.c j1<|J.k λ_ j2=>J.f λ_ j3=>J.b O<|J.g (qA6 qXt O O O) O<|J.c j3<|J.a1 ?_
 refine J.M j2<|J.k λ_ j4=>J.b0 [blk gs [v0,v1,v2,v3,v4,.map (some nB),v6,.slice cA cl.length cc,.slice oA no.length oc,v9,v10] 99,blk g3 [Str s,N64 (v),Str (o),Str (r),I (h),Str (p),I ((i:Nat):Int),.slice A1 n1 c1,.slice A2 n2 c2] 101] [11,12,100009] (.y 0 (.y 1 (.y 2 (.y 3 (.y 4 (.y 5 (.br (.e 6 (.y 7 (.y 8 (.y 9 (.e 10 (.e 11 (.e 12 .nil))))))) (.e 10 (.e 6 (.y 7 (.y 8 (.y 9 (.e 11 (.e 12 .nil)))))))))))))) Tryz.wide (by decide+kernel) (by simp) ?_
 refine J.L ?_
 refine J.j O (qAC O O) O O<|J.j O (qAA O O qCV O qF2 O) O O<|J.j O (qAX O O isAgg95 qF2 (m:=blk gs [v0,v1,v2,v3,v4,.map (some nB),v6,.slice cA cl.length cc,.slice oA no.length oc,v9,v10] 99) (by simp) (qAR.blk0.sub 5 2) rfl) rfl rfl<|J.j rfl (qAA rfl rfl qB0 rfl z9_ rfl) rfl rfl<|J.j rfl (qAE 1 rfl rfl rfl b9_ rfl) rfl rfl<|J.d5 ?_ ?_
 ·
  refine J.Z O (qAB O O ent63 (Ct.use0 (λF' hF=>qMY F' nB v6 nxt (hmp.at.mono (Fa hF)) (hnx.at.mono (Fa hF)) s (by rw [hgn];exact jG _) hgn))) rfl (by simp) λg19 _=>J.L ?_
  refine J.c3 (.agg #[.int .u64 0,Str [],Str [],I 0,Str []]) ?_
  refine J.d8 O (qAh O O O) O O O ?_
  refine J.Z O (qAL O qOn O) O (by simp) λg5 _=>J.c2 rfl (qAF (i:=7) rfl rfl rfl rfl rfl qBy rfl rfl) rfl rfl rfl λ_ _=>J.d6 rfl (YOp.eop (qBm rfl rfl)) rfl rfl rfl rfl ?_
  intro _ _
  refine J.a8<|J.u (J.D j4 ?_)
  refine J.k λ_ j5=>J.f λ_ j6=>J.b7 6 isAgg101 sizeOf101 O O O O O<|J.b O<|J.b7 7 qEV qBy O O O O O<|J.p (qAB O O ent64 (Ct.use0 (λF' hF=>hJ F' (Fa hF)))) O λg25 _=>J.b O<|J.c j6<|J.f λ_ j7=>J.b O<|J.g ((qAe O O O).no (by decide)) O<|J.c j7<|J.a1 ?_
  refine J.M j5<|J.f λ_ j8=>J.b7 6 isAgg101 sizeOf101 O O O O O<|J.p (qAB O O ent65 (Ct.use0 (λF' hF=>qJ2 F' s (by first|assumption|omega) v o r h p (by first|assumption|omega) i A1 n1 c1 ch (hch.mono (Fa hF)) A2 n2 c2 pt (hpt.mono (Fa hF)) (by first|assumption|omega) (by first|assumption|omega) (by first|assumption|omega) (by first|assumption|omega) (by first|assumption|omega)))) O λg31 _=>J.q 5 O<|J.c j8<|J.k λ_ j9=>J.O<|J.f λ_ j10=>J.b O<|J.g ((qAe O O O).no (by decide)) O<|J.b O<|J.c j10<|J.a1 ?_
  refine J.f λ_ j11=>J.b O<|J.g (qAt u9_ O O) O<|J.g ((qAS O O O (by omega)).as (v':=I ((1+((upB (s) (qBG (v) (o) (r) (h) (p)) (sgB (i) (ch) (pt))).length):Nat):Int)) (congrArg I (by omega))) O<|J.g ((qA5 O O O).no (by omega)) O<|J.b O<|J.c j11<|J.a1 ?_
  refine J.f λ_ j12=>J.b O<|J.g (qAC O O) O<|J.T 8 qCV qBs O O O O O<|J.a5 0 qB8 O O O O O<|J.g (qAU qAk O O) O<|J.g ((qBA O O O).no (by omega)) O<|J.b O<|J.c j12<|J.a1 ?_
  refine J.b5<|J.a2<|J.u (J.D j9 ?_)
  refine J.k λ_ j13=>J.b0 [blk gs [v0,v1,v2,v3,v4,.map (some nB),v6,.slice cA cl.length cc,.slice oA no.length oc,v9,v10] 99,blk g3 [Str s,N64 (v),Str (o),Str (r),I (h),Str (p),I ((i:Nat):Int),.slice A1 n1 c1,.slice A2 n2 c2] 101,mX] [19] (.y 0 (.y 1 (.y 2 (.y 3 (.y 4 (.y 5 (.y 6 (.y 7 (.y 8 (.y 9 (.y 10 (.y 11 (.y 12 (.y 13 (.y 14 (.y 15 (.y 16 (.e 17 (.e 18 (.e 19 .nil)))))))))))))))))))) Tryz.wide (by decide+kernel) (by simp) ?_
  refine J.L ?_
  refine J.j O (qAC O O) O O<|J.j O (qAA O O qCV O qF2 O) O O<|J.j O (qAA O O qLE O qUr O) O O<|J.j O (qAE 0 O O O isAgg92 O) O O<|J.j O (qAA O O qB0 O z9_ O) O O<|J.j O (qAE 1 O O O b9_ O) O O<|J.L ?_
  refine J.j O (qAC O O) O O<|J.j O (qAA O O qCV O qF2 O) O O<|J.j O (qAA O O qLE O qUr O) O O<|J.j O (qAE 0 O O O isAgg92 O) O O<|J.j O (qAA O O qB0 O z9_ O) O O<|J.j O (qAE 1 O O O b9_ O) O O<|J.j O ((qCx O O O qUx u9_ zeroValue51 (m:=mX) (by simp) hmp.at).as (v':= .slice none 0 0) (by rw [qFF,hg0];rfl)) rfl rfl<|J.j rfl (qAA rfl rfl qB0 rfl qBy rfl) rfl rfl<|J.j rfl (qAX rfl rfl qEV qBy (m:=blk g3 [Str s,N64 (v),Str (o),Str (r),I (h),Str (p),I ((i:Nat):Int),.slice A1 n1 c1,.slice A2 n2 c2] 101) (by simp) (qAR.blk0.sub 1 5) rfl) rfl rfl<|J.Z rfl (qAG (l:= [.tmp 66]) (xs:= [[N64 (v),Str (o),Str (r),I (h),Str (p)]]) rfl rfl rfl rfl qFj el61 rfl (by decide) (by decide) (by simp)) rfl (by simp) λg67 _=>J.c7 [0,1,2,3,4,5,6,7,8,9] [blk gs [v0,v1,v2,v3,v4,.map (some nB),v6,.slice cA cl.length cc,.slice oA no.length oc,v9,v10] 99,mX,NX,mC,mO,F,blk g3 [Str s,N64 (v),Str (o),Str (r),I (h),Str (p),I ((i:Nat):Int),.slice A1 n1 c1,.slice A2 n2 c2] 101,blk g5 [.int .u64 0,Str [],Str [],I 0,Str []] 61,blk g67 [N64 (v),Str (o),Str (r),I (h),Str (p)] 61,(λ_=>none)] rfl (by decide)<|J.Z rfl (qAV (i:=9) (m2:=blk g67 [N64 (v),Str (o),Str (r),I (h),Str (p)] 61) rfl rfl rfl qFj qFj el61 rfl (qBb.nil (q:=True)) (by simp) ((qAl (q:=True) (xs:=qHy [(⟨v,o,r,h,p⟩:En)]) rfl (by intro x hx;rw [List.mem_singleton.1 hx];rfl)).sl) rfl (by omega) (by omega)) rfl (by simp) ?_
  rintro⟨A68,c68,m68⟩ h68
  try dsimp only at h68
  replace h68:Row m68 61 5 A68 (0+1) c68 (qHy ([(⟨v,o,r,h,p⟩:En)])):=h68
  refine J.c2 O (qCh (i:=1) O O O O qUx u9_ O hmp) O O O ?_
  rintro mu hmu
  replace hmu:Fw.MapS mu nB (qMo (lbV nxt) s (.slice A68 [(⟨v,o,r,h,p⟩:En)].length c68)):=hmu
  rw [qIY (by rw [qFF,hg0];rfl),←qIz nxt ⟨s,A68,c68,[(⟨v,o,r,h,p⟩:En)],m68⟩] at hmu
  refine J.a8<|J.u (J.D j13 ?_)
  refine J.k λ_ j14=>J.c1 [0,3,4,5,2,1,9,6] [blk gs [v0,v1,v2,v3,v4,.map (some nB),v6,.slice cA cl.length cc,.slice oA no.length oc,v9,v10] 99,mC,mO,F,NX,mu,m68,blk g3 [Str s,N64 (v),Str (o),Str (r),I (h),Str (p),I ((i:Nat):Int),.slice A1 n1 c1,.slice A2 n2 c2] 101] O (by decide)<|J.b0 [blk g3 [Str s,N64 (v),Str (o),Str (r),I (h),Str (p),I ((i:Nat):Int),.slice A1 n1 c1,.slice A2 n2 c2] 101,F] [] (.y 0 (.y 1 (.y 2 (.y 3 (.y 4 (.y 6 (.y 7 (.e 5 (.e 8 (.y 9 (.e 10 .nil))))))))))) Tryz.wide (by decide+kernel) (by simp) ?_
  refine J.L ?_
  refine J.L ?_
  refine J.j O ((qBI O O O (by simp;omega)).as (v':=Str (117::(upB s (qBG v o r h p) (sgB i ch pt)))) rfl) rfl rfl<|J.j rfl (qAA rfl rfl qB0 rfl z9_ rfl) rfl rfl<|J.j rfl (qAE 0 rfl rfl rfl b9_ rfl) rfl rfl<|J.j rfl (qAA rfl rfl qB0 rfl qBy rfl) rfl rfl<|J.j rfl (qAX rfl rfl qEV qBy (m:=blk g3 [Str s,N64 (v),Str (o),Str (r),I (h),Str (p),I ((i:Nat):Int),.slice A1 n1 c1,.slice A2 n2 c2] 101) (by simp) (qAR.blk0.sub 1 5) rfl) rfl rfl<|J.Z rfl (qAB rfl rfl ent39 (Ct.use0 (λF' hF=>qFt F' (hK.mo hF) s (by omega)))) rfl (by simp) λg74 _=>J.Z rfl (qAB rfl rfl ent15 (Ct.use0 (λF' hF=>qEs F' (hK.mo hF) v o r h p (by omega) (by omega) (by omega) (by omega)))) rfl (by simp) λg77 _=>J.j rfl (qAK (places:= [(0,1),(1,1)]) (r:= [Str (Sha.tagged 11 [s]),Str (qCs v o r h p)]) rfl rfl rfl qLJ zeroValue153 (λ_=>by kernel_rfl) rfl) rfl rfl<|J.Z rfl (qAB rfl rfl ent66 (Ct.useA [blk gs [v0,v1,v2,v3,v4,.map (some nB),v6,.slice cA cl.length cc,.slice oA no.length oc,v9,v10] 99,mC,mO] [F,NX,mu,m68,blk g3 [Str s,N64 (v),Str (o),Str (r),I (h),Str (p),I ((i:Nat):Int),.slice A1 n1 c1,.slice A2 n2 c2] 101] (A':=λx:WtR=> [blk gs [v0,v1,v2,v3,v4,.map (some nB),v6,.slice x.cA (cl++ [(⟨Sha.tagged 11 [s],qCs v o r h p⟩:Chg)]).length x.cc,.slice x.oA (no++ [117::(upB s (qBG v o r h p) (sgB i ch pt))]).length x.oc,v9,v10] 99,x.mC,x.mO]) (new:=λ_=> []) (λF' hF=>qMV F' mC mO gs v0 v1 v2 v3 v4 (.map (some nB)) v6 v9 v10 cA cc cl hrc hcl oA oc no hro hno (117::(upB s (qBG v o r h p) (sgB i ch pt))) (Sha.tagged 11 [s]) (qCs v o r h p)))) rfl (by simp) ?_
  rintro w79 ⟨hwc,hwo⟩
  refine J.a8<|J.u (J.D j14 ?_)
  exact J.f λ_ j15=>J.b O<|J.c j15<|J.A<|J.E hw0 O (⟨mu,A68,c68,m68,w79⟩:SbR) O ⟨hmu,h68,hwc,hwo⟩ [0,5,4,1,2,3,6] O (by decide)
 refine J.Z O (qAL O qOn O) O (by simp) λg5 _=>J.Z rfl (qAB rfl rfl ent63 (Ct.use0 (λF' hF=>qMY F' nB v6 nxt (hmp.at.mono (Fa hF)) (hnx.at.mono (Fa hF)) s (by rw [hgn];exact jG _) hgn))) rfl (by simp) λg19 _=>J.L ?_
 refine J.c3 (.agg #[.int .u64 0,Str [],Str [],I 0,Str []]) ?_
 refine J.d8 O (qAh O O O) O O O ?_
 refine J.c2 O (qAF (i:=7) O O O O O qBy O O) O O O λ_ _=>J.d6 O (YOp.eop (qBm O O)) O O O O ?_
 intro _ _
 refine J.a8<|J.u (J.D j4 ?_)
 refine J.k λ_ j16=>J.f λ_ j17=>J.b7 6 isAgg101 sizeOf101 O O O O O<|J.b O<|J.b7 7 qEV qBy O O O O O<|J.p (qAB O O ent64 (Ct.use0 (λF' hF=>hJ F' (Fa hF)))) O λg25 _=>J.b O<|J.c j17<|J.f λ_ j18=>J.b O<|J.g ((qAe O O O).no (by decide)) O<|J.c j18<|J.a1 ?_
 refine J.M j16<|J.f λ_ j19=>J.b7 6 isAgg101 sizeOf101 O O O O O<|J.p (qAB O O ent65 (Ct.use0 (λF' hF=>qJ2 F' s (by first|assumption|omega) v o r h p (by first|assumption|omega) i A1 n1 c1 ch (hch.mono (Fa hF)) A2 n2 c2 pt (hpt.mono (Fa hF)) (by first|assumption|omega) (by first|assumption|omega) (by first|assumption|omega) (by first|assumption|omega) (by first|assumption|omega)))) O λg31 _=>J.q 5 O<|J.c j19<|J.k λ_ j20=>J.O<|J.f λ_ j21=>J.b O<|J.g ((qAe O O O).no (by decide)) O<|J.b O<|J.c j21<|J.a1 ?_
 refine J.f λ_ j22=>J.b O<|J.g (qAt u9_ O O) O<|J.g ((qAS O O O (by omega)).as (v':=I ((1+((upB (s) (qBG (v) (o) (r) (h) (p)) (sgB (i) (ch) (pt))).length):Nat):Int)) (congrArg I (by omega))) O<|J.g ((qA5 O O O).no (by omega)) O<|J.b O<|J.c j22<|J.a1 ?_
 refine J.f λ_ j23=>J.b O<|J.g (qAC O O) O<|J.T 8 qCV qBs O O O O O<|J.a5 0 qB8 O O O O O<|J.g (qAU qAk O O) O<|J.g ((qBA O O O).no (by omega)) O<|J.b O<|J.c j23<|J.a1 ?_
 refine J.b5<|J.a2<|J.u (J.D j20 ?_)
 refine J.k λ_ j24=>J.b0 [blk gs [v0,v1,v2,v3,v4,.map (some nB),v6,.slice cA cl.length cc,.slice oA no.length oc,v9,v10] 99,blk g3 [Str s,N64 (v),Str (o),Str (r),I (h),Str (p),I ((i:Nat):Int),.slice A1 n1 c1,.slice A2 n2 c2] 101,mX] [19] (.y 0 (.y 1 (.y 2 (.y 3 (.y 4 (.y 5 (.y 6 (.y 7 (.y 8 (.y 9 (.y 10 (.y 11 (.y 12 (.y 13 (.y 14 (.y 15 (.y 16 (.e 17 (.e 18 (.e 19 .nil)))))))))))))))))))) Tryz.wide (by decide+kernel) (by simp) ?_
 refine J.L ?_
 refine J.j O (qAC O O) O O<|J.j O (qAA O O qCV O qF2 O) O O<|J.j O (qAA O O qLE O qUr O) O O<|J.j O (qAE 0 O O O isAgg92 O) O O<|J.j O (qAA O O qB0 O z9_ O) O O<|J.j O (qAE 1 O O O b9_ O) O O<|J.L ?_
 refine J.j O (qAC O O) O O<|J.j O (qAA O O qCV O qF2 O) O O<|J.j O (qAA O O qLE O qUr O) O O<|J.j O (qAE 0 O O O isAgg92 O) O O<|J.j O (qAA O O qB0 O z9_ O) O O<|J.j O (qAE 1 O O O b9_ O) O O<|J.j O ((qCx O O O qUx u9_ zeroValue51 (m:=mX) (by simp) hmp.at).as (v':= .slice none 0 0) (by rw [qFF,hg0];rfl)) rfl rfl<|J.j rfl (qAA rfl rfl qB0 rfl qBy rfl) rfl rfl<|J.j rfl (qAX rfl rfl qEV qBy (m:=blk g3 [Str s,N64 (v),Str (o),Str (r),I (h),Str (p),I ((i:Nat):Int),.slice A1 n1 c1,.slice A2 n2 c2] 101) (by simp) (qAR.blk0.sub 1 5) rfl) rfl rfl<|J.Z rfl (qAG (l:= [.tmp 66]) (xs:= [[N64 (v),Str (o),Str (r),I (h),Str (p)]]) rfl rfl rfl rfl qFj el61 rfl (by decide) (by decide) (by simp)) rfl (by simp) λg67 _=>J.c7 [0,1,2,3,4,5,6,7,8,9] [blk gs [v0,v1,v2,v3,v4,.map (some nB),v6,.slice cA cl.length cc,.slice oA no.length oc,v9,v10] 99,mX,NX,mC,mO,F,blk g3 [Str s,N64 (v),Str (o),Str (r),I (h),Str (p),I ((i:Nat):Int),.slice A1 n1 c1,.slice A2 n2 c2] 101,blk g5 [.int .u64 0,Str [],Str [],I 0,Str []] 61,blk g67 [N64 (v),Str (o),Str (r),I (h),Str (p)] 61,(λ_=>none)] rfl (by decide)<|J.Z rfl (qAV (i:=9) (m2:=blk g67 [N64 (v),Str (o),Str (r),I (h),Str (p)] 61) rfl rfl rfl qFj qFj el61 rfl (qBb.nil (q:=True)) (by simp) ((qAl (q:=True) (xs:=qHy [(⟨v,o,r,h,p⟩:En)]) rfl (by intro x hx;rw [List.mem_singleton.1 hx];rfl)).sl) rfl (by omega) (by omega)) rfl (by simp) ?_
 rintro⟨A68,c68,m68⟩ h68
 try dsimp only at h68
 replace h68:Row m68 61 5 A68 (0+1) c68 (qHy ([(⟨v,o,r,h,p⟩:En)])):=h68
 refine J.c2 O (qCh (i:=1) O O O O qUx u9_ O hmp) O O O ?_
 rintro mu hmu
 replace hmu:Fw.MapS mu nB (qMo (lbV nxt) s (.slice A68 [(⟨v,o,r,h,p⟩:En)].length c68)):=hmu
 rw [qIY (by rw [qFF,hg0];rfl),←qIz nxt ⟨s,A68,c68,[(⟨v,o,r,h,p⟩:En)],m68⟩] at hmu
 refine J.a8<|J.u (J.D j24 ?_)
 refine J.k λ_ j25=>J.c1 [0,3,4,5,2,1,9,6] [blk gs [v0,v1,v2,v3,v4,.map (some nB),v6,.slice cA cl.length cc,.slice oA no.length oc,v9,v10] 99,mC,mO,F,NX,mu,m68,blk g3 [Str s,N64 (v),Str (o),Str (r),I (h),Str (p),I ((i:Nat):Int),.slice A1 n1 c1,.slice A2 n2 c2] 101] O (by decide)<|J.b0 [blk g3 [Str s,N64 (v),Str (o),Str (r),I (h),Str (p),I ((i:Nat):Int),.slice A1 n1 c1,.slice A2 n2 c2] 101,F] [] (.y 0 (.y 1 (.y 2 (.y 3 (.y 4 (.y 6 (.y 7 (.e 5 (.e 8 (.y 9 (.e 10 .nil))))))))))) Tryz.wide (by decide+kernel) (by simp) ?_
 refine J.L ?_
 refine J.L ?_
 refine J.j O ((qBI O O O (by simp;omega)).as (v':=Str (117::(upB s (qBG v o r h p) (sgB i ch pt)))) rfl) rfl rfl<|J.j rfl (qAA rfl rfl qB0 rfl z9_ rfl) rfl rfl<|J.j rfl (qAE 0 rfl rfl rfl b9_ rfl) rfl rfl<|J.j rfl (qAA rfl rfl qB0 rfl qBy rfl) rfl rfl<|J.j rfl (qAX rfl rfl qEV qBy (m:=blk g3 [Str s,N64 (v),Str (o),Str (r),I (h),Str (p),I ((i:Nat):Int),.slice A1 n1 c1,.slice A2 n2 c2] 101) (by simp) (qAR.blk0.sub 1 5) rfl) rfl rfl<|J.Z rfl (qAB rfl rfl ent39 (Ct.use0 (λF' hF=>qFt F' (hK.mo hF) s (by omega)))) rfl (by simp) λg74 _=>J.Z rfl (qAB rfl rfl ent15 (Ct.use0 (λF' hF=>qEs F' (hK.mo hF) v o r h p (by omega) (by omega) (by omega) (by omega)))) rfl (by simp) λg77 _=>J.j rfl (qAK (places:= [(0,1),(1,1)]) (r:= [Str (Sha.tagged 11 [s]),Str (qCs v o r h p)]) rfl rfl rfl qLJ zeroValue153 (λ_=>by kernel_rfl) rfl) rfl rfl<|J.Z rfl (qAB rfl rfl ent66 (Ct.useA [blk gs [v0,v1,v2,v3,v4,.map (some nB),v6,.slice cA cl.length cc,.slice oA no.length oc,v9,v10] 99,mC,mO] [F,NX,mu,m68,blk g3 [Str s,N64 (v),Str (o),Str (r),I (h),Str (p),I ((i:Nat):Int),.slice A1 n1 c1,.slice A2 n2 c2] 101] (A':=λx:WtR=> [blk gs [v0,v1,v2,v3,v4,.map (some nB),v6,.slice x.cA (cl++ [(⟨Sha.tagged 11 [s],qCs v o r h p⟩:Chg)]).length x.cc,.slice x.oA (no++ [117::(upB s (qBG v o r h p) (sgB i ch pt))]).length x.oc,v9,v10] 99,x.mC,x.mO]) (new:=λ_=> []) (λF' hF=>qMV F' mC mO gs v0 v1 v2 v3 v4 (.map (some nB)) v6 v9 v10 cA cc cl hrc hcl oA oc no hro hno (117::(upB s (qBG v o r h p) (sgB i ch pt))) (Sha.tagged 11 [s]) (qCs v o r h p)))) rfl (by simp) ?_
 rintro w79 ⟨hwc,hwo⟩
 refine J.a8<|J.u (J.D j25 ?_)
 exact J.f λ_ j26=>J.b O<|J.c j26<|J.A<|J.E hw0 O (⟨mu,A68,c68,m68,w79⟩:SbR) O ⟨hmu,h68,hwc,hwo⟩ [0,5,4,1,2,3,6] O (by decide)
attribute [local irreducible] SN.tagN Sha.tagged SN.sumN
namespace Wn
open Sha Wd
def okW(ws:List Nat)(a:Nat):Nat→Bool
 |0=>true
 |k+1=>okW ws a k&&(decide (a-k<2)||decide (ws.getD k 0<18446744073709551615-18446744073709551615%(a-k)))
def swL(l:List Int)(k j:Nat):List Int:=(l.set k (l.getD j 0)).set j (l.getD k 0)
def swW(ws:List Nat)(a:Nat):Nat→List Int
 |0=>Wd.start a
 |k+1=>swL (swW ws a k) k (k+ws.getD k 0%(a-k))
theorem okW_le{ws:List Nat}{a:Nat}: ∀{m k:Nat},k≤m→okW ws a m=true→okW ws a k=true
  |0,k,hk,h=>by rw [show k=0 by omega];rfl
  |m+1,k,hk,h=>by
    by_cases e:k=m+1
    · rw [e];exact h
    · rw [okW,jY] at h
      exact okW_le (m:=m) (by omega) h.1
theorem wins_w(seed:List UInt8)(hs:seed.length≤1000000)(a:Nat)(ha:a≤1000000)(ws:List Nat)(hw: ∀k,k<a→ws.getD k 0=wordN (seed.map UInt8.toNat) k): ∀k,k<a→okW ws a (k+1)=true→ ∃y,wins 1 a (Strm.new seed) (k+1)=some y∧y.1=swW ws a (k+1)∧(2≤a-k→y.2=nxt (Strm.new seed) (k+1)):=by
  have step: ∀k (x:List Int×Strm),k<a→okW ws a (k+1)=true→wins 1 a (Strm.new seed) k=some x→x.1=swW ws a k→x.2=nxt (Strm.new seed) k→ ∃y,wins 1 a (Strm.new seed) (k+1)=some y∧y.1=swW ws a (k+1)∧(2≤a-k→y.2=nxt (Strm.new seed) (k+1)):=λk x hk hok hx hl hn=>by
    have hn2:(UInt64.ofNat (a-k)).toNat=a-k:=by rw [zB];exact jd (by omega)
    rw [okW,jY,yL,decide_eq_true_eq,decide_eq_true_eq] at hok
    by_cases h2:2≤a-k
    · have hwd:ws.getD k 0<18446744073709551615-18446744073709551615%(a-k):=by
        rcases hok.2 with h|h
        · omega
        · exact h
      have hst:(stop (UInt64.ofNat (a-k))).toNat=18446744073709551615-18446744073709551615%(a-k):=by
        unfold stop
        have hle:(18446744073709551615%UInt64.ofNat (a-k):UInt64)≤18446744073709551615:=by
          rw [UInt64.le_iff_toNat_le,UInt64.toNat_mod]
          exact Nat.mod_le _ _
        rw [UInt64.toNat_sub_of_le _ _ hle,UInt64.toNat_mod,hn2];rfl
      have hnum:x.2.num.toNat=ws.getD k 0:=by rw [hn,qTd seed hs (by omega),hw k hk]
      have hd:draw (stop (UInt64.ofNat (a-k))) 1 x.2=some (x.2.num,x.2.next):=by
        unfold draw
        rw [if_pos]
        rw [hst,hnum]
        exact hwd
      refine⟨(swL x.1 k (k+(x.2.num%UInt64.ofNat (a-k)).toNat),x.2.next),?_,?_,λ_=>by dsimp only;rw [hn];rfl⟩
      · show(wins 1 a (Strm.new seed) k).bind _=_
        rw [hx]
        unfold drawN
        simp only [zw]
        rw [if_neg (by rw [hn2];omega),hd]
        rfl
      · dsimp only
        rw [swW,hl,UInt64.toNat_mod,hn2,hnum]
    · refine⟨(swL x.1 k (k+(0:UInt64).toNat),x.2),?_,?_,λh=>absurd h h2⟩
      · show(wins 1 a (Strm.new seed) k).bind _=_
        rw [hx]
        unfold drawN
        simp only [zw]
        rw [if_pos (by rw [hn2];omega)]
        rfl
      · dsimp only
        rw [swW,hl,show a-k=1 by omega,Nat.mod_one];rfl
  intro k
  induction k with
  |zero=>intro hk hok;exact step 0 _ hk hok rfl rfl rfl
  |succ k ih=>
    intro hk hok
    have hok1:okW ws a (k+1)=true:=okW_le (by omega) hok
    obtain ⟨y,h3,h5,h4⟩:=ih (by omega) hok1
    exact step (k+1) y hk hok h3 h5 (h4 (by omega))
end Wn
def ndN2(m:List Nat):List Nat:=Tn.nat (Sha.numB (UInt64.ofNat m.length) 2)++m
theorem qWz(s:List UInt8):Tn.nat (ndB s)=ndN2 (Tn.nat s):=by
 unfold ndB ndN2 Tn.nat
 rw [jM,jN]
theorem qNV: ∀(l:List (List UInt8)),Tn.nat ((l.map ndB).flatten)=((l.map Tn.nat).map ndN2).flatten
 | []=>rfl
 |s::r=>by
  have:=qNV r
  unfold Tn.nat at this⊢
  rw [jZ,ja,jM,this]
  have h2:=qWz s
  unfold Tn.nat at h2
  rw [h2];rfl
def qVR(ep:Nat)(par:List Nat)(d a:Nat)(M:List (List Nat)):List Nat:=Tn.nat (Sha.numB (UInt64.ofNat ep) 4)++par++ [d%256]++ [a%256]++(M.map ndN2).flatten
theorem qRo{ep:Nat}{par:List UInt8}{d a:Nat}{ns:List (List UInt8)}{P:List Nat}{M:List (List Nat)}(hp:Tn.nat par=P)(h:ns.map Tn.nat=M):Tn.nat (⟨ep,par,((d:Nat):Int),((a:Nat):Int),ns⟩:Hd).bytes=qVR ep P d a M:=by
 have e: ∀k:Nat,(UInt8.ofNat k).toNat=k%256:=λk=>zb
 unfold Hd.bytes qVR
 dsimp only
 rw [←h,←hp,←qNV]
 unfold Tn.nat
 rw [jM,jM,jM,jM,yP,yP,e,e,jT,jT]
theorem digN{x:Hd}{n:List Nat}(he:x.err=0)(hb:Tn.nat x.bytes=n)(hl:n.length≤1000):Tn.nat x.dig=SN.tagN 14 [n]:=by
 unfold Hd.dig
 rw [if_pos he,←hb]
 have h1:x.bytes.length≤1000:=by rw [←hb] at hl;simpa [Tn.nat] using hl
 exact(SN.tagN_eq 14 [x.bytes] (by simp only [ja,jx,jQ,jD,jE];omega)).symm
theorem qV3{dg:List UInt8}{D:List Nat}(h:Tn.nat dg=D)(hl:dg.length=16)(b:Nat):Tn.nat (Wd.seedOf dg b)=SN.tagN 17 [D,[b%256]]:=by
 have:=(SN.tagN_eq 17 [dg,[UInt8.ofNat b]] (by simp only [ja,jx,jQ,jA,jD,jE];omega)).symm
 unfold Wd.seedOf
 rw [←h]
 exact this
theorem qIu(l:List Sm.PR):qAp l 0= [Sm.nd 128 l]:=by
 show [Sm.nd 128 (Sm.bel l (kF 0 0) 0)]=_
 rw [Sm.bel_zero]
theorem hdOk{l:List Sm.PR}(hf:qCJ l){ep:Nat}(he:ep≤4294967295){par:List UInt8}(hp:par.length=16){d:Nat}(hd:d≤4){a:Nat}(ha:a≤64):(⟨ep,par,((d:Nat):Int),((a:Nat):Int),qAp l d⟩:Hd).err=0:=by
  refine qYo ?_ ?_ λs hs=>?_
  · unfold Hd.out
    dsimp only
    rw [qCt hd]
    have:=qWV hd
    omega
  · show¬(qAp l d).length≠cnt (d:Int)
    rw [qBa,qCt hd];exact λh=>h rfl
  · unfold qAp qCN at hs
    obtain ⟨j,_,rfl⟩:=List.mem_map.1 hs
    rcases qIv (Sm.bel_wf hf.once hf.k16 (qHr j d) (d:=d) (by omega)) with h|⟨h1,h2⟩
    · exact .inl h
    · exact .inr ⟨h1,h2.imp (λh=>UInt8.toNat_inj.1 h) (λh=>UInt8.toNat_inj.1 h)⟩
attribute [local irreducible] Sm.nd Hd.dig
theorem qL2{a d:Nat}(ha:a≤3)(hd:d≤0):(pW a d).err=0:=hdOk (qC1 ha) (ep:=0) (by decide) (par:=qAm) rfl (d:=d) (by omega) (a:=a) (by omega)
theorem qC2{a d:Nat}(ha:a≤3)(hd:d≤0):(pW a d).dig.length=16:=qL7 (qL2 ha hd)
theorem qIs:Tn.nat qAm=List.replicate 16 0:=by decide
theorem qRY:Tn.nat (pW 1 0).dig= [187,56,70,227,245,3,126,148,132,140,150,244,87,129,148,200]:=by
 have hn:(pW 1 0).nodes.map Tn.nat= [[1,238,227,159,201,246,222,37,82,179,40,184,102,102,32,228,23]]:=by
  show List.map Tn.nat (qAp (qAO 1) 0)=_
  rw [qIu,yP,qYV]
 refine(digN (qL2 (by decide) (by decide)) (qRo (ep:=0) (d:=0) (a:=1) qIs hn) (by decide+kernel)).trans ?_
 decide+kernel
theorem qRX:Tn.nat (pW 2 0).dig= [46,46,4,60,234,58,251,216,174,196,17,81,38,184,159,221]:=by
 have hn:(pW 2 0).nodes.map Tn.nat= [[2,130,35,49,183,102,82,165,250,168,254,82,193,186,49,175,116]]:=by
  show List.map Tn.nat (qAp (qAO 2) 0)=_
  rw [qIu,yP,qYU]
 refine(digN (qL2 (by decide) (by decide)) (qRo (ep:=0) (d:=0) (a:=2) qIs hn) (by decide+kernel)).trans ?_
 decide+kernel
theorem qRW:Tn.nat (pW 3 0).dig= [101,252,49,218,35,45,205,65,229,67,35,42,13,25,3,168]:=by
 have hn:(pW 3 0).nodes.map Tn.nat= [[2,148,32,134,241,150,96,103,162,143,48,199,58,226,85,100,187]]:=by
  show List.map Tn.nat (qAp (qAO 3) 0)=_
  rw [qIu,yP,qYT]
 refine(digN (qL2 (by decide) (by decide)) (qRo (ep:=0) (d:=0) (a:=3) qIs hn) (by decide+kernel)).trans ?_
 decide+kernel
theorem qNs: ∀k,k<1→([10625539847341542065]:List Nat).getD k 0=Wn.wordN (Tn.nat (Wd.seedOf (pW 1 0).dig 0)) k:=by
 have h:Tn.nat (Wd.seedOf (pW 1 0).dig 0)= [120,169,46,34,87,165,20,173,202,96,199,150,249,251,29,229]:=by
  rw [qV3 qRY (qC2 (by decide) (by decide))]
  decide+kernel
 rw [h]
 decide+kernel
theorem qNr: ∀k,k<2→([15228727670780089412,16813781577792110858]:List Nat).getD k 0=Wn.wordN (Tn.nat (Wd.seedOf (pW 2 0).dig 0)) k:=by
 have h:Tn.nat (Wd.seedOf (pW 2 0).dig 0)= [5,92,46,219,126,24,197,25,34,221,118,90,243,8,199,202]:=by
  rw [qV3 qRX (qC2 (by decide) (by decide))]
  decide+kernel
 rw [h]
 decide+kernel
theorem qNq: ∀k,k<3→([10901641792274269772,15373722404534543456,8362213576977507739]:List Nat).getD k 0=Wn.wordN (Tn.nat (Wd.seedOf (pW 3 0).dig 0)) k:=by
 have h:Tn.nat (Wd.seedOf (pW 3 0).dig 0)= [110,160,226,222,19,37,175,231,196,58,188,79,102,109,223,83]:=by
  rw [qV3 qRW (qC2 (by decide) (by decide))]
  decide+kernel
 rw [h]
 decide+kernel
def ws23(a d b:Nat):List Nat:=match a,d,b with
 |1,0,0=> [10625539847341542065]
 |2,0,0=> [15228727670780089412,16813781577792110858]
 |3,0,0=> [10901641792274269772,15373722404534543456,8362213576977507739]
 |_,_,_=> []
theorem wd23{a d b:Nat}(h1:1≤a)(ha:a≤3)(hd:d≤0)(hb:b<2^d): ∀k,k<a→(ws23 a d b).getD k 0=Wn.wordN (Tn.nat (Wd.seedOf (pW a d).dig b)) k:=by
 have hb2:d=0∧b=0:=by
  obtain rfl:d=0:=by omega
  have:b<1:=hb
  omega
 obtain ⟨rfl,rfl⟩:=hb2
 rcases(show a=1∨a=2∨a=3 by omega) with rfl|rfl|rfl
 exact qNs
 exact qNr
 exact qNq
def qBW(a d sl b:Nat):List Int:=Wn.swW (ws23 a d b) a sl
theorem ok23: ∀a:Fin 4,∀d b:Fin 1,1≤a.val→b.val<2^d.val→Wn.okW (ws23 a d b) a a=true:=by decide+kernel
theorem qL6{a d sl:Nat}(ha:a≤3)(hd:d≤0)(h1:1≤sl)(h2:sl≤a):qMH (pW a d).dig (2^d) a sl (qBW a d sl):=λb hb=>by
 have hb2:b<1:=zK hb (jb (jf (by decide) hd) (by decide))
 have hok:=ok23 ⟨a,by omega⟩ ⟨d,by omega⟩ ⟨b,hb2⟩ (by dsimp only;omega) hb
 obtain ⟨sl',rfl⟩: ∃k,sl=k+1:=⟨sl-1,by omega⟩
 obtain ⟨y,h3,h4,_⟩:=Wn.wins_w (Wd.seedOf (pW a d).dig b) (jb (Nat.le_of_eq (Sha.tagged_length _ _)) (by decide)) a (by omega) (ws23 a d b) (wd23 (by omega) ha hd hb) sl' (by omega) (Wn.okW_le (by omega) hok)
 exact⟨y.2,by rw [h3];exact congrArg some (Prod.ext h4 rfl)⟩
def qVP(a d sl b:Nat):Bool:=(qBW a d sl b).length==a&&decide (((qBW a d sl b).take sl).Nodup)&&((qBW a d sl b).take sl).all λx=>decide (0≤x)&&decide (x<((a:Nat):Int))
theorem qOk: ∀a:Fin 4,∀d b:Fin 1,∀sl:Fin 4,1≤sl.val→sl.val≤a.val→b.val<2^d.val→qVP a d sl b=true:=by decide+kernel
theorem qID{a d sl b:Nat}(ha:a≤3)(hd:d≤0)(h1:1≤sl)(h2:sl≤a)(hb:b<2^d):(qBW a d sl b).length=a∧((qBW a d sl b).take sl).Nodup∧ ∀i,i<sl→0≤(qBW a d sl b).getD i 0∧(qBW a d sl b).getD i 0<((a:Nat):Int):=by
 have hb2:b<1:=zK hb (jb (jf (by decide) hd) (by decide))
 have h:=qOk ⟨a,by omega⟩ ⟨d,by omega⟩ ⟨b,hb2⟩ ⟨sl,by omega⟩ h1 h2 hb
 unfold qVP at h
 rw [jY,jY,decide_eq_true_eq,beq_iff_eq] at h
 obtain ⟨⟨h3,h4⟩,h5⟩:=h
 refine⟨h3,h4,λi hi=>?_⟩
 have hil:i<(qBW a d sl b).length:=by rw [h3];show i<a;omega
 have hm:(qBW a d sl b).getD i 0∈(qBW a d sl b).take sl:=by
  rw [jB,jC hil]
  exact List.mem_take_iff_getElem.2 ⟨i,by omega,rfl⟩
 have h6:=List.all_eq_true.1 h5 _ hm
 rw [jY,decide_eq_true_eq,decide_eq_true_eq] at h6
 exact h6
end Go.Proofs.YtcgcjaflllmlpaaGreatDoor
namespace Go.Proofs.YtcgcjaflllmlpaaGreatDoor
open Go Go.Fw Go.Proofs.Tryz
set_option maxRecDepth 100000
set_option maxHeartbeats 1000000
theorem qLa{P:Program}{env:Env}{ms:List Hp}{o:Oper}{t e x n' by'}(ho:o.op= .makeSlice t x x)(hx:ev env x=some (I ((n':Nat):Int)))(hu:P.underlying t=some (.slice e))(he:qCe P e [.int .i64 0] by')(hb:by'*n'≤281474976710656)(hn:n'≤9223372036854775807):
    EOp P env ms o (λx:Nat×Hp=> .slice (some ⟨x.1,0,none⟩) n' n') (λx=>Row x.2 e 1 (some ⟨x.1,0,none⟩) n' n' (qBJ (List.replicate n' 0))) (λx=>ms++ [x.2]):=λn a w0 w next Q hk hs hq=>
  qCC ho hx hu he hb hn n a w0 w next Q hk hs λg w' _ hst=>by
    refine hq (g,blk g (List.replicate n' [.int .i64 0]).flatten e) w' ?_ hst
    have e1:qBJ (List.replicate n' 0)=List.replicate n' [Value.int .i64 0]:=by unfold qBJ;rw [List.map_replicate];rfl
    show Row (blk g (List.replicate n' [.int .i64 0]).flatten e) e 1 (some ⟨g,0,none⟩) n' n' (qBJ (List.replicate n' 0))
    rw [e1]
    exact qAl (q:=True) (sz:=1) (by simp) (by intro y hy;rw [(List.mem_replicate.1 hy).2];rfl)
def stK(p:Nat×Nat):Value:= .agg #[I ((p.1:Nat):Int),I ((p.2:Nat):Int)]
theorem qTi(a b:Nat):(((a:Int)==(b:Int))=decide (a=b)):=by
 by_cases h:a=b
 · simp [h]
 · rw [decide_eq_false h,beq_eq_false_iff_ne];omega
theorem eqSt(x y:Nat×Nat)(w:World):(Op.equalIn 10000 172 (stK x) (stK y)).run prog w= .ok (decide (x=y)) w:=by
 have u3:=u3_
 have a3:=b3_
 have hS:prog.underlying 172=some (.struct (prog.fieldsOf 172)):=by kernel_rfl
 have hp:prog.stoodInHeld 172=false:=by kernel_rfl
 unfold stK
 rw [show(10000:Nat)=9999+1 from rfl,run_equalIn_struct w 9999 172 _ _ hS hp]
 simp only [Program.fieldsOf,underlying172]
 obtain ⟨v,b⟩:=x
 obtain ⟨v',b'⟩:=y
 have hj: ∀(a b:Int) (w:World),(Op.equalIn 9999 3 (.int .i64 a) (.int .i64 b)).run prog w= .ok (a==b) w:=λa b w=>run_equalIn_int w 9998 3 .i64 .i64 a b u3
 simp only [Op.eqFields]
 simp [part,a3,hj,qTi]
 by_cases h1:v=v'<;>by_cases h2:b=b'<;>simp [h1,h2]
theorem ckSt(x:Nat×Nat)(e:Bool)(w:World):(Instr.checkKey e 10000 172 (stK x)).run prog w= .ok () w:=by
 have a3:=b3_
 have us:=run_underlying (w:=w) underlying172
 have c2: ∀(v:Int),(Instr.checkKey e 9999 3 (.int .i64 v)).run prog w= .ok () w:=λv=>MapKept.run_checkKey (d:= .int .i64) u3_ (k:= .int .i64 v) (show IntKind.i64=IntKind.i64 from rfl) e 9998
 unfold stK
 rw [show(10000:Nat)=9999+1 from rfl]
 unfold Instr.checkKey
 simp only [Sem.run_bind,us,Result.andThen_ok]
 rw [←Array.forIn_toList]
 simp [part,a3,c2,Result.andThen]
theorem qYc:qUn stK prog 172 where
 wide:=by kernel_rfl
 ck:=ckSt
 eq a b w:=eqSt a b w
 inj a b h:=by
  unfold stK at h
  obtain ⟨v,b1⟩:=a
  obtain ⟨v',b2⟩:=b
  simp at h
  exact Prod.ext (by dsimp only;omega) (by dsimp only;omega)
def qEb(v:VtD):Nat×Nat:=(v.b,v.nm)
def qDc(vs:List VtD):List ((Nat×Nat)×Value):=vs.map λv=>(qEb v,.bool true)
theorem qHa{vs:List VtD}{s:Nat×Nat}(h: ∀v∈vs,qEb v≠s):qKT (qDc vs) s=none:=by
 induction vs with
 |nil=>rfl
 |cons v r ih=>
  show(if qEb v=s then some (Value.bool true) else qKT (qDc r) s)=none
  rw [if_neg (h v (.head _))]
  exact ih λz hz=>h z (.tail _ hz)
theorem qOA{vs:List VtD}{s:Nat×Nat}(h: ∃v∈vs,qEb v=s):qKT (qDc vs) s=some (.bool true):=by
  induction vs with
  |nil=>obtain ⟨v,hv,_⟩:=h;cases hv
  |cons v r ih=>
    show(if qEb v=s then some (Value.bool true) else qKT (qDc r) s)=_
    by_cases e:qEb v=s
    · rw [if_pos e]
    · rw [if_neg e]
      obtain ⟨z,hz,hs⟩:=h
      cases hz with
      |head=>exact absurd hs e
      |tail _ hz=>exact ih ⟨z,hz,hs⟩
theorem qJg{α:Type}(l:List α)(i:Nat)(no:α)(h:i<l.length):l.take (i+1)=l.take i++ [l.getD i no]:=by
 rw [jP h,jB,jC h];rfl
theorem qN9{vs:List VtD}{i:Nat}(h:i<vs.length):qDc (vs.take i)++ [(qEb (vs.getD i qAN),.bool true)]=qDc (vs.take (i+1)):=by
 rw [qJg vs i qAN h];unfold qDc;rw [jM];rfl
def qY5(vs:List VtD):Prop:= ∀i j,i<j→j<vs.length→qEb (vs.getD i qAN)≠qEb (vs.getD j qAN)
theorem qIx{vs:List VtD}{i:Nat}{v:VtD}(h:v∈vs.take i): ∃j,j<i∧j<vs.length∧v=vs.getD j qAN:=by
 obtain ⟨j,hj,rfl⟩:=zW h
 rw [jF] at hj
 refine⟨j,by omega,by omega,?_⟩
 rw [List.getElem_take,jB,jC (by omega)];rfl
theorem qY5.none{vs:List VtD}(h:qY5 vs){i:Nat}(hi:i<vs.length):qKT (qDc (vs.take i)) (qEb (vs.getD i qAN))=none:=qHa λv hv=>by
 obtain ⟨j,h1,_,rfl⟩:=qIx hv
 exact h j i h1 hi
def qK5(vs:List VtD)(b:Nat):Nat:=(vs.filter λv=>decide (v.b=b)).length
def qJF(n:Nat)(vs:List VtD):List Nat:=(List.range n).map (qK5 vs)
theorem qEu(n:Nat)(vs:List VtD):(qJF n vs).length=n:=by unfold qJF;rw [jN,zV]
theorem qFz{n:Nat}{vs:List VtD}{b:Nat}(h:b<n):(qJF n vs).getD b 0=qK5 vs b:=by
 unfold qJF;rw [jB,jO,jv h];rfl
theorem qUJ(n:Nat):qJF n []=List.replicate n 0:=by
 unfold qJF
 induction n with
 |zero=>rfl
 |succ n ih=>rw [jw,jM,ih,zf];rfl
theorem qRd{n:Nat}{vs:List VtD}{i:Nat}(hi:i<vs.length):(qJF n (vs.take i)).set (vs.getD i qAN).b ((qJF n (vs.take i)).getD (vs.getD i qAN).b 0+1)=qJF n (vs.take (i+1)):=by
  apply zU
  intro j
  rw [zD,qEu]
  have hs: ∀b,qK5 (vs.take (i+1)) b=qK5 (vs.take i) b+if(vs.getD i qAN).b=b then 1 else 0:=λb=>by
    unfold qK5
    rw [qJg vs i qAN hi,zG,jA,jl,zq]
    by_cases e:(vs.getD i qAN).b=b
    · rw [if_pos (decide_eq_true e),if_pos e];rfl
    · rw [if_neg (by simpa using e),if_neg e];rfl
  by_cases hj:j<n
  · have e2:(qJF n (vs.take (i+1)))[j]?=some (qK5 (vs.take (i+1)) j):=by unfold qJF;rw [jO,jv hj];rfl
    have e1:(qJF n (vs.take i))[j]?=some (qK5 (vs.take i) j):=by unfold qJF;rw [jO,jv hj];rfl
    rw [e2,e1,hs]
    by_cases e:(vs.getD i qAN).b=j
    · rw [if_pos e,if_pos (by omega),if_pos e,e,qFz hj]
    · rw [if_neg e,if_neg e];rfl
  · have e2:(qJF n (vs.take (i+1)))[j]?=none:=jg (by rw [qEu];omega)
    have e1:(qJF n (vs.take i))[j]?=none:=jg (by rw [qEu];omega)
    rw [e2,e1]
    split
    · rw [if_neg (by omega)]
    · rfl
def qLO(W:Nat→List Int)(sl n b nm:Nat):Bool:=decide (b<n)&&decide (0≤Wd.find ((W b).take sl) ((nm:Nat):Int) 0)
theorem qVy{G:Hp}{W:Nat→List Int}{sl n:Nat}{ws:List WnD}(h:qES G W sl ws)(hl:ws.length=n)(b nm:Nat):qGN ws b nm=qLO W sl n b nm:=by
 unfold qGN qLO
 rw [hl]
 by_cases hb:b<n
 · rw [(h b (by omega)).1]
 · rw [decide_eq_false hb];rfl
def qMP(x y:Hd)(W:Nat→List Int)(sl n:Nat)(v:VtD):Nat:=if y.dig= []∨v.ep≠y.ep∨v.hd≠y.dig then 15 else if qLO W sl n v.b v.nm=false then 17 else if qRE x v=false then 18 else if qSI v=false then 12 else 0
theorem vck_W{G:Hp}{W:Nat→List Int}{sl n:Nat}{ws:List WnD}(h:qES G W sl ws)(hl:ws.length=n)(x y:Hd)(v:VtD):qNt x y ws v=qMP x y W sl n v:=by
 unfold qNt qMP
 rw [qVy h hl]
theorem qPJ{x y:Hd}{W:Nat→List Int}{sl n:Nat}{v:VtD}(h:qMP x y W sl n v=0):v.b<n:=by
  unfold qMP at h
  split at h
  · cases h
  · split at h
    · cases h
    · rename_i h2
      unfold qLO at h2
      simp at h2
      exact h2.1
def qJn(vs:List VtD)(i:Nat):Bool:=(vs.take i).any λv=>decide (qEb v=qEb (vs.getD i qAN))
theorem qMd(vs:List VtD)(i:Nat):qKT (qDc (vs.take i)) (qEb (vs.getD i qAN))=if qJn vs i=true then some (.bool true) else none:=by
  by_cases h:qJn vs i=true
  · rw [if_pos h]
    obtain ⟨v,hv,h2⟩:=List.any_eq_true.1 h
    exact qOA ⟨v,hv,of_decide_eq_true h2⟩
  · rw [if_neg h]
    exact qHa λv hv e=>h (List.any_eq_true.2 ⟨v,hv,decide_eq_true e⟩)
def qHF(x y:Hd)(W:Nat→List Int)(sl n nd:Nat)(vs:List VtD):Nat→Nat
 |0=>if∀b,b<n→nd≤qK5 vs b then 0 else 16
 |k+1=>if qJn vs (vs.length-(k+1))=true then 19 else if qMP x y W sl n (vs.getD (vs.length-(k+1)) qAN)=0 then qHF x y W sl n nd vs k else qMP x y W sl n (vs.getD (vs.length-(k+1)) qAN)
theorem qS7{x y:Hd}{W:Nat→List Int}{sl n nd:Nat}{vs:List VtD}{i:Nat}(hi:i<vs.length):qHF x y W sl n nd vs (vs.length-i)=if qJn vs i=true then 19 else if qMP x y W sl n (vs.getD i qAN)=0 then qHF x y W sl n nd vs (vs.length-(i+1)) else qMP x y W sl n (vs.getD i qAN):=by
 obtain ⟨k,hk⟩: ∃k,vs.length-i=k+1:=⟨vs.length-i-1,by omega⟩
 rw [hk,qHF,show vs.length-(k+1)=i by omega,show vs.length-(i+1)=k by omega]
def qDS(x y:Hd)(W:Nat→List Int)(sl n nd:Nat)(vs:List VtD):Int:=if x.next y=0 then((qHF x y W sl n nd vs vs.length:Nat):Int) else x.next y
theorem ent32:qAD prog 32:=qAD.of func32 rfl (by kernel_rfl)
theorem ent75:qAD prog 75:=qAD.of func75 rfl (by kernel_rfl)
theorem ent76:qAD prog 76:=qAD.of func76 rfl (by kernel_rfl)
theorem qRm(F:Hp)(hK:KF F)(x:Hd)(A:Option Addr)(c:Nat)(hg:x.good)(hsl:Sl F 1 A x.nodes.length c (qAI x.nodes))(y:Hd)(B:Option Addr)(e:Nat)(hgy:y.good)(hsy:Sl F 1 B y.nodes.length e (qAI y.nodes))(hsm: ∀s∈x.nodes,s.length≤1048576)(d a sl nd:Nat)(hd:d≤4)(hxd:x.dep=((d:Nat):Int))(hx:x.err=0)(h1:1≤nd)(h2:nd≤sl)(h3:sl≤a)(h4:a≤64)(W:Nat→List Int)(hW:qMH x.dig (2^d) a sl W)(Av:Option Addr)(nv cv:Nat)(vs:List VtD)(hvs:Sl F 15 Av nv cv (qHB vs))(hnv:nv≤100000)(hvo: ∀i,i<vs.length→qSC F (vs.getD i qAN)):
    Cz prog 29 [.agg #[N64 y.ep,Str y.par,I y.dep,I y.aud,.slice B y.nodes.length e,.slice Av nv cv],.agg #[N64 x.ep,Str x.par,I x.dep,I x.aud,.slice A x.nodes.length c],I ((a:Nat):Int),.agg #[I ((sl:Nat):Int),I ((nd:Nat):Int)]] F (I (qDS x y W sl (2^d) nd vs)):=by
  have hvl:vs.length=nv:=by have:=hvs.1;simpa [qHB] using this
  have hpw:=qWV hd
  refine Ct.walk func29 rfl ntmps29 rfl (λw0 hw0=>?_)
  refine J.f λ_ j1=>J.p (qAd O O O) O λg4 _=>J.p (qAd O O O) O λg5 _=>J.p (qAd O O O) O λg7 _=>J.b O<|J.c j1 ?_
  refine J.k λ_ j2=>J.f λ_ j3=>J.b7 2 qDT qBz O O O O O<|J.T 0 qVe qBz O O O O O<|J.g (qAX O O qDT qBz (m:=blk g4 [N64 y.ep,Str (y.par),I (y.dep),I (y.aud),.slice B y.nodes.length e,.slice Av nv cv] 50) (by simp) (qAR.blk0.sub 0 5) rfl) rfl<|J.p (qAB rfl rfl ent75 (Ct.use0 (λF' hF=>qT8 F' (hK.mo hF) x A c hg (hsl.mono (Fa hF)) y B e hgy (hsy.mono (Fa hF))))) rfl λg23 _=>J.b rfl<|J.c j3 ?_
  refine J.f λ_ j4=>J.b O<|J.g (qAe O O O) O<|J.c j4 ?_
  refine J.W O (λh25=>?_) (λh25=>?_)
  ·
    refine J.f λ_ j5=>J.q 2 O<|J.c j5 ?_
    exact J.A<|J.V<|J.E hw0 O () (by unfold qDS;rw [if_neg h25]) trivial [0] rfl (by decide)
  refine J.M j2 ?_
  refine J.f λ_ j6=>J.b7 2 qDT qBz O O O O O<|J.b O<|J.b7 3 qSO qNn O O O O O<|J.p (qAB O O ent32 (Ct.use (λF' hF=>qHT F' (hK.mo hF) x A c hg (hsl.mono (Fa hF)) d a sl nd hd hxd hx h1 h2 h3 h4 W hW))) O ?_
  rintro r31 hp31
  refine J.q 5 O<|J.c j6 ?_
  refine J.k λ_ j7=>J.f λ_ j8=>J.b O<|J.g ((qAe O O O).no (by decide)) O<|J.c j8 ?_
  refine J.a1 ?_
  refine J.M j7 ?_
  refine J.f λ_ j9=>J.p (qD0 O) O ?_
  rintro g37 _
  refine J.b O<|J.c j9 ?_
  refine J.f λ_ j10=>J.b O<|J.g (qAU qIJ O O) O<|J.p (qLa O (by show some (I ((r31.ws.length:Nat):Int))=_;rw [hp31.len]) qC7 el3 (by omega) (by omega)) rfl ?_
  rintro⟨g40,m40⟩ h40
  try dsimp only at h40
  rw [←qUJ] at h40
  refine J.b O<|J.c j10 ?_
  refine J.k λ_ j11=>J.f λ_ j12=>J.T 5 qVe sizeOf47 O O O O O<|J.a5 1 isAgg47 O O O O O<|J.g (qAU qJa O O) O<|J.b O<|J.c j12 ?_
  refine J.O<|J.b4 (X:=Nat×Hp×Hp) (λζ=> [(4,Ptr g4),(5,Ptr g5),(7,Ptr g7),(10,.slice r31.A r31.ws.length r31.c),(12,.map (some g37)),(13,.slice (some ⟨g40,0,none⟩) (2^d) (2^d)),(42,.slice Av nv cv),(43,I ((nv:Nat):Int)),(44,I ((ζ.1:Nat):Int))]) (λζ=> [F,blk g4 [N64 y.ep,Str (y.par),I (y.dep),I (y.aud),.slice B y.nodes.length e,.slice Av nv cv] 50,blk g5 [N64 x.ep,Str (x.par),I (x.dep),I (x.aud),.slice A x.nodes.length c] 34,blk g7 [I ((sl:Nat):Int),I ((nd:Nat):Int)] 26,r31.mr,r31.G,ζ.2.1,ζ.2.2]) (λζ=>ζ.1≤nv∧qKz stK ζ.2.1 g37 (qDc (vs.take ζ.1))∧Row ζ.2.2 3 1 (some ⟨g40,0,none⟩) (2^d) (2^d) (qBJ (qJF (2^d) (vs.take ζ.1)))∧qHF x y W sl (2^d) nd vs (vs.length-ζ.1)=qHF x y W sl (2^d) nd vs vs.length) (λζ=>nv-ζ.1) (0,qAP g37 (.map #[] 0),m40) (⟨jG _,qKz.nil stK g37,h40,O⟩) ⟨O,O,O,O,O,O,O,O,O,trivial⟩ (λ_ h=>h) ?_
  rintro⟨i,mm,mc⟩ ⟨hi,hmm,hrc,hsc⟩ I0 hI0
  dsimp only at hi hmm hrc hsc⊢
  refine J.f λ_ j13=>J.g (qAT O O O) O<|J.c j13 ?_
  refine J.k λ_ j14=>J.W O (λh45=>?_) (λh45=>?_)
  ·
    refine J.M j14 ?_
    refine J.k λ_ j15=>J.O<|J.f λ_ j16=>J.g (qAH O O O qJa qSR hvs (by omega)) O<|J.g (qAX O O isAgg74 qSR (m:=F) (by simp) (hvs.elem (qIF (by omega))) rfl) rfl<|J.p (qAL rfl zeroValue74 rfl) rfl λg15 _=>J.a6 (qAF (i:=8) (l:= [.int .u64 0,I 0,Str [],I 0,I 0,.slice none 0 0,.slice none 0 0,Str [],Str [],Str [],I 0,.slice none 0 0,.bool false,Str [],Str []]) (vs:= [N64 ((vs.getD i qAN).ep),I (((vs.getD i qAN).b:Nat):Int),Str ((vs.getD i qAN).hd),I (((vs.getD i qAN).nm:Nat):Int),I (((vs.getD i qAN).i:Nat):Int),.slice (vs.getD i qAN).chA (vs.getD i qAN).ch.length (vs.getD i qAN).chc,.slice (vs.getD i qAN).ptA (vs.getD i qAN).pt.length (vs.getD i qAN).ptc,Str ((vs.getD i qAN).an),Str ((vs.getD i qAN).op),Str ((vs.getD i qAN).rt),I (((vs.getD i qAN).ht:Nat):Int),.slice (vs.getD i qAN).bsA (vs.getD i qAN).bs.length (vs.getD i qAN).bsc,.bool ((vs.getD i qAN).th),Str ((vs.getD i qAN).pk),Str ((vs.getD i qAN).pv)]) rfl rfl rfl rfl rfl qSR rfl rfl) rfl rfl λ_ _=>J.c j16 ?_
    refine J.f λ_ j17=>J.T 0 qLF qHN O O O O O<|J.T 1 qFi z3_ O O O O O<|J.a5 8 b3_ O O O O O<|J.T 0 qLF qHN O O O O O<|J.T 3 qFi z3_ O O O O O<|J.a5 8 b3_ O O O O O<|J.g (qAK (places:= [(0,1),(1,1)]) (r:= [I (((vs.getD i qAN).b:Nat):Int),I (((vs.getD i qAN).nm:Nat):Int)]) O O O underlying172 zeroValue172 (λ_=>by kernel_rfl) O) O<|J.p (qAL O zeroValue172 O) O λg16 _=>J.a6 (qAF (i:=9) (l:= [I 0,I 0]) (vs:= [I (((vs.getD i qAN).b:Nat):Int),I (((vs.getD i qAN).nm:Nat):Int)]) O O O O O sizeOf172 O O) O O λ_ _=>J.c j17 ?_
    refine J.k λ_ j18=>J.k λ_ j19=>?_
    have hvi:=hvo i (by omega)
    have hvk:qNt x y r31.ws (vs.getD i qAN)=qMP x y W sl (2^d) (vs.getD i qAN):=vck_W hp31.ok hp31.len x y (vs.getD i qAN)
    have hsc2:=qS7 (x:=x) (y:=y) (W:=W) (sl:=sl) (n:=2^d) (nd:=nd) (vs:=vs) (i:=i) (by omega)
    rw [hsc] at hsc2
    refine J.H<|J.b O<|J.b7 9 isAgg172 sizeOf172 O O O O O<|J.g ((qLb qYc O O O underlying170 e4_ (m:=mm) (by simp) hmm.at).as (v':= .bool (qJn vs i)) (by rw [qMd];cases qJn vs i<;>rfl)) rfl<|J.c j19 ?_
    refine J.c6 O (λh57=>?_) (λh57=>?_)
    ·
      refine J.f λ_ j20=>J.b O<|J.c j20 ?_
      exact J.A<|J.V<|J.a7<|J.V<|J.V<|J.a7<|J.V<|J.E hw0 O () (by unfold qDS;rw [if_pos (show x.next y=0 by omega),hsc2,if_pos h57];rfl) trivial [0] rfl (by decide)
    refine J.M j18 ?_
    refine J.k λ_ j21=>?_
    have hnone:qKT (qDc (vs.take i)) (qEb (vs.getD i qAN))=none:=by rw [qMd,h57];rfl
    rw [h57,if_neg (by decide)] at hsc2
    refine J.H<|J.b O<|J.b7 9 isAgg172 sizeOf172 O O O O O<|J.a6 (qOQ qYc O O O O underlying170 (i:=6) O hmm hnone) O O ?_
    rintro m15 hm15
    rw [qN9 (by omega)] at hm15
    refine J.c j21 ?_
    refine J.k λ_ j22=>J.f λ_ j23=>J.b7 8 isAgg74 qSR O O O O O<|J.b7 2 qDT qBz O O O O O<|J.T 0 qVe qBz O O O O O<|J.g (qAX O O qDT qBz (m:=blk g4 [N64 y.ep,Str (y.par),I (y.dep),I (y.aud),.slice B y.nodes.length e,.slice Av nv cv] 50) (by simp) (qAR.blk0.sub 0 5) rfl) rfl<|J.b rfl<|J.p (qAB rfl rfl ent76 (Ct.use0 (λF' hF=>(by have:=qPL F' (hK.mo hF) (vs.getD i qAN) (hvi.mono (Fa hF)) x A c hg (hsl.mono (Fa hF)) y B e hgy (hsy.mono (Fa hF)) hsm r31.A r31.ws.length r31.c r31.ws (hp31.row.sl.mono (Fa hF)) W sl (by omega) (hp31.ok.mono (Fa hF));rw [hvk] at this;exact this)))) rfl λg65 _=>J.b rfl<|J.c j23 ?_
    refine J.f λ_ j24=>J.b O<|J.g (qAe O O O) O<|J.c j24 ?_
    refine J.W O (λh67=>?_) (λh67=>?_)
    ·
      refine J.f λ_ j25=>J.q 2 O<|J.c j25 ?_
      exact J.A<|J.V<|J.a7<|J.V<|J.V<|J.a7<|J.V<|J.E hw0 O () (by unfold qDS;rw [if_pos (show x.next y=0 by omega),hsc2,if_neg (by omega)]) trivial [0] rfl (by decide)
    refine J.M j22 ?_
    have hvz:qMP x y W sl (2^d) (vs.getD i qAN)=0:=by omega
    have hbn:=qPJ hvz
    rw [if_pos hvz] at hsc2
    have hcl:=qEu (2^d) (vs.take i)
    have hcg:=qFz (vs:=vs.take i) hbn
    have hcv:qK5 (vs.take i) (vs.getD i qAN).b≤i:=jb (z8 _ _) (by rw [jF];omega)
    refine J.H<|J.b O<|J.T 0 qLF qHN O O O O O<|J.T 1 qFi z3_ O O O O O<|J.g (qAE 8 (v:=I (((vs.getD i qAN).b:Nat):Int)) O O O b3_ O) O<|J.g (qAi (i:=(vs.getD i qAN).b) (j:=0+((vs.getD i qAN).b)*1) O O O qC7 z3_ (by omega) (by omega)) O<|J.g (qAJ O O b3_ (m:=mc) (by simp) (hrc.sl.cells (qCD (by omega)))) rfl<|J.g ((qAS rfl rfl rfl (by omega)).as (v':=I (((qJF (2^d) (vs.take i)).getD ((vs.getD i qAN).b) 0+1:Nat):Int)) (congrArg I (by omega))) rfl<|J.g (qAi (i:=(vs.getD i qAN).b) (j:=0+((vs.getD i qAN).b)*1) rfl rfl rfl qC7 z3_ (by omega) (by omega)) rfl<|J.a6 (qBR (i:=7) (k:=(vs.getD i qAN).b) (off:=0) (b:= [I (((qJF (2^d) (vs.take i)).getD ((vs.getD i qAN).b) 0+1:Nat):Int)]) rfl rfl rfl rfl hrc (vs:= [I (((qJF (2^d) (vs.take i)).getD ((vs.getD i qAN).b) 0+1:Nat):Int)]) rfl z3_ rfl (by omega) (qCD (by omega)) rfl (jK _)) rfl rfl ?_
    rintro m19_1 hm19_1
    change J _ _ _ [F,blk g4 [N64 y.ep,Str (y.par),I (y.dep),I (y.aud),.slice B y.nodes.length e,.slice Av nv cv] 50,blk g5 [N64 x.ep,Str (x.par),I (x.dep),I (x.aud),.slice A x.nodes.length c] 34,blk g7 [I ((sl:Nat):Int),I ((nd:Nat):Int)] 26,r31.mr,r31.G,m15,m19_1,blk g15 [N64 ((vs.getD i qAN).ep),I (((vs.getD i qAN).b:Nat):Int),Str ((vs.getD i qAN).hd),I (((vs.getD i qAN).nm:Nat):Int),I (((vs.getD i qAN).i:Nat):Int),.slice (vs.getD i qAN).chA (vs.getD i qAN).ch.length (vs.getD i qAN).chc,.slice (vs.getD i qAN).ptA (vs.getD i qAN).pt.length (vs.getD i qAN).ptc,Str ((vs.getD i qAN).an),Str ((vs.getD i qAN).op),Str ((vs.getD i qAN).rt),I (((vs.getD i qAN).ht:Nat):Int),.slice (vs.getD i qAN).bsA (vs.getD i qAN).bs.length (vs.getD i qAN).bsc,.bool ((vs.getD i qAN).th),Str ((vs.getD i qAN).pk),Str ((vs.getD i qAN).pv)] 74,blk g16 [I (((vs.getD i qAN).b:Nat):Int),I (((vs.getD i qAN).nm:Nat):Int)] 172] _
    rw [qKH] at hm19_1
    refine J.a3<|J.a2<|J.u (J.D j15 ?_)
    exact J.H<|J.g ((qAS O O O (by omega)).nat (i+1) (by omega)) O<|J.b O<|J.a3<|J.u<|J.a4 (i+1,m15,m19_1) (λη (hη:_∧nv-η.1<nv-i)=>hI0 η hη.1 hη.2) ⟨⟨by dsimp only;omega,hm15,by dsimp only;rw [←qRd (n:=2^d) (by omega)];exact hm19_1,hsc2.symm⟩,by first|omega|(dsimp only;omega)⟩ ⟨rfl,rfl,rfl,rfl,rfl,rfl,rfl,rfl,rfl,trivial⟩ (λ_ h=>h.pick [0,1,2,3,4,5,6,7] (by decide))
  refine J.b2<|J.a0<|J.a0<|J.b3 ?_
  refine J.u (J.D j11 ?_)
  refine J.k λ_ j26=>J.k λ_ j27=>?_
  obtain rfl:i=vs.length:=by omega
  rw [jo] at hrc
  rw [zH,qHF] at hsc
  refine J.H<|J.b O<|J.g (qAU qC7 O O) O<|J.b O<|J.c j27 ?_
  refine J.O<|J.b4 (X:=Nat) (λζ=> [(7,Ptr g7),(78,.slice (some ⟨g40,0,none⟩) (2^d) (2^d)),(79,I (((2^d):Nat):Int)),(80,I ((ζ:Nat):Int))]) (λζ=> [F,blk g4 [N64 y.ep,Str (y.par),I (y.dep),I (y.aud),.slice B y.nodes.length e,.slice Av nv cv] 50,blk g5 [N64 x.ep,Str (x.par),I (x.dep),I (x.aud),.slice A x.nodes.length c] 34,blk g7 [I ((sl:Nat):Int),I ((nd:Nat):Int)] 26,r31.mr,r31.G,mm,mc]) (λζ=>ζ≤2^d∧ ∀b,b<ζ→nd≤qK5 vs b) (λζ=>2^d-ζ) 0 (⟨jG _,λb h=>absurd h (zA b)⟩) ⟨O,O,O,O,trivial⟩ (λ_ h=>h) ?_
  rintro k ⟨hk,hlo⟩ I2 hI2
  refine J.f λ_ j28=>J.g (qAT O O O) O<|J.c j28 ?_
  refine J.k λ_ j29=>J.W O (λh81=>?_) (λh81=>?_)
  ·
    refine J.M j29 ?_
    refine J.k λ_ j30=>J.O<|J.k λ_ j31=>?_
    have hcl2:=qEu (2^d) vs
    refine J.H<|J.g (qAi (i:=k) (j:=0+k*1) O O O qC7 z3_ (by omega) (by omega)) O<|J.g (qAJ O O b3_ (m:=mc) (by simp) (hrc.sl.cells (qCD (by omega)))) rfl<|J.b rfl<|J.c j31 ?_
    refine J.f λ_ j32=>J.b O<|J.T 1 qPR z3_ O O O O O<|J.a5 3 b3_ O O O O O<|J.g (qAT O O O) O<|J.c j32 ?_
    refine J.W O (λh87=>?_) (λh87=>?_)
    ·
      refine J.f λ_ j33=>J.b O<|J.c j33 ?_
      refine J.A<|J.a7<|J.V<|J.V<|J.a7<|J.V ?_
      have hno: ¬ ∀b,b<2^d→nd≤qK5 vs b:=λh=>by have:=h k (by omega);rw [←qFz (vs:=vs) (show k<2^d by omega)] at this;omega
      rw [if_neg hno] at hsc
      exact J.E hw0 O () (by unfold qDS;rw [if_pos (show x.next y=0 by omega),←hsc];rfl) trivial [0] rfl (by decide)
    refine J.b5<|J.a2<|J.u (J.D j30 ?_)
    exact J.H<|J.g ((qAS O O O (by omega)).nat (k+1) (by omega)) O<|J.b O<|J.a3<|J.u<|J.a4 (k+1) (λη (hη:_∧2^d-η<2^d-k)=>hI2 η hη.1 hη.2) ⟨⟨by omega,λb hb=>by rcases Nat.lt_succ_iff_lt_or_eq.1 hb with h|rfl;exact hlo b h;rw [←qFz (vs:=vs) (show b<2^d by omega)];omega⟩,by first|omega|(dsimp only;omega)⟩ ⟨rfl,rfl,rfl,rfl,trivial⟩ (λ_ h=>h)
  refine J.b2<|J.a0<|J.a0<|J.b3 ?_
  refine J.u (J.D j26 ?_)
  refine J.f λ_ j34=>J.b O<|J.c j34 ?_
  refine J.A ?_
  have hall: ∀b,b<2^d→nd≤qK5 vs b:=λb hb=>hlo b (by omega)
  rw [if_pos hall] at hsc
  exact J.E hw0 O () (by unfold qDS;rw [if_pos (show x.next y=0 by omega),←hsc];rfl) trivial [0] rfl (by decide)
end Go.Proofs.YtcgcjaflllmlpaaGreatDoor
