/- A part of the proof. -/
import Derived.Test.YtllnfioplpipiaaGreatDoorTopOrG8
import Derived.Test.YtllnfioplpipiaaGreatDoorTopOrG33
import Derived.Test.YtllnfioplpipiaaGreatDoorTopOrG36
set_option linter.unusedSimpArgs false
set_option linter.unusedVariables false
namespace Go.Proofs.YtllnfioplpipiaaGreatDoor
open Go Go.Fw Go.Proofs.Tryz
set_option maxRecDepth 100000
set_option maxHeartbeats 1000000
theorem ent24:qAD prog 24:=qAD.of func24 rfl (by kernel_rfl)
theorem ent40:qAD prog 40:=qAD.of func40 rfl (by kernel_rfl)
theorem ent41:qAD prog 41:=qAD.of func41 rfl (by kernel_rfl)
theorem ent42:qAD prog 42:=qAD.of func42 rfl (by kernel_rfl)
theorem ent43:qAD prog 43:=qAD.of func43 rfl (by kernel_rfl)
structure SbR where
 mX:Hp
 A:Option Addr
 c:Nat
 mE:Hp
 w:WtR
theorem qPP(F mX NX mC mO:Hp)(hK:KF F)(gs nB:Nat)(v0 v1 v2 v3 v4 v6 v9 v10:Value)(cA:Option Addr)(cc:Nat)(cl:List Chg)(hrc:Row mC 122 2 cA cl.length cc (qCW cl))(hcl:cl.length≤100000)(oA:Option Addr)(oc:Nat)(no:List (List UInt8))(hro:Row mO 9 1 oA no.length oc (qAG no))(hno:no.length≤100000)(nxt:List Lb)(hmp:Fw.MapS mX nB (lbV nxt))(hnx:NxS NX nxt)(s:List UInt8)(hs2:s.length≤200)(v:Nat)(o r:List UInt8)(h:Int)(p:List UInt8)(hE:qBS v o r h p=0)(i:Nat)(A1:Option Addr)(n1 c1:Nat)(ch:List (List UInt8))(hch:Sl F 1 A1 n1 c1 (qAG ch))(A2:Option Addr)(n2 c2:Nat)(pt:List (List UInt8))(hpt:Sl F 1 A2 n2 c2 (qAG pt))(hi:i≤63)(h35:ch.length=35)(hn6:pt.length≤6)(hc16: ∀s∈ch,s.length=16)(hp16: ∀s∈pt,s.length=16)(hp3:pt.length≤3)(hno2:no.length<256)(hg0:qCH nxt s=none)(hJ: ∀F':Hp,Le F F'→Ct prog 41 [.agg #[Str s,N64 (v),Str (o),Str (r),I (h),Str (p),I ((i:Nat):Int),.slice A1 n1 c1,.slice A2 n2 c2],.bool false,.agg #[.int .u64 0,Str [],Str [],I 0,Str []]] [F'] (λ_:Unit=>I ((0:Nat):Int)) (λ_=>True) (λ_=> [F'])):Ct prog 10 [Ptr gs,.agg #[Str s,N64 (v),Str (o),Str (r),I (h),Str (p),I ((i:Nat):Int),.slice A1 n1 c1,.slice A2 n2 c2]] [blk gs [v0,v1,v2,v3,v4,.map (some nB),v6,.slice cA cl.length cc,.slice oA no.length oc,v9,v10] 102,mX,NX,mC,mO,F] (λ_:SbR=>I ((0:Nat):Int)) (λx=>Fw.MapS x.mX nB (lbV (nxt++ [⟨s,x.A,x.c,[(⟨v,o,r,h,p⟩:En)],x.mE⟩]))∧Row x.mE 43 5 x.A 1 x.c (qGe [(⟨v,o,r,h,p⟩:En)])∧Row x.w.mC 122 2 x.w.cA (cl++ [(⟨Sha.tagged 11 [s],qCA v o r h p⟩:Chg)]).length x.w.cc (qCW (cl++ [⟨Sha.tagged 11 [s],qCA v o r h p⟩]))∧Row x.w.mO 9 1 x.w.oA (no++ [117::(upB s (qA3 v o r h p) (sgB i ch pt))]).length x.w.oc (qAG (no++ [117::(upB s (qA3 v o r h p) (sgB i ch pt))]))) (λx=> [blk gs [v0,v1,v2,v3,v4,.map (some nB),v6,.slice x.w.cA (cl++ [(⟨Sha.tagged 11 [s],qCA v o r h p⟩:Chg)]).length x.w.cc,.slice x.w.oA (no++ [117::(upB s (qA3 v o r h p) (sgB i ch pt))]).length x.w.oc,v9,v10] 102,x.mX,NX,x.w.mC,x.w.mO,F,x.mE]):=by
 obtain ⟨e1,e2,⟨e3,e4⟩,e5,e6,e7⟩:=qIt hE
 have hsg:=qG8 (i:=i) hc16 hp16 h35
 have hul:=qGv s (qA3 v o r h p) (sgB i ch pt)
 have hel:=qBn hE
 have hgn:qCs (lbE nxt) s= []:=by rw [qHZ,hg0]
 refine Ct.walk func10 rfl ntmps10 rfl (λw0 hw0=>?_)
 change J _ [(0,_),(1,_)] _ _ _
 refine J.g λK1 hK1=>J.k (qAi (l:= [Str s,N64 (v),Str (o),Str (r),I (h),Str (p),I ((i:Nat):Int),.slice A1 n1 c1,.slice A2 n2 c2]) O O O) O λg3 _=>?_
 change J _ _ _ [blk gs [v0,v1,v2,v3,v4,.map (some nB),v6,.slice cA cl.length cc,.slice oA no.length oc,v9,v10] 102,mX,NX,mC,mO,F,blk g3 [Str s,N64 (v),Str (o),Str (r),I (h),Str (p),I ((i:Nat):Int),.slice A1 n1 c1,.slice A2 n2 c2] 48] _
 refine J.b O<|J.c hK1<|J.E 0 3 ?_
 refine J.j λK2 hK2=>J.g λK3 hK3=>J.b O<|J.f (qA6 underlying28 O O O) O<|J.c hK3<|J.G 0 3 11 ?_
 refine J.a5 ?_
 refine J.W hK2<|J.E 0 3 ?_
 refine J.j λK4 hK4=>J.c1 [blk gs [v0,v1,v2,v3,v4,.map (some nB),v6,.slice cA cl.length cc,.slice oA no.length oc,v9,v10] 102,blk g3 [Str s,N64 (v),Str (o),Str (r),I (h),Str (p),I ((i:Nat):Int),.slice A1 n1 c1,.slice A2 n2 c2] 48] [11,12,100009] (.y 0 (.y 1 (.y 2 (.y 3 (.y 4 (.y 5 (.br (.e 6 (.y 7 (.y 8 (.y 9 (.e 10 (.e 11 (.e 12 .nil))))))) (.e 10 (.e 6 (.y 7 (.y 8 (.y 9 (.e 11 (.e 12 .nil)))))))))))))) Tryz.wide (by decide+kernel) (by simp) ?_
 refine J.T ?_
 refine J.q O (qAC O O) O O<|J.q O (qAB (j:=5) O O qA7 O qFx O) O O<|J.q O (qAd (vs:= [.map (some nB),v6]) O O isAgg97 qFx (m:=blk gs [v0,v1,v2,v3,v4,.map (some nB),v6,.slice cA cl.length cc,.slice oA no.length oc,v9,v10] 102) (by simp) (qAL.blk0.sub 5 2) rfl) rfl rfl<|J.q rfl (qAB (j:=0) rfl rfl qD0 rfl z9_ rfl) rfl rfl<|J.q rfl (qAE 1 (v:=Str s) rfl rfl rfl b9_ rfl) rfl rfl<|J.g0 ?_ ?_
 ·
  refine J.a9 O (qAA O O ent40 (Ct.use0 (λF' hF=>qKb F' nB v6 nxt (hmp.at.mono (hF mX (by simp))) (hnx.at.mono (hF NX (by simp))) s (by rw [hgn];exact Nat.zero_le _) hgn))) rfl (by simp) λg19 _=>J.T ?_
  refine J.d9 (.agg #[.int .u64 0,Str [],Str [],I 0,Str []]) ?_
  refine J.f4 O (qAa (v:= .bool false) O O O) O O O ?_
  refine J.a9 O (qAN (l:= [.int .u64 0,Str [],Str [],I 0,Str []]) O qUe O) O (by simp) λg5 _=>?_
  change J _ _ _ [_,_,_,_,_,_,_,blk g5 [.int .u64 0,Str [],Str [],I 0,Str []] 43] _
  refine J.d3 O (qAI (i:=7) (l:= [.int .u64 0,Str [],Str [],I 0,Str []]) (vs:= [.int .u64 0,Str [],Str [],I 0,Str []]) O O O O O qCR O O) O O O λ_ _=>?_
  change J _ _ _ [_,_,_,_,_,_,_,_] _
  refine J.g2 O (YOp.eop (qB6 O O)) O O O O ?_
  intro _ _
  refine J.b9<|J.A (J.H hK4 ?_)
  refine J.O 0 3 5 6 ?_
  refine J.j λK5 hK5=>J.g λK6 hK6=>J.c9 6 isAgg48 qOx O O O O O<|J.b O<|J.c9 7 qFy qCR O O O O O<|J.k (qAA O O ent41 (Ct.use0 (λF' hF=>hJ F' (hF F (by simp))))) rfl λg25 _=>J.b rfl<|J.c hK6<|J.G 0 3 7 ?_
  refine J.g λK7 hK7=>J.b O<|J.f ((qAb O O O).no (by decide)) O<|J.c hK7<|J.O 0 3 7 27 ?_
  refine J.a5 ?_
  refine J.W hK5<|J.E 0 3 ?_
  refine J.g λK8 hK8=>J.c9 6 isAgg48 qOx O O O O O<|J.k (qAA O O ent42 (Ct.use0 (λF' hF=>qIP F' s (by first|assumption|omega) v o r h p (by first|assumption|omega) i A1 n1 c1 ch (hch.mono (hF F (by simp))) A2 n2 c2 pt (hpt.mono (hF F (by simp))) (by first|assumption|omega) (by first|assumption|omega) (by first|assumption|omega) (by first|assumption|omega) (by first|assumption|omega)))) rfl λg31 _=>J.p 5 rfl<|J.c hK8<|J.O 0 3 8 9 ?_
  refine J.j λK9 hK9=>J.V<|J.g λK10 hK10=>J.b O<|J.f ((qAb O O O).no (by decide)) O<|J.b O<|J.c hK10<|J.a0 0 3 8 9 34 ?_
  refine J.a5 ?_
  refine J.g λK11 hK11=>J.b O<|J.f (qAl u9_ O O) O<|J.f ((qAO O O O (by omega)).as (v':=I ((1+((upB (s) (qA3 (v) (o) (r) (h) (p)) (sgB (i) (ch) (pt))).length):Nat):Int)) (congrArg I (by omega))) O<|J.f ((qAz O O O).no (by omega)) O<|J.b O<|J.c hK11<|J.O 0 3 8 38 ?_
  refine J.a5 ?_
  refine J.g λK12 hK12=>J.b O<|J.f (qAC O O) O<|J.a3 8 qA7 qBf O O O O O<|J.f (qAE 0 (v:= .slice oA no.length oc) O O O qBo O) O<|J.f (qAP qAe O O) O<|J.f ((qBN O O O).no (by omega)) O<|J.b O<|J.c hK12<|J.O 0 3 8 43 ?_
  refine J.a5 ?_
  refine J.b7<|J.a6<|J.A (J.H hK9 ?_)
  refine J.G 0 3 8 ?_
  refine J.j λK13 hK13=>J.c1 [blk gs [v0,v1,v2,v3,v4,.map (some nB),v6,.slice cA cl.length cc,.slice oA no.length oc,v9,v10] 102,blk g3 [Str s,N64 (v),Str (o),Str (r),I (h),Str (p),I ((i:Nat):Int),.slice A1 n1 c1,.slice A2 n2 c2] 48,mX] [19] (.y 0 (.y 1 (.y 2 (.y 3 (.y 4 (.y 5 (.y 6 (.y 7 (.y 8 (.y 9 (.y 10 (.y 11 (.y 12 (.y 13 (.y 14 (.y 15 (.y 16 (.e 17 (.e 18 (.e 19 .nil)))))))))))))))))))) Tryz.wide (by decide+kernel) (by simp) ?_
  refine J.T ?_
  refine J.q O (qAC O O) O O<|J.q O (qAB (j:=5) O O qA7 O qFx O) O O<|J.q O (qAB (j:=5) O O qKR O qRG O) O O<|J.q O (qAE 0 (v:= .map (some nB)) O O O isAgg93 O) O O<|J.q O (qAB (j:=0) O O qD0 O z9_ O) O O<|J.q O (qAE 1 (v:=Str s) O O O b9_ O) O O<|J.T ?_
  refine J.q O (qAC O O) O O<|J.q O (qAB (j:=5) O O qA7 O qFx O) O O<|J.q O (qAB (j:=5) O O qKR O qRG O) O O<|J.q O (qAE 0 (v:= .map (some nB)) O O O isAgg93 O) O O<|J.q O (qAB (j:=0) O O qD0 O z9_ O) O O<|J.q O (qAE 1 (v:=Str s) O O O b9_ O) O O<|J.q O ((qCT (l:=lbV nxt) O O O qRI u9_ zeroValue78 (m:=mX) (by simp) hmp.at).as (v':= .slice none 0 0) (by rw [qEO,hg0];rfl)) rfl rfl<|J.q rfl (qAB (j:=1) rfl rfl qD0 rfl qCR rfl) rfl rfl<|J.q rfl (qAd (vs:= [N64 (v),Str (o),Str (r),I (h),Str (p)]) rfl rfl qFy qCR (m:=blk g3 [Str s,N64 (v),Str (o),Str (r),I (h),Str (p),I ((i:Nat):Int),.slice A1 n1 c1,.slice A2 n2 c2] 48) (by simp) (qAL.blk0.sub 1 5) rfl) rfl rfl<|J.a9 rfl (qAF (l:= [.tmp 66]) (xs:= [[N64 (v),Str (o),Str (r),I (h),Str (p)]]) rfl rfl rfl rfl qFz el43 rfl (by decide) (by decide) (by simp)) rfl (by simp) λg67 _=>?_
  change J _ _ _ [_,_,_,_,_,_,_,_,blk g67 [N64 (v),Str (o),Str (r),I (h),Str (p)] 43] _
  refine J.d5 [0,1,2,3,4,5,6,7,8,9] [blk gs [v0,v1,v2,v3,v4,.map (some nB),v6,.slice cA cl.length cc,.slice oA no.length oc,v9,v10] 102,mX,NX,mC,mO,F,blk g3 [Str s,N64 (v),Str (o),Str (r),I (h),Str (p),I ((i:Nat):Int),.slice A1 n1 c1,.slice A2 n2 c2] 48,blk g5 [.int .u64 0,Str [],Str [],I 0,Str []] 43,blk g67 [N64 (v),Str (o),Str (r),I (h),Str (p)] 43,(λ_=>none)] O (by decide)<|J.a9 O (qAW (i:=9) (xs:= []) (m2:=blk g67 [N64 (v),Str (o),Str (r),I (h),Str (p)] 43) (ys:= [[N64 (v),Str (o),Str (r),I (h),Str (p)]]) O O O qFz qFz el43 O (qBU.nil (q:=True)) (by simp) ((qAk (q:=True) (xs:=qGe [(⟨v,o,r,h,p⟩:En)]) rfl (by intro x hx;rw [List.mem_singleton.1 hx];rfl)).sl) rfl (by omega) (by omega)) rfl (by simp) ?_
  rintro⟨A68,c68,m68⟩ h68
  try dsimp only at h68
  change J _ ((68,.slice A68 (0+1) c68)::_) _ [blk gs [v0,v1,v2,v3,v4,.map (some nB),v6,.slice cA cl.length cc,.slice oA no.length oc,v9,v10] 102,mX,NX,mC,mO,F,blk g3 [Str s,N64 (v),Str (o),Str (r),I (h),Str (p),I ((i:Nat):Int),.slice A1 n1 c1,.slice A2 n2 c2] 48,blk g5 [.int .u64 0,Str [],Str [],I 0,Str []] 43,blk g67 [N64 (v),Str (o),Str (r),I (h),Str (p)] 43,m68] _
  replace h68:Row m68 43 5 A68 (0+1) c68 (qGe ([(⟨v,o,r,h,p⟩:En)])):=h68
  refine J.d3 O (qCJ (i:=1) (s:=s) (u:= .slice A68 (0+1) c68) (l:=lbV nxt) O O O O qRI u9_ O hmp) O O O ?_
  rintro mu hmu
  change J _ _ _ [_,mu,_,_,_,_,_,_,_,_] _
  replace hmu:Fw.MapS mu nB (qKj (lbV nxt) s (.slice A68 [(⟨v,o,r,h,p⟩:En)].length c68)):=hmu
  rw [qHC (by rw [qEO,hg0];rfl),←qHV nxt ⟨s,A68,c68,[(⟨v,o,r,h,p⟩:En)],m68⟩] at hmu
  refine J.b9<|J.A (J.H hK13 ?_)
  refine J.G 0 3 8 ?_
  refine J.j λK14 hK14=>J.c8 [0,3,4,5,2,1,9,6] [blk gs [v0,v1,v2,v3,v4,.map (some nB),v6,.slice cA cl.length cc,.slice oA no.length oc,v9,v10] 102,mC,mO,F,NX,mu,m68,blk g3 [Str s,N64 (v),Str (o),Str (r),I (h),Str (p),I ((i:Nat):Int),.slice A1 n1 c1,.slice A2 n2 c2] 48] O (by decide)<|J.c1 [blk g3 [Str s,N64 (v),Str (o),Str (r),I (h),Str (p),I ((i:Nat):Int),.slice A1 n1 c1,.slice A2 n2 c2] 48,F] [] (.y 0 (.y 1 (.y 2 (.y 3 (.y 4 (.y 6 (.y 7 (.e 5 (.e 8 (.y 9 (.e 10 .nil))))))))))) Tryz.wide (by decide+kernel) (by simp) ?_
  refine J.T ?_
  refine J.T ?_
  refine J.q O ((qA5 (a:= [117]) (b:=(upB s (qA3 v o r h p) (sgB i ch pt))) O O O (by simp;omega)).as (v':=Str (117::(upB s (qA3 v o r h p) (sgB i ch pt)))) rfl) rfl rfl<|J.q rfl (qAB (j:=0) rfl rfl qD0 rfl z9_ rfl) rfl rfl<|J.q rfl (qAE 0 (v:=Str s) rfl rfl rfl b9_ rfl) rfl rfl<|J.q rfl (qAB (j:=1) rfl rfl qD0 rfl qCR rfl) rfl rfl<|J.q rfl (qAd (vs:= [N64 (v),Str (o),Str (r),I (h),Str (p)]) rfl rfl qFy qCR (m:=blk g3 [Str s,N64 (v),Str (o),Str (r),I (h),Str (p),I ((i:Nat):Int),.slice A1 n1 c1,.slice A2 n2 c2] 48) (by simp) (qAL.blk0.sub 1 5) rfl) rfl rfl<|J.a9 rfl (qAA rfl rfl ent24 (Ct.use0 (λF' hF=>qEw F' (hK.mo hF) s (by omega)))) rfl (by simp) λg74 _=>J.a9 rfl (qAA rfl rfl ent25 (Ct.use0 (λF' hF=>qDx F' (hK.mo hF) v o r h p (by omega) (by omega) (by omega) (by omega)))) rfl (by simp) λg77 _=>J.q rfl (qAM (l:= [(0,.tmp 74),(1,.tmp 77)]) (vs:= [Str (Sha.tagged 11 [s]),Str (qCA v o r h p)]) (places:= [(0,1),(1,1)]) (r:= [Str (Sha.tagged 11 [s]),Str (qCA v o r h p)]) rfl rfl rfl qJV zeroValue122 (λ_=>by kernel_rfl) rfl) rfl rfl<|J.a9 rfl (qAA rfl rfl ent43 (Ct.useA [blk gs [v0,v1,v2,v3,v4,.map (some nB),v6,.slice cA cl.length cc,.slice oA no.length oc,v9,v10] 102,mC,mO] [F,NX,mu,m68,blk g3 [Str s,N64 (v),Str (o),Str (r),I (h),Str (p),I ((i:Nat):Int),.slice A1 n1 c1,.slice A2 n2 c2] 48] (A':=λx:WtR=> [blk gs [v0,v1,v2,v3,v4,.map (some nB),v6,.slice x.cA (cl++ [(⟨Sha.tagged 11 [s],qCA v o r h p⟩:Chg)]).length x.cc,.slice x.oA (no++ [117::(upB s (qA3 v o r h p) (sgB i ch pt))]).length x.oc,v9,v10] 102,x.mC,x.mO]) (new:=λ_=> []) (λF' hF=>qKZ F' mC mO gs v0 v1 v2 v3 v4 (.map (some nB)) v6 v9 v10 cA cc cl hrc hcl oA oc no hro hno (117::(upB s (qA3 v o r h p) (sgB i ch pt))) (Sha.tagged 11 [s]) (qCA v o r h p)))) rfl (by simp) ?_
  rintro w79 ⟨hwc,hwo⟩
  change J _ _ _ [blk gs [v0,v1,v2,v3,v4,.map (some nB),v6,.slice w79.cA (cl++ [(⟨Sha.tagged 11 [s],qCA v o r h p⟩:Chg)]).length w79.cc,.slice w79.oA (no++ [117::(upB s (qA3 v o r h p) (sgB i ch pt))]).length w79.oc,v9,v10] 102,w79.mC,w79.mO,F,NX,mu,m68,blk g3 [Str s,N64 (v),Str (o),Str (r),I (h),Str (p),I ((i:Nat):Int),.slice A1 n1 c1,.slice A2 n2 c2] 48] _
  refine J.b9<|J.A (J.H hK14 ?_)
  refine J.c3 [] trivial<|J.g λK15 hK15=>J.b O<|J.c hK15<|J.u 4 ?_
  exact J.D<|J.M hw0 O (⟨mu,A68,c68,m68,w79⟩:SbR) O ⟨hmu,h68,hwc,hwo⟩ [0,5,4,1,2,3,6] O (by decide)
 refine J.a9 O (qAN (l:= [.int .u64 0,Str [],Str [],I 0,Str []]) O qUe O) O (by simp) λg5 _=>?_
 change J _ _ _ [blk gs [v0,v1,v2,v3,v4,.map (some nB),v6,.slice cA cl.length cc,.slice oA no.length oc,v9,v10] 102,mX,NX,mC,mO,F,blk g3 [Str s,N64 (v),Str (o),Str (r),I (h),Str (p),I ((i:Nat):Int),.slice A1 n1 c1,.slice A2 n2 c2] 48,blk g5 [.int .u64 0,Str [],Str [],I 0,Str []] 43] _
 refine J.a9 O (qAA O O ent40 (Ct.use0 (λF' hF=>qKb F' nB v6 nxt (hmp.at.mono (hF mX (by simp))) (hnx.at.mono (hF NX (by simp))) s (by rw [hgn];exact Nat.zero_le _) hgn))) rfl (by simp) λg19 _=>J.T ?_
 refine J.d9 (.agg #[.int .u64 0,Str [],Str [],I 0,Str []]) ?_
 refine J.f4 O (qAa (v:= .bool false) O O O) O O O ?_
 refine J.d3 O (qAI (i:=7) (l:= [.int .u64 0,Str [],Str [],I 0,Str []]) (vs:= [.int .u64 0,Str [],Str [],I 0,Str []]) O O O O O qCR O O) O O O λ_ _=>?_
 change J _ _ _ [_,_,_,_,_,_,_,_] _
 refine J.g2 O (YOp.eop (qB6 O O)) O O O O ?_
 intro _ _
 refine J.b9<|J.A (J.H hK4 ?_)
 refine J.O 0 3 5 6 ?_
 refine J.j λK16 hK16=>J.g λK17 hK17=>J.c9 6 isAgg48 qOx O O O O O<|J.b O<|J.c9 7 qFy qCR O O O O O<|J.k (qAA O O ent41 (Ct.use0 (λF' hF=>hJ F' (hF F (by simp))))) rfl λg25 _=>J.b rfl<|J.c hK17<|J.G 0 3 7 ?_
 refine J.g λK18 hK18=>J.b O<|J.f ((qAb O O O).no (by decide)) O<|J.c hK18<|J.O 0 3 7 27 ?_
 refine J.a5 ?_
 refine J.W hK16<|J.E 0 3 ?_
 refine J.g λK19 hK19=>J.c9 6 isAgg48 qOx O O O O O<|J.k (qAA O O ent42 (Ct.use0 (λF' hF=>qIP F' s (by first|assumption|omega) v o r h p (by first|assumption|omega) i A1 n1 c1 ch (hch.mono (hF F (by simp))) A2 n2 c2 pt (hpt.mono (hF F (by simp))) (by first|assumption|omega) (by first|assumption|omega) (by first|assumption|omega) (by first|assumption|omega) (by first|assumption|omega)))) rfl λg31 _=>J.p 5 rfl<|J.c hK19<|J.O 0 3 8 9 ?_
 refine J.j λK20 hK20=>J.V<|J.g λK21 hK21=>J.b O<|J.f ((qAb O O O).no (by decide)) O<|J.b O<|J.c hK21<|J.a0 0 3 8 9 34 ?_
 refine J.a5 ?_
 refine J.g λK22 hK22=>J.b O<|J.f (qAl u9_ O O) O<|J.f ((qAO O O O (by omega)).as (v':=I ((1+((upB (s) (qA3 (v) (o) (r) (h) (p)) (sgB (i) (ch) (pt))).length):Nat):Int)) (congrArg I (by omega))) O<|J.f ((qAz O O O).no (by omega)) O<|J.b O<|J.c hK22<|J.O 0 3 8 38 ?_
 refine J.a5 ?_
 refine J.g λK23 hK23=>J.b O<|J.f (qAC O O) O<|J.a3 8 qA7 qBf O O O O O<|J.f (qAE 0 (v:= .slice oA no.length oc) O O O qBo O) O<|J.f (qAP qAe O O) O<|J.f ((qBN O O O).no (by omega)) O<|J.b O<|J.c hK23<|J.O 0 3 8 43 ?_
 refine J.a5 ?_
 refine J.b7<|J.a6<|J.A (J.H hK20 ?_)
 refine J.G 0 3 8 ?_
 refine J.j λK24 hK24=>J.c1 [blk gs [v0,v1,v2,v3,v4,.map (some nB),v6,.slice cA cl.length cc,.slice oA no.length oc,v9,v10] 102,blk g3 [Str s,N64 (v),Str (o),Str (r),I (h),Str (p),I ((i:Nat):Int),.slice A1 n1 c1,.slice A2 n2 c2] 48,mX] [19] (.y 0 (.y 1 (.y 2 (.y 3 (.y 4 (.y 5 (.y 6 (.y 7 (.y 8 (.y 9 (.y 10 (.y 11 (.y 12 (.y 13 (.y 14 (.y 15 (.y 16 (.e 17 (.e 18 (.e 19 .nil)))))))))))))))))))) Tryz.wide (by decide+kernel) (by simp) ?_
 refine J.T ?_
 refine J.q O (qAC O O) O O<|J.q O (qAB (j:=5) O O qA7 O qFx O) O O<|J.q O (qAB (j:=5) O O qKR O qRG O) O O<|J.q O (qAE 0 (v:= .map (some nB)) O O O isAgg93 O) O O<|J.q O (qAB (j:=0) O O qD0 O z9_ O) O O<|J.q O (qAE 1 (v:=Str s) O O O b9_ O) O O<|J.T ?_
 refine J.q O (qAC O O) O O<|J.q O (qAB (j:=5) O O qA7 O qFx O) O O<|J.q O (qAB (j:=5) O O qKR O qRG O) O O<|J.q O (qAE 0 (v:= .map (some nB)) O O O isAgg93 O) O O<|J.q O (qAB (j:=0) O O qD0 O z9_ O) O O<|J.q O (qAE 1 (v:=Str s) O O O b9_ O) O O<|J.q O ((qCT (l:=lbV nxt) O O O qRI u9_ zeroValue78 (m:=mX) (by simp) hmp.at).as (v':= .slice none 0 0) (by rw [qEO,hg0];rfl)) rfl rfl<|J.q rfl (qAB (j:=1) rfl rfl qD0 rfl qCR rfl) rfl rfl<|J.q rfl (qAd (vs:= [N64 (v),Str (o),Str (r),I (h),Str (p)]) rfl rfl qFy qCR (m:=blk g3 [Str s,N64 (v),Str (o),Str (r),I (h),Str (p),I ((i:Nat):Int),.slice A1 n1 c1,.slice A2 n2 c2] 48) (by simp) (qAL.blk0.sub 1 5) rfl) rfl rfl<|J.a9 rfl (qAF (l:= [.tmp 66]) (xs:= [[N64 (v),Str (o),Str (r),I (h),Str (p)]]) rfl rfl rfl rfl qFz el43 rfl (by decide) (by decide) (by simp)) rfl (by simp) λg67 _=>?_
 change J _ _ _ [_,_,_,_,_,_,_,_,blk g67 [N64 (v),Str (o),Str (r),I (h),Str (p)] 43] _
 refine J.d5 [0,1,2,3,4,5,6,7,8,9] [blk gs [v0,v1,v2,v3,v4,.map (some nB),v6,.slice cA cl.length cc,.slice oA no.length oc,v9,v10] 102,mX,NX,mC,mO,F,blk g3 [Str s,N64 (v),Str (o),Str (r),I (h),Str (p),I ((i:Nat):Int),.slice A1 n1 c1,.slice A2 n2 c2] 48,blk g5 [.int .u64 0,Str [],Str [],I 0,Str []] 43,blk g67 [N64 (v),Str (o),Str (r),I (h),Str (p)] 43,(λ_=>none)] O (by decide)<|J.a9 O (qAW (i:=9) (xs:= []) (m2:=blk g67 [N64 (v),Str (o),Str (r),I (h),Str (p)] 43) (ys:= [[N64 (v),Str (o),Str (r),I (h),Str (p)]]) O O O qFz qFz el43 O (qBU.nil (q:=True)) (by simp) ((qAk (q:=True) (xs:=qGe [(⟨v,o,r,h,p⟩:En)]) rfl (by intro x hx;rw [List.mem_singleton.1 hx];rfl)).sl) rfl (by omega) (by omega)) rfl (by simp) ?_
 rintro⟨A68,c68,m68⟩ h68
 try dsimp only at h68
 change J _ ((68,.slice A68 (0+1) c68)::_) _ [blk gs [v0,v1,v2,v3,v4,.map (some nB),v6,.slice cA cl.length cc,.slice oA no.length oc,v9,v10] 102,mX,NX,mC,mO,F,blk g3 [Str s,N64 (v),Str (o),Str (r),I (h),Str (p),I ((i:Nat):Int),.slice A1 n1 c1,.slice A2 n2 c2] 48,blk g5 [.int .u64 0,Str [],Str [],I 0,Str []] 43,blk g67 [N64 (v),Str (o),Str (r),I (h),Str (p)] 43,m68] _
 replace h68:Row m68 43 5 A68 (0+1) c68 (qGe ([(⟨v,o,r,h,p⟩:En)])):=h68
 refine J.d3 O (qCJ (i:=1) (s:=s) (u:= .slice A68 (0+1) c68) (l:=lbV nxt) O O O O qRI u9_ O hmp) O O O ?_
 rintro mu hmu
 change J _ _ _ [_,mu,_,_,_,_,_,_,_,_] _
 replace hmu:Fw.MapS mu nB (qKj (lbV nxt) s (.slice A68 [(⟨v,o,r,h,p⟩:En)].length c68)):=hmu
 rw [qHC (by rw [qEO,hg0];rfl),←qHV nxt ⟨s,A68,c68,[(⟨v,o,r,h,p⟩:En)],m68⟩] at hmu
 refine J.b9<|J.A (J.H hK24 ?_)
 refine J.G 0 3 8 ?_
 refine J.j λK25 hK25=>J.c8 [0,3,4,5,2,1,9,6] [blk gs [v0,v1,v2,v3,v4,.map (some nB),v6,.slice cA cl.length cc,.slice oA no.length oc,v9,v10] 102,mC,mO,F,NX,mu,m68,blk g3 [Str s,N64 (v),Str (o),Str (r),I (h),Str (p),I ((i:Nat):Int),.slice A1 n1 c1,.slice A2 n2 c2] 48] O (by decide)<|J.c1 [blk g3 [Str s,N64 (v),Str (o),Str (r),I (h),Str (p),I ((i:Nat):Int),.slice A1 n1 c1,.slice A2 n2 c2] 48,F] [] (.y 0 (.y 1 (.y 2 (.y 3 (.y 4 (.y 6 (.y 7 (.e 5 (.e 8 (.y 9 (.e 10 .nil))))))))))) Tryz.wide (by decide+kernel) (by simp) ?_
 refine J.T ?_
 refine J.T ?_
 refine J.q O ((qA5 (a:= [117]) (b:=(upB s (qA3 v o r h p) (sgB i ch pt))) O O O (by simp;omega)).as (v':=Str (117::(upB s (qA3 v o r h p) (sgB i ch pt)))) rfl) rfl rfl<|J.q rfl (qAB (j:=0) rfl rfl qD0 rfl z9_ rfl) rfl rfl<|J.q rfl (qAE 0 (v:=Str s) rfl rfl rfl b9_ rfl) rfl rfl<|J.q rfl (qAB (j:=1) rfl rfl qD0 rfl qCR rfl) rfl rfl<|J.q rfl (qAd (vs:= [N64 (v),Str (o),Str (r),I (h),Str (p)]) rfl rfl qFy qCR (m:=blk g3 [Str s,N64 (v),Str (o),Str (r),I (h),Str (p),I ((i:Nat):Int),.slice A1 n1 c1,.slice A2 n2 c2] 48) (by simp) (qAL.blk0.sub 1 5) rfl) rfl rfl<|J.a9 rfl (qAA rfl rfl ent24 (Ct.use0 (λF' hF=>qEw F' (hK.mo hF) s (by omega)))) rfl (by simp) λg74 _=>J.a9 rfl (qAA rfl rfl ent25 (Ct.use0 (λF' hF=>qDx F' (hK.mo hF) v o r h p (by omega) (by omega) (by omega) (by omega)))) rfl (by simp) λg77 _=>J.q rfl (qAM (l:= [(0,.tmp 74),(1,.tmp 77)]) (vs:= [Str (Sha.tagged 11 [s]),Str (qCA v o r h p)]) (places:= [(0,1),(1,1)]) (r:= [Str (Sha.tagged 11 [s]),Str (qCA v o r h p)]) rfl rfl rfl qJV zeroValue122 (λ_=>by kernel_rfl) rfl) rfl rfl<|J.a9 rfl (qAA rfl rfl ent43 (Ct.useA [blk gs [v0,v1,v2,v3,v4,.map (some nB),v6,.slice cA cl.length cc,.slice oA no.length oc,v9,v10] 102,mC,mO] [F,NX,mu,m68,blk g3 [Str s,N64 (v),Str (o),Str (r),I (h),Str (p),I ((i:Nat):Int),.slice A1 n1 c1,.slice A2 n2 c2] 48] (A':=λx:WtR=> [blk gs [v0,v1,v2,v3,v4,.map (some nB),v6,.slice x.cA (cl++ [(⟨Sha.tagged 11 [s],qCA v o r h p⟩:Chg)]).length x.cc,.slice x.oA (no++ [117::(upB s (qA3 v o r h p) (sgB i ch pt))]).length x.oc,v9,v10] 102,x.mC,x.mO]) (new:=λ_=> []) (λF' hF=>qKZ F' mC mO gs v0 v1 v2 v3 v4 (.map (some nB)) v6 v9 v10 cA cc cl hrc hcl oA oc no hro hno (117::(upB s (qA3 v o r h p) (sgB i ch pt))) (Sha.tagged 11 [s]) (qCA v o r h p)))) rfl (by simp) ?_
 rintro w79 ⟨hwc,hwo⟩
 change J _ _ _ [blk gs [v0,v1,v2,v3,v4,.map (some nB),v6,.slice w79.cA (cl++ [(⟨Sha.tagged 11 [s],qCA v o r h p⟩:Chg)]).length w79.cc,.slice w79.oA (no++ [117::(upB s (qA3 v o r h p) (sgB i ch pt))]).length w79.oc,v9,v10] 102,w79.mC,w79.mO,F,NX,mu,m68,blk g3 [Str s,N64 (v),Str (o),Str (r),I (h),Str (p),I ((i:Nat):Int),.slice A1 n1 c1,.slice A2 n2 c2] 48] _
 refine J.b9<|J.A (J.H hK25 ?_)
 refine J.c3 [] trivial<|J.g λK26 hK26=>J.b O<|J.c hK26<|J.u 4 ?_
 exact J.D<|J.M hw0 O (⟨mu,A68,c68,m68,w79⟩:SbR) O ⟨hmu,h68,hwc,hwo⟩ [0,5,4,1,2,3,6] O (by decide)
theorem ent28:qAD prog 28:=qAD.of func28 rfl (by kernel_rfl)
theorem ent29:qAD prog 29:=qAD.of func29 rfl (by kernel_rfl)
theorem ent30:qAD prog 30:=qAD.of func30 rfl (by kernel_rfl)
theorem ent31:qAD prog 31:=qAD.of func31 rfl (by kernel_rfl)
theorem ent34:qAD prog 34:=qAD.of func34 rfl (by kernel_rfl)
theorem ent35:qAD prog 35:=qAD.of func35 rfl (by kernel_rfl)
theorem ent36:qAD prog 36:=qAD.of func36 rfl (by kernel_rfl)
abbrev aX(l:List Aud)(i:Nat):Aud:=l.getD i qAq
structure qTq (gl:List Aud):Prop where
 len:gl.length≤15
 sm: ∀x∈gl,x.nm.length≤1000000∧x.op.length≤1048576∧x.rt.length≤1048576
 ok: ∀i,i<gl.length→qKH (gl.take i) (aX gl i).nm (aX gl i).op (aX gl i).rt (aX gl i).ht=0
theorem qTq.at{gl:List Aud}(h:qTq gl){i:Nat}(hi:i<gl.length):(aX gl i).nm.length≤1000000∧(aX gl i).op.length≤1048576∧(aX gl i).rt.length≤1048576:=by
 refine h.sm _ ?_
 show gl.getD i qAq∈gl
 rw [List.getD_eq_getElem?_getD,List.getElem?_eq_getElem hi];exact List.getElem_mem hi
theorem qTq.step{gl:List Aud}(h:qTq gl){i:Nat}(hi:i<gl.length):qOr (gl.take i) (aX gl i).nm (aX gl i).op (aX gl i).rt (aX gl i).ht=gl.take (i+1):=by
 unfold qOr
 rw [if_pos (h.ok i hi),qDB gl i qAq hi]
theorem qMF(x:Aud):(qRi x).length≤16:=by
 unfold qRi
 split
 · rw [Sha.tagged_length];exact Nat.le_refl _
 · exact Nat.zero_le _
theorem qFc(l:List Aud): ∀{n:Nat},n≤15→qCI (qFd [] l n)
 |0,_=>⟨List.Pairwise.nil,(λp h=>by cases h),(λp h=>by cases h),Nat.zero_le _⟩
 |n+1,h=>by
  have h2:=qHX l (n:=n) (by omega)
  exact(qFc l (by omega)).put (qEF n) (Nat.le_trans (qMF _) (by decide)) (by omega)
structure NwR where
 gs:Nat
 gA:Nat
 gR:Nat
 mR:Hp
 gt:Nat
 mt:Hp
 cp:CpR
 ad:AdR
 gb:Nat
structure NwP (gl:List Aud) (dp:Nat) (x:NwR):Prop where
 ro:qO2 x.mR x.gR gl
 tr:qEh x.mt x.gt (qFd [] gl gl.length)
 cp:CpP [] gl x.cp
 ad:AdP qAh dp gl.length x.gt [] [] (qFd [] gl gl.length) x.ad
theorem qJY(F:Hp)(gs:Nat)(A:Option Addr)(c:Nat):Ct prog 35 [Ptr gs,.slice A 0 c] [F] (λ_:Unit=> .bool true) (λ_=>True) (λ_=> [F]):=by
 refine Ct.walk func35 rfl ntmps35 rfl (λw0 hw0=>?_)
 change J _ [(0,_),(1,_)] _ _ _
 refine J.g λK1 hK1=>J.b O<|J.c hK1<|J.E 0 1 ?_
 refine J.g λK2 hK2=>J.b O<|J.c hK2<|J.G 0 1 5 ?_
 refine J.j λK3 hK3=>J.g λK4 hK4=>J.b O<|J.f (qAP qAe O O) O<|J.b O<|J.c hK4<|J.a0 0 5 13 14 15 ?_
 refine J.V<|J.b6 (X:=Nat×Value) (λζ=> [(0,Ptr gs),(5,ζ.2),(13,.slice A 0 c),(14,I ((0:Nat):Int)),(15,I ((ζ.1:Nat):Int))]) (λζ=> [F]) (λζ=>ζ.1=0) (λζ=>0) (0,.slice none 0 0) (O) ⟨O,O,O,O,O,trivial⟩ (λ_ h=>h) ?_
 rintro⟨i,v5⟩ hi I0 hI0
 dsimp only at hi⊢
 refine J.g λK5 hK5=>J.f ((qAT O O O).no (by omega)) O<|J.c hK5<|J.b8 0 5 13 14 15 16 ?_
 refine J.j λK6 hK6=>J.a5 ?_
 refine J.b4<|J.a1<|J.a1<|J.b5 ?_
 refine J.A (J.H hK3 ?_)
 refine J.c3 [] trivial<|J.g λK7 hK7=>J.b O<|J.c hK7<|J.u 4 ?_
 exact J.D<|J.M hw0 O () O trivial [0] O (by decide)
theorem qR7(F md:Hp)(hK:KF F)(hA:qAL F ⟨2,0,none⟩ qBT)(hT:qBx F)(gd n:Nat)(hb:Dsk md gd (Dk.new n) none 0)(hn4:4≤n)(hn:n≤1000)(first count:Nat)(h8:8≤count)(hfc:first+count≤n)(dp:Nat)(hdp:dp≤4)(GA:Option Addr)(gc:Nat)(gl:List Aud)(hgl:Sl F 4 GA gl.length gc (qBK gl))(hg:qTq gl):Ct prog 7 [Ptr gd,I ((first:Nat):Int),I ((count:Nat):Int),I ((dp:Nat):Int),.slice GA gl.length gc] [md,F] (λx:NwR=> .tuple #[Ptr x.gs,I ((0:Nat):Int)]) (NwP gl dp) (λx=> [md,F,qAK x.gA (.map #[] 0),x.mR,x.mt,blk x.gs [I ((dp:Nat):Int),Ptr x.gb,.bool false,.map (some x.gA),Ptr x.gR,.map (some x.cp.g),Ptr x.cp.r,.slice none 0 0,.slice none 0 0,.slice x.ad.tA (([]:List Nat)++ [x.gt]).length x.ad.tc,.slice x.ad.hA (([]:List RhD)++ [adH qAh dp gl.length [] (qFd [] gl gl.length) x.ad.nA x.ad.nc]).length x.ad.hc] 102,x.cp.mm,x.cp.M,x.cp.mr,x.ad.mT,x.ad.mH,x.ad.mN,(CbR.blk x.gb ⟨gd,first,count/2,first,0,0,none,0,[],Dk.new n⟩)]):=by
 obtain ⟨hp1,hp16⟩:=qIN hdp
 have hcnt:cnt ((dp:Nat):Int)=2^dp:=qDd hdp
 have hg15:=hg.len
 obtain ⟨dA,dc,dB,de,hdc,hdL,hdW⟩:=hb.see
 have hll:=qHX gl (n:=gl.length) hg15
 have hlast:(Dk.new n).last.length=n:=by unfold Dk.new;exact List.length_replicate
 refine Ct.walk func7 rfl ntmps7 rfl (λw0 hw0=>?_)
 change J _ [(0,_),(1,_),(2,_),(3,_),(4,_)] _ _ _
 refine J.g λK1 hK1=>J.p 2 O<|J.c hK1<|J.a0 0 1 2 3 4 ?_
 refine J.j λK2 hK2=>J.g λK3 hK3=>J.b O<|J.k (qAA O O ent27 (Ct.use0 (λF' hF=>by have:=qCC F' ((dp:Nat):Int);rw [hcnt] at this;exact this))) rfl λg21 _=>J.f ((qAY rfl rfl rfl).no (by omega)) rfl<|J.c hK3<|J.b8 0 1 2 3 4 22 ?_
 refine J.a5 ?_
 refine J.W hK2<|J.a0 0 1 2 3 4 ?_
 refine J.g λK4 hK4=>J.b O<|J.k (qEH O) O ?_
 rintro g24 _
 change J _ ((24,.map (some g24))::_) _ [md,F,qAK g24 (.map #[] 0)] _
 refine J.k (qAA O O ent28 (Ct.use (new:=λx:Nat×Hp=> [x.2]) (λF' hF=>Ct.swap2 (qSI F')))) O ?_
 rintro⟨g25,m25⟩ h25
 try dsimp only at h25
 change J _ ((25,Ptr g25)::_) _ [_,_,_,m25] _
 refine J.f (qAM (l:= [(0,.tmp 24),(1,.tmp 25)]) (vs:= [.map (some g24),Ptr g25]) (places:= [(0,1),(1,1)]) (r:= [.map (some g24),Ptr g25]) O O O qKR zeroValue97 (λ_=>by kernel_rfl) O) O<|J.f (qAM (l:= [(0,.tmp 23),(3,.tmp 26)]) (vs:= [I ((dp:Nat):Int),.agg #[.map (some g24),Ptr g25]]) (places:= [(0,1),(1,1),(2,1),(3,2),(5,2),(7,1),(8,1),(9,1),(10,1)]) (r:= [I ((dp:Nat):Int),.pointer none,.bool false,.map (some g24),Ptr g25,.map none,.pointer none,.slice none 0 0,.slice none 0 0,.slice none 0 0,.slice none 0 0]) O O O qA7 zeroValue102 (λ_=>by kernel_rfl) (by kernel_rfl)) O<|J.k (qAi (l:= [I ((dp:Nat):Int),.pointer none,.bool false,.map (some g24),Ptr g25,.map none,.pointer none,.slice none 0 0,.slice none 0 0,.slice none 0 0,.slice none 0 0]) O O O) O λg28 _=>?_
 change J _ _ _ [_,_,_,_,blk g28 [I ((dp:Nat):Int),.pointer none,.bool false,.map (some g24),Ptr g25,.map none,.pointer none,.slice none 0 0,.slice none 0 0,.slice none 0 0,.slice none 0 0] 102] _
 refine J.b O<|J.c hK4<|J.a0 0 1 2 4 12 ?_
 refine J.j λK5 hK5=>J.g λK6 hK6=>J.b O<|J.f (qAP qGw O O) O<|J.b O<|J.c hK6<|J.c2 0 1 2 12 29 30 31 ?_
 refine J.V<|J.b6 (X:=Nat×Hp) (λζ=> [(0,Ptr gd),(1,I ((first:Nat):Int)),(2,I ((count:Nat):Int)),(12,Ptr g28),(29,.slice GA gl.length gc),(30,I ((gl.length:Nat):Int)),(31,I ((ζ.1:Nat):Int))]) (λζ=> [ζ.2,md,F,qAK g24 (.map #[] 0),blk g28 [I ((dp:Nat):Int),.pointer none,.bool false,.map (some g24),Ptr g25,.map none,.pointer none,.slice none 0 0,.slice none 0 0,.slice none 0 0,.slice none 0 0] 102]) (λζ=>ζ.1≤gl.length∧qO2 ζ.2 g25 (gl.take ζ.1)) (λζ=>gl.length-ζ.1) (0,m25) (⟨Nat.zero_le _,h25⟩) ⟨O,O,O,O,O,O,O,trivial⟩ (λ_ h=>h.pick [3,0,1,2,4] (by decide)) ?_
 rintro⟨i,mo⟩ ⟨hi,hro⟩ I0 hI0
 dsimp only at hi hro⊢
 refine J.g λK7 hK7=>J.f (qAT O O O) O<|J.c hK7<|J.d1 0 1 2 12 29 30 31 32 ?_
 refine J.j λK8 hK8=>J.a2 O (λh32=>?_) (λh32=>?_)
 ·
  refine J.W hK8<|J.c2 0 1 2 12 29 30 31 ?_
  refine J.j λK9 hK9=>J.V<|J.j λK10 hK10=>?_
  obtain ⟨hx1,hx2,hx3⟩:=hg.at (i:=i) (by omega)
  have htk:(gl.take i).length≤1000000:=by rw [List.length_take];omega
  refine J.L<|J.f (qAH (i:=i) O O O qGw qJJ hgl (by omega)) O<|J.f (qAd (vs:= [Str ((gl.getD i qAq).nm),Str ((gl.getD i qAq).op),Str ((gl.getD i qAq).rt),I ((gl.getD i qAq).ht)]) O O isAgg34 qJJ (m:=F) (by simp) (hgl.elem (qFu (by omega))) rfl) rfl<|J.k (qAN (l:= [Str [],Str [],Str [],I 0]) rfl qUf rfl) rfl λg14 _=>?_
  change J _ _ _ [mo,md,F,qAK g24 (.map #[] 0),blk g28 [I ((dp:Nat):Int),.pointer none,.bool false,.map (some g24),Ptr g25,.map none,.pointer none,.slice none 0 0,.slice none 0 0,.slice none 0 0,.slice none 0 0] 102,blk g14 [Str [],Str [],Str [],I 0] 34] _
  refine J.b0 (qAI (i:=5) (l:= [Str [],Str [],Str [],I 0]) (vs:= [Str ((gl.getD i qAq).nm),Str ((gl.getD i qAq).op),Str ((gl.getD i qAq).rt),I ((gl.getD i qAq).ht)]) O O O O O qJJ O O) O O λ_ _=>?_
  change J _ _ _ [_,_,_,_,_,blk g14 [Str ((gl.getD i qAq).nm),Str ((gl.getD i qAq).op),Str ((gl.getD i qAq).rt),I ((gl.getD i qAq).ht)] 34] _
  refine J.c hK10<|J.d1 0 1 2 12 14 29 30 31 ?_
  refine J.j λK11 hK11=>J.c1 [blk g28 [I ((dp:Nat):Int),.pointer none,.bool false,.map (some g24),Ptr g25,.map none,.pointer none,.slice none 0 0,.slice none 0 0,.slice none 0 0,.slice none 0 0] 102,blk g14 [Str ((gl.getD i qAq).nm),Str ((gl.getD i qAq).op),Str ((gl.getD i qAq).rt),I ((gl.getD i qAq).ht)] 34] [] (.y 0 (.y 1 (.y 2 (.y 3 (.y 4 (.y 5 (.e 6 (.y 7 (.y 8 (.y 9 (.y 10 (.y 11 .nil)))))))))))) Tryz.wide (by decide+kernel) (by simp) ?_
  refine J.T ?_
  refine J.q O (qAC O O) O O<|J.q O (qAB (j:=3) O O qA7 O qFx O) O O<|J.q O (qAB (j:=4) O O qKR O sizeOf94 O) O O<|J.q O (qAE 0 (v:=Ptr g25) O O O isAgg94 O) O O<|J.q O (qAy 1 O O O isAgg34 qJJ O) O O<|J.a9 O (qAA O O ent29 (Ct.use1 0 (m':=λx:Hp=>x) (new:=λ_=> []) O (λF' hF=>qST F' mo g25 (gl.take i) hro (hA.mono (hF F (by simp))) (hT.mono (hF F (by simp))) ((gl.getD i qAq).nm) ((gl.getD i qAq).op) ((gl.getD i qAq).rt) ((gl.getD i qAq).ht) (by first|omega|exact Nat.le_of_ble_eq_true rfl|(rw [List.length_map];omega)) (by first|omega|exact Nat.le_of_ble_eq_true rfl|(rw [List.length_map];omega)) (by first|omega|exact Nat.le_of_ble_eq_true rfl|(rw [List.length_map];omega)) (by first|omega|exact Nat.le_of_ble_eq_true rfl|(rw [List.length_map];omega))))) rfl (by simp) ?_
  rintro m42 h42
  change J _ ((42,.tuple #[I (qFv (gl.take i) ((gl.getD i qAq).nm) ((gl.getD i qAq).op) ((gl.getD i qAq).rt) ((gl.getD i qAq).ht)),I (qKH (gl.take i) ((gl.getD i qAq).nm) ((gl.getD i qAq).op) ((gl.getD i qAq).rt) ((gl.getD i qAq).ht))])::_) _ [m42,_,_,_,_,_] _
  rw [hg.ok i (by omega)]
  replace h42:=(congrArg (qO2 m42 g25) (hg.step (i:=i) (by omega))).mp h42
  refine J.T ?_
  refine J.d9 (I (qFv (gl.take i) (aX gl i).nm (aX gl i).op (aX gl i).rt (aX gl i).ht)) ?_
  refine J.d9 (I ((0:Nat):Int)) ?_
  refine J.c6 ?_
  refine J.c6 ?_
  refine J.b9<|J.A (J.H hK11 ?_)
  refine J.d1 0 1 2 12 16 29 30 31 ?_
  refine J.g λK12 hK12=>J.b O<|J.f ((qAb O O O).no (by decide)) O<|J.c hK12<|J.e1 0 1 2 12 16 29 30 31 46 ?_
  refine J.a5 ?_
  refine J.b7<|J.a6<|J.A (J.H hK9 ?_)
  refine J.c2 0 1 2 12 29 30 31 ?_
  exact J.L<|J.f ((qAO O O O (by omega)).nat (i+1) (by omega)) O<|J.b O<|J.a7<|J.A<|J.a8 (i+1,m42) (λη (hη:_∧gl.length-η.1<gl.length-i)=>hI0 η hη.1 hη.2) ⟨⟨by dsimp only;omega,h42⟩,by dsimp only;omega⟩ ⟨O,O,O,O,O,O,O,trivial⟩ (λ_ h=>h.pick [0,1,2,3,4] (by decide))
 refine J.b4<|J.a1<|J.a1<|J.b5 ?_
 refine J.A (J.H hK5 ?_)
 refine J.O 0 1 2 12 ?_
 refine J.j λK13 hK13=>?_
 obtain rfl:i=gl.length:=by omega
 rw [List.take_length] at hro
 obtain ⟨A3,n3,c3,hcA,hsA,_⟩:=hro.see
 obtain rfl:gl.length=n3:=by have:=hsA.1;rw [qFt] at this;exact this
 refine J.L<|J.k (qAA O O ent30 (Ct.use (new:=λx:Nat×Hp=> [x.2]) (λF' hF=>Ct.swap2 (qRv F')))) O ?_
 rintro⟨g49,m49⟩ h49
 try dsimp only at h49
 change J _ ((49,Ptr g49)::_) _ [mo,md,F,qAK g24 (.map #[] 0),blk g28 [I ((dp:Nat):Int),.pointer none,.bool false,.map (some g24),Ptr g25,.map none,.pointer none,.slice none 0 0,.slice none 0 0,.slice none 0 0,.slice none 0 0] 102,m49] _
 refine J.b O<|J.c hK13<|J.a0 0 1 2 12 17 ?_
 refine J.g λK14 hK14=>J.b O<|J.f (qAC O O) O<|J.a3 3 qA7 qFx O O O O O<|J.a3 4 qKR sizeOf94 O O O O O<|J.f (qAE 4 (v:=Ptr g25) O O O isAgg94 O) O<|J.b O<|J.k (qAA O O ent31 (Ct.use1 5 (m':=λx:Hp=>x) (new:=λ_=> []) O (λF' hF=>qSK F' m49 (hK.mo hF) g25 A3 gl.length c3 gl (hsA.mono (hF mo (by simp))) (by omega) (hcA.mono (hF mo (by simp))) g49 [] h49 hg.sm (by omega)))) rfl ?_
 rintro m56 h56
 change J _ _ _ [_,_,_,_,_,m56] _
 refine J.c hK14<|J.a0 0 1 2 12 17 ?_
 refine J.g λK15 hK15=>J.p 2 O<|J.f (qAC O O) O<|J.a3 3 qA7 qFx O O O O O<|J.f (qAd (vs:= [.map (some g24),Ptr g25]) O O isAgg97 qFx (m:=blk g28 [I ((dp:Nat):Int),.pointer none,.bool false,.map (some g24),Ptr g25,.map none,.pointer none,.slice none 0 0,.slice none 0 0,.slice none 0 0,.slice none 0 0] 102) (by simp) (qAL.blk0.sub 3 2) rfl) rfl<|J.k (qAA rfl rfl ent32 (Ct.use (new:=λx:CpR=> [x.mm,x.M,x.mr]) (λF' hF=>qKc F' g24 g25 [] ((MapS.nil g24).at.mono (hF (qAK g24 (.map #[] 0)) (by simp))) (λ_ h=>by cases h) List.nodup_nil (λ_ h=>by cases h) A3 gl.length c3 gl (hcA.mono (hF mo (by simp))) (hsA.mono (hF mo (by simp))) (by omega)))) rfl ?_
 rintro r62 hp62
 change J _ ((62,.agg #[.map (some r62.g),Ptr r62.r])::_) _ [_,_,_,_,_,_,r62.mm,r62.M,r62.mr] _
 refine J.f (qAC O O) O<|J.a3 5 qA7 qFx O O O O O<|J.b0 (qAZ (i:=4) (l:= [I ((dp:Nat):Int),.pointer none,.bool false,.map (some g24),Ptr g25,.map none,.pointer none,.slice none 0 0,.slice none 0 0,.slice none 0 0,.slice none 0 0]) (vs:= [.map (some r62.g),Ptr r62.r]) O O O O O qFx O (by simp)) rfl rfl λ_ _=>?_
 change J _ _ _ [_,_,_,_,blk g28 [I ((dp:Nat):Int),.pointer none,.bool false,.map (some g24),Ptr g25,.map (some r62.g),Ptr r62.r,.slice none 0 0,.slice none 0 0,.slice none 0 0,.slice none 0 0] 102,_,_,_,_] _
 refine J.c hK15<|J.a0 0 1 2 12 17 ?_
 refine J.j λK16 hK16=>?_
 obtain ⟨A4,n4,c4,hcB,hsB,_⟩:=hp62.ro.see
 obtain rfl:gl.length=n4:=by have:=hsB.1;rw [qFt] at this;exact this
 refine J.d5 [0,1,2,3,4,5,6,7,8,9] [mo,md,F,qAK g24 (.map #[] 0),blk g28 [I ((dp:Nat):Int),.pointer none,.bool false,.map (some g24),Ptr g25,.map (some r62.g),Ptr r62.r,.slice none 0 0,.slice none 0 0,.slice none 0 0,.slice none 0 0] 102,m56,r62.mm,r62.M,r62.mr,(λ_=>none)] O (by decide)<|J.d5 [0,1,2,3,4,5,6,7,8,9,10] [mo,md,F,qAK g24 (.map #[] 0),blk g28 [I ((dp:Nat):Int),.pointer none,.bool false,.map (some g24),Ptr g25,.map (some r62.g),Ptr r62.r,.slice none 0 0,.slice none 0 0,.slice none 0 0,.slice none 0 0] 102,m56,r62.mm,r62.M,r62.mr,(λ_=>none),(λ_=>none)] O (by decide)<|J.c8 [4,9,10,1,2,3,0,5,6,7,8] [blk g28 [I ((dp:Nat):Int),.pointer none,.bool false,.map (some g24),Ptr g25,.map (some r62.g),Ptr r62.r,.slice none 0 0,.slice none 0 0,.slice none 0 0,.slice none 0 0] 102,(λ_=>none),(λ_=>none),md,F,qAK g24 (.map #[] 0),mo,m56,r62.mm,r62.M,r62.mr] O (by decide)<|J.L<|J.p 2 O<|J.k (qAA O O ent33 (Ct.useA [blk g28 [I ((dp:Nat):Int),.pointer none,.bool false,.map (some g24),Ptr g25,.map (some r62.g),Ptr r62.r,.slice none 0 0,.slice none 0 0,.slice none 0 0,.slice none 0 0] 102,(λ_=>none),(λ_=>none)] [md,F,qAK g24 (.map #[] 0),mo,m56,r62.mm,r62.M,r62.mr] (A':=λx:AdR=> [blk g28 [I ((dp:Nat):Int),.pointer none,.bool false,.map (some g24),Ptr g25,.map (some r62.g),Ptr r62.r,.slice none 0 0,.slice none 0 0,.slice x.tA (([]:List Nat)++ [g49]).length x.tc,.slice x.hA (([]:List RhD)++ [adH qAh dp gl.length [] (qFd [] gl gl.length) x.nA x.nc]).length x.hc] 102,x.mT,x.mH]) (new:=λx=> [x.mN]) (λF' hF=>qM2 F' (λ_=>none) (λ_=>none) (hK.mo hF) g28 dp r62.r (.pointer none) (.bool false) (.map (some g24)) (Ptr g25) (.map (some r62.g)) (.slice none 0 0) (.slice none 0 0) none 0 [] qBU.nil (Nat.zero_le _) none 0 [] qBU.nil (Nat.zero_le _) hdp g49 (qFd [] gl gl.length) (h56.at.mono (hF m56 (by simp))) (qFc gl hg15) A4 gl.length c4 gl (hcB.mono (hF r62.mr (by simp))) (hsB.mono (hF r62.mr (by simp))) qAh))) rfl ?_
 rintro r67 hp67
 change J _ _ _ [blk g28 [I ((dp:Nat):Int),.pointer none,.bool false,.map (some g24),Ptr g25,.map (some r62.g),Ptr r62.r,.slice none 0 0,.slice none 0 0,.slice r67.tA (([]:List Nat)++ [g49]).length r67.tc,.slice r67.hA (([]:List RhD)++ [adH qAh dp gl.length [] (qFd [] gl gl.length) r67.nA r67.nc]).length r67.hc] 102,r67.mT,r67.mH,md,F,qAK g24 (.map #[] 0),mo,m56,r62.mm,r62.M,r62.mr,r67.mN] _
 refine J.c hK16<|J.O 0 1 2 12 ?_
 refine J.g λK17 hK17=>J.p 3 O<|J.k (qAA O O ent34 (Ct.use (new:=λg:Nat=> [(CbR.blk g ⟨gd,first,count/2,first,0,0,none,0,[],Dk.new n⟩)]) (λF' hF=>qLu F' (hK.mo hF) gd (Dk.new n) dA dc dB de none 0 (hdc.mono (hF md (by simp))) (hdL.mono (hF md (by simp))) (hdW.mono (hF md (by simp))) (by omega) (Nat.zero_le _) first count h8 (by omega) qQG))) rfl ?_
 rintro g72 _
 change J _ ((72,.tuple #[Ptr g72,I ((0:Nat):Int)])::_) _ [_,_,_,_,_,_,_,_,_,_,_,_,(CbR.blk g72 ⟨gd,first,count/2,first,0,0,none,0,[],Dk.new n⟩)] _
 refine J.p 5 O<|J.c hK17<|J.G 12 18 19 ?_
 refine J.j λK18 hK18=>J.g λK19 hK19=>J.b O<|J.f ((qAb O O O).no (by decide)) O<|J.c hK19<|J.O 12 18 19 76 ?_
 refine J.a5 ?_
 refine J.W hK18<|J.E 12 18 ?_
 refine J.g λK20 hK20=>J.p 2 O<|J.f (qAC O O) O<|J.a3 1 qA7 sizeOf98 O O O O O<|J.b0 (qAZ (i:=0) (l:= [I ((dp:Nat):Int),.pointer none,.bool false,.map (some g24),Ptr g25,.map (some r62.g),Ptr r62.r,.slice none 0 0,.slice none 0 0,.slice r67.tA (([]:List Nat)++ [g49]).length r67.tc,.slice r67.hA (([]:List RhD)++ [adH qAh dp gl.length [] (qFd [] gl gl.length) r67.nA r67.nc]).length r67.hc]) (vs:= [Ptr g72]) O O O O O sizeOf98 O (by simp)) rfl rfl λ_ _=>?_
 change J _ _ _ [blk g28 [I ((dp:Nat):Int),Ptr g72,.bool false,.map (some g24),Ptr g25,.map (some r62.g),Ptr r62.r,.slice none 0 0,.slice none 0 0,.slice r67.tA (([]:List Nat)++ [g49]).length r67.tc,.slice r67.hA (([]:List RhD)++ [adH qAh dp gl.length [] (qFd [] gl gl.length) r67.nA r67.nc]).length r67.hc] 102,_,_,_,_,_,_,_,_,_,_,_,_] _
 refine J.c hK20<|J.E 12 18 ?_
 refine J.j λK21 hK21=>J.g λK22 hK22=>J.p 2 O<|J.k (qAA O O ent36 (Ct.use (new:=λx:Option Addr×Nat×Hp=> [x.2.2]) (λF' hF=>qLj F' g72 gd ((first:Nat):Int) (count/2) ((first:Nat):Int) 0 ((0:Nat):Int) none 0 0 false (qAL.blk0.mono (hF (CbR.blk g72 ⟨gd,first,count/2,first,0,0,none,0,[],Dk.new n⟩) (by simp))) [] rfl Sl.nil (Nat.zero_le _)))) rfl ?_
 rintro⟨A84,c84,m84⟩ h84
 try dsimp only at h84
 change J _ ((84,.slice A84 0 c84)::_) _ [_,_,_,_,_,_,_,_,_,_,_,_,_,m84] _
 refine J.k (qAA O O ent35 (Ct.use0 (λF' hF=>qJY F' g28 A84 c84))) O λg85 _=>J.f ((qAt O O).as (v':= .bool false) O) O<|J.c hK22<|J.E 12 86 ?_
 refine J.a5 ?_
 refine J.W hK21<|J.u 12 ?_
 refine J.g λK23 hK23=>J.p 3 O<|J.c hK23<|J.E 10 11 ?_
 exact J.D<|J.b2 hw0 (λ_ _ h=>h) (qB2 O O O) (qAn (⟨g28,g24,g25,mo,g49,m56,r62,r67,g72⟩:NwR) O ⟨hro,h56,hp62,hp67⟩ [3,4,5,6,7,0,8,9,10,1,2,11,12] O (by decide))
end Go.Proofs.YtllnfioplpipiaaGreatDoor
