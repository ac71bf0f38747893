/- A part of the proof. -/
import Derived.Test.YtfldiegfenndjaaGreatDoorTopAoG8
import Derived.Test.YtfldiegfenndjaaGreatDoorTopAoG36
import Derived.Test.YtfldiegfenndjaaGreatDoorTopAoG37
set_option linter.unusedSimpArgs false
set_option linter.unusedVariables false
namespace Go.Proofs.YtfldiegfenndjaaGreatDoor
open Go Go.Fw Go.Proofs.Tryz
set_option maxRecDepth 100000
set_option maxHeartbeats 1000000
theorem ent16:qAE prog 16:=qAE.of func16 rfl (by kernel_rfl)
theorem ent17:qAE prog 17:=qAE.of func17 rfl (by kernel_rfl)
theorem ent18:qAE prog 18:=qAE.of func18 rfl (by kernel_rfl)
theorem ent19:qAE prog 19:=qAE.of func19 rfl (by kernel_rfl)
theorem ent20:qAE prog 20:=qAE.of func20 rfl (by kernel_rfl)
theorem ent26:qAE prog 26:=qAE.of func26 rfl (by kernel_rfl)
theorem qJh(F:Hp)(hK:KF F):Ct prog 15 [] [F] (λ_:Unit=> .bool true) (λ_=>True) (λ_=> [F]):=by
 have hDG:DG 0 40 (λ_=>zS) (Dk.new 40) 0:=DG.new (by decide) (by decide) (by decide)
 have hX2:hst (Dk.new 40) (0+8) ((40-8)/2) 2=sX0 8:=qSr (n:=40) (first:=8) (size:=16) (by decide) (by decide)
 have hnm:3<64:=by decide
 refine Ct.walk func15 rfl ntmps15 rfl (λw0 hw0=>?_)
 change J _ [] _ _ _
 refine J.g λK1 hK1=>J.b V<|J.c hK1<|J.d0 [] trivial<|J.g λK2 hK2=>J.q (qAB V V ent16 (Ct.use (new:=λx:Nat×Hp=> [x.2]) (λF' _=>qIp F' 40 (by decide) (by decide)))) V ?_
 rintro⟨gd,md⟩ hb13
 try dsimp only at hb13
 change J _ ((13,.tuple #[Ptr gd,I 0])::_) _ [F,md] _
 have hbD:=hb13
 obtain ⟨A,c,B,e,hc,hsL,hsW⟩:=hb13.see
 refine J.j 5 V<|J.c hK2<|J.E 1 2 ?_
 refine J.g λK3 hK3=>J.b V<|J.q (qAB V V ent17 (Ct.use (new:=λr:AoR=> [r.kk,blk r.gb (bkC gd 0 (8/2) (sX0 0) r.Ab r.cb false) 223,r.mb,blk r.gs [Ptr r.gk,Ptr r.gb,I ((0:Nat):Int)] 216,blk r.gq (bkC gd 8 16 (sX0 8) r.Aq r.cq false) 223,r.mq,qAM r.gm (.map #[] 0),blk r.ga [Ptr r.gs,I ((2^1:Nat):Int),Ptr r.gq,.map (some r.gm)] 145]) (λF' hF=>qQT F' (hK.mo hF) gd (Dk.new 40) 0 40 0 (λ_=>zS) hDG (by decide) V (by decide) (by decide) A c B e none 0 (hc.mono (hF md (by simp))) (hsL.mono (hF md (by simp))) (hsW.mono (hF md (by simp))) [115,101,101,100] (by decide) 1 (by decide) 40 (by decide) (by decide) (sX0 8) hX2 rfl))) rfl ?_
 rintro⟨gk,mk,gb,Ab,cb,mb,gs,gq,Aq,cq,mq,gm,ga⟩ ⟨hk,hbr,hqr⟩
 change J _ ((18,.tuple #[Ptr ga,I ((0:Nat):Int)])::_) _ [_,_,mk,blk gb (bkC gd 0 (8/2) (sX0 0) Ab cb false) 223,mb,blk gs [Ptr gk,Ptr gb,I ((0:Nat):Int)] 216,blk gq (bkC gd 8 16 (sX0 8) Aq cq false) 223,mq,qAM gm (.map #[] 0),blk ga [Ptr gs,I ((2^1:Nat):Int),Ptr gq,.map (some gm)] 145] _
 dsimp only at hk hbr hqr
 refine J.j 5 V<|J.c hK3<|J.G 2 3 4 ?_
 refine J.g λK4 hK4=>J.q (qAB V V ent18 (Ct.use (new:=λr:RvR=> [r.mh,r.ma,r.G]) (λF' hF=>qIZ F' (hK.mo hF) 1 (by decide)))) V ?_
 rintro⟨hs,ts,An,cn,Ah,ch,mh,Aa,ca,ma,G⟩ ⟨hlen,hnod,hrh,hra,hrok⟩
 change J _ ((22,.tuple #[.agg #[N64 0,Str qAc,I 1,I 0,.slice An (qAN rv0 1).length cn],.slice Ah 1 ch,.slice Aa 1 ca])::_) _ [_,_,_,_,_,_,_,_,_,_,mh,ma,G] _
 dsimp only at hlen hnod hrh hra hrok
 obtain ⟨h0,rfl⟩:=qQr hlen
 obtain ⟨t0,rfl⟩:=qQr (hrok.1.symm.trans hlen)
 have R0:qOx G 0 h0 t0:=hrok.2 0 (show 0<1 by decide)
 have hl0:=R0.len
 refine J.j 4 V<|J.q (qAO (l:= [.int .u64 0,Str [],I 0,I 0,.slice none 0 0]) V qTL V) V λg5 _=>?_
 change J _ _ _ [_,_,_,_,_,_,_,_,_,_,_,_,_,blk g5 [.int .u64 0,Str [],I 0,I 0,.slice none 0 0] 39] _
 refine J.b1 (qAG (i:=13) (l:= [.int .u64 0,Str [],I 0,I 0,.slice none 0 0]) (vs:= [N64 0,Str qAc,I 1,I 0,.slice An ((qAN rv0 1).length) cn]) V V V V V qCj V V) V V λ_ _=>?_
 change J _ _ _ [_,_,_,_,_,_,_,_,_,_,_,_,_,blk g5 [N64 0,Str qAc,I 1,I 0,.slice An ((qAN rv0 1).length) cn] 39] _
 refine J.j 2 V<|J.c hK4<|J.b5 2 3 4 5 6 7 ?_
 refine J.k λK5 hK5=>J.g λK6 hK6=>J.b V<|J.f ((qAU V V V).no (by decide)) V<|J.j 2 V<|J.T ((qAU V V V).no (by decide)) V<|J.j 3 V<|J.T (qAY qKV V V) V<|J.T ((qAU V V V).no (by decide)) V<|J.b V<|J.c hK6<|J.a0 3 5 6 7 36 ?_
 refine J.a5 ?_
 refine J.W hK5<|J.O 3 5 6 7 ?_
 refine J.k λK7 hK7=>J.c9 [5,3,6,1,8,0,2,4,7,9,10,11,12,13] [blk gs [Ptr gk,Ptr gb,I ((0:Nat):Int)] 216,blk gb (bkC gd 0 (8/2) (sX0 0) Ab cb false) 223,blk gq (bkC gd 8 16 (sX0 8) Aq cq false) 223,md,qAM gm (.map #[] 0),F,mk,mb,mq,blk ga [Ptr gs,I ((2^1:Nat):Int),Ptr gq,.map (some gm)] 145,mh,ma,G,blk g5 [N64 0,Str qAc,I 1,I 0,.slice An ((qAN rv0 1).length) cn] 39] V (by decide)<|J.b7 [mh,ma,G,blk g5 [N64 0,Str qAc,I 1,I 0,.slice An ((qAN rv0 1).length) cn] 39] [15,16,100013] (.y 0 (.y 1 (.y 2 (.y 3 (.y 4 (.y 5 (.y 6 (.y 7 (.y 8 (.y 9 (.br (.e 10 (.y 11 (.y 12 (.y 13 (.e 14 (.e 15 (.e 16 .nil))))))) (.e 14 (.e 10 (.y 11 (.y 12 (.y 13 (.e 15 (.e 16 .nil)))))))))))))))))) Tryz.wide (by decide+kernel) (by simp) ?_
 refine J.L ?_
 refine J.p V (qAm 3 V V V qE0 qCj V) V V<|J.L ?_
 refine J.p V (qAF (i:=0) V V V qKV qCj hrh.sl (by omega)) V V<|J.p V (qAl (vs:= [N64 1,Str pH.dig,I ((1:Nat):Int),I ((0:Nat):Int),.slice h0.nsA (qAN (qBV 0) 1).length h0.nsc]) V V qE0 qCj (m:=mh) (by simp) (by have:=hrh.sl.elem (i:=0) (x:=h0.cells) rfl;rw [R0.cells] at this;exact this) rfl) rfl rfl<|J.L ?_
 refine J.p V (qAF (i:=0) V V V qTR sizeOf80 hra.sl (by omega)) V V<|J.p V (qAL (v:= .slice t0.lA t0.l.length t0.lc) V V isAgg80 (m:=ma) (by simp) (hra.sl.elem (i:=0) (x:=t0.cells) rfl)) rfl rfl<|J.p rfl (qAF (i:=0) rfl rfl rfl qTQ qLZ R0.tsl (by omega)) rfl rfl<|J.p rfl (qAl (vs:= [I ((0:Nat):Int),I ((1:Nat):Int),Str (rvO 0 0),Str (rvN 0 0),.slice (t0.l.getD 0 qCo).stA (t0.l.getD 0 qCo).st.length (t0.l.getD 0 qCo).stc]) rfl rfl isAgg79 qLZ (m:=G) (by simp) (by have:=R0.tsl.elem (i:=0) (qIL (by omega));rw [(R0.trs 0 (by omega)).cells] at this;exact this) rfl) rfl rfl<|J.f4 ?_ ?_
 ·
  refine J.b2 V (qAB V V ent19 (Ct.useA [blk gs [Ptr gk,Ptr gb,I ((0:Nat):Int)] 216,blk gb (bkC gd 0 (8/2) (sX0 0) Ab cb false) 223,blk gq (bkC gd 8 16 (sX0 8) Aq cq false) 223,md,qAM gm (.map #[] 0)] [F,mk,mb,mq,blk ga [Ptr gs,I ((2^1:Nat):Int),Ptr gq,.map (some gm)] 145,mh,ma,G,blk g5 [N64 0,Str qAc,I 1,I 0,.slice An ((qAN rv0 1).length) cn] 39] (A':=λr:((Hp×Option Addr×Nat×Hp)×Hp)×((Hp×Option Addr×Nat×Hp)×((Option Addr×Nat×Hp)×(Option Addr×Nat×Hp)))=> [blk gs [Ptr gk,Ptr gb,I ((0+1:Nat):Int)] 216,blk gb (bkC gd 0 (8/2) (qFH (sX0 0) (qBL 0)) r.2.1.2.1 r.2.1.2.2.1 false) 223,blk gq (bkC gd 8 16 (qFH (sX0 8) (mkB (hH 0).ep 0 (hH 0).dig)) r.1.1.2.1 r.1.1.2.2.1 false) 223,r.2.1.1,r.1.2]) (new:=λr=> [r.1.1.2.2.2,r.2.1.2.2.2,r.2.2.1.2.2,r.2.2.2.2.2]) (λF' hF=>qHE F' md (qAM gm (.map #[] 0)) (hK.mo hF) pH An cn qHX (hnod.mono (hF G (by simp))) (hH 0) h0.nsA h0.nsc (qBz 0) (R0.nsl2.mono (hF G (by simp))) 0 ((1:Nat):Int) (rvO 0 0) (rvN 0 0) (t0.l.getD 0 qCo).stA (t0.l.getD 0 qCo).st.length (t0.l.getD 0 qCo).stc 0 (λF2 h2=>qFo F2 (hK.mono ((hF F (by simp)).trans h2)) 0 (b:=0) (by decide) (t0.l.getD 0 qCo) ((R0.trs 0 (by omega)).mono ((hF G (by simp)).trans h2))) (qRq (hH 0) (hH_n 0) (by decide)) ga gs gq gm gk gb gd [115,101,101,100] 1 (hk.mono (hF mk (by simp))) (by decide) (by decide) (qAP.blk0.mono (hF (blk ga [Ptr gs,I ((2^1:Nat):Int),Ptr gq,.map (some gm)] 145) (by simp))) (qCF.nil plK gm) (qNH 0 (by decide)) (by show 1≤_;decide) (by decide) 3 hnm (qBs (qCN 0)) Ab cb Aq cq (hbr.sl.mono (hF mb (by simp))) (hqr.sl.mono (hF mq (by simp))) hbD))) rfl (by simp) ?_
  rintro z48 hz48
  change J _ ((48,.tuple #[.agg #[N64 (hH 0).ep,I ((0:Nat):Int),Str (hH 0).dig,I ((3:Nat):Int),I ((0:Nat):Int),.slice z48.2.2.1.1 (sgC [115,101,101,100] 0 (atM (hH 0).ep 0 3 (hH 0).dig)).length z48.2.2.1.2.1,.slice z48.2.2.2.1 (sgP [115,101,101,100] 1 0).length z48.2.2.2.2.1],I ((0:Nat):Int)])::_) _ [blk gs [Ptr gk,Ptr gb,I ((0+1:Nat):Int)] 216,blk gb (bkC gd 0 (8/2) (qFH (sX0 0) (qBL 0)) z48.2.1.2.1 z48.2.1.2.2.1 false) 223,blk gq (bkC gd 8 16 (qFH (sX0 8) (mkB (hH 0).ep 0 (hH 0).dig)) z48.1.1.2.1 z48.1.1.2.2.1 false) 223,z48.2.1.1,z48.1.2,F,mk,mb,mq,blk ga [Ptr gs,I ((2^1:Nat):Int),Ptr gq,.map (some gm)] 145,mh,ma,G,blk g5 [N64 0,Str qAc,I 1,I 0,.slice An ((qAN rv0 1).length) cn] 39,z48.1.1.2.2.2,z48.2.1.2.2.2,z48.2.2.1.2.2,z48.2.2.2.2.2] _
  refine J.L ?_
  refine J.d3 (.agg #[N64 (hH 0).ep,I ((0:Nat):Int),Str (hH 0).dig,I ((3:Nat):Int),I ((0:Nat):Int),.slice z48.2.2.1.1 (sgC [115,101,101,100] 0 (atM (hH 0).ep 0 3 (hH 0).dig)).length z48.2.2.1.2.1,.slice z48.2.2.2.1 (sgP [115,101,101,100] 1 0).length z48.2.2.2.2.1]) ?_
  refine J.e6 V (qAk (v:=I ((0:Nat):Int)) V V V) V V V ?_
  refine J.b2 V (qAO (l:= [.int .u64 0,I 0,Str [],I 0,I 0,.slice none 0 0,.slice none 0 0]) V qHu V) V (by simp) λg8 _=>?_
  change J _ _ _ [_,_,_,_,_,_,_,_,_,_,_,_,_,_,_,_,_,_,blk g8 [.int .u64 0,I 0,Str [],I 0,I 0,.slice none 0 0,.slice none 0 0] 52] _
  refine J.d2 V (qAG (i:=18) (l:= [.int .u64 0,I 0,Str [],I 0,I 0,.slice none 0 0,.slice none 0 0]) (vs:= [N64 (hH 0).ep,I ((0:Nat):Int),Str (hH 0).dig,I ((3:Nat):Int),I ((0:Nat):Int),.slice z48.2.2.1.1 (sgC [115,101,101,100] 0 (atM (hH 0).ep 0 3 (hH 0).dig)).length z48.2.2.1.2.1,.slice z48.2.2.2.1 (sgP [115,101,101,100] 1 0).length z48.2.2.2.2.1]) V V V V V qCi V V) V V V λ_ _=>?_
  change J _ _ _ [_,_,_,_,_,_,_,_,_,_,_,_,_,_,_,_,_,_,blk g8 [N64 (hH 0).ep,I ((0:Nat):Int),Str (hH 0).dig,I ((3:Nat):Int),I ((0:Nat):Int),.slice z48.2.2.1.1 (sgC [115,101,101,100] 0 (atM (hH 0).ep 0 3 (hH 0).dig)).length z48.2.2.1.2.1,.slice z48.2.2.2.1 (sgP [115,101,101,100] 1 0).length z48.2.2.2.2.1] 52] _
  refine J.e5 V (YOp.eop (qAy V V)) V V V V ?_
  intro _ _
  refine J.b3<|J.u (J.M hK7 ?_)
  refine J.O 3 6 8 9 ?_
  refine J.g λK8 hK8=>J.b V<|J.q (qAB V V ent20 (Ct.use0 (λF' hF=>(by have:=qCs F' ga gs gq (2^1) gm (qAP.blk0.mono (hF (blk ga [Ptr gs,I ((2^1:Nat):Int),Ptr gq,.map (some gm)] 145) (by simp))) [(((hH 0).ep,((0:Nat):Int)),(hH 0).dig)] (hz48.2.1.at.mono (hF z48.1.2 (by simp))) 1 ((0:Nat):Int);rw [show qBQ [(((hH 0).ep,((0:Nat):Int)),(hH 0).dig)] (1,((0:Nat):Int))=some (hH 0).dig from if_pos rfl] at this;exact this)))) rfl λg53 _=>J.j 5 rfl<|J.c hK8<|J.b5 3 6 8 9 10 11 ?_
  refine J.k λK9 hK9=>J.b7 [mh,ma,G,blk g8 [N64 (hH 0).ep,I ((0:Nat):Int),Str (hH 0).dig,I ((3:Nat):Int),I ((0:Nat):Int),.slice z48.2.2.1.1 (sgC [115,101,101,100] 0 (atM (hH 0).ep 0 3 (hH 0).dig)).length z48.2.2.1.2.1,.slice z48.2.2.2.1 (sgP [115,101,101,100] 1 0).length z48.2.2.2.2.1] 52] [] (.y 0 (.y 1 (.y 2 (.y 3 (.y 4 (.e 5 (.e 6 (.y 7 (.y 8 (.y 9 (.y 10 (.y 11 (.y 12 (.y 13 (.y 14 (.y 15 (.y 16 (.y 17 (.y 18 (.y 19 (.y 20 (.e 21 (.y 22 (.y 23 (.y 24 (.y 25 (.e 26 (.y 27 (.y 28 (.y 29 .nil)))))))))))))))))))))))))))))) Tryz.wide (by decide+kernel) (by simp) ?_
  refine J.L ?_
  refine J.p V ((qAS V V V).yes (by decide)) V V<|J.L ?_
  refine J.V V (qAm 3 V V V qGM qCi V) V V<|J.V V (qAb V V) V V<|J.e2 V (qAB V V ent26 (Ct.use0 (λF' hF=>qD8 F' ga gs gq (2^1) gm (qAP.blk0.mono (hF (blk ga [Ptr gs,I ((2^1:Nat):Int),Ptr gq,.map (some gm)] 145) (by simp))) gk gb (0+1) (qAP.blk0.mono (hF (blk gs [Ptr gk,Ptr gb,I ((0+1:Nat):Int)] 216) (by simp))) [115,101,101,100] 1 (hk.mono (hF mk (by simp))) (by decide) (by decide)))) (Wan.is rfl rfl rfl rfl rfl) rfl rfl (by simp) ?_
  intro g61 _
  refine J.e2 V (qAB V V ent25 (Ct.use0 (λF' hF=>qH7 F' (hK.mo hF) (hH 0).ep 0 3 (hH 0).dig (by show 1≤_;decide) (by decide) hnm (qBs (qCN 0)) [115,101,101,100] 1 0 z48.2.2.1.1 _ z48.2.2.1.2.1 (hz48.2.2.1.sl.mono (hF z48.2.2.1.2.2 (by simp))) z48.2.2.2.1 _ z48.2.2.2.2.1 (hz48.2.2.2.sl.mono (hF z48.2.2.2.2.2 (by simp))) (by decide) (by decide)))) (Wan.is rfl rfl rfl rfl rfl) rfl rfl (by simp) ?_
  intro g62 _
  refine J.d1 ?_
  refine J.L ?_
  refine J.V V (qAA (j:=3) V V qCa V z3_ V) V V<|J.V V (qAD 3 (v:=I ((3:Nat):Int)) V V V b3_ V) V V<|J.V V ((qAS V V V).yes (by decide)) V V<|J.d1 ?_
  refine J.L ?_
  refine J.V V (qAb V V) V V<|J.d1 ?_
  refine J.L ?_
  refine J.V V (qAb V V) V V<|J.V V (qAb V V) V V<|J.V V (qAF (i:=0) V V V qKV qCj hrh.sl (by omega)) V V<|J.V V (qAl (vs:= [N64 1,Str pH.dig,I ((1:Nat):Int),I ((0:Nat):Int),.slice h0.nsA (qAN (qBV 0) 1).length h0.nsc]) V V qE0 qCj (m:=mh) (by simp) (by have:=hrh.sl.elem (i:=0) (x:=h0.cells) rfl;rw [R0.cells] at this;exact this) rfl) rfl rfl<|J.e2 rfl (qAB rfl rfl ent11 (Ct.use0 (λF' hF=>qA2 F' (hK.mo hF) (hH 0) h0.nsA h0.nsc (qBz 0) (R0.nsl2.mono (hF G (by simp)))))) (Wan.is rfl rfl rfl rfl rfl) rfl rfl (by simp) ?_
  intro g77 _
  refine J.V V ((qBb V V V).yes (V)) V V<|J.d1 ?_
  refine J.L ?_
  refine J.V V (qAb V V) V V<|J.e2 V (qAB V V ent21 (Ct.use0 (λF' hF=>qDk F' ga gs gq (2^1) gm (qAP.blk0.mono (hF (blk ga [Ptr gs,I ((2^1:Nat):Int),Ptr gq,.map (some gm)] 145) (by simp))) gk gb (0+1) (qAP.blk0.mono (hF (blk gs [Ptr gk,Ptr gb,I ((0+1:Nat):Int)] 216) (by simp))) (by decide) (by decide)))) (Wan.is rfl rfl rfl rfl rfl) rfl rfl (by simp) ?_
  intro g82 _
  refine J.V V ((qAS V V V).yes (by decide)) V V<|J.d1 ?_
  refine J.c3 ?_
  refine J.b3<|J.u (J.M hK9 ?_)
  refine J.A 0 ?_
  exact J.D<|J.Z hw0 V () V trivial [5] V (by decide)
 refine J.b2 V (qAO (l:= [.int .u64 0,I 0,Str [],I 0,I 0,.slice none 0 0,.slice none 0 0]) V qHu V) V (by simp) λg8 _=>?_
 change J _ _ _ [blk gs [Ptr gk,Ptr gb,I ((0:Nat):Int)] 216,blk gb (bkC gd 0 (8/2) (sX0 0) Ab cb false) 223,blk gq (bkC gd 8 16 (sX0 8) Aq cq false) 223,md,qAM gm (.map #[] 0),F,mk,mb,mq,blk ga [Ptr gs,I ((2^1:Nat):Int),Ptr gq,.map (some gm)] 145,mh,ma,G,blk g5 [N64 0,Str qAc,I 1,I 0,.slice An ((qAN rv0 1).length) cn] 39,blk g8 [.int .u64 0,I 0,Str [],I 0,I 0,.slice none 0 0,.slice none 0 0] 52] _
 refine J.b2 V (qAB V V ent19 (Ct.useA [blk gs [Ptr gk,Ptr gb,I ((0:Nat):Int)] 216,blk gb (bkC gd 0 (8/2) (sX0 0) Ab cb false) 223,blk gq (bkC gd 8 16 (sX0 8) Aq cq false) 223,md,qAM gm (.map #[] 0)] [F,mk,mb,mq,blk ga [Ptr gs,I ((2^1:Nat):Int),Ptr gq,.map (some gm)] 145,mh,ma,G,blk g5 [N64 0,Str qAc,I 1,I 0,.slice An ((qAN rv0 1).length) cn] 39,blk g8 [.int .u64 0,I 0,Str [],I 0,I 0,.slice none 0 0,.slice none 0 0] 52] (A':=λr:((Hp×Option Addr×Nat×Hp)×Hp)×((Hp×Option Addr×Nat×Hp)×((Option Addr×Nat×Hp)×(Option Addr×Nat×Hp)))=> [blk gs [Ptr gk,Ptr gb,I ((0+1:Nat):Int)] 216,blk gb (bkC gd 0 (8/2) (qFH (sX0 0) (qBL 0)) r.2.1.2.1 r.2.1.2.2.1 false) 223,blk gq (bkC gd 8 16 (qFH (sX0 8) (mkB (hH 0).ep 0 (hH 0).dig)) r.1.1.2.1 r.1.1.2.2.1 false) 223,r.2.1.1,r.1.2]) (new:=λr=> [r.1.1.2.2.2,r.2.1.2.2.2,r.2.2.1.2.2,r.2.2.2.2.2]) (λF' hF=>qHE F' md (qAM gm (.map #[] 0)) (hK.mo hF) pH An cn qHX (hnod.mono (hF G (by simp))) (hH 0) h0.nsA h0.nsc (qBz 0) (R0.nsl2.mono (hF G (by simp))) 0 ((1:Nat):Int) (rvO 0 0) (rvN 0 0) (t0.l.getD 0 qCo).stA (t0.l.getD 0 qCo).st.length (t0.l.getD 0 qCo).stc 0 (λF2 h2=>qFo F2 (hK.mono ((hF F (by simp)).trans h2)) 0 (b:=0) (by decide) (t0.l.getD 0 qCo) ((R0.trs 0 (by omega)).mono ((hF G (by simp)).trans h2))) (qRq (hH 0) (hH_n 0) (by decide)) ga gs gq gm gk gb gd [115,101,101,100] 1 (hk.mono (hF mk (by simp))) (by decide) (by decide) (qAP.blk0.mono (hF (blk ga [Ptr gs,I ((2^1:Nat):Int),Ptr gq,.map (some gm)] 145) (by simp))) (qCF.nil plK gm) (qNH 0 (by decide)) (by show 1≤_;decide) (by decide) 3 hnm (qBs (qCN 0)) Ab cb Aq cq (hbr.sl.mono (hF mb (by simp))) (hqr.sl.mono (hF mq (by simp))) hbD))) rfl (by simp) ?_
 rintro z48 hz48
 change J _ ((48,.tuple #[.agg #[N64 (hH 0).ep,I ((0:Nat):Int),Str (hH 0).dig,I ((3:Nat):Int),I ((0:Nat):Int),.slice z48.2.2.1.1 (sgC [115,101,101,100] 0 (atM (hH 0).ep 0 3 (hH 0).dig)).length z48.2.2.1.2.1,.slice z48.2.2.2.1 (sgP [115,101,101,100] 1 0).length z48.2.2.2.2.1],I ((0:Nat):Int)])::_) _ [blk gs [Ptr gk,Ptr gb,I ((0+1:Nat):Int)] 216,blk gb (bkC gd 0 (8/2) (qFH (sX0 0) (qBL 0)) z48.2.1.2.1 z48.2.1.2.2.1 false) 223,blk gq (bkC gd 8 16 (qFH (sX0 8) (mkB (hH 0).ep 0 (hH 0).dig)) z48.1.1.2.1 z48.1.1.2.2.1 false) 223,z48.2.1.1,z48.1.2,_,_,_,_,_,_,_,_,_,_,z48.1.1.2.2.2,z48.2.1.2.2.2,z48.2.2.1.2.2,z48.2.2.2.2.2] _
 refine J.L ?_
 refine J.d3 (.agg #[N64 (hH 0).ep,I ((0:Nat):Int),Str (hH 0).dig,I ((3:Nat):Int),I ((0:Nat):Int),.slice z48.2.2.1.1 (sgC [115,101,101,100] 0 (atM (hH 0).ep 0 3 (hH 0).dig)).length z48.2.2.1.2.1,.slice z48.2.2.2.1 (sgP [115,101,101,100] 1 0).length z48.2.2.2.2.1]) ?_
 refine J.e6 V (qAk (v:=I ((0:Nat):Int)) V V V) V V V ?_
 refine J.d2 V (qAG (i:=14) (l:= [.int .u64 0,I 0,Str [],I 0,I 0,.slice none 0 0,.slice none 0 0]) (vs:= [N64 (hH 0).ep,I ((0:Nat):Int),Str (hH 0).dig,I ((3:Nat):Int),I ((0:Nat):Int),.slice z48.2.2.1.1 (sgC [115,101,101,100] 0 (atM (hH 0).ep 0 3 (hH 0).dig)).length z48.2.2.1.2.1,.slice z48.2.2.2.1 (sgP [115,101,101,100] 1 0).length z48.2.2.2.2.1]) V V V V V qCi V V) V V V λ_ _=>?_
 change J _ _ _ [_,_,_,_,_,_,_,_,_,_,_,_,_,_,blk g8 [N64 (hH 0).ep,I ((0:Nat):Int),Str (hH 0).dig,I ((3:Nat):Int),I ((0:Nat):Int),.slice z48.2.2.1.1 (sgC [115,101,101,100] 0 (atM (hH 0).ep 0 3 (hH 0).dig)).length z48.2.2.1.2.1,.slice z48.2.2.2.1 (sgP [115,101,101,100] 1 0).length z48.2.2.2.2.1] 52,_,_,_,_] _
 refine J.e5 V (YOp.eop (qAy V V)) V V V V ?_
 intro _ _
 refine J.b3<|J.u (J.M hK7 ?_)
 refine J.O 3 6 8 9 ?_
 refine J.g λK10 hK10=>J.b V<|J.q (qAB V V ent20 (Ct.use0 (λF' hF=>(by have:=qCs F' ga gs gq (2^1) gm (qAP.blk0.mono (hF (blk ga [Ptr gs,I ((2^1:Nat):Int),Ptr gq,.map (some gm)] 145) (by simp))) [(((hH 0).ep,((0:Nat):Int)),(hH 0).dig)] (hz48.2.1.at.mono (hF z48.1.2 (by simp))) 1 ((0:Nat):Int);rw [show qBQ [(((hH 0).ep,((0:Nat):Int)),(hH 0).dig)] (1,((0:Nat):Int))=some (hH 0).dig from if_pos rfl] at this;exact this)))) rfl λg53 _=>J.j 5 rfl<|J.c hK10<|J.b5 3 6 8 9 10 11 ?_
 refine J.k λK11 hK11=>J.b7 [mh,ma,G,blk g8 [N64 (hH 0).ep,I ((0:Nat):Int),Str (hH 0).dig,I ((3:Nat):Int),I ((0:Nat):Int),.slice z48.2.2.1.1 (sgC [115,101,101,100] 0 (atM (hH 0).ep 0 3 (hH 0).dig)).length z48.2.2.1.2.1,.slice z48.2.2.2.1 (sgP [115,101,101,100] 1 0).length z48.2.2.2.2.1] 52] [] (.y 0 (.y 1 (.y 2 (.y 3 (.y 4 (.e 5 (.e 6 (.y 7 (.y 8 (.y 9 (.y 10 (.y 11 (.y 12 (.y 13 (.y 14 (.y 15 (.y 16 (.y 17 (.y 18 (.y 19 (.y 20 (.e 21 (.y 22 (.y 23 (.y 24 (.y 25 (.e 26 (.y 27 (.y 28 (.y 29 .nil)))))))))))))))))))))))))))))) Tryz.wide (by decide+kernel) (by simp) ?_
 refine J.L ?_
 refine J.p V ((qAS V V V).yes (by decide)) V V<|J.L ?_
 refine J.V V (qAm 3 V V V qGM qCi V) V V<|J.V V (qAb V V) V V<|J.e2 V (qAB V V ent26 (Ct.use0 (λF' hF=>qD8 F' ga gs gq (2^1) gm (qAP.blk0.mono (hF (blk ga [Ptr gs,I ((2^1:Nat):Int),Ptr gq,.map (some gm)] 145) (by simp))) gk gb (0+1) (qAP.blk0.mono (hF (blk gs [Ptr gk,Ptr gb,I ((0+1:Nat):Int)] 216) (by simp))) [115,101,101,100] 1 (hk.mono (hF mk (by simp))) (by decide) (by decide)))) (Wan.is rfl rfl rfl rfl rfl) rfl rfl (by simp) ?_
 intro g61 _
 refine J.e2 V (qAB V V ent25 (Ct.use0 (λF' hF=>qH7 F' (hK.mo hF) (hH 0).ep 0 3 (hH 0).dig (by show 1≤_;decide) (by decide) hnm (qBs (qCN 0)) [115,101,101,100] 1 0 z48.2.2.1.1 _ z48.2.2.1.2.1 (hz48.2.2.1.sl.mono (hF z48.2.2.1.2.2 (by simp))) z48.2.2.2.1 _ z48.2.2.2.2.1 (hz48.2.2.2.sl.mono (hF z48.2.2.2.2.2 (by simp))) (by decide) (by decide)))) (Wan.is rfl rfl rfl rfl rfl) rfl rfl (by simp) ?_
 intro g62 _
 refine J.d1 ?_
 refine J.L ?_
 refine J.V V (qAA (j:=3) V V qCa V z3_ V) V V<|J.V V (qAD 3 (v:=I ((3:Nat):Int)) V V V b3_ V) V V<|J.V V ((qAS V V V).yes (by decide)) V V<|J.d1 ?_
 refine J.L ?_
 refine J.V V (qAb V V) V V<|J.d1 ?_
 refine J.L ?_
 refine J.V V (qAb V V) V V<|J.V V (qAb V V) V V<|J.V V (qAF (i:=0) V V V qKV qCj hrh.sl (by omega)) V V<|J.V V (qAl (vs:= [N64 1,Str pH.dig,I ((1:Nat):Int),I ((0:Nat):Int),.slice h0.nsA (qAN (qBV 0) 1).length h0.nsc]) V V qE0 qCj (m:=mh) (by simp) (by have:=hrh.sl.elem (i:=0) (x:=h0.cells) rfl;rw [R0.cells] at this;exact this) rfl) rfl rfl<|J.e2 rfl (qAB rfl rfl ent11 (Ct.use0 (λF' hF=>qA2 F' (hK.mo hF) (hH 0) h0.nsA h0.nsc (qBz 0) (R0.nsl2.mono (hF G (by simp)))))) (Wan.is rfl rfl rfl rfl rfl) rfl rfl (by simp) ?_
 intro g77 _
 refine J.V V ((qBb V V V).yes (V)) V V<|J.d1 ?_
 refine J.L ?_
 refine J.V V (qAb V V) V V<|J.e2 V (qAB V V ent21 (Ct.use0 (λF' hF=>qDk F' ga gs gq (2^1) gm (qAP.blk0.mono (hF (blk ga [Ptr gs,I ((2^1:Nat):Int),Ptr gq,.map (some gm)] 145) (by simp))) gk gb (0+1) (qAP.blk0.mono (hF (blk gs [Ptr gk,Ptr gb,I ((0+1:Nat):Int)] 216) (by simp))) (by decide) (by decide)))) (Wan.is rfl rfl rfl rfl rfl) rfl rfl (by simp) ?_
 intro g82 _
 refine J.V V ((qAS V V V).yes (by decide)) V V<|J.d1 ?_
 refine J.c3 ?_
 refine J.b3<|J.u (J.M hK11 ?_)
 refine J.A 0 ?_
 exact J.D<|J.Z hw0 V () V trivial [5] V (by decide)
end Go.Proofs.YtfldiegfenndjaaGreatDoor
