/- A part of the proof. -/
import Derived.Test.YtcgcjaflllmlpaaGreatDoorTopCfG8
import Derived.Test.YtcgcjaflllmlpaaGreatDoorTopCfG44
import Derived.Test.YtcgcjaflllmlpaaGreatDoorTopCfG43
import Derived.Test.YtcgcjaflllmlpaaGreatDoorTopCfG32
set_option linter.unusedSimpArgs false
set_option linter.unusedVariables false
namespace Go.Proofs.YtcgcjaflllmlpaaGreatDoor
open Go Go.Fw Go.Proofs.Tryz
set_option maxRecDepth 100000
set_option maxHeartbeats 1000000
theorem ent6:qAD prog 6:=qAD.of func6 rfl (by kernel_rfl)
theorem ent7:qAD prog 7:=qAD.of func7 rfl (by kernel_rfl)
theorem ent9:qAD prog 9:=qAD.of func9 rfl (by kernel_rfl)
theorem ent10:qAD prog 10:=qAD.of func10 rfl (by kernel_rfl)
theorem ent11:qAD prog 11:=qAD.of func11 rfl (by kernel_rfl)
theorem ent12:qAD prog 12:=qAD.of func12 rfl (by kernel_rfl)
theorem ent14:qAD prog 14:=qAD.of func14 rfl (by kernel_rfl)
theorem ent17:qAD prog 17:=qAD.of func17 rfl (by kernel_rfl)
attribute [local irreducible] Sha.tagged Wo.pub Wo.publicOf Wo.signs Wo.ends Wo.digs Wo.walk Wo.opn Mk.root Mk.path Mk.climb Xm.root sgC sgP qBG qBd sgB qAM kvT qBW qAO
theorem qN6(F:Hp)(hK:KF F)(hA:qAR F ⟨2,0,none⟩ qBY)(hT:qB5 F):Cz prog 5 [] F (.bool true):=by
 refine Ct.walk func5 rfl ntmps5 rfl (λw0 hw0=>?_)
 refine J.f λ_ j1=>J.b O<|J.c j1<|J.f λ_ j2=>J.p (qAB O O ent6 (Ct.use (λF' hF=>qKF F' (hK.mo hF) (hA.mono (Fa hF)) (hT.mono (Fa hF)) 2 0 (by decide) (by decide) (by decide)))) O ?_
 rintro⟨gw,x,gs,kA,kc,gu,uc,ms,mu,H⟩ hP
 try dsimp only at hP
 obtain ⟨hS,hN,hW⟩:=hP
 dsimp only at hS hN hW
 obtain ⟨p,hp⟩: ∃p,x.hd.getD 0 qAc=p:=⟨_,rfl⟩
 have hp0:qA1 p=pW 2 0:=by rw [←hp];exact hN.h0
 have hpg:(qA1 p).good:=by rw [hp0];exact qLV 2 (by decide)
 have hpn:nsl H p:=by have:=hS.p.hn 0 (by rw [hN.hd1];decide);rw [hp] at this;exact this
 have hperr:(qA1 p).err=0:=by rw [hp0];exact qL2 (by decide) (by decide)
 have hpgen:(qA1 p).gen=0:=qXH (by rw [hperr];decide) (by rw [hp0];exact λh=>h rfl) (by rw [hp0];exact λh=>h rfl)
 have hpa:p.aud=2:=by have:=congrArg Hd.aud hp0;exact yK this
 have hpd:p.dep=0:=by have:=congrArg Hd.dep hp0;exact yK this
 have hpl:p.ns=qAp (qAO 2) 0:=congrArg Hd.nodes hp0
 have hhd1:=hN.hd1
 refine J.b O<|J.c j2<|J.f λ_ j3=>J.g (qAK (places:= [(0,1),(1,1)]) (r:= [I ((2:Nat):Int),I ((2:Nat):Int)]) O O O qPR zeroValue26 (λ_=>by kernel_rfl) O) O<|J.p (qAL O zeroValue26 O) O λg2 _=>J.a6 (qAF (i:=4) (l:= [I 0,I 0]) (vs:= [I ((2:Nat):Int),I ((2:Nat):Int)]) O O O O O qNn O O) O O λ_ _=>J.c j3<|J.k λ_ j4=>J.f λ_ j5=>J.b O<|J.g ((qA6 underlying23 O O O).as (v':= .bool false) O) O<|J.q 2 O<|J.c9 (qAB O O ent9 (Ct.use1 1 O (λF' hF=>qP3 F' ms H (hK.mo hF) (hA.mono (Fa hF)) (hT.mono (Fa hF)) (Fa hF) x hS gw 2 kc uc kA (some ⟨gu,0,none⟩) (hW.w.mono (Fa hF)) [97,108,105,99,101] (by decide) qVE [97] (by decide) (by rw [hN.no];decide) (by rw [hN.nxt];rfl) (by rw [hN.now];rfl)))) rfl ?_
 rintro⟨ms1,y1⟩ hS1
 try dsimp only at hS1
 refine J.G (qAy O O) O<|J.b O<|J.c j5<|J.a1 ?_
 refine J.M j4<|J.k λ_ j6=>J.b0 [F,ms1,mu,H,blk g2 [I ((2:Nat):Int),I ((2:Nat):Int)] 26] [] (.y 0 (.y 1 (.y 2 (.y 3 (.y 7 (.e 4 (.y 5 (.y 6 (.e 8 (.y 9 (.y 10 (.y 11 (.y 12 (.y 13 .nil)))))))))))))) Tryz.wide (by decide+kernel) (by simp) ?_
 refine J.L ?_
 refine J.j O (qAC O O) O O<|J.j O (qAA O O qG8 O qO4 O) O O<|J.j O (qAJ O O isAgg36 (m:=H) (by simp) (hW.w.at (i:=0) rfl)) rfl rfl<|J.j rfl (qAY 4 rfl rfl rfl qSO qNn rfl) rfl rfl<|J.f2 (λq:Option Addr×Nat×Hp=>_++ [q.2.2]) rfl (qAB rfl rfl ent8 (Ct.use (λF' hF=>qIQ F' (x.put [97,108,105,99,101] [97] y1) (hS1.cells.mono (Fa hF)) (hS1.hsl.mono (Fa hF)) (by show x.hd.length≤_;omega)))) rfl rfl rfl (λ_ _ h=>je _ h) (by simp) ?_
 rintro⟨A27,c27,m27⟩ h27
 try dsimp only at h27
 change J _ ((27,.slice A27 x.hd.length c27)::_) _ [_,_,_,_,_,m27] _
 replace h27:Row m27 34 5 A27 x.hd.length c27 (qCu x.hd):=h27
 refine J.j O (qAH (i:=0) O O O qFP qBz h27.sl (by omega)) O O<|J.j O (qAX O O qDT qBz (m:=m27) (by simp) (by have:=h27.sl.elem (qDC (l:=x.hd) (k:=0) (by omega));rw [hp] at this;exact this) rfl) rfl rfl<|J.Z rfl (qAB rfl rfl ent7 (Ct.use (λF' hF=>qL8 F' p hpg (hpn.mono (Fa hF)) hpgen 2 2 (by decide) (by decide) (by omega)))) rfl (by simp) ?_
 rintro⟨gc,gh⟩ _
 refine J.L ?_
 refine J.c3 (Ptr gc) ?_
 refine J.c3 (I ((0:Nat):Int)) ?_
 refine J.b6 ?_
 refine J.b6 ?_
 refine J.a8<|J.u (J.D j6 ?_)
 refine J.f λ_ j7=>J.b O<|J.g (qAC O O) O<|J.T 0 qG8 qO4 O O O O O<|J.g (qAJ O O isAgg36 (m:=H) (by simp) (hW.w.at (i:=0) rfl)) rfl<|J.p (qAB rfl rfl ent10 (Ct.use1 1 rfl (λF' hF=>qP6 F' ms1 H (hK.mo hF) (Fa hF) (x.put [97,108,105,99,101] [97] y1) hS1 (by show x.tg.length<15;rw [hN.tg1];decide) (hN.room (by decide) y1)))) rfl ?_
 rintro⟨mp,y39⟩ hp2
 try dsimp only at hp2
 change J _ ((39,.tuple #[.agg #[N64 ((adH (qA1 (x.put [97,108,105,99,101] [97] y1).hdL).dig (x.put [97,108,105,99,101] [97] y1).dp (x.put [97,108,105,99,101] [97] y1).audN.length (x.put [97,108,105,99,101] [97] y1).hd (kvT (x.put [97,108,105,99,101] [97] y1).kvL (x.put [97,108,105,99,101] [97] y1).cl (x.put [97,108,105,99,101] [97] y1).dp (2^(x.put [97,108,105,99,101] [97] y1).dp)) y39.1.nA y39.1.nc).ep),Str ((adH (qA1 (x.put [97,108,105,99,101] [97] y1).hdL).dig (x.put [97,108,105,99,101] [97] y1).dp (x.put [97,108,105,99,101] [97] y1).audN.length (x.put [97,108,105,99,101] [97] y1).hd (kvT (x.put [97,108,105,99,101] [97] y1).kvL (x.put [97,108,105,99,101] [97] y1).cl (x.put [97,108,105,99,101] [97] y1).dp (2^(x.put [97,108,105,99,101] [97] y1).dp)) y39.1.nA y39.1.nc).par),I (((adH (qA1 (x.put [97,108,105,99,101] [97] y1).hdL).dig (x.put [97,108,105,99,101] [97] y1).dp (x.put [97,108,105,99,101] [97] y1).audN.length (x.put [97,108,105,99,101] [97] y1).hd (kvT (x.put [97,108,105,99,101] [97] y1).kvL (x.put [97,108,105,99,101] [97] y1).cl (x.put [97,108,105,99,101] [97] y1).dp (2^(x.put [97,108,105,99,101] [97] y1).dp)) y39.1.nA y39.1.nc).dep:Nat):Int),I (((adH (qA1 (x.put [97,108,105,99,101] [97] y1).hdL).dig (x.put [97,108,105,99,101] [97] y1).dp (x.put [97,108,105,99,101] [97] y1).audN.length (x.put [97,108,105,99,101] [97] y1).hd (kvT (x.put [97,108,105,99,101] [97] y1).kvL (x.put [97,108,105,99,101] [97] y1).cl (x.put [97,108,105,99,101] [97] y1).dp (2^(x.put [97,108,105,99,101] [97] y1).dp)) y39.1.nA y39.1.nc).aud:Nat):Int),.slice (adH (qA1 (x.put [97,108,105,99,101] [97] y1).hdL).dig (x.put [97,108,105,99,101] [97] y1).dp (x.put [97,108,105,99,101] [97] y1).audN.length (x.put [97,108,105,99,101] [97] y1).hd (kvT (x.put [97,108,105,99,101] [97] y1).kvL (x.put [97,108,105,99,101] [97] y1).cl (x.put [97,108,105,99,101] [97] y1).dp (2^(x.put [97,108,105,99,101] [97] y1).dp)) y39.1.nA y39.1.nc).nsA (adH (qA1 (x.put [97,108,105,99,101] [97] y1).hdL).dig (x.put [97,108,105,99,101] [97] y1).dp (x.put [97,108,105,99,101] [97] y1).audN.length (x.put [97,108,105,99,101] [97] y1).hd (kvT (x.put [97,108,105,99,101] [97] y1).kvL (x.put [97,108,105,99,101] [97] y1).cl (x.put [97,108,105,99,101] [97] y1).dp (2^(x.put [97,108,105,99,101] [97] y1).dp)) y39.1.nA y39.1.nc).ns.length (adH (qA1 (x.put [97,108,105,99,101] [97] y1).hdL).dig (x.put [97,108,105,99,101] [97] y1).dp (x.put [97,108,105,99,101] [97] y1).audN.length (x.put [97,108,105,99,101] [97] y1).hd (kvT (x.put [97,108,105,99,101] [97] y1).kvL (x.put [97,108,105,99,101] [97] y1).cl (x.put [97,108,105,99,101] [97] y1).dp (2^(x.put [97,108,105,99,101] [97] y1).dp)) y39.1.nA y39.1.nc).nsc],.slice y39.1.At y39.1.tl.length y39.1.ct,I ((0:Nat):Int)])::_) _ [_,mp,_,_,_,_,_,_,y39.1.G,y39.1.mo] _
 obtain ⟨yh,hyh⟩: ∃z:RhD,z=(adH (qA1 (x.put [97,108,105,99,101] [97] y1).hdL).dig (x.put [97,108,105,99,101] [97] y1).dp (x.put [97,108,105,99,101] [97] y1).audN.length (x.put [97,108,105,99,101] [97] y1).hd (kvT (x.put [97,108,105,99,101] [97] y1).kvL (x.put [97,108,105,99,101] [97] y1).cl (x.put [97,108,105,99,101] [97] y1).dp (2^(x.put [97,108,105,99,101] [97] y1).dp)) y39.1.nA y39.1.nc):=⟨_,rfl⟩
 rw [←hyh]
 have hI1:=hS1.i
 have hPb:=hN.pub (by decide) y1 hI1 y39
 have hyt:qA1 yh=hdN 2 0 ((x.put [97,108,105,99,101] [97] y1).pub y39).kvL:=by rw [hyh,←SvR.pub_hdL];exact hPb.2.1
 refine J.q 4 O<|J.p (qAL O qRU O) O λg5 _=>J.a6 (qAF (i:=10) (l:= [.int .u64 0,Str [],I 0,I 0,.slice none 0 0]) (vs:= [N64 (yh.ep),Str (yh.par),I ((yh.dep:Nat):Int),I ((yh.aud:Nat):Int),.slice yh.nsA yh.ns.length yh.nsc]) O O O O O qBz O O) O O λ_ _=>J.q 2 O<|J.c1 [3,8,1,2,0,4,6,7,10] [H,y39.1.G,mp,mu,F,blk g2 [I ((2:Nat):Int),I ((2:Nat):Int)] 26,blk gc [I ((2:Nat):Int),I ((2:Nat):Int),.slice (some ⟨gh,0,none⟩) 1 1] 89,blk gh [N64 (p.ep),Str (p.par),I ((p.dep:Nat):Int),I ((p.aud:Nat):Int),.slice p.nsA p.ns.length p.nsc] 34,blk g5 [N64 (yh.ep),Str (yh.par),I ((yh.dep:Nat):Int),I ((yh.aud:Nat):Int),.slice yh.nsA yh.ns.length yh.nsc] 34] O (by decide)<|J.d1 (λhj=>?_)
 refine J.c j7<|J.k λ_ j8=>J.k λ_ j9=>?_
 have hS2:Srv mp (U [H,y39.1.G]) ((x.put [97,108,105,99,101] [97] y1).pub y39):=hp2.s _ (qK4 hj) (qSK hj)
 have hkf:=hS2.i.kf
 have hyg:(qA1 yh).good:=by rw [hyt];exact qI4 (by decide) (by decide)
 have hyn:nsl (U [H,y39.1.G]) yh:=by have:=hp2.ns;rw [SvR.pub_hdL,←hyh] at this;exact this.mono (qSK hj)
 have hyd:(qA1 yh).dig.length=16:=by rw [hyt];exact qLw (by decide) (by decide) hkf
 have hye:yh.ep=1:=congrArg Hd.ep hyt
 have hyns:yh.ns=qAp ((x.put [97,108,105,99,101] [97] y1).pub y39).kvL 0:=congrArg Hd.nodes hyt
 have hyl:yh.ns.length≤1000000:=by rw [hyns,qGh];decide
 have hnx:(pW 2 0).next (qA1 yh)=0:=by rw [hyt];exact qI3 (by decide) (by decide) hkf
 have hpd2:((x.put [97,108,105,99,101] [97] y1).pub y39).hd.getD 0 qAc=p:=hPb.2.2.trans hp
 have hW2:Wld 2 (List.replicate 2 0) (U [H,y39.1.G]) mu gw ((x.put [97,108,105,99,101] [97] y1).pub y39) gs kA kc gu uc:=(hW.mono (qK4 hj)).of rfl
 have hdr:qMH (qA1 p).dig (2^0) 2 2 (qBW 2 0 2):=by rw [hp0];exact qL6 (by decide) (by decide) (by decide) (by decide)
 have hps: ∀s∈p.ns,s.length≤1048576:=by rw [hpl];exact qEK _
 refine J.c1 [5,6,0,1,2,3,4,7] [blk gc [I ((2:Nat):Int),I ((2:Nat):Int),.slice (some ⟨gh,0,none⟩) 1 1] 89,blk gh [N64 (p.ep),Str (p.par),I ((p.dep:Nat):Int),I ((p.aud:Nat):Int),.slice p.nsA p.ns.length p.nsc] 34,U [H,y39.1.G],mp,mu,F,blk g2 [I ((2:Nat):Int),I ((2:Nat):Int)] 26,blk g5 [N64 (yh.ep),Str (yh.par),I ((yh.dep:Nat):Int),I ((yh.aud:Nat):Int),.slice yh.nsA yh.ns.length yh.nsc] 34] O (by decide)<|J.b0 [blk g5 [N64 (yh.ep),Str (yh.par),I ((yh.dep:Nat):Int),I ((yh.aud:Nat):Int),.slice yh.nsA yh.ns.length yh.nsc] 34,blk g2 [I ((2:Nat):Int),I ((2:Nat):Int)] 26] [] (.y 0 (.y 1 (.y 2 (.y 3 (.y 4 (.y 5 (.y 6 (.y 7 (.y 8 (.y 9 (.y 10 (.y 11 (.e 12 (.y 13 (.e 14 (.y 15 (.y 16 .nil))))))))))))))))) Tryz.wide (by decide+kernel) (by simp) ?_
 refine J.L ?_
 refine J.j O ((qAe O O O).no (by decide)) O O<|J.L ?_
 refine J.b8 O (qA0 O O) O O<|J.b8 O ((qAe O O O).no (by decide)) O O<|J.e1 ?_
 refine J.L ?_
 refine J.b8 O (qA0 O O) O O<|J.b8 O (qAY 0 O O O qDT qBz O) O O<|J.b8 O (qA0 O O) O O<|J.b8 O (qAY 1 O O O qSO qNn O) O O<|J.b8 O (qAY 0 O O O qDT qBz O) O O<|J.e4 O (qAB O O ent12 (Ct.use1 4 O (λF' hF=>qGE F' mu mp (hK.mo hF) 2 0 2 2 (by decide) (by decide) (by decide) (by decide) (by decide) ((x.put [97,108,105,99,101] [97] y1).pub y39) (hS2.mono (Fa hF)) (Fa hF) hPb.1 gw gs kA kc gu uc (List.replicate 2 0) (hW2.mono (Fa hF)) 0 (by decide) (rep0 2) yh hyg (hyn.mono (Fa hF)) (by omega) hyd p hpd2))) (Wan.is O O O O O) O O (by simp) ?_
 rintro⟨V5,us5,AV5,cV5,mV5,mu5,GV5⟩ hv5
 try dsimp only at hv5
 have hso5:=hv5.hon.some hv5.len
 dsimp only at hso5
 refine J.b8 O (qAK (places:= [(0,5),(5,1)]) (r:= [N64 (yh.ep),Str (yh.par),I ((yh.dep:Nat):Int),I ((yh.aud:Nat):Int),.slice yh.nsA yh.ns.length yh.nsc,.slice AV5 V5.length cV5]) O O O qVe zeroValue50 (λ_=>by kernel_rfl) O) O O ?_
 have hVl:V5.length≤100000:=by have:=hv5.len;dsimp only at this;rw [this];decide
 have hpn2:nsl (U [H,y39.1.G]) p:=hpn.mono (qK4 hj)
 refine J.e4 O (qAB O O ent11 (Ct.useA [blk gc [I ((2:Nat):Int),I ((2:Nat):Int),.slice (some ⟨gh,0,none⟩) 1 1] 89,blk gh [N64 (p.ep),Str (p.par),I ((p.dep:Nat):Int),I ((p.aud:Nat):Int),.slice p.nsA p.ns.length p.nsc] 34] [U [H,y39.1.G],mp,mu5,F,blk g2 [I ((2:Nat):Int),I ((2:Nat):Int)] 26,blk g5 [N64 (yh.ep),Str (yh.par),I ((yh.dep:Nat):Int),I ((yh.aud:Nat):Int),.slice yh.nsA yh.ns.length yh.nsc] 34,mV5,GV5] (A':=λr:CaR=> [blk gc [I ((2:Nat):Int),I ((2:Nat):Int),.slice r.A r.hd.length r.c] 89,r.m]) (new:=λr=> [r.N]) (λF' hF=>by have:=qFL F' (blk gh [N64 (p.ep),Str (p.par),I ((p.dep:Nat):Int),I ((p.aud:Nat):Int),.slice p.nsA p.ns.length p.nsc] 34) (hK.mo hF) gc 2 2 (some ⟨gh,0,none⟩) 1 [p] (qPt gh p) (by show 0<1;decide) (by show 1≤1000;decide) hpg (hpn2.mono (Fa hF)) hps 0 2 (by decide) hpd hperr (by decide) (by decide) (by decide) (by decide) hpa (qBW 2 0 2) hdr yh hyg (hyn.mono (Fa hF)) hyl AV5 V5.length cV5 V5 (hv5.row.sl.mono (Fa hF)) hVl (λi hi=>(hso5.vo i hi).mono (Fa hF));rw [show qDS (qA1 (([p]:List RhD).getD (([p]:List RhD).length-1) qAc)) (qA1 yh) (qBW 2 0 2) 2 (2^0) 2 V5=0 by show qDS (qA1 p) _ _ _ _ _ _=0;rw [hp0,qXZ (by decide) (by decide) (by decide) hnx hyd hso5,if_pos (by have:=hv5.len;dsimp only at this;rw [this];decide)];rfl] at this;exact this))) (Wan.is rfl rfl rfl rfl rfl) rfl rfl (by simp) ?_
 rintro⟨hd5,A5,c5,mc,Nc⟩ ha5
 try dsimp only at ha5
 obtain ⟨A6,c6,hl6,hn6⟩:=ha5.yes rfl
 dsimp only at hl6 hn6
 obtain ⟨yl,hyl_⟩: ∃z:RhD,z=⟨yh.ep,yh.par,yh.dep,yh.aud,A6,c6,yh.ns⟩:=⟨_,rfl⟩
 rw [←hyl_] at hl6
 have hlen5:hd5.length=2:=by rw [hl6];rfl
 have hlast:hd5.getD (hd5.length-1) qAc=yl:=by rw [hl6];rfl
 have hylt:qA1 yl=qA1 yh:=by rw [hyl_];rfl
 have hyln:nsl Nc yl:=by rw [hyl_];exact hn6
 have hnw:=hN.now_ y1 hI1 hp2
 have hgt:=hN.get y1 hI1 y39
 refine J.b8 O ((qAe O O O).no (by decide)) O O<|J.e1 ?_
 refine J.a8<|J.u (J.D j9 ?_)
 refine J.a1 ?_
 refine J.M j8<|J.f λ_ j10=>J.b O<|J.g (qAC O O) O<|J.T 0 qG8 qO4 O O O O O<|J.g (qAJ O O isAgg36 (m:=U [H,y39.1.G]) (by simp) ((hW.w.mono (qK4 hj)).at (i:=0) rfl)) rfl<|J.p (qAB rfl rfl ent13 (Ct.use (λF' hF=>qMX F' (hK.mo hF) ((x.put [97,108,105,99,101] [97] y1).pub y39) hS2.i (hS2.cells.mono (Fa hF)) (hS2.tsl.mono (Fa hF)) (hS2.tree.mono (Fa hF)) (hS2.p.nw.mono (Fa hF)) (hS2.p.nl.mono (Fa hF)) [97,108,105,99,101] (by decide)))) rfl ?_
 rintro r65 hr65
 have hro65:=hr65.ro
 rw [hnw] at hro65⊢
 refine J.q 3 O<|J.p (qAL O zeroValue55 O) O λg8 _=>J.a6 (qAF (i:=13) (l:= [Str [],.slice none 0 0,.slice none 0 0,.bool false,Str [],Str []]) (vs:= [Str [97,108,105,99,101],.slice r65.A ([(enW [97])]:List En).length r65.c,.slice r65.bA (bsd ((x.put [97,108,105,99,101] [97] y1).pub y39).kvL (Sha.tagged 11 [[97,108,105,99,101]]) 0 (r65.s-0)).length r65.bc,.bool (qAo ((x.put [97,108,105,99,101] [97] y1).pub y39).kvL (Sha.tagged 11 [[97,108,105,99,101]]) r65.s),Str (qBo ((x.put [97,108,105,99,101] [97] y1).pub y39).kvL (Sha.tagged 11 [[97,108,105,99,101]]) r65.s),Str (qBr ((x.put [97,108,105,99,101] [97] y1).pub y39).kvL (Sha.tagged 11 [[97,108,105,99,101]]) r65.s)]) O O O O O sizeOf55 O O) O O λ_ _=>J.b O<|J.c j10<|J.f λ_ j11=>J.b O<|J.b7 13 isAgg55 sizeOf55 O O O O O<|J.p (qAB O O ent14 (Ct.use0 (λF' hF=>(by have:=qXc F' (hK.mo hF) gc 2 2 A5 hd5.length c5 hd5 (ha5.row.sl.mono (Fa hF)) (by omega) (by omega) (qAR.blk0.mono (hF (blk gc [I ((2:Nat):Int),I ((2:Nat):Int),.slice A5 hd5.length c5] 89) (by simp))) (by rw [hlast,hylt];exact hyg) (by rw [hlast];exact hyln.mono (Fa hF)) (by rw [hlast,hyl_];dsimp only;rw [hyns];exact qEK _) [97,108,105,99,101] (by decide) r65.A ([(enW [97])]:List En).length r65.c [(enW [97])] (hro65.sl.mono (Fa hF)) (λz hz=>by rw [List.mem_singleton.1 hz];exact⟨by decide,by show(Wo.opn _).length≤_;rw [Wo.opn_length];decide,by show(Xm.root _ _).length≤_;rw [show(Xm.root [97] 0).length=16 from Mk.root_16 _ _];decide,by decide⟩) (by decide) r65.bA r65.bc _ (hr65.rb.sl.mono (Fa hF)) _ _ _ (qE7 hkf (Sha.tagged_length _ _) hr65.st) (qE9 hkf _ _);rw [hlast,qUN hkf (Sha.tagged_length _ _) hr65.st (hylt.trans hyt) hgt] at this;exact this)))) rfl λg71 _=>J.q 4 rfl<|J.p (qAL rfl qOn rfl) rfl λg10 _=>J.a6 (qAF (i:=14) (l:= [.int .u64 0,Str [],Str [],I 0,Str []]) (vs:= [N64 1,Str (Wo.opn [97]),Str (Xm.root [97] 0),I ((0:Nat):Int),Str qAm]) rfl rfl rfl rfl rfl qBy rfl rfl) rfl rfl λ_ _=>J.q 2 rfl<|J.c j11<|J.f λ_ j12=>J.b rfl<|J.g ((qAg rfl rfl rfl).yes (by decide)) rfl<|J.q 5 rfl<|J.c9 (qAB rfl rfl ent17 (Ct.use (λF' hF=>qUP F' gc 2 2 A5 hd5.length c5 hd5 (ha5.row.sl.mono (Fa hF)) (by omega) (by omega) (qAR.blk0.mono (hF (blk gc [I ((2:Nat):Int),I ((2:Nat):Int),.slice A5 hd5.length c5] 89) (by simp)))))) rfl ?_
 rintro⟨A82,c82,m82⟩ h82
 try dsimp only at h82
 exact J.G (qAU qFP O O) O<|J.G ((qAg O O O).yes (by rw [hlen5];rfl)) rfl<|J.q 2 rfl<|J.c j12<|J.A<|J.E hw0 rfl () rfl trivial [5] rfl (by decide)
end Go.Proofs.YtcgcjaflllmlpaaGreatDoor
namespace Go.Proofs.YtcgcjaflllmlpaaGreatDoor
open Go Go.Fw Go.Proofs.Tryz
set_option maxRecDepth 100000
set_option maxHeartbeats 1000000
theorem ent5:qAD prog 5:=qAD.of func5 rfl (by kernel_rfl)
attribute [local irreducible] Sha.tagged Wo.pub Wo.publicOf Wo.signs Wo.ends Wo.digs Wo.walk Wo.opn Mk.root Mk.path Mk.climb Xm.root sgC sgP qBG qBd sgB qAM kvT qBW qAO
theorem qRM(F:Hp)(hK:KF F)(hA:qAR F ⟨2,0,none⟩ qBY)(hT:qB5 F)(sw:Bool)(sp:UInt8):Cz prog 4 [.bool (sw),B8 (sp)] F (.bool true):=by
 refine Ct.walk func4 rfl ntmps4 rfl (λw0 hw0=>?_)
 refine J.f λ_ j1=>J.b O<|J.c j1<|J.k λ_ j2=>J.f λ_ j3=>J.p (qAB O O ent5 (Ct.use0 (λF' hF=>qN6 F' (hK.mo hF) (hA.mono (Fa hF)) (hT.mono (Fa hF))))) O λg23 _=>J.g (qAy O O) O<|J.c j3<|J.a1 ?_
 refine J.M j2<|J.f λ_ j4=>J.p (qAB O O ent6 (Ct.use (λF' hF=>qKF F' (hK.mo hF) (hA.mono (Fa hF)) (hT.mono (Fa hF)) 3 0 (by decide) (by decide) (by decide)))) O ?_
 rintro⟨gw,x,gs,kA,kc,gu,uc,ms,mu,H⟩ hP
 try dsimp only at hP
 obtain ⟨hS,hN,hW⟩:=hP
 dsimp only at hS hN hW
 obtain ⟨p,hp⟩: ∃p,x.hd.getD 0 qAc=p:=⟨_,rfl⟩
 have hp0:qA1 p=pW 3 0:=by rw [←hp];exact hN.h0
 have hpg:(qA1 p).good:=by rw [hp0];exact qLV 3 (by decide)
 have hpn:nsl H p:=by have:=hS.p.hn 0 (by rw [hN.hd1];decide);rw [hp] at this;exact this
 have hperr:(qA1 p).err=0:=by rw [hp0];exact qL2 (by decide) (by decide)
 have hpgen:(qA1 p).gen=0:=qXH (by rw [hperr];decide) (by rw [hp0];exact λh=>h rfl) (by rw [hp0];exact λh=>h rfl)
 have hpa:p.aud=3:=by have:=congrArg Hd.aud hp0;exact yK this
 have hpd:p.dep=0:=by have:=congrArg Hd.dep hp0;exact yK this
 have hpl:p.ns=qAp (qAO 3) 0:=congrArg Hd.nodes hp0
 have hhd1:=hN.hd1
 refine J.b O<|J.c j4<|J.f λ_ j5=>J.g (qAK (places:= [(0,1),(1,1)]) (r:= [I ((3:Nat):Int),I ((2:Nat):Int)]) O O O qPR zeroValue26 (λ_=>by kernel_rfl) O) O<|J.p (qAL O zeroValue26 O) O λg6 _=>J.a6 (qAF (i:=4) (l:= [I 0,I 0]) (vs:= [I ((3:Nat):Int),I ((2:Nat):Int)]) O O O O O qNn O O) O O λ_ _=>J.c j5<|J.f λ_ j6=>J.b O<|J.g (qAC O O) O<|J.T 0 qG8 qO4 O O O O O<|J.g (qAJ O O isAgg36 (m:=H) (by simp) (hW.w.at (i:=0) rfl)) rfl<|J.p (qAB rfl rfl ent8 (Ct.use (λF' hF=>qIQ F' x (hS.cells.mono (Fa hF)) (hS.hsl.mono (Fa hF)) (by show x.hd.length≤_;omega)))) rfl ?_
 rintro⟨A31,c31,m31⟩ h31
 try dsimp only at h31
 replace h31:Row m31 34 5 A31 x.hd.length c31 (qCu x.hd):=h31
 refine J.g (qAH (i:=0) O O O qFP qBz h31.sl (by omega)) O<|J.g (qAX O O qDT qBz (m:=m31) (by simp) (by have:=h31.sl.elem (qDC (l:=x.hd) (k:=0) (by omega));rw [hp] at this;exact this) rfl) rfl<|J.p (qAL rfl qRU rfl) rfl λg7 _=>J.a6 (qAF (i:=6) (l:= [.int .u64 0,Str [],I 0,I 0,.slice none 0 0]) (vs:= [N64 (p.ep),Str (p.par),I ((p.dep:Nat):Int),I ((p.aud:Nat):Int),.slice p.nsA p.ns.length p.nsc]) rfl rfl rfl rfl rfl qBz rfl rfl) rfl rfl λ_ _=>J.c j6<|J.f λ_ j7=>J.b7 6 qDT qBz rfl rfl rfl rfl rfl<|J.b7 4 qSO qNn rfl rfl rfl rfl rfl<|J.p (qAB rfl rfl ent7 (Ct.use (λF' hF=>qL8 F' p hpg (hpn.mono (Fa hF)) hpgen 3 2 (by decide) (by decide) (by omega)))) rfl ?_
 rintro⟨gc1,gh1⟩ _
 refine J.q 5 O<|J.c j7<|J.f λ_ j8=>J.b7 6 qDT qBz O O O O O<|J.b7 4 qSO qNn O O O O O<|J.p (qAB O O ent7 (Ct.use (λF' hF=>qL8 F' p hpg (hpn.mono (Fa hF)) hpgen 3 2 (by decide) (by decide) (by omega)))) O ?_
 rintro⟨gc2,gh2⟩ _
 refine J.q 5 O<|J.c j8<|J.f λ_ j9=>J.b O<|J.p (qAB O O ent9 (Ct.use1 1 O (λF' hF=>qP3 F' ms H (hK.mo hF) (hA.mono (Fa hF)) (hT.mono (Fa hF)) (Fa hF) x hS gw 3 kc uc kA (some ⟨gu,0,none⟩) (hW.w.mono (Fa hF)) [97,108,105,99,101] (by decide) qVE [111,119,110,101,114] (by decide) (by rw [hN.no];decide) (by rw [hN.nxt];rfl) (by rw [hN.now];rfl)))) rfl ?_
 rintro⟨ms1,y1⟩ hS1
 try dsimp only at hS1
 refine J.c j9<|J.f λ_ j10=>J.b O<|J.g (qAC O O) O<|J.T 0 qG8 qO4 O O O O O<|J.g (qAJ O O isAgg36 (m:=H) (by simp) (hW.w.at (i:=0) rfl)) rfl<|J.p (qAB rfl rfl ent10 (Ct.use1 1 rfl (λF' hF=>qP6 F' ms1 H (hK.mo hF) (Fa hF) (x.put [97,108,105,99,101] [111,119,110,101,114] y1) hS1 (by show x.tg.length<15;rw [hN.tg1];decide) (hN.room (by decide) y1)))) rfl ?_
 rintro⟨mp,y53⟩ hp2
 try dsimp only at hp2
 change J _ ((53,.tuple #[.agg #[N64 ((adH (qA1 (x.put [97,108,105,99,101] [111,119,110,101,114] y1).hdL).dig (x.put [97,108,105,99,101] [111,119,110,101,114] y1).dp (x.put [97,108,105,99,101] [111,119,110,101,114] y1).audN.length (x.put [97,108,105,99,101] [111,119,110,101,114] y1).hd (kvT (x.put [97,108,105,99,101] [111,119,110,101,114] y1).kvL (x.put [97,108,105,99,101] [111,119,110,101,114] y1).cl (x.put [97,108,105,99,101] [111,119,110,101,114] y1).dp (2^(x.put [97,108,105,99,101] [111,119,110,101,114] y1).dp)) y53.1.nA y53.1.nc).ep),Str ((adH (qA1 (x.put [97,108,105,99,101] [111,119,110,101,114] y1).hdL).dig (x.put [97,108,105,99,101] [111,119,110,101,114] y1).dp (x.put [97,108,105,99,101] [111,119,110,101,114] y1).audN.length (x.put [97,108,105,99,101] [111,119,110,101,114] y1).hd (kvT (x.put [97,108,105,99,101] [111,119,110,101,114] y1).kvL (x.put [97,108,105,99,101] [111,119,110,101,114] y1).cl (x.put [97,108,105,99,101] [111,119,110,101,114] y1).dp (2^(x.put [97,108,105,99,101] [111,119,110,101,114] y1).dp)) y53.1.nA y53.1.nc).par),I (((adH (qA1 (x.put [97,108,105,99,101] [111,119,110,101,114] y1).hdL).dig (x.put [97,108,105,99,101] [111,119,110,101,114] y1).dp (x.put [97,108,105,99,101] [111,119,110,101,114] y1).audN.length (x.put [97,108,105,99,101] [111,119,110,101,114] y1).hd (kvT (x.put [97,108,105,99,101] [111,119,110,101,114] y1).kvL (x.put [97,108,105,99,101] [111,119,110,101,114] y1).cl (x.put [97,108,105,99,101] [111,119,110,101,114] y1).dp (2^(x.put [97,108,105,99,101] [111,119,110,101,114] y1).dp)) y53.1.nA y53.1.nc).dep:Nat):Int),I (((adH (qA1 (x.put [97,108,105,99,101] [111,119,110,101,114] y1).hdL).dig (x.put [97,108,105,99,101] [111,119,110,101,114] y1).dp (x.put [97,108,105,99,101] [111,119,110,101,114] y1).audN.length (x.put [97,108,105,99,101] [111,119,110,101,114] y1).hd (kvT (x.put [97,108,105,99,101] [111,119,110,101,114] y1).kvL (x.put [97,108,105,99,101] [111,119,110,101,114] y1).cl (x.put [97,108,105,99,101] [111,119,110,101,114] y1).dp (2^(x.put [97,108,105,99,101] [111,119,110,101,114] y1).dp)) y53.1.nA y53.1.nc).aud:Nat):Int),.slice (adH (qA1 (x.put [97,108,105,99,101] [111,119,110,101,114] y1).hdL).dig (x.put [97,108,105,99,101] [111,119,110,101,114] y1).dp (x.put [97,108,105,99,101] [111,119,110,101,114] y1).audN.length (x.put [97,108,105,99,101] [111,119,110,101,114] y1).hd (kvT (x.put [97,108,105,99,101] [111,119,110,101,114] y1).kvL (x.put [97,108,105,99,101] [111,119,110,101,114] y1).cl (x.put [97,108,105,99,101] [111,119,110,101,114] y1).dp (2^(x.put [97,108,105,99,101] [111,119,110,101,114] y1).dp)) y53.1.nA y53.1.nc).nsA (adH (qA1 (x.put [97,108,105,99,101] [111,119,110,101,114] y1).hdL).dig (x.put [97,108,105,99,101] [111,119,110,101,114] y1).dp (x.put [97,108,105,99,101] [111,119,110,101,114] y1).audN.length (x.put [97,108,105,99,101] [111,119,110,101,114] y1).hd (kvT (x.put [97,108,105,99,101] [111,119,110,101,114] y1).kvL (x.put [97,108,105,99,101] [111,119,110,101,114] y1).cl (x.put [97,108,105,99,101] [111,119,110,101,114] y1).dp (2^(x.put [97,108,105,99,101] [111,119,110,101,114] y1).dp)) y53.1.nA y53.1.nc).ns.length (adH (qA1 (x.put [97,108,105,99,101] [111,119,110,101,114] y1).hdL).dig (x.put [97,108,105,99,101] [111,119,110,101,114] y1).dp (x.put [97,108,105,99,101] [111,119,110,101,114] y1).audN.length (x.put [97,108,105,99,101] [111,119,110,101,114] y1).hd (kvT (x.put [97,108,105,99,101] [111,119,110,101,114] y1).kvL (x.put [97,108,105,99,101] [111,119,110,101,114] y1).cl (x.put [97,108,105,99,101] [111,119,110,101,114] y1).dp (2^(x.put [97,108,105,99,101] [111,119,110,101,114] y1).dp)) y53.1.nA y53.1.nc).nsc],.slice y53.1.At y53.1.tl.length y53.1.ct,I ((0:Nat):Int)])::_) _ [_,mp,_,_,_,_,_,_,_,_,_,y53.1.G,y53.1.mo] _
 obtain ⟨yh,hyh⟩: ∃z:RhD,z=(adH (qA1 (x.put [97,108,105,99,101] [111,119,110,101,114] y1).hdL).dig (x.put [97,108,105,99,101] [111,119,110,101,114] y1).dp (x.put [97,108,105,99,101] [111,119,110,101,114] y1).audN.length (x.put [97,108,105,99,101] [111,119,110,101,114] y1).hd (kvT (x.put [97,108,105,99,101] [111,119,110,101,114] y1).kvL (x.put [97,108,105,99,101] [111,119,110,101,114] y1).cl (x.put [97,108,105,99,101] [111,119,110,101,114] y1).dp (2^(x.put [97,108,105,99,101] [111,119,110,101,114] y1).dp)) y53.1.nA y53.1.nc):=⟨_,rfl⟩
 rw [←hyh]
 have hI1:=hS1.i
 have hPb:=hN.pub (by decide) y1 hI1 y53
 have hyt:qA1 yh=hdN 3 0 ((x.put [97,108,105,99,101] [111,119,110,101,114] y1).pub y53).kvL:=by rw [hyh,←SvR.pub_hdL];exact hPb.2.1
 refine J.q 4 O<|J.p (qAL O qRU O) O λg12 _=>J.a6 (qAF (i:=13) (l:= [.int .u64 0,Str [],I 0,I 0,.slice none 0 0]) (vs:= [N64 (yh.ep),Str (yh.par),I ((yh.dep:Nat):Int),I ((yh.aud:Nat):Int),.slice yh.nsA yh.ns.length yh.nsc]) O O O O O qBz O O) O O λ_ _=>J.q 2 O<|J.c1 [3,11,1,2,0,4,6,13,7,8,9,10] [H,y53.1.G,mp,mu,F,blk g6 [I ((3:Nat):Int),I ((2:Nat):Int)] 26,blk g7 [N64 (p.ep),Str (p.par),I ((p.dep:Nat):Int),I ((p.aud:Nat):Int),.slice p.nsA p.ns.length p.nsc] 34,blk g12 [N64 (yh.ep),Str (yh.par),I ((yh.dep:Nat):Int),I ((yh.aud:Nat):Int),.slice yh.nsA yh.ns.length yh.nsc] 34,blk gc1 [I ((3:Nat):Int),I ((2:Nat):Int),.slice (some ⟨gh1,0,none⟩) 1 1] 89,blk gh1 [N64 (p.ep),Str (p.par),I ((p.dep:Nat):Int),I ((p.aud:Nat):Int),.slice p.nsA p.ns.length p.nsc] 34,blk gc2 [I ((3:Nat):Int),I ((2:Nat):Int),.slice (some ⟨gh2,0,none⟩) 1 1] 89,blk gh2 [N64 (p.ep),Str (p.par),I ((p.dep:Nat):Int),I ((p.aud:Nat):Int),.slice p.nsA p.ns.length p.nsc] 34] O (by decide)<|J.d1 (λhj=>?_)
 refine J.c j10<|J.k λ_ j11=>?_
 have hS2:Srv mp (U [H,y53.1.G]) ((x.put [97,108,105,99,101] [111,119,110,101,114] y1).pub y53):=hp2.s _ (qK4 hj) (qSK hj)
 have hkf:=hS2.i.kf
 have hyg:(qA1 yh).good:=by rw [hyt];exact qI4 (by decide) (by decide)
 have hyn:nsl (U [H,y53.1.G]) yh:=by have:=hp2.ns;rw [SvR.pub_hdL,←hyh] at this;exact this.mono (qSK hj)
 have hyd:(qA1 yh).dig.length=16:=by rw [hyt];exact qLw (by decide) (by decide) hkf
 have hye:yh.ep=1:=congrArg Hd.ep hyt
 have hyns:yh.ns=qAp ((x.put [97,108,105,99,101] [111,119,110,101,114] y1).pub y53).kvL 0:=congrArg Hd.nodes hyt
 have hyl:yh.ns.length≤1000000:=by rw [hyns,qGh];decide
 have hnx:(pW 3 0).next (qA1 yh)=0:=by rw [hyt];exact qI3 (by decide) (by decide) hkf
 have hpd2:((x.put [97,108,105,99,101] [111,119,110,101,114] y1).pub y53).hd.getD 0 qAc=p:=hPb.2.2.trans hp
 have hW2:Wld 3 (List.replicate 3 0) (U [H,y53.1.G]) mu gw ((x.put [97,108,105,99,101] [111,119,110,101,114] y1).pub y53) gs kA kc gu uc:=(hW.mono (qK4 hj)).of rfl
 have hdr:qMH (qA1 p).dig (2^0) 3 3 (qBW 3 0 3):=by rw [hp0];exact qL6 (by decide) (by decide) (by decide) (by decide)
 have hps: ∀s∈p.ns,s.length≤1048576:=by rw [hpl];exact qEK _
 have hpn2:nsl (U [H,y53.1.G]) p:=hpn.mono (qK4 hj)
 have hpc:p.ns.length≤1000000:=by rw [hpl,qGh];decide
 refine J.H<|J.b7 6 qDT qBz O O O O O<|J.p (qAL O qRU O) O λg15 _=>J.a6 (qAF (i:=11) (l:= [.int .u64 0,Str [],I 0,I 0,.slice none 0 0]) (vs:= [N64 (yh.ep),Str (yh.par),I ((yh.dep:Nat):Int),I ((yh.aud:Nat):Int),.slice yh.nsA yh.ns.length yh.nsc]) O O O O O qBz O O) O O λ_ _=>J.c j11<|J.f λ_ j12=>J.p (qBZ O qAk el9) O λg58 _=>J.T 4 qDW qBs O O O O O<|J.a5 5 qB8 O O O O O<|J.p (qAV (i:=12) (m2:=U [H,y53.1.G]) O O O qAk qAk el9 O (qAl (q:=True) (xs:=qAI ([])) O (by intro x hx;first|exact absurd hx (zC)|(rw [List.mem_singleton.1 hx];rfl))) (by simp) (hpn2) (qCR _) (by omega) (by omega)) rfl ?_
 rintro⟨A61,c61,m61⟩ h61
 try dsimp only at h61
 replace h61:Row m61 9 1 A61 p.ns.length c61 (qAI p.ns):=by have h:=h61;rw [jj] at h;exact h
 rw [jj]
 refine J.T 4 qDW qBs O O O O O<|J.a6 (qAW (i:=11) O O O O O qBs O (by simp)) rfl rfl λ_ _=>?_
 obtain ⟨yr,hyr⟩: ∃z:RhD,z=⟨yh.ep,yh.par,yh.dep,yh.aud,A61,c61,p.ns⟩:=⟨_,rfl⟩
 have hyrt:qA1 yr=hdN 3 0 (qAO 3):=by rw [hyr];show(⟨yh.ep,yh.par,((yh.dep:Nat):Int),((yh.aud:Nat):Int),p.ns⟩:Hd)=_;rw [hpl];have e:=hyt;unfold qA1 hdN at e;injection e with e1 e2 e3 e4 e5;rw [e1,e2,e3,e4];rfl
 have hrg:(qA1 yr).good:=by rw [hyrt];exact qI4 (by decide) (by decide)
 have hrd:(qA1 yr).dig.length=16:=by rw [hyrt];exact qLw (by decide) (by decide) (qC1 (by decide))
 have hrx:(pW 3 0).next (qA1 yr)=0:=by rw [hyrt];exact qI3 (by decide) (by decide) (qC1 (by decide))
 have hre:yr.ep=1:=congrArg Hd.ep hyrt
 have hrl:yr.ns.length≤1000000:=by rw [hyr];exact hpc
 have hrn:nsl m61 yr:=by rw [hyr];exact h61.sl
 change J _ _ _ [_,_,_,_,_,_,_,_,_,_,_,blk g15 [N64 (⟨yh.ep,yh.par,yh.dep,yh.aud,A61,c61,p.ns⟩:RhD).ep,Str (⟨yh.ep,yh.par,yh.dep,yh.aud,A61,c61,p.ns⟩:RhD).par,I (((⟨yh.ep,yh.par,yh.dep,yh.aud,A61,c61,p.ns⟩:RhD).dep:Nat):Int),I (((⟨yh.ep,yh.par,yh.dep,yh.aud,A61,c61,p.ns⟩:RhD).aud:Nat):Int),.slice (⟨yh.ep,yh.par,yh.dep,yh.aud,A61,c61,p.ns⟩:RhD).nsA (⟨yh.ep,yh.par,yh.dep,yh.aud,A61,c61,p.ns⟩:RhD).ns.length (⟨yh.ep,yh.par,yh.dep,yh.aud,A61,c61,p.ns⟩:RhD).nsc] 34,_] _
 rw [←hyr]
 refine J.c j12<|J.d4 (X:=List VtD×Option Addr×Nat×Hp×Hp×List VtD×Option Addr×Nat×Hp×Hp) (λζ=> [(0,.bool (sw)),(1,B8 (sp)),(8,Ptr gc1),(10,Ptr gc2),(12,Ptr g12),(15,Ptr g15),(16,.slice ζ.2.1 ζ.1.length ζ.2.2.1),(17,.slice ζ.2.2.2.2.2.2.1 ζ.2.2.2.2.2.1.length ζ.2.2.2.2.2.2.2.1)]) (λζ=> [U [H,y53.1.G],F,blk g12 [N64 (yh.ep),Str (yh.par),I ((yh.dep:Nat):Int),I ((yh.aud:Nat):Int),.slice yh.nsA yh.ns.length yh.nsc] 34,blk gc1 [I ((3:Nat):Int),I ((2:Nat):Int),.slice (some ⟨gh1,0,none⟩) 1 1] 89,blk gh1 [N64 (p.ep),Str (p.par),I ((p.dep:Nat):Int),I ((p.aud:Nat):Int),.slice p.nsA p.ns.length p.nsc] 34,blk gc2 [I ((3:Nat):Int),I ((2:Nat):Int),.slice (some ⟨gh2,0,none⟩) 1 1] 89,blk gh2 [N64 (p.ep),Str (p.par),I ((p.dep:Nat):Int),I ((p.aud:Nat):Int),.slice p.nsA p.ns.length p.nsc] 34,blk g15 [N64 (yr.ep),Str (yr.par),I ((yr.dep:Nat):Int),I ((yr.aud:Nat):Int),.slice yr.nsA yr.ns.length yr.nsc] 34,m61,ζ.2.2.2.1,ζ.2.2.2.2.1,ζ.2.2.2.2.2.2.2.2.1,ζ.2.2.2.2.2.2.2.2.2]) (λζ=>Row ζ.2.2.2.1 74 15 ζ.2.1 ζ.1.length ζ.2.2.1 (qHB ζ.1)∧ζ.1.length=3∧qG7 ζ.2.2.2.2.1 3 3 (qA1 yh) ζ.1 (List.range 3)∧Row ζ.2.2.2.2.2.2.2.2.1 74 15 ζ.2.2.2.2.2.2.1 ζ.2.2.2.2.2.1.length ζ.2.2.2.2.2.2.2.1 (qHB ζ.2.2.2.2.2.1)∧ζ.2.2.2.2.2.1.length=3∧qG7 ζ.2.2.2.2.2.2.2.2.2 3 3 (qA1 yr) ζ.2.2.2.2.2.1 (List.range 3)) (λ_ j13=>?_) ?_
 ·
  refine J.b0 [blk g6 [I ((3:Nat):Int),I ((2:Nat):Int)] 26,blk g12 [N64 (yh.ep),Str (yh.par),I ((yh.dep:Nat):Int),I ((yh.aud:Nat):Int),.slice yh.nsA yh.ns.length yh.nsc] 34,blk g15 [N64 (yr.ep),Str (yr.par),I ((yr.dep:Nat):Int),I ((yr.aud:Nat):Int),.slice yr.nsA yr.ns.length yr.nsc] 34] [] (.y 0 (.y 1 (.y 2 (.y 4 (.y 5 (.y 6 (.e 3 (.e 7 (.y 8 (.y 9 .nil)))))))))) Tryz.wide (by decide+kernel) (by simp) ?_
  refine J.L ?_
  refine J.j O (qAY 0 O O O qSO qNn O) O O<|J.j O (qAY 1 O O O qDT qBz O) O O<|J.L ?_
  refine J.j O (qAY 0 O O O qSO qNn O) O O<|J.j O (qAY 2 O O O qDT qBz O) O O<|J.Z O (qAB O O ent12 (Ct.use1 2 O (λF' hF=>qGE F' mu mp (hK.mo hF) 3 0 3 2 (by decide) (by decide) (by decide) (by decide) (by decide) ((x.put [97,108,105,99,101] [111,119,110,101,114] y1).pub y53) (hS2.mono (Fa hF)) (Fa hF) hPb.1 gw gs kA kc gu uc (List.replicate 3 0) (hW2.mono (Fa hF)) 0 (by decide) (rep0 3) yh hyg (hyn.mono (Fa hF)) (by omega) hyd p hpd2))) O (by simp) ?_
  rintro⟨VA,usA,AVA,cVA,mVA,muA,GVA⟩ hvA
  try dsimp only at hvA
  have hsoA:=hvA.hon.some hvA.len
  dsimp only at hsoA
  refine J.Z O (qAB O O ent12 (Ct.use1 2 O (λF' hF=>qGE F' muA mp (hK.mo hF) 3 0 3 2 (by decide) (by decide) (by decide) (by decide) (by decide) ((x.put [97,108,105,99,101] [111,119,110,101,114] y1).pub y53) (hS2.mono (Fa hF)) (Fa hF) hPb.1 gw gs kA kc gu uc usA ((hW2.next hvA.ul hvA.ur).mono (Fa hF)) (0+10) (by decide) hvA.ub yr hrg (hrn.mono (hF (m61) (by simp))) (by omega) hrd p hpd2))) rfl (by simp) ?_
  rintro⟨VB,usB,AVB,cVB,mVB,muB,GVB⟩ hvB
  try dsimp only at hvB
  have hsoB:=hvB.hon.some hvB.len
  dsimp only at hsoB
  refine J.b6 ?_
  refine J.b6 ?_
  exact J.a8<|J.u<|J.a4 (VA,AVA,cVA,mVA,GVA,VB,AVB,cVB,mVB,GVB) j13 (⟨hvA.row,hvA.len,hsoA,hvB.row,hvB.len,hsoB⟩) ⟨O,O,O,O,O,O,O,O,trivial⟩ (λ_ h=>h.pick [0,3,6,7,8,9,10,11,12,13,14,15,16] (by decide))
 rintro⟨VA,AVA,cVA,mVA,GVA,VB,AVB,cVB,mVB,GVB⟩ ⟨hrA,hlA,hsA,hrB,hlB,hsB⟩
 dsimp only at hrA hlA hsA hrB hlB hsB⊢
 refine J.f λ_ j14=>J.q 2 O<|J.c j14<|J.k λ_ j15=>J.f λ_ j16=>J.b O<|J.c j16<|J.O<|J.b4 (X:=Nat×Option Addr×Nat×Hp×Option Addr×Nat×Hp) (λζ=> [(0,.bool (sw)),(1,B8 (sp)),(8,Ptr gc1),(10,Ptr gc2),(12,Ptr g12),(15,Ptr g15),(16,.slice AVA VA.length cVA),(17,.slice AVB VB.length cVB),(18,.slice ζ.2.1 ((pkV sp true VA ζ.1).length) ζ.2.2.1),(19,.slice ζ.2.2.2.2.1 ((pkV sp false VB ζ.1).length) ζ.2.2.2.2.2.1),(20,I ((ζ.1:Nat):Int))]) (λζ=> [ζ.2.2.2.1,ζ.2.2.2.2.2.2,U [H,y53.1.G],F,blk g12 [N64 (yh.ep),Str (yh.par),I ((yh.dep:Nat):Int),I ((yh.aud:Nat):Int),.slice yh.nsA yh.ns.length yh.nsc] 34,blk gc1 [I ((3:Nat):Int),I ((2:Nat):Int),.slice (some ⟨gh1,0,none⟩) 1 1] 89,blk gh1 [N64 (p.ep),Str (p.par),I ((p.dep:Nat):Int),I ((p.aud:Nat):Int),.slice p.nsA p.ns.length p.nsc] 34,blk gc2 [I ((3:Nat):Int),I ((2:Nat):Int),.slice (some ⟨gh2,0,none⟩) 1 1] 89,blk gh2 [N64 (p.ep),Str (p.par),I ((p.dep:Nat):Int),I ((p.aud:Nat):Int),.slice p.nsA p.ns.length p.nsc] 34,blk g15 [N64 (yr.ep),Str (yr.par),I ((yr.dep:Nat):Int),I ((yr.aud:Nat):Int),.slice yr.nsA yr.ns.length yr.nsc] 34,m61,mVA,GVA,mVB,GVB]) (λζ=>ζ.1≤3∧Row ζ.2.2.2.1 74 15 ζ.2.1 (pkV sp true VA ζ.1).length ζ.2.2.1 (qHB (pkV sp true VA ζ.1))∧Row ζ.2.2.2.2.2.2 74 15 ζ.2.2.2.2.1 (pkV sp false VB ζ.1).length ζ.2.2.2.2.2.1 (qHB (pkV sp false VB ζ.1))) (λζ=>3-ζ.1) (0,none,0,(λ_=>none),none,0,(λ_=>none)) (⟨jG _,qBb.nil,qBb.nil⟩) ⟨O,O,O,O,O,O,O,O,O,O,O,trivial⟩ (λ_ h=>h.empty.empty.pick [13,14,0,1,2,3,4,5,6,7,8,9,10,11,12] (by decide)) ?_
 rintro⟨i,Aa,ca,ma,Ab,cb,mb⟩ ⟨hi,hra,hrb⟩ I0 hI0
 dsimp only at hi hra hrb⊢
 have hli:=qQK sp i
 rw [←qId sp true VA,←qId sp false VB] at hli
 refine J.k λ_ j17=>J.f λ_ j18=>J.b O<|J.g (qAT O O O) O<|J.c j18<|J.W O (λh72=>?_) (λh72=>?_)
 ·
  refine J.M j17<|J.k λ_ j19=>J.O<|J.f λ_ j20=>J.q 2 O<|J.g (qLY O O O) O<|J.g (qQb (b:=1) O O O) O<|J.g ((qAg O O O).as (v':= .bool (qY0 sp i)) O) O<|J.c j20<|J.c6 O (λh79=>?_) (λh79=>?_)
  ·
   have hno:=qU3 (V:=VB) (sp:=sp) (w:=false) (i:=i) (by rw [h79];decide)
   rw [←hno] at hrb⊢
   refine J.H<|J.q 3 O<|J.g (qAH O O O qJa qSR hrA.sl (by omega)) O<|J.g (qAX O O isAgg74 qSR (m:=mVA) (by simp) (hrA.sl.elem (qIF (by omega))) rfl) rfl<|J.p (qAG (l:= [.tmp 84]) (xs:= [[N64 ((VA.getD i qAN).ep),I (((VA.getD i qAN).b:Nat):Int),Str ((VA.getD i qAN).hd),I (((VA.getD i qAN).nm:Nat):Int),I (((VA.getD i qAN).i:Nat):Int),.slice (VA.getD i qAN).chA (VA.getD i qAN).ch.length (VA.getD i qAN).chc,.slice (VA.getD i qAN).ptA (VA.getD i qAN).pt.length (VA.getD i qAN).ptc,Str ((VA.getD i qAN).an),Str ((VA.getD i qAN).op),Str ((VA.getD i qAN).rt),I (((VA.getD i qAN).ht:Nat):Int),.slice (VA.getD i qAN).bsA (VA.getD i qAN).bs.length (VA.getD i qAN).bsc,.bool ((VA.getD i qAN).th),Str ((VA.getD i qAN).pk),Str ((VA.getD i qAN).pv)]]) rfl rfl rfl rfl qJa el74 rfl (by decide) (by decide) (by simp)) rfl λg85 _=>J.p (qAV (i:=0) (m2:=blk g85 [N64 ((VA.getD i qAN).ep),I (((VA.getD i qAN).b:Nat):Int),Str ((VA.getD i qAN).hd),I (((VA.getD i qAN).nm:Nat):Int),I (((VA.getD i qAN).i:Nat):Int),.slice (VA.getD i qAN).chA (VA.getD i qAN).ch.length (VA.getD i qAN).chc,.slice (VA.getD i qAN).ptA (VA.getD i qAN).pt.length (VA.getD i qAN).ptc,Str ((VA.getD i qAN).an),Str ((VA.getD i qAN).op),Str ((VA.getD i qAN).rt),I (((VA.getD i qAN).ht:Nat):Int),.slice (VA.getD i qAN).bsA (VA.getD i qAN).bs.length (VA.getD i qAN).bsc,.bool ((VA.getD i qAN).th),Str ((VA.getD i qAN).pk),Str ((VA.getD i qAN).pv)] 74) rfl rfl rfl qJa qJa el74 rfl hra (by simp) ((qAl (q:=True) (xs:=qHB [(⟨(VA.getD i qAN).ep,(VA.getD i qAN).b,(VA.getD i qAN).hd,(VA.getD i qAN).nm,(VA.getD i qAN).i,((VA.getD i qAN).chA),((VA.getD i qAN).chc),((VA.getD i qAN).ch),((VA.getD i qAN).ptA),((VA.getD i qAN).ptc),((VA.getD i qAN).pt),(VA.getD i qAN).an,(VA.getD i qAN).op,(VA.getD i qAN).rt,(VA.getD i qAN).ht,((VA.getD i qAN).bsA),((VA.getD i qAN).bsc),((VA.getD i qAN).bs),(VA.getD i qAN).th,(VA.getD i qAN).pk,(VA.getD i qAN).pv⟩:VtD)]) rfl (by intro x hx;rw [List.mem_singleton.1 hx];rfl)).sl) rfl (by omega) (by omega)) rfl ?_
   rintro⟨A86,c86,m86⟩ h86
   try dsimp only at h86
   replace h86:Row m86 74 15 A86 ((pkV sp true VA i).length+1) c86 (qHB (pkV sp true VA (i+1))):=by rw [qIc h79,qGD];exact h86
   rw [show(pkV sp true VA i).length+1=(pkV sp true VA (i+1)).length by rw [qIc h79,jA];rfl] at h86⊢
   refine J.b O<|J.a3<|J.a2<|J.u (J.D j19 ?_)
   exact J.H<|J.b O<|J.g ((qAS O O O (by omega)).nat (i+1) (by omega)) O<|J.b O<|J.a3<|J.u<|J.a4 (i+1,A86,c86,m86,Ab,cb,mb) (λη (hη:_∧3-η.1<3-i)=>hI0 η hη.1 hη.2) ⟨⟨by dsimp only;omega,h86,hrb⟩,by dsimp only;omega⟩ ⟨O,O,O,O,O,O,O,O,O,O,O,trivial⟩ (λ_ h=>h.pick [0,1,2,3,4,5,6,7,8,9,10,11,12,13,14] (by decide))
  have hno:=qU3 (V:=VA) (sp:=sp) (w:=true) (i:=i) (by rw [h79];decide)
  rw [←hno] at hra⊢
  refine J.H<|J.q 3 O<|J.g (qAH O O O qJa qSR hrB.sl (by omega)) O<|J.g (qAX O O isAgg74 qSR (m:=mVB) (by simp) (hrB.sl.elem (qIF (by omega))) rfl) rfl<|J.p (qAG (l:= [.tmp 91]) (xs:= [[N64 ((VB.getD i qAN).ep),I (((VB.getD i qAN).b:Nat):Int),Str ((VB.getD i qAN).hd),I (((VB.getD i qAN).nm:Nat):Int),I (((VB.getD i qAN).i:Nat):Int),.slice (VB.getD i qAN).chA (VB.getD i qAN).ch.length (VB.getD i qAN).chc,.slice (VB.getD i qAN).ptA (VB.getD i qAN).pt.length (VB.getD i qAN).ptc,Str ((VB.getD i qAN).an),Str ((VB.getD i qAN).op),Str ((VB.getD i qAN).rt),I (((VB.getD i qAN).ht:Nat):Int),.slice (VB.getD i qAN).bsA (VB.getD i qAN).bs.length (VB.getD i qAN).bsc,.bool ((VB.getD i qAN).th),Str ((VB.getD i qAN).pk),Str ((VB.getD i qAN).pv)]]) rfl rfl rfl rfl qJa el74 rfl (by decide) (by decide) (by simp)) rfl λg92 _=>J.p (qAV (i:=1) (m2:=blk g92 [N64 ((VB.getD i qAN).ep),I (((VB.getD i qAN).b:Nat):Int),Str ((VB.getD i qAN).hd),I (((VB.getD i qAN).nm:Nat):Int),I (((VB.getD i qAN).i:Nat):Int),.slice (VB.getD i qAN).chA (VB.getD i qAN).ch.length (VB.getD i qAN).chc,.slice (VB.getD i qAN).ptA (VB.getD i qAN).pt.length (VB.getD i qAN).ptc,Str ((VB.getD i qAN).an),Str ((VB.getD i qAN).op),Str ((VB.getD i qAN).rt),I (((VB.getD i qAN).ht:Nat):Int),.slice (VB.getD i qAN).bsA (VB.getD i qAN).bs.length (VB.getD i qAN).bsc,.bool ((VB.getD i qAN).th),Str ((VB.getD i qAN).pk),Str ((VB.getD i qAN).pv)] 74) rfl rfl rfl qJa qJa el74 rfl hrb (by simp) ((qAl (q:=True) (xs:=qHB [(⟨(VB.getD i qAN).ep,(VB.getD i qAN).b,(VB.getD i qAN).hd,(VB.getD i qAN).nm,(VB.getD i qAN).i,((VB.getD i qAN).chA),((VB.getD i qAN).chc),((VB.getD i qAN).ch),((VB.getD i qAN).ptA),((VB.getD i qAN).ptc),((VB.getD i qAN).pt),(VB.getD i qAN).an,(VB.getD i qAN).op,(VB.getD i qAN).rt,(VB.getD i qAN).ht,((VB.getD i qAN).bsA),((VB.getD i qAN).bsc),((VB.getD i qAN).bs),(VB.getD i qAN).th,(VB.getD i qAN).pk,(VB.getD i qAN).pv⟩:VtD)]) rfl (by intro x hx;rw [List.mem_singleton.1 hx];rfl)).sl) rfl (by omega) (by omega)) rfl ?_
  rintro⟨A93,c93,m93⟩ h93
  try dsimp only at h93
  replace h93:Row m93 74 15 A93 ((pkV sp false VB i).length+1) c93 (qHB (pkV sp false VB (i+1))):=by rw [qIc h79,qGD];exact h93
  rw [show(pkV sp false VB i).length+1=(pkV sp false VB (i+1)).length by rw [qIc h79,jA];rfl] at h93⊢
  refine J.b O<|J.a3<|J.a2<|J.u (J.D j19 ?_)
  exact J.H<|J.b O<|J.g ((qAS O O O (by omega)).nat (i+1) (by omega)) O<|J.b O<|J.a3<|J.u<|J.a4 (i+1,Aa,ca,ma,A93,c93,m93) (λη (hη:_∧3-η.1<3-i)=>hI0 η hη.1 hη.2) ⟨⟨by dsimp only;omega,hra,h93⟩,by dsimp only;omega⟩ ⟨O,O,O,O,O,O,O,O,O,O,O,trivial⟩ (λ_ h=>h.pick [0,1,2,3,4,5,6,7,8,9,10,11,12,13,14] (by decide))
 obtain rfl:i=3:=by omega
 have hpA:=qQL hsA hlA sp true
 have hpB:=qQL hsB hlB sp false
 have hsum:=qQK sp 3
 rw [←qId sp true VA,←qId sp false VB] at hsum
 have hVA:(pkV sp true VA 3).length≤100000:=by omega
 have hVB:(pkV sp false VB 3).length≤100000:=by omega
 refine J.b2<|J.a0<|J.a0<|J.b3 ?_
 refine J.u (J.D j15 ?_)
 refine J.d4 (X:=Nat×Nat×Nat×Nat) (λζ=> [(8,Ptr ζ.1),(10,Ptr ζ.2.2.1),(12,Ptr g12),(15,Ptr g15),(18,.slice Aa ((pkV sp true VA 3).length) ca),(19,.slice Ab ((pkV sp false VB 3).length) cb)]) (λζ=> [blk ζ.1 [I ((3:Nat):Int),I ((2:Nat):Int),.slice (some ⟨ζ.2.1,0,none⟩) 1 1] 89,blk ζ.2.1 [N64 (p.ep),Str (p.par),I ((p.dep:Nat):Int),I ((p.aud:Nat):Int),.slice p.nsA p.ns.length p.nsc] 34,blk ζ.2.2.1 [I ((3:Nat):Int),I ((2:Nat):Int),.slice (some ⟨ζ.2.2.2,0,none⟩) 1 1] 89,blk ζ.2.2.2 [N64 (p.ep),Str (p.par),I ((p.dep:Nat):Int),I ((p.aud:Nat):Int),.slice p.nsA p.ns.length p.nsc] 34,U [H,y53.1.G],F,blk g12 [N64 (yh.ep),Str (yh.par),I ((yh.dep:Nat):Int),I ((yh.aud:Nat):Int),.slice yh.nsA yh.ns.length yh.nsc] 34,blk g15 [N64 (yr.ep),Str (yr.par),I ((yr.dep:Nat):Int),I ((yr.aud:Nat):Int),.slice yr.nsA yr.ns.length yr.nsc] 34,m61,ma,mb,GVA,GVB]) (λζ=>True) (λ_ j21=>?_) ?_
 ·
  refine J.f λ_ j22=>J.b O<|J.c j22<|J.c6 O (λh94=>?_) (λh94=>?_)
  ·
   exact J.H<|J.q 4 O<|J.a3<|J.u<|J.a4 (gc2,gh2,gc1,gh1) j21 (trivial) ⟨O,O,O,O,O,O,trivial⟩ (λ_ h=>h.pick [7,8,5,6,2,3,4,9,10,0,1,12,14] (by decide))
  exact J.b5<|J.u<|J.a4 (gc1,gh1,gc2,gh2) j21 (trivial) ⟨O,O,O,O,O,O,trivial⟩ (λ_ h=>h.pick [5,6,7,8,2,3,4,9,10,0,1,12,14] (by decide))
 rintro⟨ga,gha,gb,ghb⟩ _
 dsimp only at⊢
 refine J.d4 (X:=Unit) (λζ=> [(18,.slice Aa ((pkV sp true VA 3).length) ca),(19,.slice Ab ((pkV sp false VB 3).length) cb),(21,I ((((if 2≤(pkV sp true VA 3).length then 0 else 16:Nat)):Int))),(22,I ((((if 2≤(pkV sp false VB 3).length then 0 else 16:Nat)):Int)))]) (λζ=> [F]) (λζ=>True) (λ_ j23=>?_) ?_
 ·
  refine J.b0 [blk g12 [N64 (yh.ep),Str (yh.par),I ((yh.dep:Nat):Int),I ((yh.aud:Nat):Int),.slice yh.nsA yh.ns.length yh.nsc] 34,blk g15 [N64 (yr.ep),Str (yr.par),I ((yr.dep:Nat):Int),I ((yr.aud:Nat):Int),.slice yr.nsA yr.ns.length yr.nsc] 34] [] (.y 0 (.y 1 (.y 2 (.y 3 (.y 5 (.y 6 (.y 7 (.y 8 (.e 4 (.e 9 (.y 10 (.y 11 .nil)))))))))))) Tryz.wide (by decide+kernel) (by simp) ?_
  refine J.L ?_
  refine J.j O (qAY 0 O O O qDT qBz O) O O<|J.L ?_
  refine J.j O (qAK (places:= [(0,5),(5,1)]) (r:= [N64 (yh.ep),Str (yh.par),I ((yh.dep:Nat):Int),I ((yh.aud:Nat):Int),.slice yh.nsA yh.ns.length yh.nsc,.slice Aa ((pkV sp true VA 3).length) ca]) O O O qVe zeroValue50 (λ_=>by kernel_rfl) O) O O<|J.L ?_
  refine J.j O (qAY 1 O O O qDT qBz O) O O<|J.L ?_
  refine J.j O (qAK (places:= [(0,5),(5,1)]) (r:= [N64 (yr.ep),Str (yr.par),I ((yr.dep:Nat):Int),I ((yr.aud:Nat):Int),.slice yr.nsA yr.ns.length yr.nsc,.slice Ab ((pkV sp false VB 3).length) cb]) O O O qVe zeroValue50 (λ_=>by kernel_rfl) O) O O<|J.Z O (qAB O O ent11 (Ct.useA [blk ga [I ((3:Nat):Int),I ((2:Nat):Int),.slice (some ⟨gha,0,none⟩) 1 1] 89,blk gha [N64 (p.ep),Str (p.par),I ((p.dep:Nat):Int),I ((p.aud:Nat):Int),.slice p.nsA p.ns.length p.nsc] 34] [blk gb [I ((3:Nat):Int),I ((2:Nat):Int),.slice (some ⟨ghb,0,none⟩) 1 1] 89,blk ghb [N64 (p.ep),Str (p.par),I ((p.dep:Nat):Int),I ((p.aud:Nat):Int),.slice p.nsA p.ns.length p.nsc] 34,U [H,y53.1.G],F,blk g12 [N64 (yh.ep),Str (yh.par),I ((yh.dep:Nat):Int),I ((yh.aud:Nat):Int),.slice yh.nsA yh.ns.length yh.nsc] 34,blk g15 [N64 (yr.ep),Str (yr.par),I ((yr.dep:Nat):Int),I ((yr.aud:Nat):Int),.slice yr.nsA yr.ns.length yr.nsc] 34,m61,ma,mb,GVA,GVB] (A':=λr:CaR=> [blk ga [I ((3:Nat):Int),I ((2:Nat):Int),.slice r.A r.hd.length r.c] 89,r.m]) (new:=λr=> [r.N]) (λF' hF=>by have:=qFL F' (blk gha [N64 (p.ep),Str (p.par),I ((p.dep:Nat):Int),I ((p.aud:Nat):Int),.slice p.nsA p.ns.length p.nsc] 34) (hK.mo hF) ga 3 2 (some ⟨gha,0,none⟩) 1 [p] (qPt gha p) (by show 0<1;decide) (by show 1≤1000;decide) hpg (hpn2.mono (Fa hF)) hps 0 3 (by decide) hpd hperr (by decide) (by decide) (by decide) (by decide) hpa (qBW 3 0 3) hdr yh hyg (hyn.mono (Fa hF)) hyl Aa (pkV sp true VA 3).length ca (pkV sp true VA 3) (hra.sl.mono (Fa hF)) hVA (λi hi=>(hpA.vo i hi).mono (Fa hF));rw [show qDS (qA1 (([p]:List RhD).getD (([p]:List RhD).length-1) qAc)) (qA1 yh) (qBW 3 0 3) 3 (2^0) 2 (pkV sp true VA 3)=(((if 2≤(pkV sp true VA 3).length then 0 else 16:Nat)):Int) by show qDS (qA1 p) _ _ _ _ _ _=_;rw [hp0,qXZ (by decide) (by decide) (by decide) hnx hyd hpA]] at this;exact this))) rfl (by simp) ?_
  rintro⟨hdP,AP,cP,mcP,NcP⟩ _
  refine J.c1 [2,3,0,1,4,5,6,7,8,9,10,11,12,13] [blk gb [I ((3:Nat):Int),I ((2:Nat):Int),.slice (some ⟨ghb,0,none⟩) 1 1] 89,blk ghb [N64 (p.ep),Str (p.par),I ((p.dep:Nat):Int),I ((p.aud:Nat):Int),.slice p.nsA p.ns.length p.nsc] 34,blk ga [I ((3:Nat):Int),I ((2:Nat):Int),.slice AP hdP.length cP] 89,mcP,U [H,y53.1.G],F,blk g12 [N64 (yh.ep),Str (yh.par),I ((yh.dep:Nat):Int),I ((yh.aud:Nat):Int),.slice yh.nsA yh.ns.length yh.nsc] 34,blk g15 [N64 (yr.ep),Str (yr.par),I ((yr.dep:Nat):Int),I ((yr.aud:Nat):Int),.slice yr.nsA yr.ns.length yr.nsc] 34,m61,ma,mb,GVA,GVB,NcP] O (by decide)<|J.Z O (qAB O O ent11 (Ct.useA [blk gb [I ((3:Nat):Int),I ((2:Nat):Int),.slice (some ⟨ghb,0,none⟩) 1 1] 89,blk ghb [N64 (p.ep),Str (p.par),I ((p.dep:Nat):Int),I ((p.aud:Nat):Int),.slice p.nsA p.ns.length p.nsc] 34] [blk ga [I ((3:Nat):Int),I ((2:Nat):Int),.slice AP hdP.length cP] 89,mcP,U [H,y53.1.G],F,blk g12 [N64 (yh.ep),Str (yh.par),I ((yh.dep:Nat):Int),I ((yh.aud:Nat):Int),.slice yh.nsA yh.ns.length yh.nsc] 34,blk g15 [N64 (yr.ep),Str (yr.par),I ((yr.dep:Nat):Int),I ((yr.aud:Nat):Int),.slice yr.nsA yr.ns.length yr.nsc] 34,m61,ma,mb,GVA,GVB,NcP] (A':=λr:CaR=> [blk gb [I ((3:Nat):Int),I ((2:Nat):Int),.slice r.A r.hd.length r.c] 89,r.m]) (new:=λr=> [r.N]) (λF' hF=>by have:=qFL F' (blk ghb [N64 (p.ep),Str (p.par),I ((p.dep:Nat):Int),I ((p.aud:Nat):Int),.slice p.nsA p.ns.length p.nsc] 34) (hK.mo hF) gb 3 2 (some ⟨ghb,0,none⟩) 1 [p] (qPt ghb p) (by show 0<1;decide) (by show 1≤1000;decide) hpg (hpn2.mono (Fa hF)) hps 0 3 (by decide) hpd hperr (by decide) (by decide) (by decide) (by decide) hpa (qBW 3 0 3) hdr yr hrg (hrn.mono (hF (m61) (by simp))) hrl Ab (pkV sp false VB 3).length cb (pkV sp false VB 3) (hrb.sl.mono (Fa hF)) hVB (λi hi=>(hpB.vo i hi).mono (Fa hF));rw [show qDS (qA1 (([p]:List RhD).getD (([p]:List RhD).length-1) qAc)) (qA1 yr) (qBW 3 0 3) 3 (2^0) 2 (pkV sp false VB 3)=(((if 2≤(pkV sp false VB 3).length then 0 else 16:Nat)):Int) by show qDS (qA1 p) _ _ _ _ _ _=_;rw [hp0,qXZ (by decide) (by decide) (by decide) hrx hrd hpB]] at this;exact this))) rfl (by simp) ?_
  rintro⟨hdQ,AQ,cQ,mcQ,NcQ⟩ _
  refine J.b6 ?_
  refine J.b6 ?_
  exact J.a8<|J.u<|J.a4 () j23 (trivial) ⟨O,O,O,O,trivial⟩ (λ_ h=>h.pick [5] (by decide))
 rintro _ _
 by_cases hA:2≤(pkV sp true VA 3).length
 ·
  rw [if_pos hA,if_neg (show¬2≤(pkV sp false VB 3).length by omega)]
  exact J.f λ_ j24=>J.b O<|J.g ((qAg O O O).yes (by decide)) O<|J.b O<|J.g (qAU qJa O O) O<|J.g ((qBA O O O).yes (by omega)) O<|J.g ((qIn u4_ O O O).as (v':= .bool true) O) O<|J.q 2 O<|J.G ((qAg O O O).no (by decide)) O<|J.b O<|J.G (qAU qJa O O) O<|J.G ((qBA O O O).no (by omega)) O<|J.G ((qIn u4_ O O O).as (v':= .bool true) O) O<|J.q 3 O<|J.G ((qAe O O O).no (by decide)) O<|J.q 2 O<|J.G ((qAe O O O).yes (by decide)) O<|J.q 3 O<|J.c j24<|J.A<|J.E hw0 O () O trivial [0] O (by decide)
 rw [if_neg hA,if_pos (show 2≤(pkV sp false VB 3).length by omega)]
 exact J.f λ_ j25=>J.b O<|J.g ((qAg O O O).no (by decide)) O<|J.b O<|J.g (qAU qJa O O) O<|J.g ((qBA O O O).no (by omega)) O<|J.g ((qIn u4_ O O O).as (v':= .bool true) O) O<|J.q 2 O<|J.G ((qAg O O O).yes (by decide)) O<|J.b O<|J.G (qAU qJa O O) O<|J.G ((qBA O O O).yes (by omega)) O<|J.G ((qIn u4_ O O O).as (v':= .bool true) O) O<|J.q 3 O<|J.G ((qAe O O O).yes (by decide)) O<|J.q 6 O<|J.c j25<|J.A<|J.E hw0 O () O trivial [0] O (by decide)
end Go.Proofs.YtcgcjaflllmlpaaGreatDoor
