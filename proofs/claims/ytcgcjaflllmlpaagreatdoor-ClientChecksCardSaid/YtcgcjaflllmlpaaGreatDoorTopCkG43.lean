/- A part of the proof. -/
import Derived.Test.YtcgcjaflllmlpaaGreatDoorTopCkG42
set_option maxRecDepth 100000
set_option maxHeartbeats 1000000
set_option linter.unusedSimpArgs false
set_option linter.unusedVariables false
namespace Go.Proofs.YtcgcjaflllmlpaaGreatDoor
open Go Go.Fw Go.Proofs.Tryz
attribute [local irreducible] Sha.tagged Wo.pub Wo.publicOf Wo.signs Wo.ends Wo.digs Wo.walk Wo.opn Mk.root Mk.path Mk.climb Xm.root sgC sgP qBI qBf sgB qAL kvT qBj qAN
theorem qOh(F:Hp)(hK:KF F)(hA:qAM F ⟨2,0,none⟩ qBd)(hT:qCI F):Cz prog 5 [] F (.bool true):=by
 refine Ct.walk func5 O ntmps5 O (λw0 hw0=>?_)
 refine J.g λ_ j1=>J.b O<|J.c j1<|J.g λ_ j2=>J.p (qBr O O (λF' hF=>qKc F' (hK.mo hF) (hA.mono (Fa hF)) (hT.mono (Fa hF)) 2 0 xC xC xC)) O ?_
 rintro⟨gw,x,gs,kA,kc,gu,uc,ms,mu,H⟩ hP
 try dsimp only at hP
 obtain ⟨hS,hN,hW⟩:=hP
 dsimp only at hS hN hW
 obtain ⟨p,hp⟩: ∃p,x.hd.getD 0 qAc=p:=⟨_,rfl⟩
 have hp0:qA0 p=pW 2 0:=by rw [←hp];exact hN.h0
 have hpg:(qA0 p).good:=by rw [hp0];exact qLv 2 xC
 have hpn:nsl H p:=by have:=hS.p.hn 0 (by rw [hN.hd1];decide);rw [hp] at this;exact this
 have hperr:(qA0 p).err=0:=by rw [hp0];exact qMR xC xC
 have hpgen:(qA0 p).gen=0:=qX8 (by rw [hperr];decide) (by rw [hp0];exact λh=>h O) (by rw [hp0];exact λh=>h O)
 have hpa:p.aud=2:=by have:=congrArg Hd.aud hp0;exact yE this
 have hpd:p.dep=0:=by have:=congrArg Hd.dep hp0;exact yE this
 have hpl:p.ns=qAq (qAN 2) 0:=congrArg Hd.nodes hp0
 have hhd1:=hN.hd1
 refine J.b O<|J.c j2<|J.g λ_ j3=>J.f (qAH (places:= [(0,1),(1,1)]) (r:= [I (2:Nat),I (2:Nat)]) O O O qHx qV8 (λ_=>xI) O) O<|J.p (qAJ O qV8 O) O λg2 _=>J.a6 (qAD (i:=4) (l:= [I 0,I 0]) (vs:= [I (2:Nat),I (2:Nat)]) O O O O O qON O O) O O λ_ _=>J.c j3<|J.q λ_ j4=>J.g λ_ j5=>J.b O<|J.f ((qA4 underlying23 O O O).as (v':= .bool false) O) O<|J.k 2 O<|J.c8 (qAK O O ent (Ct.use1 1 O (λF' hF=>qLs F' ms H (hK.mo hF) (hA.mono (Fa hF)) (hT.mono (Fa hF)) (Fa hF) x hS gw 2 kc uc kA (some ⟨gu,0,none⟩) (hW.w.mono (Fa hF)) [97,108,105,99,101] xC qVw [97] xC (by rw [hN.no];decide) (by rw [hN.nxt];rfl) (by rw [hN.now];rfl)))) O ?_
 rintro⟨ms1,y1⟩ hS1
 try dsimp only at hS1
 refine J.D (qAt O O) O<|J.b O<|J.c j5<|J.a2 ?_
 refine J.T j4<|J.q λ_ j6=>J.b1 [F,ms1,mu,H,blk g2 [I (2:Nat),I (2:Nat)] 26] [] (.y 0 (.y 1 (.y 2 (.y 3 (.y 7 (.e 4 (.y 5 (.y 6 (.e 8 (.y 9 (.y 10 (.y 11 (.y 12 (.y 13 .nil)))))))))))))) Tryz.wide xF xD ?_
 refine J.L ?_
 refine J.j O (qAB O O) O O<|J.j O (qAA O O qEt O qJl O) O O<|J.j O (qAI O O qLU (m:=H) xD (hW.w.at (i:=0) O)) O O<|J.j O (qAW 4 O O O qS2 qON O) O O<|J.e7 (λq:Option Addr×Nat×Hp=>_++ [q.2.2]) O (qBr O O (λF' hF=>qDR F' (x.put [97,108,105,99,101] [97] y1) (hS1.cells.mono (Fa hF)) (hS1.hsl.mono (Fa hF)) (by show x.hd.length≤_;omega))) O O O (λ_ _ h=>jg _ h) xD ?_
 rintro⟨A27,c27,m27⟩ h27
 try dsimp only at h27
 change J _ ((27,.slice A27 x.hd.length c27)::_) _ [_,_,_,_,_,m27] _
 replace h27:Row m27 34 5 A27 x.hd.length c27 (qCk x.hd):=h27
 refine J.j O (qAF (i:=0) O O O qEY qBv h27.sl xB) O O<|J.j O (qAV O O qDF qBv (m:=m27) xD (by have:=h27.sl.elem (qB3 (l:=x.hd) (k:=0) xB);rw [hp] at this;exact this) O) O O<|J.Z O (qBr O O (λF' hF=>qSH F' p hpg (hpn.mono (Fa hF)) hpgen 2 2 xC xC xB)) O xD ?_
 rintro⟨gc,gh⟩ _
 refine J.L ?_
 refine J.c2 (Ptr gc) ?_
 refine J.c2 (I (0:Nat)) ?_
 refine J.b7 ?_
 refine J.b7 ?_
 refine J.a9<|J.u (J.G j6 ?_)
 refine J.g λ_ j7=>J.b O<|J.f (qAB O O) O<|J.M 0 qEt qJl O O O O O<|J.f (qAI O O qLU (m:=H) xD (hW.w.at (i:=0) O)) O<|J.p (qAK O O ent (Ct.use1 1 O (λF' hF=>qQf F' ms1 H (hK.mo hF) (Fa hF) (x.put [97,108,105,99,101] [97] y1) hS1 (by show x.tg.length<15;rw [hN.tg1];decide) (hN.room xC y1)))) O ?_
 rintro⟨mp,y39⟩ hp2
 try dsimp only at hp2
 change J _ ((39,.tuple #[.agg #[N64 ((adH (qA0 (x.put [97,108,105,99,101] [97] y1).hdL).dig (x.put [97,108,105,99,101] [97] y1).dp (x.put [97,108,105,99,101] [97] y1).audN.length (x.put [97,108,105,99,101] [97] y1).hd (kvT (x.put [97,108,105,99,101] [97] y1).kvL (x.put [97,108,105,99,101] [97] y1).cl (x.put [97,108,105,99,101] [97] y1).dp (2^(x.put [97,108,105,99,101] [97] y1).dp)) y39.1.nA y39.1.nc).ep),Str ((adH (qA0 (x.put [97,108,105,99,101] [97] y1).hdL).dig (x.put [97,108,105,99,101] [97] y1).dp (x.put [97,108,105,99,101] [97] y1).audN.length (x.put [97,108,105,99,101] [97] y1).hd (kvT (x.put [97,108,105,99,101] [97] y1).kvL (x.put [97,108,105,99,101] [97] y1).cl (x.put [97,108,105,99,101] [97] y1).dp (2^(x.put [97,108,105,99,101] [97] y1).dp)) y39.1.nA y39.1.nc).par),I ((adH (qA0 (x.put [97,108,105,99,101] [97] y1).hdL).dig (x.put [97,108,105,99,101] [97] y1).dp (x.put [97,108,105,99,101] [97] y1).audN.length (x.put [97,108,105,99,101] [97] y1).hd (kvT (x.put [97,108,105,99,101] [97] y1).kvL (x.put [97,108,105,99,101] [97] y1).cl (x.put [97,108,105,99,101] [97] y1).dp (2^(x.put [97,108,105,99,101] [97] y1).dp)) y39.1.nA y39.1.nc).dep:Nat),I ((adH (qA0 (x.put [97,108,105,99,101] [97] y1).hdL).dig (x.put [97,108,105,99,101] [97] y1).dp (x.put [97,108,105,99,101] [97] y1).audN.length (x.put [97,108,105,99,101] [97] y1).hd (kvT (x.put [97,108,105,99,101] [97] y1).kvL (x.put [97,108,105,99,101] [97] y1).cl (x.put [97,108,105,99,101] [97] y1).dp (2^(x.put [97,108,105,99,101] [97] y1).dp)) y39.1.nA y39.1.nc).aud:Nat),.slice (adH (qA0 (x.put [97,108,105,99,101] [97] y1).hdL).dig (x.put [97,108,105,99,101] [97] y1).dp (x.put [97,108,105,99,101] [97] y1).audN.length (x.put [97,108,105,99,101] [97] y1).hd (kvT (x.put [97,108,105,99,101] [97] y1).kvL (x.put [97,108,105,99,101] [97] y1).cl (x.put [97,108,105,99,101] [97] y1).dp (2^(x.put [97,108,105,99,101] [97] y1).dp)) y39.1.nA y39.1.nc).nsA (adH (qA0 (x.put [97,108,105,99,101] [97] y1).hdL).dig (x.put [97,108,105,99,101] [97] y1).dp (x.put [97,108,105,99,101] [97] y1).audN.length (x.put [97,108,105,99,101] [97] y1).hd (kvT (x.put [97,108,105,99,101] [97] y1).kvL (x.put [97,108,105,99,101] [97] y1).cl (x.put [97,108,105,99,101] [97] y1).dp (2^(x.put [97,108,105,99,101] [97] y1).dp)) y39.1.nA y39.1.nc).ns.length (adH (qA0 (x.put [97,108,105,99,101] [97] y1).hdL).dig (x.put [97,108,105,99,101] [97] y1).dp (x.put [97,108,105,99,101] [97] y1).audN.length (x.put [97,108,105,99,101] [97] y1).hd (kvT (x.put [97,108,105,99,101] [97] y1).kvL (x.put [97,108,105,99,101] [97] y1).cl (x.put [97,108,105,99,101] [97] y1).dp (2^(x.put [97,108,105,99,101] [97] y1).dp)) y39.1.nA y39.1.nc).nsc],.slice y39.1.At y39.1.tl.length y39.1.ct,I (0:Nat)])::_) _ [_,mp,_,_,_,_,_,_,y39.1.G,y39.1.mo] _
 obtain ⟨yh,hyh⟩: ∃z:RhD,z=(adH (qA0 (x.put [97,108,105,99,101] [97] y1).hdL).dig (x.put [97,108,105,99,101] [97] y1).dp (x.put [97,108,105,99,101] [97] y1).audN.length (x.put [97,108,105,99,101] [97] y1).hd (kvT (x.put [97,108,105,99,101] [97] y1).kvL (x.put [97,108,105,99,101] [97] y1).cl (x.put [97,108,105,99,101] [97] y1).dp (2^(x.put [97,108,105,99,101] [97] y1).dp)) y39.1.nA y39.1.nc):=⟨_,rfl⟩
 rw [←hyh]
 have hI1:=hS1.i
 have hPb:=(hN.toBas6.put y1).pub xC hI1 y39
 have hyt:qA0 yh=hdN 2 0 ((x.put [97,108,105,99,101] [97] y1).pub y39).kvL:=by rw [hyh,←SvR.pub_hdL];exact hPb.2.1
 refine J.k 4 O<|J.p (qAJ O qUv O) O λg5 _=>J.a6 (qAD (i:=10) (l:= [.int .u64 0,Str [],I 0,I 0,.slice none 0 0]) (vs:= [N64 (yh.ep),Str (yh.par),I (yh.dep:Nat),I (yh.aud:Nat),.slice yh.nsA yh.ns.length yh.nsc]) O O O O O qBv O O) O O λ_ _=>J.k 2 O<|J.c5 [3,8,1,2,0,4,6,7,10] [H,y39.1.G,mp,mu,F,blk g2 [I (2:Nat),I (2:Nat)] 26,blk gc [I (2:Nat),I (2:Nat),.slice (some ⟨gh,0,none⟩) 1 1] 89,blk gh [N64 (p.ep),Str (p.par),I (p.dep:Nat),I (p.aud:Nat),.slice p.nsA p.ns.length p.nsc] 34,blk g5 [N64 (yh.ep),Str (yh.par),I (yh.dep:Nat),I (yh.aud:Nat),.slice yh.nsA yh.ns.length yh.nsc] 34] O xC<|J.d6 (λhj=>?_)
 refine J.c j7<|J.q λ_ j8=>J.q λ_ j9=>?_
 have hS2:Srv mp (U [H,y39.1.G]) ((x.put [97,108,105,99,101] [97] y1).pub y39):=hp2.s _ (qHE hj) (qSy hj)
 have hkf:=hS2.i.kf
 have hyg:(qA0 yh).good:=by rw [hyt];exact qNr xC xC
 have hyn:nsl (U [H,y39.1.G]) yh:=by have:=hp2.ns;rw [SvR.pub_hdL,←hyh] at this;exact this.mono (qSy hj)
 have hyd:(qA0 yh).dig.length=16:=by rw [hyt];exact qRp xC xC hkf
 have hye:yh.ep=1:=congrArg Hd.ep hyt
 have hyns:yh.ns=qAq ((x.put [97,108,105,99,101] [97] y1).pub y39).kvL 0:=congrArg Hd.nodes hyt
 have hyl:yh.ns.length≤1000000:=by rw [hyns,qKZ];decide
 have hnx:(pW 2 0).next (qA0 yh)=0:=by rw [hyt];exact qNq xC xC hkf
 have hpd2:((x.put [97,108,105,99,101] [97] y1).pub y39).hd.getD 0 qAc=p:=hPb.2.2.trans hp
 have hW2:Wld 2 (List.replicate 2 0) (U [H,y39.1.G]) mu gw ((x.put [97,108,105,99,101] [97] y1).pub y39) gs kA kc gu uc:=(hW.mono (qHE hj)).of O
 have hdr:qMh (qA0 p).dig (2^0) 2 2 (qBj 2 0 2):=by rw [hp0];exact qMV xC xC xC xC
 have hps: ∀s∈p.ns,s.length≤1048576:=by rw [hpl];exact qCH _
 refine J.c5 [5,6,0,1,2,3,4,7] [blk gc [I (2:Nat),I (2:Nat),.slice (some ⟨gh,0,none⟩) 1 1] 89,blk gh [N64 (p.ep),Str (p.par),I (p.dep:Nat),I (p.aud:Nat),.slice p.nsA p.ns.length p.nsc] 34,U [H,y39.1.G],mp,mu,F,blk g2 [I (2:Nat),I (2:Nat)] 26,blk g5 [N64 (yh.ep),Str (yh.par),I (yh.dep:Nat),I (yh.aud:Nat),.slice yh.nsA yh.ns.length yh.nsc] 34] O xC<|J.b1 [blk g5 [N64 (yh.ep),Str (yh.par),I (yh.dep:Nat),I (yh.aud:Nat),.slice yh.nsA yh.ns.length yh.nsc] 34,blk g2 [I (2:Nat),I (2:Nat)] 26] [] (.y 0 (.y 1 (.y 2 (.y 3 (.y 4 (.y 5 (.y 6 (.y 7 (.y 8 (.y 9 (.y 10 (.y 11 (.e 12 (.y 13 (.e 14 (.y 15 (.y 16 .nil))))))))))))))))) Tryz.wide xF xD ?_
 refine J.L ?_
 refine J.j O ((qAe O O O).no xC) O O<|J.L ?_
 refine J.c0 O (qA2 O O) O O<|J.c0 O ((qAe O O O).no xC) O O<|J.e2 ?_
 refine J.L ?_
 refine J.c0 O (qA2 O O) O O<|J.c0 O (qAW 0 O O O qDF qBv O) O O<|J.c0 O (qA2 O O) O O<|J.c0 O (qAW 1 O O O qS2 qON O) O O<|J.c0 O (qAW 0 O O O qDF qBv O) O O<|J.e5 O (qAK O O ent (Ct.use1 4 O (λF' hF=>qJv F' mu mp (hK.mo hF) 2 0 2 2 xC xC xC xC xC ((x.put [97,108,105,99,101] [97] y1).pub y39) (hS2.mono (Fa hF)) (Fa hF) hPb.1 gw gs kA kc gu uc (List.replicate 2 0) (hW2.mono (Fa hF)) 0 xC (rep0 2) yh hyg (hyn.mono (Fa hF)) xB hyd p hpd2))) (Wan.is O O O O O) O O xD ?_
 rintro⟨V5,us5,AV5,cV5,mV5,mu5,GV5⟩ hv5
 try dsimp only at hv5
 have hso5:=hv5.hon.some hv5.len
 dsimp only at hso5
 refine J.c0 O (qAH (places:= [(0,5),(5,1)]) (r:= [N64 (yh.ep),Str (yh.par),I (yh.dep:Nat),I (yh.aud:Nat),.slice yh.nsA yh.ns.length yh.nsc,.slice AV5 V5.length cV5]) O O O qVd zeroValue50 (λ_=>xI) O) O O ?_
 have hVl:V5.length≤100000:=by have:=hv5.len;dsimp only at this;rw [this];decide
 have hpn2:nsl (U [H,y39.1.G]) p:=hpn.mono (qHE hj)
 refine J.e5 O (qAK O O ent (Ct.useA [blk gc [I (2:Nat),I (2:Nat),.slice (some ⟨gh,0,none⟩) 1 1] 89,blk gh [N64 (p.ep),Str (p.par),I (p.dep:Nat),I (p.aud:Nat),.slice p.nsA p.ns.length p.nsc] 34] [U [H,y39.1.G],mp,mu5,F,blk g2 [I (2:Nat),I (2:Nat)] 26,blk g5 [N64 (yh.ep),Str (yh.par),I (yh.dep:Nat),I (yh.aud:Nat),.slice yh.nsA yh.ns.length yh.nsc] 34,mV5,GV5] (A':=λr:CaR=> [blk gc [I (2:Nat),I (2:Nat),.slice r.A r.hd.length r.c] 89,r.m]) (new:=λr=> [r.N]) (λF' hF=>by have:=qIW F' (blk gh [N64 (p.ep),Str (p.par),I (p.dep:Nat),I (p.aud:Nat),.slice p.nsA p.ns.length p.nsc] 34) (hK.mo hF) gc 2 2 (some ⟨gh,0,none⟩) 1 [p] (qVi gh p) (by show 0<1;decide) (by show 1≤1000;decide) hpg (hpn2.mono (Fa hF)) hps 0 2 xC hpd hperr xC xC xC xC hpa (qBj 2 0 2) hdr yh hyg (hyn.mono (Fa hF)) hyl AV5 V5.length cV5 V5 (hv5.row.sl.mono (Fa hF)) hVl (λi hi=>(hso5.vo i hi).mono (Fa hF));rw [show qEV (qA0 (([p]:List RhD).getD (([p]:List RhD).length-1) qAc)) (qA0 yh) (qBj 2 0 2) 2 (2^0) 2 V5=0 by show qEV (qA0 p) _ _ _ _ _ _=0;rw [hp0,qZx xC xC xC hnx hyd hso5,if_pos (by have:=hv5.len;dsimp only at this;rw [this];decide)];rfl] at this;exact this))) (Wan.is O O O O O) O O xD ?_
 rintro⟨hd5,A5,c5,mc,Nc⟩ ha5
 try dsimp only at ha5
 obtain ⟨A6,c6,hl6,hn6⟩:=ha5.yes rfl
 dsimp only at hl6 hn6
 obtain ⟨yl,hyl_⟩: ∃z:RhD,z=⟨yh.ep,yh.par,yh.dep,yh.aud,A6,c6,yh.ns⟩:=⟨_,rfl⟩
 rw [←hyl_] at hl6
 have hlen5:hd5.length=2:=by rw [hl6];rfl
 have hlast:hd5.getD (hd5.length-1) qAc=yl:=by rw [hl6];rfl
 have hylt:qA0 yl=qA0 yh:=by rw [hyl_];rfl
 have hyln:nsl Nc yl:=by rw [hyl_];exact hn6
 have hnw:=hN.now_ y1 hI1 hp2
 have hgt:=hN.get y1 hI1 y39
 refine J.c0 O ((qAe O O O).no xC) O O<|J.e2 ?_
 refine J.a9<|J.u (J.G j9 ?_)
 refine J.a2 ?_
 refine J.T j8<|J.g λ_ j10=>J.b O<|J.f (qAB O O) O<|J.M 0 qEt qJl O O O O O<|J.f (qAI O O qLU (m:=U [H,y39.1.G]) xD ((hW.w.mono (qHE hj)).at (i:=0) O)) O<|J.p (qBr O O (λF' hF=>qIq F' (hK.mo hF) ((x.put [97,108,105,99,101] [97] y1).pub y39) hS2.i (hS2.cells.mono (Fa hF)) (hS2.tsl.mono (Fa hF)) (hS2.tree.mono (Fa hF)) (hS2.p.nw.mono (Fa hF)) (hS2.p.nl.mono (Fa hF)) [97,108,105,99,101] xC)) O ?_
 rintro r65 hr65
 have hro65:=hr65.ro
 rw [hnw] at hro65⊢
 refine J.k 3 O<|J.p (qAJ O qR7 O) O λg8 _=>J.a6 (qAD (i:=13) (l:= [Str [],.slice none 0 0,.slice none 0 0,.bool false,Str [],Str []]) (vs:= [Str [97,108,105,99,101],.slice r65.A ([(enW [97])]:List En).length r65.c,.slice r65.bA (bsd ((x.put [97,108,105,99,101] [97] y1).pub y39).kvL (Sha.tagged 11 [[97,108,105,99,101]]) 0 (r65.s-0)).length r65.bc,.bool (qAm ((x.put [97,108,105,99,101] [97] y1).pub y39).kvL (Sha.tagged 11 [[97,108,105,99,101]]) r65.s),Str (qBm ((x.put [97,108,105,99,101] [97] y1).pub y39).kvL (Sha.tagged 11 [[97,108,105,99,101]]) r65.s),Str (qBs ((x.put [97,108,105,99,101] [97] y1).pub y39).kvL (Sha.tagged 11 [[97,108,105,99,101]]) r65.s)]) O O O O O qJk O O) O O λ_ _=>J.b O<|J.c j10<|J.g λ_ j11=>J.b O<|J.b8 13 isAgg55 qJk O O O O O<|J.p (qAa O O (λF' hF=>(by have:=qMY F' (hK.mo hF) gc 2 2 A5 hd5.length c5 hd5 (ha5.row.sl.mono (Fa hF)) xB xB (qAM.blk0.mono (hF (blk gc [I (2:Nat),I (2:Nat),.slice A5 hd5.length c5] 89) xD)) (by rw [hlast,hylt];exact hyg) (by rw [hlast];exact hyln.mono (Fa hF)) (by rw [hlast,hyl_];dsimp only;rw [hyns];exact qCH _) [97,108,105,99,101] xC r65.A ([(enW [97])]:List En).length r65.c [(enW [97])] (hro65.sl.mono (Fa hF)) (λz hz=>by rw [List.mem_singleton.1 hz];exact⟨xC,by show(Wo.opn _).length≤_;rw [Wo.opn_length];decide,by show(Xm.root _ _).length≤_;rw [show(Xm.root [97] 0).length=16 from Mk.root_16 _ _];decide,xC⟩) xC r65.bA r65.bc _ (hr65.rb.sl.mono (Fa hF)) _ _ _ (qEG hkf (Sha.tagged_length _ _) hr65.st) (qEJ hkf _ _);rw [hlast,qN7 hkf (Sha.tagged_length _ _) hr65.st (hylt.trans hyt) hgt] at this;exact this))) O λg71 _=>J.k 4 O<|J.p (qAJ O qFh O) O λg10 _=>J.a6 (qAD (i:=14) (l:= [.int .u64 0,Str [],Str [],I 0,Str []]) (vs:= [N64 1,Str (Wo.opn [97]),Str (Xm.root [97] 0),I (0:Nat),Str qAh]) O O O O O qBY O O) O O λ_ _=>J.k 2 O<|J.c j11<|J.g λ_ j12=>J.b O<|J.f ((qAX O O O).yes xC) O<|J.k 5 O<|J.c8 (qBr O O (λF' hF=>qU2 F' gc 2 2 A5 hd5.length c5 hd5 (ha5.row.sl.mono (Fa hF)) xB xB (qAM.blk0.mono (hF (blk gc [I (2:Nat),I (2:Nat),.slice A5 hd5.length c5] 89) xD)))) O ?_
 rintro⟨A82,c82,m82⟩ h82
 try dsimp only at h82
 exact J.D (qAR qEY O O) O<|J.D ((qAX O O O).yes (by rw [hlen5];rfl)) O<|J.k 2 O<|J.c j12<|J.A<|J.E hw0 O () O trivial [5] O xC
end Go.Proofs.YtcgcjaflllmlpaaGreatDoor