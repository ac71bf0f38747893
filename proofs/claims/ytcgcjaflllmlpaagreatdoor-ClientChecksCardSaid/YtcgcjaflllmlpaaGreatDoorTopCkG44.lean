/- A part of the proof. -/
import Derived.Test.YtcgcjaflllmlpaaGreatDoorTopCkG43
set_option maxRecDepth 100000
set_option maxHeartbeats 1000000
set_option linter.unusedSimpArgs false
set_option linter.unusedVariables false
namespace Go.Proofs.YtcgcjaflllmlpaaGreatDoor
open Go Go.Fw Go.Proofs.Tryz
attribute [local irreducible] Sha.tagged Wo.pub Wo.publicOf Wo.signs Wo.ends Wo.digs Wo.walk Wo.opn Mk.root Mk.path Mk.climb Xm.root sgC sgP qBI qBf sgB qAL qBj qAN
theorem qRX(j:Nat):(leS j).length≤1000000:=by unfold leS;split<;>decide
theorem qRY(j:Nat):(leS j).length≤1:=by unfold leS;split<;>decide
theorem qRW(j:Nat):decide (((leS j).length:Int)>0)=okS j:=by
 unfold leS okS
 by_cases h:j<2
 · rw [if_pos h,decide_eq_true h];exact decide_eq_true xC
 · rw [if_neg h,decide_eq_false h];exact decide_eq_false xD
theorem qUs(j:Nat):(exS j).good:=by
 unfold exS
 split
 · exact qCf 0 _ (by rw [show leS 0= [enO] from rfl];exact .head _)
 · exact⟨xC,xC,xC,xC⟩
theorem qKQ{P:Program}{env:Env}{ms:List Hp}{o:Oper}{t x y g j k off e sz n' c v i m}{A:Option Addr}{xs:List (List Value)}{a b:List Value}(hA:A=some ⟨g,0,none⟩)(ho:o.op= .store t x y)(hx:ev env x=some (.pointer (some ⟨g,j,none⟩)))(hy:ev env y=some v)(hi:ms[i]?=some m)(hr:Row m e sz A n' c xs)
    {vs:List Value} (hv:v.cells=vs.toArray) (hz: ∀w,(sizeOf t).run P w= .ok vs.length w) (h1:vs.all Value.oneCell'=true) (hj:j=k*sz+off) (ha:xs[k]?=some a) (hb:qBB a off vs=b) (hl:off+vs.length≤sz):
    EOp P env ms o (λ_:Hp=>undef) (λm'=>Row m' e sz A n' c (xs.set k b)) (λm'=>ms.set i m'):=by
  subst hA
  exact qBK ho hx hy hi hr hv hz h1 hj ha hb hl
theorem qPM(x:En):x.val.length≤1048576:=by
 unfold En.val qCV
 split
 · rw [Sha.tagged_length];decide
 · exact jG _
theorem qPO(F:Hp)(hK:KF F)(hA:qAM F ⟨2,0,none⟩ qBd)(hT:qCI F)(lb hw:UInt8):Cz prog 3 [B8 (lb),B8 (hw)] F (.bool true):=by
 have hlb:=lb.toNat_lt
 have hhw:=hw.toNat_lt
 obtain ⟨L,hLd⟩: ∃L,L=lb.toNat%3:=⟨_,rfl⟩
 have hL:L<3:=xB
 obtain ⟨M,hMd⟩: ∃M,M=(L+1)%3:=⟨_,rfl⟩
 have hM:M<3:=xB
 have hLl:=qRY L
 have hMl:=qRY M
 have hxg:=qUs L
 refine Ct.walk func3 O ntmps3 O (λw0 hw0=>?_)
 change J _ [(0,_),(1,_)] _ _ _
 refine J.g λ_ j1=>J.b O<|J.c j1<|J.q λ_ j2=>J.g λ_ j3=>J.p (qAa O O (λF' hF=>qOh F' (hK.mo hF) (hA.mono (Fa hF)) (hT.mono (Fa hF)))) O λg39 _=>J.f (qAt O O) O<|J.c j3<|J.a2 ?_
 refine J.T j2<|J.g λ_ j4=>J.p (qAK O O ent (Ct.use (new:=λr:W6R=> [r.ms,r.mu,r.H]) (λF' hF=>qKc F' (hK.mo hF) (hA.mono (Fa hF)) (hT.mono (Fa hF)) 2 0 xC xC xC))) O ?_
 rintro⟨gw,x,gs,kA,kc,gu,uc,ms,mu,H⟩ hP
 try dsimp only at hP
 change J _ ((41,Ptr gw)::_) _ [F,ms,mu,H] _
 obtain ⟨hS,hN,hW⟩:=hP
 dsimp only at hS hN hW
 obtain ⟨p,hp⟩: ∃p,x.hd.getD 0 qAc=p:=⟨_,rfl⟩
 have hp0:qA0 p=pW 2 0:=by rw [←hp];exact hN.h0
 have hpg:(qA0 p).good:=by rw [hp0];exact qLv 2 xC
 have hpn:nsl H p:=by have:=hS.p.hn 0 (by rw [hN.hd1];decide);rw [hp] at this;exact this
 have hperr:(qA0 p).err=0:=by rw [hp0];exact qMR xC xC
 have hpgen:(qA0 p).gen=0:=qX8 (by rw [hperr];decide) (by rw [hp0];exact λh=>h O) (by rw [hp0];exact λh=>h O)
 have hpa:p.aud=2:=by have:=congrArg Hd.aud hp0;exact yE this
 have hpd:p.dep=0:=by have:=congrArg Hd.dep hp0;exact yE this
 have hpl:p.ns=qAq (qAN 2) 0:=congrArg Hd.nodes hp0
 have hhd1:=hN.hd1
 refine J.b O<|J.c j4<|J.g λ_ j5=>J.f (qAH (l:= [(0,.const ((Value.int IntKind.i64 2))),(1,.const ((Value.int IntKind.i64 2)))]) (vs:= [I (2:Nat),I (2:Nat)]) (places:= [(0,1),(1,1)]) (r:= [I (2:Nat),I (2:Nat)]) O O O qHx qV8 (λ_=>xI) O) O<|J.p (qAJ (l:= [I 0,I 0]) O qV8 O) O λg6 _=>?_
 change J _ _ _ [_,_,_,_,blk g6 [I 0,I 0] 26] _
 refine J.a6 (qAD (i:=4) (l:= [I 0,I 0]) (vs:= [I (2:Nat),I (2:Nat)]) O O O O O qON O O) O O λ_ _=>?_
 change J _ _ _ [_,_,_,_,blk g6 [I (2:Nat),I (2:Nat)] 26] _
 refine J.c j5<|J.q λ_ j6=>J.b1 [F,ms,mu,H,blk g6 [I (2:Nat),I (2:Nat)] 26] [] (.y 0 (.y 1 (.y 2 (.y 3 (.y 7 (.e 4 (.y 5 (.y 6 (.e 8 (.y 9 (.y 10 (.y 11 (.y 12 (.y 13 .nil)))))))))))))) Tryz.wide xF xD ?_
 refine J.L ?_
 refine J.j O (qAB O O) O O<|J.j O (qAA (j:=0) O O qEt O qJl O) O O<|J.j O (qAI (v:=Ptr x.gs) O O qLU (m:=H) xD (hW.w.at (i:=0) O)) O O<|J.j O (qAW 4 O O O qS2 qON O) O O<|J.e7 (λq:Option Addr×Nat×Hp=>_++ [q.2.2]) O (qAK O O ent (Ct.use (new:=λq:Option Addr×Nat×Hp=> [q.2.2]) (λF' hF=>qDR F' x (hS.cells.mono (Fa hF)) (hS.hsl.mono (Fa hF)) (by show x.hd.length≤_;omega)))) O O O (λ_ _ h=>jg _ h) xD ?_
 rintro⟨A48,c48,m48⟩ h48
 try dsimp only at h48
 change J _ ((48,.slice A48 x.hd.length c48)::_) _ [_,_,_,_,_,m48] _
 replace h48:Row m48 34 5 A48 x.hd.length c48 (qCk x.hd):=h48
 refine J.j O (qAF (i:=0) O O O qEY qBv h48.sl xB) O O<|J.j O (qAV (vs:= [N64 (p.ep),Str (p.par),I (p.dep:Nat),I (p.aud:Nat),.slice p.nsA p.ns.length p.nsc]) O O qDF qBv (m:=m48) xD (by have:=h48.sl.elem (qB3 (l:=x.hd) (k:=0) xB);rw [hp] at this;exact this) O) O O<|J.Z O (qAK O O ent (Ct.use (new:=λr:Nat×Nat=> [blk r.1 [I (2:Nat),I (2:Nat),.slice (some ⟨r.2,0,none⟩) 1 1] 89,blk r.2 [N64 (p.ep),Str (p.par),I (p.dep:Nat),I (p.aud:Nat),.slice p.nsA p.ns.length p.nsc] 34]) (λF' hF=>qSH F' p hpg (hpn.mono (Fa hF)) hpgen 2 2 xC xC xB))) O xD ?_
 rintro⟨gc,gh⟩ _
 change J _ ((52,.tuple #[Ptr gc,I (0:Nat)])::_) _ [_,_,_,_,_,_,blk gc [I (2:Nat),I (2:Nat),.slice (some ⟨gh,0,none⟩) 1 1] 89,blk gh [N64 (p.ep),Str (p.par),I (p.dep:Nat),I (p.aud:Nat),.slice p.nsA p.ns.length p.nsc] 34] _
 refine J.L ?_
 refine J.c2 (Ptr gc) ?_
 refine J.c2 (I (0:Nat)) ?_
 refine J.b7 ?_
 refine J.b7 ?_
 refine J.a9<|J.u (J.G j6 ?_)
 refine J.g λ_ j7=>J.b O<|J.p (qAK O O ent (Ct.use1 1 (m':=λy:Hp×SbR=>y.1) (new:=λ_=> []) O (λF' hF=>qLs F' ms H (hK.mo hF) (hA.mono (Fa hF)) (hT.mono (Fa hF)) (Fa hF) x hS gw 2 kc uc kA (some ⟨gu,0,none⟩) (hW.w.mono (Fa hF)) [97,108,105,99,101] xC qVw qD9 xC (by rw [hN.no];decide) (by rw [hN.nxt];rfl) (by rw [hN.now];rfl)))) O ?_
 rintro⟨ms1,y1⟩ hS1
 try dsimp only at hS1
 change J _ ((56,.bool true)::_) _ [_,ms1,_,_,_,_,_,_] _
 have hO1:=qZJ hN y1
 refine J.c j7<|J.g λ_ j8=>J.b O<|J.p (qAK O O ent (Ct.use1 1 (m':=λy:Hp×SbR=>y.1) (new:=λ_=> []) O (λF' hF=>qLs F' ms1 H (hK.mo hF) (hA.mono (Fa hF)) (hT.mono (Fa hF)) (Fa hF) (x.put [97,108,105,99,101] qD9 y1) hS1 gw 2 kc uc kA (some ⟨gu,0,none⟩) (hW.w.mono (Fa hF)) [98,111,98] xC qPQ qD9 xC hO1.1 hO1.2.1 hO1.2.2))) O ?_
 rintro⟨ms2,y2⟩ hS2
 try dsimp only at hS2
 change J _ ((58,.bool true)::_) _ [_,ms2,_,_,_,_,_,_] _
 refine J.c j8<|J.g λ_ j9=>J.b O<|J.f (qAB O O) O<|J.M 0 qEt qJl O O O O O<|J.f (qAI (v:=Ptr x.gs) O O qLU (m:=H) xD (hW.w.at (i:=0) O)) O<|J.p (qAK O O ent (Ct.use1 1 (m':=λy:Hp×StR×WrR=>y.1) (new:=λy=> [y.2.1.G,y.2.1.mo]) O (λF' hF=>qQf F' ms2 H (hK.mo hF) (Fa hF) (x.two y1 y2) hS2 (by show x.tg.length<15;rw [hN.tg1];decide) (qTJ hN y1 y2)))) O ?_
 rintro⟨mp,y64⟩ hp2
 try dsimp only at hp2
 change J _ ((64,.tuple #[.agg #[N64 ((adH (qA0 (x.two y1 y2).hdL).dig (x.two y1 y2).dp (x.two y1 y2).audN.length (x.two y1 y2).hd (kvT (x.two y1 y2).kvL (x.two y1 y2).cl (x.two y1 y2).dp (2^(x.two y1 y2).dp)) y64.1.nA y64.1.nc).ep),Str ((adH (qA0 (x.two y1 y2).hdL).dig (x.two y1 y2).dp (x.two y1 y2).audN.length (x.two y1 y2).hd (kvT (x.two y1 y2).kvL (x.two y1 y2).cl (x.two y1 y2).dp (2^(x.two y1 y2).dp)) y64.1.nA y64.1.nc).par),I ((adH (qA0 (x.two y1 y2).hdL).dig (x.two y1 y2).dp (x.two y1 y2).audN.length (x.two y1 y2).hd (kvT (x.two y1 y2).kvL (x.two y1 y2).cl (x.two y1 y2).dp (2^(x.two y1 y2).dp)) y64.1.nA y64.1.nc).dep:Nat),I ((adH (qA0 (x.two y1 y2).hdL).dig (x.two y1 y2).dp (x.two y1 y2).audN.length (x.two y1 y2).hd (kvT (x.two y1 y2).kvL (x.two y1 y2).cl (x.two y1 y2).dp (2^(x.two y1 y2).dp)) y64.1.nA y64.1.nc).aud:Nat),.slice (adH (qA0 (x.two y1 y2).hdL).dig (x.two y1 y2).dp (x.two y1 y2).audN.length (x.two y1 y2).hd (kvT (x.two y1 y2).kvL (x.two y1 y2).cl (x.two y1 y2).dp (2^(x.two y1 y2).dp)) y64.1.nA y64.1.nc).nsA (adH (qA0 (x.two y1 y2).hdL).dig (x.two y1 y2).dp (x.two y1 y2).audN.length (x.two y1 y2).hd (kvT (x.two y1 y2).kvL (x.two y1 y2).cl (x.two y1 y2).dp (2^(x.two y1 y2).dp)) y64.1.nA y64.1.nc).ns.length (adH (qA0 (x.two y1 y2).hdL).dig (x.two y1 y2).dp (x.two y1 y2).audN.length (x.two y1 y2).hd (kvT (x.two y1 y2).kvL (x.two y1 y2).cl (x.two y1 y2).dp (2^(x.two y1 y2).dp)) y64.1.nA y64.1.nc).nsc],.slice y64.1.At y64.1.tl.length y64.1.ct,I (0:Nat)])::_) _ [_,mp,_,_,_,_,_,_,y64.1.G,y64.1.mo] _
 obtain ⟨yh,hyh⟩: ∃z:RhD,z=(adH (qA0 (x.two y1 y2).hdL).dig (x.two y1 y2).dp (x.two y1 y2).audN.length (x.two y1 y2).hd (kvT (x.two y1 y2).kvL (x.two y1 y2).cl (x.two y1 y2).dp (2^(x.two y1 y2).dp)) y64.1.nA y64.1.nc):=⟨_,rfl⟩
 rw [←hyh]
 have hI1:=hS2.i
 have hPb:=((hN.toBas6.put (s:= [97,108,105,99,101]) (sd:=qD9) y1).put (s:= [98,111,98]) (sd:=qD9) y2).pub xC hI1 y64
 have hkv:=qWV hN hI1 y64
 have hyt0:qA0 yh=hdN 2 0 ((x.two y1 y2).pub y64).kvL:=by rw [hyh,←SvR.pub_hdL];exact hPb.2.1
 have hyt:qA0 yh=hdN 2 0 kv6:=by rw [hyt0,hkv]
 refine J.k 4 O<|J.p (qAJ (l:= [.int .u64 0,Str [],I 0,I 0,.slice none 0 0]) O qUv O) O λg9 _=>?_
 change J _ _ _ [_,_,_,_,_,_,_,_,_,_,blk g9 [.int .u64 0,Str [],I 0,I 0,.slice none 0 0] 34] _
 refine J.a6 (qAD (i:=10) (l:= [.int .u64 0,Str [],I 0,I 0,.slice none 0 0]) (vs:= [N64 (yh.ep),Str (yh.par),I (yh.dep:Nat),I (yh.aud:Nat),.slice yh.nsA yh.ns.length yh.nsc]) O O O O O qBv O O) O O λ_ _=>?_
 change J _ _ _ [_,_,_,_,_,_,_,_,_,_,blk g9 [N64 (yh.ep),Str (yh.par),I (yh.dep:Nat),I (yh.aud:Nat),.slice yh.nsA yh.ns.length yh.nsc] 34] _
 refine J.k 2 O<|J.c5 [3,8,1,2,0,4,6,7,10] [H,y64.1.G,mp,mu,F,blk g6 [I (2:Nat),I (2:Nat)] 26,blk gc [I (2:Nat),I (2:Nat),.slice (some ⟨gh,0,none⟩) 1 1] 89,blk gh [N64 (p.ep),Str (p.par),I (p.dep:Nat),I (p.aud:Nat),.slice p.nsA p.ns.length p.nsc] 34,blk g9 [N64 (yh.ep),Str (yh.par),I (yh.dep:Nat),I (yh.aud:Nat),.slice yh.nsA yh.ns.length yh.nsc] 34] O xC<|J.d6 (λhj=>?_)
 refine J.c j9<|J.q λ_ j10=>J.q λ_ j11=>?_
 have hX:Srv mp (U [H,y64.1.G]) ((x.two y1 y2).pub y64):=hp2.s _ (qHE hj) (qSy hj)
 have hkf:qCE kv6:=hkv▸hX.i.kf
 have hyg:(qA0 yh).good:=by rw [hyt];exact qNr xC xC
 have hyn:nsl (U [H,y64.1.G]) yh:=by have:=hp2.ns;rw [SvR.pub_hdL,←hyh] at this;exact this.mono (qSy hj)
 have hyd:(qA0 yh).dig.length=16:=by rw [hyt];exact qRp xC xC hkf
 have hye:yh.ep=1:=congrArg Hd.ep hyt
 have hyns:yh.ns=qAq kv6 0:=congrArg Hd.nodes hyt
 have hyl:yh.ns.length≤1000000:=by rw [hyns,qKZ];decide
 have hnx:(pW 2 0).next (qA0 yh)=0:=by rw [hyt];exact qNq xC xC hkf
 have hpd2:((x.two y1 y2).pub y64).hd.getD 0 qAc=p:=hPb.2.2.trans hp
 have hW2:Wld 2 (List.replicate 2 0) (U [H,y64.1.G]) mu gw ((x.two y1 y2).pub y64) gs kA kc gu uc:=(hW.mono (qHE hj)).of O
 have hdr:qMh (qA0 p).dig (2^0) 2 2 (qBj 2 0 2):=by rw [hp0];exact qMV xC xC xC xC
 have hps: ∀s∈p.ns,s.length≤1048576:=by rw [hpl];exact qCH _
 have hnow: ∀j,j<3→qDf (lbE ((x.two y1 y2).pub y64).now) (nmS j)=leS j:=λj hj=>qWU hN hI1 hp2 hj
 have hygen:(qA0 yh).gen=14:=qZe (by rw [hyt,qML xC xC hkf];decide) (by rw [hyt];show(1:Nat)≠0;decide)
 have hX2:((x.two y1 y2).pub y64).hd.length=2:=hPb.1.hd2
 refine J.c5 [5,6,0,1,2,3,4,7] [blk gc [I (2:Nat),I (2:Nat),.slice (some ⟨gh,0,none⟩) 1 1] 89,blk gh [N64 (p.ep),Str (p.par),I (p.dep:Nat),I (p.aud:Nat),.slice p.nsA p.ns.length p.nsc] 34,U [H,y64.1.G],mp,mu,F,blk g6 [I (2:Nat),I (2:Nat)] 26,blk g9 [N64 (yh.ep),Str (yh.par),I (yh.dep:Nat),I (yh.aud:Nat),.slice yh.nsA yh.ns.length yh.nsc] 34] O xC<|J.b1 [blk g9 [N64 (yh.ep),Str (yh.par),I (yh.dep:Nat),I (yh.aud:Nat),.slice yh.nsA yh.ns.length yh.nsc] 34,blk g6 [I (2:Nat),I (2:Nat)] 26] [] (.y 0 (.y 1 (.y 2 (.y 3 (.y 4 (.e 5 (.y 6 (.e 7 (.y 8 .nil))))))))) Tryz.wide xF xD ?_
 refine J.L ?_
 refine J.j O (qAW 0 O O O qDF qBv O) O O<|J.L ?_
 refine J.j O (qAW 1 O O O qS2 qON O) O O<|J.j O (qAW 0 O O O qDF qBv O) O O<|J.Z O (qAK O O ent (Ct.use1 4 (m':=λr:VtsR=>r.mu) (new:=λr=> [r.m,r.G]) O (λF' hF=>qJv F' mu mp (hK.mo hF) 2 0 2 2 xC xC xC xC xC ((x.two y1 y2).pub y64) (hX.mono (Fa hF)) (Fa hF) hPb.1 gw gs kA kc gu uc (List.replicate 2 0) (hW2.mono (Fa hF)) 0 xC (rep0 2) yh hyg (hyn.mono (Fa hF)) xB hyd p hpd2))) O xD ?_
 rintro⟨V5,us5,AV5,cV5,mV5,mu5,GV5⟩ hv5
 try dsimp only at hv5
 change J _ ((73,.slice AV5 V5.length cV5)::_) _ [blk gc [I (2:Nat),I (2:Nat),.slice (some ⟨gh,0,none⟩) 1 1] 89,blk gh [N64 (p.ep),Str (p.par),I (p.dep:Nat),I (p.aud:Nat),.slice p.nsA p.ns.length p.nsc] 34,U [H,y64.1.G],mp,mu5,F,blk g6 [I (2:Nat),I (2:Nat)] 26,blk g9 [N64 (yh.ep),Str (yh.par),I (yh.dep:Nat),I (yh.aud:Nat),.slice yh.nsA yh.ns.length yh.nsc] 34,mV5,GV5] _
 have hso5:=hv5.hon.some hv5.len
 dsimp only at hso5
 refine J.j O (qAH (l:= [(0,.tmp 69),(1,.tmp 73)]) (vs:= [.agg #[N64 (yh.ep),Str (yh.par),I (yh.dep:Nat),I (yh.aud:Nat),.slice yh.nsA yh.ns.length yh.nsc],.slice AV5 V5.length cV5]) (places:= [(0,5),(5,1)]) (r:= [N64 (yh.ep),Str (yh.par),I (yh.dep:Nat),I (yh.aud:Nat),.slice yh.nsA yh.ns.length yh.nsc,.slice AV5 V5.length cV5]) O O O qVd zeroValue50 (λ_=>xI) O) O O ?_
 have hVl:V5.length≤100000:=by have:=hv5.len;dsimp only at this;rw [this];decide
 have hpn2:nsl (U [H,y64.1.G]) p:=hpn.mono (qHE hj)
 refine J.Z O (qAK O O ent (Ct.useA [blk gc [I (2:Nat),I (2:Nat),.slice (some ⟨gh,0,none⟩) 1 1] 89,blk gh [N64 (p.ep),Str (p.par),I (p.dep:Nat),I (p.aud:Nat),.slice p.nsA p.ns.length p.nsc] 34] [U [H,y64.1.G],mp,mu5,F,blk g6 [I (2:Nat),I (2:Nat)] 26,blk g9 [N64 (yh.ep),Str (yh.par),I (yh.dep:Nat),I (yh.aud:Nat),.slice yh.nsA yh.ns.length yh.nsc] 34,mV5,GV5] (A':=λr:CaR=> [blk gc [I (2:Nat),I (2:Nat),.slice r.A r.hd.length r.c] 89,r.m]) (new:=λr=> [r.N]) (λF' hF=>by have:=qIW F' (blk gh [N64 (p.ep),Str (p.par),I (p.dep:Nat),I (p.aud:Nat),.slice p.nsA p.ns.length p.nsc] 34) (hK.mo hF) gc 2 2 (some ⟨gh,0,none⟩) 1 [p] (qVi gh p) (by show 0<1;decide) (by show 1≤1000;decide) hpg (hpn2.mono (Fa hF)) hps 0 2 xC hpd hperr xC xC xC xC hpa (qBj 2 0 2) hdr yh hyg (hyn.mono (Fa hF)) hyl AV5 V5.length cV5 V5 (hv5.row.sl.mono (Fa hF)) hVl (λi hi=>(hso5.vo i hi).mono (Fa hF));rw [show qEV (qA0 (([p]:List RhD).getD (([p]:List RhD).length-1) qAc)) (qA0 yh) (qBj 2 0 2) 2 (2^0) 2 V5=0 by show qEV (qA0 p) _ _ _ _ _ _=0;rw [hp0,qZx xC xC xC hnx hyd hso5,if_pos (by have:=hv5.len;dsimp only at this;rw [this];decide)];rfl] at this;exact this))) O xD ?_
 rintro⟨hd5,A5,c5,mc,Nc⟩ ha5
 try dsimp only at ha5
 change J _ ((75,I 0)::_) _ [blk gc [I (2:Nat),I (2:Nat),.slice A5 hd5.length c5] 89,mc,_,_,_,_,_,_,_,_,Nc] _
 obtain ⟨A6,c6,hl6,hn6⟩:=ha5.yes rfl
 dsimp only at hl6 hn6
 obtain ⟨yl,hyl_⟩: ∃z:RhD,z=⟨yh.ep,yh.par,yh.dep,yh.aud,A6,c6,yh.ns⟩:=⟨_,rfl⟩
 rw [←hyl_] at hl6
 have hlen5:hd5.length=2:=by rw [hl6];rfl
 have hlast:hd5.getD (hd5.length-1) qAc=yl:=by rw [hl6];rfl
 have hylt:qA0 yl=qA0 yh:=by rw [hyl_];rfl
 have hyln:nsl Nc yl:=by rw [hyl_];exact hn6
 refine J.j O ((qAe O O O).no xD) O O<|J.a9<|J.u (J.G j11 ?_)
 refine J.a2 ?_
 refine J.T j10<|J.g λ_ j12=>J.p (qAE (l:= [.const ((Value.string (ByteArray.mk #[97,108,105,99,101]))),.const ((Value.string (ByteArray.mk #[98,111,98]))),.const ((Value.string (ByteArray.mk #[101,118,101])))]) (xs:= [[Str ([97,108,105,99,101])],[Str ([98,111,98])],[Str ([101,118,101])]]) O O O O qAk el9 O xC xC xD) O λg77 _=>?_
 change J _ _ _ [_,_,_,_,_,_,_,_,_,_,_,blk g77 [Str ([97,108,105,99,101]),Str ([98,111,98]),Str ([101,118,101])] 9] _
 refine J.b O<|J.c j12<|J.d4 (X:=AnR×Nat) (λζ=> [(0,B8 (lb)),(1,B8 (hw)),(5,Ptr gw),(6,Ptr g6),(7,Ptr gc),(9,Ptr g9),(12,.slice (some ⟨g77,0,none⟩) 3 3),(13,Ptr ζ.2)]) (λζ=> [blk gc [I (2:Nat),I (2:Nat),.slice A5 hd5.length c5] 89,mc,U [H,y64.1.G],mp,F,blk g6 [I (2:Nat),I (2:Nat)] 26,blk g9 [N64 (yh.ep),Str (yh.par),I (yh.dep:Nat),I (yh.aud:Nat),.slice yh.nsA yh.ns.length yh.nsc] 34,Nc,blk g77 [Str [97,108,105,99,101],Str [98,111,98],Str [101,118,101]] 9,ζ.1.mb,ζ.1.m,blk ζ.2 [Str (nmS L),.slice ζ.1.A (leS L).length ζ.1.c,.slice ζ.1.bA ζ.1.bs.length ζ.1.bc,.bool (ζ.1.th),Str (ζ.1.pk),Str (ζ.1.pv)] 55]) (λζ=>AnP L ζ.1) (λ_ j13=>?_) ?_
 ·
  refine J.b1 [U [H,y64.1.G],blk g77 [Str ([97,108,105,99,101]),Str ([98,111,98]),Str ([101,118,101])] 9] [15,16,100013] (.y 0 (.y 1 (.y 2 (.y 3 (.y 4 (.y 5 (.y 6 (.y 7 (.y 8 (.y 9 (.br (.e 10 (.y 11 (.y 12 (.y 13 (.e 14 (.e 15 (.e 16 .nil))))))) (.e 14 (.e 10 (.y 11 (.y 12 (.y 13 (.e 15 (.e 16 .nil)))))))))))))))))) Tryz.wide xF xD ?_
  refine J.L ?_
  refine J.j O (qAB O O) O O<|J.j O (qAA (j:=0) O O qEt O qJl O) O O<|J.j O (qAI (v:=Ptr x.gs) O O qLU (m:=U [H,y64.1.G]) xD ((hW.w.mono (qHE hj)).at (i:=0) O)) O O<|J.L ?_
  refine J.L ?_
  refine J.j O (qBy O O u5_ u3_) O O<|J.j O (((qG5 O O O xB).nat (L) xB)) O O<|J.j O (qAF (i:=L) O O O qAk z9_ (qA7 (q:=True) (e:=9) (g:=g77) (qAG [[97,108,105,99,101],[98,111,98],[101,118,101]]) O (by simp [qAG]) O).sl xB) O O<|J.j O (qAI O O b9_ (m:=blk g77 [Str [97,108,105,99,101],Str [98,111,98],Str [101,118,101]] 9) xD (((qA7 (q:=True) (e:=9) (g:=g77) (qAG [[97,108,105,99,101],[98,111,98],[101,118,101]]) O (by simp [qAG]) O).sl).elem (qAY (qAi [] xB)))) O O<|J.d5 ?_ ?_
  ·
   refine J.Z O (qAK O O ent (Ct.use (new:=λr:AnR=> [r.mb,r.m]) (λF' hF=>qEP F' mp (U [H,y64.1.G]) (hK.mo hF) hX (Fa hF) (Fa hF) hkv hnow L hL))) O xD ?_
   rintro rA hrA
   change J _ ((89,.tuple #[.agg #[Str (nmS L),.slice rA.A (leS L).length rA.c,.slice rA.bA rA.bs.length rA.bc,.bool (rA.th),Str (rA.pk),Str (rA.pv)],I (0:Nat)])::_) _ [blk gc [I (2:Nat),I (2:Nat),.slice A5 hd5.length c5] 89,mc,U [H,y64.1.G],mp,mu5,F,blk g6 [I (2:Nat),I (2:Nat)] 26,blk g9 [N64 (yh.ep),Str (yh.par),I (yh.dep:Nat),I (yh.aud:Nat),.slice yh.nsA yh.ns.length yh.nsc] 34,mV5,GV5,Nc,blk g77 [Str ([97,108,105,99,101]),Str ([98,111,98]),Str ([101,118,101])] 9,rA.mb,rA.m] _
   refine J.L ?_
   refine J.c2 (.agg #[Str (nmS L),.slice rA.A ((leS L).length) rA.c,.slice rA.bA rA.bs.length rA.bc,.bool (rA.th),Str (rA.pk),Str (rA.pv)]) ?_
   refine J.d3 O (qAb (v:=I (0:Nat)) O O O) O O O ?_
   refine J.Z O (qAJ (l:= [Str [],.slice none 0 0,.slice none 0 0,.bool false,Str [],Str []]) O qR7 O) O xD λg13 _=>?_
   change J _ _ _ [_,_,_,_,_,_,_,_,_,_,_,_,_,_,blk g13 [Str [],.slice none 0 0,.slice none 0 0,.bool false,Str [],Str []] 55] _
   refine J.c1 O (qAD (i:=14) (l:= [Str [],.slice none 0 0,.slice none 0 0,.bool false,Str [],Str []]) (vs:= [Str (nmS L),.slice rA.A ((leS L).length) rA.c,.slice rA.bA rA.bs.length rA.bc,.bool (rA.th),Str (rA.pk),Str (rA.pv)]) O O O O O qJk O O) O O O λ_ _=>?_
   change J _ _ _ [_,_,_,_,_,_,_,_,_,_,_,_,_,_,blk g13 [Str (nmS L),.slice rA.A ((leS L).length) rA.c,.slice rA.bA rA.bs.length rA.bc,.bool (rA.th),Str (rA.pk),Str (rA.pv)] 55] _
   refine J.d1 O (YOp.eop (qBG O O)) O O O O ?_
   intro _ _
   exact J.a9<|J.u<|J.a5 (rA,g13) j13 (hrA) ⟨O,O,O,O,O,O,O,O,trivial⟩ (λ_ h=>h.pick [0,1,2,3,5,6,7,10,11,12,13,14] xC)
  refine J.Z O (qAJ (l:= [Str [],.slice none 0 0,.slice none 0 0,.bool false,Str [],Str []]) O qR7 O) O xD λg13 _=>?_
  change J _ _ _ [blk gc [I (2:Nat),I (2:Nat),.slice A5 hd5.length c5] 89,mc,U [H,y64.1.G],mp,mu5,F,blk g6 [I (2:Nat),I (2:Nat)] 26,blk g9 [N64 (yh.ep),Str (yh.par),I (yh.dep:Nat),I (yh.aud:Nat),.slice yh.nsA yh.ns.length yh.nsc] 34,mV5,GV5,Nc,blk g77 [Str ([97,108,105,99,101]),Str ([98,111,98]),Str ([101,118,101])] 9,blk g13 [Str [],.slice none 0 0,.slice none 0 0,.bool false,Str [],Str []] 55] _
  refine J.Z O (qAK O O ent (Ct.use (new:=λr:AnR=> [r.mb,r.m]) (λF' hF=>qEP F' mp (U [H,y64.1.G]) (hK.mo hF) hX (Fa hF) (Fa hF) hkv hnow L hL))) O xD ?_
  rintro rA hrA
  change J _ ((89,.tuple #[.agg #[Str (nmS L),.slice rA.A (leS L).length rA.c,.slice rA.bA rA.bs.length rA.bc,.bool (rA.th),Str (rA.pk),Str (rA.pv)],I (0:Nat)])::_) _ [_,_,_,_,_,_,_,_,_,_,_,_,_,rA.mb,rA.m] _
  refine J.L ?_
  refine J.c2 (.agg #[Str (nmS L),.slice rA.A ((leS L).length) rA.c,.slice rA.bA rA.bs.length rA.bc,.bool (rA.th),Str (rA.pk),Str (rA.pv)]) ?_
  refine J.d3 O (qAb (v:=I (0:Nat)) O O O) O O O ?_
  refine J.c1 O (qAD (i:=12) (l:= [Str [],.slice none 0 0,.slice none 0 0,.bool false,Str [],Str []]) (vs:= [Str (nmS L),.slice rA.A ((leS L).length) rA.c,.slice rA.bA rA.bs.length rA.bc,.bool (rA.th),Str (rA.pk),Str (rA.pv)]) O O O O O qJk O O) O O O λ_ _=>?_
  change J _ _ _ [_,_,_,_,_,_,_,_,_,_,_,_,blk g13 [Str (nmS L),.slice rA.A ((leS L).length) rA.c,.slice rA.bA rA.bs.length rA.bc,.bool (rA.th),Str (rA.pk),Str (rA.pv)] 55,_,_] _
  refine J.d1 O (YOp.eop (qBG O O)) O O O O ?_
  intro _ _
  exact J.a9<|J.u<|J.a5 (rA,g13) j13 (hrA) ⟨O,O,O,O,O,O,O,O,trivial⟩ (λ_ h=>h.pick [0,1,2,3,5,6,7,10,11,13,14,12] xC)
 rintro⟨rA,g13⟩ hrA
 dsimp only at hrA⊢
 refine J.d4 (X:=AnR×Nat) (λζ=> [(1,B8 (hw)),(5,Ptr gw),(6,Ptr g6),(7,Ptr gc),(9,Ptr g9),(13,Ptr g13),(15,Ptr ζ.2)]) (λζ=> [blk gc [I (2:Nat),I (2:Nat),.slice A5 hd5.length c5] 89,mc,U [H,y64.1.G],mp,F,blk g6 [I (2:Nat),I (2:Nat)] 26,blk g9 [N64 (yh.ep),Str (yh.par),I (yh.dep:Nat),I (yh.aud:Nat),.slice yh.nsA yh.ns.length yh.nsc] 34,Nc,blk g77 [Str [97,108,105,99,101],Str [98,111,98],Str [101,118,101]] 9,rA.mb,rA.m,blk g13 [Str (nmS L),.slice rA.A (leS L).length rA.c,.slice rA.bA rA.bs.length rA.bc,.bool (rA.th),Str (rA.pk),Str (rA.pv)] 55,ζ.1.mb,ζ.1.m,blk ζ.2 [Str (nmS M),.slice ζ.1.A (leS M).length ζ.1.c,.slice ζ.1.bA ζ.1.bs.length ζ.1.bc,.bool (ζ.1.th),Str (ζ.1.pk),Str (ζ.1.pv)] 55]) (λζ=>AnP M ζ.1) (λ_ j14=>?_) ?_
 ·
  refine J.b1 [U [H,y64.1.G],blk g77 [Str [97,108,105,99,101],Str [98,111,98],Str [101,118,101]] 9] [16,17,100014] (.y 0 (.y 1 (.y 2 (.y 3 (.y 4 (.y 5 (.y 6 (.y 7 (.y 8 (.y 9 (.y 10 (.br (.e 11 (.y 12 (.y 13 (.y 14 (.e 15 (.e 16 (.e 17 .nil))))))) (.e 15 (.e 11 (.y 12 (.y 13 (.y 14 (.e 16 (.e 17 .nil))))))))))))))))))) Tryz.wide xF xD ?_
  refine J.L ?_
  refine J.j O (qAB O O) O O<|J.j O (qAA (j:=0) O O qEt O qJl O) O O<|J.j O (qAI (v:=Ptr x.gs) O O qLU (m:=U [H,y64.1.G]) xD ((hW.w.mono (qHE hj)).at (i:=0) O)) O O<|J.L ?_
  refine J.L ?_
  refine J.j O (qBy O O u5_ u3_) O O<|J.j O ((qAQ O O O xB).nat (lb.toNat+1) xB) O O<|J.j O (((qG5 O O O xB).nat (M) xB)) O O<|J.j O (qAF (i:=M) O O O qAk z9_ (qA7 (q:=True) (e:=9) (g:=g77) (qAG [[97,108,105,99,101],[98,111,98],[101,118,101]]) O (by simp [qAG]) O).sl xB) O O<|J.j O (qAI O O b9_ (m:=blk g77 [Str [97,108,105,99,101],Str [98,111,98],Str [101,118,101]] 9) xD (((qA7 (q:=True) (e:=9) (g:=g77) (qAG [[97,108,105,99,101],[98,111,98],[101,118,101]]) O (by simp [qAG]) O).sl).elem (qAY (qAi [] xB)))) O O<|J.d5 ?_ ?_
  ·
   refine J.Z O (qAK O O ent (Ct.use (new:=λr:AnR=> [r.mb,r.m]) (λF' hF=>qEP F' mp (U [H,y64.1.G]) (hK.mo hF) hX (Fa hF) (Fa hF) hkv hnow M hM))) O xD ?_
   rintro rB hrB
   change J _ ((104,.tuple #[.agg #[Str (nmS M),.slice rB.A (leS M).length rB.c,.slice rB.bA rB.bs.length rB.bc,.bool (rB.th),Str (rB.pk),Str (rB.pv)],I (0:Nat)])::_) _ [blk gc [I (2:Nat),I (2:Nat),.slice A5 hd5.length c5] 89,mc,U [H,y64.1.G],mp,F,blk g6 [I (2:Nat),I (2:Nat)] 26,blk g9 [N64 (yh.ep),Str (yh.par),I (yh.dep:Nat),I (yh.aud:Nat),.slice yh.nsA yh.ns.length yh.nsc] 34,Nc,blk g77 [Str [97,108,105,99,101],Str [98,111,98],Str [101,118,101]] 9,rA.mb,rA.m,blk g13 [Str (nmS L),.slice rA.A (leS L).length rA.c,.slice rA.bA rA.bs.length rA.bc,.bool (rA.th),Str (rA.pk),Str (rA.pv)] 55,rB.mb,rB.m] _
   refine J.L ?_
   refine J.c2 (.agg #[Str (nmS M),.slice rB.A ((leS M).length) rB.c,.slice rB.bA rB.bs.length rB.bc,.bool (rB.th),Str (rB.pk),Str (rB.pv)]) ?_
   refine J.d3 O (qAb (v:=I (0:Nat)) O O O) O O O ?_
   refine J.Z O (qAJ (l:= [Str [],.slice none 0 0,.slice none 0 0,.bool false,Str [],Str []]) O qR7 O) O xD λg15 _=>?_
   change J _ _ _ [_,_,_,_,_,_,_,_,_,_,_,_,_,_,blk g15 [Str [],.slice none 0 0,.slice none 0 0,.bool false,Str [],Str []] 55] _
   refine J.c1 O (qAD (i:=14) (l:= [Str [],.slice none 0 0,.slice none 0 0,.bool false,Str [],Str []]) (vs:= [Str (nmS M),.slice rB.A ((leS M).length) rB.c,.slice rB.bA rB.bs.length rB.bc,.bool (rB.th),Str (rB.pk),Str (rB.pv)]) O O O O O qJk O O) O O O λ_ _=>?_
   change J _ _ _ [_,_,_,_,_,_,_,_,_,_,_,_,_,_,blk g15 [Str (nmS M),.slice rB.A ((leS M).length) rB.c,.slice rB.bA rB.bs.length rB.bc,.bool (rB.th),Str (rB.pk),Str (rB.pv)] 55] _
   refine J.d1 O (YOp.eop (qBG O O)) O O O O ?_
   intro _ _
   exact J.a9<|J.u<|J.a5 (rB,g15) j14 (hrB) ⟨O,O,O,O,O,O,O,trivial⟩ (λ_ h=>h)
  refine J.Z O (qAJ (l:= [Str [],.slice none 0 0,.slice none 0 0,.bool false,Str [],Str []]) O qR7 O) O xD λg15 _=>?_
  change J _ _ _ [blk gc [I (2:Nat),I (2:Nat),.slice A5 hd5.length c5] 89,mc,U [H,y64.1.G],mp,F,blk g6 [I (2:Nat),I (2:Nat)] 26,blk g9 [N64 (yh.ep),Str (yh.par),I (yh.dep:Nat),I (yh.aud:Nat),.slice yh.nsA yh.ns.length yh.nsc] 34,Nc,blk g77 [Str [97,108,105,99,101],Str [98,111,98],Str [101,118,101]] 9,rA.mb,rA.m,blk g13 [Str (nmS L),.slice rA.A (leS L).length rA.c,.slice rA.bA rA.bs.length rA.bc,.bool (rA.th),Str (rA.pk),Str (rA.pv)] 55,blk g15 [Str [],.slice none 0 0,.slice none 0 0,.bool false,Str [],Str []] 55] _
  refine J.Z O (qAK O O ent (Ct.use (new:=λr:AnR=> [r.mb,r.m]) (λF' hF=>qEP F' mp (U [H,y64.1.G]) (hK.mo hF) hX (Fa hF) (Fa hF) hkv hnow M hM))) O xD ?_
  rintro rB hrB
  change J _ ((104,.tuple #[.agg #[Str (nmS M),.slice rB.A (leS M).length rB.c,.slice rB.bA rB.bs.length rB.bc,.bool (rB.th),Str (rB.pk),Str (rB.pv)],I (0:Nat)])::_) _ [_,_,_,_,_,_,_,_,_,_,_,_,_,rB.mb,rB.m] _
  refine J.L ?_
  refine J.c2 (.agg #[Str (nmS M),.slice rB.A ((leS M).length) rB.c,.slice rB.bA rB.bs.length rB.bc,.bool (rB.th),Str (rB.pk),Str (rB.pv)]) ?_
  refine J.d3 O (qAb (v:=I (0:Nat)) O O O) O O O ?_
  refine J.c1 O (qAD (i:=12) (l:= [Str [],.slice none 0 0,.slice none 0 0,.bool false,Str [],Str []]) (vs:= [Str (nmS M),.slice rB.A ((leS M).length) rB.c,.slice rB.bA rB.bs.length rB.bc,.bool (rB.th),Str (rB.pk),Str (rB.pv)]) O O O O O qJk O O) O O O λ_ _=>?_
  change J _ _ _ [_,_,_,_,_,_,_,_,_,_,_,_,blk g15 [Str (nmS M),.slice rB.A ((leS M).length) rB.c,.slice rB.bA rB.bs.length rB.bc,.bool (rB.th),Str (rB.pk),Str (rB.pv)] 55,_,_] _
  refine J.d1 O (YOp.eop (qBG O O)) O O O O ?_
  intro _ _
  exact J.a9<|J.u<|J.a5 (rB,g15) j14 (hrB) ⟨O,O,O,O,O,O,O,trivial⟩ (λ_ h=>h.pick [0,1,2,3,4,5,6,7,8,9,10,11,13,14,12] xC)
 rintro⟨rB,g15⟩ hrB
 dsimp only at hrB⊢
 refine J.g λ_ j15=>J.b O<|J.b8 11 isAgg55 qJk O O O O O<|J.p (qAa O O (λF' hF=>(by have:=qMY F' (hK.mo hF) gc 2 2 A5 hd5.length c5 hd5 (ha5.row.sl.mono (Fa hF)) xB xB (qAM.blk0.mono (hF (blk gc [I (2:Nat),I (2:Nat),.slice A5 hd5.length c5] 89) xD)) (by rw [hlast,hylt];exact hyg) (by rw [hlast];exact hyln.mono (Fa hF)) (by rw [hlast,hyl_];dsimp only;rw [hyns];exact qCH _) (nmS L) (jZ (qJJ hL) xC) rA.A (leS L).length rA.c (leS L) (hrA.ro.sl.mono (Fa hF)) (qCf L) (qRX L) rA.bA rA.bc _ (hrA.rb.sl.mono (Fa hF)) _ _ _ hrA.good hrA.pl;rw [hlast] at this;rw [show Sha.tagged 11 [nmS L]=nmD L from rfl,hrA.chk yl 2 (hylt.trans hyt)] at this;exact this))) O λg110 _=>J.k 4 O<|J.p (qAJ (l:= [.int .u64 0,Str [],Str [],I 0,Str []]) O qFh O) O λg17 _=>?_
 change J _ _ _ [blk gc [I (2:Nat),I (2:Nat),.slice A5 hd5.length c5] 89,mc,U [H,y64.1.G],mp,F,blk g6 [I (2:Nat),I (2:Nat)] 26,blk g9 [N64 (yh.ep),Str (yh.par),I (yh.dep:Nat),I (yh.aud:Nat),.slice yh.nsA yh.ns.length yh.nsc] 34,Nc,blk g77 [Str [97,108,105,99,101],Str [98,111,98],Str [101,118,101]] 9,rA.mb,rA.m,blk g13 [Str (nmS L),.slice rA.A (leS L).length rA.c,.slice rA.bA rA.bs.length rA.bc,.bool (rA.th),Str (rA.pk),Str (rA.pv)] 55,rB.mb,rB.m,blk g15 [Str (nmS M),.slice rB.A (leS M).length rB.c,.slice rB.bA rB.bs.length rB.bc,.bool (rB.th),Str (rB.pk),Str (rB.pv)] 55,blk g17 [.int .u64 0,Str [],Str [],I 0,Str []] 61] _
 refine J.a6 (qAD (i:=15) (l:= [.int .u64 0,Str [],Str [],I 0,Str []]) (vs:= [N64 ((exS L).v),Str ((exS L).o),Str ((exS L).r),I ((exS L).h),Str ((exS L).p)]) O O O O O qBY O O) O O λ_ _=>?_
 change J _ _ _ [_,_,_,_,_,_,_,_,_,_,_,_,_,_,_,blk g17 [N64 ((exS L).v),Str ((exS L).o),Str ((exS L).r),I ((exS L).h),Str ((exS L).p)] 61] _
 refine J.k 2 O<|J.c j15<|J.q λ_ j16=>J.g λ_ j17=>J.b O<|J.f ((qAe O O O).no xD) O<|J.c j17<|J.a2 ?_
 refine J.T j16<|J.g λ_ j18=>J.b8 11 isAgg55 qJk O O O O O<|J.p (qAJ (l:= [Str [],.slice none 0 0,.slice none 0 0,.bool false,Str [],Str []]) O qR7 O) O λg20 _=>?_
 change J _ _ _ [_,_,_,_,_,_,_,_,_,_,_,_,_,_,_,_,blk g20 [Str [],.slice none 0 0,.slice none 0 0,.bool false,Str [],Str []] 55] _
 refine J.a6 (qAD (i:=16) (l:= [Str [],.slice none 0 0,.slice none 0 0,.bool false,Str [],Str []]) (vs:= [Str (nmS L),.slice rA.A (leS L).length rA.c,.slice rA.bA rA.bs.length rA.bc,.bool (rA.th),Str (rA.pk),Str (rA.pv)]) O O O O O qJk O O) O O λ_ _=>?_
 change J _ _ _ [_,_,_,_,_,_,_,_,_,_,_,_,_,_,_,_,blk g20 [Str (nmS L),.slice rA.A (leS L).length rA.c,.slice rA.bA rA.bs.length rA.bc,.bool (rA.th),Str (rA.pk),Str (rA.pv)] 55] _
 refine J.c j18<|J.g λ_ j19=>J.p (qBV O qDJ el61) O λg117 _=>?_
 change J _ _ _ [_,_,_,_,_,_,_,_,_,_,_,_,_,_,_,_,_,blk g117 [] 61] _
 refine J.M 1 qEX qF5 O O O O O<|J.f (qAC 11 (v:= .slice rA.A (leS L).length rA.c) O O O qLT O) O<|J.p (qAU (i:=17) (xs:=qDD ([])) (m2:=rA.m) (ys:=qDD (leS L)) O O O qDJ qDJ el61 O (qAl (q:=True) (xs:=qDD ([])) O (by intro x hx;first|exact absurd hx (jz)|(rw [List.mem_singleton.1 hx];rfl))) xD (hrA.ro.sl) (qL5 _) xB xB) O ?_
 rintro⟨A120,c120,m120⟩ h120
 try dsimp only at h120
 change J _ ((120,.slice A120 (0+((leS L).length)) c120)::_) _ [_,_,_,_,_,_,_,_,_,_,_,_,_,_,_,_,_,m120] _
 replace h120:Row m120 61 5 A120 (leS L).length c120 (qDD (leS L)):=by have h:=h120;rw [jX] at h;exact h
 rw [jX]
 refine J.M 1 qEX qF5 O O O O O<|J.a6 (qAT (i:=16) (l:= [Str (nmS L),.slice rA.A (leS L).length rA.c,.slice rA.bA rA.bs.length rA.bc,.bool (rA.th),Str (rA.pk),Str (rA.pv)]) (vs:= [.slice A120 ((leS L).length) c120]) O O O O O qF5 O xD) O O λ_ _=>?_
 change J _ _ _ [_,_,_,_,_,_,_,_,_,_,_,_,_,_,_,_,blk g20 [Str (nmS L),.slice A120 ((leS L).length) c120,.slice rA.bA rA.bs.length rA.bc,.bool (rA.th),Str (rA.pk),Str (rA.pv)] 55,_] _
 refine J.c j19<|J.d4 (X:=Nat×Hp×Option Addr×Nat×Nat×List En×Option Addr×Nat×List xA×Bool×xA×xA) (λζ=> [(5,Ptr gw),(6,Ptr g6),(7,Ptr gc),(9,Ptr g9),(13,Ptr g13),(18,.bool (okS L)),(20,Ptr g20)]) (λζ=> [blk gc [I (2:Nat),I (2:Nat),.slice A5 hd5.length c5] 89,mc,U [H,y64.1.G],mp,F,blk g6 [I (2:Nat),I (2:Nat)] 26,blk g9 [N64 (yh.ep),Str (yh.par),I (yh.dep:Nat),I (yh.aud:Nat),.slice yh.nsA yh.ns.length yh.nsc] 34,Nc,rA.mb,rA.m,rB.mb,blk g13 [Str (nmS L),.slice rA.A (leS L).length rA.c,.slice rA.bA rA.bs.length rA.bc,.bool (rA.th),Str (rA.pk),Str (rA.pv)] 55,blk g20 [Str (nmS ζ.1),.slice ζ.2.2.1 ζ.2.2.2.1 ζ.2.2.2.2.1,.slice ζ.2.2.2.2.2.2.1 ζ.2.2.2.2.2.2.2.2.1.length ζ.2.2.2.2.2.2.2.1,.bool ζ.2.2.2.2.2.2.2.2.2.1,Str (ζ.2.2.2.2.2.2.2.2.2.2.1),Str (ζ.2.2.2.2.2.2.2.2.2.2.2)] 55,ζ.2.1]) (λζ=>ζ.1<3∧Sl ζ.2.1 5 ζ.2.2.1 ζ.2.2.2.1 ζ.2.2.2.2.1 (qDD ζ.2.2.2.2.2.1)∧(∀z∈ζ.2.2.2.2.2.1,z.good)∧ζ.2.2.2.1≤2∧ζ.2.2.2.2.2.2.2.2.1.length≤128∧ζ.2.2.2.2.2.2.2.2.2.2.2.length≤1000000∧(∀F9,Le rA.mb F9→Le rB.mb F9→Sl F9 1 ζ.2.2.2.2.2.2.1 ζ.2.2.2.2.2.2.2.2.1.length ζ.2.2.2.2.2.2.2.1 (qAG ζ.2.2.2.2.2.2.2.2.1))∧qVT ζ.1 ζ.2.2.2.2.2.1 ζ.2.2.2.2.2.2.2.2.2.1 ζ.2.2.2.2.2.2.2.2.2.2.1 ζ.2.2.2.2.2.2.2.2.2.2.2) (λ_ j20=>?_) ?_
 ·
  refine J.q λ_ j21=>?_
  obtain ⟨Q,hQd⟩: ∃Q,Q=hw.toNat%6:=⟨_,rfl⟩
  refine J.H<|J.b O<|J.f (((qG5 O O O xB).as (v':= .int .u8 ((Q:Nat):Int)) (congrArg (Value.int .u8) xB))) O<|J.c j21<|J.V<|J.g λ_ j22=>J.f ((qAX O O O).as (v':= .bool (decide (Q=0))) (congrArg Value.bool (decide_eq_decide.2 xB))) O<|J.b O<|J.c j22<|J.a0 O (λh134=>?_) (λh134=>?_)
  ·
   refine J.H<|J.M 0 qEX z9_ O O O O O<|J.f (qAC 14 (v:=Str (nmS M)) O O O b9_ O) O<|J.M 0 qEX z9_ O O O O O<|J.a6 (qAT (i:=16) (l:= [Str (nmS L),.slice A120 ((leS L).length) c120,.slice rA.bA rA.bs.length rA.bc,.bool (rA.th),Str (rA.pk),Str (rA.pv)]) (vs:= [Str (nmS M)]) O O O O O z9_ O xD) O O λ_ _=>?_
   change J _ _ _ [blk gc [I (2:Nat),I (2:Nat),.slice A5 hd5.length c5] 89,mc,U [H,y64.1.G],mp,F,blk g6 [I (2:Nat),I (2:Nat)] 26,blk g9 [N64 (yh.ep),Str (yh.par),I (yh.dep:Nat),I (yh.aud:Nat),.slice yh.nsA yh.ns.length yh.nsc] 34,Nc,blk g77 [Str [97,108,105,99,101],Str [98,111,98],Str [101,118,101]] 9,rA.mb,rA.m,blk g13 [Str (nmS L),.slice rA.A (leS L).length rA.c,.slice rA.bA rA.bs.length rA.bc,.bool (rA.th),Str (rA.pk),Str (rA.pv)] 55,rB.mb,rB.m,blk g15 [Str (nmS M),.slice rB.A (leS M).length rB.c,.slice rB.bA rB.bs.length rB.bc,.bool (rB.th),Str (rB.pk),Str (rB.pv)] 55,blk g17 [N64 ((exS L).v),Str ((exS L).o),Str ((exS L).r),I ((exS L).h),Str ((exS L).p)] 61,blk g20 [Str (nmS M),.slice A120 ((leS L).length) c120,.slice rA.bA rA.bs.length rA.bc,.bool (rA.th),Str (rA.pk),Str (rA.pv)] 55,m120] _
   exact J.a4<|J.a3<|J.u<|J.a5 (M,m120,A120,(leS L).length,c120,leS L,rA.bA,rA.bc,rA.bs,rA.th,rA.pk,rA.pv) j20 (⟨hM,h120.sl,qCf L,(by dsimp only;omega),hrA.bl,hrA.pl,λF9 h1 h2=>hrA.rb.sl.mono h1,by rw [hMd];exact fair0 hL hrA.own⟩) ⟨O,O,O,O,O,O,O,trivial⟩ (λ_ h=>h.pick [0,1,2,3,4,5,6,7,9,10,12,11,16,17] xC)
  refine J.g λ_ j23=>J.f ((qAX O O O).as (v':= .bool (decide (Q=1))) (congrArg Value.bool (decide_eq_decide.2 xB))) O<|J.b O<|J.c j23<|J.a0 O (λh139=>?_) (λh139=>?_)
  ·
   refine J.H<|J.M 2 qEX qB9 O O O O O<|J.f (qAV (vs:= [.slice rB.bA rB.bs.length rB.bc,.bool (rB.th),Str (rB.pk),Str (rB.pv)]) O O qEb qB9 (m:=blk g15 [Str (nmS M),.slice rB.A (leS M).length rB.c,.slice rB.bA rB.bs.length rB.bc,.bool (rB.th),Str (rB.pk),Str (rB.pv)] 55) xD (qAM.blk0.sub 2 4) O) O<|J.M 2 qEX qB9 O O O O O<|J.a6 (qAT (i:=16) (l:= [Str (nmS L),.slice A120 ((leS L).length) c120,.slice rA.bA rA.bs.length rA.bc,.bool (rA.th),Str (rA.pk),Str (rA.pv)]) (vs:= [.slice rB.bA rB.bs.length rB.bc,.bool (rB.th),Str (rB.pk),Str (rB.pv)]) O O O O O qB9 O xD) O O λ_ _=>?_
   change J _ _ _ [blk gc [I (2:Nat),I (2:Nat),.slice A5 hd5.length c5] 89,mc,U [H,y64.1.G],mp,F,blk g6 [I (2:Nat),I (2:Nat)] 26,blk g9 [N64 (yh.ep),Str (yh.par),I (yh.dep:Nat),I (yh.aud:Nat),.slice yh.nsA yh.ns.length yh.nsc] 34,Nc,blk g77 [Str [97,108,105,99,101],Str [98,111,98],Str [101,118,101]] 9,rA.mb,rA.m,blk g13 [Str (nmS L),.slice rA.A (leS L).length rA.c,.slice rA.bA rA.bs.length rA.bc,.bool (rA.th),Str (rA.pk),Str (rA.pv)] 55,rB.mb,rB.m,blk g15 [Str (nmS M),.slice rB.A (leS M).length rB.c,.slice rB.bA rB.bs.length rB.bc,.bool (rB.th),Str (rB.pk),Str (rB.pv)] 55,blk g17 [N64 ((exS L).v),Str ((exS L).o),Str ((exS L).r),I ((exS L).h),Str ((exS L).p)] 61,blk g20 [Str (nmS L),.slice A120 ((leS L).length) c120,.slice rB.bA rB.bs.length rB.bc,.bool (rB.th),Str (rB.pk),Str (rB.pv)] 55,m120] _
   exact J.a4<|J.a3<|J.u<|J.a5 (L,m120,A120,(leS L).length,c120,leS L,rB.bA,rB.bc,rB.bs,rB.th,rB.pk,rB.pv) j20 (⟨hL,h120.sl,qCf L,(by dsimp only;omega),hrB.bl,hrB.pl,λF9 h1 h2=>hrB.rb.sl.mono h2,fair1 hL _ _ _⟩) ⟨O,O,O,O,O,O,O,trivial⟩ (λ_ h=>h.pick [0,1,2,3,4,5,6,7,9,10,12,11,16,17] xC)
  refine J.g λ_ j24=>J.f ((qAX O O O).as (v':= .bool (decide (Q=2))) (congrArg Value.bool (decide_eq_decide.2 xB))) O<|J.b O<|J.c j24<|J.a0 O (λh144=>?_) (λh144=>?_)
  ·
   refine J.H<|J.p (qBV O qDJ el61) O λg146 _=>?_
   change J _ _ _ [blk gc [I (2:Nat),I (2:Nat),.slice A5 hd5.length c5] 89,mc,U [H,y64.1.G],mp,F,blk g6 [I (2:Nat),I (2:Nat)] 26,blk g9 [N64 (yh.ep),Str (yh.par),I (yh.dep:Nat),I (yh.aud:Nat),.slice yh.nsA yh.ns.length yh.nsc] 34,Nc,blk g77 [Str [97,108,105,99,101],Str [98,111,98],Str [101,118,101]] 9,rA.mb,rA.m,blk g13 [Str (nmS L),.slice rA.A (leS L).length rA.c,.slice rA.bA rA.bs.length rA.bc,.bool (rA.th),Str (rA.pk),Str (rA.pv)] 55,rB.mb,rB.m,blk g15 [Str (nmS M),.slice rB.A (leS M).length rB.c,.slice rB.bA rB.bs.length rB.bc,.bool (rB.th),Str (rB.pk),Str (rB.pv)] 55,blk g17 [N64 ((exS L).v),Str ((exS L).o),Str ((exS L).r),I ((exS L).h),Str ((exS L).p)] 61,blk g20 [Str (nmS L),.slice A120 ((leS L).length) c120,.slice rA.bA rA.bs.length rA.bc,.bool (rA.th),Str (rA.pk),Str (rA.pv)] 55,m120,blk g146 [] 61] _
   refine J.M 1 qEX qF5 O O O O O<|J.f (qAC 14 (v:= .slice rB.A (leS M).length rB.c) O O O qLT O) O<|J.p (qAU (i:=18) (xs:=qDD ([])) (m2:=rB.m) (ys:=qDD (leS M)) O O O qDJ qDJ el61 O (qAl (q:=True) (xs:=qDD ([])) O (by intro x hx;first|exact absurd hx (jz)|(rw [List.mem_singleton.1 hx];rfl))) xD (hrB.ro.sl) (qL5 _) xB xB) O ?_
   rintro⟨A149,c149,m149⟩ h149
   try dsimp only at h149
   change J _ ((149,.slice A149 (0+((leS M).length)) c149)::_) _ [_,_,_,_,_,_,_,_,_,_,_,_,_,_,_,_,_,_,m149] _
   replace h149:Row m149 61 5 A149 (leS M).length c149 (qDD (leS M)):=by have h:=h149;rw [jX] at h;exact h
   rw [jX]
   refine J.M 1 qEX qF5 O O O O O<|J.a6 (qAT (i:=16) (l:= [Str (nmS L),.slice A120 ((leS L).length) c120,.slice rA.bA rA.bs.length rA.bc,.bool (rA.th),Str (rA.pk),Str (rA.pv)]) (vs:= [.slice A149 ((leS M).length) c149]) O O O O O qF5 O xD) O O λ_ _=>?_
   change J _ _ _ [_,_,_,_,_,_,_,_,_,_,_,_,_,_,_,_,blk g20 [Str (nmS L),.slice A149 ((leS M).length) c149,.slice rA.bA rA.bs.length rA.bc,.bool (rA.th),Str (rA.pk),Str (rA.pv)] 55,_,_] _
   exact J.a4<|J.a3<|J.u<|J.a5 (L,m149,A149,(leS M).length,c149,leS M,rA.bA,rA.bc,rA.bs,rA.th,rA.pk,rA.pv) j20 (⟨hL,h149.sl,qCf M,(by dsimp only;omega),hrA.bl,hrA.pl,λF9 h1 h2=>hrA.rb.sl.mono h1,by rw [hMd];exact fair2 hL hrA.own⟩) ⟨O,O,O,O,O,O,O,trivial⟩ (λ_ h=>h.pick [0,1,2,3,4,5,6,7,9,10,12,11,16,18] xC)
  refine J.g λ_ j25=>J.f ((qAX O O O).as (v':= .bool (decide (Q=3))) (congrArg Value.bool (decide_eq_decide.2 xB))) O<|J.b O<|J.c j25<|J.a0 O (λh151=>?_) (λh151=>?_)
  ·
   refine J.g λ_ j26=>J.M 1 qEX qF5 O O O O O<|J.f (qAC 16 (v:= .slice A120 ((leS L).length) c120) O O O qLT O) O<|J.f (qAR qDJ O O) O<|J.f (qAz O O O) O<|J.c j26<|J.a0 O (λh156=>?_) (λh156=>?_)
   ·
    have h2L:L<2:=by
     rcases zq L 2 with h|h
     · exact h
     · rw [show leS L= [] from if_neg xB] at h156;exact absurd h156 xC
    have hle:leS L= [enO]:=if_pos h2L
    obtain ⟨ga,hga⟩:=qM5 h120 xB
    refine J.H<|J.M 1 qEX qF5 O O O O O<|J.f (qAC 16 (v:= .slice A120 ((leS L).length) c120) O O O qLT O) O<|J.f (qAF (i:=0) O O O qDJ qBY h120.sl xB) O<|J.f (qDU (off:=1) O O qFQ O qEA h120.sl xB O) O<|J.f (qAA O O qLQ O z3_ O) O<|J.a6 (qKQ (i:=17) (g:=ga) (j:=3) (k:=0) (off:=3) (a:=enO.cells) (b:=(enX 1 5 qAh).cells) hga O (by rw [hga];rfl) O O h120 (vs:= [I 5]) O z3_ O O (by rw [hle];rfl) O xC) O O ?_
    rintro m161 h161
    change J _ _ _ [blk gc [I (2:Nat),I (2:Nat),.slice A5 hd5.length c5] 89,mc,U [H,y64.1.G],mp,F,blk g6 [I (2:Nat),I (2:Nat)] 26,blk g9 [N64 (yh.ep),Str (yh.par),I (yh.dep:Nat),I (yh.aud:Nat),.slice yh.nsA yh.ns.length yh.nsc] 34,Nc,blk g77 [Str [97,108,105,99,101],Str [98,111,98],Str [101,118,101]] 9,rA.mb,rA.m,blk g13 [Str (nmS L),.slice rA.A (leS L).length rA.c,.slice rA.bA rA.bs.length rA.bc,.bool (rA.th),Str (rA.pk),Str (rA.pv)] 55,rB.mb,rB.m,blk g15 [Str (nmS M),.slice rB.A (leS M).length rB.c,.slice rB.bA rB.bs.length rB.bc,.bool (rB.th),Str (rB.pk),Str (rB.pv)] 55,blk g17 [N64 ((exS L).v),Str ((exS L).o),Str ((exS L).r),I ((exS L).h),Str ((exS L).p)] 61,blk g20 [Str (nmS L),.slice A120 ((leS L).length) c120,.slice rA.bA rA.bs.length rA.bc,.bool (rA.th),Str (rA.pk),Str (rA.pv)] 55,m161] _
    replace h161:Sl m161 5 A120 (leS L).length c120 (qDD [enX 1 5 qAh]):=by have h:=h161.sl;rw [show(qDD (leS L)).set 0 (enX 1 5 qAh).cells=qDD [enX 1 5 qAh] by rw [hle];rfl] at h;exact h
    have hg161: ∀z∈ [enX 1 5 qAh],z.good:=λz hz=>by rw [List.mem_singleton.1 hz];have h:=qCf 0 enO (.head _);exact⟨h.1,h.2.1,h.2.2.1,h.2.2.2⟩
    exact J.a4<|J.a3<|J.u<|J.a5 (L,m161,A120,(leS L).length,c120,[enX 1 5 qAh],rA.bA,rA.bc,rA.bs,rA.th,rA.pk,rA.pv) j20 (⟨hL,h161,hg161,(by dsimp only;omega),hrA.bl,hrA.pl,λF9 h1 h2=>hrA.rb.sl.mono h1,fair3 hrA.own h2L⟩) ⟨O,O,O,O,O,O,O,trivial⟩ (λ_ h=>h.pick [0,1,2,3,4,5,6,7,9,10,12,11,16,17] xC)
   exact J.b5<|J.a3<|J.u<|J.a5 (L,m120,A120,(leS L).length,c120,leS L,rA.bA,rA.bc,rA.bs,rA.th,rA.pk,rA.pv) j20 (⟨hL,h120.sl,qCf L,(by dsimp only;omega),hrA.bl,hrA.pl,λF9 h1 h2=>hrA.rb.sl.mono h1,by have h0:leS L= []:=jU xB;rw [h0];exact qZi hL hrA.own⟩) ⟨O,O,O,O,O,O,O,trivial⟩ (λ_ h=>h.pick [0,1,2,3,4,5,6,7,9,10,12,11,16,17] xC)
  refine J.g λ_ j27=>J.f ((qAX O O O).as (v':= .bool (decide (Q=4))) (congrArg Value.bool (decide_eq_decide.2 xB))) O<|J.b O<|J.c j27<|J.a0 O (λh162=>?_) (λh162=>?_)
  ·
   refine J.H<|J.M 1 qEX qF5 O O O O O<|J.a6 (qAT (i:=16) (l:= [Str (nmS L),.slice A120 ((leS L).length) c120,.slice rA.bA rA.bs.length rA.bc,.bool (rA.th),Str (rA.pk),Str (rA.pv)]) (vs:= [.slice none 0 0]) O O O O O qF5 O xD) O O λ_ _=>?_
   change J _ _ _ [blk gc [I (2:Nat),I (2:Nat),.slice A5 hd5.length c5] 89,mc,U [H,y64.1.G],mp,F,blk g6 [I (2:Nat),I (2:Nat)] 26,blk g9 [N64 (yh.ep),Str (yh.par),I (yh.dep:Nat),I (yh.aud:Nat),.slice yh.nsA yh.ns.length yh.nsc] 34,Nc,blk g77 [Str [97,108,105,99,101],Str [98,111,98],Str [101,118,101]] 9,rA.mb,rA.m,blk g13 [Str (nmS L),.slice rA.A (leS L).length rA.c,.slice rA.bA rA.bs.length rA.bc,.bool (rA.th),Str (rA.pk),Str (rA.pv)] 55,rB.mb,rB.m,blk g15 [Str (nmS M),.slice rB.A (leS M).length rB.c,.slice rB.bA rB.bs.length rB.bc,.bool (rB.th),Str (rB.pk),Str (rB.pv)] 55,blk g17 [N64 ((exS L).v),Str ((exS L).o),Str ((exS L).r),I ((exS L).h),Str ((exS L).p)] 61,blk g20 [Str (nmS L),.slice none 0 0,.slice rA.bA rA.bs.length rA.bc,.bool (rA.th),Str (rA.pk),Str (rA.pv)] 55,m120] _
   exact J.a4<|J.a3<|J.u<|J.a5 (L,m120,none,0,0,[],rA.bA,rA.bc,rA.bs,rA.th,rA.pk,rA.pv) j20 (⟨hL,Sl.nil,(λz hz=>by cases hz),(jG _),hrA.bl,hrA.pl,λF9 h1 h2=>hrA.rb.sl.mono h1,qZi hL hrA.own⟩) ⟨O,O,O,O,O,O,O,trivial⟩ (λ_ h=>h.pick [0,1,2,3,4,5,6,7,9,10,12,11,16,17] xC)
  refine J.b1 [blk g20 [Str (nmS L),.slice A120 ((leS L).length) c120,.slice rA.bA rA.bs.length rA.bc,.bool (rA.th),Str (rA.pk),Str (rA.pv)] 55,blk g17 [N64 ((exS L).v),Str ((exS L).o),Str ((exS L).r),I ((exS L).h),Str ((exS L).p)] 61] [10] (.y 0 (.y 1 (.y 2 (.y 3 (.y 4 (.e 5 (.y 6 (.e 7 (.e 8 (.y 9 (.e 10 .nil))))))))))) Tryz.wide xF xD ?_
  refine J.j O (qAA (j:=1) O O qEX O qF5 O) O O<|J.j O (qAC 0 (v:= .slice A120 ((leS L).length) c120) O O O qLT O) O O<|J.j O (qAA (j:=1) O O qFQ O qEA O) O O<|J.j O (qAV (vs:= [Str ((exS L).o),Str ((exS L).r),I ((exS L).h)]) O O qLS qEA (m:=blk g17 [N64 ((exS L).v),Str ((exS L).o),Str ((exS L).r),I ((exS L).h),Str ((exS L).p)] 61) xD (qAM.blk0.sub 1 3) O) O O<|J.j O (qAW 1 O O O qC6 qBY O) O O<|J.Z O (qAa O O (λF' hF=>qDC F' (hK.mo hF) (exS L).v (exS L).o (exS L).r (exS L).h (exS L).p hxg.1 hxg.2.1 hxg.2.2.1 hxg.2.2.2)) O xD λg129 _=>J.j O (qAH (l:= [(0,.const ((Value.int IntKind.u64 2))),(1,.tmp 127),(2,.tmp 129)]) (vs:= [N64 (2),.agg #[Str ((exS L).o),Str ((exS L).r),I ((exS L).h)],Str ((exS L).val)]) (places:= [(0,1),(1,3),(4,1)]) (r:= [N64 (2),Str ((exS L).o),Str ((exS L).r),I ((exS L).h),Str ((exS L).val)]) O O O qFQ qFh (λ_=>xI) O) O O<|J.Z O (qAE (l:= [.tmp 130]) (xs:= [[N64 (2),Str ((exS L).o),Str ((exS L).r),I ((exS L).h),Str ((exS L).val)]]) O O O O qDJ el61 O xC xC xD) O xD λg131 _=>?_
  change J _ _ _ [blk gc [I (2:Nat),I (2:Nat),.slice A5 hd5.length c5] 89,mc,U [H,y64.1.G],mp,F,blk g6 [I (2:Nat),I (2:Nat)] 26,blk g9 [N64 (yh.ep),Str (yh.par),I (yh.dep:Nat),I (yh.aud:Nat),.slice yh.nsA yh.ns.length yh.nsc] 34,Nc,blk g77 [Str [97,108,105,99,101],Str [98,111,98],Str [101,118,101]] 9,rA.mb,rA.m,blk g13 [Str (nmS L),.slice rA.A (leS L).length rA.c,.slice rA.bA rA.bs.length rA.bc,.bool (rA.th),Str (rA.pk),Str (rA.pv)] 55,rB.mb,rB.m,blk g15 [Str (nmS M),.slice rB.A (leS M).length rB.c,.slice rB.bA rB.bs.length rB.bc,.bool (rB.th),Str (rB.pk),Str (rB.pv)] 55,blk g17 [N64 ((exS L).v),Str ((exS L).o),Str ((exS L).r),I ((exS L).h),Str ((exS L).p)] 61,blk g20 [Str (nmS L),.slice A120 ((leS L).length) c120,.slice rA.bA rA.bs.length rA.bc,.bool (rA.th),Str (rA.pk),Str (rA.pv)] 55,m120,blk g131 [N64 (2),Str ((exS L).o),Str ((exS L).r),I ((exS L).h),Str ((exS L).val)] 61] _
  refine J.Z O (qAU (i:=17) (xs:=qDD (leS L)) (m2:=blk g131 [N64 (2),Str ((exS L).o),Str ((exS L).r),I ((exS L).h),Str ((exS L).val)] 61) (ys:= [[N64 (2),Str ((exS L).o),Str ((exS L).r),I ((exS L).h),Str ((exS L).val)]]) O O O qDJ qDJ el61 O h120 xD ((qAl (q:=True) (xs:=qDD [(⟨2,(exS L).o,(exS L).r,(exS L).h,(exS L).val⟩:En)]) O (by intro x hx;rw [List.mem_singleton.1 hx];rfl)).sl) O xB xB) O xD ?_
  rintro⟨A132,c132,m132⟩ h132
  try dsimp only at h132
  change J _ ((132,.slice A132 (((leS L).length)+1) c132)::_) _ [_,_,_,_,_,_,_,_,_,_,_,_,_,_,_,_,_,m132,_] _
  replace h132:Row m132 61 5 A132 (((leS L).length)+1) c132 (qDD ((leS L)++([(⟨2,(exS L).o,(exS L).r,(exS L).h,(exS L).val⟩:En)]))):=by rw [qR3];exact h132
  refine J.j O (qAA (j:=1) O O qEX O qF5 O) O O<|J.c1 O (qAT (i:=16) (l:= [Str (nmS L),.slice A120 ((leS L).length) c120,.slice rA.bA rA.bs.length rA.bc,.bool (rA.th),Str (rA.pk),Str (rA.pv)]) (vs:= [.slice A132 (((leS L).length)+1) c132]) O O O O O qF5 O xD) O O O λ_ _=>?_
  change J _ _ _ [_,_,_,_,_,_,_,_,_,_,_,_,_,_,_,_,blk g20 [Str (nmS L),.slice A132 (((leS L).length)+1) c132,.slice rA.bA rA.bs.length rA.bc,.bool (rA.th),Str (rA.pk),Str (rA.pv)] 55,_,_] _
  exact J.a9<|J.a3<|J.u<|J.a5 (L,m132,A132,((leS L).length+1),c132,(leS L++ [(⟨2,(exS L).o,(exS L).r,(exS L).h,(exS L).val⟩:En)]),rA.bA,rA.bc,rA.bs,rA.th,rA.pk,rA.pv) j20 (⟨hL,h132.sl,(λz hz=>by rcases List.mem_append.1 hz with h|h;exact qCf L z h;rw [List.mem_singleton.1 h];exact⟨by show(2:Nat)<18446744073709551616;decide,hxg.2.1,hxg.2.2.1,qPM _⟩),(by dsimp only;omega),hrA.bl,hrA.pl,λF9 h1 h2=>hrA.rb.sl.mono h1,fair5 hrA.own⟩) ⟨O,O,O,O,O,O,O,trivial⟩ (λ_ h=>h.pick [0,1,2,3,4,5,6,7,9,10,12,11,16,17] xC)
 rintro⟨jl,mh,Ae,ne,ce,le,Ab,cb,bs,th,pk,pv⟩ ⟨hjl,hse,hel,hel2,hbl,hpv,hsb,hfair⟩
 dsimp only at hjl hse hel hel2 hbl hpv hsb hfair⊢
 refine J.g λ_ j28=>J.b O<|J.b8 12 isAgg55 qJk O O O O O<|J.p (qAK O O ent (Ct.use (new:=λ_:Bool=> []) (λF' hF=>qU4 F' (hK.mo hF) gc 2 2 A5 hd5.length c5 hd5 (ha5.row.sl.mono (Fa hF)) xB xB (qAM.blk0.mono (hF (blk gc [I (2:Nat),I (2:Nat),.slice A5 hd5.length c5] 89) xD)) (by rw [hlast,hylt];exact hyg) (by rw [hlast];exact hyln.mono (Fa hF)) (by rw [hlast,hyl_];dsimp only;rw [hyns];exact qCH _) (nmS jl) (jZ (qJJ hjl) xC) Ae ne ce le (hse.mono (Fa hF)) hel xB Ab cb bs (hsb F' (Fa hF) (Fa hF)) xB th pk pv hpv))) O ?_
 rintro bK hbK
 have hfr:=hfair bK hbK
 refine J.k 4 O<|J.p (qAJ (l:= [.int .u64 0,Str [],Str [],I 0,Str []]) O qFh O) O λg21 _=>?_
 change J _ _ _ [blk gc [I (2:Nat),I (2:Nat),.slice A5 hd5.length c5] 89,mc,U [H,y64.1.G],mp,F,blk g6 [I (2:Nat),I (2:Nat)] 26,blk g9 [N64 (yh.ep),Str (yh.par),I (yh.dep:Nat),I (yh.aud:Nat),.slice yh.nsA yh.ns.length yh.nsc] 34,Nc,rA.mb,rA.m,rB.mb,blk g13 [Str (nmS L),.slice rA.A (leS L).length rA.c,.slice rA.bA rA.bs.length rA.bc,.bool (rA.th),Str (rA.pk),Str (rA.pv)] 55,blk g20 [Str (nmS jl),.slice Ae ne ce,.slice Ab bs.length cb,.bool th,Str (pk),Str (pv)] 55,mh,blk g21 [.int .u64 0,Str [],Str [],I 0,Str []] 61] _
 refine J.a6 (qAD (i:=14) (l:= [.int .u64 0,Str [],Str [],I 0,Str []]) (vs:= [N64 ((qB8 le bK).1.v),Str ((qB8 le bK).1.o),Str ((qB8 le bK).1.r),I ((qB8 le bK).1.h),Str ((qB8 le bK).1.p)]) O O O O O qBY O O) O O λ_ _=>?_
 change J _ _ _ [_,_,_,_,_,_,_,_,_,_,_,_,_,_,blk g21 [N64 ((qB8 le bK).1.v),Str ((qB8 le bK).1.o),Str ((qB8 le bK).1.r),I ((qB8 le bK).1.h),Str ((qB8 le bK).1.p)] 61] _
 refine J.k 2 O<|J.c j28<|J.q λ_ j29=>J.g λ_ j30=>J.b O<|J.f (qAX O O O) O<|J.c j30<|J.a0 O (λh173=>?_) (λh173=>?_)
 ·
  obtain ⟨e1,e2⟩:=hfr h173
  refine J.d4 (X:=AnR×Nat) (λζ=> [(5,Ptr gw),(6,Ptr g6),(7,Ptr gc),(9,Ptr g9),(13,Ptr g13),(18,.bool (okS L)),(21,Ptr g21),(22,.bool ((qB8 le bK).2.1)),(24,Ptr ζ.2)]) (λζ=> [blk gc [I (2:Nat),I (2:Nat),.slice A5 hd5.length c5] 89,mc,U [H,y64.1.G],mp,F,blk g6 [I (2:Nat),I (2:Nat)] 26,blk g9 [N64 (yh.ep),Str (yh.par),I (yh.dep:Nat),I (yh.aud:Nat),.slice yh.nsA yh.ns.length yh.nsc] 34,Nc,rA.mb,rA.m,rB.mb,blk g13 [Str (nmS L),.slice rA.A (leS L).length rA.c,.slice rA.bA rA.bs.length rA.bc,.bool (rA.th),Str (rA.pk),Str (rA.pv)] 55,blk g20 [Str (nmS jl),.slice Ae ne ce,.slice Ab bs.length cb,.bool th,Str (pk),Str (pv)] 55,blk g21 [N64 ((qB8 le bK).1.v),Str ((qB8 le bK).1.o),Str ((qB8 le bK).1.r),I ((qB8 le bK).1.h),Str ((qB8 le bK).1.p)] 61,ζ.1.mb,ζ.1.m,blk ζ.2 [Str (nmS jl),.slice ζ.1.A (leS jl).length ζ.1.c,.slice ζ.1.bA ζ.1.bs.length ζ.1.bc,.bool (ζ.1.th),Str (ζ.1.pk),Str (ζ.1.pv)] 55]) (λζ=>AnP jl ζ.1) (λ_ j31=>?_) ?_
  ·
   refine J.b1 [U [H,y64.1.G],blk g20 [Str (nmS jl),.slice Ae ne ce,.slice Ab bs.length cb,.bool th,Str (pk),Str (pv)] 55] [11,12,100009] (.y 0 (.y 1 (.y 2 (.y 3 (.y 4 (.y 5 (.br (.e 6 (.y 7 (.y 8 (.y 9 (.e 10 (.e 11 (.e 12 .nil))))))) (.e 10 (.e 6 (.y 7 (.y 8 (.y 9 (.e 11 (.e 12 .nil)))))))))))))) Tryz.wide xF xD ?_
   refine J.L ?_
   refine J.j O (qAB O O) O O<|J.j O (qAA (j:=0) O O qEt O qJl O) O O<|J.j O (qAI (v:=Ptr x.gs) O O qLU (m:=U [H,y64.1.G]) xD ((hW.w.mono (qHE hj)).at (i:=0) O)) O O<|J.j O (qAA (j:=0) O O qEX O z9_ O) O O<|J.j O (qAC 1 (v:=Str (nmS jl)) O O O b9_ O) O O<|J.d5 ?_ ?_
   ·
    refine J.Z O (qAK O O ent (Ct.use (new:=λr:AnR=> [r.mb,r.m]) (λF' hF=>qEP F' mp (U [H,y64.1.G]) (hK.mo hF) hX (Fa hF) (Fa hF) hkv hnow jl hjl))) O xD ?_
    rintro rD hrD
    change J _ ((181,.tuple #[.agg #[Str (nmS jl),.slice rD.A (leS jl).length rD.c,.slice rD.bA rD.bs.length rD.bc,.bool (rD.th),Str (rD.pk),Str (rD.pv)],I (0:Nat)])::_) _ [blk gc [I (2:Nat),I (2:Nat),.slice A5 hd5.length c5] 89,mc,U [H,y64.1.G],mp,F,blk g6 [I (2:Nat),I (2:Nat)] 26,blk g9 [N64 (yh.ep),Str (yh.par),I (yh.dep:Nat),I (yh.aud:Nat),.slice yh.nsA yh.ns.length yh.nsc] 34,Nc,rA.mb,rA.m,rB.mb,blk g13 [Str (nmS L),.slice rA.A (leS L).length rA.c,.slice rA.bA rA.bs.length rA.bc,.bool (rA.th),Str (rA.pk),Str (rA.pv)] 55,blk g20 [Str (nmS jl),.slice Ae ne ce,.slice Ab bs.length cb,.bool th,Str (pk),Str (pv)] 55,mh,blk g21 [N64 ((qB8 le bK).1.v),Str ((qB8 le bK).1.o),Str ((qB8 le bK).1.r),I ((qB8 le bK).1.h),Str ((qB8 le bK).1.p)] 61,rD.mb,rD.m] _
    refine J.L ?_
    refine J.c2 (.agg #[Str (nmS jl),.slice rD.A ((leS jl).length) rD.c,.slice rD.bA rD.bs.length rD.bc,.bool (rD.th),Str (rD.pk),Str (rD.pv)]) ?_
    refine J.d3 O (qAb (v:=I (0:Nat)) O O O) O O O ?_
    refine J.Z O (qAJ (l:= [Str [],.slice none 0 0,.slice none 0 0,.bool false,Str [],Str []]) O qR7 O) O xD λg24 _=>?_
    change J _ _ _ [_,_,_,_,_,_,_,_,_,_,_,_,_,_,_,_,_,blk g24 [Str [],.slice none 0 0,.slice none 0 0,.bool false,Str [],Str []] 55] _
    refine J.c1 O (qAD (i:=17) (l:= [Str [],.slice none 0 0,.slice none 0 0,.bool false,Str [],Str []]) (vs:= [Str (nmS jl),.slice rD.A ((leS jl).length) rD.c,.slice rD.bA rD.bs.length rD.bc,.bool (rD.th),Str (rD.pk),Str (rD.pv)]) O O O O O qJk O O) O O O λ_ _=>?_
    change J _ _ _ [_,_,_,_,_,_,_,_,_,_,_,_,_,_,_,_,_,blk g24 [Str (nmS jl),.slice rD.A ((leS jl).length) rD.c,.slice rD.bA rD.bs.length rD.bc,.bool (rD.th),Str (rD.pk),Str (rD.pv)] 55] _
    refine J.d1 O (YOp.eop (qBG O O)) O O O O ?_
    intro _ _
    exact J.a9<|J.u<|J.a5 (rD,g24) j31 (hrD) ⟨O,O,O,O,O,O,O,O,O,trivial⟩ (λ_ h=>h.pick [0,1,2,3,4,5,6,7,8,9,10,11,12,14,15,16,17] xC)
   refine J.Z O (qAJ (l:= [Str [],.slice none 0 0,.slice none 0 0,.bool false,Str [],Str []]) O qR7 O) O xD λg24 _=>?_
   change J _ _ _ [blk gc [I (2:Nat),I (2:Nat),.slice A5 hd5.length c5] 89,mc,U [H,y64.1.G],mp,F,blk g6 [I (2:Nat),I (2:Nat)] 26,blk g9 [N64 (yh.ep),Str (yh.par),I (yh.dep:Nat),I (yh.aud:Nat),.slice yh.nsA yh.ns.length yh.nsc] 34,Nc,rA.mb,rA.m,rB.mb,blk g13 [Str (nmS L),.slice rA.A (leS L).length rA.c,.slice rA.bA rA.bs.length rA.bc,.bool (rA.th),Str (rA.pk),Str (rA.pv)] 55,blk g20 [Str (nmS jl),.slice Ae ne ce,.slice Ab bs.length cb,.bool th,Str (pk),Str (pv)] 55,mh,blk g21 [N64 ((qB8 le bK).1.v),Str ((qB8 le bK).1.o),Str ((qB8 le bK).1.r),I ((qB8 le bK).1.h),Str ((qB8 le bK).1.p)] 61,blk g24 [Str [],.slice none 0 0,.slice none 0 0,.bool false,Str [],Str []] 55] _
   refine J.Z O (qAK O O ent (Ct.use (new:=λr:AnR=> [r.mb,r.m]) (λF' hF=>qEP F' mp (U [H,y64.1.G]) (hK.mo hF) hX (Fa hF) (Fa hF) hkv hnow jl hjl))) O xD ?_
   rintro rD hrD
   change J _ ((181,.tuple #[.agg #[Str (nmS jl),.slice rD.A (leS jl).length rD.c,.slice rD.bA rD.bs.length rD.bc,.bool (rD.th),Str (rD.pk),Str (rD.pv)],I (0:Nat)])::_) _ [_,_,_,_,_,_,_,_,_,_,_,_,_,_,_,_,rD.mb,rD.m] _
   refine J.L ?_
   refine J.c2 (.agg #[Str (nmS jl),.slice rD.A ((leS jl).length) rD.c,.slice rD.bA rD.bs.length rD.bc,.bool (rD.th),Str (rD.pk),Str (rD.pv)]) ?_
   refine J.d3 O (qAb (v:=I (0:Nat)) O O O) O O O ?_
   refine J.c1 O (qAD (i:=15) (l:= [Str [],.slice none 0 0,.slice none 0 0,.bool false,Str [],Str []]) (vs:= [Str (nmS jl),.slice rD.A ((leS jl).length) rD.c,.slice rD.bA rD.bs.length rD.bc,.bool (rD.th),Str (rD.pk),Str (rD.pv)]) O O O O O qJk O O) O O O λ_ _=>?_
   change J _ _ _ [_,_,_,_,_,_,_,_,_,_,_,_,_,_,_,blk g24 [Str (nmS jl),.slice rD.A ((leS jl).length) rD.c,.slice rD.bA rD.bs.length rD.bc,.bool (rD.th),Str (rD.pk),Str (rD.pv)] 55,_,_] _
   refine J.d1 O (YOp.eop (qBG O O)) O O O O ?_
   intro _ _
   exact J.a9<|J.u<|J.a5 (rD,g24) j31 (hrD) ⟨O,O,O,O,O,O,O,O,O,trivial⟩ (λ_ h=>h.pick [0,1,2,3,4,5,6,7,8,9,10,11,12,14,16,17,15] xC)
  rintro⟨rD,g24⟩ hrD
  dsimp only at hrD⊢
  refine J.g λ_ j32=>J.b O<|J.b8 16 isAgg55 qJk O O O O O<|J.p (qAa O O (λF' hF=>(by have:=qMY F' (hK.mo hF) gc 2 2 A5 hd5.length c5 hd5 (ha5.row.sl.mono (Fa hF)) xB xB (qAM.blk0.mono (hF (blk gc [I (2:Nat),I (2:Nat),.slice A5 hd5.length c5] 89) xD)) (by rw [hlast,hylt];exact hyg) (by rw [hlast];exact hyln.mono (Fa hF)) (by rw [hlast,hyl_];dsimp only;rw [hyns];exact qCH _) (nmS jl) (jZ (qJJ hjl) xC) rD.A (leS jl).length rD.c (leS jl) (hrD.ro.sl.mono (Fa hF)) (qCf jl) (qRX jl) rD.bA rD.bc _ (hrD.rb.sl.mono (Fa hF)) _ _ _ hrD.good hrD.pl;rw [hlast] at this;rw [show Sha.tagged 11 [nmS jl]=nmD jl from rfl,hrD.chk yl 2 (hylt.trans hyt)] at this;exact this))) O λg187 _=>J.k 4 O<|J.p (qAJ (l:= [.int .u64 0,Str [],Str [],I 0,Str []]) O qFh O) O λg26 _=>?_
  change J _ _ _ [blk gc [I (2:Nat),I (2:Nat),.slice A5 hd5.length c5] 89,mc,U [H,y64.1.G],mp,F,blk g6 [I (2:Nat),I (2:Nat)] 26,blk g9 [N64 (yh.ep),Str (yh.par),I (yh.dep:Nat),I (yh.aud:Nat),.slice yh.nsA yh.ns.length yh.nsc] 34,Nc,rA.mb,rA.m,rB.mb,blk g13 [Str (nmS L),.slice rA.A (leS L).length rA.c,.slice rA.bA rA.bs.length rA.bc,.bool (rA.th),Str (rA.pk),Str (rA.pv)] 55,blk g20 [Str (nmS jl),.slice Ae ne ce,.slice Ab bs.length cb,.bool th,Str (pk),Str (pv)] 55,blk g21 [N64 ((qB8 le bK).1.v),Str ((qB8 le bK).1.o),Str ((qB8 le bK).1.r),I ((qB8 le bK).1.h),Str ((qB8 le bK).1.p)] 61,rD.mb,rD.m,blk g24 [Str (nmS jl),.slice rD.A (leS jl).length rD.c,.slice rD.bA rD.bs.length rD.bc,.bool (rD.th),Str (rD.pk),Str (rD.pv)] 55,blk g26 [.int .u64 0,Str [],Str [],I 0,Str []] 61] _
  refine J.a6 (qAD (i:=17) (l:= [.int .u64 0,Str [],Str [],I 0,Str []]) (vs:= [N64 ((exS jl).v),Str ((exS jl).o),Str ((exS jl).r),I ((exS jl).h),Str ((exS jl).p)]) O O O O O qBY O O) O O λ_ _=>?_
  change J _ _ _ [_,_,_,_,_,_,_,_,_,_,_,_,_,_,_,_,_,blk g26 [N64 ((exS jl).v),Str ((exS jl).o),Str ((exS jl).r),I ((exS jl).h),Str ((exS jl).p)] 61] _
  refine J.k 2 O<|J.c j32<|J.g λ_ j33=>J.b O<|J.f ((qAe O O O).no xD) O<|J.k 3 O<|J.D ((qXY u4_ O O O).as (v':= .bool false) (by rw [e2];cases okS jl<;>rfl)) O<|J.k 2 O<|J.D (qAW 13 O O O qC6 qBY O) O<|J.D (qAW 17 O O O qC6 qBY O) O<|J.D ((qZG O O O xI (λw=>eqEn (qB8 le bK).1 (exS jl) w)).as (v':= .bool false) (by rw [e1,decide_eq_true rfl];rfl)) O<|J.b O<|J.c j33<|J.a2 ?_
  refine J.T j29<|J.g λ_ j34=>J.b8 6 qDF qBv O O O O O<|J.b8 5 qS2 qON O O O O O<|J.p (qAa O O (λF' hF=>(by have:=qN3 F' yh hyg (hyn.mono (Fa hF)) 2 2 (by rw [hygen];decide);rw [hygen] at this;exact this))) O λg206 _=>J.k 5 O<|J.c j34<|J.g λ_ j35=>J.b O<|J.f (qAB O O) O<|J.M 0 qEt qJl O O O O O<|J.f (qAI (v:=Ptr x.gs) O O qLU (m:=U [H,y64.1.G]) xD ((hW.w.mono (qHE hj)).at (i:=0) O)) O<|J.p (qAK O O ent (Ct.use (new:=λq:Option Addr×Nat×Hp=> [q.2.2]) (λF' hF=>qDR F' ((x.two y1 y2).pub y64) (hX.cells.mono (Fa hF)) (hX.hsl.mono (Fa hF)) (by rw [hX2];decide)))) O ?_
  rintro⟨A214,c214,m214⟩ h214
  try dsimp only at h214
  change J _ ((214,.slice A214 ((x.two y1 y2).pub y64).hd.length c214)::_) _ [_,_,_,_,_,_,_,_,_,_,_,_,_,_,_,_,_,_,m214] _
  replace h214:Row m214 34 5 A214 ((x.two y1 y2).pub y64).hd.length c214 (qCk ((x.two y1 y2).pub y64).hd):=h214
  refine J.f (qAF (i:=0) O O O qEY qBv h214.sl xB) O<|J.f (qAV (vs:= [N64 (p.ep),Str (p.par),I (p.dep:Nat),I (p.aud:Nat),.slice p.nsA p.ns.length p.nsc]) O O qDF qBv (m:=m214) xD (by have:=h214.sl.elem (qB3 (l:=((x.two y1 y2).pub y64).hd) (k:=0) (by rw [hX2];decide));rw [hpd2] at this;exact this) O) O<|J.f (qAH (l:= [(0,.const ((Value.int IntKind.i64 2)))]) (vs:= [I (2:Nat)]) (places:= [(0,1),(1,1)]) (r:= [I (2:Nat),I 0]) O O O qHx qV8 (λ_=>xI) O) O<|J.p (qAa O O (λF' hF=>qN5 F' p hpg (hpn2.mono (Fa hF)) 2 0 hpgen xC)) O λg218 _=>J.k 5 O<|J.c j35<|J.g λ_ j36=>J.b O<|J.f (qAB O O) O<|J.M 0 qEt qJl O O O O O<|J.f (qAI (v:=Ptr x.gs) O O qLU (m:=U [H,y64.1.G]) xD ((hW.w.mono (qHE hj)).at (i:=0) O)) O<|J.p (qAK O O ent (Ct.use (new:=λq:Option Addr×Nat×Hp=> [q.2.2]) (λF' hF=>qDR F' ((x.two y1 y2).pub y64) (hX.cells.mono (Fa hF)) (hX.hsl.mono (Fa hF)) (by rw [hX2];decide)))) O ?_
  rintro⟨A226,c226,m226⟩ h226
  try dsimp only at h226
  change J _ ((226,.slice A226 ((x.two y1 y2).pub y64).hd.length c226)::_) _ [_,_,_,_,_,_,_,_,_,_,_,_,_,_,_,_,_,_,_,m226] _
  replace h226:Row m226 34 5 A226 ((x.two y1 y2).pub y64).hd.length c226 (qCk ((x.two y1 y2).pub y64).hd):=h226
  refine J.f (qAF (i:=0) O O O qEY qBv h226.sl xB) O<|J.f (qAV (vs:= [N64 (p.ep),Str (p.par),I (p.dep:Nat),I (p.aud:Nat),.slice p.nsA p.ns.length p.nsc]) O O qDF qBv (m:=m226) xD (by have:=h226.sl.elem (qB3 (l:=((x.two y1 y2).pub y64).hd) (k:=0) (by rw [hX2];decide));rw [hpd2] at this;exact this) O) O<|J.f (qAH (l:= [(0,.const ((Value.int IntKind.i64 3))),(1,.const ((Value.int IntKind.i64 1)))]) (vs:= [I (3:Nat),I (1:Nat)]) (places:= [(0,1),(1,1)]) (r:= [I (3:Nat),I (1:Nat)]) O O O qHx qV8 (λ_=>xI) O) O<|J.p (qAa O O (λF' hF=>qN4 F' p hpg (hpn2.mono (Fa hF)) 3 1 hpgen xC xC (by rw [hpa];decide))) O λg230 _=>J.k 5 O<|J.c j36<|J.g λ_ j37=>J.b O<|J.c j37<|J.g λ_ j38=>J.b O<|J.b8 11 isAgg55 qJk O O O O O<|J.p (qAa O O (λF' hF=>qN9 F' _ _ _ _ _ _)) O λg236 _=>J.k 4 O<|J.p (qAJ (l:= [.int .u64 0,Str [],Str [],I 0,Str []]) O qFh O) O λg36 _=>?_
  change J _ _ _ [_,_,_,_,_,_,_,_,_,_,_,_,_,_,_,_,_,_,_,_,blk g36 [.int .u64 0,Str [],Str [],I 0,Str []] 61] _
  refine J.a6 (qAD (i:=20) (l:= [.int .u64 0,Str [],Str [],I 0,Str []]) (vs:= [N64 (0),Str [],Str [],I 0,Str []]) O O O O O qBY O O) O O λ_ _=>?_
  change J _ _ _ [_,_,_,_,_,_,_,_,_,_,_,_,_,_,_,_,_,_,_,_,blk g36 [N64 (0),Str [],Str [],I 0,Str []] 61] _
  exact J.k 2 O<|J.c j38<|J.g λ_ j39=>J.b O<|J.M 1 qEX qF5 O O O O O<|J.f (qAC 11 (v:= .slice rA.A (leS L).length rA.c) O O O qLT O) O<|J.f (qAR qDJ O O) O<|J.f ((qAz O O O).as (v':= .bool (okS L)) (congrArg Value.bool (qRW L))) O<|J.f ((qQ7 u4_ O O O).as (v':= .bool true) (by cases okS L<;>rfl)) O<|J.k 2 O<|J.D ((qAX O O O).yes xC) O<|J.k 3 O<|J.D ((qAX O O O).yes xC) O<|J.k 3 O<|J.D ((qAX O O O).yes xC) O<|J.k 3 O<|J.D ((qAX O O O).yes (O)) O<|J.k 3 O<|J.D (qAH (l:= []) (vs:= []) (places:= [(0,5),(5,1)]) (r:= [.int .u64 0,Str [],I 0,I 0,.slice none 0 0,.slice none 0 0]) O O O qVd zeroValue50 (λ_=>xI) O) O<|J.c8 (qAa O O (λF' hF=>qOB F' _ _ _ _ _ _)) O λg265 _=>J.D ((qAX O O O).yes (O)) O<|J.k 3 O<|J.c8 (qAa O O (λF' hF=>qOA F')) O λg270 _=>J.D ((qAX O O O).yes xC) O<|J.k 3 O<|J.c8 (qAa O O (λF' hF=>qK8 F')) O λg275 _=>J.D (qAR qEY O O) O<|J.D (qAX O O O) O<|J.k 2 O<|J.c j39<|J.A<|J.E hw0 O () O trivial [4] O xC
 refine J.T j29<|J.g λ_ j40=>J.b8 6 qDF qBv O O O O O<|J.b8 5 qS2 qON O O O O O<|J.p (qAa O O (λF' hF=>(by have:=qN3 F' yh hyg (hyn.mono (Fa hF)) 2 2 (by rw [hygen];decide);rw [hygen] at this;exact this))) O λg206 _=>J.k 5 O<|J.c j40<|J.g λ_ j41=>J.b O<|J.f (qAB O O) O<|J.M 0 qEt qJl O O O O O<|J.f (qAI (v:=Ptr x.gs) O O qLU (m:=U [H,y64.1.G]) xD ((hW.w.mono (qHE hj)).at (i:=0) O)) O<|J.p (qAK O O ent (Ct.use (new:=λq:Option Addr×Nat×Hp=> [q.2.2]) (λF' hF=>qDR F' ((x.two y1 y2).pub y64) (hX.cells.mono (Fa hF)) (hX.hsl.mono (Fa hF)) (by rw [hX2];decide)))) O ?_
 rintro⟨A214,c214,m214⟩ h214
 try dsimp only at h214
 change J _ ((214,.slice A214 ((x.two y1 y2).pub y64).hd.length c214)::_) _ [blk gc [I (2:Nat),I (2:Nat),.slice A5 hd5.length c5] 89,mc,U [H,y64.1.G],mp,F,blk g6 [I (2:Nat),I (2:Nat)] 26,blk g9 [N64 (yh.ep),Str (yh.par),I (yh.dep:Nat),I (yh.aud:Nat),.slice yh.nsA yh.ns.length yh.nsc] 34,Nc,rA.mb,rA.m,rB.mb,blk g13 [Str (nmS L),.slice rA.A (leS L).length rA.c,.slice rA.bA rA.bs.length rA.bc,.bool (rA.th),Str (rA.pk),Str (rA.pv)] 55,blk g20 [Str (nmS jl),.slice Ae ne ce,.slice Ab bs.length cb,.bool th,Str (pk),Str (pv)] 55,mh,blk g21 [N64 ((qB8 le bK).1.v),Str ((qB8 le bK).1.o),Str ((qB8 le bK).1.r),I ((qB8 le bK).1.h),Str ((qB8 le bK).1.p)] 61,m214] _
 replace h214:Row m214 34 5 A214 ((x.two y1 y2).pub y64).hd.length c214 (qCk ((x.two y1 y2).pub y64).hd):=h214
 refine J.f (qAF (i:=0) O O O qEY qBv h214.sl xB) O<|J.f (qAV (vs:= [N64 (p.ep),Str (p.par),I (p.dep:Nat),I (p.aud:Nat),.slice p.nsA p.ns.length p.nsc]) O O qDF qBv (m:=m214) xD (by have:=h214.sl.elem (qB3 (l:=((x.two y1 y2).pub y64).hd) (k:=0) (by rw [hX2];decide));rw [hpd2] at this;exact this) O) O<|J.f (qAH (l:= [(0,.const ((Value.int IntKind.i64 2)))]) (vs:= [I (2:Nat)]) (places:= [(0,1),(1,1)]) (r:= [I (2:Nat),I 0]) O O O qHx qV8 (λ_=>xI) O) O<|J.p (qAa O O (λF' hF=>qN5 F' p hpg (hpn2.mono (Fa hF)) 2 0 hpgen xC)) O λg218 _=>J.k 5 O<|J.c j41<|J.g λ_ j42=>J.b O<|J.f (qAB O O) O<|J.M 0 qEt qJl O O O O O<|J.f (qAI (v:=Ptr x.gs) O O qLU (m:=U [H,y64.1.G]) xD ((hW.w.mono (qHE hj)).at (i:=0) O)) O<|J.p (qAK O O ent (Ct.use (new:=λq:Option Addr×Nat×Hp=> [q.2.2]) (λF' hF=>qDR F' ((x.two y1 y2).pub y64) (hX.cells.mono (Fa hF)) (hX.hsl.mono (Fa hF)) (by rw [hX2];decide)))) O ?_
 rintro⟨A226,c226,m226⟩ h226
 try dsimp only at h226
 change J _ ((226,.slice A226 ((x.two y1 y2).pub y64).hd.length c226)::_) _ [_,_,_,_,_,_,_,_,_,_,_,_,_,_,_,_,m226] _
 replace h226:Row m226 34 5 A226 ((x.two y1 y2).pub y64).hd.length c226 (qCk ((x.two y1 y2).pub y64).hd):=h226
 refine J.f (qAF (i:=0) O O O qEY qBv h226.sl xB) O<|J.f (qAV (vs:= [N64 (p.ep),Str (p.par),I (p.dep:Nat),I (p.aud:Nat),.slice p.nsA p.ns.length p.nsc]) O O qDF qBv (m:=m226) xD (by have:=h226.sl.elem (qB3 (l:=((x.two y1 y2).pub y64).hd) (k:=0) (by rw [hX2];decide));rw [hpd2] at this;exact this) O) O<|J.f (qAH (l:= [(0,.const ((Value.int IntKind.i64 3))),(1,.const ((Value.int IntKind.i64 1)))]) (vs:= [I (3:Nat),I (1:Nat)]) (places:= [(0,1),(1,1)]) (r:= [I (3:Nat),I (1:Nat)]) O O O qHx qV8 (λ_=>xI) O) O<|J.p (qAa O O (λF' hF=>qN4 F' p hpg (hpn2.mono (Fa hF)) 3 1 hpgen xC xC (by rw [hpa];decide))) O λg230 _=>J.k 5 O<|J.c j42<|J.g λ_ j43=>J.b O<|J.c j43<|J.g λ_ j44=>J.b O<|J.b8 11 isAgg55 qJk O O O O O<|J.p (qAa O O (λF' hF=>qN9 F' _ _ _ _ _ _)) O λg236 _=>J.k 4 O<|J.p (qAJ (l:= [.int .u64 0,Str [],Str [],I 0,Str []]) O qFh O) O λg36 _=>?_
 change J _ _ _ [_,_,_,_,_,_,_,_,_,_,_,_,_,_,_,_,_,blk g36 [.int .u64 0,Str [],Str [],I 0,Str []] 61] _
 refine J.a6 (qAD (i:=17) (l:= [.int .u64 0,Str [],Str [],I 0,Str []]) (vs:= [N64 (0),Str [],Str [],I 0,Str []]) O O O O O qBY O O) O O λ_ _=>?_
 change J _ _ _ [_,_,_,_,_,_,_,_,_,_,_,_,_,_,_,_,_,blk g36 [N64 (0),Str [],Str [],I 0,Str []] 61] _
 exact J.k 2 O<|J.c j44<|J.g λ_ j45=>J.b O<|J.M 1 qEX qF5 O O O O O<|J.f (qAC 11 (v:= .slice rA.A (leS L).length rA.c) O O O qLT O) O<|J.f (qAR qDJ O O) O<|J.f ((qAz O O O).as (v':= .bool (okS L)) (congrArg Value.bool (qRW L))) O<|J.f ((qQ7 u4_ O O O).as (v':= .bool true) (by cases okS L<;>rfl)) O<|J.k 2 O<|J.D ((qAX O O O).yes xC) O<|J.k 3 O<|J.D ((qAX O O O).yes xC) O<|J.k 3 O<|J.D ((qAX O O O).yes xC) O<|J.k 3 O<|J.D ((qAX O O O).yes (O)) O<|J.k 3 O<|J.D (qAH (l:= []) (vs:= []) (places:= [(0,5),(5,1)]) (r:= [.int .u64 0,Str [],I 0,I 0,.slice none 0 0,.slice none 0 0]) O O O qVd zeroValue50 (λ_=>xI) O) O<|J.c8 (qAa O O (λF' hF=>qOB F' _ _ _ _ _ _)) O λg265 _=>J.D ((qAX O O O).yes (O)) O<|J.k 3 O<|J.c8 (qAa O O (λF' hF=>qOA F')) O λg270 _=>J.D ((qAX O O O).yes xC) O<|J.k 3 O<|J.c8 (qAa O O (λF' hF=>qK8 F')) O λg275 _=>J.D (qAR qEY O O) O<|J.D (qAX O O O) O<|J.k 2 O<|J.c j45<|J.A<|J.E hw0 O () O trivial [4] O xC
end Go.Proofs.YtcgcjaflllmlpaaGreatDoor