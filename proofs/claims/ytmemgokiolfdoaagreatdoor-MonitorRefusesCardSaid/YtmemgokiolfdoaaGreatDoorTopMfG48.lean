/- A part of the proof. -/
import Derived.Test.YtmemgokiolfdoaaGreatDoorTopMfG43
import Derived.Test.YtmemgokiolfdoaaGreatDoorTopMfG47
set_option maxRecDepth 100000
set_option maxHeartbeats 8000000
set_option linter.unusedSimpArgs false
set_option linter.unusedVariables false
namespace Go.Proofs.YtmemgokiolfdoaaGreatDoor
open Go Go.Fw Go.Proofs.Tryz
theorem kvR_A:Sm.getP kvR (Sha.tagged 11 [[97,108,105,99,101]])=some (enW (OWS 0)).val:=by
 rw [qNo]
 show(if qAO 0=_ then _ else _)=_
 rw [if_neg plNA];exact if_pos O
theorem kvR_B:Sm.getP kvR (Sha.tagged 11 [[98,111,98]])=some (enW (OWS 0)).val:=by
 rw [qNo]
 show(if qAO 0=_ then _ else if _=_ then _ else _)=_
 rw [if_neg plNB,if_neg nmAB];exact if_pos O
attribute [local irreducible] Sha.tagged Wo.pub Wo.publicOf Wo.signs Wo.ends Wo.digs Wo.walk Wo.opn Mk.root Mk.path Mk.climb Xm.root sgC sgP qBO qBi sgB normal qAO SN.tagN qBA kvR
theorem qGW(F:Hp):Ct prog 35 [.pointer none] [F] (λx:Option Addr×Nat×Hp=> .iface 177 (.slice x.1 0 x.2.1)) (λx=>Row x.2.2 66 1 x.1 0 x.2.1 (qDt [])) (λx=> [F,x.2.2]):=by
 refine Ct.walk func35 O ntmps35 O (λw0 hw0=>?_)
 refine J.f λ_ j1=>J.b O<|J.c j1<|J.q λ_ j2=>J.f λ_ j3=>J.b O<|J.g ((qA4 qVu O O O).as (v':= .bool true) O) O<|J.c j3<|J.c2 ?_
 refine J.f λ_ j4=>J.k (qBP O O (λF' hF=>qUR F' none 0 0 [] Sl.nil xD xB)) O ?_
 rintro⟨A8,c8,m8⟩ h8
 try dsimp only at h8
 exact J.b O<|J.c j4<|J.A<|J.W<|J.E hw0 O (A8,c8,m8) O h8 [0,1] O xC
theorem qKQ(F:Hp)(hK:qAG F ⟨3,0,none⟩ (Sha.K.map W32))(hA:qAG F ⟨0,0,none⟩ qBd)(hT:qB7 F)(hw:UInt8):Cz prog 6 [B8 (hw)] F (.bool true):=by
 refine Ct.walk func6 O ntmps6 O (λw0 hw0=>?_)
 refine J.f λ_ j1=>J.b O<|J.c j1<|J.q λ_ j2=>J.f λ_ j3=>J.k (qAY O O (λF' hF=>qLv F' (hK.mo hF) (hA.mono (Fa hF)) (hT.mono (Fa hF)))) O λg35 _=>J.g ((qAq O O).as (v':= .bool false) O) O<|J.c j3<|J.a3 ?_
 refine J.M j2<|J.f λ_ j4=>J.k (qBP O O (λF' hF=>qFX F' (hK.mo hF) (hA.mono (Fa hF)) (hT.mono (Fa hF)))) O ?_
 rintro⟨gr,gk,gc,gh,x,p,ms,G,km⟩ hP
 try dsimp only at hP
 obtain ⟨hS0,hN,hp,hpn0,hkey0⟩:=hP
 dsimp only at hS0 hN hp hpn0 hkey0
 refine J.k (qBP O O (λF' hF=>qFX F' (hK.mo hF) (hA.mono (Fa hF)) (hT.mono (Fa hF)))) O ?_
 rintro⟨gs,gl,gd,gi,z,pz,mz,Gz,kz⟩ hQ
 try dsimp only at hQ
 obtain ⟨hZ0,hM,hpz,hpzn0,hkez0⟩:=hQ
 dsimp only at hZ0 hM hpz hpzn0 hkez0
 refine J.j 2 O<|J.c4 [2,3,8,9,4,5,6,1,10,11,12,7,0] [G,km,Gz,kz,blk gc [I (1:Nat),I (1:Nat),.slice (some ⟨gh,0,none⟩) 1 1] 279,blk gh [N64 (p.ep),Str (p.par),I (p.dep:Nat),I (p.aud:Nat),.slice p.nsA p.ns.length p.nsc] 52,blk gr [Ptr x.gs,Ptr gc,Ptr gk,I (0:Nat)] 93,ms,blk gd [I (1:Nat),I (1:Nat),.slice (some ⟨gi,0,none⟩) 1 1] 279,blk gi [N64 (pz.ep),Str (pz.par),I (pz.dep:Nat),I (pz.aud:Nat),.slice pz.nsA pz.ns.length pz.nsc] 52,blk gs [Ptr z.gs,Ptr gd,Ptr gl,I (0:Nat)] 93,mz,F] O xC<|J.d4 (λhj0=>?_)
 refine J.d4 (λhj1=>?_)
 refine J.d4 (λhj2=>?_)
 refine J.c j4<|J.q λ_ j5=>?_
 obtain ⟨HH,hHH⟩: ∃q,q=U [U [U [G,km],Gz],kz]:=⟨_,rfl⟩
 rw [←hHH]
 have l1:Le G HH:=by rw [hHH];exact((qMO hj0).trans (qMO hj1)).trans (qMO hj2)
 have l2:Le km HH:=by rw [hHH];exact((qVX hj0).trans (qMO hj1)).trans (qMO hj2)
 have l3:Le Gz HH:=by rw [hHH];exact(qVX hj1).trans (qMO hj2)
 have l4:Le kz HH:=by rw [hHH];exact qVX hj2
 have hS:Srv ms HH x:=hS0.mono l1
 have hkey:qOD HH gk SDA 3:=hkey0.mono l2
 have hpn1:nsl HH p:=hpn0.mono l1
 have hZ:Srv mz HH z:=hZ0.mono l3
 have hkez:qOD HH gl SDA 3:=hkez0.mono l4
 have hpzn1:nsl HH pz:=hpzn0.mono l3
 have hpE:qA6 p=pE:=by rw [←hp];exact hN.h0
 have hpa:p.aud=1:=zw (congrArg Hd.aud hpE)
 have hpzE:qA6 pz=pE:=by rw [←hpz];exact hM.h0
 have hpza:pz.aud=1:=zw (congrArg Hd.aud hpzE)
 have hn48:qDN (lbE x.now) [97,108,105,99,101]= []:=by rw [hN.now];rfl
 have hkvx:=hN.kvL
 refine J.L<|J.k (qBP O O (λF' hF=>qQ8 F' (hA.mono (Fa hF)) (hT.mono (Fa hF)) [97,108,105,99,101] xC qKo)) O ?_
 rintro⟨gm,gq⟩ _
 refine J.j 5 O<|J.c j5<|J.f λ_ j6=>J.b O<|J.g (qAB O O) O<|J.V 0 qGI qSY O O O O O<|J.a6 3 qSe O O O O O<|J.k (qBP O O (λF' hF=>qDV F' (hK.mo hF) x hS.i (hS.cells.mono (Fa hF)) (hS.tsl.mono (Fa hF)) (hS.tree.mono (hF (HH) xD)) (hS.p.nw.mono (hF (HH) xD)) (hS.p.nl.mono (hF (HH) xD)) [97,108,105,99,101] xC)) O ?_
 rintro r48 hr48
 have hro48:=hr48.ro
 have hst48:=hr48.st
 have hrb48:=hr48.rb
 rw [hn48] at hro48⊢
 rw [hkvx] at hst48 hrb48⊢
 refine J.j 3 O<|J.k (qAJ O qUc O) O λg7 _=>J.a8 (qAD (i:=14) (l:= [Str [],.slice none 0 0,.slice none 0 0,.bool false,Str [],Str []]) (vs:= [Str [97,108,105,99,101],.slice r48.A ([]:List En).length r48.c,.slice r48.bA (bsd qBA (Sha.tagged 11 [[97,108,105,99,101]]) 0 (r48.s-0)).length r48.bc,.bool (qAP qBA (Sha.tagged 11 [[97,108,105,99,101]]) r48.s),Str (qA0 qBA (Sha.tagged 11 [[97,108,105,99,101]]) r48.s),Str (qA2 qBA (Sha.tagged 11 [[97,108,105,99,101]]) r48.s)]) O O O O O qE8 O O) O O λ_ _=>J.b O<|J.c j6<|J.q λ_ j7=>J.f λ_ j8=>J.b O<|J.k (qAI O O ent (Ct.use1 4 O (λF' hF=>qI5 F' ms HH (hK.mo hF) (hA.mono (Fa hF)) (hT.mono (Fa hF)) (Fa hF) x hS gr (Ptr gc) (Ptr gk) (I (0:Nat)) (I (0:Nat)) (qAG.blk0.mono (hF (blk gr [Ptr x.gs,Ptr gc,Ptr gk,I (0:Nat)] 93) xD)) [97,108,105,99,101] xC qKo 0 xC (by rw [hN.no];decide) (by rw [hN.nxt];rfl) (by rw [hN.now];rfl)))) O ?_
 rintro⟨ms1,y52⟩ hS1
 try dsimp only at hS1
 refine J.g (qAq O O) O<|J.j 2 O<|J.d0 (qAI O O ent (Ct.use1 4 O (λF' hF=>qI5 F' ms1 HH (hK.mo hF) (hA.mono (Fa hF)) (hT.mono (Fa hF)) (Fa hF) (x.put [97,108,105,99,101] (OWS 0) y52) hS1 gr (Ptr gc) (Ptr gk) (I (0:Nat)) (I (0:Nat)) (qAG.blk0.mono (hF (blk gr [Ptr x.gs,Ptr gc,Ptr gk,I (0:Nat)] 93) xD)) [98,111,98] xC nBob 0 xC (qQs hN y52).1 (qQs hN y52).2.1 (qQs hN y52).2.2))) O ?_
 rintro⟨ms2,y56⟩ hS2
 try dsimp only at hS2
 have hE2:EpE 0 ((x.put [97,108,105,99,101] (OWS 0) y52).put [98,111,98] (OWS 0) y56):=((hN.toBasE.ep).put _ _ _).put _ _ _
 have hI2:=hS2.i
 have hl2:qA6 (([p]:List RhD).getD (([p]:List RhD).length-1) qAX)=qA6 ((x.put [97,108,105,99,101] (OWS 0) y52).put [98,111,98] (OWS 0) y56).hdL:=by
  show qA6 p=qA6 (x.hd.getD (x.hd.length-1) qAX)
  rw [hN.hd1,←hp]
 refine J.H (qAq O O) O<|J.j 3 O<|J.c4 [1,2,3,4,0,5,6,7,8,9,10,11,12,13,14] [blk gc [I (1:Nat),I (1:Nat),.slice (some ⟨gh,0,none⟩) 1 1] 279,blk gh [N64 (p.ep),Str (p.par),I (p.dep:Nat),I (p.aud:Nat),.slice p.nsA p.ns.length p.nsc] 52,blk gr [Ptr x.gs,Ptr gc,Ptr gk,I (0:Nat)] 93,ms2,HH,blk gd [I (1:Nat),I (1:Nat),.slice (some ⟨gi,0,none⟩) 1 1] 279,blk gi [N64 (pz.ep),Str (pz.par),I (pz.dep:Nat),I (pz.aud:Nat),.slice pz.nsA pz.ns.length pz.nsc] 52,blk gs [Ptr z.gs,Ptr gd,Ptr gl,I (0:Nat)] 93,mz,F,qAK gq (.map #[] 0),blk gm [Str [97,108,105,99,101],.map (some gq),.slice none 0 0] 195,r48.mb,r48.m,blk g7 [Str [97,108,105,99,101],.slice r48.A ([]:List En).length r48.c,.slice r48.bA (bsd qBA (Sha.tagged 11 [[97,108,105,99,101]]) 0 (r48.s-0)).length r48.bc,.bool (qAP qBA (Sha.tagged 11 [[97,108,105,99,101]]) r48.s),Str (qA0 qBA (Sha.tagged 11 [[97,108,105,99,101]]) r48.s),Str (qA2 qBA (Sha.tagged 11 [[97,108,105,99,101]]) r48.s)] 89] O xC<|J.d0 (qAI O O ent (Ct.useA [blk gc [I (1:Nat),I (1:Nat),.slice (some ⟨gh,0,none⟩) 1 1] 279,blk gh [N64 (p.ep),Str (p.par),I (p.dep:Nat),I (p.aud:Nat),.slice p.nsA p.ns.length p.nsc] 52,blk gr [Ptr x.gs,Ptr gc,Ptr gk,I (0:Nat)] 93,ms2,HH] [blk gd [I (1:Nat),I (1:Nat),.slice (some ⟨gi,0,none⟩) 1 1] 279,blk gi [N64 (pz.ep),Str (pz.par),I (pz.dep:Nat),I (pz.aud:Nat),.slice pz.nsA pz.ns.length pz.nsc] 52,blk gs [Ptr z.gs,Ptr gd,Ptr gl,I (0:Nat)] 93,mz,F,qAK gq (.map #[] 0),blk gm [Str [97,108,105,99,101],.map (some gq),.slice none 0 0] 195,r48.mb,r48.m,blk g7 [Str [97,108,105,99,101],.slice r48.A ([]:List En).length r48.c,.slice r48.bA (bsd qBA (Sha.tagged 11 [[97,108,105,99,101]]) 0 (r48.s-0)).length r48.bc,.bool (qAP qBA (Sha.tagged 11 [[97,108,105,99,101]]) r48.s),Str (qA0 qBA (Sha.tagged 11 [[97,108,105,99,101]]) r48.s),Str (qA2 qBA (Sha.tagged 11 [[97,108,105,99,101]]) r48.s)] 89] (A':=λr:RpR=> [blk gc [I (1:Nat),I (1:Nat),.slice r.A (([p]:List RhD).length+1) r.c] 279,r.m,blk gr [Ptr x.gs,Ptr gc,Ptr gk,I (0+1:Nat)] 93,r.mp,r.H]) (new:=λ_=> []) (λF' hF=>qL0 F' HH ms2 (blk gh [N64 (p.ep),Str (p.par),I (p.dep:Nat),I (p.aud:Nat),.slice p.nsA p.ns.length p.nsc] 52) (hK.mo hF) ((x.put [97,108,105,99,101] (OWS 0) y52).put [98,111,98] (OWS 0) y56) hS2 0 xC hE2 (qSv hN y52 y56) gr gc gk 0 xC hkey (some ⟨gh,0,none⟩) 1 [p] (qM9 gh p) (by show 0<1;decide) (by show 1≤100;decide) hl2 hpa hpn1))) O ?_
 rintro⟨y61,mp,yl,A61,c61,m61,H1⟩ hR61
 try dsimp only at hR61
 obtain ⟨hle61,hS3,hpb61,hrow61,hyl61,hyn61⟩:=hR61
 dsimp only at hle61 hS3 hpb61 hrow61 hyl61 hyn61
 have hnA:=qSx hN hI2 hpb61
 have hnB:=qSw hN hI2 hpb61
 have hkv3:(((x.put [97,108,105,99,101] (OWS 0) y52).put [98,111,98] (OWS 0) y56).pub y61).kvL=kvR:=qVv hN hI2 y61
 have hkfR:qCF kvR:=by rw [←hkv3];exact hS3.i.kf
 have hyt:qA6 yl=⟨0+1,(qA6 ((x.put [97,108,105,99,101] (OWS 0) y52).put [98,111,98] (OWS 0) y56).hdL).dig,((0:Nat):Int),((1:Nat):Int),qAn kvR 0⟩:=by
  have:=hyl61.trans (hE2.pub_hd hI2 y61)
  rw [hkv3] at this
  exact this
 obtain ⟨par0,hpar0,hx0⟩:=hE2.hdr
 obtain ⟨_,_,_,_,w2,_,_⟩:=qGb xC hpar0 hI2.kf hkfR hx0 hyt
 have hZ1:Srv mz H1 z:=hZ.mono hle61
 refine J.H (qAq O O) O<|J.j 3 O<|J.d0 (qAI O O ent (Ct.use1 8 O (λF' hF=>qI5 F' mz H1 (hK.mo hF) (hA.mono (Fa hF)) (hT.mono (Fa hF)) (Fa hF) z hZ1 gs (Ptr gd) (Ptr gl) (I (0:Nat)) (I (1:Nat)) (qAG.blk0.mono (hF (blk gs [Ptr z.gs,Ptr gd,Ptr gl,I (0:Nat)] 93) xD)) [97,108,105,99,101] xC qKo 1 xC (by rw [hM.no];decide) (by rw [hM.nxt];rfl) (by rw [hM.now];rfl)))) O ?_
 rintro⟨mz1,y66⟩ hZ2
 try dsimp only at hZ2
 have hF1:EpE 0 (z.put [97,108,105,99,101] (OWS 1) y66):=(hM.toBasE.ep).put _ _ _
 have hJ1:=hZ2.i
 have hlz:qA6 (([pz]:List RhD).getD (([pz]:List RhD).length-1) qAX)=qA6 (z.put [97,108,105,99,101] (OWS 1) y66).hdL:=by
  show qA6 pz=qA6 (z.hd.getD (z.hd.length-1) qAX)
  rw [hM.hd1,←hpz]
 refine J.H (qAq O O) O<|J.j 3 O<|J.c4 [5,6,7,8,4,0,1,2,3,9,10,11,12,13,14] [blk gd [I (1:Nat),I (1:Nat),.slice (some ⟨gi,0,none⟩) 1 1] 279,blk gi [N64 (pz.ep),Str (pz.par),I (pz.dep:Nat),I (pz.aud:Nat),.slice pz.nsA pz.ns.length pz.nsc] 52,blk gs [Ptr z.gs,Ptr gd,Ptr gl,I (0:Nat)] 93,mz1,H1,blk gc [I (1:Nat),I (1:Nat),.slice A61 (([p]:List RhD).length+1) c61] 279,m61,blk gr [Ptr x.gs,Ptr gc,Ptr gk,I (0+1:Nat)] 93,mp,F,qAK gq (.map #[] 0),blk gm [Str [97,108,105,99,101],.map (some gq),.slice none 0 0] 195,r48.mb,r48.m,blk g7 [Str [97,108,105,99,101],.slice r48.A ([]:List En).length r48.c,.slice r48.bA (bsd qBA (Sha.tagged 11 [[97,108,105,99,101]]) 0 (r48.s-0)).length r48.bc,.bool (qAP qBA (Sha.tagged 11 [[97,108,105,99,101]]) r48.s),Str (qA0 qBA (Sha.tagged 11 [[97,108,105,99,101]]) r48.s),Str (qA2 qBA (Sha.tagged 11 [[97,108,105,99,101]]) r48.s)] 89] O xC<|J.d0 (qAI O O ent (Ct.useA [blk gd [I (1:Nat),I (1:Nat),.slice (some ⟨gi,0,none⟩) 1 1] 279,blk gi [N64 (pz.ep),Str (pz.par),I (pz.dep:Nat),I (pz.aud:Nat),.slice pz.nsA pz.ns.length pz.nsc] 52,blk gs [Ptr z.gs,Ptr gd,Ptr gl,I (0:Nat)] 93,mz1,H1] [blk gc [I (1:Nat),I (1:Nat),.slice A61 (([p]:List RhD).length+1) c61] 279,m61,blk gr [Ptr x.gs,Ptr gc,Ptr gk,I (0+1:Nat)] 93,mp,F,qAK gq (.map #[] 0),blk gm [Str [97,108,105,99,101],.map (some gq),.slice none 0 0] 195,r48.mb,r48.m,blk g7 [Str [97,108,105,99,101],.slice r48.A ([]:List En).length r48.c,.slice r48.bA (bsd qBA (Sha.tagged 11 [[97,108,105,99,101]]) 0 (r48.s-0)).length r48.bc,.bool (qAP qBA (Sha.tagged 11 [[97,108,105,99,101]]) r48.s),Str (qA0 qBA (Sha.tagged 11 [[97,108,105,99,101]]) r48.s),Str (qA2 qBA (Sha.tagged 11 [[97,108,105,99,101]]) r48.s)] 89] (A':=λr:RpR=> [blk gd [I (1:Nat),I (1:Nat),.slice r.A (([pz]:List RhD).length+1) r.c] 279,r.m,blk gs [Ptr z.gs,Ptr gd,Ptr gl,I (0+1:Nat)] 93,r.mp,r.H]) (new:=λ_=> []) (λF' hF=>qL0 F' H1 mz1 (blk gi [N64 (pz.ep),Str (pz.par),I (pz.dep:Nat),I (pz.aud:Nat),.slice pz.nsA pz.ns.length pz.nsc] 52) (hK.mo hF) (z.put [97,108,105,99,101] (OWS 1) y66) hZ2 0 xC hF1 (hM.room xC y66) gs gd gl 0 xC (hkez.mono hle61) (some ⟨gi,0,none⟩) 1 [pz] (qM9 gi pz) (by show 0<1;decide) (by show 1≤100;decide) hlz hpza (hpzn1.mono hle61)))) O ?_
 rintro⟨y71,mq,yz,A71,c71,m71,H2⟩ hR71
 try dsimp only at hR71
 obtain ⟨hle71,hZ3,hpb71,hrow71,hyl71,hyn71⟩:=hR71
 dsimp only at hle71 hZ3 hpb71 hrow71 hyl71 hyn71
 have hnZ:=hM.now_ y66 hJ1 hpb71
 have hgZ:=hM.get y66 hJ1 y71
 have hkfZ:=hZ3.i.kf
 have hzt:qA6 yz=⟨0+1,(qA6 (z.put [97,108,105,99,101] (OWS 1) y66).hdL).dig,((0:Nat):Int),((1:Nat):Int),qAn ((z.put [97,108,105,99,101] (OWS 1) y66).pub y71).kvL 0⟩:=hyl71.trans (hF1.pub_hd hJ1 y71)
 obtain ⟨par1,hpar1,hz0⟩:=hF1.hdr
 obtain ⟨_,_,_,_,v2,_,_⟩:=qGb xC hpar1 hJ1.kf hkfZ hz0 hzt
 have hS4:Srv mp H2 (((x.put [97,108,105,99,101] (OWS 0) y52).put [98,111,98] (OWS 0) y56).pub y61):=hS3.mono hle71
 have hynA:nsl H2 yl:=hyn61.mono hle71
 obtain ⟨kvZ,hkvZ⟩: ∃q,q=((z.put [97,108,105,99,101] (OWS 1) y66).pub y71).kvL:=⟨_,rfl⟩
 rw [←hkvZ] at hgZ hkfZ hzt
 refine J.H (qAq O O) O<|J.b O<|J.c j8<|J.a3 ?_
 refine J.M j7<|J.f λ_ j9=>J.b O<|J.g (qAB O O) O<|J.V 0 qGI qSY O O O O O<|J.a6 7 qSe O O O O O<|J.k (qBP O O (λF' hF=>qDV F' (hK.mo hF) (((x.put [97,108,105,99,101] (OWS 0) y52).put [98,111,98] (OWS 0) y56).pub y61) hS4.i (hS4.cells.mono (Fa hF)) (hS4.tsl.mono (Fa hF)) (hS4.tree.mono (hF (H2) xD)) (hS4.p.nw.mono (hF (H2) xD)) (hS4.p.nl.mono (hF (H2) xD)) [97,108,105,99,101] xC)) O ?_
 rintro r79 hr79
 have hro79:=hr79.ro
 have hst79:=hr79.st
 have hrb79:=hr79.rb
 rw [hnA] at hro79⊢
 rw [hkv3] at hst79 hrb79⊢
 refine J.j 3 O<|J.k (qAJ O qUc O) O λg9 _=>J.a8 (qAD (i:=17) (l:= [Str [],.slice none 0 0,.slice none 0 0,.bool false,Str [],Str []]) (vs:= [Str [97,108,105,99,101],.slice r79.A ([(enW (OWS 0))]:List En).length r79.c,.slice r79.bA (bsd kvR (Sha.tagged 11 [[97,108,105,99,101]]) 0 (r79.s-0)).length r79.bc,.bool (qAP kvR (Sha.tagged 11 [[97,108,105,99,101]]) r79.s),Str (qA0 kvR (Sha.tagged 11 [[97,108,105,99,101]]) r79.s),Str (qA2 kvR (Sha.tagged 11 [[97,108,105,99,101]]) r79.s)]) O O O O O qE8 O O) O O λ_ _=>J.b O<|J.c j9<|J.f λ_ j10=>J.b O<|J.g (qAB O O) O<|J.V 0 qGI qSY O O O O O<|J.a6 7 qSe O O O O O<|J.k (qBP O O (λF' hF=>qDV F' (hK.mo hF) (((x.put [97,108,105,99,101] (OWS 0) y52).put [98,111,98] (OWS 0) y56).pub y61) hS4.i (hS4.cells.mono (Fa hF)) (hS4.tsl.mono (Fa hF)) (hS4.tree.mono (hF (H2) xD)) (hS4.p.nw.mono (hF (H2) xD)) (hS4.p.nl.mono (hF (H2) xD)) [98,111,98] xC)) O ?_
 rintro r87 hr87
 have hro87:=hr87.ro
 have hst87:=hr87.st
 have hrb87:=hr87.rb
 rw [hnB] at hro87⊢
 rw [hkv3] at hst87 hrb87⊢
 refine J.j 3 O<|J.k (qAJ O qUc O) O λg11 _=>J.a8 (qAD (i:=20) (l:= [Str [],.slice none 0 0,.slice none 0 0,.bool false,Str [],Str []]) (vs:= [Str [98,111,98],.slice r87.A ([(enW (OWS 0))]:List En).length r87.c,.slice r87.bA (bsd kvR (Sha.tagged 11 [[98,111,98]]) 0 (r87.s-0)).length r87.bc,.bool (qAP kvR (Sha.tagged 11 [[98,111,98]]) r87.s),Str (qA0 kvR (Sha.tagged 11 [[98,111,98]]) r87.s),Str (qA2 kvR (Sha.tagged 11 [[98,111,98]]) r87.s)]) O O O O O qE8 O O) O O λ_ _=>J.b O<|J.c j10<|J.f λ_ j11=>J.b O<|J.g (qAB O O) O<|J.V 0 qGI qSY O O O O O<|J.a6 2 qSe O O O O O<|J.k (qBP O O (λF' hF=>qDV F' (hK.mo hF) ((z.put [97,108,105,99,101] (OWS 1) y66).pub y71) hZ3.i (hZ3.cells.mono (Fa hF)) (hZ3.tsl.mono (Fa hF)) (hZ3.tree.mono (hF (H2) xD)) (hZ3.p.nw.mono (hF (H2) xD)) (hZ3.p.nl.mono (hF (H2) xD)) [97,108,105,99,101] xC)) O ?_
 rintro r95 hr95
 have hro95:=hr95.ro
 have hst95:=hr95.st
 have hrb95:=hr95.rb
 rw [hnZ] at hro95⊢
 rw [←hkvZ] at hst95 hrb95⊢
 refine J.j 3 O<|J.k (qAJ O qUc O) O λg13 _=>J.a8 (qAD (i:=23) (l:= [Str [],.slice none 0 0,.slice none 0 0,.bool false,Str [],Str []]) (vs:= [Str [97,108,105,99,101],.slice r95.A ([(enW (OWS 1))]:List En).length r95.c,.slice r95.bA (bsd kvZ (Sha.tagged 11 [[97,108,105,99,101]]) 0 (r95.s-0)).length r95.bc,.bool (qAP kvZ (Sha.tagged 11 [[97,108,105,99,101]]) r95.s),Str (qA0 kvZ (Sha.tagged 11 [[97,108,105,99,101]]) r95.s),Str (qA2 kvZ (Sha.tagged 11 [[97,108,105,99,101]]) r95.s)]) O O O O O qE8 O O) O O λ_ _=>J.b O<|J.c j11<|J.q λ_ j12=>J.q λ_ j13=>J.c7 [11,24,10,5,6,7,8,0,1,2,3,4,9,14,12,13,17,15,16,20,18,19,23,21,22] [blk gm [Str [97,108,105,99,101],.map (some gq),.slice none 0 0] 195,(λ_=>none),qAK gq (.map #[] 0),blk gc [I (1:Nat),I (1:Nat),.slice A61 (([p]:List RhD).length+1) c61] 279,m61,blk gr [Ptr x.gs,Ptr gc,Ptr gk,I (0+1:Nat)] 93,mp,blk gd [I (1:Nat),I (1:Nat),.slice A71 (([pz]:List RhD).length+1) c71] 279,m71,blk gs [Ptr z.gs,Ptr gd,Ptr gl,I (0+1:Nat)] 93,mq,H2,F,blk g7 [Str [97,108,105,99,101],.slice r48.A ([]:List En).length r48.c,.slice r48.bA (bsd qBA (Sha.tagged 11 [[97,108,105,99,101]]) 0 (r48.s-0)).length r48.bc,.bool (qAP qBA (Sha.tagged 11 [[97,108,105,99,101]]) r48.s),Str (qA0 qBA (Sha.tagged 11 [[97,108,105,99,101]]) r48.s),Str (qA2 qBA (Sha.tagged 11 [[97,108,105,99,101]]) r48.s)] 89,r48.mb,r48.m,blk g9 [Str [97,108,105,99,101],.slice r79.A ([(enW (OWS 0))]:List En).length r79.c,.slice r79.bA (bsd kvR (Sha.tagged 11 [[97,108,105,99,101]]) 0 (r79.s-0)).length r79.bc,.bool (qAP kvR (Sha.tagged 11 [[97,108,105,99,101]]) r79.s),Str (qA0 kvR (Sha.tagged 11 [[97,108,105,99,101]]) r79.s),Str (qA2 kvR (Sha.tagged 11 [[97,108,105,99,101]]) r79.s)] 89,r79.mb,r79.m,blk g11 [Str [98,111,98],.slice r87.A ([(enW (OWS 0))]:List En).length r87.c,.slice r87.bA (bsd kvR (Sha.tagged 11 [[98,111,98]]) 0 (r87.s-0)).length r87.bc,.bool (qAP kvR (Sha.tagged 11 [[98,111,98]]) r87.s),Str (qA0 kvR (Sha.tagged 11 [[98,111,98]]) r87.s),Str (qA2 kvR (Sha.tagged 11 [[98,111,98]]) r87.s)] 89,r87.mb,r87.m,blk g13 [Str [97,108,105,99,101],.slice r95.A ([(enW (OWS 1))]:List En).length r95.c,.slice r95.bA (bsd kvZ (Sha.tagged 11 [[97,108,105,99,101]]) 0 (r95.s-0)).length r95.bc,.bool (qAP kvZ (Sha.tagged 11 [[97,108,105,99,101]]) r95.s),Str (qA0 kvZ (Sha.tagged 11 [[97,108,105,99,101]]) r95.s),Str (qA2 kvZ (Sha.tagged 11 [[97,108,105,99,101]]) r95.s)] 89,r95.mb,r95.m] O xC<|J.b2 [blk gr [Ptr x.gs,Ptr gc,Ptr gk,I (0+1:Nat)] 93,blk g9 [Str [97,108,105,99,101],.slice r79.A ([(enW (OWS 0))]:List En).length r79.c,.slice r79.bA (bsd kvR (Sha.tagged 11 [[97,108,105,99,101]]) 0 (r79.s-0)).length r79.bc,.bool (qAP kvR (Sha.tagged 11 [[97,108,105,99,101]]) r79.s),Str (qA0 kvR (Sha.tagged 11 [[97,108,105,99,101]]) r79.s),Str (qA2 kvR (Sha.tagged 11 [[97,108,105,99,101]]) r79.s)] 89] [] (.y 0 (.y 1 (.y 2 (.y 3 (.y 4 (.y 5 (.e 6 (.y 7 (.y 8 (.y 9 (.y 10 (.y 11 .nil)))))))))))) Tryz.wide xF xD ?_
 refine J.G ?_
 refine J.G ?_
 refine J.p O (qAB O O) O O<|J.p O (qAA O O qGI O qSX O) O O<|J.p O (qAC 0 O O O qSd O) O O<|J.p O (qAW 1 O O O qJp qE8 O) O O<|J.a1 O (qAI O O ent (Ct.useA [blk gm [Str [97,108,105,99,101],.map (some gq),.slice none 0 0] 195,(λ_=>none)] [qAK gq (.map #[] 0),blk gc [I (1:Nat),I (1:Nat),.slice A61 (([p]:List RhD).length+1) c61] 279,m61,blk gr [Ptr x.gs,Ptr gc,Ptr gk,I (0+1:Nat)] 93,mp,blk gd [I (1:Nat),I (1:Nat),.slice A71 (([pz]:List RhD).length+1) c71] 279,m71,blk gs [Ptr z.gs,Ptr gd,Ptr gl,I (0+1:Nat)] 93,mq,H2,F,blk g7 [Str [97,108,105,99,101],.slice r48.A ([]:List En).length r48.c,.slice r48.bA (bsd qBA (Sha.tagged 11 [[97,108,105,99,101]]) 0 (r48.s-0)).length r48.bc,.bool (qAP qBA (Sha.tagged 11 [[97,108,105,99,101]]) r48.s),Str (qA0 qBA (Sha.tagged 11 [[97,108,105,99,101]]) r48.s),Str (qA2 qBA (Sha.tagged 11 [[97,108,105,99,101]]) r48.s)] 89,r48.mb,r48.m,blk g9 [Str [97,108,105,99,101],.slice r79.A ([(enW (OWS 0))]:List En).length r79.c,.slice r79.bA (bsd kvR (Sha.tagged 11 [[97,108,105,99,101]]) 0 (r79.s-0)).length r79.bc,.bool (qAP kvR (Sha.tagged 11 [[97,108,105,99,101]]) r79.s),Str (qA0 kvR (Sha.tagged 11 [[97,108,105,99,101]]) r79.s),Str (qA2 kvR (Sha.tagged 11 [[97,108,105,99,101]]) r79.s)] 89,r79.mb,r79.m,blk g11 [Str [98,111,98],.slice r87.A ([(enW (OWS 0))]:List En).length r87.c,.slice r87.bA (bsd kvR (Sha.tagged 11 [[98,111,98]]) 0 (r87.s-0)).length r87.bc,.bool (qAP kvR (Sha.tagged 11 [[98,111,98]]) r87.s),Str (qA0 kvR (Sha.tagged 11 [[98,111,98]]) r87.s),Str (qA2 kvR (Sha.tagged 11 [[98,111,98]]) r87.s)] 89,r87.mb,r87.m,blk g13 [Str [97,108,105,99,101],.slice r95.A ([(enW (OWS 1))]:List En).length r95.c,.slice r95.bA (bsd kvZ (Sha.tagged 11 [[97,108,105,99,101]]) 0 (r95.s-0)).length r95.bc,.bool (qAP kvZ (Sha.tagged 11 [[97,108,105,99,101]]) r95.s),Str (qA0 kvZ (Sha.tagged 11 [[97,108,105,99,101]]) r95.s),Str (qA2 kvZ (Sha.tagged 11 [[97,108,105,99,101]]) r95.s)] 89,r95.mb,r95.m] (A':=λr:SeR=> [blk gm [Str [97,108,105,99,101],.map (some gq),.slice r.A (qFE [97,108,105,99,101] [97,108,105,99,101] 0 [] ([(enW (OWS 0))]:List En)).length r.c] 195,r.m]) (new:=λ_=> []) (λF' hF=>qC7 F' (λ_=>none) gm gq [97,108,105,99,101] none 0 [] qBc.nil xC [] ((qDL.nil pkK gq).at.mono (hF (qAK gq (.map #[] 0)) xD)) [97,108,105,99,101] r79.A ([(enW (OWS 0))]:List En).length r79.c ([(enW (OWS 0))]:List En) (hro79.sl.mono (Fa hF)) xC r79.bA _ r79.bc _ _ _ (Ptr gc) (enW (OWS 0)) true 0 (λF'' hl=>by have:=qF4 F'' (hK.mono ((hF F xD).trans hl)) gc 1 1 A61 2 c61 ([p]++ [yl]) (hrow61.sl.mono ((hF m61 xD).trans hl)) xC xC (qAG.blk0.mono ((hF (blk gc [I (1:Nat),I (1:Nat),.slice A61 (([p]:List RhD).length+1) c61] 279) xD).trans hl)) w2 (hynA.mono ((hF H2 xD).trans hl)) (by show∀s∈yl.ns,_;rw [show yl.ns=qAn kvR 0 from congrArg Hd.nodes hyt];exact qBu _) [97,108,105,99,101] xC r79.A ([(enW (OWS 0))]:List En).length r79.c ([(enW (OWS 0))]:List En) (hro79.sl.mono ((hF r79.m xD).trans hl)) (λz hz=>by rw [List.mem_singleton.1 hz];exact qGf _) xC r79.bA r79.bc _ (hrb79.sl.mono ((hF r79.mb xD).trans hl)) _ _ _ (qBv hkfR (Sha.tagged_length _ _) hst79) (qBw hkfR _ _);rw [show([p]++ [yl]:List RhD).getD (2-1) qAX=yl from rfl,qUi hkfR (Sha.tagged_length _ _) hst79 hyt (En.hist1 (enW (OWS 0)) O O) xC O kvR_A] at this;exact this)))) O xD ?_
 rintro⟨A105,c105,m105⟩ h105
 try dsimp only at h105
 have hsE0:qDy [97,108,105,99,101] [97,108,105,99,101] 0 [] ([(enW (OWS 0))]:List En)=0:=by unfold qDy;rw [if_neg (λh=>h rfl),if_neg (λh=>h rfl),if_neg xC,if_neg (λh=>h rfl)]
 have hsL0:(qFE [97,108,105,99,101] [97,108,105,99,101] 0 [] ([(enW (OWS 0))]:List En))=([(enW (OWS 0))]:List En):=by unfold qFE;rw [hsE0,if_pos rfl]
 rw [hsL0] at h105⊢
 rw [hsE0]
 refine J.G ?_
 refine J.c6 (.bool (qLy ([]:List Pk) [97,108,105,99,101] [97,108,105,99,101] 0 [] ([(enW (OWS 0))]:List En))) ?_
 refine J.c6 (I (0:Nat)) ?_
 refine J.b7 ?_
 refine J.b7 ?_
 refine J.b1<|J.u (J.D j13 ?_)
 refine J.f λ_ j14=>J.b O<|J.g ((qAf O O O).no xC) O<|J.c j14<|J.a3 ?_
 refine J.M j12<|J.q λ_ j15=>J.b2 [blk gr [Ptr x.gs,Ptr gc,Ptr gk,I (0+1:Nat)] 93,blk g11 [Str [98,111,98],.slice r87.A ([(enW (OWS 0))]:List En).length r87.c,.slice r87.bA (bsd kvR (Sha.tagged 11 [[98,111,98]]) 0 (r87.s-0)).length r87.bc,.bool (qAP kvR (Sha.tagged 11 [[98,111,98]]) r87.s),Str (qA0 kvR (Sha.tagged 11 [[98,111,98]]) r87.s),Str (qA2 kvR (Sha.tagged 11 [[98,111,98]]) r87.s)] 89] [] (.y 0 (.y 1 (.y 2 (.y 3 (.y 4 (.e 5 (.e 6 (.y 7 (.y 8 .nil))))))))) Tryz.wide xF xD ?_
 refine J.p O (qAW 1 O O O qJp qE8 O) O O<|J.G ?_
 refine J.p O (qAB O O) O O<|J.p O (qAA O O qGI O qSX O) O O<|J.p O (qAC 0 O O O qSd O) O O<|J.a1 O (qAJ O qUc O) O xD λg17 _=>J.e1 O (qAD (i:=25) (l:= [Str [],.slice none 0 0,.slice none 0 0,.bool false,Str [],Str []]) (vs:= [Str [98,111,98],.slice r87.A ([(enW (OWS 0))]:List En).length r87.c,.slice r87.bA (bsd kvR (Sha.tagged 11 [[98,111,98]]) 0 (r87.s-0)).length r87.bc,.bool (qAP kvR (Sha.tagged 11 [[98,111,98]]) r87.s),Str (qA0 kvR (Sha.tagged 11 [[98,111,98]]) r87.s),Str (qA2 kvR (Sha.tagged 11 [[98,111,98]]) r87.s)]) O O O O O qE8 O O) O O xD λ_ _=>J.b7 ?_
 refine J.b7 ?_
 refine J.b1<|J.u (J.D j15 ?_)
 refine J.q λ_ j16=>J.f λ_ j17=>J.b O<|J.g (qWy (b:=4) O O O xC) O<|J.c j17<|J.T<|J.f λ_ j18=>J.g (qAU O O O) O<|J.b O<|J.c j18<|J.Z O (λh117=>?_) (λh117=>?_)
 ·
  refine J.L<|J.b9 13 qJp qE8 O O O O O<|J.a8 (qAD (i:=25) (l:= [Str [98,111,98],.slice r87.A ([(enW (OWS 0))]:List En).length r87.c,.slice r87.bA (bsd kvR (Sha.tagged 11 [[98,111,98]]) 0 (r87.s-0)).length r87.bc,.bool (qAP kvR (Sha.tagged 11 [[98,111,98]]) r87.s),Str (qA0 kvR (Sha.tagged 11 [[98,111,98]]) r87.s),Str (qA2 kvR (Sha.tagged 11 [[98,111,98]]) r87.s)]) (vs:= [Str [97,108,105,99,101],.slice r48.A ([]:List En).length r48.c,.slice r48.bA (bsd qBA (Sha.tagged 11 [[97,108,105,99,101]]) 0 (r48.s-0)).length r48.bc,.bool (qAP qBA (Sha.tagged 11 [[97,108,105,99,101]]) r48.s),Str (qA0 qBA (Sha.tagged 11 [[97,108,105,99,101]]) r48.s),Str (qA2 qBA (Sha.tagged 11 [[97,108,105,99,101]]) r48.s)]) O O O O O qE8 O O) O O λ_ _=>J.b O<|J.a5<|J.a4<|J.u (J.D j16 ?_)
  refine J.f λ_ j19=>J.j 2 O<|J.b9 25 qJp qE8 O O O O O<|J.k (qAI O O ent (Ct.useA [blk gm [Str [97,108,105,99,101],.map (some gq),.slice A105 ([(enW (OWS 0))]:List En).length c105] 195,m105] [qAK gq (.map #[] 0),blk gc [I (1:Nat),I (1:Nat),.slice A61 (([p]:List RhD).length+1) c61] 279,m61,blk gr [Ptr x.gs,Ptr gc,Ptr gk,I (0+1:Nat)] 93,mp,blk gd [I (1:Nat),I (1:Nat),.slice A71 (([pz]:List RhD).length+1) c71] 279,m71,blk gs [Ptr z.gs,Ptr gd,Ptr gl,I (0+1:Nat)] 93,mq,H2,F,blk g7 [Str [97,108,105,99,101],.slice r48.A ([]:List En).length r48.c,.slice r48.bA (bsd qBA (Sha.tagged 11 [[97,108,105,99,101]]) 0 (r48.s-0)).length r48.bc,.bool (qAP qBA (Sha.tagged 11 [[97,108,105,99,101]]) r48.s),Str (qA0 qBA (Sha.tagged 11 [[97,108,105,99,101]]) r48.s),Str (qA2 qBA (Sha.tagged 11 [[97,108,105,99,101]]) r48.s)] 89,r48.mb,r48.m,blk g9 [Str [97,108,105,99,101],.slice r79.A ([(enW (OWS 0))]:List En).length r79.c,.slice r79.bA (bsd kvR (Sha.tagged 11 [[97,108,105,99,101]]) 0 (r79.s-0)).length r79.bc,.bool (qAP kvR (Sha.tagged 11 [[97,108,105,99,101]]) r79.s),Str (qA0 kvR (Sha.tagged 11 [[97,108,105,99,101]]) r79.s),Str (qA2 kvR (Sha.tagged 11 [[97,108,105,99,101]]) r79.s)] 89,r79.mb,r79.m,blk g11 [Str [98,111,98],.slice r87.A ([(enW (OWS 0))]:List En).length r87.c,.slice r87.bA (bsd kvR (Sha.tagged 11 [[98,111,98]]) 0 (r87.s-0)).length r87.bc,.bool (qAP kvR (Sha.tagged 11 [[98,111,98]]) r87.s),Str (qA0 kvR (Sha.tagged 11 [[98,111,98]]) r87.s),Str (qA2 kvR (Sha.tagged 11 [[98,111,98]]) r87.s)] 89,r87.mb,r87.m,blk g13 [Str [97,108,105,99,101],.slice r95.A ([(enW (OWS 1))]:List En).length r95.c,.slice r95.bA (bsd kvZ (Sha.tagged 11 [[97,108,105,99,101]]) 0 (r95.s-0)).length r95.bc,.bool (qAP kvZ (Sha.tagged 11 [[97,108,105,99,101]]) r95.s),Str (qA0 kvZ (Sha.tagged 11 [[97,108,105,99,101]]) r95.s),Str (qA2 kvZ (Sha.tagged 11 [[97,108,105,99,101]]) r95.s)] 89,r95.mb,r95.m,blk g17 [Str [97,108,105,99,101],.slice r48.A ([]:List En).length r48.c,.slice r48.bA (bsd qBA (Sha.tagged 11 [[97,108,105,99,101]]) 0 (r48.s-0)).length r48.bc,.bool (qAP qBA (Sha.tagged 11 [[97,108,105,99,101]]) r48.s),Str (qA0 qBA (Sha.tagged 11 [[97,108,105,99,101]]) r48.s),Str (qA2 qBA (Sha.tagged 11 [[97,108,105,99,101]]) r48.s)] 89] (A':=λr:SeR=> [blk gm [Str [97,108,105,99,101],.map (some gq),.slice r.A (qFE [97,108,105,99,101] [97,108,105,99,101] 18 ([(enW (OWS 0))]:List En) ([]:List En)).length r.c] 195,r.m]) (new:=λ_=> []) (λF' hF=>qC7 F' m105 gm gq [97,108,105,99,101] A105 c105 ([(enW (OWS 0))]:List En) h105 xC [] ((qDL.nil pkK gq).at.mono (hF (qAK gq (.map #[] 0)) xD)) [97,108,105,99,101] r48.A ([]:List En).length r48.c ([]:List En) (hro48.sl.mono (Fa hF)) xC r48.bA _ r48.bc _ _ _ (Ptr gc) zEn false 18 (λF'' hl=>by have:=qF4 F'' (hK.mono ((hF F xD).trans hl)) gc 1 1 A61 2 c61 ([p]++ [yl]) (hrow61.sl.mono ((hF m61 xD).trans hl)) xC xC (qAG.blk0.mono ((hF (blk gc [I (1:Nat),I (1:Nat),.slice A61 (([p]:List RhD).length+1) c61] 279) xD).trans hl)) w2 (hynA.mono ((hF H2 xD).trans hl)) (by show∀s∈yl.ns,_;rw [show yl.ns=qAn kvR 0 from congrArg Hd.nodes hyt];exact qBu _) [97,108,105,99,101] xC r48.A ([]:List En).length r48.c ([]:List En) (hro48.sl.mono ((hF r48.m xD).trans hl)) (λz hz=>by cases hz) xC r48.bA r48.bc _ (hrb48.sl.mono ((hF r48.mb xD).trans hl)) _ _ _ (qBv qK5 (Sha.tagged_length _ _) hst48) (qBw qK5 _ _);rw [show([p]++ [yl]:List RhD).getD (2-1) qAX=yl from rfl,qXt hst48 hkfR hyt] at this;exact this)))) O ?_
  rintro⟨A146,c146,m146⟩ h146
  try dsimp only at h146
  have hsE:qDy [97,108,105,99,101] [97,108,105,99,101] 18 ([(enW (OWS 0))]:List En) ([]:List En)=18:=by unfold qDy;rw [if_neg (λh=>h rfl),if_pos xC]
  have hsL:(qFE [97,108,105,99,101] [97,108,105,99,101] 18 ([(enW (OWS 0))]:List En) ([]:List En))=([(enW (OWS 0))]:List En):=qBq hsE xC
  have hsB:qLy ([]:List Pk) [97,108,105,99,101] [97,108,105,99,101] 18 ([(enW (OWS 0))]:List En) ([]:List En)=false:=qCP hsE xC
  rw [hsL] at h146⊢
  rw [hsB,hsE]
  refine J.j 5 O<|J.c j19<|J.f λ_ j20=>J.b O<|J.b9 16 qJp qE8 O O O O O<|J.k (qAI O O ent (Ct.useA [blk gm [Str [97,108,105,99,101],.map (some gq),.slice A146 ([(enW (OWS 0))]:List En).length c146] 195,m146] [qAK gq (.map #[] 0),blk gc [I (1:Nat),I (1:Nat),.slice A61 (([p]:List RhD).length+1) c61] 279,m61,blk gr [Ptr x.gs,Ptr gc,Ptr gk,I (0+1:Nat)] 93,mp,blk gd [I (1:Nat),I (1:Nat),.slice A71 (([pz]:List RhD).length+1) c71] 279,m71,blk gs [Ptr z.gs,Ptr gd,Ptr gl,I (0+1:Nat)] 93,mq,H2,F,blk g7 [Str [97,108,105,99,101],.slice r48.A ([]:List En).length r48.c,.slice r48.bA (bsd qBA (Sha.tagged 11 [[97,108,105,99,101]]) 0 (r48.s-0)).length r48.bc,.bool (qAP qBA (Sha.tagged 11 [[97,108,105,99,101]]) r48.s),Str (qA0 qBA (Sha.tagged 11 [[97,108,105,99,101]]) r48.s),Str (qA2 qBA (Sha.tagged 11 [[97,108,105,99,101]]) r48.s)] 89,r48.mb,r48.m,blk g9 [Str [97,108,105,99,101],.slice r79.A ([(enW (OWS 0))]:List En).length r79.c,.slice r79.bA (bsd kvR (Sha.tagged 11 [[97,108,105,99,101]]) 0 (r79.s-0)).length r79.bc,.bool (qAP kvR (Sha.tagged 11 [[97,108,105,99,101]]) r79.s),Str (qA0 kvR (Sha.tagged 11 [[97,108,105,99,101]]) r79.s),Str (qA2 kvR (Sha.tagged 11 [[97,108,105,99,101]]) r79.s)] 89,r79.mb,r79.m,blk g11 [Str [98,111,98],.slice r87.A ([(enW (OWS 0))]:List En).length r87.c,.slice r87.bA (bsd kvR (Sha.tagged 11 [[98,111,98]]) 0 (r87.s-0)).length r87.bc,.bool (qAP kvR (Sha.tagged 11 [[98,111,98]]) r87.s),Str (qA0 kvR (Sha.tagged 11 [[98,111,98]]) r87.s),Str (qA2 kvR (Sha.tagged 11 [[98,111,98]]) r87.s)] 89,r87.mb,r87.m,blk g13 [Str [97,108,105,99,101],.slice r95.A ([(enW (OWS 1))]:List En).length r95.c,.slice r95.bA (bsd kvZ (Sha.tagged 11 [[97,108,105,99,101]]) 0 (r95.s-0)).length r95.bc,.bool (qAP kvZ (Sha.tagged 11 [[97,108,105,99,101]]) r95.s),Str (qA0 kvZ (Sha.tagged 11 [[97,108,105,99,101]]) r95.s),Str (qA2 kvZ (Sha.tagged 11 [[97,108,105,99,101]]) r95.s)] 89,r95.mb,r95.m,blk g17 [Str [97,108,105,99,101],.slice r48.A ([]:List En).length r48.c,.slice r48.bA (bsd qBA (Sha.tagged 11 [[97,108,105,99,101]]) 0 (r48.s-0)).length r48.bc,.bool (qAP qBA (Sha.tagged 11 [[97,108,105,99,101]]) r48.s),Str (qA0 qBA (Sha.tagged 11 [[97,108,105,99,101]]) r48.s),Str (qA2 qBA (Sha.tagged 11 [[97,108,105,99,101]]) r48.s)] 89] (A':=λr:SeR=> [blk gm [Str [97,108,105,99,101],.map (some gq),.slice r.A (qFE [97,108,105,99,101] [97,108,105,99,101] 1 ([(enW (OWS 0))]:List En) ([(enW (OWS 0))]:List En)).length r.c] 195,r.m]) (new:=λ_=> []) (λF' hF=>qC7 F' m146 gm gq [97,108,105,99,101] A146 c146 ([(enW (OWS 0))]:List En) h146 xC [] ((qDL.nil pkK gq).at.mono (hF (qAK gq (.map #[] 0)) xD)) [97,108,105,99,101] r79.A ([(enW (OWS 0))]:List En).length r79.c ([(enW (OWS 0))]:List En) (hro79.sl.mono (Fa hF)) xC r79.bA _ r79.bc _ _ _ (.pointer none) zEn false 1 (λF'' hl=>qGn F'' _ _ _ _ _ _)))) O ?_
  rintro⟨A152,c152,m152⟩ h152
  try dsimp only at h152
  have hsF:qDy [97,108,105,99,101] [97,108,105,99,101] 1 ([(enW (OWS 0))]:List En) ([(enW (OWS 0))]:List En)=1:=by unfold qDy;rw [if_neg (λh=>h rfl),if_pos xC]
  have hsM:(qFE [97,108,105,99,101] [97,108,105,99,101] 1 ([(enW (OWS 0))]:List En) ([(enW (OWS 0))]:List En))=([(enW (OWS 0))]:List En):=qBq hsF xC
  have hsC:qLy ([]:List Pk) [97,108,105,99,101] [97,108,105,99,101] 1 ([(enW (OWS 0))]:List En) ([(enW (OWS 0))]:List En)=false:=qCP hsF xC
  rw [hsM] at h152⊢
  rw [hsC,hsF]
  refine J.j 5 O<|J.c j20<|J.f λ_ j21=>J.b O<|J.k (qBP O O (λF' hF=>qDH F' gm gq [97,108,105,99,101] A152 ([(enW (OWS 0))]:List En).length c152 ([(enW (OWS 0))]:List En) (h152.sl.mono (Fa hF)) xC (qAG.blk0.mono (hF (blk gm [Str [97,108,105,99,101],.map (some gq),.slice A152 ([(enW (OWS 0))]:List En).length c152] 195) xD)))) O ?_
  rintro⟨A156,c156,m156⟩ h156
  try dsimp only at h156
  refine J.b O<|J.c j21<|J.f λ_ j22=>J.b O<|J.c j22<|J.f λ_ j23=>J.b O<|J.k (qBP O O (λF' hF=>qCB F' (hK.mo hF) 0 xB)) O ?_
  rintro⟨g158,m158⟩ h158
  try dsimp only at h158
  refine J.k (qAY O O (λF' hF=>qDO F' g158 (OWS 0) 0 (h158.mono (Fa hF)))) O λg159 _=>J.k (qAY O O (λF' hF=>qGY F' ((Wo.opn (OWS 0),Xm.root (OWS 0) 0,0):Pk))) O λg160 _=>J.c j23<|J.q λ_ j24=>J.b2 [blk gr [Ptr x.gs,Ptr gc,Ptr gk,I (0+1:Nat)] 93,blk g9 [Str [97,108,105,99,101],.slice r79.A ([(enW (OWS 0))]:List En).length r79.c,.slice r79.bA (bsd kvR (Sha.tagged 11 [[97,108,105,99,101]]) 0 (r79.s-0)).length r79.bc,.bool (qAP kvR (Sha.tagged 11 [[97,108,105,99,101]]) r79.s),Str (qA0 kvR (Sha.tagged 11 [[97,108,105,99,101]]) r79.s),Str (qA2 kvR (Sha.tagged 11 [[97,108,105,99,101]]) r79.s)] 89] [] (.y 0 (.y 1 (.y 2 (.y 3 (.y 4 (.y 5 (.e 6 (.y 7 (.y 8 (.y 9 (.y 10 (.y 11 .nil)))))))))))) Tryz.wide xF xD ?_
  refine J.G ?_
  refine J.G ?_
  refine J.p O (qAB O O) O O<|J.p O (qAA O O qGI O qSX O) O O<|J.p O (qAC 0 O O O qSd O) O O<|J.p O (qAW 1 O O O qJp qE8 O) O O<|J.a1 O (qAY O O (λF' hF=>qGV F' _ _ _ _ _ _ _ _ _ _ _)) O xD λg168 _=>J.G ?_
  refine J.c6 (.bool false) ?_
  refine J.c6 (I (1:Nat)) ?_
  refine J.b7 ?_
  refine J.b7 ?_
  refine J.b1<|J.u (J.D j24 ?_)
  refine J.f λ_ j25=>J.k (qAY O O (λF' hF=>(by have:=qJS F' (hA.mono (Fa hF)) (hT.mono (Fa hF)) [78,111,116,32,78,111,114,109,97,108] xC (by rw [qVU];decide);rw [qVU] at this;exact this))) O λg172 _=>J.j 5 O<|J.c j25<|J.f λ_ j26=>J.b O<|J.k (qBP O O (λF' hF=>qGW F')) O ?_
  rintro⟨A177,c177,m177⟩ h177
  try dsimp only at h177
  refine J.k (qBP O O (λF' hF=>qGX F' A177 0 c177 [] (h177.sl.mono (Fa hF)) (λv hv=>by cases hv) xC none (.no _ trivial (λu e=>by cases e)) [] false O 0 false O)) O ?_
  rintro⟨A178,c178,m178⟩ h178
  try dsimp only at h178
  refine J.j 9 O<|J.c j26<|J.q λ_ j27=>J.b2 [m156,blk g9 [Str [97,108,105,99,101],.slice r79.A ([(enW (OWS 0))]:List En).length r79.c,.slice r79.bA (bsd kvR (Sha.tagged 11 [[97,108,105,99,101]]) 0 (r79.s-0)).length r79.bc,.bool (qAP kvR (Sha.tagged 11 [[97,108,105,99,101]]) r79.s),Str (qA0 kvR (Sha.tagged 11 [[97,108,105,99,101]]) r79.s),Str (qA2 kvR (Sha.tagged 11 [[97,108,105,99,101]]) r79.s)] 89,r79.m] [] (.y 0 (.y 1 (.y 2 (.y 3 (.y 4 (.y 5 (.y 6 (.y 7 (.y 8 (.y 9 (.y 10 (.y 11 (.y 12 (.y 13 (.y 14 (.y 15 (.y 16 (.y 17 (.y 18 (.y 19 (.y 20 (.y 21 (.y 22 (.y 23 (.y 24 (.y 25 (.y 26 (.y 27 (.y 28 (.y 29 (.y 30 (.y 31 (.y 32 (.y 33 (.y 34 (.y 35 (.y 36 (.y 37 (.y 38 (.y 39 (.e 40 (.y 41 (.y 42 (.y 43 (.y 44 .nil))))))))))))))))))))))))))))))))))))))))))))) Tryz.wide xF xD ?_
  refine J.G ?_
  refine J.p O (qAq O O) O O<|J.G ?_
  refine J.a2 O (qAb O O) O O<|J.a2 O (qAb O O) O O<|J.a2 O ((qAU O O O).yes xC) O O<|J.c3 ?_
  refine J.G ?_
  refine J.a2 O (qAb O O) O O<|J.a2 O ((qAU O O O).yes xC) O O<|J.c3 ?_
  refine J.G ?_
  refine J.a2 O (qAb O O) O O<|J.a2 O (qAQ qB4 O O) O O<|J.a2 O ((qAU O O O).yes (O)) O O<|J.c3 ?_
  refine J.G ?_
  refine J.a2 O (qAb O O) O O<|J.a2 O (qAE O O O qB4 qAr h156.sl ju) O O<|J.a2 O (qAT O O qBQ qAr (m:=m156) xD (h156.sl.elem (qBh (l:=([(enW (OWS 0))]:List En)) (k:=0) ju)) O) O O<|J.a2 O (qAA O O qJ1 O qJu O) O O<|J.a2 O (qAC 1 O O O qMj O) O O<|J.a2 O (qAE O O O qB4 qAr hro79.sl ju) O O<|J.a2 O (qAT O O qBQ qAr (m:=r79.m) xD (hro79.sl.elem (qBh (l:=([(enW (OWS 0))]:List En)) (k:=0) ju)) O) O O<|J.a2 O ((qKe O O O xH (λw=>qZC (([(enW (OWS 0))]:List En).getD 0 qBG) (([(enW (OWS 0))]:List En).getD 0 qBG) w)).as (v':= .bool true) (by rw [decide_eq_true rfl])) O O<|J.c3 ?_
  refine J.G ?_
  refine J.a2 O (qAb O O) O O<|J.a2 O ((qAU O O O).yes xC) O O<|J.c3 ?_
  refine J.G ?_
  refine J.a2 O (qAb O O) O O<|J.a2 O ((qAU O O O).yes xC) O O<|J.c3 ?_
  refine J.G ?_
  refine J.a2 O (qAb O O) O O<|J.a2 O ((qAU O O O).yes xC) O O<|J.c3 ?_
  refine J.G ?_
  refine J.a2 O (qAb O O) O O<|J.d7 O (qAY O O (λF' hF=>qES F')) (Wan.is O O O O O) O O xD ?_
  intro g223 _
  refine J.a2 O (qAQ qB4 O O) O O<|J.a2 O ((qAU O O O).yes (O)) O O<|J.c3 ?_
  refine J.b7 ?_
  refine J.b1<|J.u (J.D j27 ?_)
  exact J.A<|J.E hw0 O () O trivial [12] O xC
 refine J.f λ_ j28=>J.g (qAU O O O) O<|J.b O<|J.c j28<|J.Z O (λh120=>?_) (λh120=>?_)
 ·
  refine J.b2 [blk gs [Ptr z.gs,Ptr gd,Ptr gl,I (0+1:Nat)] 93,blk g13 [Str [97,108,105,99,101],.slice r95.A ([(enW (OWS 1))]:List En).length r95.c,.slice r95.bA (bsd kvZ (Sha.tagged 11 [[97,108,105,99,101]]) 0 (r95.s-0)).length r95.bc,.bool (qAP kvZ (Sha.tagged 11 [[97,108,105,99,101]]) r95.s),Str (qA0 kvZ (Sha.tagged 11 [[97,108,105,99,101]]) r95.s),Str (qA2 kvZ (Sha.tagged 11 [[97,108,105,99,101]]) r95.s)] 89] [] (.y 0 (.y 1 (.y 2 (.y 3 (.y 4 (.e 5 (.y 6 (.y 7 .nil)))))))) Tryz.wide xF xD ?_
  refine J.p O (qAW 1 O O O qJp qE8 O) O O<|J.G ?_
  refine J.p O (qAB O O) O O<|J.p O (qAA O O qGI O qSX O) O O<|J.p O (qAC 0 O O O qSd O) O O<|J.e1 O (qAD (i:=25) (l:= [Str [98,111,98],.slice r87.A ([(enW (OWS 0))]:List En).length r87.c,.slice r87.bA (bsd kvR (Sha.tagged 11 [[98,111,98]]) 0 (r87.s-0)).length r87.bc,.bool (qAP kvR (Sha.tagged 11 [[98,111,98]]) r87.s),Str (qA0 kvR (Sha.tagged 11 [[98,111,98]]) r87.s),Str (qA2 kvR (Sha.tagged 11 [[98,111,98]]) r87.s)]) (vs:= [Str [97,108,105,99,101],.slice r95.A ([(enW (OWS 1))]:List En).length r95.c,.slice r95.bA (bsd kvZ (Sha.tagged 11 [[97,108,105,99,101]]) 0 (r95.s-0)).length r95.bc,.bool (qAP kvZ (Sha.tagged 11 [[97,108,105,99,101]]) r95.s),Str (qA0 kvZ (Sha.tagged 11 [[97,108,105,99,101]]) r95.s),Str (qA2 kvZ (Sha.tagged 11 [[97,108,105,99,101]]) r95.s)]) O O O O O qE8 O O) O O xD λ_ _=>J.b7 ?_
  refine J.b7 ?_
  refine J.b1<|J.a4<|J.u (J.D j16 ?_)
  refine J.f λ_ j29=>J.j 2 O<|J.b9 25 qJp qE8 O O O O O<|J.k (qAI O O ent (Ct.useA [blk gm [Str [97,108,105,99,101],.map (some gq),.slice A105 ([(enW (OWS 0))]:List En).length c105] 195,m105] [qAK gq (.map #[] 0),blk gc [I (1:Nat),I (1:Nat),.slice A61 (([p]:List RhD).length+1) c61] 279,m61,blk gr [Ptr x.gs,Ptr gc,Ptr gk,I (0+1:Nat)] 93,mp,blk gd [I (1:Nat),I (1:Nat),.slice A71 (([pz]:List RhD).length+1) c71] 279,m71,blk gs [Ptr z.gs,Ptr gd,Ptr gl,I (0+1:Nat)] 93,mq,H2,F,blk g7 [Str [97,108,105,99,101],.slice r48.A ([]:List En).length r48.c,.slice r48.bA (bsd qBA (Sha.tagged 11 [[97,108,105,99,101]]) 0 (r48.s-0)).length r48.bc,.bool (qAP qBA (Sha.tagged 11 [[97,108,105,99,101]]) r48.s),Str (qA0 qBA (Sha.tagged 11 [[97,108,105,99,101]]) r48.s),Str (qA2 qBA (Sha.tagged 11 [[97,108,105,99,101]]) r48.s)] 89,r48.mb,r48.m,blk g9 [Str [97,108,105,99,101],.slice r79.A ([(enW (OWS 0))]:List En).length r79.c,.slice r79.bA (bsd kvR (Sha.tagged 11 [[97,108,105,99,101]]) 0 (r79.s-0)).length r79.bc,.bool (qAP kvR (Sha.tagged 11 [[97,108,105,99,101]]) r79.s),Str (qA0 kvR (Sha.tagged 11 [[97,108,105,99,101]]) r79.s),Str (qA2 kvR (Sha.tagged 11 [[97,108,105,99,101]]) r79.s)] 89,r79.mb,r79.m,blk g11 [Str [98,111,98],.slice r87.A ([(enW (OWS 0))]:List En).length r87.c,.slice r87.bA (bsd kvR (Sha.tagged 11 [[98,111,98]]) 0 (r87.s-0)).length r87.bc,.bool (qAP kvR (Sha.tagged 11 [[98,111,98]]) r87.s),Str (qA0 kvR (Sha.tagged 11 [[98,111,98]]) r87.s),Str (qA2 kvR (Sha.tagged 11 [[98,111,98]]) r87.s)] 89,r87.mb,r87.m,blk g13 [Str [97,108,105,99,101],.slice r95.A ([(enW (OWS 1))]:List En).length r95.c,.slice r95.bA (bsd kvZ (Sha.tagged 11 [[97,108,105,99,101]]) 0 (r95.s-0)).length r95.bc,.bool (qAP kvZ (Sha.tagged 11 [[97,108,105,99,101]]) r95.s),Str (qA0 kvZ (Sha.tagged 11 [[97,108,105,99,101]]) r95.s),Str (qA2 kvZ (Sha.tagged 11 [[97,108,105,99,101]]) r95.s)] 89,r95.mb,r95.m,blk g17 [Str [97,108,105,99,101],.slice r95.A ([(enW (OWS 1))]:List En).length r95.c,.slice r95.bA (bsd kvZ (Sha.tagged 11 [[97,108,105,99,101]]) 0 (r95.s-0)).length r95.bc,.bool (qAP kvZ (Sha.tagged 11 [[97,108,105,99,101]]) r95.s),Str (qA0 kvZ (Sha.tagged 11 [[97,108,105,99,101]]) r95.s),Str (qA2 kvZ (Sha.tagged 11 [[97,108,105,99,101]]) r95.s)] 89] (A':=λr:SeR=> [blk gm [Str [97,108,105,99,101],.map (some gq),.slice r.A (qFE [97,108,105,99,101] [97,108,105,99,101] 0 ([(enW (OWS 0))]:List En) ([(enW (OWS 1))]:List En)).length r.c] 195,r.m]) (new:=λ_=> []) (λF' hF=>qC7 F' m105 gm gq [97,108,105,99,101] A105 c105 ([(enW (OWS 0))]:List En) h105 xC [] ((qDL.nil pkK gq).at.mono (hF (qAK gq (.map #[] 0)) xD)) [97,108,105,99,101] r95.A ([(enW (OWS 1))]:List En).length r95.c ([(enW (OWS 1))]:List En) (hro95.sl.mono (Fa hF)) xC r95.bA _ r95.bc _ _ _ (Ptr gd) (enW (OWS 1)) true 0 (λF'' hl=>by have:=qF4 F'' (hK.mono ((hF F xD).trans hl)) gd 1 1 A71 2 c71 ([pz]++ [yz]) (hrow71.sl.mono ((hF m71 xD).trans hl)) xC xC (qAG.blk0.mono ((hF (blk gd [I (1:Nat),I (1:Nat),.slice A71 (([pz]:List RhD).length+1) c71] 279) xD).trans hl)) v2 (hyn71.mono ((hF H2 xD).trans hl)) (by show∀s∈yz.ns,_;rw [show yz.ns=qAn kvZ 0 from congrArg Hd.nodes hzt];exact qBu _) [97,108,105,99,101] xC r95.A ([(enW (OWS 1))]:List En).length r95.c ([(enW (OWS 1))]:List En) (hro95.sl.mono ((hF r95.m xD).trans hl)) (λz hz=>by rw [List.mem_singleton.1 hz];exact qGf _) xC r95.bA r95.bc _ (hrb95.sl.mono ((hF r95.mb xD).trans hl)) _ _ _ (qBv hkfZ (Sha.tagged_length _ _) hst95) (qBw hkfZ _ _);rw [show([pz]++ [yz]:List RhD).getD (2-1) qAX=yz from rfl,qUi hkfZ (Sha.tagged_length _ _) hst95 hzt (En.hist1 (enW (OWS 1)) O O) xC O hgZ] at this;exact this)))) O ?_
  rintro⟨A146,c146,m146⟩ h146
  try dsimp only at h146
  have hsE:qDy [97,108,105,99,101] [97,108,105,99,101] 0 ([(enW (OWS 0))]:List En) ([(enW (OWS 1))]:List En)=15:=by unfold qDy;rw [if_neg (λh=>h rfl),if_neg (λh=>h rfl),if_neg xC,if_pos (show List.take ([enW (OWS 0)]:List En).length [enW (OWS 1)]≠ [enW (OWS 0)] from λh=>qZH (List.cons.inj h).1.symm)]
  have hsL:(qFE [97,108,105,99,101] [97,108,105,99,101] 0 ([(enW (OWS 0))]:List En) ([(enW (OWS 1))]:List En))=([(enW (OWS 0))]:List En):=qBq hsE xC
  have hsB:qLy ([]:List Pk) [97,108,105,99,101] [97,108,105,99,101] 0 ([(enW (OWS 0))]:List En) ([(enW (OWS 1))]:List En)=false:=qCP hsE xC
  rw [hsL] at h146⊢
  rw [hsB,hsE]
  refine J.j 5 O<|J.c j29<|J.f λ_ j30=>J.b O<|J.b9 16 qJp qE8 O O O O O<|J.k (qAI O O ent (Ct.useA [blk gm [Str [97,108,105,99,101],.map (some gq),.slice A146 ([(enW (OWS 0))]:List En).length c146] 195,m146] [qAK gq (.map #[] 0),blk gc [I (1:Nat),I (1:Nat),.slice A61 (([p]:List RhD).length+1) c61] 279,m61,blk gr [Ptr x.gs,Ptr gc,Ptr gk,I (0+1:Nat)] 93,mp,blk gd [I (1:Nat),I (1:Nat),.slice A71 (([pz]:List RhD).length+1) c71] 279,m71,blk gs [Ptr z.gs,Ptr gd,Ptr gl,I (0+1:Nat)] 93,mq,H2,F,blk g7 [Str [97,108,105,99,101],.slice r48.A ([]:List En).length r48.c,.slice r48.bA (bsd qBA (Sha.tagged 11 [[97,108,105,99,101]]) 0 (r48.s-0)).length r48.bc,.bool (qAP qBA (Sha.tagged 11 [[97,108,105,99,101]]) r48.s),Str (qA0 qBA (Sha.tagged 11 [[97,108,105,99,101]]) r48.s),Str (qA2 qBA (Sha.tagged 11 [[97,108,105,99,101]]) r48.s)] 89,r48.mb,r48.m,blk g9 [Str [97,108,105,99,101],.slice r79.A ([(enW (OWS 0))]:List En).length r79.c,.slice r79.bA (bsd kvR (Sha.tagged 11 [[97,108,105,99,101]]) 0 (r79.s-0)).length r79.bc,.bool (qAP kvR (Sha.tagged 11 [[97,108,105,99,101]]) r79.s),Str (qA0 kvR (Sha.tagged 11 [[97,108,105,99,101]]) r79.s),Str (qA2 kvR (Sha.tagged 11 [[97,108,105,99,101]]) r79.s)] 89,r79.mb,r79.m,blk g11 [Str [98,111,98],.slice r87.A ([(enW (OWS 0))]:List En).length r87.c,.slice r87.bA (bsd kvR (Sha.tagged 11 [[98,111,98]]) 0 (r87.s-0)).length r87.bc,.bool (qAP kvR (Sha.tagged 11 [[98,111,98]]) r87.s),Str (qA0 kvR (Sha.tagged 11 [[98,111,98]]) r87.s),Str (qA2 kvR (Sha.tagged 11 [[98,111,98]]) r87.s)] 89,r87.mb,r87.m,blk g13 [Str [97,108,105,99,101],.slice r95.A ([(enW (OWS 1))]:List En).length r95.c,.slice r95.bA (bsd kvZ (Sha.tagged 11 [[97,108,105,99,101]]) 0 (r95.s-0)).length r95.bc,.bool (qAP kvZ (Sha.tagged 11 [[97,108,105,99,101]]) r95.s),Str (qA0 kvZ (Sha.tagged 11 [[97,108,105,99,101]]) r95.s),Str (qA2 kvZ (Sha.tagged 11 [[97,108,105,99,101]]) r95.s)] 89,r95.mb,r95.m,blk g17 [Str [97,108,105,99,101],.slice r95.A ([(enW (OWS 1))]:List En).length r95.c,.slice r95.bA (bsd kvZ (Sha.tagged 11 [[97,108,105,99,101]]) 0 (r95.s-0)).length r95.bc,.bool (qAP kvZ (Sha.tagged 11 [[97,108,105,99,101]]) r95.s),Str (qA0 kvZ (Sha.tagged 11 [[97,108,105,99,101]]) r95.s),Str (qA2 kvZ (Sha.tagged 11 [[97,108,105,99,101]]) r95.s)] 89] (A':=λr:SeR=> [blk gm [Str [97,108,105,99,101],.map (some gq),.slice r.A (qFE [97,108,105,99,101] [97,108,105,99,101] 1 ([(enW (OWS 0))]:List En) ([(enW (OWS 0))]:List En)).length r.c] 195,r.m]) (new:=λ_=> []) (λF' hF=>qC7 F' m146 gm gq [97,108,105,99,101] A146 c146 ([(enW (OWS 0))]:List En) h146 xC [] ((qDL.nil pkK gq).at.mono (hF (qAK gq (.map #[] 0)) xD)) [97,108,105,99,101] r79.A ([(enW (OWS 0))]:List En).length r79.c ([(enW (OWS 0))]:List En) (hro79.sl.mono (Fa hF)) xC r79.bA _ r79.bc _ _ _ (.pointer none) zEn false 1 (λF'' hl=>qGn F'' _ _ _ _ _ _)))) O ?_
  rintro⟨A152,c152,m152⟩ h152
  try dsimp only at h152
  have hsF:qDy [97,108,105,99,101] [97,108,105,99,101] 1 ([(enW (OWS 0))]:List En) ([(enW (OWS 0))]:List En)=1:=by unfold qDy;rw [if_neg (λh=>h rfl),if_pos xC]
  have hsM:(qFE [97,108,105,99,101] [97,108,105,99,101] 1 ([(enW (OWS 0))]:List En) ([(enW (OWS 0))]:List En))=([(enW (OWS 0))]:List En):=qBq hsF xC
  have hsC:qLy ([]:List Pk) [97,108,105,99,101] [97,108,105,99,101] 1 ([(enW (OWS 0))]:List En) ([(enW (OWS 0))]:List En)=false:=qCP hsF xC
  rw [hsM] at h152⊢
  rw [hsC,hsF]
  refine J.j 5 O<|J.c j30<|J.f λ_ j31=>J.b O<|J.k (qBP O O (λF' hF=>qDH F' gm gq [97,108,105,99,101] A152 ([(enW (OWS 0))]:List En).length c152 ([(enW (OWS 0))]:List En) (h152.sl.mono (Fa hF)) xC (qAG.blk0.mono (hF (blk gm [Str [97,108,105,99,101],.map (some gq),.slice A152 ([(enW (OWS 0))]:List En).length c152] 195) xD)))) O ?_
  rintro⟨A156,c156,m156⟩ h156
  try dsimp only at h156
  refine J.b O<|J.c j31<|J.f λ_ j32=>J.b O<|J.c j32<|J.f λ_ j33=>J.b O<|J.k (qBP O O (λF' hF=>qCB F' (hK.mo hF) 0 xB)) O ?_
  rintro⟨g158,m158⟩ h158
  try dsimp only at h158
  refine J.k (qAY O O (λF' hF=>qDO F' g158 (OWS 0) 0 (h158.mono (Fa hF)))) O λg159 _=>J.k (qAY O O (λF' hF=>qGY F' ((Wo.opn (OWS 0),Xm.root (OWS 0) 0,0):Pk))) O λg160 _=>J.c j33<|J.q λ_ j34=>J.b2 [blk gr [Ptr x.gs,Ptr gc,Ptr gk,I (0+1:Nat)] 93,blk g9 [Str [97,108,105,99,101],.slice r79.A ([(enW (OWS 0))]:List En).length r79.c,.slice r79.bA (bsd kvR (Sha.tagged 11 [[97,108,105,99,101]]) 0 (r79.s-0)).length r79.bc,.bool (qAP kvR (Sha.tagged 11 [[97,108,105,99,101]]) r79.s),Str (qA0 kvR (Sha.tagged 11 [[97,108,105,99,101]]) r79.s),Str (qA2 kvR (Sha.tagged 11 [[97,108,105,99,101]]) r79.s)] 89] [] (.y 0 (.y 1 (.y 2 (.y 3 (.y 4 (.y 5 (.e 6 (.y 7 (.y 8 (.y 9 (.y 10 (.y 11 .nil)))))))))))) Tryz.wide xF xD ?_
  refine J.G ?_
  refine J.G ?_
  refine J.p O (qAB O O) O O<|J.p O (qAA O O qGI O qSX O) O O<|J.p O (qAC 0 O O O qSd O) O O<|J.p O (qAW 1 O O O qJp qE8 O) O O<|J.a1 O (qAY O O (λF' hF=>qGV F' _ _ _ _ _ _ _ _ _ _ _)) O xD λg168 _=>J.G ?_
  refine J.c6 (.bool false) ?_
  refine J.c6 (I (1:Nat)) ?_
  refine J.b7 ?_
  refine J.b7 ?_
  refine J.b1<|J.u (J.D j34 ?_)
  refine J.f λ_ j35=>J.k (qAY O O (λF' hF=>(by have:=qJS F' (hA.mono (Fa hF)) (hT.mono (Fa hF)) [78,111,116,32,78,111,114,109,97,108] xC (by rw [qVU];decide);rw [qVU] at this;exact this))) O λg172 _=>J.j 5 O<|J.c j35<|J.f λ_ j36=>J.b O<|J.k (qBP O O (λF' hF=>qGW F')) O ?_
  rintro⟨A177,c177,m177⟩ h177
  try dsimp only at h177
  refine J.k (qBP O O (λF' hF=>qGX F' A177 0 c177 [] (h177.sl.mono (Fa hF)) (λv hv=>by cases hv) xC none (.no _ trivial (λu e=>by cases e)) [] false O 0 false O)) O ?_
  rintro⟨A178,c178,m178⟩ h178
  try dsimp only at h178
  refine J.j 9 O<|J.c j36<|J.q λ_ j37=>J.b2 [m156,blk g9 [Str [97,108,105,99,101],.slice r79.A ([(enW (OWS 0))]:List En).length r79.c,.slice r79.bA (bsd kvR (Sha.tagged 11 [[97,108,105,99,101]]) 0 (r79.s-0)).length r79.bc,.bool (qAP kvR (Sha.tagged 11 [[97,108,105,99,101]]) r79.s),Str (qA0 kvR (Sha.tagged 11 [[97,108,105,99,101]]) r79.s),Str (qA2 kvR (Sha.tagged 11 [[97,108,105,99,101]]) r79.s)] 89,r79.m] [] (.y 0 (.y 1 (.y 2 (.y 3 (.y 4 (.y 5 (.y 6 (.y 7 (.y 8 (.y 9 (.y 10 (.y 11 (.y 12 (.y 13 (.y 14 (.y 15 (.y 16 (.y 17 (.y 18 (.y 19 (.y 20 (.y 21 (.y 22 (.y 23 (.y 24 (.y 25 (.y 26 (.y 27 (.y 28 (.y 29 (.y 30 (.y 31 (.y 32 (.y 33 (.y 34 (.y 35 (.y 36 (.y 37 (.y 38 (.y 39 (.e 40 (.y 41 (.y 42 (.y 43 (.y 44 .nil))))))))))))))))))))))))))))))))))))))))))))) Tryz.wide xF xD ?_
  refine J.G ?_
  refine J.p O (qAq O O) O O<|J.G ?_
  refine J.a2 O (qAb O O) O O<|J.a2 O (qAb O O) O O<|J.a2 O ((qAU O O O).yes xC) O O<|J.c3 ?_
  refine J.G ?_
  refine J.a2 O (qAb O O) O O<|J.a2 O ((qAU O O O).yes xC) O O<|J.c3 ?_
  refine J.G ?_
  refine J.a2 O (qAb O O) O O<|J.a2 O (qAQ qB4 O O) O O<|J.a2 O ((qAU O O O).yes (O)) O O<|J.c3 ?_
  refine J.G ?_
  refine J.a2 O (qAb O O) O O<|J.a2 O (qAE O O O qB4 qAr h156.sl ju) O O<|J.a2 O (qAT O O qBQ qAr (m:=m156) xD (h156.sl.elem (qBh (l:=([(enW (OWS 0))]:List En)) (k:=0) ju)) O) O O<|J.a2 O (qAA O O qJ1 O qJu O) O O<|J.a2 O (qAC 1 O O O qMj O) O O<|J.a2 O (qAE O O O qB4 qAr hro79.sl ju) O O<|J.a2 O (qAT O O qBQ qAr (m:=r79.m) xD (hro79.sl.elem (qBh (l:=([(enW (OWS 0))]:List En)) (k:=0) ju)) O) O O<|J.a2 O ((qKe O O O xH (λw=>qZC (([(enW (OWS 0))]:List En).getD 0 qBG) (([(enW (OWS 0))]:List En).getD 0 qBG) w)).as (v':= .bool true) (by rw [decide_eq_true rfl])) O O<|J.c3 ?_
  refine J.G ?_
  refine J.a2 O (qAb O O) O O<|J.a2 O ((qAU O O O).yes xC) O O<|J.c3 ?_
  refine J.G ?_
  refine J.a2 O (qAb O O) O O<|J.a2 O ((qAU O O O).yes xC) O O<|J.c3 ?_
  refine J.G ?_
  refine J.a2 O (qAb O O) O O<|J.a2 O ((qAU O O O).yes xC) O O<|J.c3 ?_
  refine J.G ?_
  refine J.a2 O (qAb O O) O O<|J.d7 O (qAY O O (λF' hF=>qES F')) (Wan.is O O O O O) O O xD ?_
  intro g223 _
  refine J.a2 O (qAQ qB4 O O) O O<|J.a2 O ((qAU O O O).yes (O)) O O<|J.c3 ?_
  refine J.b7 ?_
  refine J.b1<|J.u (J.D j37 ?_)
  exact J.A<|J.E hw0 O () O trivial [12] O xC
 refine J.f λ_ j38=>J.g (qAU O O O) O<|J.b O<|J.c j38<|J.Z O (λh127=>?_) (λh127=>?_)
 ·
  refine J.f λ_ j39=>J.k (qBP O O (λF' hF=>qFX F' (hK.mo hF) (hA.mono (Fa hF)) (hT.mono (Fa hF)))) O ?_
  rintro⟨gt,gj,gf,gv,w,pw,mw,Gw,kw⟩ hR
  try dsimp only at hR
  obtain ⟨hW0,hO,hpw,hpwn0,hkew0⟩:=hR
  dsimp only at hW0 hO hpw hpwn0 hkew0
  have hn135:qDN (lbE w.now) [97,108,105,99,101]= []:=by rw [hO.now];rfl
  have hkvw:=hO.kvL
  have hpwE:qA6 pw=pE:=by rw [←hpw];exact hO.h0
  refine J.b O<|J.c j39<|J.f λ_ j40=>J.b O<|J.g (qAB O O) O<|J.V 0 qGI qSY O O O O O<|J.a6 31 qSe O O O O O<|J.k (qBP O O (λF' hF=>qDV F' (hK.mo hF) w hW0.i (hW0.cells.mono (Fa hF)) (hW0.tsl.mono (Fa hF)) (hW0.tree.mono (hF (Gw) xD)) (hW0.p.nw.mono (hF (Gw) xD)) (hW0.p.nl.mono (hF (Gw) xD)) [97,108,105,99,101] xC)) O ?_
  rintro r135 hr135
  have hro135:=hr135.ro
  have hst135:=hr135.st
  have hrb135:=hr135.rb
  rw [hn135] at hro135⊢
  rw [hkvw] at hst135 hrb135⊢
  refine J.j 3 O<|J.a8 (qAD (i:=25) (l:= [Str [98,111,98],.slice r87.A ([(enW (OWS 0))]:List En).length r87.c,.slice r87.bA (bsd kvR (Sha.tagged 11 [[98,111,98]]) 0 (r87.s-0)).length r87.bc,.bool (qAP kvR (Sha.tagged 11 [[98,111,98]]) r87.s),Str (qA0 kvR (Sha.tagged 11 [[98,111,98]]) r87.s),Str (qA2 kvR (Sha.tagged 11 [[98,111,98]]) r87.s)]) (vs:= [Str [97,108,105,99,101],.slice r135.A ([]:List En).length r135.c,.slice r135.bA (bsd qBA (Sha.tagged 11 [[97,108,105,99,101]]) 0 (r135.s-0)).length r135.bc,.bool (qAP qBA (Sha.tagged 11 [[97,108,105,99,101]]) r135.s),Str (qA0 qBA (Sha.tagged 11 [[97,108,105,99,101]]) r135.s),Str (qA2 qBA (Sha.tagged 11 [[97,108,105,99,101]]) r135.s)]) O O O O O qE8 O O) O O λ_ _=>J.c j40<|J.L<|J.b O<|J.g (qAB O O) O<|J.V 1 qGI qSX O O O O O<|J.a6 31 qSd O O O O O<|J.j 2 O<|J.a5<|J.a4<|J.u (J.D j16 ?_)
  refine J.f λ_ j41=>J.j 2 O<|J.b9 25 qJp qE8 O O O O O<|J.k (qAI O O ent (Ct.useA [blk gm [Str [97,108,105,99,101],.map (some gq),.slice A105 ([(enW (OWS 0))]:List En).length c105] 195,m105] [qAK gq (.map #[] 0),blk gc [I (1:Nat),I (1:Nat),.slice A61 (([p]:List RhD).length+1) c61] 279,m61,blk gr [Ptr x.gs,Ptr gc,Ptr gk,I (0+1:Nat)] 93,mp,blk gd [I (1:Nat),I (1:Nat),.slice A71 (([pz]:List RhD).length+1) c71] 279,m71,blk gs [Ptr z.gs,Ptr gd,Ptr gl,I (0+1:Nat)] 93,mq,H2,F,blk g7 [Str [97,108,105,99,101],.slice r48.A ([]:List En).length r48.c,.slice r48.bA (bsd qBA (Sha.tagged 11 [[97,108,105,99,101]]) 0 (r48.s-0)).length r48.bc,.bool (qAP qBA (Sha.tagged 11 [[97,108,105,99,101]]) r48.s),Str (qA0 qBA (Sha.tagged 11 [[97,108,105,99,101]]) r48.s),Str (qA2 qBA (Sha.tagged 11 [[97,108,105,99,101]]) r48.s)] 89,r48.mb,r48.m,blk g9 [Str [97,108,105,99,101],.slice r79.A ([(enW (OWS 0))]:List En).length r79.c,.slice r79.bA (bsd kvR (Sha.tagged 11 [[97,108,105,99,101]]) 0 (r79.s-0)).length r79.bc,.bool (qAP kvR (Sha.tagged 11 [[97,108,105,99,101]]) r79.s),Str (qA0 kvR (Sha.tagged 11 [[97,108,105,99,101]]) r79.s),Str (qA2 kvR (Sha.tagged 11 [[97,108,105,99,101]]) r79.s)] 89,r79.mb,r79.m,blk g11 [Str [98,111,98],.slice r87.A ([(enW (OWS 0))]:List En).length r87.c,.slice r87.bA (bsd kvR (Sha.tagged 11 [[98,111,98]]) 0 (r87.s-0)).length r87.bc,.bool (qAP kvR (Sha.tagged 11 [[98,111,98]]) r87.s),Str (qA0 kvR (Sha.tagged 11 [[98,111,98]]) r87.s),Str (qA2 kvR (Sha.tagged 11 [[98,111,98]]) r87.s)] 89,r87.mb,r87.m,blk g13 [Str [97,108,105,99,101],.slice r95.A ([(enW (OWS 1))]:List En).length r95.c,.slice r95.bA (bsd kvZ (Sha.tagged 11 [[97,108,105,99,101]]) 0 (r95.s-0)).length r95.bc,.bool (qAP kvZ (Sha.tagged 11 [[97,108,105,99,101]]) r95.s),Str (qA0 kvZ (Sha.tagged 11 [[97,108,105,99,101]]) r95.s),Str (qA2 kvZ (Sha.tagged 11 [[97,108,105,99,101]]) r95.s)] 89,r95.mb,r95.m,blk g17 [Str [97,108,105,99,101],.slice r135.A ([]:List En).length r135.c,.slice r135.bA (bsd qBA (Sha.tagged 11 [[97,108,105,99,101]]) 0 (r135.s-0)).length r135.bc,.bool (qAP qBA (Sha.tagged 11 [[97,108,105,99,101]]) r135.s),Str (qA0 qBA (Sha.tagged 11 [[97,108,105,99,101]]) r135.s),Str (qA2 qBA (Sha.tagged 11 [[97,108,105,99,101]]) r135.s)] 89,mw,Gw,kw,blk gf [I (1:Nat),I (1:Nat),.slice (some ⟨gv,0,none⟩) 1 1] 279,blk gv [N64 (pw.ep),Str (pw.par),I (pw.dep:Nat),I (pw.aud:Nat),.slice pw.nsA pw.ns.length pw.nsc] 52,blk gt [Ptr w.gs,Ptr gf,Ptr gj,I (0:Nat)] 93,r135.mb,r135.m] (A':=λr:SeR=> [blk gm [Str [97,108,105,99,101],.map (some gq),.slice r.A (qFE [97,108,105,99,101] [97,108,105,99,101] 0 ([(enW (OWS 0))]:List En) ([]:List En)).length r.c] 195,r.m]) (new:=λ_=> []) (λF' hF=>qC7 F' m105 gm gq [97,108,105,99,101] A105 c105 ([(enW (OWS 0))]:List En) h105 xC [] ((qDL.nil pkK gq).at.mono (hF (qAK gq (.map #[] 0)) xD)) [97,108,105,99,101] r135.A ([]:List En).length r135.c ([]:List En) (hro135.sl.mono (Fa hF)) xC r135.bA _ r135.bc _ _ _ (Ptr gf) zEn false 0 (λF'' hl=>by have:=qF4 F'' (hK.mono ((hF F xD).trans hl)) gf 1 1 (some ⟨gv,0,none⟩) 1 1 [pw] ((qM9 gv pw).sl.mono ((hF (blk gv [N64 (pw.ep),Str (pw.par),I (pw.dep:Nat),I (pw.aud:Nat),.slice pw.nsA pw.ns.length pw.nsc] 52) xD).trans hl)) xC xC (qAG.blk0.mono ((hF (blk gf [I (1:Nat),I (1:Nat),.slice (some ⟨gv,0,none⟩) 1 1] 279) xD).trans hl)) (by show(qA6 pw).good;rw [hpwE];exact qQg) (hpwn0.mono ((hF Gw xD).trans hl)) (by show∀s∈pw.ns,_;rw [show pw.ns=qAn qBA 0 from congrArg Hd.nodes hpwE];exact qBu _) [97,108,105,99,101] xC r135.A ([]:List En).length r135.c ([]:List En) (hro135.sl.mono ((hF r135.m xD).trans hl)) (λz hz=>by cases hz) xC r135.bA r135.bc _ (hrb135.sl.mono ((hF r135.mb xD).trans hl)) _ _ _ (qBv qK5 (Sha.tagged_length _ _) hst135) (qBw qK5 _ _);rw [show([pw]:List RhD).getD (1-1) qAX=pw from rfl,qXu hst135 hpwE] at this;exact this)))) O ?_
  rintro⟨A146,c146,m146⟩ h146
  try dsimp only at h146
  have hsE:qDy [97,108,105,99,101] [97,108,105,99,101] 0 ([(enW (OWS 0))]:List En) ([]:List En)=13:=by unfold qDy;rw [if_neg (λh=>h rfl),if_neg (λh=>h rfl),if_pos xC]
  have hsL:(qFE [97,108,105,99,101] [97,108,105,99,101] 0 ([(enW (OWS 0))]:List En) ([]:List En))=([(enW (OWS 0))]:List En):=qBq hsE xC
  have hsB:qLy ([]:List Pk) [97,108,105,99,101] [97,108,105,99,101] 0 ([(enW (OWS 0))]:List En) ([]:List En)=false:=qCP hsE xC
  rw [hsL] at h146⊢
  rw [hsB,hsE]
  refine J.j 5 O<|J.c j41<|J.f λ_ j42=>J.b O<|J.b9 16 qJp qE8 O O O O O<|J.k (qAI O O ent (Ct.useA [blk gm [Str [97,108,105,99,101],.map (some gq),.slice A146 ([(enW (OWS 0))]:List En).length c146] 195,m146] [qAK gq (.map #[] 0),blk gc [I (1:Nat),I (1:Nat),.slice A61 (([p]:List RhD).length+1) c61] 279,m61,blk gr [Ptr x.gs,Ptr gc,Ptr gk,I (0+1:Nat)] 93,mp,blk gd [I (1:Nat),I (1:Nat),.slice A71 (([pz]:List RhD).length+1) c71] 279,m71,blk gs [Ptr z.gs,Ptr gd,Ptr gl,I (0+1:Nat)] 93,mq,H2,F,blk g7 [Str [97,108,105,99,101],.slice r48.A ([]:List En).length r48.c,.slice r48.bA (bsd qBA (Sha.tagged 11 [[97,108,105,99,101]]) 0 (r48.s-0)).length r48.bc,.bool (qAP qBA (Sha.tagged 11 [[97,108,105,99,101]]) r48.s),Str (qA0 qBA (Sha.tagged 11 [[97,108,105,99,101]]) r48.s),Str (qA2 qBA (Sha.tagged 11 [[97,108,105,99,101]]) r48.s)] 89,r48.mb,r48.m,blk g9 [Str [97,108,105,99,101],.slice r79.A ([(enW (OWS 0))]:List En).length r79.c,.slice r79.bA (bsd kvR (Sha.tagged 11 [[97,108,105,99,101]]) 0 (r79.s-0)).length r79.bc,.bool (qAP kvR (Sha.tagged 11 [[97,108,105,99,101]]) r79.s),Str (qA0 kvR (Sha.tagged 11 [[97,108,105,99,101]]) r79.s),Str (qA2 kvR (Sha.tagged 11 [[97,108,105,99,101]]) r79.s)] 89,r79.mb,r79.m,blk g11 [Str [98,111,98],.slice r87.A ([(enW (OWS 0))]:List En).length r87.c,.slice r87.bA (bsd kvR (Sha.tagged 11 [[98,111,98]]) 0 (r87.s-0)).length r87.bc,.bool (qAP kvR (Sha.tagged 11 [[98,111,98]]) r87.s),Str (qA0 kvR (Sha.tagged 11 [[98,111,98]]) r87.s),Str (qA2 kvR (Sha.tagged 11 [[98,111,98]]) r87.s)] 89,r87.mb,r87.m,blk g13 [Str [97,108,105,99,101],.slice r95.A ([(enW (OWS 1))]:List En).length r95.c,.slice r95.bA (bsd kvZ (Sha.tagged 11 [[97,108,105,99,101]]) 0 (r95.s-0)).length r95.bc,.bool (qAP kvZ (Sha.tagged 11 [[97,108,105,99,101]]) r95.s),Str (qA0 kvZ (Sha.tagged 11 [[97,108,105,99,101]]) r95.s),Str (qA2 kvZ (Sha.tagged 11 [[97,108,105,99,101]]) r95.s)] 89,r95.mb,r95.m,blk g17 [Str [97,108,105,99,101],.slice r135.A ([]:List En).length r135.c,.slice r135.bA (bsd qBA (Sha.tagged 11 [[97,108,105,99,101]]) 0 (r135.s-0)).length r135.bc,.bool (qAP qBA (Sha.tagged 11 [[97,108,105,99,101]]) r135.s),Str (qA0 qBA (Sha.tagged 11 [[97,108,105,99,101]]) r135.s),Str (qA2 qBA (Sha.tagged 11 [[97,108,105,99,101]]) r135.s)] 89,mw,Gw,kw,blk gf [I (1:Nat),I (1:Nat),.slice (some ⟨gv,0,none⟩) 1 1] 279,blk gv [N64 (pw.ep),Str (pw.par),I (pw.dep:Nat),I (pw.aud:Nat),.slice pw.nsA pw.ns.length pw.nsc] 52,blk gt [Ptr w.gs,Ptr gf,Ptr gj,I (0:Nat)] 93,r135.mb,r135.m] (A':=λr:SeR=> [blk gm [Str [97,108,105,99,101],.map (some gq),.slice r.A (qFE [97,108,105,99,101] [97,108,105,99,101] 1 ([(enW (OWS 0))]:List En) ([(enW (OWS 0))]:List En)).length r.c] 195,r.m]) (new:=λ_=> []) (λF' hF=>qC7 F' m146 gm gq [97,108,105,99,101] A146 c146 ([(enW (OWS 0))]:List En) h146 xC [] ((qDL.nil pkK gq).at.mono (hF (qAK gq (.map #[] 0)) xD)) [97,108,105,99,101] r79.A ([(enW (OWS 0))]:List En).length r79.c ([(enW (OWS 0))]:List En) (hro79.sl.mono (Fa hF)) xC r79.bA _ r79.bc _ _ _ (.pointer none) zEn false 1 (λF'' hl=>qGn F'' _ _ _ _ _ _)))) O ?_
  rintro⟨A152,c152,m152⟩ h152
  try dsimp only at h152
  have hsF:qDy [97,108,105,99,101] [97,108,105,99,101] 1 ([(enW (OWS 0))]:List En) ([(enW (OWS 0))]:List En)=1:=by unfold qDy;rw [if_neg (λh=>h rfl),if_pos xC]
  have hsM:(qFE [97,108,105,99,101] [97,108,105,99,101] 1 ([(enW (OWS 0))]:List En) ([(enW (OWS 0))]:List En))=([(enW (OWS 0))]:List En):=qBq hsF xC
  have hsC:qLy ([]:List Pk) [97,108,105,99,101] [97,108,105,99,101] 1 ([(enW (OWS 0))]:List En) ([(enW (OWS 0))]:List En)=false:=qCP hsF xC
  rw [hsM] at h152⊢
  rw [hsC,hsF]
  refine J.j 5 O<|J.c j42<|J.f λ_ j43=>J.b O<|J.k (qBP O O (λF' hF=>qDH F' gm gq [97,108,105,99,101] A152 ([(enW (OWS 0))]:List En).length c152 ([(enW (OWS 0))]:List En) (h152.sl.mono (Fa hF)) xC (qAG.blk0.mono (hF (blk gm [Str [97,108,105,99,101],.map (some gq),.slice A152 ([(enW (OWS 0))]:List En).length c152] 195) xD)))) O ?_
  rintro⟨A156,c156,m156⟩ h156
  try dsimp only at h156
  refine J.b O<|J.c j43<|J.f λ_ j44=>J.b O<|J.c j44<|J.f λ_ j45=>J.b O<|J.k (qBP O O (λF' hF=>qCB F' (hK.mo hF) 0 xB)) O ?_
  rintro⟨g158,m158⟩ h158
  try dsimp only at h158
  refine J.k (qAY O O (λF' hF=>qDO F' g158 (OWS 0) 0 (h158.mono (Fa hF)))) O λg159 _=>J.k (qAY O O (λF' hF=>qGY F' ((Wo.opn (OWS 0),Xm.root (OWS 0) 0,0):Pk))) O λg160 _=>J.c j45<|J.q λ_ j46=>J.b2 [blk gr [Ptr x.gs,Ptr gc,Ptr gk,I (0+1:Nat)] 93,blk g9 [Str [97,108,105,99,101],.slice r79.A ([(enW (OWS 0))]:List En).length r79.c,.slice r79.bA (bsd kvR (Sha.tagged 11 [[97,108,105,99,101]]) 0 (r79.s-0)).length r79.bc,.bool (qAP kvR (Sha.tagged 11 [[97,108,105,99,101]]) r79.s),Str (qA0 kvR (Sha.tagged 11 [[97,108,105,99,101]]) r79.s),Str (qA2 kvR (Sha.tagged 11 [[97,108,105,99,101]]) r79.s)] 89] [] (.y 0 (.y 1 (.y 2 (.y 3 (.y 4 (.y 5 (.e 6 (.y 7 (.y 8 (.y 9 (.y 10 (.y 11 .nil)))))))))))) Tryz.wide xF xD ?_
  refine J.G ?_
  refine J.G ?_
  refine J.p O (qAB O O) O O<|J.p O (qAA O O qGI O qSX O) O O<|J.p O (qAC 0 O O O qSd O) O O<|J.p O (qAW 1 O O O qJp qE8 O) O O<|J.a1 O (qAY O O (λF' hF=>qGV F' _ _ _ _ _ _ _ _ _ _ _)) O xD λg168 _=>J.G ?_
  refine J.c6 (.bool false) ?_
  refine J.c6 (I (1:Nat)) ?_
  refine J.b7 ?_
  refine J.b7 ?_
  refine J.b1<|J.u (J.D j46 ?_)
  refine J.f λ_ j47=>J.k (qAY O O (λF' hF=>(by have:=qJS F' (hA.mono (Fa hF)) (hT.mono (Fa hF)) [78,111,116,32,78,111,114,109,97,108] xC (by rw [qVU];decide);rw [qVU] at this;exact this))) O λg172 _=>J.j 5 O<|J.c j47<|J.f λ_ j48=>J.b O<|J.k (qBP O O (λF' hF=>qGW F')) O ?_
  rintro⟨A177,c177,m177⟩ h177
  try dsimp only at h177
  refine J.k (qBP O O (λF' hF=>qGX F' A177 0 c177 [] (h177.sl.mono (Fa hF)) (λv hv=>by cases hv) xC none (.no _ trivial (λu e=>by cases e)) [] false O 0 false O)) O ?_
  rintro⟨A178,c178,m178⟩ h178
  try dsimp only at h178
  refine J.j 9 O<|J.c j48<|J.q λ_ j49=>J.b2 [m156,blk g9 [Str [97,108,105,99,101],.slice r79.A ([(enW (OWS 0))]:List En).length r79.c,.slice r79.bA (bsd kvR (Sha.tagged 11 [[97,108,105,99,101]]) 0 (r79.s-0)).length r79.bc,.bool (qAP kvR (Sha.tagged 11 [[97,108,105,99,101]]) r79.s),Str (qA0 kvR (Sha.tagged 11 [[97,108,105,99,101]]) r79.s),Str (qA2 kvR (Sha.tagged 11 [[97,108,105,99,101]]) r79.s)] 89,r79.m] [] (.y 0 (.y 1 (.y 2 (.y 3 (.y 4 (.y 5 (.y 6 (.y 7 (.y 8 (.y 9 (.y 10 (.y 11 (.y 12 (.y 13 (.y 14 (.y 15 (.y 16 (.y 17 (.y 18 (.y 19 (.y 20 (.y 21 (.y 22 (.y 23 (.y 24 (.y 25 (.y 26 (.y 27 (.y 28 (.y 29 (.y 30 (.y 31 (.y 32 (.y 33 (.y 34 (.y 35 (.y 36 (.y 37 (.y 38 (.y 39 (.e 40 (.y 41 (.y 42 (.y 43 (.y 44 .nil))))))))))))))))))))))))))))))))))))))))))))) Tryz.wide xF xD ?_
  refine J.G ?_
  refine J.p O (qAq O O) O O<|J.G ?_
  refine J.a2 O (qAb O O) O O<|J.a2 O (qAb O O) O O<|J.a2 O ((qAU O O O).yes xC) O O<|J.c3 ?_
  refine J.G ?_
  refine J.a2 O (qAb O O) O O<|J.a2 O ((qAU O O O).yes xC) O O<|J.c3 ?_
  refine J.G ?_
  refine J.a2 O (qAb O O) O O<|J.a2 O (qAQ qB4 O O) O O<|J.a2 O ((qAU O O O).yes (O)) O O<|J.c3 ?_
  refine J.G ?_
  refine J.a2 O (qAb O O) O O<|J.a2 O (qAE O O O qB4 qAr h156.sl ju) O O<|J.a2 O (qAT O O qBQ qAr (m:=m156) xD (h156.sl.elem (qBh (l:=([(enW (OWS 0))]:List En)) (k:=0) ju)) O) O O<|J.a2 O (qAA O O qJ1 O qJu O) O O<|J.a2 O (qAC 1 O O O qMj O) O O<|J.a2 O (qAE O O O qB4 qAr hro79.sl ju) O O<|J.a2 O (qAT O O qBQ qAr (m:=r79.m) xD (hro79.sl.elem (qBh (l:=([(enW (OWS 0))]:List En)) (k:=0) ju)) O) O O<|J.a2 O ((qKe O O O xH (λw=>qZC (([(enW (OWS 0))]:List En).getD 0 qBG) (([(enW (OWS 0))]:List En).getD 0 qBG) w)).as (v':= .bool true) (by rw [decide_eq_true rfl])) O O<|J.c3 ?_
  refine J.G ?_
  refine J.a2 O (qAb O O) O O<|J.a2 O ((qAU O O O).yes xC) O O<|J.c3 ?_
  refine J.G ?_
  refine J.a2 O (qAb O O) O O<|J.a2 O ((qAU O O O).yes xC) O O<|J.c3 ?_
  refine J.G ?_
  refine J.a2 O (qAb O O) O O<|J.a2 O ((qAU O O O).yes xC) O O<|J.c3 ?_
  refine J.G ?_
  refine J.a2 O (qAb O O) O O<|J.d7 O (qAY O O (λF' hF=>qES F')) (Wan.is O O O O O) O O xD ?_
  intro g223 _
  refine J.a2 O (qAQ qB4 O O) O O<|J.a2 O ((qAU O O O).yes (O)) O O<|J.c3 ?_
  refine J.b7 ?_
  refine J.b1<|J.u (J.D j49 ?_)
  exact J.A<|J.E hw0 O () O trivial [12] O xC
 refine J.b3<|J.a4<|J.u (J.D j16 ?_)
 refine J.f λ_ j50=>J.j 2 O<|J.b9 25 qJp qE8 O O O O O<|J.k (qAI O O ent (Ct.useA [blk gm [Str [97,108,105,99,101],.map (some gq),.slice A105 ([(enW (OWS 0))]:List En).length c105] 195,m105] [qAK gq (.map #[] 0),blk gc [I (1:Nat),I (1:Nat),.slice A61 (([p]:List RhD).length+1) c61] 279,m61,blk gr [Ptr x.gs,Ptr gc,Ptr gk,I (0+1:Nat)] 93,mp,blk gd [I (1:Nat),I (1:Nat),.slice A71 (([pz]:List RhD).length+1) c71] 279,m71,blk gs [Ptr z.gs,Ptr gd,Ptr gl,I (0+1:Nat)] 93,mq,H2,F,blk g7 [Str [97,108,105,99,101],.slice r48.A ([]:List En).length r48.c,.slice r48.bA (bsd qBA (Sha.tagged 11 [[97,108,105,99,101]]) 0 (r48.s-0)).length r48.bc,.bool (qAP qBA (Sha.tagged 11 [[97,108,105,99,101]]) r48.s),Str (qA0 qBA (Sha.tagged 11 [[97,108,105,99,101]]) r48.s),Str (qA2 qBA (Sha.tagged 11 [[97,108,105,99,101]]) r48.s)] 89,r48.mb,r48.m,blk g9 [Str [97,108,105,99,101],.slice r79.A ([(enW (OWS 0))]:List En).length r79.c,.slice r79.bA (bsd kvR (Sha.tagged 11 [[97,108,105,99,101]]) 0 (r79.s-0)).length r79.bc,.bool (qAP kvR (Sha.tagged 11 [[97,108,105,99,101]]) r79.s),Str (qA0 kvR (Sha.tagged 11 [[97,108,105,99,101]]) r79.s),Str (qA2 kvR (Sha.tagged 11 [[97,108,105,99,101]]) r79.s)] 89,r79.mb,r79.m,blk g11 [Str [98,111,98],.slice r87.A ([(enW (OWS 0))]:List En).length r87.c,.slice r87.bA (bsd kvR (Sha.tagged 11 [[98,111,98]]) 0 (r87.s-0)).length r87.bc,.bool (qAP kvR (Sha.tagged 11 [[98,111,98]]) r87.s),Str (qA0 kvR (Sha.tagged 11 [[98,111,98]]) r87.s),Str (qA2 kvR (Sha.tagged 11 [[98,111,98]]) r87.s)] 89,r87.mb,r87.m,blk g13 [Str [97,108,105,99,101],.slice r95.A ([(enW (OWS 1))]:List En).length r95.c,.slice r95.bA (bsd kvZ (Sha.tagged 11 [[97,108,105,99,101]]) 0 (r95.s-0)).length r95.bc,.bool (qAP kvZ (Sha.tagged 11 [[97,108,105,99,101]]) r95.s),Str (qA0 kvZ (Sha.tagged 11 [[97,108,105,99,101]]) r95.s),Str (qA2 kvZ (Sha.tagged 11 [[97,108,105,99,101]]) r95.s)] 89,r95.mb,r95.m,blk g17 [Str [98,111,98],.slice r87.A ([(enW (OWS 0))]:List En).length r87.c,.slice r87.bA (bsd kvR (Sha.tagged 11 [[98,111,98]]) 0 (r87.s-0)).length r87.bc,.bool (qAP kvR (Sha.tagged 11 [[98,111,98]]) r87.s),Str (qA0 kvR (Sha.tagged 11 [[98,111,98]]) r87.s),Str (qA2 kvR (Sha.tagged 11 [[98,111,98]]) r87.s)] 89] (A':=λr:SeR=> [blk gm [Str [97,108,105,99,101],.map (some gq),.slice r.A (qFE [97,108,105,99,101] [98,111,98] 0 ([(enW (OWS 0))]:List En) ([(enW (OWS 0))]:List En)).length r.c] 195,r.m]) (new:=λ_=> []) (λF' hF=>qC7 F' m105 gm gq [97,108,105,99,101] A105 c105 ([(enW (OWS 0))]:List En) h105 xC [] ((qDL.nil pkK gq).at.mono (hF (qAK gq (.map #[] 0)) xD)) [98,111,98] r87.A ([(enW (OWS 0))]:List En).length r87.c ([(enW (OWS 0))]:List En) (hro87.sl.mono (Fa hF)) xC r87.bA _ r87.bc _ _ _ (Ptr gc) (enW (OWS 0)) true 0 (λF'' hl=>by have:=qF4 F'' (hK.mono ((hF F xD).trans hl)) gc 1 1 A61 2 c61 ([p]++ [yl]) (hrow61.sl.mono ((hF m61 xD).trans hl)) xC xC (qAG.blk0.mono ((hF (blk gc [I (1:Nat),I (1:Nat),.slice A61 (([p]:List RhD).length+1) c61] 279) xD).trans hl)) w2 (hynA.mono ((hF H2 xD).trans hl)) (by show∀s∈yl.ns,_;rw [show yl.ns=qAn kvR 0 from congrArg Hd.nodes hyt];exact qBu _) [98,111,98] xC r87.A ([(enW (OWS 0))]:List En).length r87.c ([(enW (OWS 0))]:List En) (hro87.sl.mono ((hF r87.m xD).trans hl)) (λz hz=>by rw [List.mem_singleton.1 hz];exact qGf _) xC r87.bA r87.bc _ (hrb87.sl.mono ((hF r87.mb xD).trans hl)) _ _ _ (qBv hkfR (Sha.tagged_length _ _) hst87) (qBw hkfR _ _);rw [show([p]++ [yl]:List RhD).getD (2-1) qAX=yl from rfl,qUi hkfR (Sha.tagged_length _ _) hst87 hyt (En.hist1 (enW (OWS 0)) O O) xC O kvR_B] at this;exact this)))) O ?_
 rintro⟨A146,c146,m146⟩ h146
 try dsimp only at h146
 have hsE:qDy [97,108,105,99,101] [98,111,98] 0 ([(enW (OWS 0))]:List En) ([(enW (OWS 0))]:List En)=20:=by unfold qDy;rw [if_pos xC]
 have hsL:(qFE [97,108,105,99,101] [98,111,98] 0 ([(enW (OWS 0))]:List En) ([(enW (OWS 0))]:List En))=([(enW (OWS 0))]:List En):=qBq hsE xC
 have hsB:qLy ([]:List Pk) [97,108,105,99,101] [98,111,98] 0 ([(enW (OWS 0))]:List En) ([(enW (OWS 0))]:List En)=false:=qCP hsE xC
 rw [hsL] at h146⊢
 rw [hsB,hsE]
 refine J.j 5 O<|J.c j50<|J.f λ_ j51=>J.b O<|J.b9 16 qJp qE8 O O O O O<|J.k (qAI O O ent (Ct.useA [blk gm [Str [97,108,105,99,101],.map (some gq),.slice A146 ([(enW (OWS 0))]:List En).length c146] 195,m146] [qAK gq (.map #[] 0),blk gc [I (1:Nat),I (1:Nat),.slice A61 (([p]:List RhD).length+1) c61] 279,m61,blk gr [Ptr x.gs,Ptr gc,Ptr gk,I (0+1:Nat)] 93,mp,blk gd [I (1:Nat),I (1:Nat),.slice A71 (([pz]:List RhD).length+1) c71] 279,m71,blk gs [Ptr z.gs,Ptr gd,Ptr gl,I (0+1:Nat)] 93,mq,H2,F,blk g7 [Str [97,108,105,99,101],.slice r48.A ([]:List En).length r48.c,.slice r48.bA (bsd qBA (Sha.tagged 11 [[97,108,105,99,101]]) 0 (r48.s-0)).length r48.bc,.bool (qAP qBA (Sha.tagged 11 [[97,108,105,99,101]]) r48.s),Str (qA0 qBA (Sha.tagged 11 [[97,108,105,99,101]]) r48.s),Str (qA2 qBA (Sha.tagged 11 [[97,108,105,99,101]]) r48.s)] 89,r48.mb,r48.m,blk g9 [Str [97,108,105,99,101],.slice r79.A ([(enW (OWS 0))]:List En).length r79.c,.slice r79.bA (bsd kvR (Sha.tagged 11 [[97,108,105,99,101]]) 0 (r79.s-0)).length r79.bc,.bool (qAP kvR (Sha.tagged 11 [[97,108,105,99,101]]) r79.s),Str (qA0 kvR (Sha.tagged 11 [[97,108,105,99,101]]) r79.s),Str (qA2 kvR (Sha.tagged 11 [[97,108,105,99,101]]) r79.s)] 89,r79.mb,r79.m,blk g11 [Str [98,111,98],.slice r87.A ([(enW (OWS 0))]:List En).length r87.c,.slice r87.bA (bsd kvR (Sha.tagged 11 [[98,111,98]]) 0 (r87.s-0)).length r87.bc,.bool (qAP kvR (Sha.tagged 11 [[98,111,98]]) r87.s),Str (qA0 kvR (Sha.tagged 11 [[98,111,98]]) r87.s),Str (qA2 kvR (Sha.tagged 11 [[98,111,98]]) r87.s)] 89,r87.mb,r87.m,blk g13 [Str [97,108,105,99,101],.slice r95.A ([(enW (OWS 1))]:List En).length r95.c,.slice r95.bA (bsd kvZ (Sha.tagged 11 [[97,108,105,99,101]]) 0 (r95.s-0)).length r95.bc,.bool (qAP kvZ (Sha.tagged 11 [[97,108,105,99,101]]) r95.s),Str (qA0 kvZ (Sha.tagged 11 [[97,108,105,99,101]]) r95.s),Str (qA2 kvZ (Sha.tagged 11 [[97,108,105,99,101]]) r95.s)] 89,r95.mb,r95.m,blk g17 [Str [98,111,98],.slice r87.A ([(enW (OWS 0))]:List En).length r87.c,.slice r87.bA (bsd kvR (Sha.tagged 11 [[98,111,98]]) 0 (r87.s-0)).length r87.bc,.bool (qAP kvR (Sha.tagged 11 [[98,111,98]]) r87.s),Str (qA0 kvR (Sha.tagged 11 [[98,111,98]]) r87.s),Str (qA2 kvR (Sha.tagged 11 [[98,111,98]]) r87.s)] 89] (A':=λr:SeR=> [blk gm [Str [97,108,105,99,101],.map (some gq),.slice r.A (qFE [97,108,105,99,101] [97,108,105,99,101] 1 ([(enW (OWS 0))]:List En) ([(enW (OWS 0))]:List En)).length r.c] 195,r.m]) (new:=λ_=> []) (λF' hF=>qC7 F' m146 gm gq [97,108,105,99,101] A146 c146 ([(enW (OWS 0))]:List En) h146 xC [] ((qDL.nil pkK gq).at.mono (hF (qAK gq (.map #[] 0)) xD)) [97,108,105,99,101] r79.A ([(enW (OWS 0))]:List En).length r79.c ([(enW (OWS 0))]:List En) (hro79.sl.mono (Fa hF)) xC r79.bA _ r79.bc _ _ _ (.pointer none) zEn false 1 (λF'' hl=>qGn F'' _ _ _ _ _ _)))) O ?_
 rintro⟨A152,c152,m152⟩ h152
 try dsimp only at h152
 have hsF:qDy [97,108,105,99,101] [97,108,105,99,101] 1 ([(enW (OWS 0))]:List En) ([(enW (OWS 0))]:List En)=1:=by unfold qDy;rw [if_neg (λh=>h rfl),if_pos xC]
 have hsM:(qFE [97,108,105,99,101] [97,108,105,99,101] 1 ([(enW (OWS 0))]:List En) ([(enW (OWS 0))]:List En))=([(enW (OWS 0))]:List En):=qBq hsF xC
 have hsC:qLy ([]:List Pk) [97,108,105,99,101] [97,108,105,99,101] 1 ([(enW (OWS 0))]:List En) ([(enW (OWS 0))]:List En)=false:=qCP hsF xC
 rw [hsM] at h152⊢
 rw [hsC,hsF]
 refine J.j 5 O<|J.c j51<|J.f λ_ j52=>J.b O<|J.k (qBP O O (λF' hF=>qDH F' gm gq [97,108,105,99,101] A152 ([(enW (OWS 0))]:List En).length c152 ([(enW (OWS 0))]:List En) (h152.sl.mono (Fa hF)) xC (qAG.blk0.mono (hF (blk gm [Str [97,108,105,99,101],.map (some gq),.slice A152 ([(enW (OWS 0))]:List En).length c152] 195) xD)))) O ?_
 rintro⟨A156,c156,m156⟩ h156
 try dsimp only at h156
 refine J.b O<|J.c j52<|J.f λ_ j53=>J.b O<|J.c j53<|J.f λ_ j54=>J.b O<|J.k (qBP O O (λF' hF=>qCB F' (hK.mo hF) 0 xB)) O ?_
 rintro⟨g158,m158⟩ h158
 try dsimp only at h158
 refine J.k (qAY O O (λF' hF=>qDO F' g158 (OWS 0) 0 (h158.mono (Fa hF)))) O λg159 _=>J.k (qAY O O (λF' hF=>qGY F' ((Wo.opn (OWS 0),Xm.root (OWS 0) 0,0):Pk))) O λg160 _=>J.c j54<|J.q λ_ j55=>J.b2 [blk gr [Ptr x.gs,Ptr gc,Ptr gk,I (0+1:Nat)] 93,blk g9 [Str [97,108,105,99,101],.slice r79.A ([(enW (OWS 0))]:List En).length r79.c,.slice r79.bA (bsd kvR (Sha.tagged 11 [[97,108,105,99,101]]) 0 (r79.s-0)).length r79.bc,.bool (qAP kvR (Sha.tagged 11 [[97,108,105,99,101]]) r79.s),Str (qA0 kvR (Sha.tagged 11 [[97,108,105,99,101]]) r79.s),Str (qA2 kvR (Sha.tagged 11 [[97,108,105,99,101]]) r79.s)] 89] [] (.y 0 (.y 1 (.y 2 (.y 3 (.y 4 (.y 5 (.e 6 (.y 7 (.y 8 (.y 9 (.y 10 (.y 11 .nil)))))))))))) Tryz.wide xF xD ?_
 refine J.G ?_
 refine J.G ?_
 refine J.p O (qAB O O) O O<|J.p O (qAA O O qGI O qSX O) O O<|J.p O (qAC 0 O O O qSd O) O O<|J.p O (qAW 1 O O O qJp qE8 O) O O<|J.a1 O (qAY O O (λF' hF=>qGV F' _ _ _ _ _ _ _ _ _ _ _)) O xD λg168 _=>J.G ?_
 refine J.c6 (.bool false) ?_
 refine J.c6 (I (1:Nat)) ?_
 refine J.b7 ?_
 refine J.b7 ?_
 refine J.b1<|J.u (J.D j55 ?_)
 refine J.f λ_ j56=>J.k (qAY O O (λF' hF=>(by have:=qJS F' (hA.mono (Fa hF)) (hT.mono (Fa hF)) [78,111,116,32,78,111,114,109,97,108] xC (by rw [qVU];decide);rw [qVU] at this;exact this))) O λg172 _=>J.j 5 O<|J.c j56<|J.f λ_ j57=>J.b O<|J.k (qBP O O (λF' hF=>qGW F')) O ?_
 rintro⟨A177,c177,m177⟩ h177
 try dsimp only at h177
 refine J.k (qBP O O (λF' hF=>qGX F' A177 0 c177 [] (h177.sl.mono (Fa hF)) (λv hv=>by cases hv) xC none (.no _ trivial (λu e=>by cases e)) [] false O 0 false O)) O ?_
 rintro⟨A178,c178,m178⟩ h178
 try dsimp only at h178
 refine J.j 9 O<|J.c j57<|J.q λ_ j58=>J.b2 [m156,blk g9 [Str [97,108,105,99,101],.slice r79.A ([(enW (OWS 0))]:List En).length r79.c,.slice r79.bA (bsd kvR (Sha.tagged 11 [[97,108,105,99,101]]) 0 (r79.s-0)).length r79.bc,.bool (qAP kvR (Sha.tagged 11 [[97,108,105,99,101]]) r79.s),Str (qA0 kvR (Sha.tagged 11 [[97,108,105,99,101]]) r79.s),Str (qA2 kvR (Sha.tagged 11 [[97,108,105,99,101]]) r79.s)] 89,r79.m] [] (.y 0 (.y 1 (.y 2 (.y 3 (.y 4 (.y 5 (.y 6 (.y 7 (.y 8 (.y 9 (.y 10 (.y 11 (.y 12 (.y 13 (.y 14 (.y 15 (.y 16 (.y 17 (.y 18 (.y 19 (.y 20 (.y 21 (.y 22 (.y 23 (.y 24 (.y 25 (.y 26 (.y 27 (.y 28 (.y 29 (.y 30 (.y 31 (.y 32 (.y 33 (.y 34 (.y 35 (.y 36 (.y 37 (.y 38 (.y 39 (.e 40 (.y 41 (.y 42 (.y 43 (.y 44 .nil))))))))))))))))))))))))))))))))))))))))))))) Tryz.wide xF xD ?_
 refine J.G ?_
 refine J.p O (qAq O O) O O<|J.G ?_
 refine J.a2 O (qAb O O) O O<|J.a2 O (qAb O O) O O<|J.a2 O ((qAU O O O).yes xC) O O<|J.c3 ?_
 refine J.G ?_
 refine J.a2 O (qAb O O) O O<|J.a2 O ((qAU O O O).yes xC) O O<|J.c3 ?_
 refine J.G ?_
 refine J.a2 O (qAb O O) O O<|J.a2 O (qAQ qB4 O O) O O<|J.a2 O ((qAU O O O).yes (O)) O O<|J.c3 ?_
 refine J.G ?_
 refine J.a2 O (qAb O O) O O<|J.a2 O (qAE O O O qB4 qAr h156.sl ju) O O<|J.a2 O (qAT O O qBQ qAr (m:=m156) xD (h156.sl.elem (qBh (l:=([(enW (OWS 0))]:List En)) (k:=0) ju)) O) O O<|J.a2 O (qAA O O qJ1 O qJu O) O O<|J.a2 O (qAC 1 O O O qMj O) O O<|J.a2 O (qAE O O O qB4 qAr hro79.sl ju) O O<|J.a2 O (qAT O O qBQ qAr (m:=r79.m) xD (hro79.sl.elem (qBh (l:=([(enW (OWS 0))]:List En)) (k:=0) ju)) O) O O<|J.a2 O ((qKe O O O xH (λw=>qZC (([(enW (OWS 0))]:List En).getD 0 qBG) (([(enW (OWS 0))]:List En).getD 0 qBG) w)).as (v':= .bool true) (by rw [decide_eq_true rfl])) O O<|J.c3 ?_
 refine J.G ?_
 refine J.a2 O (qAb O O) O O<|J.a2 O ((qAU O O O).yes xC) O O<|J.c3 ?_
 refine J.G ?_
 refine J.a2 O (qAb O O) O O<|J.a2 O ((qAU O O O).yes xC) O O<|J.c3 ?_
 refine J.G ?_
 refine J.a2 O (qAb O O) O O<|J.a2 O ((qAU O O O).yes xC) O O<|J.c3 ?_
 refine J.G ?_
 refine J.a2 O (qAb O O) O O<|J.d7 O (qAY O O (λF' hF=>qES F')) (Wan.is O O O O O) O O xD ?_
 intro g223 _
 refine J.a2 O (qAQ qB4 O O) O O<|J.a2 O ((qAU O O O).yes (O)) O O<|J.c3 ?_
 refine J.b7 ?_
 refine J.b1<|J.u (J.D j58 ?_)
 exact J.A<|J.E hw0 O () O trivial [12] O xC
end Go.Proofs.YtmemgokiolfdoaaGreatDoor