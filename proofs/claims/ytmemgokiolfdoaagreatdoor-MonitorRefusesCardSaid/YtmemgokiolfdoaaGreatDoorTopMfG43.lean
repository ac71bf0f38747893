/- A part of the proof. -/
import Derived.Test.YtmemgokiolfdoaaGreatDoorTopMfG40
import Derived.Test.YtmemgokiolfdoaaGreatDoorTopMfG41
import Derived.Test.YtmemgokiolfdoaaGreatDoorTopMfG42
set_option maxRecDepth 100000
set_option maxHeartbeats 1000000
set_option linter.unusedSimpArgs false
set_option linter.unusedVariables false
namespace Go.Proofs.YtmemgokiolfdoaaGreatDoor
open Go Go.Fw Go.Proofs.Tryz
attribute [local irreducible] SN.tagN Sha.tagged Xm.root Wo.opn
abbrev ALI:xA:= [97,108,105,99,101]
abbrev BOB:xA:= [98,111,98]
theorem opnN(s:xA)(h:s.length≤1000):Tn.nat (Wo.opn s)=SN.tagN 3 [Tn.nat s]:=by
 unfold Wo.opn
 exact(SN.tagN_eq 3 [s] (by simp only [jb,jt,jP,jD,jF];omega)).symm
theorem qJP:Tn.nat (Sha.tagged 11 [ALI])= [194,62,241,123,249,6,95,160,217,123,123,112,137,162,65,74]:=by
 rw [show Tn.nat (Sha.tagged 11 [ALI])=SN.tagN 11 [ALI.map UInt8.toNat] from(SN.tagN_eq 11 [ALI] xC).symm]
 decide+kernel
theorem qJO:Tn.nat (Sha.tagged 11 [BOB])= [5,150,249,201,224,131,101,239,77,22,183,200,93,26,157,228]:=by
 rw [show Tn.nat (Sha.tagged 11 [BOB])=SN.tagN 11 [BOB.map UInt8.toNat] from(SN.tagN_eq 11 [BOB] xC).symm]
 decide+kernel
theorem qFr:Tn.nat (qAO 0)= [105,72,128,237,61,5,50,182,223,75,24,94,147,245,19,39]:=by
 rw [show Tn.nat (qAO 0)=SN.tagN 15 [[0,0]] from(SN.tagN_eq 15 [[UInt8.ofNat (0/256),UInt8.ofNat 0]] xC).symm]
 decide+kernel
theorem qKn{a b:xA}{x y:List Nat}(ha:Tn.nat a=x)(hb:Tn.nat b=y)(h:x≠y):a≠b:=λe=>h (by rw [←ha,←hb,e])
theorem plNA:qAO 0≠Sha.tagged 11 [ALI]:=qKn qFr qJP xC
theorem plNB:qAO 0≠Sha.tagged 11 [BOB]:=qKn qFr qJO xC
theorem nmAB:Sha.tagged 11 [ALI]≠Sha.tagged 11 [BOB]:=qKn qJP qJO xC
theorem qLs{a:xA}{x:List Nat}(h:Tn.nat a=x):a.length=x.length:=by rw [←h];unfold Tn.nat;rw [jQ]
theorem qQF:Tn.nat (Xm.root (OWS 0) 0)= [2,125,178,249,55,105,152,37,172,19,169,25,194,138,67,152]:=qVH
theorem qWS:Tn.nat (Xm.root (OWS 1) 0)= [213,120,234,230,77,228,239,112,195,29,147,246,251,32,69,134]:=qYY
theorem qZH:enW (OWS 0)≠enW (OWS 1):=λe=>qKn qQF qWS xC (congrArg En.r e)
theorem qVC:Tn.nat (enW (OWS 0)).val= [86,181,162,170,106,188,85,80,152,195,212,176,46,133,114,128]:=by
 have hrl:(Xm.root (OWS 0) 0).length=16:=qLs qQF
 have h1:qBL (Wo.opn (OWS 0)) (Xm.root (OWS 0) 0) ((0:Nat):Int)=0:=if_pos ⟨xB,xB,Wo.opn_length _,hrl⟩
 have h2:qBi 1 (Wo.opn (OWS 0)) (Xm.root (OWS 0) 0) ((0:Nat):Int) qAj=0:=by unfold qBi;rw [if_neg xB,if_pos ⟨h1,rfl⟩]
 have h3:qBM (Wo.opn (OWS 0)) (Xm.root (OWS 0) 0) ((0:Nat):Int)=Wo.opn (OWS 0)++Xm.root (OWS 0) 0++ [UInt8.ofNat 0]:=if_pos ⟨xB,xB,Wo.opn_length _,hrl⟩
 have h4:(enW (OWS 0)).val=Sha.tagged 12 [[0,0,0,1]++(Wo.opn (OWS 0)++Xm.root (OWS 0) 0++ [0])++qAj]:=by
  show qCq 1 (Wo.opn (OWS 0)) (Xm.root (OWS 0) 0) ((0:Nat):Int) qAj=_
  unfold qCq qBO
  rw [if_pos h2,if_pos h2,h3];rfl
 rw [h4,show Tn.nat (Sha.tagged 12 [[0,0,0,1]++(Wo.opn (OWS 0)++Xm.root (OWS 0) 0++ [0])++qAj])=_ from(SN.tagN_eq 12 [_] (by
  simp only [jb,jt,jP,jA,jD,jF,hrl,Wo.opn_length,show qAj.length=16 from rfl]
  omega)).symm]
 rw [List.map_singleton,jN,jN,jN,jN,show(Wo.opn (OWS 0)).map UInt8.toNat=_ from opnN (OWS 0) xC,show(Xm.root (OWS 0) 0).map UInt8.toNat=_ from qVH]
 decide+kernel
theorem qPh:Tn.nat qPg= [205,164,236,248,46,79,48,136,202,86,119,10,132,45,85,0]:=by
 have h:=SN.tagN_eq 16 [EVE,qBM (Wo.opn SDA) (Xm.root SDA 3) ((3:Nat):Int)] (by
  rw [show qBM (Wo.opn SDA) (Xm.root SDA 3) ((3:Nat):Int)=_ from if_pos ⟨xB,xB,Wo.opn_length _,qDE⟩]
  simp only [jb,jt,jP,jA,jD,jF,qDE,Wo.opn_length,show EVE.length=3 from rfl]
  omega)
 rw [qLn,show Tn.nat (Sha.tagged 16 _)=_ from h.symm,show qBM (Wo.opn SDA) (Xm.root SDA 3) ((3:Nat):Int)=Wo.opn SDA++Xm.root SDA 3++ [UInt8.ofNat 3] from if_pos ⟨xB,xB,Wo.opn_length _,qDE⟩]
 rw [show [EVE,Wo.opn SDA++Xm.root SDA 3++ [UInt8.ofNat 3]].map (λl:xA=>l.map UInt8.toNat)= [EVE.map UInt8.toNat,(Wo.opn SDA++Xm.root SDA 3++ [UInt8.ofNat 3]).map UInt8.toNat] from rfl,jN,jN,show(Wo.opn SDA).map UInt8.toNat=_ from opnN SDA xC,show(Xm.root SDA 3).map UInt8.toNat=_ from qYZ]
 decide+kernel
def kvR:List Sm.PR:=Sm.putP (Sm.putP qBA (Sha.tagged 11 [ALI]) (enW (OWS 0)).val) (Sha.tagged 11 [BOB]) (enW (OWS 0)).val
theorem qNo:kvR= [(qAO 0,qPg),(Sha.tagged 11 [ALI],(enW (OWS 0)).val),(Sha.tagged 11 [BOB],(enW (OWS 0)).val)]:=by
 unfold kvR qBA
 simp only [Sm.putP,plNA,plNB,nmAB,if_false]
theorem qXR:kvR.map Tn.natP= [([105,72,128,237,61,5,50,182,223,75,24,94,147,245,19,39],[205,164,236,248,46,79,48,136,202,86,119,10,132,45,85,0]),([194,62,241,123,249,6,95,160,217,123,123,112,137,162,65,74],[86,181,162,170,106,188,85,80,152,195,212,176,46,133,114,128]),([5,150,249,201,224,131,101,239,77,22,183,200,93,26,157,228],[86,181,162,170,106,188,85,80,152,195,212,176,46,133,114,128])]:=by
 rw [qNo]
 show [(Tn.nat _,Tn.nat _),(Tn.nat _,Tn.nat _),(Tn.nat _,Tn.nat _)]=_
 rw [qFr,qPh,qJP,qVC,qJO]
theorem qXS:qBA.map Tn.natP= [([105,72,128,237,61,5,50,182,223,75,24,94,147,245,19,39],[205,164,236,248,46,79,48,136,202,86,119,10,132,45,85,0])]:=by
 show [(Tn.nat _,Tn.nat _)]=_
 rw [qFr,qPh]
theorem qQ3:Sm.nd 128 qBA≠Sm.nd 128 kvR:=by
 have hvA:=qLs qVC
 have hvE:=qLs qPh
 have hs1:Tn.small qBA:=λp hp=>by
  obtain rfl:=List.mem_singleton.1 hp
  exact⟨jX (zo (qLs qFr)) xC,jX (zo hvE) xC⟩
 have hs2:Tn.small kvR:=λp hp=>by
  rw [qNo] at hp
  simp only [zR,zC,or_false] at hp
  rcases hp with rfl|rfl|rfl
  · exact⟨jX (zo (qLs qFr)) xC,jX (zo hvE) xC⟩
  · exact⟨jX (zo (qLs qJP)) xC,jX (zo hvA) xC⟩
  · exact⟨jX (zo (qLs qJO)) xC,jX (zo hvA) xC⟩
 refine qKn (Tn.ndN_eq 128 _ hs1).symm (Tn.ndN_eq 128 _ hs2).symm ?_
 rw [qXS,qXR]
 decide+kernel
end Go.Proofs.YtmemgokiolfdoaaGreatDoor
namespace Go.Proofs.YtmemgokiolfdoaaGreatDoor
open Go Go.Fw Go.Proofs.Tryz
abbrev SvR.two(x:SvR)(y1 y2:SbR):SvR:=(x.put [97,108,105,99,101] (OWS 0) y1).put [98,111,98] (OWS 0) y2
theorem qLe.kvL{x:SvR}(h:qLe x):x.kvL=qBA:=by show x.kv.getD (x.tg.length-1) []=_;rw [h.tg1];exact h.k0
theorem qVv{x:SvR}(h:qLe x){y1 y2:SbR}(hI:SvI (x.two y1 y2))(r:StR×WrR):((x.two y1 y2).pub r).kvL=kvR:=by
 rw [SvR.pub_kvL _ r hI.tk]
 have hc:(x.two y1 y2).cl= [⟨Sha.tagged 11 [[97,108,105,99,101]],(enW (OWS 0)).val⟩,⟨Sha.tagged 11 [[98,111,98]],(enW (OWS 0)).val⟩]:=by show(x.cl++ [_])++ [_]=_;rw [h.cl];rfl
 have hb:qCt [(⟨Sha.tagged 11 [[97,108,105,99,101]],(enW (OWS 0)).val⟩:Chg),⟨Sha.tagged 11 [[98,111,98]],(enW (OWS 0)).val⟩] 0 0= [⟨Sha.tagged 11 [[97,108,105,99,101]],(enW (OWS 0)).val⟩,⟨Sha.tagged 11 [[98,111,98]],(enW (OWS 0)).val⟩]:=by
  unfold qCt
  rw [yI (by rw [qW7];rfl),yI (by rw [qW7];rfl)];rfl
 have hl:(x.two y1 y2).kvL=qBA:=h.kvL
 rw [hc,show(x.two y1 y2).dp=0 from h.dp,hl]
 show kvC _ (qCt _ 0 0)=_
 rw [hb];rfl
theorem qSx{x:SvR}(h:qLe x){y1 y2:SbR}(hI:SvI (x.two y1 y2)){m G G2:Hp}{r:StR×WrR}(hp:PbP m G G2 (x.two y1 y2) r):qDN (lbE ((x.two y1 y2).pub r).now) [97,108,105,99,101]= [enW (OWS 0)]:=by
 refine(qL3 hp hI _).trans ?_
 show qDN (lbE ((x.nxt++ [_])++ [_])) _=_
 rw [h.nxt]
 exact if_pos O
theorem qSw{x:SvR}(h:qLe x){y1 y2:SbR}(hI:SvI (x.two y1 y2)){m G G2:Hp}{r:StR×WrR}(hp:PbP m G G2 (x.two y1 y2) r):qDN (lbE ((x.two y1 y2).pub r).now) [98,111,98]= [enW (OWS 0)]:=by
 refine(qL3 hp hI _).trans ?_
 show qDN (lbE ((x.nxt++ [_])++ [_])) _=_
 rw [h.nxt]
 exact(if_neg (show¬([97,108,105,99,101]:xA)= [98,111,98] by decide)).trans (if_pos O)
theorem qSv{x:SvR}(h:qLe x)(y1 y2:SbR):(x.two y1 y2).bk.e+qCm ((x.two y1 y2).no++ [cmB (x.two y1 y2).no.length (x.two y1 y2).hd.length])≤(x.two y1 y2).bk.size:=by
 show x.bk.e+qCm (((x.no++ [_])++ [_])++ [cmB _ _])≤x.bk.size
 rw [qBx,qN2,qBx,qBx,h.no,h.e0,h.sz]
 have:=qHC [97,108,105,99,101] (OWS 0) xC
 have:=qHC [98,111,98] (OWS 0) xC
 have e:qCm []=0:=rfl
 rw [e];omega
theorem qQs{x:SvR}(h:qLe x)(y:SbR):(x.put [97,108,105,99,101] (OWS 0) y).no.length<256∧qCo (x.put [97,108,105,99,101] (OWS 0) y).nxt [98,111,98]=none∧qDN (lbE (x.put [97,108,105,99,101] (OWS 0) y).now) [98,111,98]= []:=by
 refine⟨?_,?_,?_⟩
 · show(x.no++ [_]).length<256;rw [h.no];decide
 · show qCo (x.nxt++ [_]) _=none;rw [h.nxt];exact if_neg (show¬([97,108,105,99,101]:xA)= [98,111,98] by decide)
 · show qDN (lbE x.now) _= [];rw [h.now];rfl
theorem nBob:normal [98,111,98]=([98,111,98],0):=qER (l:= [98,111,98]) xC xC xC
theorem qVU:normal [78,111,116,32,78,111,114,109,97,108]=([],5):=qER (l:= [78,111,116,32,78,111,114,109,97,108]) xC xC xC
theorem qU0:Sm.getP qBA (Sha.tagged 11 [[97,108,105,99,101]])=none:=by
 show(if qAO 0=_ then _ else _)=_
 rw [if_neg plNA];rfl
section
variable{yl:RhD}{s0:Nat}(hst:qIo qBA (Sha.tagged 11 [[97,108,105,99,101]]) 0 s0)
include hst
theorem qXu(hy:qA6 yl=pE):qIg (qCM yl.ns ((yl.dep:Nat):Int)) (Sha.tagged 11 [[97,108,105,99,101]]) [] (bsd qBA (Sha.tagged 11 [[97,108,105,99,101]]) 0 (s0-0)) (qAP qBA (Sha.tagged 11 [[97,108,105,99,101]]) s0) (qA0 qBA (Sha.tagged 11 [[97,108,105,99,101]]) s0) (qA2 qBA (Sha.tagged 11 [[97,108,105,99,101]]) s0)=(zEn,false,0):=by
 have e1:yl.ns=qAn qBA 0:=congrArg Hd.nodes hy
 have e2:yl.dep=0:=zw (congrArg Hd.dep hy)
 refine qZP O ?_
 have e:=qL4 qK5 (Sha.tagged_length _ _) hst
 rw [qU0,Sm.ndB_zero] at e
 rw [e1,e2,(qGU qK5 (d:=0) xC).2]
 exact e
theorem qXt(hf:qCF kvR){e:Nat}{par:xA}(hy:qA6 yl=⟨e,par,((0:Nat):Int),((1:Nat):Int),qAn kvR 0⟩):qIg (qCM yl.ns ((yl.dep:Nat):Int)) (Sha.tagged 11 [[97,108,105,99,101]]) [] (bsd qBA (Sha.tagged 11 [[97,108,105,99,101]]) 0 (s0-0)) (qAP qBA (Sha.tagged 11 [[97,108,105,99,101]]) s0) (qA0 qBA (Sha.tagged 11 [[97,108,105,99,101]]) s0) (qA2 qBA (Sha.tagged 11 [[97,108,105,99,101]]) s0)=(zEn,false,18):=by
 have e1:yl.ns=qAn kvR 0:=congrArg Hd.nodes hy
 have e2:yl.dep=0:=zw (congrArg Hd.dep hy)
 refine qZO O ?_
 unfold qEn
 rw [qEL qK5 (Sha.tagged_length _ _) hst,Sm.ndB_zero,e1,e2,(qGU hf (d:=0) xC).2,decide_eq_false qQ3,Bool.and_false]
end
end Go.Proofs.YtmemgokiolfdoaaGreatDoor