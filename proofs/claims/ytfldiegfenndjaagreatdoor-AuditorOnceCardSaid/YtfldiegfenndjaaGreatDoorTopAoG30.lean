/- A part of the proof. -/
import Derived.Test.YtfldiegfenndjaaGreatDoorTopAoG28
import Derived.Test.YtfldiegfenndjaaGreatDoorTopAoG29
import Derived.Test.YtfldiegfenndjaaGreatDoorTopAoG26
import Derived.Test.YtfldiegfenndjaaGreatDoorTopAoG24
set_option linter.unusedSimpArgs false
set_option linter.unusedVariables false
namespace Go.Proofs.YtfldiegfenndjaaGreatDoor
open Go Go.Fw Go.Proofs.Tryz
set_option maxRecDepth 100000
set_option maxHeartbeats 1000000
attribute [local irreducible] SN.tagN Sha.tagged SN.sumN
def ndN2(m:List Nat):List Nat:=Tn.nat (Sha.numB (UInt64.ofNat m.length) 2)++m
theorem qSb(s:List UInt8):Tn.nat (ndB s)=ndN2 (Tn.nat s):=by
 unfold ndB ndN2 Tn.nat
 rw [jM,jK]
theorem qLI: ∀(l:List (List UInt8)),Tn.nat ((l.map ndB).flatten)=((l.map Tn.nat).map ndN2).flatten
 | []=>rfl
 |s::r=>by
  have:=qLI r
  unfold Tn.nat at this⊢
  rw [jR,jW,jM,this]
  have h2:=qSb s
  unfold Tn.nat at h2
  rw [h2];rfl
def qRF(ep:Nat)(par:List Nat)(d a:Nat)(M:List (List Nat)):List Nat:=Tn.nat (Sha.numB (UInt64.ofNat ep) 4)++par++ [d%256]++ [a%256]++(M.map ndN2).flatten
theorem qLO{ep:Nat}{par:List UInt8}{d a:Nat}{ns:List (List UInt8)}{P:List Nat}{M:List (List Nat)}(hp:Tn.nat par=P)(h:ns.map Tn.nat=M):Tn.nat (⟨ep,par,((d:Nat):Int),((a:Nat):Int),ns⟩:Hd).bytes=qRF ep P d a M:=by
 have e: ∀k:Nat,(UInt8.ofNat k).toNat=k%256:=λk=>zR
 unfold Hd.bytes qRF
 dsimp only
 rw [←h,←hp,←qLI]
 unfold Tn.nat
 rw [jM,jM,jM,jM,zo,zo,e,e,jZ,jZ]
theorem digN{x:Hd}{n:List Nat}(he:x.err=0)(hb:Tn.nat x.bytes=n)(hl:n.length≤1000):Tn.nat x.dig=SN.tagN 14 [n]:=by
 unfold Hd.dig
 rw [if_pos he,←hb]
 have h1:x.bytes.length≤1000:=by rw [←hb] at hl;simpa [Tn.nat] using hl
 exact(SN.tagN_eq 14 [x.bytes] (by simp only [jW,jw,jS,jD,jH];omega)).symm
theorem qFT{l:List Sm.PR}(h16: ∀p∈l,p.1.length=16):qAN l 1= [Sm.nd 127 (Sm.side 127 true l),Sm.nd 127 (Sm.side 127 false l)]:=by
 have e0:Sm.bel l (kF 0 1) 1=Sm.side 127 true l:=by
  have:=Sm.bel_half h16 (b:=kF 0 0) (c:=kF 0 1) (qDs 0 0) (qDs 0 1) (d:=0) (by decide) true (by decide+kernel)
  rw [Sm.bel_zero] at this;exact this
 have e1:Sm.bel l (kF 1 1) 1=Sm.side 127 false l:=by
  have:=Sm.bel_half h16 (b:=kF 0 0) (c:=kF 1 1) (qDs 0 0) (qDs 1 1) (d:=0) (by decide) false (by decide+kernel)
  rw [Sm.bel_zero] at this;exact this
 show [Sm.nd 127 (Sm.bel l (kF 0 1) 1),Sm.nd 127 (Sm.bel l (kF 1 1) 1)]=_
 rw [e0,e1]
attribute [local irreducible] Sm.nd Hd.dig
theorem qPi:Tn.nat qAc=List.replicate 16 0:=by decide
theorem qE6{l:List Sm.PR}(h:Tn.small l)(f:Nat)(b:Bool):Tn.small (Sm.side f b l):=λp hp=>h p (List.mem_filter.1 hp).1
theorem pr_p:(rv0).map Tn.natP= [([128,0,0,0,0,0,0,0,0,0,0,0,0,0,0,0],[111,108,100])]:=by decide+kernel
theorem qM8:Tn.small (rv0):=by unfold Tn.small;decide+kernel
theorem qT1:Tn.nat (Sm.nd 127 (Sm.side 127 true (rv0)))= [0]:=by
 rw [←Tn.ndN_eq 127 _ (qE6 qM8 127 true),←Tn.sideN_eq,pr_p]
 decide+kernel
theorem qT0:Tn.nat (Sm.nd 127 (Sm.side 127 false (rv0)))= [1,103,158,188,251,66,118,225,65,81,120,112,100,249,191,108,101]:=by
 rw [←Tn.ndN_eq 127 _ (qE6 qM8 127 false),←Tn.sideN_eq,pr_p]
 decide+kernel
theorem qSy:Tn.nat (pH).dig= [156,255,246,91,83,25,19,199,10,127,90,78,171,168,88,135]:=by
 have hn:(pH).nodes.map Tn.nat= [[0],[1,103,158,188,251,66,118,225,65,81,120,112,100,249,191,108,101]]:=by
  show List.map Tn.nat (qAN (rv0) 1)=_
  rw [qFT (qDd).k16,jR,zo,qT1,qT0]
 refine(digN qKn (qLO (ep:=0) (d:=1) (a:=0) qPi hn) (by decide+kernel)).trans ?_
 decide+kernel
theorem qTk:(qBV 0).map Tn.natP= [([128,0,0,0,0,0,0,0,0,0,0,0,0,0,0,0],[110,101,119]),([0,0,0,0,0,0,0,0,0,0,0,0,0,0,0,0],[110,101,119])]:=by decide+kernel
theorem qKc:Tn.small (qBV 0):=by unfold Tn.small;decide+kernel
theorem qSZ:Tn.nat (Sm.nd 127 (Sm.side 127 true (qBV 0)))= [1,172,89,29,137,127,124,134,145,116,111,219,105,237,238,211,99]:=by
 rw [←Tn.ndN_eq 127 _ (qE6 qKc 127 true),←Tn.sideN_eq,qTk]
 decide+kernel
theorem qSY:Tn.nat (Sm.nd 127 (Sm.side 127 false (qBV 0)))= [1,50,187,158,184,156,30,107,50,151,128,236,182,93,17,179,122]:=by
 rw [←Tn.ndN_eq 127 _ (qE6 qKc 127 false),←Tn.sideN_eq,qTk]
 decide+kernel
theorem qI8:Tn.nat (hH 0).dig= [16,149,204,92,123,208,8,234,5,148,205,39,236,16,34,15]:=by
 have hn:(hH 0).nodes.map Tn.nat= [[1,172,89,29,137,127,124,134,145,116,111,219,105,237,238,211,99],[1,50,187,158,184,156,30,107,50,151,128,236,182,93,17,179,122]]:=by
  show List.map Tn.nat (qAN (qBV 0) 1)=_
  rw [qFT ((qDc 0)).k16,jR,zo,qSZ,qSY]
 refine(digN (qCN 0) (qLO (ep:=1) (d:=1) (a:=0) qSy hn) (by decide+kernel)).trans ?_
 decide+kernel
theorem qTj:(qBV 1).map Tn.natP= [([128,0,0,0,0,0,0,0,0,0,0,0,0,0,0,0],[111,108,100]),([0,1,0,0,0,0,0,0,0,0,0,0,0,0,0,0],[110,101,119]),([128,1,0,0,0,0,0,0,0,0,0,0,0,0,0,0],[110,101,119])]:=by decide+kernel
theorem qKb:Tn.small (qBV 1):=by unfold Tn.small;decide+kernel
theorem qSX:Tn.nat (Sm.nd 127 (Sm.side 127 true (qBV 1)))= [1,80,141,132,154,118,247,95,24,57,115,22,117,148,3,147,234]:=by
 rw [←Tn.ndN_eq 127 _ (qE6 qKb 127 true),←Tn.sideN_eq,qTj]
 decide+kernel
theorem qSW:Tn.nat (Sm.nd 127 (Sm.side 127 false (qBV 1)))= [2,60,142,123,102,210,95,192,195,158,227,181,182,221,240,150,18]:=by
 rw [←Tn.ndN_eq 127 _ (qE6 qKb 127 false),←Tn.sideN_eq,qTj]
 decide+kernel
theorem qI7:Tn.nat (hH 1).dig= [212,43,35,236,192,139,244,40,42,88,242,207,181,188,226,13]:=by
 have hn:(hH 1).nodes.map Tn.nat= [[1,80,141,132,154,118,247,95,24,57,115,22,117,148,3,147,234],[2,60,142,123,102,210,95,192,195,158,227,181,182,221,240,150,18]]:=by
  show List.map Tn.nat (qAN (qBV 1) 1)=_
  rw [qFT ((qDc 1)).k16,jR,zo,qSX,qSW]
 refine(digN (qCN 1) (qLO (ep:=1) (d:=1) (a:=0) qSy hn) (by decide+kernel)).trans ?_
 decide+kernel
theorem qTi:(qBV 2).map Tn.natP= [([128,0,0,0,0,0,0,0,0,0,0,0,0,0,0,0],[111,108,100]),([0,2,0,0,0,0,0,0,0,0,0,0,0,0,0,0],[110,101,119]),([128,2,0,0,0,0,0,0,0,0,0,0,0,0,0,0],[110,101,119])]:=by decide+kernel
theorem qKa:Tn.small (qBV 2):=by unfold Tn.small;decide+kernel
theorem qSV:Tn.nat (Sm.nd 127 (Sm.side 127 true (qBV 2)))= [1,52,255,143,207,123,73,13,13,64,155,58,87,151,145,247,112]:=by
 rw [←Tn.ndN_eq 127 _ (qE6 qKa 127 true),←Tn.sideN_eq,qTi]
 decide+kernel
theorem qSU:Tn.nat (Sm.nd 127 (Sm.side 127 false (qBV 2)))= [2,247,153,200,93,201,14,173,100,60,12,150,165,92,78,59,153]:=by
 rw [←Tn.ndN_eq 127 _ (qE6 qKa 127 false),←Tn.sideN_eq,qTi]
 decide+kernel
theorem qI6:Tn.nat (hH 2).dig= [27,149,136,26,0,80,108,133,26,104,57,184,62,181,58,68]:=by
 have hn:(hH 2).nodes.map Tn.nat= [[1,52,255,143,207,123,73,13,13,64,155,58,87,151,145,247,112],[2,247,153,200,93,201,14,173,100,60,12,150,165,92,78,59,153]]:=by
  show List.map Tn.nat (qAN (qBV 2) 1)=_
  rw [qFT ((qDc 2)).k16,jR,zo,qSV,qSU]
 refine(digN (qCN 2) (qLO (ep:=1) (d:=1) (a:=0) qSy hn) (by decide+kernel)).trans ?_
 decide+kernel
end Go.Proofs.YtfldiegfenndjaaGreatDoor
namespace Go.Proofs.YtfldiegfenndjaaGreatDoor
open Go Go.Fw Go.Proofs.Tryz
set_option maxRecDepth 100000
set_option maxHeartbeats 1000000
attribute [local irreducible] SN.tagN Sha.tagged hH
def mkL(b i:Nat):List UInt8:=mkB 1 b (hH (UInt8.ofNat i)).dig
def txm(nr b i:Nat):List UInt8:=T1 1 nr (mkL b i)
theorem qDU(b i:Nat):(mkL b i).length=21:=by
 unfold mkL;rw [qHm,qBs (qCN _)]
theorem qPo(b i:Nat):(mkL b i).length≤39:=by rw [qDU];decide
theorem qJe{nr b i:Nat}(h:nr<65536):(txm nr b i).length=64:=qLX _ (by decide) h
def mkN(b i:Nat):List Nat:= [0,0,0,1,b]++([[16,149,204,92,123,208,8,234,5,148,205,39,236,16,34,15],[212,43,35,236,192,139,244,40,42,88,242,207,181,188,226,13],[27,149,136,26,0,80,108,133,26,104,57,184,62,181,58,68]]:List (List Nat)).getD i []
theorem qNv{b i:Nat}(hb:b<2)(hi:i<3):(mkL b i).map UInt8.toNat=mkN b i:=by
 have hd:((hH (UInt8.ofNat i)).dig).map UInt8.toNat=([[16,149,204,92,123,208,8,234,5,148,205,39,236,16,34,15],[212,43,35,236,192,139,244,40,42,88,242,207,181,188,226,13],[27,149,136,26,0,80,108,133,26,104,57,184,62,181,58,68]]:List (List Nat)).getD i []:=by
  match i,hi with
  |0,_=>exact qI8
  |1,_=>exact qI7
  |2,_=>exact qI6
 unfold mkL mkB mkN
 rw [jM,jM,hd]
 match b,hb with
 |0,_=>rfl
 |1,_=>rfl
def nmM:List (List Nat):= [[155,96,25,252,14,119,46,191],
 [17,51,185,7,134,101,163,140],
 [233,1,171,196,188,145,176,76],
 [140,238,114,124,77,73,56,211],
 [110,112,132,85,164,61,202,61],
 [240,255,51,160,77,237,72,40],
 [15,163,196,9,250,90,141,63],
 [99,148,180,168,230,49,169,196],
 [111,66,6,147,254,89,119,73],
 [234,211,89,136,76,0,2,245],
 [184,155,88,182,240,152,147,31],
 [85,172,238,95,189,217,183,33]]
def hdM:List (List Nat):= [[0,0,0,1,0,0,0,1,21,155,96,25,252,14,119,46,191,0,0,0,1,0,16,149,204,92,123,208,8,234,5,148,205,39,236,16,34,15],
 [0,0,0,1,0,0,0,1,21,17,51,185,7,134,101,163,140,0,0,0,1,0,212,43,35,236,192,139,244,40,42,88,242,207,181,188,226,13],
 [0,0,0,1,0,0,0,1,21,233,1,171,196,188,145,176,76,0,0,0,1,0,27,149,136,26,0,80,108,133,26,104,57,184,62,181,58,68],
 [0,0,0,1,0,0,0,1,21,140,238,114,124,77,73,56,211,0,0,0,1,1,16,149,204,92,123,208,8,234,5,148,205,39,236,16,34,15],
 [0,0,0,1,0,0,0,1,21,110,112,132,85,164,61,202,61,0,0,0,1,1,212,43,35,236,192,139,244,40,42,88,242,207,181,188,226,13],
 [0,0,0,1,0,0,0,1,21,240,255,51,160,77,237,72,40,0,0,0,1,1,27,149,136,26,0,80,108,133,26,104,57,184,62,181,58,68],
 [0,0,0,1,0,1,0,1,21,15,163,196,9,250,90,141,63,0,0,0,1,0,16,149,204,92,123,208,8,234,5,148,205,39,236,16,34,15],
 [0,0,0,1,0,1,0,1,21,99,148,180,168,230,49,169,196,0,0,0,1,0,212,43,35,236,192,139,244,40,42,88,242,207,181,188,226,13],
 [0,0,0,1,0,1,0,1,21,111,66,6,147,254,89,119,73,0,0,0,1,0,27,149,136,26,0,80,108,133,26,104,57,184,62,181,58,68],
 [0,0,0,1,0,1,0,1,21,234,211,89,136,76,0,2,245,0,0,0,1,1,16,149,204,92,123,208,8,234,5,148,205,39,236,16,34,15],
 [0,0,0,1,0,1,0,1,21,184,155,88,182,240,152,147,31,0,0,0,1,1,212,43,35,236,192,139,244,40,42,88,242,207,181,188,226,13],
 [0,0,0,1,0,1,0,1,21,85,172,238,95,189,217,183,33,0,0,0,1,1,27,149,136,26,0,80,108,133,26,104,57,184,62,181,58,68]]
theorem qTx: ∀nr:Fin 2,∀b:Fin 2,∀i:Fin 3,(SN.tagN 7 [[0,0,0,1],[0,nr.val],mkN b.val i.val]).take 8=nmM.getD (nr.val*6+b.val*3+i.val) []:=by decide+kernel
theorem qLk: ∀k:Fin 12,∀n:Fin 38,(SN.tagN 8 [(hdM.getD k.val []).take n.val++List.replicate (56-n.val) 0]).take 8≠List.replicate 8 0:=by decide+kernel
theorem qJP(tn:UInt64)(nr:Nat)(s:List UInt8)(hs:s.length=21):T1 tn nr s=(Sha.numB tn 4++(Sha.numB (UInt64.ofNat nr) 2++(Sha.numB (UInt64.ofNat 0) 1++(Sha.numB (UInt64.ofNat 1) 1++(Sha.numB (UInt64.ofNat 21) 1++(qB7 tn (UInt64.ofNat nr) s++s))))))++(List.replicate 18 0++qGU (prt tn (UInt64.ofNat nr) s 1 0).pad):=by
 have hc:(prt tn (UInt64.ofNat nr) s 1 0).con=s:=qJn (by omega)
 have hb:(prt tn (UInt64.ofNat nr) s 1 0).body.length=38:=by
  unfold Prt.body Prt.b5 Prt.b4 Prt.b3 Prt.b2 Prt.b1
  simp only [jA,Sha.numB_length,hc,hs]
  show _+(qB7 _ _ _).length+_=_
  rw [qBf]
 show(prt tn (UInt64.ofNat nr) s 1 0).pad++_=_
 rw [←jT]
 congr 1
 rw [Prt.pad_eq,hb,hc,hs]
 simp only [jT]
 rfl
theorem headM{nr b i:Nat}(hn:nr<2)(hb:b<2)(hi:i<3):((txm nr b i).take 38).map UInt8.toNat=hdM.getD (nr*6+b*3+i) []:=by
 have e1:(txm nr b i).take 38=Sha.numB 1 4++(Sha.numB (UInt64.ofNat nr) 2++(Sha.numB (UInt64.ofNat 0) 1++(Sha.numB (UInt64.ofNat 1) 1++(Sha.numB (UInt64.ofNat 21) 1++(qB7 1 (UInt64.ofNat nr) (mkL b i)++mkL b i))))):=by
  unfold txm
  rw [qJP _ _ _ (qDU b i),zj]
  simp only [jA,Sha.numB_length,qBf,qDU]
 have e2:(qB7 1 (UInt64.ofNat nr) (mkL b i)).map UInt8.toNat=nmM.getD (nr*6+b*3+i) []:=by
  have h1:=SN.tagN_eq 7 [Sha.numB 1 4,Sha.numB (UInt64.ofNat nr) 2,mkL b i] (by simp only [jW,jw,jS,jA,Sha.numB_length,qDU,jD,jH];omega)
  unfold qB7
  rw [z8,←h1,←qTx ⟨nr,hn⟩ ⟨b,hb⟩ ⟨i,hi⟩]
  congr 2
  simp only [jR,zT,qNv hb hi]
  match nr,hn with
  |0,_=>rfl
  |1,_=>rfl
 rw [e1]
 simp only [jM]
 rw [e2,qNv hb hi]
 match nr,hn,b,hb,i,hi with
 |0,_,0,_,0,_=>decide
 |0,_,0,_,1,_=>decide
 |0,_,0,_,2,_=>decide
 |0,_,1,_,0,_=>decide
 |0,_,1,_,1,_=>decide
 |0,_,1,_,2,_=>decide
 |1,_,0,_,0,_=>decide
 |1,_,0,_,1,_=>decide
 |1,_,0,_,2,_=>decide
 |1,_,1,_,0,_=>decide
 |1,_,1,_,1,_=>decide
 |1,_,1,_,2,_=>decide
theorem qO5{nr b i n:Nat}(h2:nr<2)(hb:b<2)(hi:i<3)(hne:torn (txm nr b i) n≠txm nr b i):qFE (torn (txm nr b i) n):=by
  left
  have hl:(txm nr b i).length=64:=qJe (by omega)
  have hn:n<64:=by
    by_cases h:n<64
    · exact h
    · exact absurd (qFO hl (by omega)) hne
  have hd:(torn (txm nr b i) n).take 56++(torn (txm nr b i) n).drop 56=torn (txm nr b i) n:=jy ..
  unfold qA8
  rw [if_neg]
  intro hs
  by_cases h38:n<38
  · have e1:(torn (txm nr b i) n).take 56=((txm nr b i).take 38).take n++List.replicate (56-n) 0:=by
      unfold torn
      rw [List.take_take,jl (by omega),List.take_append,List.take_take,List.take_replicate,jE,hl]
      congr 1
      · congr 1;omega
      · congr 1;omega
    have e2:(torn (txm nr b i) n).drop 56=List.replicate 8 0:=by
      unfold torn
      rw [zz,jE,hl,jq (by rw [jE];omega),jp,List.drop_replicate]
      congr 1;omega
    rw [e1,e2] at hs
    have h1:=SN.tagN_eq 8 [((txm nr b i).take 38).take n++List.replicate (56-n) 0] (by simp only [jW,jw,jS,jA,jE,jG,jD,jH];omega)
    have h2':(SN.tagN 8 [(hdM.getD (nr*6+b*3+i) []).take n++List.replicate (56-n) 0]).take 8=(qGU (((txm nr b i).take 38).take n++List.replicate (56-n) 0)).map UInt8.toNat:=by
      unfold qGU
      rw [z8,←h1,←headM h2 hb hi]
      congr 2
      simp only [jR,zT,jM,z8,List.map_replicate]
      rfl
    rw [hs] at h2'
    exact qLk ⟨nr*6+b*3+i,by omega⟩ ⟨n,h38⟩ h2'
  · have e1:(torn (txm nr b i) n).take 56=(txm nr b i).take 56:=by
      have hz: ∀j,38≤j→j<56→(txm nr b i)[j]?=some 0:=λj h1 h2=>by
        unfold txm
        rw [qJP _ _ _ (qDU b i),jb (by simp only [jA,Sha.numB_length,qBf,qDU];omega)]
        simp only [jA,Sha.numB_length,qBf,qDU]
        rw [jY (by rw [jG];omega),zE,if_pos (by omega)]
      apply zD
      intro j
      unfold torn
      rw [js,js]
      by_cases h56:j<56
      · rw [if_pos h56,if_pos h56,zi,jE,hl]
        split
        · rw [js,if_pos (by omega)]
        · rw [hz j (by omega) h56,zE,if_pos (by omega)]
      · rw [if_neg h56,if_neg h56]
    rw [e1,show qGU ((txm nr b i).take 56)=(txm nr b i).drop 56 from qRK _ (by decide) (by omega)] at hs
    apply hne
    rw [←hd,e1,←hs,jy]
end Go.Proofs.YtfldiegfenndjaaGreatDoor
