/- A part of the proof. -/
import Derived.Test.YtmemgokiolfdoaaGreatDoorTopMsG19
import Derived.Test.YtmemgokiolfdoaaGreatDoorTopMsG33
set_option maxRecDepth 100000
set_option maxHeartbeats 1000000
set_option linter.unusedSimpArgs false
set_option linter.unusedVariables false
namespace Go.Proofs.YtmemgokiolfdoaaGreatDoor
open Go Go.Fw Go.Proofs.Tryz
theorem qTN(F:Hp)(g:Nat)(l:List Sm.PR)(hT:qCl F g l):Ct prog 212 [Ptr g] [F] (λx:Nat×Hp=>Ptr x.1) (λx=>qGH x.2 x.1 l) (λx=> [x.2,F]):=by
 have hT0:=hT
 obtain ⟨gm,hc,hm⟩:=hT0
 refine Ct.walk func212 O ntmps212 O (λw0 hw0=>?_)
 refine J.f λ_ j1=>J.b O<|J.c j1<|J.k λ_ j2=>J.f λ_ j3=>J.b O<|J.g ((qA6 qL2 O O O).as (v':= .bool false) O) O<|J.c j3<|J.a3 ?_
 refine J.M j2<|J.f λ_ j4=>J.b O<|J.g (qAB O O) O<|J.W 0 qL0 sizeOf235 O O O O O<|J.g (qAI O O isAgg235 (m:=F) xD (hc)) O<|J.q (qBb O O (λF' hF=>qRU F' gm (ssM l) (hm.mono (Fa hF)))) O ?_
 rintro⟨g9,m9⟩ h9
 try dsimp only at h9
 exact J.g (qAL (places:= [(0,1)]) (r:= [.map (some g9)]) O O O qL0 zeroValue237 (λ_=>xI) O) O<|J.q (qAb O O O) O λg11 _=>J.b O<|J.c j4<|J.A<|J.a9 hw0 (λ_ _ h=>h) (qKV O O) (qCa (g11,U [blk g11 [.map (some g9)] 237,m9]) (O) (λhd=>⟨g9,m9,O,hd,h9⟩) [2,1,0] O O xC)
theorem qWQ(F:Hp)(b z:Int)(A:Option Addr)(n c:Nat)(ks:List xA)(hs:Sl F 1 A n c (qAH ks))(hn:n≤1000000)(hsm: ∀k:Nat,(ks.getD k []).length≤1000000):Cz prog 71 [I (b),I (z),.slice A n c] F (I (qGo b z ks:Nat)):=by
 have hkn:ks.length=n:=by have:=hs.1;simpa [qAH] using this
 refine Ct.walk func71 O ntmps71 O (λw0 hw0=>?_)
 refine J.f λ_ j1=>J.b O<|J.c j1<|J.f λ_ j2=>J.b O<|J.q (qAZ O O (λF' hF=>qCP F' z)) O λg13 _=>J.b O<|J.c j2<|J.k λ_ j3=>J.T<|J.f λ_ j4=>J.b O<|J.g (qAe O O O) O<|J.b O<|J.c j4<|J.Z O (λh14=>?_) (λh14=>?_)
 ·
  exact J.f λ_ j5=>J.b O<|J.c j5<|J.A<|J.a5<|J.V<|J.E hw0 O () (by(first|rw [qEh xB]|rw [qDV xB xB]|rw [qDW xB xB xB]|rw [qDU hc0 h256 hbn hno (λe=>by have:=hib.1 e;omega)]|rw [qDv hc0 h256 hbn hall])<;>rfl) trivial [0] O xC
 refine J.f λ_ j6=>J.b O<|J.g (qAO qAn O O) O<|J.g (qA5 O O O) O<|J.b O<|J.c j6<|J.Z O (λh17=>?_) (λh17=>?_)
 ·
  exact J.f λ_ j7=>J.b O<|J.c j7<|J.A<|J.a5<|J.V<|J.E hw0 O () (by(first|rw [qEh xB]|rw [qDV xB xB]|rw [qDW xB xB xB]|rw [qDU hc0 h256 hbn hno (λe=>by have:=hib.1 e;omega)]|rw [qDv hc0 h256 hbn hall])<;>rfl) trivial [0] O xC
 refine J.f λ_ j8=>J.b O<|J.g (qAS O O O) O<|J.b O<|J.b9 (d:=24) O (λh24=>?_) (λh24=>?_)
 ·
  refine J.p 5 O<|J.c j8<|J.c3 ?_
  exact J.f λ_ j9=>J.b O<|J.c j9<|J.A<|J.a5<|J.V<|J.E hw0 O () (by(first|rw [qEh xB]|rw [qDV xB xB]|rw [qDW xB xB xB]|rw [qDU hc0 h256 hbn hno (λe=>by have:=hib.1 e;omega)]|rw [qDv hc0 h256 hbn hall])<;>rfl) trivial [0] O xC
 refine J.p 2 O<|J.G (qBI O O O) O<|J.p 2 O<|J.c j8<|J.Z O (λh21=>?_) (λh21=>?_)
 ·
  exact J.f λ_ j10=>J.b O<|J.c j10<|J.A<|J.a5<|J.V<|J.E hw0 O () (by(first|rw [qEh xB]|rw [qDV xB xB]|rw [qDW xB xB xB]|rw [qDU hc0 h256 hbn hno (λe=>by have:=hib.1 e;omega)]|rw [qDv hc0 h256 hbn hall])<;>rfl) trivial [0] O xC
 refine J.b2<|J.a2<|J.u (J.D j3 ?_)
 refine J.k λ_ j11=>J.k λ_ j12=>?_
 obtain ⟨d,rfl⟩:=zw (show 0≤z by unfold cnt at h14;split at h14<;>omega)
 have hd:d≤4:=by unfold cnt at h14;split at h14<;>omega
 have hb0:0≤b:=xB
 have hbn: ¬(b<0∨((cnt (d:Int):Nat):Int)≤b):=xB
 have hc0: ¬cnt (d:Int)=0:=xB
 have h256: ¬256<ks.length:=xB
 refine J.H<|J.b O<|J.g (qAO qAn O O) O<|J.b O<|J.c j12<|J.T<|J.b5 (X:=Nat) (λζ=> [(0,I (b)),(1,I (d:Nat)),(29,.slice A n c),(30,I (n:Nat)),(31,I (ζ:Nat))]) (λζ=> [F]) (λζ=>ζ≤n∧ ∀k∈ks.take ζ,inB b.toNat d k) (λζ=>n-ζ) 0 (⟨jE _,λk h=>by simp at h⟩) ⟨O,O,O,O,O,trivial⟩ (λ_ h=>h) ?_
 rintro i ⟨hi,hall⟩ I1 hI1
 refine J.f λ_ j13=>J.g (qAS O O O) O<|J.c j13<|J.k λ_ j14=>J.Z O (λh32=>?_) (λh32=>?_)
 ·
  refine J.M j14<|J.k λ_ j15=>J.T<|J.f λ_ j16=>J.g (qAF O O O qAn z9_ hs xB) O<|J.g (qAI O O b9_ (m:=F) xD (hs.elem (qAc (qAi [] xB)))) O<|J.b O<|J.c j16<|J.f λ_ j17=>J.p 2 O<|J.q (qAZ O O (λF' hF=>qWD F' (ks.getD i []) (by first|omega|exact hsm _|exact jf O) d xB)) O λg38 _=>J.p 5 O<|J.c j17<|J.k λ_ j18=>?_
  have hib:=qZg (b:=b) (d:=d) (k:=ks.getD i []) hb0
  refine J.H<|J.b O<|J.g (qAV O O O) O<|J.b O<|J.b9 (d:=43) O (λh43=>?_) (λh43=>?_)
  ·
   refine J.p 4 O<|J.c j18<|J.c3 ?_
   refine J.k λ_ j19=>?_
   have hno:=qRk (ks:=ks) (i:=i) xB
   exact J.H<|J.b O<|J.c j19<|J.A<|J.a5<|J.V<|J.V<|J.a5<|J.V<|J.E hw0 O () (by(first|rw [qEh xB]|rw [qDV xB xB]|rw [qDW xB xB xB]|rw [qDU hc0 h256 hbn hno (λe=>by have:=hib.1 e;omega)]|rw [qDv hc0 h256 hbn hall])<;>rfl) trivial [0] O xC
  refine J.p 2 O<|J.G (qAV O O O) O<|J.b O<|J.c j18<|J.Z O (λh47=>?_) (λh47=>?_)
  ·
   refine J.k λ_ j20=>?_
   have hno:=qRk (ks:=ks) (i:=i) xB
   exact J.H<|J.b O<|J.c j20<|J.A<|J.a5<|J.V<|J.V<|J.a5<|J.V<|J.E hw0 O () (by(first|rw [qEh xB]|rw [qDV xB xB]|rw [qDW xB xB xB]|rw [qDU hc0 h256 hbn hno (λe=>by have:=hib.1 e;omega)]|rw [qDv hc0 h256 hbn hall])<;>rfl) trivial [0] O xC
  refine J.b2<|J.a2<|J.u (J.D j15 ?_)
  exact J.H<|J.g ((qAR O O O xB).nat (i+1) xB) O<|J.b O<|J.a4<|J.u<|J.a8 (i+1) (λη (hη:_∧n-η<n-i)=>hI1 η hη.1 hη.2) ⟨⟨xB,qVU xB hall (hib.2 ⟨xB,xB⟩)⟩,by first|omega|(dsimp only;omega)⟩ ⟨O,O,O,O,O,trivial⟩ (λ_ h=>h)
 refine J.b3<|J.a0<|J.a0<|J.b4 ?_
 refine J.u (J.D j11 ?_)
 refine J.k λ_ j21=>?_
 obtain rfl:i=ks.length:=by omega
 rw [jm] at hall
 exact J.H<|J.b O<|J.c j21<|J.A<|J.E hw0 O () (by(first|rw [qEh xB]|rw [qDV xB xB]|rw [qDW xB xB xB]|rw [qDU hc0 h256 hbn hno (λe=>by have:=hib.1 e;omega)]|rw [qDv hc0 h256 hbn hall])<;>rfl) trivial [0] O xC
theorem el160:qCY prog 160 [Str [],Str [],.slice none 0 0,.bool false,Str [],Str []] 96:=qCY.of xI O
theorem qTL(F:Hp)(hK:qAG F ⟨3,0,none⟩ (Sha.K.map W32))(g:Nat)(l:List Sm.PR)(hT:qCl F g l)(hf:qCS l)(hln:l.length≤90000)(b d:Nat)(hd:d≤4)(hb:b<2^d)(A0:Option Addr)(n0 c0:Nat)(cl:List Chg)(hs:Sl F 2 A0 n0 c0 (qDo cl))(hch:qS3 b d cl):
    Ct prog 139 [Ptr g,I (b:Nat),I (d:Nat),.slice A0 n0 c0] [F] (λr:MkR=> .tuple #[.agg #[I (b:Nat),I (d:Nat),Str (Sm.ndB l (kF b d) d),Str (Sm.ndB (kvC l cl) (kF b d) d),.slice r.A r.L.length r.c],Ptr r.g,I 0]) (MkP l d cl) (λr=> [F,r.mt,r.ms,r.M]):=by
  have hcn:cl.length=n0:=by have:=hs.1;simpa [qDo] using this
  have hc256:=hch.len
  have hmay:=hch.may hd hb
  have hmd:min (((d:Nat):Int)).toNat 128=d:=by rw [jY];omega
  have hkb:=qIW b d
  refine Ct.walk func139 O ntmps139 O (λw0 hw0=>?_)
  refine J.f λ_ j1=>J.q (qAJ O zeroValue59 O) O λg8 _=>J.p 2 O<|J.c j1<|J.f λ_ j2=>J.b O<|J.c j2<|J.k λ_ j3=>J.f λ_ j4=>J.b O<|J.g (qAO qGD O O) O<|J.b O<|J.c j4<|J.T<|J.b5 (X:=Nat×Option Addr×Nat×Hp) (λζ=> [(0,Ptr g),(1,I (b:Nat)),(2,I (d:Nat)),(3,.slice A0 n0 c0),(8,Ptr g8),(11,.slice ζ.2.1 ((qHO cl ζ.1).length) ζ.2.2.1),(22,.slice A0 n0 c0),(23,I (n0:Nat)),(24,I (ζ.1:Nat))]) (λζ=> [F,blk g8 [I 0,I 0,Str [],Str [],.slice none 0 0] 59,ζ.2.2.2]) (λζ=>ζ.1≤n0∧Row ζ.2.2.2 9 1 ζ.2.1 (qHO cl ζ.1).length ζ.2.2.1 (qAH (qHO cl ζ.1))) (λζ=>n0-ζ.1) (0,none,0,(λ_=>none)) (⟨jE _,qBZ.nil⟩) ⟨O,O,O,O,O,O,O,O,O,trivial⟩ (λ_ h=>h.empty.pick [0,1,2] xC) ?_
  rintro⟨i,A1,c1,m1⟩ ⟨hi,hr1⟩ I0 hI0
  dsimp only at hi hr1⊢
  have hkl:=qRm (cl:=cl) (i:=i) xB
  refine J.f λ_ j5=>J.g (qAS O O O) O<|J.c j5<|J.k λ_ j6=>J.Z O (λh25=>?_) (λh25=>?_)
  ·
    refine J.M j6<|J.k λ_ j7=>J.T<|J.f λ_ j8=>J.g (qAF O O O qGD qGB hs xB) O<|J.g (qAP O O isAgg155 qGB (m:=F) xD (hs.elem (qHe xB)) O) O<|J.q (qAJ O zeroValue155 O) O λg13 _=>J.a7 (qAC (i:=3) (l:= [Str [],Str []]) (vs:= [Str ((cl.getD i qAv).k),Str ((cl.getD i qAv).v)]) O O O O O qGB O O) O O λ_ _=>J.c j8<|J.H<|J.b O<|J.W 0 qL1 z9_ O O O O O<|J.a6 3 b9_ O O O O O<|J.q (qAE (l:= [.tmp 30]) (xs:= [[Str ((cl.getD i qAv).k)]]) O O O O qAn el9 O xC xC xD) O λg31 _=>?_
    change J _ _ _ [_,_,_,_,blk g31 [Str ((cl.getD i qAv).k)] 9] _
    refine J.q (qAX (i:=2) (xs:=qAH (qHO cl i)) (m2:=blk g31 [Str ((cl.getD i qAv).k)] 9) (ys:= [[Str ((cl.getD i qAv).k)]]) O O O qAn qAn el9 O hr1 xD ((qBO (q:=True) (qAH [(cl.getD i qAv).k]) O (by simp [qAH]) O).sl) O xB xB) O ?_
    rintro⟨A32,c32,m32⟩ h32
    try dsimp only at h32
    change J _ ((32,.slice A32 (((qHO cl i).length)+1) c32)::_) _ [_,_,m32,_,_] _
    rw [←qCD] at h32
    refine J.b O<|J.a4<|J.a2<|J.u (J.D j7 ?_)
    exact J.H<|J.g ((qAR O O O xB).nat (i+1) xB) O<|J.b O<|J.a4<|J.u<|J.a8 (i+1,A32,c32,m32) (λη (hη:_∧n0-η.1<n0-i)=>hI0 η hη.1 hη.2) ⟨⟨by dsimp only;omega,by dsimp only;rw [qIU xB,jA];exact h32⟩,by first|omega|(dsimp only;omega)⟩ ⟨O,O,O,O,O,by dsimp only;rw [qIU xB,jA];rfl,O,O,O,trivial⟩ (λ_ h=>h.pick [0,1,2] xC)
  refine J.b3<|J.a0<|J.a0<|J.b4 ?_
  refine J.u (J.D j3 ?_)
  refine J.k λ_ j9=>J.k λ_ j10=>?_
  obtain rfl:i=cl.length:=by omega
  rw [qRn] at hr1 hkl⊢
  have hsk:=hch.smallK
  refine J.H<|J.p 3 O<|J.q (qAZ O O (λF' hF=>qWQ F' ((b:Nat):Int) ((d:Nat):Int) A1 ((cl.map Chg.k).length) c1 (cl.map Chg.k) (hr1.sl.mono (Fa hF)) xB xG)) O λg37 _=>J.b O<|J.c j10<|J.f λ_ j11=>J.b O<|J.g ((qAV O O O).no (by rw [hmay];decide)) O<|J.p 2 O<|J.G ((qA6 qL2 O O O).as (v':= .bool false) O) O<|J.b O<|J.c j11<|J.a3 ?_
  refine J.M j9<|J.f λ_ j12=>J.p 2 O<|J.q (qAZ O O (λF' hF=>qLD F' b d xB xG)) O λg50 _=>J.b O<|J.c j12<|J.f λ_ j13=>J.b O<|J.q (qBb O O (λF' hF=>Ct.swap2 (qTN F' g l (hT.mono (Fa hF))))) O ?_
  rintro⟨g52,m52⟩ h52
  try dsimp only at h52
  refine J.b O<|J.c j13<|J.f λ_ j14=>J.p 5 O<|J.q (qAZ O O (λF' hF=>qGI F' (hK.mo hF) g l (hT.mono (Fa hF)) xG (kF b d) xN ((d:Nat):Int) (by first|assumption|exact qIr xG|exact qMz xG xG))) O λg58 _=>?_
  rw [hmd]
  refine J.g (qAL (places:= [(0,1),(1,1),(2,1),(3,1),(4,1)]) (r:= [I (b:Nat),I (d:Nat),Str (Sm.ndB l (kF b d) d),Str [],.slice none 0 0]) O O O underlying59 zeroValue59 (λ_=>xI) O) O<|J.q (qAJ O zeroValue59 O) O λg17 _=>J.a7 (qAC (i:=4) (l:= [I 0,I 0,Str [],Str [],.slice none 0 0]) (vs:= [I (b:Nat),I (d:Nat),Str (Sm.ndB l (kF b d) d),Str [],.slice none 0 0]) O O O O O sizeOf59 O O) O O λ_ _=>J.c j14<|J.k λ_ j15=>J.f λ_ j16=>J.b O<|J.g (qAO qGD O O) O<|J.b O<|J.c j16<|J.T<|J.b5 (X:=Nat×List qBj×Option Addr×Nat×Hp×Hp×Hp) (λζ=> [(2,I (d:Nat)),(8,Ptr g8),(15,Str (kF b d)),(16,Ptr g52),(17,Ptr g17),(60,.slice A0 n0 c0),(61,I (n0:Nat)),(62,I (ζ.1:Nat))]) (λζ=> [ζ.2.2.2.2.2.2,F,blk g8 [I 0,I 0,Str [],Str [],.slice none 0 0] 59,blk g17 [I (b:Nat),I (d:Nat),Str (Sm.ndB l (kF b d) d),Str ([]),.slice ζ.2.2.1 ζ.2.1.length ζ.2.2.2.1] 59,ζ.2.2.2.2.2.1,ζ.2.2.2.2.1]) (λζ=>ζ.1≤cl.length∧ζ.2.1.map qBj.chg=cl.take ζ.1∧qDg l d ζ.2.1∧Row ζ.2.2.2.2.1 160 6 ζ.2.2.1 ζ.2.1.length ζ.2.2.2.1 (qKG ζ.2.1)∧qGH ζ.2.2.2.2.2.1 g52 ((kvC l (cl.take ζ.1)))∧qPW ζ.2.2.2.2.2.2 ζ.2.1) (λζ=>cl.length-ζ.1) (0,[],none,0,(λ_=>none),m52,(λ_=>none)) (⟨jE _,O,qDg.nil _ _,qBZ.nil,h52,qPW.nil _⟩) ⟨O,O,O,O,O,O,O,O,trivial⟩ (λ_ h=>h.empty.empty.pick [5,0,1,4,3,6] xC) ?_
  rintro⟨i,L,As,cs,ms,mt,M⟩ ⟨hi,hL,hok,hst,ht,hbs⟩ I2 hI2
  dsimp only at hi hL hok hst ht hbs⊢
  refine J.f λ_ j17=>J.g (qAS O O O) O<|J.c j17<|J.k λ_ j18=>J.Z O (λh63=>?_) (λh63=>?_)
  ·
    refine J.M j18<|J.k λ_ j19=>J.T<|J.k λ_ j20=>?_
    obtain ⟨hk16,hkb2,hkv⟩:=hch.at (i:=i) xB
    have hfi:=hch.fine hf hln i
    have hLl:=congrArg List.length hL
    rw [jP,jF] at hLl
    refine J.H<|J.g (qAF O O O qGD qGB hs xB) O<|J.g (qAP O O isAgg155 qGB (m:=F) xD (hs.elem (qHe xB)) O) O<|J.q (qAJ O zeroValue155 O) O λg19 _=>J.a7 (qAC (i:=6) (l:= [Str [],Str []]) (vs:= [Str ((cl.getD i qAv).k),Str ((cl.getD i qAv).v)]) O O O O O qGB O O) O O λ_ _=>J.c j20<|J.f λ_ j21=>J.b O<|J.W 0 qL1 z9_ O O O O O<|J.a6 6 b9_ O O O O O<|J.b O<|J.q (qBb O O (λF' hF=>qE5 F' (hK.mo hF) g52 (kvC l (cl.take i)) (ht.at.mono (Fa hF)) hfi (cl.getD i qAv).k hk16 d xB)) O ?_
    rintro⟨s71,A71,c71,m71⟩ ⟨hst71,hr71⟩
    refine J.p 3 O<|J.q (qAJ O qPH O) O λg20 _=>J.a7 (qAC (i:=8) (l:= [.slice none 0 0,.bool false,Str [],Str []]) (vs:= [.slice A71 ((bsd (kvC l (cl.take i)) (cl.getD i qAv).k d (s71-d)).length) c71,.bool (qAl (kvC l (cl.take i)) (cl.getD i qAv).k s71),Str (qBk (kvC l (cl.take i)) (cl.getD i qAv).k s71),Str (qBo (kvC l (cl.take i)) (cl.getD i qAv).k s71)]) O O O O O qC6 O O) O O λ_ _=>J.b O<|J.c j21<|J.k λ_ j22=>J.f λ_ j23=>J.b O<|J.g ((qAV O O O).no xC) O<|J.c j23<|J.a3 ?_
    refine J.M j22<|J.k λ_ j24=>?_
    obtain ⟨x,hx⟩: ∃x:qBj,x=(⟨(cl.getD i qAv).k,(cl.getD i qAv).v,A71,c71,bsd ((kvC l (cl.take i))) (cl.getD i qAv).k d (s71-d),qAl ((kvC l (cl.take i))) (cl.getD i qAv).k s71,qBk ((kvC l (cl.take i))) (cl.getD i qAv).k s71,qBo ((kvC l (cl.take i))) (cl.getD i qAv).k s71⟩:qBj):=⟨_,rfl⟩
    refine J.H<|J.W 4 underlying59 sizeOf57 O O O O O<|J.a6 3 isAgg57 O O O O O<|J.c0 6 isAgg155 qGB O O O O O<|J.c0 8 qGa qC6 O O O O O<|J.g (qAL (places:= [(0,2),(2,4)]) (r:= [Str ((cl.getD i qAv).k),Str ((cl.getD i qAv).v),.slice A71 ((bsd (kvC l (cl.take i)) (cl.getD i qAv).k d (s71-d)).length) c71,.bool (qAl (kvC l (cl.take i)) (cl.getD i qAv).k s71),Str (qBk (kvC l (cl.take i)) (cl.getD i qAv).k s71),Str (qBo (kvC l (cl.take i)) (cl.getD i qAv).k s71)]) O O O underlying160 zeroValue160 (λ_=>xI) O) O<|J.q (qAE (l:= [.tmp 82]) (xs:= [[Str ((cl.getD i qAv).k),Str ((cl.getD i qAv).v),.slice A71 ((bsd (kvC l (cl.take i)) (cl.getD i qAv).k d (s71-d)).length) c71,.bool (qAl (kvC l (cl.take i)) (cl.getD i qAv).k s71),Str (qBk (kvC l (cl.take i)) (cl.getD i qAv).k s71),Str (qBo (kvC l (cl.take i)) (cl.getD i qAv).k s71)]]) O O O O underlying57 el160 O xC xC xD) O λg83 _=>J.q (qAX (i:=5) (m2:=blk g83 [Str ((cl.getD i qAv).k),Str ((cl.getD i qAv).v),.slice A71 ((bsd (kvC l (cl.take i)) (cl.getD i qAv).k d (s71-d)).length) c71,.bool (qAl (kvC l (cl.take i)) (cl.getD i qAv).k s71),Str (qBk (kvC l (cl.take i)) (cl.getD i qAv).k s71),Str (qBo (kvC l (cl.take i)) (cl.getD i qAv).k s71)] 160) O O O underlying57 underlying57 el160 O hst xD ((qAm (q:=True) (xs:=qKG [(⟨(cl.getD i qAv).k,(cl.getD i qAv).v,A71,c71,(bsd (kvC l (cl.take i)) (cl.getD i qAv).k d (s71-d)),qAl (kvC l (cl.take i)) (cl.getD i qAv).k s71,qBk (kvC l (cl.take i)) (cl.getD i qAv).k s71,qBo (kvC l (cl.take i)) (cl.getD i qAv).k s71⟩:qBj)]) O (by intro x hx;rw [List.mem_singleton.1 hx];rfl)).sl) O xB xB) O ?_
    rintro⟨A84,c84,m84⟩ h84
    try dsimp only at h84
    replace h84:Row m84 160 6 A84 (L.length+1) c84 (qKG (L++ [x])):=by rw [qOX,hx];exact h84
    rw [show L.length+1=(L++ [x]).length by rw [jA];rfl] at h84⊢
    refine J.W 4 underlying59 sizeOf57 O O O O O<|J.a7 (qAW (i:=3) O O O O O sizeOf57 O xD) O O λ_ _=>J.c j24<|J.H<|J.b O<|J.W 0 qL1 z9_ O O O O O<|J.a6 6 b9_ O O O O O<|J.W 1 qL1 z9_ O O O O O<|J.a6 6 b9_ O O O O O<|J.q (qAK O O ent (Ct.use1 4 O (λF' hF=>qPz F' mt g52 (kvC l (cl.take i)) ht ((cl.getD i qAv).k) ((cl.getD i qAv).v) (by first|omega|rfl|assumption)))) O ?_
    rintro m91 h91
    refine J.c2 [0,7,1,2,3,4,5] [M,m71,F,blk g8 [I 0,I 0,Str [],Str [],.slice none 0 0] 59,blk g17 [I (b:Nat),I (d:Nat),Str (Sm.ndB l (kF b d) d),Str ([]),.slice A84 ((L++ [x]).length) c84] 59,m91,m84] O xC<|J.d5 (λhj=>?_)
    refine J.a4<|J.a2<|J.u (J.D j19 ?_)
    exact J.H<|J.g ((qAR O O O xB).nat (i+1) xB) O<|J.b O<|J.a4<|J.u<|J.a8 (i+1,L++ [x],A84,c84,m84,m91,U [M,m71]) (λη (hη:_∧cl.length-η.1<cl.length-i)=>hI2 η hη.1 hη.2) ⟨⟨by dsimp only;omega,qVD xB hL (by rw [hx]) (by rw [hx]),hok.snoc (by rw [hL,hx];exact qLd.of hfi (by have:=qRj l (cl.take i);rw [jF] at this;omega) hk16 hkv hst71 A71 c71),h84,by dsimp only;rw [qUm xB];exact h91,(hbs.mono (qHK hj)).snoc (by rw [hx];exact hr71.sl.mono (qSx hj))⟩,by first|omega|(dsimp only;omega)⟩ ⟨O,O,O,O,O,O,O,O,trivial⟩ (λ_ h=>h)
  refine J.b3<|J.a0<|J.a0<|J.b4 ?_
  refine J.u (J.D j15 ?_)
  refine J.k λ_ j25=>?_
  have hfi:=hch.fine hf hln i
  refine J.H<|J.p 3 O<|J.q (qAZ O O (λF' hF=>qGI F' (hK.mo hF) g52 (kvC l (cl.take i)) (ht.at.mono (Fa hF)) xG (kF b d) xN ((d:Nat):Int) (by first|assumption|exact qIr xG|exact qMz xG xG))) O λg96 _=>?_
  rw [hmd]
  exact J.W 3 underlying59 z9_ O O O O O<|J.a7 (qAW (i:=3) O O O O O z9_ O xD) O O λ_ _=>J.c j25<|J.f λ_ j26=>J.c0 3 isAgg59 sizeOf59 O O O O O<|J.b O<|J.a7 (qAC (i:=2) (l:= [I 0,I 0,Str [],Str [],.slice none 0 0]) (vs:= [I (b:Nat),I (d:Nat),Str (Sm.ndB l (kF b d) d),Str (Sm.ndB (kvC l (cl.take i)) (kF b d) d),.slice As L.length cs]) O O O O O sizeOf59 O O) O O λ_ _=>J.p 2 O<|J.c j26<|J.A<|J.a9 hw0 (λ_ _ h=>h) (rv3 O (RV.blkA 2 O O isAgg59 sizeOf59) O O) (qAg (⟨As,cs,ms,g52,mt,M,L⟩:MkR) (by rw [show i=cl.length by omega,jm]) ⟨by rw [hL,show i=cl.length by omega,jm],hok,hst,by rw [show i=cl.length by omega,jm] at ht;exact ht,hbs⟩ [1,4,5,0] O xC)
end Go.Proofs.YtmemgokiolfdoaaGreatDoor