/- A part of the proof. -/
import Derived.Test.YtcgcjaflllmlpaaGreatDoorTopCkG31
import Derived.Test.YtcgcjaflllmlpaaGreatDoorTopCkG38
set_option maxRecDepth 100000
set_option maxHeartbeats 1000000
set_option linter.unusedSimpArgs false
set_option linter.unusedVariables false
namespace Go.Proofs.YtcgcjaflllmlpaaGreatDoor
open Go Go.Fw Go.Proofs.Tryz
theorem qTO(F:Hp)(g:Nat)(l:List Sm.PR)(hT:qCh F g l):Ct prog 142 [Ptr g] [F] (λx:Nat×Hp=>Ptr x.1) (λx=>qF3 x.2 x.1 l) (λx=> [x.2,F]):=by
 have hT0:=hT
 obtain ⟨gm,hc,hm⟩:=hT0
 refine Ct.walk func142 O ntmps142 O (λw0 hw0=>?_)
 refine J.g λ_ j1=>J.b O<|J.c j1<|J.q λ_ j2=>J.g λ_ j3=>J.b O<|J.f ((qA4 qLi O O O).as (v':= .bool false) O) O<|J.c j3<|J.a2 ?_
 refine J.T j2<|J.g λ_ j4=>J.b O<|J.f (qAB O O) O<|J.M 0 qLg sizeOf210 O O O O O<|J.f (qAI O O isAgg210 (m:=F) xD (hc)) O<|J.p (qBr O O (λF' hF=>qRO F' gm (ssM l) (hm.mono (Fa hF)))) O ?_
 rintro⟨g9,m9⟩ h9
 try dsimp only at h9
 exact J.f (qAH (places:= [(0,1)]) (r:= [.map (some g9)]) O O O qLg zeroValue212 (λ_=>xI) O) O<|J.p (qAZ O O O) O λg11 _=>J.b O<|J.c j4<|J.A<|J.b0 hw0 (λ_ _ h=>h) (qKI O O) (qCX (g11,U [blk g11 [.map (some g9)] 212,m9]) (O) (λhd=>⟨g9,m9,O,hd,h9⟩) [2,1,0] O O xC)
theorem qWZ(F:Hp)(b z:Int)(A:Option Addr)(n c:Nat)(ks:List xA)(hs:Sl F 1 A n c (qAG ks))(hn:n≤1000000)(hsm: ∀k:Nat,(ks.getD k []).length≤1000000):Cz prog 140 [I (b),I (z),.slice A n c] F (I (qGg b z ks:Nat)):=by
 have hkn:ks.length=n:=by have:=hs.1;simpa [qAG] using this
 refine Ct.walk func140 O ntmps140 O (λw0 hw0=>?_)
 refine J.g λ_ j1=>J.b O<|J.c j1<|J.g λ_ j2=>J.b O<|J.p (qAa O O (λF' hF=>qCT F' z)) O λg13 _=>J.b O<|J.c j2<|J.q λ_ j3=>J.V<|J.g λ_ j4=>J.b O<|J.f (qAX O O O) O<|J.b O<|J.c j4<|J.a0 O (λh14=>?_) (λh14=>?_)
 ·
  exact J.g λ_ j5=>J.b O<|J.c j5<|J.A<|J.a8<|J.W<|J.E hw0 O () (by(first|rw [qEf xB]|rw [qDO xB xB]|rw [qDP xB xB xB]|rw [qDN hc0 h256 hbn hno (λe=>by have:=hib.1 e;omega)]|rw [qDo hc0 h256 hbn hall])<;>rfl) trivial [0] O xC
 refine J.g λ_ j6=>J.b O<|J.f (qAR qAk O O) O<|J.f (qAz O O O) O<|J.b O<|J.c j6<|J.a0 O (λh17=>?_) (λh17=>?_)
 ·
  exact J.g λ_ j7=>J.b O<|J.c j7<|J.A<|J.a8<|J.W<|J.E hw0 O () (by(first|rw [qEf xB]|rw [qDO xB xB]|rw [qDP xB xB xB]|rw [qDN hc0 h256 hbn hno (λe=>by have:=hib.1 e;omega)]|rw [qDo hc0 h256 hbn hall])<;>rfl) trivial [0] O xC
 refine J.g λ_ j8=>J.b O<|J.f (qAS O O O) O<|J.b O<|J.b9 (d:=24) O (λh24=>?_) (λh24=>?_)
 ·
  refine J.k 5 O<|J.c j8<|J.c3 ?_
  exact J.g λ_ j9=>J.b O<|J.c j9<|J.A<|J.a8<|J.W<|J.E hw0 O () (by(first|rw [qEf xB]|rw [qDO xB xB]|rw [qDP xB xB xB]|rw [qDN hc0 h256 hbn hno (λe=>by have:=hib.1 e;omega)]|rw [qDo hc0 h256 hbn hall])<;>rfl) trivial [0] O xC
 refine J.k 2 O<|J.D (qBL O O O) O<|J.k 2 O<|J.c j8<|J.a0 O (λh21=>?_) (λh21=>?_)
 ·
  exact J.g λ_ j10=>J.b O<|J.c j10<|J.A<|J.a8<|J.W<|J.E hw0 O () (by(first|rw [qEf xB]|rw [qDO xB xB]|rw [qDP xB xB xB]|rw [qDN hc0 h256 hbn hno (λe=>by have:=hib.1 e;omega)]|rw [qDo hc0 h256 hbn hall])<;>rfl) trivial [0] O xC
 refine J.b5<|J.a3<|J.u (J.G j3 ?_)
 refine J.q λ_ j11=>J.q λ_ j12=>?_
 obtain ⟨d,rfl⟩:=zh (show 0≤z by unfold cnt at h14;split at h14<;>omega)
 have hd:d≤4:=by unfold cnt at h14;split at h14<;>omega
 have hb0:0≤b:=xB
 have hbn: ¬(b<0∨((cnt (d:Int):Nat):Int)≤b):=xB
 have hc0: ¬cnt (d:Int)=0:=xB
 have h256: ¬256<ks.length:=xB
 refine J.H<|J.b O<|J.f (qAR qAk O O) O<|J.b O<|J.c j12<|J.V<|J.b6 (X:=Nat) (λζ=> [(0,I (b)),(1,I (d:Nat)),(29,.slice A n c),(30,I (n:Nat)),(31,I (ζ:Nat))]) (λζ=> [F]) (λζ=>ζ≤n∧ ∀k∈ks.take ζ,inB b.toNat d k) (λζ=>n-ζ) 0 (⟨jG _,λk h=>by simp at h⟩) ⟨O,O,O,O,O,trivial⟩ (λ_ h=>h) ?_
 rintro i ⟨hi,hall⟩ I1 hI1
 refine J.g λ_ j13=>J.f (qAS O O O) O<|J.c j13<|J.q λ_ j14=>J.a0 O (λh32=>?_) (λh32=>?_)
 ·
  refine J.T j14<|J.q λ_ j15=>J.V<|J.g λ_ j16=>J.f (qAF O O O qAk z9_ hs xB) O<|J.f (qAI O O b9_ (m:=F) xD (hs.elem (qAY (qAi [] xB)))) O<|J.b O<|J.c j16<|J.g λ_ j17=>J.k 2 O<|J.p (qAa O O (λF' hF=>qWH F' (ks.getD i []) (by first|omega|exact hsm _|exact jm O) d xB)) O λg38 _=>J.k 5 O<|J.c j17<|J.q λ_ j18=>?_
  have hib:=qZb (b:=b) (d:=d) (k:=ks.getD i []) hb0
  refine J.H<|J.b O<|J.f (qAe O O O) O<|J.b O<|J.b9 (d:=43) O (λh43=>?_) (λh43=>?_)
  ·
   refine J.k 4 O<|J.c j18<|J.c3 ?_
   refine J.q λ_ j19=>?_
   have hno:=qRg (ks:=ks) (i:=i) xB
   exact J.H<|J.b O<|J.c j19<|J.A<|J.a8<|J.W<|J.W<|J.a8<|J.W<|J.E hw0 O () (by(first|rw [qEf xB]|rw [qDO xB xB]|rw [qDP xB xB xB]|rw [qDN hc0 h256 hbn hno (λe=>by have:=hib.1 e;omega)]|rw [qDo hc0 h256 hbn hall])<;>rfl) trivial [0] O xC
  refine J.k 2 O<|J.D (qAe O O O) O<|J.b O<|J.c j18<|J.a0 O (λh47=>?_) (λh47=>?_)
  ·
   refine J.q λ_ j20=>?_
   have hno:=qRg (ks:=ks) (i:=i) xB
   exact J.H<|J.b O<|J.c j20<|J.A<|J.a8<|J.W<|J.W<|J.a8<|J.W<|J.E hw0 O () (by(first|rw [qEf xB]|rw [qDO xB xB]|rw [qDP xB xB xB]|rw [qDN hc0 h256 hbn hno (λe=>by have:=hib.1 e;omega)]|rw [qDo hc0 h256 hbn hall])<;>rfl) trivial [0] O xC
  refine J.b5<|J.a3<|J.u (J.G j15 ?_)
  exact J.H<|J.f ((qAQ O O O xB).nat (i+1) xB) O<|J.b O<|J.a4<|J.u<|J.a5 (i+1) (λη (hη:_∧n-η<n-i)=>hI1 η hη.1 hη.2) ⟨⟨xB,qVK xB hall (hib.2 ⟨xB,xB⟩)⟩,by first|omega|(dsimp only;omega)⟩ ⟨O,O,O,O,O,trivial⟩ (λ_ h=>h)
 refine J.b3<|J.a1<|J.a1<|J.b4 ?_
 refine J.u (J.G j11 ?_)
 refine J.q λ_ j21=>?_
 obtain rfl:i=ks.length:=by omega
 rw [jp] at hall
 exact J.H<|J.b O<|J.c j21<|J.A<|J.E hw0 O () (by(first|rw [qEf xB]|rw [qDO xB xB]|rw [qDP xB xB xB]|rw [qDN hc0 h256 hbn hno (λe=>by have:=hib.1 e;omega)]|rw [qDo hc0 h256 hbn hall])<;>rfl) trivial [0] O xC
theorem el234:qCt prog 234 [Str [],Str [],.slice none 0 0,.bool false,Str [],Str []] 96:=qCt.of xI O
theorem qTM(F:Hp)(hK:KF F)(g:Nat)(l:List Sm.PR)(hT:qCh F g l)(hf:qCE l)(hln:l.length≤90000)(b d:Nat)(hd:d≤4)(hb:b<2^d)(A0:Option Addr)(n0 c0:Nat)(cl:List Chg)(hs:Sl F 2 A0 n0 c0 (qDi cl))(hch:qS4 b d cl):
    Ct prog 73 [Ptr g,I (b:Nat),I (d:Nat),.slice A0 n0 c0] [F] (λr:MkR=> .tuple #[.agg #[I (b:Nat),I (d:Nat),Str (Sm.ndB l (kF b d) d),Str (Sm.ndB (kvC l cl) (kF b d) d),.slice r.A r.L.length r.c],Ptr r.g,I 0]) (MkP l d cl) (λr=> [F,r.mt,r.ms,r.M]):=by
  have hcn:cl.length=n0:=by have:=hs.1;simpa [qDi] using this
  have hc256:=hch.len
  have hmay:=hch.may hd hb
  have hmd:min (((d:Nat):Int)).toNat 128=d:=by rw [jP];omega
  have hkb:=qIJ b d
  refine Ct.walk func73 O ntmps73 O (λw0 hw0=>?_)
  refine J.g λ_ j1=>J.p (qAJ O zeroValue165 O) O λg8 _=>J.k 2 O<|J.c j1<|J.g λ_ j2=>J.b O<|J.c j2<|J.q λ_ j3=>J.g λ_ j4=>J.b O<|J.f (qAR qPY O O) O<|J.b O<|J.c j4<|J.V<|J.b6 (X:=Nat×Option Addr×Nat×Hp) (λζ=> [(0,Ptr g),(1,I (b:Nat)),(2,I (d:Nat)),(3,.slice A0 n0 c0),(8,Ptr g8),(11,.slice ζ.2.1 ((qHI cl ζ.1).length) ζ.2.2.1),(22,.slice A0 n0 c0),(23,I (n0:Nat)),(24,I (ζ.1:Nat))]) (λζ=> [F,blk g8 [I 0,I 0,Str [],Str [],.slice none 0 0] 165,ζ.2.2.2]) (λζ=>ζ.1≤n0∧Row ζ.2.2.2 9 1 ζ.2.1 (qHI cl ζ.1).length ζ.2.2.1 (qAG (qHI cl ζ.1))) (λζ=>n0-ζ.1) (0,none,0,(λ_=>none)) (⟨jG _,qBh.nil⟩) ⟨O,O,O,O,O,O,O,O,O,trivial⟩ (λ_ h=>h.empty.pick [0,1,2] xC) ?_
  rintro⟨i,A1,c1,m1⟩ ⟨hi,hr1⟩ I0 hI0
  dsimp only at hi hr1⊢
  have hkl:=qRi (cl:=cl) (i:=i) xB
  refine J.g λ_ j5=>J.f (qAS O O O) O<|J.c j5<|J.q λ_ j6=>J.a0 O (λh25=>?_) (λh25=>?_)
  ·
    refine J.T j6<|J.q λ_ j7=>J.V<|J.g λ_ j8=>J.f (qAF O O O qPY qFx hs xB) O<|J.f (qAV O O isAgg153 qFx (m:=F) xD (hs.elem (qHX xB)) O) O<|J.p (qAJ O zeroValue153 O) O λg13 _=>J.a6 (qAD (i:=3) (l:= [Str [],Str []]) (vs:= [Str ((cl.getD i qAv).k),Str ((cl.getD i qAv).v)]) O O O O O qFx O O) O O λ_ _=>J.c j8<|J.H<|J.b O<|J.M 0 qLh z9_ O O O O O<|J.a7 3 b9_ O O O O O<|J.p (qAE (l:= [.tmp 30]) (xs:= [[Str ((cl.getD i qAv).k)]]) O O O O qAk el9 O xC xC xD) O λg31 _=>?_
    change J _ _ _ [_,_,_,_,blk g31 [Str ((cl.getD i qAv).k)] 9] _
    refine J.p (qAU (i:=2) (xs:=qAG (qHI cl i)) (m2:=blk g31 [Str ((cl.getD i qAv).k)] 9) (ys:= [[Str ((cl.getD i qAv).k)]]) O O O qAk qAk el9 O hr1 xD ((qA7 (q:=True) (qAG [(cl.getD i qAv).k]) O (by simp [qAG]) O).sl) O xB xB) O ?_
    rintro⟨A32,c32,m32⟩ h32
    try dsimp only at h32
    change J _ ((32,.slice A32 (((qHI cl i).length)+1) c32)::_) _ [_,_,m32,_,_] _
    rw [←qCG] at h32
    refine J.b O<|J.a4<|J.a3<|J.u (J.G j7 ?_)
    exact J.H<|J.f ((qAQ O O O xB).nat (i+1) xB) O<|J.b O<|J.a4<|J.u<|J.a5 (i+1,A32,c32,m32) (λη (hη:_∧n0-η.1<n0-i)=>hI0 η hη.1 hη.2) ⟨⟨by dsimp only;omega,by dsimp only;rw [qII xB,jA];exact h32⟩,by first|omega|(dsimp only;omega)⟩ ⟨O,O,O,O,O,by dsimp only;rw [qII xB,jA];rfl,O,O,O,trivial⟩ (λ_ h=>h.pick [0,1,2] xC)
  refine J.b3<|J.a1<|J.a1<|J.b4 ?_
  refine J.u (J.G j3 ?_)
  refine J.q λ_ j9=>J.q λ_ j10=>?_
  obtain rfl:i=cl.length:=by omega
  rw [qRj] at hr1 hkl⊢
  have hsk:=hch.smallK
  refine J.H<|J.k 3 O<|J.p (qAa O O (λF' hF=>qWZ F' ((b:Nat):Int) ((d:Nat):Int) A1 ((cl.map Chg.k).length) c1 (cl.map Chg.k) (hr1.sl.mono (Fa hF)) xB xG)) O λg37 _=>J.b O<|J.c j10<|J.g λ_ j11=>J.b O<|J.f ((qAe O O O).no (by rw [hmay];decide)) O<|J.k 2 O<|J.D ((qA4 qLi O O O).as (v':= .bool false) O) O<|J.b O<|J.c j11<|J.a2 ?_
  refine J.T j9<|J.g λ_ j12=>J.k 2 O<|J.p (qAa O O (λF' hF=>qKu F' b d xB xG)) O λg50 _=>J.b O<|J.c j12<|J.g λ_ j13=>J.b O<|J.p (qBr O O (λF' hF=>Ct.swap2 (qTO F' g l (hT.mono (Fa hF))))) O ?_
  rintro⟨g52,m52⟩ h52
  try dsimp only at h52
  refine J.b O<|J.c j13<|J.g λ_ j14=>J.k 5 O<|J.p (qAa O O (λF' hF=>qF7 F' (hK.mo hF) g l (hT.mono (Fa hF)) xG (kF b d) xN ((d:Nat):Int) (by first|assumption|exact qIh xG|exact qMn xG xG))) O λg58 _=>?_
  rw [hmd]
  refine J.f (qAH (places:= [(0,1),(1,1),(2,1),(3,1),(4,1)]) (r:= [I (b:Nat),I (d:Nat),Str (Sm.ndB l (kF b d) d),Str [],.slice none 0 0]) O O O underlying165 zeroValue165 (λ_=>xI) O) O<|J.p (qAJ O zeroValue165 O) O λg17 _=>J.a6 (qAD (i:=4) (l:= [I 0,I 0,Str [],Str [],.slice none 0 0]) (vs:= [I (b:Nat),I (d:Nat),Str (Sm.ndB l (kF b d) d),Str [],.slice none 0 0]) O O O O O sizeOf165 O O) O O λ_ _=>J.c j14<|J.q λ_ j15=>J.g λ_ j16=>J.b O<|J.f (qAR qPY O O) O<|J.b O<|J.c j16<|J.V<|J.b6 (X:=Nat×List qBi×Option Addr×Nat×Hp×Hp×Hp) (λζ=> [(2,I (d:Nat)),(8,Ptr g8),(15,Str (kF b d)),(16,Ptr g52),(17,Ptr g17),(60,.slice A0 n0 c0),(61,I (n0:Nat)),(62,I (ζ.1:Nat))]) (λζ=> [ζ.2.2.2.2.2.2,F,blk g8 [I 0,I 0,Str [],Str [],.slice none 0 0] 165,blk g17 [I (b:Nat),I (d:Nat),Str (Sm.ndB l (kF b d) d),Str ([]),.slice ζ.2.2.1 ζ.2.1.length ζ.2.2.2.1] 165,ζ.2.2.2.2.2.1,ζ.2.2.2.2.1]) (λζ=>ζ.1≤cl.length∧ζ.2.1.map qBi.chg=cl.take ζ.1∧qDb l d ζ.2.1∧Row ζ.2.2.2.2.1 234 6 ζ.2.2.1 ζ.2.1.length ζ.2.2.2.1 (qJ6 ζ.2.1)∧qF3 ζ.2.2.2.2.2.1 g52 ((kvC l (cl.take ζ.1)))∧qPb ζ.2.2.2.2.2.2 ζ.2.1) (λζ=>cl.length-ζ.1) (0,[],none,0,(λ_=>none),m52,(λ_=>none)) (⟨jG _,O,qDb.nil _ _,qBh.nil,h52,qPb.nil _⟩) ⟨O,O,O,O,O,O,O,O,trivial⟩ (λ_ h=>h.empty.empty.pick [5,0,1,4,3,6] xC) ?_
  rintro⟨i,L,As,cs,ms,mt,M⟩ ⟨hi,hL,hok,hst,ht,hbs⟩ I2 hI2
  dsimp only at hi hL hok hst ht hbs⊢
  refine J.g λ_ j17=>J.f (qAS O O O) O<|J.c j17<|J.q λ_ j18=>J.a0 O (λh63=>?_) (λh63=>?_)
  ·
    refine J.T j18<|J.q λ_ j19=>J.V<|J.q λ_ j20=>?_
    obtain ⟨hk16,hkb2,hkv⟩:=hch.at (i:=i) xB
    have hfi:=hch.fine hf hln i
    have hLl:=congrArg List.length hL
    rw [jO,jF] at hLl
    refine J.H<|J.f (qAF O O O qPY qFx hs xB) O<|J.f (qAV O O isAgg153 qFx (m:=F) xD (hs.elem (qHX xB)) O) O<|J.p (qAJ O zeroValue153 O) O λg19 _=>J.a6 (qAD (i:=6) (l:= [Str [],Str []]) (vs:= [Str ((cl.getD i qAv).k),Str ((cl.getD i qAv).v)]) O O O O O qFx O O) O O λ_ _=>J.c j20<|J.g λ_ j21=>J.b O<|J.M 0 qLh z9_ O O O O O<|J.a7 6 b9_ O O O O O<|J.b O<|J.p (qBr O O (λF' hF=>qE0 F' (hK.mo hF) g52 (kvC l (cl.take i)) (ht.at.mono (Fa hF)) hfi (cl.getD i qAv).k hk16 d xB)) O ?_
    rintro⟨s71,A71,c71,m71⟩ ⟨hst71,hr71⟩
    refine J.k 3 O<|J.p (qAJ O qPN O) O λg20 _=>J.a6 (qAD (i:=8) (l:= [.slice none 0 0,.bool false,Str [],Str []]) (vs:= [.slice A71 ((bsd (kvC l (cl.take i)) (cl.getD i qAv).k d (s71-d)).length) c71,.bool (qAm (kvC l (cl.take i)) (cl.getD i qAv).k s71),Str (qBm (kvC l (cl.take i)) (cl.getD i qAv).k s71),Str (qBs (kvC l (cl.take i)) (cl.getD i qAv).k s71)]) O O O O O qB9 O O) O O λ_ _=>J.b O<|J.c j21<|J.q λ_ j22=>J.g λ_ j23=>J.b O<|J.f ((qAe O O O).no xC) O<|J.c j23<|J.a2 ?_
    refine J.T j22<|J.q λ_ j24=>?_
    obtain ⟨x,hx⟩: ∃x:qBi,x=(⟨(cl.getD i qAv).k,(cl.getD i qAv).v,A71,c71,bsd ((kvC l (cl.take i))) (cl.getD i qAv).k d (s71-d),qAm ((kvC l (cl.take i))) (cl.getD i qAv).k s71,qBm ((kvC l (cl.take i))) (cl.getD i qAv).k s71,qBs ((kvC l (cl.take i))) (cl.getD i qAv).k s71⟩:qBi):=⟨_,rfl⟩
    refine J.H<|J.M 4 underlying165 sizeOf163 O O O O O<|J.a7 3 isAgg163 O O O O O<|J.b8 6 isAgg153 qFx O O O O O<|J.b8 8 qEb qB9 O O O O O<|J.f (qAH (places:= [(0,2),(2,4)]) (r:= [Str ((cl.getD i qAv).k),Str ((cl.getD i qAv).v),.slice A71 ((bsd (kvC l (cl.take i)) (cl.getD i qAv).k d (s71-d)).length) c71,.bool (qAm (kvC l (cl.take i)) (cl.getD i qAv).k s71),Str (qBm (kvC l (cl.take i)) (cl.getD i qAv).k s71),Str (qBs (kvC l (cl.take i)) (cl.getD i qAv).k s71)]) O O O underlying234 zeroValue234 (λ_=>xI) O) O<|J.p (qAE (l:= [.tmp 82]) (xs:= [[Str ((cl.getD i qAv).k),Str ((cl.getD i qAv).v),.slice A71 ((bsd (kvC l (cl.take i)) (cl.getD i qAv).k d (s71-d)).length) c71,.bool (qAm (kvC l (cl.take i)) (cl.getD i qAv).k s71),Str (qBm (kvC l (cl.take i)) (cl.getD i qAv).k s71),Str (qBs (kvC l (cl.take i)) (cl.getD i qAv).k s71)]]) O O O O underlying163 el234 O xC xC xD) O λg83 _=>J.p (qAU (i:=5) (m2:=blk g83 [Str ((cl.getD i qAv).k),Str ((cl.getD i qAv).v),.slice A71 ((bsd (kvC l (cl.take i)) (cl.getD i qAv).k d (s71-d)).length) c71,.bool (qAm (kvC l (cl.take i)) (cl.getD i qAv).k s71),Str (qBm (kvC l (cl.take i)) (cl.getD i qAv).k s71),Str (qBs (kvC l (cl.take i)) (cl.getD i qAv).k s71)] 234) O O O underlying163 underlying163 el234 O hst xD ((qAl (q:=True) (xs:=qJ6 [(⟨(cl.getD i qAv).k,(cl.getD i qAv).v,A71,c71,(bsd (kvC l (cl.take i)) (cl.getD i qAv).k d (s71-d)),qAm (kvC l (cl.take i)) (cl.getD i qAv).k s71,qBm (kvC l (cl.take i)) (cl.getD i qAv).k s71,qBs (kvC l (cl.take i)) (cl.getD i qAv).k s71⟩:qBi)]) O (by intro x hx;rw [List.mem_singleton.1 hx];rfl)).sl) O xB xB) O ?_
    rintro⟨A84,c84,m84⟩ h84
    try dsimp only at h84
    replace h84:Row m84 234 6 A84 (L.length+1) c84 (qJ6 (L++ [x])):=by rw [qOd,hx];exact h84
    rw [show L.length+1=(L++ [x]).length by rw [jA];rfl] at h84⊢
    refine J.M 4 underlying165 sizeOf163 O O O O O<|J.a6 (qAT (i:=3) O O O O O sizeOf163 O xD) O O λ_ _=>J.c j24<|J.H<|J.b O<|J.M 0 qLh z9_ O O O O O<|J.a7 6 b9_ O O O O O<|J.M 1 qLh z9_ O O O O O<|J.a7 6 b9_ O O O O O<|J.p (qAK O O ent (Ct.use1 4 O (λF' hF=>qP6 F' mt g52 (kvC l (cl.take i)) ht ((cl.getD i qAv).k) ((cl.getD i qAv).v) (by first|omega|rfl|assumption)))) O ?_
    rintro m91 h91
    refine J.c5 [0,7,1,2,3,4,5] [M,m71,F,blk g8 [I 0,I 0,Str [],Str [],.slice none 0 0] 165,blk g17 [I (b:Nat),I (d:Nat),Str (Sm.ndB l (kF b d) d),Str ([]),.slice A84 ((L++ [x]).length) c84] 165,m91,m84] O xC<|J.d6 (λhj=>?_)
    refine J.a4<|J.a3<|J.u (J.G j19 ?_)
    exact J.H<|J.f ((qAQ O O O xB).nat (i+1) xB) O<|J.b O<|J.a4<|J.u<|J.a5 (i+1,L++ [x],A84,c84,m84,m91,U [M,m71]) (λη (hη:_∧cl.length-η.1<cl.length-i)=>hI2 η hη.1 hη.2) ⟨⟨by dsimp only;omega,qU1 xB hL (by rw [hx]) (by rw [hx]),hok.snoc (by rw [hL,hx];exact qLJ.of hfi (by have:=qRe l (cl.take i);rw [jF] at this;omega) hk16 hkv hst71 A71 c71),h84,by dsimp only;rw [qUa xB];exact h91,(hbs.mono (qHF hj)).snoc (by rw [hx];exact hr71.sl.mono (qSz hj))⟩,by first|omega|(dsimp only;omega)⟩ ⟨O,O,O,O,O,O,O,O,trivial⟩ (λ_ h=>h)
  refine J.b3<|J.a1<|J.a1<|J.b4 ?_
  refine J.u (J.G j15 ?_)
  refine J.q λ_ j25=>?_
  have hfi:=hch.fine hf hln i
  refine J.H<|J.k 3 O<|J.p (qAa O O (λF' hF=>qF7 F' (hK.mo hF) g52 (kvC l (cl.take i)) (ht.at.mono (Fa hF)) xG (kF b d) xN ((d:Nat):Int) (by first|assumption|exact qIh xG|exact qMn xG xG))) O λg96 _=>?_
  rw [hmd]
  exact J.M 3 underlying165 z9_ O O O O O<|J.a6 (qAT (i:=3) O O O O O z9_ O xD) O O λ_ _=>J.c j25<|J.g λ_ j26=>J.b8 3 isAgg165 sizeOf165 O O O O O<|J.b O<|J.a6 (qAD (i:=2) (l:= [I 0,I 0,Str [],Str [],.slice none 0 0]) (vs:= [I (b:Nat),I (d:Nat),Str (Sm.ndB l (kF b d) d),Str (Sm.ndB (kvC l (cl.take i)) (kF b d) d),.slice As L.length cs]) O O O O O sizeOf165 O O) O O λ_ _=>J.k 2 O<|J.c j26<|J.A<|J.b0 hw0 (λ_ _ h=>h) (rv3 O (RV.blkA 2 O O isAgg165 sizeOf165) O O) (qAn (⟨As,cs,ms,g52,mt,M,L⟩:MkR) (by rw [show i=cl.length by omega,jp]) ⟨by rw [hL,show i=cl.length by omega,jp],hok,hst,by rw [show i=cl.length by omega,jp] at ht;exact ht,hbs⟩ [1,4,5,0] O xC)
end Go.Proofs.YtcgcjaflllmlpaaGreatDoor