/- A part of the proof. -/
import Derived.Test.YtcgcjaflllmlpaaGreatDoorTopCfG8
import Derived.Test.YtcgcjaflllmlpaaGreatDoorTopCfG33
import Derived.Test.YtcgcjaflllmlpaaGreatDoorTopCfG40
set_option linter.unusedSimpArgs false
set_option linter.unusedVariables false
namespace Go.Proofs.YtcgcjaflllmlpaaGreatDoor
open Go Go.Fw Go.Proofs.Tryz
set_option maxRecDepth 100000
set_option maxHeartbeats 1000000
theorem ent72:qAD prog 72:=qAD.of func72 rfl (by kernel_rfl)
theorem ent187:qAD prog 187:=qAD.of func187 rfl (by kernel_rfl)
theorem qSj(F:Hp)(g:Nat)(l:List Sm.PR)(hT:qCU F g l):Ct prog 142 [Ptr g] [F] (λx:Nat×Hp=>Ptr x.1) (λx=>qFg x.2 x.1 l) (λx=> [x.2,F]):=by
 have hT0:=hT
 obtain ⟨gm,hc,hm⟩:=hT0
 refine Ct.walk func142 rfl ntmps142 rfl (λw0 hw0=>?_)
 refine J.f λ_ j1=>J.b O<|J.c j1<|J.k λ_ j2=>J.f λ_ j3=>J.b O<|J.g ((qA6 qLK O O O).as (v':= .bool false) O) O<|J.c j3<|J.a1 ?_
 refine J.M j2<|J.f λ_ j4=>J.b O<|J.g (qAC O O) O<|J.T 0 qLI sizeOf210 O O O O O<|J.g (qAJ O O isAgg210 (m:=F) (by simp) (hc)) rfl<|J.p (qAB rfl rfl ent187 (Ct.use (λF' hF=>qQq F' gm (ssM l) (hm.mono (Fa hF))))) rfl ?_
 rintro⟨g9,m9⟩ h9
 try dsimp only at h9
 exact J.g (qAK (places:= [(0,1)]) (r:= [.map (some g9)]) O O O qLI zeroValue212 (λ_=>by kernel_rfl) O) O<|J.p (qAd O O O) O λg11 _=>J.b O<|J.c j4<|J.A<|J.a9 hw0 (λ_ _ h=>h) (qJv O O) (qCL (g11,U [blk g11 [.map (some g9)] 212,m9]) (O) (λhd=>⟨g9,m9,O,hd,h9⟩) [2,1,0] O O (by decide))
theorem qVi(F:Hp)(b z:Int)(A:Option Addr)(n c:Nat)(ks:List (List UInt8))(hs:Sl F 1 A n c (qAI ks))(hn:n≤1000000)(hsm: ∀k:Nat,(ks.getD k []).length≤1000000):Cz prog 140 [I (b),I (z),.slice A n c] F (I ((qGI b z ks:Nat):Int)):=by
 have hkn:ks.length=n:=by have:=hs.1;simpa [qAI] using this
 refine Ct.walk func140 rfl ntmps140 rfl (λw0 hw0=>?_)
 refine J.f λ_ j1=>J.b O<|J.c j1<|J.f λ_ j2=>J.b O<|J.p (qAB O O ent51 (Ct.use0 (λF' hF=>qCF F' z))) O λg13 _=>J.b O<|J.c j2<|J.k λ_ j3=>J.O<|J.f λ_ j4=>J.b O<|J.g (qAg O O O) O<|J.b O<|J.c j4<|J.W O (λh14=>?_) (λh14=>?_)
 ·
  exact J.f λ_ j5=>J.b O<|J.c j5<|J.A<|J.a7<|J.V<|J.E hw0 O () (by(first|rw [qEG (by omega)]|rw [qC9 (by omega) (by omega)]|rw [qDA (by omega) (by omega) (by omega)]|rw [qC8 hc0 h256 hbn hno (λe=>by have:=hib.1 e;omega)]|rw [qDZ hc0 h256 hbn hall])<;>rfl) trivial [0] rfl (by decide)
 refine J.f λ_ j6=>J.b O<|J.g (qAU qAk O O) O<|J.g (qA5 O O O) O<|J.b O<|J.c j6<|J.W O (λh17=>?_) (λh17=>?_)
 ·
  exact J.f λ_ j7=>J.b O<|J.c j7<|J.A<|J.a7<|J.V<|J.E hw0 O () (by(first|rw [qEG (by omega)]|rw [qC9 (by omega) (by omega)]|rw [qDA (by omega) (by omega) (by omega)]|rw [qC8 hc0 h256 hbn hno (λe=>by have:=hib.1 e;omega)]|rw [qDZ hc0 h256 hbn hall])<;>rfl) trivial [0] rfl (by decide)
 refine J.f λ_ j8=>J.b O<|J.g (qAT O O O) O<|J.b O<|J.b9 (d:=24) O (λh24=>?_) (λh24=>?_)
 ·
  refine J.q 5 O<|J.c j8<|J.c4 ?_
  exact J.f λ_ j9=>J.b O<|J.c j9<|J.A<|J.a7<|J.V<|J.E hw0 O () (by(first|rw [qEG (by omega)]|rw [qC9 (by omega) (by omega)]|rw [qDA (by omega) (by omega) (by omega)]|rw [qC8 hc0 h256 hbn hno (λe=>by have:=hib.1 e;omega)]|rw [qDZ hc0 h256 hbn hall])<;>rfl) trivial [0] rfl (by decide)
 refine J.q 2 O<|J.G (qBA O O O) O<|J.q 2 O<|J.c j8<|J.W O (λh21=>?_) (λh21=>?_)
 ·
  exact J.f λ_ j10=>J.b O<|J.c j10<|J.A<|J.a7<|J.V<|J.E hw0 O () (by(first|rw [qEG (by omega)]|rw [qC9 (by omega) (by omega)]|rw [qDA (by omega) (by omega) (by omega)]|rw [qC8 hc0 h256 hbn hno (λe=>by have:=hib.1 e;omega)]|rw [qDZ hc0 h256 hbn hall])<;>rfl) trivial [0] rfl (by decide)
 refine J.b5<|J.a2<|J.u (J.D j3 ?_)
 refine J.k λ_ j11=>J.k λ_ j12=>?_
 obtain ⟨d,rfl⟩:=zh (show 0≤z by unfold cnt at h14;split at h14<;>omega)
 have hd:d≤4:=by unfold cnt at h14;split at h14<;>omega
 have hb0:0≤b:=by omega
 have hbn: ¬(b<0∨((cnt (d:Int):Nat):Int)≤b):=by omega
 have hc0: ¬cnt (d:Int)=0:=by omega
 have h256: ¬256<ks.length:=by omega
 refine J.H<|J.b O<|J.g (qAU qAk O O) O<|J.b O<|J.c j12<|J.O<|J.b4 (X:=Nat) (λζ=> [(0,I (b)),(1,I ((d:Nat):Int)),(29,.slice A n c),(30,I ((n:Nat):Int)),(31,I ((ζ:Nat):Int))]) (λζ=> [F]) (λζ=>ζ≤n∧ ∀k∈ks.take ζ,inB b.toNat d k) (λζ=>n-ζ) 0 (⟨jG _,λk h=>by simp at h⟩) ⟨rfl,rfl,rfl,rfl,rfl,trivial⟩ (λ_ h=>h) ?_
 rintro i ⟨hi,hall⟩ I1 hI1
 refine J.f λ_ j13=>J.g (qAT O O O) O<|J.c j13<|J.k λ_ j14=>J.W O (λh32=>?_) (λh32=>?_)
 ·
  refine J.M j14<|J.k λ_ j15=>J.O<|J.f λ_ j16=>J.g (qAH O O O qAk z9_ hs (by omega)) O<|J.g (qAJ O O b9_ (m:=F) (by simp) (hs.elem (qAa (qAj [] (by omega))))) rfl<|J.b rfl<|J.c j16<|J.f λ_ j17=>J.q 2 rfl<|J.p (qAB rfl rfl ent72 (Ct.use0 (λF' hF=>qVT F' (ks.getD i []) (by first|omega|exact hsm _|exact jk rfl) d (by omega)))) rfl λg38 _=>J.q 5 rfl<|J.c j17<|J.k λ_ j18=>?_
  have hib:=qYh (b:=b) (d:=d) (k:=ks.getD i []) hb0
  refine J.H<|J.b O<|J.g (qAe O O O) O<|J.b O<|J.b9 (d:=43) O (λh43=>?_) (λh43=>?_)
  ·
   refine J.q 4 O<|J.c j18<|J.c4 ?_
   refine J.k λ_ j19=>?_
   have hno:=qQ3 (ks:=ks) (i:=i) (by omega)
   exact J.H<|J.b O<|J.c j19<|J.A<|J.a7<|J.V<|J.V<|J.a7<|J.V<|J.E hw0 O () (by(first|rw [qEG (by omega)]|rw [qC9 (by omega) (by omega)]|rw [qDA (by omega) (by omega) (by omega)]|rw [qC8 hc0 h256 hbn hno (λe=>by have:=hib.1 e;omega)]|rw [qDZ hc0 h256 hbn hall])<;>rfl) trivial [0] rfl (by decide)
  refine J.q 2 O<|J.G (qAe O O O) O<|J.b O<|J.c j18<|J.W O (λh47=>?_) (λh47=>?_)
  ·
   refine J.k λ_ j20=>?_
   have hno:=qQ3 (ks:=ks) (i:=i) (by omega)
   exact J.H<|J.b O<|J.c j20<|J.A<|J.a7<|J.V<|J.V<|J.a7<|J.V<|J.E hw0 O () (by(first|rw [qEG (by omega)]|rw [qC9 (by omega) (by omega)]|rw [qDA (by omega) (by omega) (by omega)]|rw [qC8 hc0 h256 hbn hno (λe=>by have:=hib.1 e;omega)]|rw [qDZ hc0 h256 hbn hall])<;>rfl) trivial [0] rfl (by decide)
  refine J.b5<|J.a2<|J.u (J.D j15 ?_)
  exact J.H<|J.g ((qAS O O O (by omega)).nat (i+1) (by omega)) O<|J.b O<|J.a3<|J.u<|J.a4 (i+1) (λη (hη:_∧n-η<n-i)=>hI1 η hη.1 hη.2) ⟨⟨by omega,qUg (by omega) hall (hib.2 ⟨by omega,by omega⟩)⟩,by first|omega|(dsimp only;omega)⟩ ⟨O,O,O,O,O,trivial⟩ (λ_ h=>h)
 refine J.b2<|J.a0<|J.a0<|J.b3 ?_
 refine J.u (J.D j11 ?_)
 refine J.k λ_ j21=>?_
 obtain rfl:i=ks.length:=by omega
 rw [jo] at hall
 exact J.H<|J.b O<|J.c j21<|J.A<|J.E hw0 O () (by(first|rw [qEG (by omega)]|rw [qC9 (by omega) (by omega)]|rw [qDA (by omega) (by omega) (by omega)]|rw [qC8 hc0 h256 hbn hno (λe=>by have:=hib.1 e;omega)]|rw [qDZ hc0 h256 hbn hall])<;>rfl) trivial [0] rfl (by decide)
theorem ent37:qAD prog 37:=qAD.of func37 rfl (by kernel_rfl)
theorem ent140:qAD prog 140:=qAD.of func140 rfl (by kernel_rfl)
theorem ent142:qAD prog 142:=qAD.of func142 rfl (by kernel_rfl)
theorem el234:qCe prog 234 [Str [],Str [],.slice none 0 0,.bool false,Str [],Str []] 96:=qCe.of (by kernel_rfl) rfl
theorem qSh(F:Hp)(hK:KF F)(g:Nat)(l:List Sm.PR)(hT:qCU F g l)(hf:qCJ l)(hln:l.length≤90000)(b d:Nat)(hd:d≤4)(hb:b<2^d)(A0:Option Addr)(n0 c0:Nat)(cl:List Chg)(hs:Sl F 2 A0 n0 c0 (qDR cl))(hch:qSQ b d cl):
    Ct prog 73 [Ptr g,I ((b:Nat):Int),I ((d:Nat):Int),.slice A0 n0 c0] [F] (λr:MkR=> .tuple #[.agg #[I ((b:Nat):Int),I ((d:Nat):Int),Str (Sm.ndB l (kF b d) d),Str (Sm.ndB (kvC l cl) (kF b d) d),.slice r.A r.L.length r.c],Ptr r.g,I 0]) (MkP l d cl) (λr=> [F,r.mt,r.ms,r.M]):=by
  have hcn:cl.length=n0:=by have:=hs.1;simpa [qDR] using this
  have hc256:=hch.len
  have hmay:=hch.may hd hb
  have hmd:min (((d:Nat):Int)).toNat 128=d:=by rw [jT];omega
  have hkb:=qHr b d
  refine Ct.walk func73 rfl ntmps73 rfl (λw0 hw0=>?_)
  refine J.f λ_ j1=>J.p (qAL O zeroValue165 O) O λg8 _=>J.q 2 O<|J.c j1<|J.f λ_ j2=>J.b O<|J.c j2<|J.k λ_ j3=>J.f λ_ j4=>J.b O<|J.g (qAU qOw O O) O<|J.b O<|J.c j4<|J.O<|J.b4 (X:=Nat×Option Addr×Nat×Hp) (λζ=> [(0,Ptr g),(1,I ((b:Nat):Int)),(2,I ((d:Nat):Int)),(3,.slice A0 n0 c0),(8,Ptr g8),(11,.slice ζ.2.1 ((qGp cl ζ.1).length) ζ.2.2.1),(22,.slice A0 n0 c0),(23,I ((n0:Nat):Int)),(24,I ((ζ.1:Nat):Int))]) (λζ=> [F,blk g8 [I 0,I 0,Str [],Str [],.slice none 0 0] 165,ζ.2.2.2]) (λζ=>ζ.1≤n0∧Row ζ.2.2.2 9 1 ζ.2.1 (qGp cl ζ.1).length ζ.2.2.1 (qAI (qGp cl ζ.1))) (λζ=>n0-ζ.1) (0,none,0,(λ_=>none)) (⟨jG _,qBb.nil⟩) ⟨O,O,O,O,O,O,O,O,O,trivial⟩ (λ_ h=>h.empty.pick [0,1,2] (by decide)) ?_
  rintro⟨i,A1,c1,m1⟩ ⟨hi,hr1⟩ I0 hI0
  dsimp only at hi hr1⊢
  have hkl:=qQ5 (cl:=cl) (i:=i) (by omega)
  refine J.f λ_ j5=>J.g (qAT O O O) O<|J.c j5<|J.k λ_ j6=>J.W O (λh25=>?_) (λh25=>?_)
  ·
    refine J.M j6<|J.k λ_ j7=>J.O<|J.f λ_ j8=>J.g (qAH O O O qOw qFZ hs (by omega)) O<|J.g (qAX O O isAgg153 qFZ (m:=F) (by simp) (hs.elem (qG2 (by omega))) rfl) rfl<|J.p (qAL rfl zeroValue153 rfl) rfl λg13 _=>J.a6 (qAF (i:=3) (l:= [Str [],Str []]) (vs:= [Str ((cl.getD i qAu).k),Str ((cl.getD i qAu).v)]) rfl rfl rfl rfl rfl qFZ rfl rfl) rfl rfl λ_ _=>J.c j8<|J.H<|J.b rfl<|J.T 0 qLJ z9_ rfl rfl rfl rfl rfl<|J.a5 3 b9_ rfl rfl rfl rfl rfl<|J.p (qAG (l:= [.tmp 30]) (xs:= [[Str ((cl.getD i qAu).k)]]) rfl rfl rfl rfl qAk el9 rfl (by decide) (by decide) (by simp)) rfl λg31 _=>?_
    change J _ _ _ [_,_,_,_,blk g31 [Str ((cl.getD i qAu).k)] 9] _
    refine J.p (qAV (i:=2) (xs:=qAI (qGp cl i)) (m2:=blk g31 [Str ((cl.getD i qAu).k)] 9) (ys:= [[Str ((cl.getD i qAu).k)]]) O O O qAk qAk el9 O hr1 (by simp) ((qBD (q:=True) (qAI [(cl.getD i qAu).k]) rfl (by simp [qAI]) rfl).sl) rfl (by omega) (by omega)) rfl ?_
    rintro⟨A32,c32,m32⟩ h32
    try dsimp only at h32
    change J _ ((32,.slice A32 (((qGp cl i).length)+1) c32)::_) _ [_,_,m32,_,_] _
    rw [←qB4] at h32
    refine J.b O<|J.a3<|J.a2<|J.u (J.D j7 ?_)
    exact J.H<|J.g ((qAS O O O (by omega)).nat (i+1) (by omega)) O<|J.b O<|J.a3<|J.u<|J.a4 (i+1,A32,c32,m32) (λη (hη:_∧n0-η.1<n0-i)=>hI0 η hη.1 hη.2) ⟨⟨by dsimp only;omega,by dsimp only;rw [qHp (by omega),jA];exact h32⟩,by first|omega|(dsimp only;omega)⟩ ⟨rfl,rfl,rfl,rfl,rfl,by dsimp only;rw [qHp (by omega),jA];rfl,rfl,rfl,rfl,trivial⟩ (λ_ h=>h.pick [0,1,2] (by decide))
  refine J.b2<|J.a0<|J.a0<|J.b3 ?_
  refine J.u (J.D j3 ?_)
  refine J.k λ_ j9=>J.k λ_ j10=>?_
  obtain rfl:i=cl.length:=by omega
  rw [qQ6] at hr1 hkl⊢
  have hsk:=hch.smallK
  refine J.H<|J.q 3 O<|J.p (qAB O O ent140 (Ct.use0 (λF' hF=>qVi F' ((b:Nat):Int) ((d:Nat):Int) A1 ((cl.map Chg.k).length) c1 (cl.map Chg.k) (hr1.sl.mono (Fa hF)) (by omega) (by assumption)))) O λg37 _=>J.b O<|J.c j10<|J.f λ_ j11=>J.b O<|J.g ((qAe O O O).no (by rw [hmay];decide)) rfl<|J.q 2 rfl<|J.G ((qA6 qLK rfl rfl rfl).as (v':= .bool false) rfl) rfl<|J.b rfl<|J.c j11<|J.a1 ?_
  refine J.M j9<|J.f λ_ j12=>J.q 2 O<|J.p (qAB O O ent141 (Ct.use0 (λF' hF=>qKX F' b d (by omega) (by assumption)))) O λg50 _=>J.b O<|J.c j12<|J.f λ_ j13=>J.b O<|J.p (qAB O O ent142 (Ct.use (λF' hF=>Ct.swap2 (qSj F' g l (hT.mono (Fa hF)))))) O ?_
  rintro⟨g52,m52⟩ h52
  try dsimp only at h52
  refine J.b O<|J.c j13<|J.f λ_ j14=>J.q 5 O<|J.p (qAB O O ent93 (Ct.use0 (λF' hF=>qFk F' (hK.mo hF) g l (hT.mono (Fa hF)) (by assumption) (kF b d) (by first|omega|decide) ((d:Nat):Int) (by first|assumption|exact qIE (by assumption)|exact qMN (by assumption) (by assumption))))) O λg58 _=>?_
  rw [hmd]
  refine J.g (qAK (places:= [(0,1),(1,1),(2,1),(3,1),(4,1)]) (r:= [I ((b:Nat):Int),I ((d:Nat):Int),Str (Sm.ndB l (kF b d) d),Str [],.slice none 0 0]) O O O underlying165 zeroValue165 (λ_=>by kernel_rfl) O) O<|J.p (qAL O zeroValue165 O) O λg17 _=>J.a6 (qAF (i:=4) (l:= [I 0,I 0,Str [],Str [],.slice none 0 0]) (vs:= [I ((b:Nat):Int),I ((d:Nat):Int),Str (Sm.ndB l (kF b d) d),Str [],.slice none 0 0]) O O O O O sizeOf165 O O) O O λ_ _=>J.c j14<|J.k λ_ j15=>J.f λ_ j16=>J.b O<|J.g (qAU qOw O O) O<|J.b O<|J.c j16<|J.O<|J.b4 (X:=Nat×List qBe×Option Addr×Nat×Hp×Hp×Hp) (λζ=> [(2,I ((d:Nat):Int)),(8,Ptr g8),(15,Str (kF b d)),(16,Ptr g52),(17,Ptr g17),(60,.slice A0 n0 c0),(61,I ((n0:Nat):Int)),(62,I ((ζ.1:Nat):Int))]) (λζ=> [ζ.2.2.2.2.2.2,F,blk g8 [I 0,I 0,Str [],Str [],.slice none 0 0] 165,blk g17 [I ((b:Nat):Int),I ((d:Nat):Int),Str (Sm.ndB l (kF b d) d),Str ([]),.slice ζ.2.2.1 ζ.2.1.length ζ.2.2.2.1] 165,ζ.2.2.2.2.2.1,ζ.2.2.2.2.1]) (λζ=>ζ.1≤cl.length∧ζ.2.1.map qBe.chg=cl.take ζ.1∧qDL l d ζ.2.1∧Row ζ.2.2.2.2.1 234 6 ζ.2.2.1 ζ.2.1.length ζ.2.2.2.1 (qJj ζ.2.1)∧qFg ζ.2.2.2.2.2.1 g52 ((kvC l (cl.take ζ.1)))∧qOz ζ.2.2.2.2.2.2 ζ.2.1) (λζ=>cl.length-ζ.1) (0,[],none,0,(λ_=>none),m52,(λ_=>none)) (⟨jG _,O,qDL.nil _ _,qBb.nil,h52,qOz.nil _⟩) ⟨O,O,O,O,O,O,O,O,trivial⟩ (λ_ h=>h.empty.empty.pick [5,0,1,4,3,6] (by decide)) ?_
  rintro⟨i,L,As,cs,ms,mt,M⟩ ⟨hi,hL,hok,hst,ht,hbs⟩ I2 hI2
  dsimp only at hi hL hok hst ht hbs⊢
  refine J.f λ_ j17=>J.g (qAT O O O) O<|J.c j17<|J.k λ_ j18=>J.W O (λh63=>?_) (λh63=>?_)
  ·
    refine J.M j18<|J.k λ_ j19=>J.O<|J.k λ_ j20=>?_
    obtain ⟨hk16,hkb2,hkv⟩:=hch.at (i:=i) (by omega)
    have hfi:=hch.fine hf hln i
    have hLl:=congrArg List.length hL
    rw [jN,jF] at hLl
    refine J.H<|J.g (qAH O O O qOw qFZ hs (by omega)) O<|J.g (qAX O O isAgg153 qFZ (m:=F) (by simp) (hs.elem (qG2 (by omega))) rfl) rfl<|J.p (qAL rfl zeroValue153 rfl) rfl λg19 _=>J.a6 (qAF (i:=6) (l:= [Str [],Str []]) (vs:= [Str ((cl.getD i qAu).k),Str ((cl.getD i qAu).v)]) rfl rfl rfl rfl rfl qFZ rfl rfl) rfl rfl λ_ _=>J.c j20<|J.f λ_ j21=>J.b rfl<|J.T 0 qLJ z9_ rfl rfl rfl rfl rfl<|J.a5 6 b9_ rfl rfl rfl rfl rfl<|J.b rfl<|J.p (qAB rfl rfl ent37 (Ct.use (λF' hF=>qEd F' (hK.mo hF) g52 (kvC l (cl.take i)) (ht.at.mono (Fa hF)) hfi (cl.getD i qAu).k hk16 d (by omega)))) rfl ?_
    rintro⟨s71,A71,c71,m71⟩ ⟨hst71,hr71⟩
    refine J.q 3 O<|J.p (qAL O qOo O) O λg20 _=>J.a6 (qAF (i:=8) (l:= [.slice none 0 0,.bool false,Str [],Str []]) (vs:= [.slice A71 ((bsd (kvC l (cl.take i)) (cl.getD i qAu).k d (s71-d)).length) c71,.bool (qAo (kvC l (cl.take i)) (cl.getD i qAu).k s71),Str (qBo (kvC l (cl.take i)) (cl.getD i qAu).k s71),Str (qBr (kvC l (cl.take i)) (cl.getD i qAu).k s71)]) O O O O O qCl O O) O O λ_ _=>J.b O<|J.c j21<|J.k λ_ j22=>J.f λ_ j23=>J.b O<|J.g ((qAe O O O).no (by decide)) O<|J.c j23<|J.a1 ?_
    refine J.M j22<|J.k λ_ j24=>?_
    obtain ⟨x,hx⟩: ∃x:qBe,x=(⟨(cl.getD i qAu).k,(cl.getD i qAu).v,A71,c71,bsd ((kvC l (cl.take i))) (cl.getD i qAu).k d (s71-d),qAo ((kvC l (cl.take i))) (cl.getD i qAu).k s71,qBo ((kvC l (cl.take i))) (cl.getD i qAu).k s71,qBr ((kvC l (cl.take i))) (cl.getD i qAu).k s71⟩:qBe):=⟨_,rfl⟩
    refine J.H<|J.T 4 underlying165 sizeOf163 O O O O O<|J.a5 3 isAgg163 O O O O O<|J.b7 6 isAgg153 qFZ O O O O O<|J.b7 8 qF1 qCl O O O O O<|J.g (qAK (places:= [(0,2),(2,4)]) (r:= [Str ((cl.getD i qAu).k),Str ((cl.getD i qAu).v),.slice A71 ((bsd (kvC l (cl.take i)) (cl.getD i qAu).k d (s71-d)).length) c71,.bool (qAo (kvC l (cl.take i)) (cl.getD i qAu).k s71),Str (qBo (kvC l (cl.take i)) (cl.getD i qAu).k s71),Str (qBr (kvC l (cl.take i)) (cl.getD i qAu).k s71)]) O O O underlying234 zeroValue234 (λ_=>by kernel_rfl) O) O<|J.p (qAG (l:= [.tmp 82]) (xs:= [[Str ((cl.getD i qAu).k),Str ((cl.getD i qAu).v),.slice A71 ((bsd (kvC l (cl.take i)) (cl.getD i qAu).k d (s71-d)).length) c71,.bool (qAo (kvC l (cl.take i)) (cl.getD i qAu).k s71),Str (qBo (kvC l (cl.take i)) (cl.getD i qAu).k s71),Str (qBr (kvC l (cl.take i)) (cl.getD i qAu).k s71)]]) O O O O underlying163 el234 O (by decide) (by decide) (by simp)) rfl λg83 _=>J.p (qAV (i:=5) (m2:=blk g83 [Str ((cl.getD i qAu).k),Str ((cl.getD i qAu).v),.slice A71 ((bsd (kvC l (cl.take i)) (cl.getD i qAu).k d (s71-d)).length) c71,.bool (qAo (kvC l (cl.take i)) (cl.getD i qAu).k s71),Str (qBo (kvC l (cl.take i)) (cl.getD i qAu).k s71),Str (qBr (kvC l (cl.take i)) (cl.getD i qAu).k s71)] 234) rfl rfl rfl underlying163 underlying163 el234 rfl hst (by simp) ((qAl (q:=True) (xs:=qJj [(⟨(cl.getD i qAu).k,(cl.getD i qAu).v,A71,c71,(bsd (kvC l (cl.take i)) (cl.getD i qAu).k d (s71-d)),qAo (kvC l (cl.take i)) (cl.getD i qAu).k s71,qBo (kvC l (cl.take i)) (cl.getD i qAu).k s71,qBr (kvC l (cl.take i)) (cl.getD i qAu).k s71⟩:qBe)]) rfl (by intro x hx;rw [List.mem_singleton.1 hx];rfl)).sl) rfl (by omega) (by omega)) rfl ?_
    rintro⟨A84,c84,m84⟩ h84
    try dsimp only at h84
    replace h84:Row m84 234 6 A84 (L.length+1) c84 (qJj (L++ [x])):=by rw [qN2,hx];exact h84
    rw [show L.length+1=(L++ [x]).length by rw [jA];rfl] at h84⊢
    refine J.T 4 underlying165 sizeOf163 O O O O O<|J.a6 (qAW (i:=3) O O O O O sizeOf163 O (by simp)) rfl rfl λ_ _=>J.c j24<|J.H<|J.b rfl<|J.T 0 qLJ z9_ rfl rfl rfl rfl rfl<|J.a5 6 b9_ rfl rfl rfl rfl rfl<|J.T 1 qLJ z9_ rfl rfl rfl rfl rfl<|J.a5 6 b9_ rfl rfl rfl rfl rfl<|J.p (qAB rfl rfl ent118 (Ct.use1 4 rfl (λF' hF=>qPV F' mt g52 (kvC l (cl.take i)) ht ((cl.getD i qAu).k) ((cl.getD i qAu).v) (by first|omega|rfl|assumption)))) rfl ?_
    rintro m91 h91
    refine J.c1 [0,7,1,2,3,4,5] [M,m71,F,blk g8 [I 0,I 0,Str [],Str [],.slice none 0 0] 165,blk g17 [I ((b:Nat):Int),I ((d:Nat):Int),Str (Sm.ndB l (kF b d) d),Str ([]),.slice A84 ((L++ [x]).length) c84] 165,m91,m84] O (by decide)<|J.d1 (λhj=>?_)
    refine J.a3<|J.a2<|J.u (J.D j19 ?_)
    exact J.H<|J.g ((qAS O O O (by omega)).nat (i+1) (by omega)) O<|J.b O<|J.a3<|J.u<|J.a4 (i+1,L++ [x],A84,c84,m84,m91,U [M,m71]) (λη (hη:_∧cl.length-η.1<cl.length-i)=>hI2 η hη.1 hη.2) ⟨⟨by dsimp only;omega,qUO (by omega) hL (by rw [hx]) (by rw [hx]),hok.snoc (by rw [hL,hx];exact qKw.of hfi (by have:=qQ2 l (cl.take i);rw [jF] at this;omega) hk16 hkv hst71 A71 c71),h84,by dsimp only;rw [qTw (by omega)];exact h91,(hbs.mono (qGl hj)).snoc (by rw [hx];exact hr71.sl.mono (qSL hj))⟩,by first|omega|(dsimp only;omega)⟩ ⟨rfl,rfl,rfl,rfl,rfl,rfl,rfl,rfl,trivial⟩ (λ_ h=>h)
  refine J.b2<|J.a0<|J.a0<|J.b3 ?_
  refine J.u (J.D j15 ?_)
  refine J.k λ_ j25=>?_
  have hfi:=hch.fine hf hln i
  refine J.H<|J.q 3 O<|J.p (qAB O O ent93 (Ct.use0 (λF' hF=>qFk F' (hK.mo hF) g52 (kvC l (cl.take i)) (ht.at.mono (Fa hF)) (by assumption) (kF b d) (by first|omega|decide) ((d:Nat):Int) (by first|assumption|exact qIE (by assumption)|exact qMN (by assumption) (by assumption))))) rfl λg96 _=>?_
  rw [hmd]
  exact J.T 3 underlying165 z9_ O O O O O<|J.a6 (qAW (i:=3) O O O O O z9_ O (by simp)) rfl rfl λ_ _=>J.c j25<|J.f λ_ j26=>J.b7 3 isAgg165 sizeOf165 rfl rfl rfl rfl rfl<|J.b rfl<|J.a6 (qAF (i:=2) (l:= [I 0,I 0,Str [],Str [],.slice none 0 0]) (vs:= [I ((b:Nat):Int),I ((d:Nat):Int),Str (Sm.ndB l (kF b d) d),Str (Sm.ndB (kvC l (cl.take i)) (kF b d) d),.slice As L.length cs]) rfl rfl rfl rfl rfl sizeOf165 rfl rfl) rfl rfl λ_ _=>J.q 2 rfl<|J.c j26<|J.A<|J.a9 hw0 (λ_ _ h=>h) (rv3 rfl (RV.blkA 2 rfl rfl isAgg165 sizeOf165) rfl rfl) (qAq (⟨As,cs,ms,g52,mt,M,L⟩:MkR) (by rw [show i=cl.length by omega,jo]) ⟨by rw [hL,show i=cl.length by omega,jo],hok,hst,by rw [show i=cl.length by omega,jo] at ht;exact ht,hbs⟩ [1,4,5,0] rfl (by decide))
end Go.Proofs.YtcgcjaflllmlpaaGreatDoor
