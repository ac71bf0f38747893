/- A part of the proof. -/
import Derived.Test.YtllnfioplpipiaaGreatDoorTopOrG8
import Derived.Test.YtllnfioplpipiaaGreatDoorTopOrG20
import Derived.Test.YtllnfioplpipiaaGreatDoorTopOrG38
set_option linter.unusedSimpArgs false
set_option linter.unusedVariables false
namespace Go.Proofs.YtllnfioplpipiaaGreatDoor
open Go Go.Fw Go.Proofs.Tryz
set_option maxRecDepth 100000
set_option maxHeartbeats 1000000
theorem ent112:qAD prog 112:=qAD.of func112 rfl (by kernel_rfl)
theorem ent209:qAD prog 209:=qAD.of func209 rfl (by kernel_rfl)
theorem qPI(F:Hp)(g:Nat)(l:List Sm.PR)(hT:qCF F g l):Ct prog 171 [Ptr g] [F] (λx:Nat×Hp=>Ptr x.1) (λx=>qEh x.2 x.1 l) (λx=> [x.2,F]):=by
 have hT0:=hT
 obtain ⟨gm,hc,hm⟩:=hT0
 refine Ct.walk func171 rfl ntmps171 rfl (λw0 hw0=>?_)
 change J _ [(0,_)] _ _ _
 refine J.g λK1 hK1=>J.b O<|J.c hK1<|J.u 0 ?_
 refine J.j λK2 hK2=>J.g λK3 hK3=>J.b O<|J.f ((qA6 qJW O O O).as (v':= .bool false) O) O<|J.c hK3<|J.E 0 4 ?_
 refine J.a5 ?_
 refine J.W hK2<|J.u 0 ?_
 refine J.g λK4 hK4=>J.b O<|J.f (qAC O O) O<|J.a3 0 qJU sizeOf174 O O O O O<|J.f (qAJ (v:= .map (some gm)) O O isAgg174 (m:=F) (by simp) (hc)) rfl<|J.k (qAA rfl rfl ent209 (Ct.use (new:=λx:Nat×Hp=> [x.2]) (λF' hF=>qNp F' gm (ssM l) (hm.mono (hF F (by simp)))))) rfl ?_
 rintro⟨g9,m9⟩ h9
 try dsimp only at h9
 change J _ ((9,.map (some g9))::_) _ [F,m9] _
 refine J.f (qAM (l:= [(0,.tmp 9)]) (vs:= [.map (some g9)]) (places:= [(0,1)]) (r:= [.map (some g9)]) O O O qJU zeroValue176 (λ_=>by kernel_rfl) O) O<|J.k (qAi (l:= [.map (some g9)]) O O O) O λg11 _=>?_
 change J _ _ _ [_,_,blk g11 [.map (some g9)] 176] _
 refine J.b O<|J.c hK4<|J.u 2 ?_
 exact J.D<|J.b2 hw0 (λ_ _ h=>h) (qIJ O O) (qBr (g11,U [blk g11 [.map (some g9)] 176,m9]) (O) (λhd=>⟨g9,m9,O,hd,h9⟩) [2,1,0] O O (by decide))
theorem qRw(F:Hp)(b z:Int)(A:Option Addr)(n c:Nat)(ks:List (List UInt8))(hs:Sl F 1 A n c (qAG ks))(hn:n≤1000000)(hsm: ∀k:Nat,(ks.getD k []).length≤1000000):Ct prog 60 [I (b),I (z),.slice A n c] [F] (λ_:Unit=>I ((qFD b z ks:Nat):Int)) (λ_=>True) (λ_=> [F]):=by
 have hkn:ks.length=n:=by have:=hs.1;simpa [qAG] using this
 refine Ct.walk func60 rfl ntmps60 rfl (λw0 hw0=>?_)
 change J _ [(0,_),(1,_),(2,_)] _ _ _
 refine J.g λK1 hK1=>J.b O<|J.c hK1<|J.G 0 1 2 ?_
 refine J.g λK2 hK2=>J.b O<|J.k (qAA O O ent27 (Ct.use0 (λF' hF=>qCC F' z))) O λg13 _=>J.b O<|J.c hK2<|J.O 0 1 2 7 ?_
 refine J.j λK3 hK3=>J.V<|J.g λK4 hK4=>J.b O<|J.f (qAY O O O) O<|J.b O<|J.c hK4<|J.a0 0 1 2 7 14 ?_
 refine J.a2 O (λh14=>?_) (λh14=>?_)
 ·
  refine J.g λK5 hK5=>J.b O<|J.c hK5<|J.u 6 ?_
  exact J.D<|J.b1<|J.a4<|J.M hw0 O () (by(first|rw [qDV (by omega)]|rw [qCc (by omega) (by omega)]|rw [qCd (by omega) (by omega) (by omega)]|rw [qCb hc0 h256 hbn hno (λe=>by have:=hib.1 e;omega)]|rw [qCy hc0 h256 hbn hall])<;>rfl) trivial [0] rfl (by decide)
 refine J.g λK6 hK6=>J.b O<|J.f (qAP qAe O O) O<|J.f (qAz O O O) O<|J.b O<|J.c hK6<|J.a0 0 1 2 7 17 ?_
 refine J.a2 O (λh17=>?_) (λh17=>?_)
 ·
  refine J.g λK7 hK7=>J.b O<|J.c hK7<|J.u 6 ?_
  exact J.D<|J.b1<|J.a4<|J.M hw0 O () (by(first|rw [qDV (by omega)]|rw [qCc (by omega) (by omega)]|rw [qCd (by omega) (by omega) (by omega)]|rw [qCb hc0 h256 hbn hno (λe=>by have:=hib.1 e;omega)]|rw [qCy hc0 h256 hbn hall])<;>rfl) trivial [0] rfl (by decide)
 refine J.g λK8 hK8=>J.b O<|J.f (qAT O O O) O<|J.b O<|J.c4 (d:=24) O (λh24=>?_) (λh24=>?_)
 ·
  refine J.p 5 O<|J.c hK8<|J.O 0 1 2 21 ?_
  refine J.d0 ?_
  refine J.g λK9 hK9=>J.b O<|J.c hK9<|J.u 6 ?_
  exact J.D<|J.b1<|J.a4<|J.M hw0 O () (by(first|rw [qDV (by omega)]|rw [qCc (by omega) (by omega)]|rw [qCd (by omega) (by omega) (by omega)]|rw [qCb hc0 h256 hbn hno (λe=>by have:=hib.1 e;omega)]|rw [qCy hc0 h256 hbn hall])<;>rfl) trivial [0] rfl (by decide)
 refine J.p 2 O<|J.Z (qBN O O O) O<|J.p 2 O<|J.c hK8<|J.O 0 1 2 21 ?_
 refine J.a2 O (λh21=>?_) (λh21=>?_)
 ·
  refine J.g λK10 hK10=>J.b O<|J.c hK10<|J.u 6 ?_
  exact J.D<|J.b1<|J.a4<|J.M hw0 O () (by(first|rw [qDV (by omega)]|rw [qCc (by omega) (by omega)]|rw [qCd (by omega) (by omega) (by omega)]|rw [qCb hc0 h256 hbn hno (λe=>by have:=hib.1 e;omega)]|rw [qCy hc0 h256 hbn hall])<;>rfl) trivial [0] rfl (by decide)
 refine J.b7<|J.a6<|J.A (J.H hK3 ?_)
 refine J.G 0 1 2 ?_
 refine J.j λK11 hK11=>J.j λK12 hK12=>?_
 obtain ⟨d,rfl⟩:=Int.eq_ofNat_of_zero_le (show 0≤z by unfold cnt at h14;split at h14<;>omega)
 have hd:d≤4:=by unfold cnt at h14;split at h14<;>omega
 have hb0:0≤b:=by omega
 have hbn: ¬(b<0∨((cnt (d:Int):Nat):Int)≤b):=by omega
 have hc0: ¬cnt (d:Int)=0:=by omega
 have h256: ¬256<ks.length:=by omega
 refine J.L<|J.b O<|J.f (qAP qAe O O) O<|J.b O<|J.c hK12<|J.a0 0 1 29 30 31 ?_
 refine J.V<|J.b6 (X:=Nat) (λζ=> [(0,I (b)),(1,I ((d:Nat):Int)),(29,.slice A n c),(30,I ((n:Nat):Int)),(31,I ((ζ:Nat):Int))]) (λζ=> [F]) (λζ=>ζ≤n∧ ∀k∈ks.take ζ,inB b.toNat d k) (λζ=>n-ζ) 0 (⟨Nat.zero_le _,λk h=>by simp at h⟩) ⟨rfl,rfl,rfl,rfl,rfl,trivial⟩ (λ_ h=>h) ?_
 rintro i ⟨hi,hall⟩ I1 hI1
 refine J.g λK13 hK13=>J.f (qAT O O O) O<|J.c hK13<|J.b8 0 1 29 30 31 32 ?_
 refine J.j λK14 hK14=>J.a2 O (λh32=>?_) (λh32=>?_)
 ·
  refine J.W hK14<|J.a0 0 1 29 30 31 ?_
  refine J.j λK15 hK15=>J.V<|J.g λK16 hK16=>J.f (qAH (i:=i) O O O qAe z9_ hs (by omega)) O<|J.f (qAJ O O b9_ (m:=F) (by simp) (hs.elem (qAQ (qAc [] (by omega))))) rfl<|J.b rfl<|J.c hK16<|J.b8 0 1 9 29 30 31 ?_
  refine J.g λK17 hK17=>J.p 2 O<|J.k (qAA O O ent112 (Ct.use0 (λF' hF=>qRh F' (ks.getD i []) (by first|omega|exact hsm _|exact Nat.le_of_ble_eq_true O) d (by omega)))) O λg38 _=>J.p 5 O<|J.c hK17<|J.c2 0 1 10 11 29 30 31 ?_
  refine J.j λK18 hK18=>?_
  have hib:=qUT (b:=b) (d:=d) (k:=ks.getD i []) hb0
  refine J.L<|J.b O<|J.f (qAb O O O) O<|J.b O<|J.c4 (d:=43) O (λh43=>?_) (λh43=>?_)
  ·
   refine J.p 4 O<|J.c hK18<|J.b8 0 1 29 30 31 47 ?_
   refine J.d0 ?_
   refine J.j λK19 hK19=>?_
   have hno:=qN5 (ks:=ks) (i:=i) (by omega)
   refine J.L<|J.b O<|J.c hK19<|J.u 6 ?_
   exact J.D<|J.b1<|J.a4<|J.a4<|J.b1<|J.a4<|J.M hw0 O () (by(first|rw [qDV (by omega)]|rw [qCc (by omega) (by omega)]|rw [qCd (by omega) (by omega) (by omega)]|rw [qCb hc0 h256 hbn hno (λe=>by have:=hib.1 e;omega)]|rw [qCy hc0 h256 hbn hall])<;>rfl) trivial [0] rfl (by decide)
  refine J.p 2 O<|J.Z (qAb O O O) O<|J.b O<|J.c hK18<|J.b8 0 1 29 30 31 47 ?_
  refine J.a2 O (λh47=>?_) (λh47=>?_)
  ·
   refine J.j λK20 hK20=>?_
   have hno:=qN5 (ks:=ks) (i:=i) (by omega)
   refine J.L<|J.b O<|J.c hK20<|J.u 6 ?_
   exact J.D<|J.b1<|J.a4<|J.a4<|J.b1<|J.a4<|J.M hw0 O () (by(first|rw [qDV (by omega)]|rw [qCc (by omega) (by omega)]|rw [qCd (by omega) (by omega) (by omega)]|rw [qCb hc0 h256 hbn hno (λe=>by have:=hib.1 e;omega)]|rw [qCy hc0 h256 hbn hall])<;>rfl) trivial [0] rfl (by decide)
  refine J.b7<|J.a6<|J.A (J.H hK15 ?_)
  refine J.a0 0 1 29 30 31 ?_
  exact J.L<|J.f ((qAO O O O (by omega)).nat (i+1) (by omega)) O<|J.b O<|J.a7<|J.A<|J.a8 (i+1) (λη (hη:_∧n-η<n-i)=>hI1 η hη.1 hη.2) ⟨⟨by omega,qQ7 (by omega) hall (hib.2 ⟨by omega,by omega⟩)⟩,by first|omega|(dsimp only;omega)⟩ ⟨O,O,O,O,O,trivial⟩ (λ_ h=>h)
 refine J.b4<|J.a1<|J.a1<|J.b5 ?_
 refine J.A (J.H hK11 ?_)
 refine J.c3 [] trivial<|J.j λK21 hK21=>?_
 obtain rfl:i=ks.length:=by omega
 rw [List.take_length] at hall
 refine J.L<|J.b O<|J.c hK21<|J.u 6 ?_
 exact J.D<|J.M hw0 O () (by(first|rw [qDV (by omega)]|rw [qCc (by omega) (by omega)]|rw [qCd (by omega) (by omega) (by omega)]|rw [qCb hc0 h256 hbn hno (λe=>by have:=hib.1 e;omega)]|rw [qCy hc0 h256 hbn hall])<;>rfl) trivial [0] rfl (by decide)
theorem ent72:qAD prog 72:=qAD.of func72 rfl (by kernel_rfl)
theorem ent171:qAD prog 171:=qAD.of func171 rfl (by kernel_rfl)
theorem el140:qCQ prog 140 [Str [],Str [],.slice none 0 0,.bool false,Str [],Str []] 96:=qCQ.of (by kernel_rfl) rfl
theorem qPG(F:Hp)(hK:KF F)(g:Nat)(l:List Sm.PR)(hT:qCF F g l)(hf:qCI l)(hln:l.length≤90000)(b d:Nat)(hd:d≤4)(hb:b<2^d)(A0:Option Addr)(n0 c0:Nat)(cl:List Chg)(hs:Sl F 2 A0 n0 c0 (qCW cl))(hch:qO4 b d cl):
    Ct prog 113 [Ptr g,I ((b:Nat):Int),I ((d:Nat):Int),.slice A0 n0 c0] [F] (λr:MkR=> .tuple #[.agg #[I ((b:Nat):Int),I ((d:Nat):Int),Str (Sm.ndB l (kF b d) d),Str (Sm.ndB (kvC l cl) (kF b d) d),.slice r.A r.L.length r.c],Ptr r.g,I 0]) (MkP l d cl) (λr=> [F,r.mt,r.ms,r.M]):=by
  have hcn:cl.length=n0:=by have:=hs.1;simpa [qCW] using this
  have hc256:=hch.len
  have hmay:=hch.may hd hb
  have hmd:min (((d:Nat):Int)).toNat 128=d:=by rw [Int.toNat_natCast];omega
  have hkb:=qIh b d
  refine Ct.walk func113 rfl ntmps113 rfl (λw0 hw0=>?_)
  change J _ [(0,_),(1,_),(2,_),(3,_)] _ _ _
  refine J.g λK1 hK1=>J.k (qAN (l:= [I 0,I 0,Str [],Str [],.slice none 0 0]) O zeroValue72 O) O λg8 _=>?_
  change J _ _ _ [F,blk g8 [I 0,I 0,Str [],Str [],.slice none 0 0] 72] _
  refine J.p 2 O<|J.c hK1<|J.a0 0 1 2 3 8 ?_
  refine J.g λK2 hK2=>J.b O<|J.c hK2<|J.b8 0 1 2 3 8 11 ?_
  refine J.j λK3 hK3=>J.g λK4 hK4=>J.b O<|J.f (qAP qMH O O) O<|J.b O<|J.c hK4<|J.e1 0 1 2 3 8 11 22 23 24 ?_
  refine J.V<|J.b6 (X:=Nat×Option Addr×Nat×Hp) (λζ=> [(0,Ptr g),(1,I ((b:Nat):Int)),(2,I ((d:Nat):Int)),(3,.slice A0 n0 c0),(8,Ptr g8),(11,.slice ζ.2.1 ((qFf cl ζ.1).length) ζ.2.2.1),(22,.slice A0 n0 c0),(23,I ((n0:Nat):Int)),(24,I ((ζ.1:Nat):Int))]) (λζ=> [F,blk g8 [I 0,I 0,Str [],Str [],.slice none 0 0] 72,ζ.2.2.2]) (λζ=>ζ.1≤n0∧Row ζ.2.2.2 9 1 ζ.2.1 (qFf cl ζ.1).length ζ.2.2.1 (qAG (qFf cl ζ.1))) (λζ=>n0-ζ.1) (0,none,0,(λ_=>none)) (⟨Nat.zero_le _,qBU.nil⟩) ⟨O,O,O,O,O,O,O,O,O,trivial⟩ (λ_ h=>h.empty.pick [0,1,2] (by decide)) ?_
  rintro⟨i,A1,c1,m1⟩ ⟨hi,hr1⟩ I0 hI0
  dsimp only at hi hr1⊢
  have hkl:=qN7 (cl:=cl) (i:=i) (by omega)
  refine J.g λK5 hK5=>J.f (qAT O O O) O<|J.c hK5<|J.e5 0 1 2 3 8 11 22 23 24 25 ?_
  refine J.j λK6 hK6=>J.a2 O (λh25=>?_) (λh25=>?_)
  ·
    refine J.W hK6<|J.e1 0 1 2 3 8 11 22 23 24 ?_
    refine J.j λK7 hK7=>J.V<|J.g λK8 hK8=>J.f (qAH (i:=i) O O O qMH qEa hs (by omega)) O<|J.f (qAd (vs:= [Str ((cl.getD i qAU).k),Str ((cl.getD i qAU).v)]) O O isAgg122 qEa (m:=F) (by simp) (hs.elem (qFq (by omega))) rfl) rfl<|J.k (qAN (l:= [Str [],Str []]) rfl zeroValue122 rfl) rfl λg13 _=>?_
    change J _ _ _ [F,blk g8 [I 0,I 0,Str [],Str [],.slice none 0 0] 72,m1,blk g13 [Str [],Str []] 122] _
    refine J.b0 (qAI (i:=3) (l:= [Str [],Str []]) (vs:= [Str ((cl.getD i qAU).k),Str ((cl.getD i qAU).v)]) O O O O O qEa O O) O O λ_ _=>?_
    change J _ _ _ [_,_,_,blk g13 [Str ((cl.getD i qAU).k),Str ((cl.getD i qAU).v)] 122] _
    refine J.c hK8<|J.e5 0 1 2 3 8 11 13 22 23 24 ?_
    refine J.L<|J.b O<|J.a3 0 qJV z9_ O O O O O<|J.f (qAE 3 (v:=Str ((cl.getD i qAU).k)) O O O b9_ O) O<|J.k (qAF (l:= [.tmp 30]) (xs:= [[Str ((cl.getD i qAU).k)]]) O O O O qAe el9 O (by decide) (by decide) (by simp)) rfl λg31 _=>?_
    change J _ _ _ [_,_,_,_,blk g31 [Str ((cl.getD i qAU).k)] 9] _
    refine J.k (qAW (i:=2) (xs:=qAG (qFf cl i)) (m2:=blk g31 [Str ((cl.getD i qAU).k)] 9) (ys:= [[Str ((cl.getD i qAU).k)]]) O O O qAe qAe el9 O hr1 (by simp) ((qA4 (q:=True) (qAG [(cl.getD i qAU).k]) rfl (by simp [qAG]) rfl).sl) rfl (by omega) (by omega)) rfl ?_
    rintro⟨A32,c32,m32⟩ h32
    try dsimp only at h32
    change J _ ((32,.slice A32 (((qFf cl i).length)+1) c32)::_) _ [_,_,m32,_,_] _
    rw [←qBg] at h32
    refine J.b O<|J.a7<|J.a6<|J.A (J.H hK7 ?_)
    refine J.e1 0 1 2 3 8 11 22 23 24 ?_
    exact J.L<|J.f ((qAO O O O (by omega)).nat (i+1) (by omega)) O<|J.b O<|J.a7<|J.A<|J.a8 (i+1,A32,c32,m32) (λη (hη:_∧n0-η.1<n0-i)=>hI0 η hη.1 hη.2) ⟨⟨by dsimp only;omega,by dsimp only;rw [qGX (by omega),List.length_append];exact h32⟩,by first|omega|(dsimp only;omega)⟩ ⟨rfl,rfl,rfl,rfl,rfl,by dsimp only;rw [qGX (by omega),List.length_append];rfl,rfl,rfl,rfl,trivial⟩ (λ_ h=>h.pick [0,1,2] (by decide))
  refine J.b4<|J.a1<|J.a1<|J.b5 ?_
  refine J.A (J.H hK3 ?_)
  refine J.b8 0 1 2 3 8 11 ?_
  refine J.j λK9 hK9=>J.j λK10 hK10=>?_
  obtain rfl:i=cl.length:=by omega
  rw [qN8] at hr1 hkl⊢
  have hsk:=hch.smallK
  refine J.L<|J.p 3 O<|J.k (qAA O O ent60 (Ct.use0 (λF' hF=>qRw F' ((b:Nat):Int) ((d:Nat):Int) A1 ((cl.map Chg.k).length) c1 (cl.map Chg.k) (hr1.sl.mono (hF m1 (by simp))) (by omega) (by assumption)))) rfl λg37 _=>J.b rfl<|J.c hK10<|J.b8 0 1 2 3 8 14 ?_
  refine J.g λK11 hK11=>J.b O<|J.f ((qAb O O O).no (by rw [hmay];decide)) rfl<|J.p 2 rfl<|J.Z ((qA6 qJW rfl rfl rfl).as (v':= .bool false) rfl) rfl<|J.b rfl<|J.c hK11<|J.c2 0 1 2 3 8 14 43 ?_
  refine J.a5 ?_
  refine J.W hK9<|J.a0 0 1 2 3 8 ?_
  refine J.g λK12 hK12=>J.p 2 O<|J.k (qAA O O ent150 (Ct.use0 (λF' hF=>qIr F' b d (by omega) (by assumption)))) O λg50 _=>J.b O<|J.c hK12<|J.b8 0 1 2 3 8 15 ?_
  refine J.g λK13 hK13=>J.b O<|J.k (qAA O O ent171 (Ct.use (new:=λx:Nat×Hp=> [x.2]) (λF' hF=>Ct.swap2 (qPI F' g l (hT.mono (hF F (by simp))))))) rfl ?_
  rintro⟨g52,m52⟩ h52
  try dsimp only at h52
  change J _ ((52,Ptr g52)::_) _ [F,blk g8 [I 0,I 0,Str [],Str [],.slice none 0 0] 72,m1,m52] _
  refine J.b O<|J.c hK13<|J.c2 0 1 2 3 8 15 16 ?_
  refine J.g λK14 hK14=>J.p 5 O<|J.k (qAA O O ent138 (Ct.use0 (λF' hF=>qEj F' (hK.mo hF) g l (hT.mono (hF F (by simp))) (by assumption) (kF b d) (by first|omega|decide) ((d:Nat):Int) (by first|assumption|exact qGt (by assumption)|exact qKO (by assumption) (by assumption))))) rfl λg58 _=>?_
  rw [hmd]
  refine J.f (qAM (l:= [(0,.tmp 53),(1,.tmp 54),(2,.tmp 58)]) (vs:= [I ((b:Nat):Int),I ((d:Nat):Int),Str (Sm.ndB l (kF b d) d)]) (places:= [(0,1),(1,1),(2,1),(3,1),(4,1)]) (r:= [I ((b:Nat):Int),I ((d:Nat):Int),Str (Sm.ndB l (kF b d) d),Str [],.slice none 0 0]) O O O underlying72 zeroValue72 (λ_=>by kernel_rfl) O) O<|J.k (qAN (l:= [I 0,I 0,Str [],Str [],.slice none 0 0]) O zeroValue72 O) O λg17 _=>?_
  change J _ _ _ [_,_,_,_,blk g17 [I 0,I 0,Str [],Str [],.slice none 0 0] 72] _
  refine J.b0 (qAI (i:=4) (l:= [I 0,I 0,Str [],Str [],.slice none 0 0]) (vs:= [I ((b:Nat):Int),I ((d:Nat):Int),Str (Sm.ndB l (kF b d) d),Str [],.slice none 0 0]) O O O O O sizeOf72 O O) O O λ_ _=>?_
  change J _ _ _ [_,_,_,_,blk g17 [I ((b:Nat):Int),I ((d:Nat):Int),Str (Sm.ndB l (kF b d) d),Str [],.slice none 0 0] 72] _
  refine J.c hK14<|J.b8 2 3 8 15 16 17 ?_
  refine J.j λK15 hK15=>J.g λK16 hK16=>J.b O<|J.f (qAP qMH O O) O<|J.b O<|J.c hK16<|J.d1 2 8 15 16 17 60 61 62 ?_
  refine J.V<|J.b6 (X:=Nat×List qBP×Option Addr×Nat×Hp×Hp×Hp) (λζ=> [(2,I ((d:Nat):Int)),(8,Ptr g8),(15,Str (kF b d)),(16,Ptr g52),(17,Ptr g17),(60,.slice A0 n0 c0),(61,I ((n0:Nat):Int)),(62,I ((ζ.1:Nat):Int))]) (λζ=> [ζ.2.2.2.2.2.2,F,blk g8 [I 0,I 0,Str [],Str [],.slice none 0 0] 72,blk g17 [I ((b:Nat):Int),I ((d:Nat):Int),Str (Sm.ndB l (kF b d) d),Str ([]),.slice ζ.2.2.1 ζ.2.1.length ζ.2.2.2.1] 72,ζ.2.2.2.2.2.1,ζ.2.2.2.2.1]) (λζ=>ζ.1≤cl.length∧ζ.2.1.map qBP.chg=cl.take ζ.1∧qCn l d ζ.2.1∧Row ζ.2.2.2.2.1 140 6 ζ.2.2.1 ζ.2.1.length ζ.2.2.2.1 (qG3 ζ.2.1)∧qEh ζ.2.2.2.2.2.1 g52 ((kvC l (cl.take ζ.1)))∧qMK ζ.2.2.2.2.2.2 ζ.2.1) (λζ=>cl.length-ζ.1) (0,[],none,0,(λ_=>none),m52,(λ_=>none)) (⟨Nat.zero_le _,O,qCn.nil _ _,qBU.nil,h52,qMK.nil _⟩) ⟨O,O,O,O,O,O,O,O,trivial⟩ (λ_ h=>h.empty.empty.pick [5,0,1,4,3,6] (by decide)) ?_
  rintro⟨i,L,As,cs,ms,mt,M⟩ ⟨hi,hL,hok,hst,ht,hbs⟩ I2 hI2
  dsimp only at hi hL hok hst ht hbs⊢
  refine J.g λK17 hK17=>J.f (qAT O O O) O<|J.c hK17<|J.e1 2 8 15 16 17 60 61 62 63 ?_
  refine J.j λK18 hK18=>J.a2 O (λh63=>?_) (λh63=>?_)
  ·
    refine J.W hK18<|J.d1 2 8 15 16 17 60 61 62 ?_
    refine J.j λK19 hK19=>J.V<|J.j λK20 hK20=>?_
    obtain ⟨hk16,hkb2,hkv⟩:=hch.at (i:=i) (by omega)
    have hfi:=hch.fine hf hln i
    have hLl:=congrArg List.length hL
    rw [List.length_map,List.length_take] at hLl
    refine J.L<|J.f (qAH (i:=i) O O O qMH qEa hs (by omega)) O<|J.f (qAd (vs:= [Str ((cl.getD i qAU).k),Str ((cl.getD i qAU).v)]) O O isAgg122 qEa (m:=F) (by simp) (hs.elem (qFq (by omega))) rfl) rfl<|J.k (qAN (l:= [Str [],Str []]) rfl zeroValue122 rfl) rfl λg19 _=>?_
    change J _ _ _ [M,F,blk g8 [I 0,I 0,Str [],Str [],.slice none 0 0] 72,blk g17 [I ((b:Nat):Int),I ((d:Nat):Int),Str (Sm.ndB l (kF b d) d),Str ([]),.slice As L.length cs] 72,mt,ms,blk g19 [Str [],Str []] 122] _
    refine J.b0 (qAI (i:=6) (l:= [Str [],Str []]) (vs:= [Str ((cl.getD i qAU).k),Str ((cl.getD i qAU).v)]) O O O O O qEa O O) O O λ_ _=>?_
    change J _ _ _ [_,_,_,_,_,_,blk g19 [Str ((cl.getD i qAU).k),Str ((cl.getD i qAU).v)] 122] _
    refine J.c hK20<|J.e1 2 8 15 16 17 19 60 61 62 ?_
    refine J.g λK21 hK21=>J.b O<|J.a3 0 qJV z9_ O O O O O<|J.f (qAE 6 (v:=Str ((cl.getD i qAU).k)) O O O b9_ O) O<|J.b O<|J.k (qAA O O ent72 (Ct.use (new:=λx:Nat×Option Addr×Nat×Hp=> [x.2.2.2]) (λF' hF=>qKl F' (hK.mo hF) g52 (kvC l (cl.take i)) (ht.at.mono (hF mt (by simp))) hfi (cl.getD i qAU).k hk16 d (by omega)))) rfl ?_
    rintro⟨s71,A71,c71,m71⟩ ⟨hst71,hr71⟩
    change J _ ((71,.tuple #[.agg #[.slice A71 (bsd (kvC l (cl.take i)) (cl.getD i qAU).k d (s71-d)).length c71,.bool (qAr (kvC l (cl.take i)) (cl.getD i qAU).k s71),Str (qBy (kvC l (cl.take i)) (cl.getD i qAU).k s71),Str (qCG (kvC l (cl.take i)) (cl.getD i qAU).k s71)],I 0])::_) _ [_,_,_,_,_,_,_,m71] _
    refine J.p 3 O<|J.k (qAN (l:= [.slice none 0 0,.bool false,Str [],Str []]) O zeroValue80 O) O λg20 _=>?_
    change J _ _ _ [_,_,_,_,_,_,_,_,blk g20 [.slice none 0 0,.bool false,Str [],Str []] 80] _
    refine J.b0 (qAI (i:=8) (l:= [.slice none 0 0,.bool false,Str [],Str []]) (vs:= [.slice A71 ((bsd (kvC l (cl.take i)) (cl.getD i qAU).k d (s71-d)).length) c71,.bool (qAr (kvC l (cl.take i)) (cl.getD i qAU).k s71),Str (qBy (kvC l (cl.take i)) (cl.getD i qAU).k s71),Str (qCG (kvC l (cl.take i)) (cl.getD i qAU).k s71)]) O O O O O qHv O O) O O λ_ _=>?_
    change J _ _ _ [_,_,_,_,_,_,_,_,blk g20 [.slice A71 ((bsd (kvC l (cl.take i)) (cl.getD i qAU).k d (s71-d)).length) c71,.bool (qAr (kvC l (cl.take i)) (cl.getD i qAU).k s71),Str (qBy (kvC l (cl.take i)) (cl.getD i qAU).k s71),Str (qCG (kvC l (cl.take i)) (cl.getD i qAU).k s71)] 80] _
    refine J.b O<|J.c hK21<|J.f1 2 8 15 16 17 19 20 21 60 61 62 ?_
    refine J.j λK22 hK22=>J.g λK23 hK23=>J.b O<|J.f ((qAb O O O).no (by decide)) O<|J.c hK23<|J.f2 2 8 15 16 17 19 20 21 60 61 62 75 ?_
    refine J.a5 ?_
    refine J.W hK22<|J.e5 2 8 15 16 17 19 20 60 61 62 ?_
    refine J.j λK24 hK24=>?_
    obtain ⟨x,hx⟩: ∃x:qBP,x=(⟨(cl.getD i qAU).k,(cl.getD i qAU).v,A71,c71,bsd ((kvC l (cl.take i))) (cl.getD i qAU).k d (s71-d),qAr ((kvC l (cl.take i))) (cl.getD i qAU).k s71,qBy ((kvC l (cl.take i))) (cl.getD i qAU).k s71,qCG ((kvC l (cl.take i))) (cl.getD i qAU).k s71⟩:qBP):=⟨_,rfl⟩
    refine J.L<|J.a3 4 underlying72 sizeOf70 O O O O O<|J.f (qAE 3 (v:= .slice As L.length cs) O O O isAgg70 O) O<|J.c9 6 isAgg122 qEa O O O O O<|J.c9 8 qML qHv O O O O O<|J.f (qAM (l:= [(0,.tmp 80),(1,.tmp 81)]) (vs:= [.agg #[Str ((cl.getD i qAU).k),Str ((cl.getD i qAU).v)],.agg #[.slice A71 ((bsd (kvC l (cl.take i)) (cl.getD i qAU).k d (s71-d)).length) c71,.bool (qAr (kvC l (cl.take i)) (cl.getD i qAU).k s71),Str (qBy (kvC l (cl.take i)) (cl.getD i qAU).k s71),Str (qCG (kvC l (cl.take i)) (cl.getD i qAU).k s71)]]) (places:= [(0,2),(2,4)]) (r:= [Str ((cl.getD i qAU).k),Str ((cl.getD i qAU).v),.slice A71 ((bsd (kvC l (cl.take i)) (cl.getD i qAU).k d (s71-d)).length) c71,.bool (qAr (kvC l (cl.take i)) (cl.getD i qAU).k s71),Str (qBy (kvC l (cl.take i)) (cl.getD i qAU).k s71),Str (qCG (kvC l (cl.take i)) (cl.getD i qAU).k s71)]) O O O underlying140 zeroValue140 (λ_=>by kernel_rfl) O) O<|J.k (qAF (l:= [.tmp 82]) (xs:= [[Str ((cl.getD i qAU).k),Str ((cl.getD i qAU).v),.slice A71 ((bsd (kvC l (cl.take i)) (cl.getD i qAU).k d (s71-d)).length) c71,.bool (qAr (kvC l (cl.take i)) (cl.getD i qAU).k s71),Str (qBy (kvC l (cl.take i)) (cl.getD i qAU).k s71),Str (qCG (kvC l (cl.take i)) (cl.getD i qAU).k s71)]]) O O O O underlying70 el140 O (by decide) (by decide) (by simp)) rfl λg83 _=>?_
    change J _ _ _ [_,_,_,_,_,_,_,_,_,blk g83 [Str ((cl.getD i qAU).k),Str ((cl.getD i qAU).v),.slice A71 ((bsd (kvC l (cl.take i)) (cl.getD i qAU).k d (s71-d)).length) c71,.bool (qAr (kvC l (cl.take i)) (cl.getD i qAU).k s71),Str (qBy (kvC l (cl.take i)) (cl.getD i qAU).k s71),Str (qCG (kvC l (cl.take i)) (cl.getD i qAU).k s71)] 140] _
    refine J.k (qAW (i:=5) (xs:=qG3 L) (m2:=blk g83 [Str ((cl.getD i qAU).k),Str ((cl.getD i qAU).v),.slice A71 ((bsd (kvC l (cl.take i)) (cl.getD i qAU).k d (s71-d)).length) c71,.bool (qAr (kvC l (cl.take i)) (cl.getD i qAU).k s71),Str (qBy (kvC l (cl.take i)) (cl.getD i qAU).k s71),Str (qCG (kvC l (cl.take i)) (cl.getD i qAU).k s71)] 140) (ys:= [[Str ((cl.getD i qAU).k),Str ((cl.getD i qAU).v),.slice A71 ((bsd (kvC l (cl.take i)) (cl.getD i qAU).k d (s71-d)).length) c71,.bool (qAr (kvC l (cl.take i)) (cl.getD i qAU).k s71),Str (qBy (kvC l (cl.take i)) (cl.getD i qAU).k s71),Str (qCG (kvC l (cl.take i)) (cl.getD i qAU).k s71)]]) O O O underlying70 underlying70 el140 O hst (by simp) ((qAk (q:=True) (xs:=qG3 [(⟨(cl.getD i qAU).k,(cl.getD i qAU).v,A71,c71,(bsd (kvC l (cl.take i)) (cl.getD i qAU).k d (s71-d)),qAr (kvC l (cl.take i)) (cl.getD i qAU).k s71,qBy (kvC l (cl.take i)) (cl.getD i qAU).k s71,qCG (kvC l (cl.take i)) (cl.getD i qAU).k s71⟩:qBP)]) rfl (by intro x hx;rw [List.mem_singleton.1 hx];rfl)).sl) rfl (by omega) (by omega)) rfl ?_
    rintro⟨A84,c84,m84⟩ h84
    try dsimp only at h84
    change J _ ((84,.slice A84 (L.length+1) c84)::_) _ [_,_,_,_,_,m84,_,_,_,_] _
    replace h84:Row m84 140 6 A84 (L.length+1) c84 (qG3 (L++ [x])):=by rw [qLf,hx];exact h84
    rw [show L.length+1=(L++ [x]).length by rw [List.length_append];rfl] at h84⊢
    refine J.a3 4 underlying72 sizeOf70 O O O O O<|J.b0 (qAZ (i:=3) (l:= [I ((b:Nat):Int),I ((d:Nat):Int),Str (Sm.ndB l (kF b d) d),Str ([]),.slice As L.length cs]) (vs:= [.slice A84 ((L++ [x]).length) c84]) O O O O O sizeOf70 O (by simp)) rfl rfl λ_ _=>?_
    change J _ _ _ [_,_,_,blk g17 [I ((b:Nat):Int),I ((d:Nat):Int),Str (Sm.ndB l (kF b d) d),Str ([]),.slice A84 ((L++ [x]).length) c84] 72,_,_,_,_,_,_] _
    refine J.c hK24<|J.e1 2 8 15 16 17 19 60 61 62 ?_
    refine J.L<|J.b O<|J.a3 0 qJV z9_ O O O O O<|J.f (qAE 6 (v:=Str ((cl.getD i qAU).k)) O O O b9_ O) O<|J.a3 1 qJV z9_ O O O O O<|J.f (qAE 6 (v:=Str ((cl.getD i qAU).v)) O O O b9_ O) O<|J.k (qAA O O ent86 (Ct.use1 4 (m':=λx:Hp=>x) (new:=λ_=> []) O (λF' hF=>qMk F' mt g52 (kvC l (cl.take i)) ht ((cl.getD i qAU).k) ((cl.getD i qAU).v) (by first|omega|rfl|assumption)))) O ?_
    rintro m91 h91
    change J _ ((91,I ((0:Nat):Int))::_) _ [_,_,_,_,m91,_,_,_,_,_] _
    refine J.c8 [0,7,1,2,3,4,5] [M,m71,F,blk g8 [I 0,I 0,Str [],Str [],.slice none 0 0] 72,blk g17 [I ((b:Nat):Int),I ((d:Nat):Int),Str (Sm.ndB l (kF b d) d),Str ([]),.slice A84 ((L++ [x]).length) c84] 72,m91,m84] O (by decide)<|J.e4 (λhj=>?_)
    refine J.a7<|J.a6<|J.A (J.H hK19 ?_)
    refine J.d1 2 8 15 16 17 60 61 62 ?_
    exact J.L<|J.f ((qAO O O O (by omega)).nat (i+1) (by omega)) O<|J.b O<|J.a7<|J.A<|J.a8 (i+1,L++ [x],A84,c84,m84,m91,U [M,m71]) (λη (hη:_∧cl.length-η.1<cl.length-i)=>hI2 η hη.1 hη.2) ⟨⟨by dsimp only;omega,qQr (by omega) hL (by rw [hx]) (by rw [hx]),hok.snoc (by rw [hL,hx];exact qJF.of hfi (by have:=qN4 l (cl.take i);rw [List.length_take] at this;omega) hk16 hkv hst71 A71 c71),h84,by dsimp only;rw [qQS (by omega)];exact h91,(hbs.mono (qEr hj)).snoc (by rw [hx];exact hr71.sl.mono (qNw hj))⟩,by first|omega|(dsimp only;omega)⟩ ⟨rfl,rfl,rfl,rfl,rfl,rfl,rfl,rfl,trivial⟩ (λ_ h=>h)
  refine J.b4<|J.a1<|J.a1<|J.b5 ?_
  refine J.A (J.H hK15 ?_)
  refine J.a0 2 8 15 16 17 ?_
  refine J.j λK25 hK25=>?_
  have hfi:=hch.fine hf hln i
  refine J.L<|J.p 3 O<|J.k (qAA O O ent138 (Ct.use0 (λF' hF=>qEj F' (hK.mo hF) g52 (kvC l (cl.take i)) (ht.at.mono (hF mt (by simp))) (by assumption) (kF b d) (by first|omega|decide) ((d:Nat):Int) (by first|assumption|exact qGt (by assumption)|exact qKO (by assumption) (by assumption))))) rfl λg96 _=>?_
  rw [hmd]
  refine J.a3 3 underlying72 z9_ O O O O O<|J.b0 (qAZ (i:=3) (l:= [I ((b:Nat):Int),I ((d:Nat):Int),Str (Sm.ndB l (kF b d) d),Str ([]),.slice As L.length cs]) (vs:= [Str (Sm.ndB (kvC l (cl.take i)) (kF b d) d)]) O O O O O z9_ O (by simp)) rfl rfl λ_ _=>?_
  change J _ _ _ [M,F,blk g8 [I 0,I 0,Str [],Str [],.slice none 0 0] 72,blk g17 [I ((b:Nat):Int),I ((d:Nat):Int),Str (Sm.ndB l (kF b d) d),Str (Sm.ndB (kvC l (cl.take i)) (kF b d) d),.slice As L.length cs] 72,mt,ms] _
  refine J.c hK25<|J.G 8 16 17 ?_
  refine J.g λK26 hK26=>J.c9 3 isAgg72 sizeOf72 O O O O O<|J.b O<|J.b0 (qAI (i:=2) (l:= [I 0,I 0,Str [],Str [],.slice none 0 0]) (vs:= [I ((b:Nat):Int),I ((d:Nat):Int),Str (Sm.ndB l (kF b d) d),Str (Sm.ndB (kvC l (cl.take i)) (kF b d) d),.slice As L.length cs]) O O O O O sizeOf72 O O) O O λ_ _=>?_
  change J _ _ _ [_,_,blk g8 [I ((b:Nat):Int),I ((d:Nat):Int),Str (Sm.ndB l (kF b d) d),Str (Sm.ndB (kvC l (cl.take i)) (kF b d) d),.slice As L.length cs] 72,_,_,_] _
  refine J.p 2 O<|J.c hK26<|J.G 8 9 10 ?_
  exact J.D<|J.b2 hw0 (λ_ _ h=>h) (rv3 O (RV.blkA 2 O O isAgg72 sizeOf72) O O) (qAn (⟨As,cs,ms,g52,mt,M,L⟩:MkR) (by rw [show i=cl.length by omega,List.take_length]) ⟨by rw [hL,show i=cl.length by omega,List.take_length],hok,hst,by rw [show i=cl.length by omega,List.take_length] at ht;exact ht,hbs⟩ [1,4,5,0] rfl (by decide))
end Go.Proofs.YtllnfioplpipiaaGreatDoor
