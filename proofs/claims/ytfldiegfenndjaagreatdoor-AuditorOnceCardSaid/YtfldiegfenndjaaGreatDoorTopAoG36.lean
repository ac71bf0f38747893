/- A part of the proof. -/
import Derived.Test.YtfldiegfenndjaaGreatDoorTopAoG8
import Derived.Test.YtfldiegfenndjaaGreatDoorTopAoG28
import Derived.Test.YtfldiegfenndjaaGreatDoorTopAoG35
import Derived.Test.YtfldiegfenndjaaGreatDoorTopAoG26
import Derived.Test.YtfldiegfenndjaaGreatDoorTopAoG32
import Derived.Test.YtfldiegfenndjaaGreatDoorTopAoG34
set_option linter.unusedSimpArgs false
set_option linter.unusedVariables false
namespace Go.Proofs.YtfldiegfenndjaaGreatDoor
open Go Go.Fw Go.Proofs.Tryz
set_option maxRecDepth 100000
set_option maxHeartbeats 1000000
theorem ent161:qAE prog 161:=qAE.of func161 rfl (by kernel_rfl)
theorem ent162:qAE prog 162:=qAE.of func162 rfl (by kernel_rfl)
theorem qO8(F:Hp)(g:Nat)(l:List Sm.PR)(hT:qDm F g l):Ct prog 119 [Ptr g] [F] (λx:Nat×Hp=>Ptr x.1) (λx=>qJO x.2 x.1 l) (λx=> [x.2,F]):=by
 have hT0:=hT
 obtain ⟨gm,hc,hm⟩:=hT0
 refine Ct.walk func119 rfl ntmps119 rfl (λw0 hw0=>?_)
 change J _ [(0,_)] _ _ _
 refine J.g λK1 hK1=>J.b V<|J.c hK1<|J.A 0 ?_
 refine J.k λK2 hK2=>J.g λK3 hK3=>J.b V<|J.f ((qA1 qTK V V V).as (v':= .bool false) V) V<|J.c hK3<|J.E 0 4 ?_
 refine J.a5 ?_
 refine J.W hK2<|J.A 0 ?_
 refine J.g λK4 hK4=>J.b V<|J.f (qAC V V) V<|J.a2 0 qJd sizeOf164 V V V V V<|J.f (qAL (v:= .map (some gm)) V V isAgg164 (m:=F) (by simp) (hc)) rfl<|J.q (qAB rfl rfl ent162 (Ct.use (new:=λx:Nat×Hp=> [x.2]) (λF' hF=>qNw F' gm (ssM l) (hm.mono (hF F (by simp)))))) rfl ?_
 rintro⟨g9,m9⟩ h9
 try dsimp only at h9
 change J _ ((9,.map (some g9))::_) _ [F,m9] _
 refine J.f (qAK (l:= [(0,.tmp 9)]) (vs:= [.map (some g9)]) (places:= [(0,1)]) (r:= [.map (some g9)]) V V V qJd zeroValue166 (λ_=>by kernel_rfl) V) V<|J.q (qAi (l:= [.map (some g9)]) V V V) V λg11 _=>?_
 change J _ _ _ [_,_,blk g11 [.map (some g9)] 166] _
 refine J.b V<|J.c hK4<|J.A 2 ?_
 exact J.D<|J.b4 hw0 (λ_ _ h=>h) (qJW V V) (qDp (g11,U [blk g11 [.map (some g9)] 166,m9]) (V) (λhd=>⟨g9,m9,V,hd,h9⟩) [2,1,0] V V (by decide))
theorem qMx(F:Hp)(b z:Int)(A:Option Addr)(n c:Nat)(ks:List (List UInt8))(hs:Sl F 1 A n c (qAH ks))(hn:n≤1000000)(hsm: ∀k:Nat,(ks.getD k []).length≤1000000):Ct prog 118 [I (b),I (z),.slice A n c] [F] (λ_:Unit=>I ((qFk b z ks:Nat):Int)) (λ_=>True) (λ_=> [F]):=by
 have hkn:ks.length=n:=by have:=hs.1;simpa [qAH] using this
 refine Ct.walk func118 rfl ntmps118 rfl (λw0 hw0=>?_)
 change J _ [(0,_),(1,_),(2,_)] _ _ _
 refine J.g λK1 hK1=>J.b V<|J.c hK1<|J.G 0 1 2 ?_
 refine J.g λK2 hK2=>J.b V<|J.q (qAB V V ent38 (Ct.use0 (λF' hF=>qEc F' z))) V λg13 _=>J.b V<|J.c hK2<|J.O 0 1 2 7 ?_
 refine J.k λK3 hK3=>J.a1<|J.g λK4 hK4=>J.b V<|J.f (qAS V V V) V<|J.b V<|J.c hK4<|J.a0 0 1 2 7 14 ?_
 refine J.a4 V (λh14=>?_) (λh14=>?_)
 ·
  refine J.g λK5 hK5=>J.b V<|J.c hK5<|J.A 6 ?_
  exact J.D<|J.b6<|J.a7<|J.Z hw0 V () (by(first|rw [qDx (by omega)]|rw [qCz (by omega) (by omega)]|rw [qC0 (by omega) (by omega) (by omega)]|rw [qCy hc0 h256 hbn hno (λe=>by have:=hib.1 e;omega)]|rw [qDK hc0 h256 hbn hall])<;>rfl) trivial [0] rfl (by decide)
 refine J.g λK6 hK6=>J.b V<|J.f (qAY qAh V V) V<|J.f (qA5 V V V) V<|J.b V<|J.c hK6<|J.a0 0 1 2 7 17 ?_
 refine J.a4 V (λh17=>?_) (λh17=>?_)
 ·
  refine J.g λK7 hK7=>J.b V<|J.c hK7<|J.A 6 ?_
  exact J.D<|J.b6<|J.a7<|J.Z hw0 V () (by(first|rw [qDx (by omega)]|rw [qCz (by omega) (by omega)]|rw [qC0 (by omega) (by omega) (by omega)]|rw [qCy hc0 h256 hbn hno (λe=>by have:=hib.1 e;omega)]|rw [qDK hc0 h256 hbn hall])<;>rfl) trivial [0] rfl (by decide)
 refine J.g λK8 hK8=>J.b V<|J.f (qAT V V V) V<|J.b V<|J.c6 (d:=24) V (λh24=>?_) (λh24=>?_)
 ·
  refine J.j 5 V<|J.c hK8<|J.O 0 1 2 21 ?_
  refine J.c7 ?_
  refine J.g λK9 hK9=>J.b V<|J.c hK9<|J.A 6 ?_
  exact J.D<|J.b6<|J.a7<|J.Z hw0 V () (by(first|rw [qDx (by omega)]|rw [qCz (by omega) (by omega)]|rw [qC0 (by omega) (by omega) (by omega)]|rw [qCy hc0 h256 hbn hno (λe=>by have:=hib.1 e;omega)]|rw [qDK hc0 h256 hbn hall])<;>rfl) trivial [0] rfl (by decide)
 refine J.j 2 V<|J.T (qA9 V V V) V<|J.j 2 V<|J.c hK8<|J.O 0 1 2 21 ?_
 refine J.a4 V (λh21=>?_) (λh21=>?_)
 ·
  refine J.g λK10 hK10=>J.b V<|J.c hK10<|J.A 6 ?_
  exact J.D<|J.b6<|J.a7<|J.Z hw0 V () (by(first|rw [qDx (by omega)]|rw [qCz (by omega) (by omega)]|rw [qC0 (by omega) (by omega) (by omega)]|rw [qCy hc0 h256 hbn hno (λe=>by have:=hib.1 e;omega)]|rw [qDK hc0 h256 hbn hall])<;>rfl) trivial [0] rfl (by decide)
 refine J.c0<|J.b0<|J.u (J.M hK3 ?_)
 refine J.G 0 1 2 ?_
 refine J.k λK11 hK11=>J.k λK12 hK12=>?_
 obtain ⟨d,rfl⟩:=z7 (show 0≤z by unfold cnt at h14;split at h14<;>omega)
 have hd:d≤4:=by unfold cnt at h14;split at h14<;>omega
 have hb0:0≤b:=by omega
 have hbn: ¬(b<0∨((cnt (d:Int):Nat):Int)≤b):=by omega
 have hc0: ¬cnt (d:Int)=0:=by omega
 have h256: ¬256<ks.length:=by omega
 refine J.H<|J.b V<|J.f (qAY qAh V V) V<|J.b V<|J.c hK12<|J.a0 0 1 29 30 31 ?_
 refine J.a1<|J.c1 (X:=Nat) (λζ=> [(0,I (b)),(1,I ((d:Nat):Int)),(29,.slice A n c),(30,I ((n:Nat):Int)),(31,I ((ζ:Nat):Int))]) (λζ=> [F]) (λζ=>ζ≤n∧ ∀k∈ks.take ζ,inB b.toNat d k) (λζ=>n-ζ) 0 (⟨jF _,λk h=>by simp at h⟩) ⟨rfl,rfl,rfl,rfl,rfl,trivial⟩ (λ_ h=>h) ?_
 rintro i ⟨hi,hall⟩ I1 hI1
 refine J.g λK13 hK13=>J.f (qAT V V V) V<|J.c hK13<|J.b5 0 1 29 30 31 32 ?_
 refine J.k λK14 hK14=>J.a4 V (λh32=>?_) (λh32=>?_)
 ·
  refine J.W hK14<|J.a0 0 1 29 30 31 ?_
  refine J.k λK15 hK15=>J.a1<|J.g λK16 hK16=>J.f (qAF (i:=i) V V V qAh z9_ hs (by omega)) V<|J.f (qAL V V b9_ (m:=F) (by simp) (hs.elem (qAZ (qAd [] (by omega))))) rfl<|J.b rfl<|J.c hK16<|J.b5 0 1 9 29 30 31 ?_
  refine J.g λK17 hK17=>J.j 2 V<|J.q (qAB V V ent161 (Ct.use0 (λF' hF=>qUL F' (ks.getD i []) (by first|omega|exact hsm _|exact jk V) d (by omega)))) V λg38 _=>J.j 5 V<|J.c hK17<|J.c5 0 1 10 11 29 30 31 ?_
  refine J.k λK18 hK18=>?_
  have hib:=qT8 (b:=b) (d:=d) (k:=ks.getD i []) hb0
  refine J.H<|J.b V<|J.f (qAU V V V) V<|J.b V<|J.c6 (d:=43) V (λh43=>?_) (λh43=>?_)
  ·
   refine J.j 4 V<|J.c hK18<|J.b5 0 1 29 30 31 47 ?_
   refine J.c7 ?_
   refine J.k λK19 hK19=>?_
   have hno:=qN3 (ks:=ks) (i:=i) (by omega)
   refine J.H<|J.b V<|J.c hK19<|J.A 6 ?_
   exact J.D<|J.b6<|J.a7<|J.a7<|J.b6<|J.a7<|J.Z hw0 V () (by(first|rw [qDx (by omega)]|rw [qCz (by omega) (by omega)]|rw [qC0 (by omega) (by omega) (by omega)]|rw [qCy hc0 h256 hbn hno (λe=>by have:=hib.1 e;omega)]|rw [qDK hc0 h256 hbn hall])<;>rfl) trivial [0] rfl (by decide)
  refine J.j 2 V<|J.T (qAU V V V) V<|J.b V<|J.c hK18<|J.b5 0 1 29 30 31 47 ?_
  refine J.a4 V (λh47=>?_) (λh47=>?_)
  ·
   refine J.k λK20 hK20=>?_
   have hno:=qN3 (ks:=ks) (i:=i) (by omega)
   refine J.H<|J.b V<|J.c hK20<|J.A 6 ?_
   exact J.D<|J.b6<|J.a7<|J.a7<|J.b6<|J.a7<|J.Z hw0 V () (by(first|rw [qDx (by omega)]|rw [qCz (by omega) (by omega)]|rw [qC0 (by omega) (by omega) (by omega)]|rw [qCy hc0 h256 hbn hno (λe=>by have:=hib.1 e;omega)]|rw [qDK hc0 h256 hbn hall])<;>rfl) trivial [0] rfl (by decide)
  refine J.c0<|J.b0<|J.u (J.M hK15 ?_)
  refine J.a0 0 1 29 30 31 ?_
  exact J.H<|J.f ((qAQ V V V (by omega)).nat (i+1) (by omega)) V<|J.b V<|J.a8<|J.u<|J.a9 (i+1) (λη (hη:_∧n-η<n-i)=>hI1 η hη.1 hη.2) ⟨⟨by omega,qQU (by omega) hall (hib.2 ⟨by omega,by omega⟩)⟩,by first|omega|(dsimp only;omega)⟩ ⟨V,V,V,V,V,trivial⟩ (λ_ h=>h)
 refine J.b8<|J.a6<|J.a6<|J.b9 ?_
 refine J.u (J.M hK11 ?_)
 refine J.d0 [] trivial<|J.k λK21 hK21=>?_
 obtain rfl:i=ks.length:=by omega
 rw [jo] at hall
 refine J.H<|J.b V<|J.c hK21<|J.A 6 ?_
 exact J.D<|J.Z hw0 V () (by(first|rw [qDx (by omega)]|rw [qCz (by omega) (by omega)]|rw [qC0 (by omega) (by omega) (by omega)]|rw [qCy hc0 h256 hbn hno (λe=>by have:=hib.1 e;omega)]|rw [qDK hc0 h256 hbn hall])<;>rfl) trivial [0] rfl (by decide)
theorem ent163:qAE prog 163:=qAE.of func163 rfl (by kernel_rfl)
theorem qRE(L:List qAq){i:Nat}(h:i<L.length):(L.map qAq.chg).getD i qAe=(L.getD i qAI).chg:=by
 rw [jB,jB,jN,jC h];rfl
theorem qQK(L:List qAq):(L.map qAq.chg).map Chg.k=L.map qAq.k:=by rw [zy];rfl
theorem qB8.next{l:List Sm.PR}{d b:Nat}{L:List qAq}(hok:qB8 l d L)(hch:qKN b d (L.map qAq.chg))(hf:qC9 l)(hln:l.length≤90000)(hd:d≤4){i:Nat}(hi:i<L.length):
    qFw (L.getD i qAI).bs (L.getD i qAI).th (L.getD i qAI).pk (L.getD i qAI).pv (L.getD i qAI).k d=Sm.ndB (kvC l ((L.map qAq.chg).take i)) (kF b d) d∧
    qFD (L.getD i qAI).bs (L.getD i qAI).th (L.getD i qAI).pk (L.getD i qAI).pv (L.getD i qAI).k (L.getD i qAI).v d=Sm.ndB (kvC l ((L.map qAq.chg).take (i+1))) (kF b d) d:=by
  have hs:=hok i hi
  have hc:=hch.at (i:=i) (by rw [jK];exact hi)
  rw [qRE L hi] at hc
  have h1:=(hch.fine hf hln i).k16
  have h2:=(hch.fine hf hln (i+1)).k16
  refine⟨hs.node.trans (qKz h1 hc.1 hd hc.2.1),?_⟩
  rw [qK9 (by rw [jK];exact hi),qRE L hi] at h2⊢
  exact hs.after.trans (qKz h2 hc.1 hd hc.2.1)
theorem qMH{L:List qAq}(h: ∀x∈L,x.k.length≤1000000)(j:Nat):((L.map qAq.k).getD j []).length≤1000000:=by
 rw [jB,jN]
 by_cases hj:j<L.length
 · rw [jC hj];exact h _ (jc hj)
 · rw [ji (by omega)];decide
theorem qKN.small{b d:Nat}{L:List qAq}(h:qKN b d (L.map qAq.chg)): ∀x∈L,x.k.length≤1000000:=λx hx=>by
 have:=h.k16 x.chg (List.mem_map.2 ⟨x,hx,rfl⟩)
 rw [show x.k.length=16 from this];decide
theorem qMz(F:Hp)(hK:KF F)(b d:Nat)(hd:d≤4)(hb:b<2^d)(old new:List UInt8)(A0:Option Addr)(n0 c0:Nat)(L:List qAq)(hs:Sl F 6 A0 n0 c0 (qEk L))(l:List Sm.PR)(hf:qC9 l)(hln:l.length≤90000)(hch:qKN b d (L.map qAq.chg))(hok:qB8 l d L)(hbs:qMQ F L)(hold:old=Sm.ndB l (kF b d) d):Ct prog 120 [.agg #[I ((b:Nat):Int),I ((d:Nat):Int),Str (old),Str (new),.slice A0 n0 c0]] [F] (λ_:Unit=>I ((if new=Sm.ndB (kvC l (L.map qAq.chg)) (kF b d) d then 0 else 15:Nat):Int)) (λ_=>True) (λ_=> [F]):=by
 have hLn:L.length=n0:=by have:=hs.1;simpa [qEk] using this
 have hsk:=qMH hch.small
 have hmay:=hch.may hd hb
 rw [qQK] at hmay
 have hl256:=hch.len
 rw [jK] at hl256
 refine Ct.walk func120 rfl ntmps120 rfl (λw0 hw0=>?_)
 change J _ [(0,_)] _ _ _
 refine J.g λK1 hK1=>J.q (qAi (l:= [I ((b:Nat):Int),I ((d:Nat):Int),Str (old),Str (new),.slice A0 n0 c0]) V V V) V λg1 _=>?_
 change J _ _ _ [F,blk g1 [I ((b:Nat):Int),I ((d:Nat):Int),Str (old),Str (new),.slice A0 n0 c0] 79] _
 refine J.b V<|J.c hK1<|J.A 1 ?_
 refine J.g λK2 hK2=>J.b V<|J.c hK2<|J.E 1 3 ?_
 refine J.k λK3 hK3=>J.g λK4 hK4=>J.a2 4 qGS sizeOf77 V V V V V<|J.f (qAD 1 (v:= .slice A0 n0 c0) V V V isAgg77 V) V<|J.f (qAY qRT V V) V<|J.b V<|J.c hK4<|J.a0 1 3 13 14 15 ?_
 refine J.a1<|J.c1 (X:=Nat×Option Addr×Nat×Hp) (λζ=> [(1,Ptr g1),(3,.slice ζ.2.1 ((qF9 L ζ.1).length) ζ.2.2.1),(13,.slice A0 n0 c0),(14,I ((n0:Nat):Int)),(15,I ((ζ.1:Nat):Int))]) (λζ=> [F,blk g1 [I ((b:Nat):Int),I ((d:Nat):Int),Str (old),Str (new),.slice A0 n0 c0] 79,ζ.2.2.2]) (λζ=>ζ.1≤n0∧Row ζ.2.2.2 9 1 ζ.2.1 (qF9 L ζ.1).length ζ.2.2.1 (qAH (qF9 L ζ.1))) (λζ=>n0-ζ.1) (0,none,0,(λ_=>none)) (⟨jF _,qBc.nil⟩) ⟨V,V,V,V,V,trivial⟩ (λ_ h=>h.empty.pick [0,1,2] (by decide)) ?_
 rintro⟨i,A1,c1,m1⟩ ⟨hi,hr1⟩ I0 hI0
 dsimp only at hi hr1⊢
 have hkl:=qN5 (L:=L) (i:=i) (by omega)
 refine J.g λK5 hK5=>J.f (qAT V V V) V<|J.c hK5<|J.b5 1 3 13 14 15 16 ?_
 refine J.k λK6 hK6=>J.a4 V (λh16=>?_) (λh16=>?_)
 ·
  refine J.W hK6<|J.a0 1 3 13 14 15 ?_
  refine J.k λK7 hK7=>J.a1<|J.g λK8 hK8=>J.f (qAF (i:=i) V V V qRT sizeOf229 hs (by omega)) V<|J.f (qAl (vs:= [Str ((L.getD i qAI).k),Str ((L.getD i qAI).v),.slice (L.getD i qAI).bsA (L.getD i qAI).bs.length (L.getD i qAI).bsc,.bool ((L.getD i qAI).th),Str ((L.getD i qAI).pk),Str ((L.getD i qAI).pv)]) V V isAgg229 sizeOf229 (m:=F) (by simp) (hs.elem (qIS (by omega))) rfl) rfl<|J.q (qAO (l:= [Str [],Str [],.slice none 0 0,.bool false,Str [],Str []]) rfl zeroValue229 rfl) rfl λg5 _=>?_
  change J _ _ _ [F,blk g1 [I ((b:Nat):Int),I ((d:Nat):Int),Str (old),Str (new),.slice A0 n0 c0] 79,m1,blk g5 [Str [],Str [],.slice none 0 0,.bool false,Str [],Str []] 229] _
  refine J.b1 (qAG (i:=3) (l:= [Str [],Str [],.slice none 0 0,.bool false,Str [],Str []]) (vs:= [Str ((L.getD i qAI).k),Str ((L.getD i qAI).v),.slice (L.getD i qAI).bsA (L.getD i qAI).bs.length (L.getD i qAI).bsc,.bool ((L.getD i qAI).th),Str ((L.getD i qAI).pk),Str ((L.getD i qAI).pv)]) V V V V V sizeOf229 V V) V V λ_ _=>?_
  change J _ _ _ [_,_,_,blk g5 [Str ((L.getD i qAI).k),Str ((L.getD i qAI).v),.slice (L.getD i qAI).bsA (L.getD i qAI).bs.length (L.getD i qAI).bsc,.bool ((L.getD i qAI).th),Str ((L.getD i qAI).pk),Str ((L.getD i qAI).pv)] 229] _
  refine J.c hK8<|J.b5 1 3 5 13 14 15 ?_
  refine J.H<|J.b V<|J.a2 0 qHK qFF V V V V V<|J.a2 0 qGZ z9_ V V V V V<|J.f (qAD 3 (v:=Str ((L.getD i qAI).k)) V V V b9_ V) V<|J.q (qAJ (l:= [.tmp 22]) (xs:= [[Str ((L.getD i qAI).k)]]) V V V V qAh el9 V (by decide) (by decide) (by simp)) rfl λg23 _=>?_
  change J _ _ _ [_,_,_,_,blk g23 [Str ((L.getD i qAI).k)] 9] _
  refine J.q (qAa (i:=2) (xs:=qAH (qF9 L i)) (m2:=blk g23 [Str ((L.getD i qAI).k)] 9) (ys:= [[Str ((L.getD i qAI).k)]]) V V V qAh qAh el9 V hr1 (by simp) ((qCK (q:=True) (qAH [(L.getD i qAI).k]) rfl (by simp [qAH]) rfl).sl) rfl (by omega) (by omega)) rfl ?_
  rintro⟨A24,c24,m24⟩ h24
  try dsimp only at h24
  change J _ ((24,.slice A24 (((qF9 L i).length)+1) c24)::_) _ [_,_,m24,_,_] _
  rw [←qBx] at h24
  refine J.b V<|J.a8<|J.b0<|J.u (J.M hK7 ?_)
  refine J.a0 1 3 13 14 15 ?_
  exact J.H<|J.f ((qAQ V V V (by omega)).nat (i+1) (by omega)) V<|J.b V<|J.a8<|J.u<|J.a9 (i+1,A24,c24,m24) (λη (hη:_∧n0-η.1<n0-i)=>hI0 η hη.1 hη.2) ⟨⟨by dsimp only;omega,by dsimp only;rw [qG4 (by omega),jA];exact h24⟩,by first|omega|(dsimp only;omega)⟩ ⟨rfl,by dsimp only;rw [qG4 (by omega),jA];rfl,rfl,rfl,rfl,trivial⟩ (λ_ h=>h.pick [0,1,2] (by decide))
 refine J.b8<|J.a6<|J.a6<|J.b9 ?_
 refine J.u (J.M hK3 ?_)
 refine J.E 1 3 ?_
 refine J.k λK9 hK9=>J.k λK10 hK10=>?_
 obtain rfl:i=L.length:=by omega
 rw [qN6] at hr1 hkl⊢
 refine J.H<|J.a2 0 qGS z3_ V V V V V<|J.f (qAD 1 (v:=I ((b:Nat):Int)) V V V b3_ V) V<|J.a2 1 qGS z3_ V V V V V<|J.f (qAD 1 (v:=I ((d:Nat):Int)) V V V b3_ V) V<|J.b V<|J.q (qAB V V ent118 (Ct.use0 (λF' hF=>qMx F' ((b:Nat):Int) ((d:Nat):Int) A1 ((L.map qAq.k).length) c1 (L.map qAq.k) (hr1.sl.mono (hF m1 (by simp))) (by omega) (by assumption)))) rfl λg31 _=>J.b rfl<|J.c hK10<|J.E 1 6 ?_
 refine J.g λK11 hK11=>J.b V<|J.f ((qAU V V V).no (by rw [hmay];decide)) rfl<|J.c hK11<|J.G 1 6 33 ?_
 refine J.a5 ?_
 refine J.W hK9<|J.A 1 ?_
 refine J.g λK12 hK12=>J.a2 2 qGS z9_ V V V V V<|J.f (qAD 1 (v:=Str (old)) V V V b9_ V) V<|J.b V<|J.c hK12<|J.E 1 7 ?_
 refine J.k λK13 hK13=>J.g λK14 hK14=>J.a2 4 qGS sizeOf77 V V V V V<|J.f (qAD 1 (v:= .slice A0 n0 c0) V V V isAgg77 V) V<|J.f (qAY qRT V V) V<|J.b V<|J.c hK14<|J.a0 1 7 38 39 40 ?_
 refine J.a1<|J.c1 (X:=Nat) (λζ=> [(1,Ptr g1),(7,Str (Sm.ndB (kvC l ((L.map qAq.chg).take ζ)) (kF b d) d)),(38,.slice A0 n0 c0),(39,I ((n0:Nat):Int)),(40,I ((ζ:Nat):Int))]) (λζ=> [F,blk g1 [I ((b:Nat):Int),I ((d:Nat):Int),Str (old),Str (new),.slice A0 n0 c0] 79,m1]) (λζ=>ζ≤L.length) (λζ=>L.length-ζ) 0 (jF _) ⟨V,congrArg (λz=>some (Str z)) hold,V,V,V,trivial⟩ (λ_ h=>h) ?_
 rintro i hi I2 hI2
 refine J.g λK15 hK15=>J.f (qAT V V V) V<|J.c hK15<|J.b5 1 7 38 39 40 41 ?_
 refine J.k λK16 hK16=>J.a4 V (λh41=>?_) (λh41=>?_)
 ·
  refine J.W hK16<|J.a0 1 7 38 39 40 ?_
  refine J.k λK17 hK17=>J.a1<|J.k λK18 hK18=>?_
  have hso:=hok i (by omega)
  have hgo:=hso.good
  have hpv:=hso.pv
  have hvl:=hso.val
  have hnx:=hok.next hch hf hln hd (i:=i) (by omega)
  have hk16:=hgo.k16
  refine J.H<|J.f (qAF (i:=i) V V V qRT sizeOf229 hs (by omega)) V<|J.f (qAl (vs:= [Str ((L.getD i qAI).k),Str ((L.getD i qAI).v),.slice (L.getD i qAI).bsA (L.getD i qAI).bs.length (L.getD i qAI).bsc,.bool ((L.getD i qAI).th),Str ((L.getD i qAI).pk),Str ((L.getD i qAI).pv)]) V V isAgg229 sizeOf229 (m:=F) (by simp) (hs.elem (qIS (by omega))) rfl) rfl<|J.q (qAO (l:= [Str [],Str [],.slice none 0 0,.bool false,Str [],Str []]) rfl zeroValue229 rfl) rfl λg9 _=>?_
  change J _ _ _ [F,blk g1 [I ((b:Nat):Int),I ((d:Nat):Int),Str (old),Str (new),.slice A0 n0 c0] 79,m1,blk g9 [Str [],Str [],.slice none 0 0,.bool false,Str [],Str []] 229] _
  refine J.b1 (qAG (i:=3) (l:= [Str [],Str [],.slice none 0 0,.bool false,Str [],Str []]) (vs:= [Str ((L.getD i qAI).k),Str ((L.getD i qAI).v),.slice (L.getD i qAI).bsA (L.getD i qAI).bs.length (L.getD i qAI).bsc,.bool ((L.getD i qAI).th),Str ((L.getD i qAI).pk),Str ((L.getD i qAI).pv)]) V V V V V sizeOf229 V V) V V λ_ _=>?_
  change J _ _ _ [_,_,_,blk g9 [Str ((L.getD i qAI).k),Str ((L.getD i qAI).v),.slice (L.getD i qAI).bsA (L.getD i qAI).bs.length (L.getD i qAI).bsc,.bool ((L.getD i qAI).th),Str ((L.getD i qAI).pk),Str ((L.getD i qAI).pv)] 229] _
  refine J.c hK18<|J.b5 1 7 9 38 39 40 ?_
  refine J.k λK19 hK19=>J.g λK20 hK20=>J.a2 2 qHK qGV V V V V V<|J.f (qAl (vs:= [.slice (L.getD i qAI).bsA (L.getD i qAI).bs.length (L.getD i qAI).bsc,.bool ((L.getD i qAI).th),Str ((L.getD i qAI).pk),Str ((L.getD i qAI).pv)]) V V qKI qGV (m:=blk g9 [Str ((L.getD i qAI).k),Str ((L.getD i qAI).v),.slice (L.getD i qAI).bsA (L.getD i qAI).bs.length (L.getD i qAI).bsc,.bool ((L.getD i qAI).th),Str ((L.getD i qAI).pk),Str ((L.getD i qAI).pv)] 229) (by simp) (qAP.blk0.sub 2 4) rfl) rfl<|J.a2 0 qHK qFF rfl rfl rfl rfl rfl<|J.a2 0 qGZ z9_ rfl rfl rfl rfl rfl<|J.f (qAD 3 (v:=Str ((L.getD i qAI).k)) rfl rfl rfl b9_ rfl) rfl<|J.a2 1 qGS z3_ rfl rfl rfl rfl rfl<|J.f (qAD 1 (v:=I ((d:Nat):Int)) rfl rfl rfl b3_ rfl) rfl<|J.q (qAB rfl rfl ent149 (Ct.use0 (λF' hF=>qJ3 F' ((L.getD i qAI).bsA) ((L.getD i qAI).bsc) ((L.getD i qAI).bs) ((hbs i (by omega)).mono (hF F (by simp))) ((L.getD i qAI).th) ((L.getD i qAI).pk) ((L.getD i qAI).pv) ((L.getD i qAI).k) d (by assumption)))) rfl λg51 _=>J.f (qAw rfl rfl) rfl<|J.b rfl<|J.T (qAA (j:=2) rfl rfl qHK rfl qGV rfl) rfl<|J.T (qAl (vs:= [.slice (L.getD i qAI).bsA (L.getD i qAI).bs.length (L.getD i qAI).bsc,.bool ((L.getD i qAI).th),Str ((L.getD i qAI).pk),Str ((L.getD i qAI).pv)]) rfl rfl qKI qGV (m:=blk g9 [Str ((L.getD i qAI).k),Str ((L.getD i qAI).v),.slice (L.getD i qAI).bsA (L.getD i qAI).bs.length (L.getD i qAI).bsc,.bool ((L.getD i qAI).th),Str ((L.getD i qAI).pk),Str ((L.getD i qAI).pv)] 229) (by simp) (qAP.blk0.sub 2 4) rfl) rfl<|J.T (qAA (j:=0) rfl rfl qHK rfl qFF rfl) rfl<|J.T (qAA (j:=0) rfl rfl qGZ rfl z9_ rfl) rfl<|J.T (qAD 3 (v:=Str ((L.getD i qAI).k)) rfl rfl rfl b9_ rfl) rfl<|J.T (qAA (j:=1) rfl rfl qGS rfl z3_ rfl) rfl<|J.T (qAD 1 (v:=I ((d:Nat):Int)) rfl rfl rfl b3_ rfl) rfl<|J.e0 (qAB rfl rfl ent150 (Ct.use0 (λF' hF=>qPZ F' (hK.mo hF) ((L.getD i qAI).bsA) ((L.getD i qAI).bsc) ((L.getD i qAI).bs) ((hbs i (by omega)).mono (hF F (by simp))) ((L.getD i qAI).th) ((L.getD i qAI).pk) ((L.getD i qAI).pv) ((L.getD i qAI).k) d (by assumption) (by assumption)))) rfl λg61 _=>J.b rfl<|J.T ((qBv rfl rfl rfl).no (λh=>h hnx.1)) rfl<|J.b rfl<|J.c hK20<|J.b5 1 9 38 39 40 64 ?_
  refine J.a5 ?_
  refine J.W hK19<|J.a0 1 9 38 39 40 ?_
  refine J.g λK21 hK21=>J.a2 2 qHK qGV V V V V V<|J.f (qAl (vs:= [.slice (L.getD i qAI).bsA (L.getD i qAI).bs.length (L.getD i qAI).bsc,.bool ((L.getD i qAI).th),Str ((L.getD i qAI).pk),Str ((L.getD i qAI).pv)]) V V qKI qGV (m:=blk g9 [Str ((L.getD i qAI).k),Str ((L.getD i qAI).v),.slice (L.getD i qAI).bsA (L.getD i qAI).bs.length (L.getD i qAI).bsc,.bool ((L.getD i qAI).th),Str ((L.getD i qAI).pk),Str ((L.getD i qAI).pv)] 229) (by simp) (qAP.blk0.sub 2 4) rfl) rfl<|J.a2 0 qHK qFF rfl rfl rfl rfl rfl<|J.a2 0 qGZ z9_ rfl rfl rfl rfl rfl<|J.f (qAD 3 (v:=Str ((L.getD i qAI).k)) rfl rfl rfl b9_ rfl) rfl<|J.a2 0 qHK qFF rfl rfl rfl rfl rfl<|J.a2 1 qGZ z9_ rfl rfl rfl rfl rfl<|J.f (qAD 3 (v:=Str ((L.getD i qAI).v)) rfl rfl rfl b9_ rfl) rfl<|J.a2 1 qGS z3_ rfl rfl rfl rfl rfl<|J.f (qAD 1 (v:=I ((d:Nat):Int)) rfl rfl rfl b3_ rfl) rfl<|J.q (qAB rfl rfl ent163 (Ct.use0 (λF' hF=>qMW F' (hK.mo hF) ((L.getD i qAI).bsA) ((L.getD i qAI).bsc) ((L.getD i qAI).bs) ((hbs i (by omega)).mono (hF F (by simp))) ((L.getD i qAI).th) ((L.getD i qAI).pk) ((L.getD i qAI).pv) ((L.getD i qAI).k) d (by assumption) ((L.getD i qAI).v) (by first|assumption|omega) (by assumption)))) rfl λg76 _=>J.j 5 rfl<|J.c hK21<|J.b5 1 10 11 38 39 40 ?_
  refine J.k λK22 hK22=>J.g λK23 hK23=>J.b V<|J.f ((qAU V V V).no (by decide)) V<|J.c hK23<|J.c5 1 10 11 38 39 40 80 ?_
  refine J.a5 ?_
  refine J.W hK22<|J.a0 1 10 38 39 40 ?_
  refine J.H<|J.j 2 V<|J.a8<|J.b0<|J.u (J.M hK17 ?_)
  refine J.a0 1 7 38 39 40 ?_
  exact J.H<|J.f ((qAQ V V V (by omega)).nat (i+1) (by omega)) V<|J.b V<|J.a8<|J.u<|J.a9 (i+1) (λη (hη:_∧L.length-η<L.length-i)=>hI2 η hη.1 hη.2) ⟨(by omega),by first|omega|(dsimp only;omega)⟩ ⟨V,congrArg (λz=>some (Str z)) hnx.2,V,V,V,trivial⟩ (λ_ h=>h.pick [0,1,2] (by decide))
 refine J.b8<|J.a6<|J.a6<|J.b9 ?_
 refine J.u (J.M hK13 ?_)
 refine J.E 1 7 ?_
 refine J.k λK24 hK24=>J.k λK25 hK25=>?_
 obtain rfl:i=L.length:=by omega
 rw [show(L.map qAq.chg).take L.length=L.map qAq.chg from jV (by rw [jK];exact jJ _)]
 refine J.H<|J.b V<|J.a2 3 qGS z9_ V V V V V<|J.f (qAD 1 (v:=Str (new)) V V V b9_ V) V<|J.f (qBv V V V) V<|J.c hK25<|J.A 87 ?_
 refine J.a4 V (λh87=>?_) (λh87=>?_)
 ·
  refine J.g λK26 hK26=>J.b V<|J.c hK26<|J.A 2 ?_
  exact J.D<|J.a7<|J.Z hw0 V () (by first|(rw [if_neg (λe=>h87 e.symm)];rfl)|(rw [if_pos (Decidable.not_not.1 h87).symm];rfl)) trivial [0] rfl (by decide)
 refine J.W hK24<|J.d0 [] trivial<|J.g λK27 hK27=>J.b V<|J.c hK27<|J.A 2 ?_
 exact J.D<|J.Z hw0 V () (by first|(rw [if_neg (λe=>h87 e.symm)];rfl)|(rw [if_pos (Decidable.not_not.1 h87).symm];rfl)) trivial [0] rfl (by decide)
theorem ent120:qAE prog 120:=qAE.of func120 rfl (by kernel_rfl)
theorem qJL(F:Hp)(hK:KF F)(x:Hd)(A:Option Addr)(c:Nat)(hg:x.good)(hsl:Sl F 1 A x.nodes.length c (qAH x.nodes))(y:Hd)(B:Option Addr)(e:Nat)(hgy:y.good)(hsy:Sl F 1 B y.nodes.length e (qAH y.nodes))(b:Nat)(dp:Int)(old nw:List UInt8)(As:Option Addr)(ns cs:Nat)(ck:Int)(hC: ∀F':Hp,Le F F'→Ct prog 120 [.agg #[I ((b:Nat):Int),I dp,Str old,Str nw,.slice As ns cs]] [F'] (λ_:Unit=>I ck) (λ_=>True) (λ_=> [F']))(hix:x.next y=0→ck=0→dp=y.dep→b<x.nodes.length∧b<y.nodes.length):Ct prog 59 [.agg #[N64 x.ep,Str (x.par),I (x.dep),I (x.aud),.slice A x.nodes.length c],.agg #[N64 y.ep,Str (y.par),I (y.dep),I (y.aud),.slice B y.nodes.length e],.agg #[I ((b:Nat):Int),I (dp),Str (old),Str (nw),.slice As ns cs]] [F] (λ_:Unit=>I (qOl x y ck b dp old nw)) (λ_=>True) (λ_=> [F]):=by
 refine Ct.walk func59 rfl ntmps59 rfl (λw0 hw0=>?_)
 change J _ [(0,_),(1,_),(2,_)] _ _ _
 refine J.g λK1 hK1=>J.q (qAi (l:= [N64 x.ep,Str (x.par),I (x.dep),I (x.aud),.slice A x.nodes.length c]) V V V) V λg3 _=>?_
 change J _ _ _ [F,blk g3 [N64 x.ep,Str (x.par),I (x.dep),I (x.aud),.slice A x.nodes.length c] 39] _
 refine J.q (qAi (l:= [N64 y.ep,Str (y.par),I (y.dep),I (y.aud),.slice B y.nodes.length e]) V V V) V λg4 _=>?_
 change J _ _ _ [_,_,blk g4 [N64 y.ep,Str (y.par),I (y.dep),I (y.aud),.slice B y.nodes.length e] 39] _
 refine J.q (qAi (l:= [I ((b:Nat):Int),I (dp),Str (old),Str (nw),.slice As ns cs]) V V V) V λg5 _=>?_
 change J _ _ _ [_,_,_,blk g5 [I ((b:Nat):Int),I (dp),Str (old),Str (nw),.slice As ns cs] 79] _
 refine J.b V<|J.c hK1<|J.G 3 4 5 ?_
 refine J.k λK2 hK2=>J.g λK3 hK3=>J.c8 1 qE0 qCj V V V V V<|J.c8 2 qE0 qCj V V V V V<|J.q (qAB V V ent49 (Ct.use0 (λF' hF=>qP7 F' (hK.mo hF) x A c hg (hsl.mono (hF F (by simp))) y B e hgy (hsy.mono (hF F (by simp)))))) rfl λg11 _=>J.b rfl<|J.c hK3<|J.O 3 4 5 7 ?_
 refine J.g λK4 hK4=>J.b V<|J.f (qAU V V V) V<|J.c hK4<|J.a0 3 4 5 7 13 ?_
 refine J.a4 V (λh13=>?_) (λh13=>?_)
 ·
  refine J.g λK5 hK5=>J.j 2 V<|J.c hK5<|J.A 6 ?_
  exact J.D<|J.a7<|J.Z hw0 V () (by rw [ack_1 (by omega)]) trivial [0] rfl (by decide)
 refine J.W hK2<|J.G 3 4 5 ?_
 refine J.k λK6 hK6=>J.g λK7 hK7=>J.c8 3 isAgg79 qLZ V V V V V<|J.q (qAB V V ent120 (Ct.use0 (λF' hF=>hC F' (hF F (by simp))))) rfl λg16 _=>J.b rfl<|J.c hK7<|J.O 3 4 5 8 ?_
 refine J.g λK8 hK8=>J.b V<|J.f (qAU V V V) V<|J.c hK8<|J.a0 3 4 5 8 18 ?_
 refine J.a4 V (λh18=>?_) (λh18=>?_)
 ·
  refine J.g λK9 hK9=>J.j 2 V<|J.c hK9<|J.A 6 ?_
  exact J.D<|J.a7<|J.Z hw0 V () (by rw [ack_2 (by omega) (by omega)]) trivial [0] rfl (by decide)
 refine J.W hK6<|J.G 3 4 5 ?_
 refine J.k λK10 hK10=>J.k λK11 hK11=>J.b7 [blk g3 [N64 x.ep,Str (x.par),I (x.dep),I (x.aud),.slice A x.nodes.length c] 39,blk g4 [N64 y.ep,Str (y.par),I (y.dep),I (y.aud),.slice B y.nodes.length e] 39,blk g5 [I ((b:Nat):Int),I (dp),Str (old),Str (nw),.slice As ns cs] 79,F] [] (.y 0 (.y 1 (.y 2 (.y 3 (.y 4 (.y 5 (.y 6 (.y 7 (.y 8 (.y 9 (.y 10 (.y 11 (.y 12 (.y 13 (.y 14 (.y 15 (.y 16 (.y 17 (.y 18 (.y 19 (.y 20 (.y 21 (.y 22 (.y 23 (.y 24 (.y 25 (.y 26 .nil))))))))))))))))))))))))))) Tryz.wide (by decide+kernel) (by simp) ?_
 refine J.p V (qAA (j:=1) V V qGS V z3_ V) V V<|J.p V (qAD 2 (v:=I (dp)) V V V b3_ V) V V<|J.p V (qAA (j:=2) V V qEC V z3_ V) V V<|J.p V (qAD 1 (v:=I (y.dep)) V V V b3_ V) V V<|J.p V (qAU V V V) V V<|J.L ?_
 refine J.c6 (d:=25) V (λh25=>?_) (λh25=>?_)
 ·
  iterate 9 refine J.a3 ?_
  refine J.d1 ?_
  refine J.L ?_
  iterate 9 refine J.a3 ?_
  refine J.d1 ?_
  refine J.b3<|J.u (J.M hK11 ?_)
  refine J.A 46 ?_
  refine J.c7 ?_
  refine J.g λK12 hK12=>J.b V<|J.c hK12<|J.A 6 ?_
  exact J.D<|J.a7<|J.Z hw0 V () (by first|(rw [qFL (by omega) (by omega) (λh=>h25 h.1)])|(rw [qFL (by omega) (by omega) (λh=>h36 h.2.1)])|(rw [qFL (by omega) (by omega) (λh=>h46 h.2.2)])|(rw [qOk (by omega) (by omega) ⟨Decidable.not_not.1 h25,Decidable.not_not.1 h36,Decidable.not_not.1 h46⟩])) trivial [0] rfl (by decide)
 obtain ⟨hb1,hb2⟩:=hix (by omega) (by omega) (by omega)
 refine J.V V (qAA (j:=2) V V qGS V z9_ V) V V<|J.V V (qAD 2 (v:=Str (old)) V V V b9_ V) V V<|J.V V (qAA (j:=4) V V qEC V qCA V) V V<|J.V V (qAD 0 (v:= .slice A x.nodes.length c) V V V qCR V) V V<|J.V V (qAA (j:=0) V V qGS V z3_ V) V V<|J.V V (qAD 2 (v:=I ((b:Nat):Int)) V V V b3_ V) V V<|J.V V (qAF (i:=b) V V V qAh z9_ hsl (by omega)) V V<|J.V V (qAL V V b9_ (m:=F) (by simp) (hsl.elem (qAZ (qAd [] (by omega))))) rfl rfl<|J.V rfl (qBv rfl rfl rfl) rfl rfl<|J.d5 ?_
 refine J.L ?_
 refine J.c6 (d:=36) V (λh36=>?_) (λh36=>?_)
 ·
  iterate 9 refine J.a3 ?_
  refine J.d1 ?_
  refine J.b3<|J.u (J.M hK11 ?_)
  refine J.A 46 ?_
  refine J.c7 ?_
  refine J.g λK13 hK13=>J.b V<|J.c hK13<|J.A 6 ?_
  exact J.D<|J.a7<|J.Z hw0 V () (by first|(rw [qFL (by omega) (by omega) (λh=>h25 h.1)])|(rw [qFL (by omega) (by omega) (λh=>h36 h.2.1)])|(rw [qFL (by omega) (by omega) (λh=>h46 h.2.2)])|(rw [qOk (by omega) (by omega) ⟨Decidable.not_not.1 h25,Decidable.not_not.1 h36,Decidable.not_not.1 h46⟩])) trivial [0] rfl (by decide)
 refine J.V V (qAA (j:=3) V V qGS V z9_ V) V V<|J.V V (qAD 2 (v:=Str (nw)) V V V b9_ V) V V<|J.V V (qAA (j:=4) V V qEC V qCA V) V V<|J.V V (qAD 1 (v:= .slice B y.nodes.length e) V V V qCR V) V V<|J.V V (qAA (j:=0) V V qGS V z3_ V) V V<|J.V V (qAD 2 (v:=I ((b:Nat):Int)) V V V b3_ V) V V<|J.V V (qAF (i:=b) V V V qAh z9_ hsy (by omega)) V V<|J.V V (qAL V V b9_ (m:=F) (by simp) (hsy.elem (qAZ (qAd [] (by omega))))) rfl rfl<|J.V rfl (qBv rfl rfl rfl) rfl rfl<|J.d5 ?_
 refine J.b3<|J.u (J.M hK11 ?_)
 refine J.A 46 ?_
 refine J.a4 V (λh46=>?_) (λh46=>?_)
 ·
  refine J.g λK14 hK14=>J.b V<|J.c hK14<|J.A 6 ?_
  exact J.D<|J.a7<|J.Z hw0 V () (by first|(rw [qFL (by omega) (by omega) (λh=>h25 h.1)])|(rw [qFL (by omega) (by omega) (λh=>h36 h.2.1)])|(rw [qFL (by omega) (by omega) (λh=>h46 h.2.2)])|(rw [qOk (by omega) (by omega) ⟨Decidable.not_not.1 h25,Decidable.not_not.1 h36,Decidable.not_not.1 h46⟩])) trivial [0] rfl (by decide)
 refine J.W hK10<|J.d0 [] trivial<|J.g λK15 hK15=>J.b V<|J.c hK15<|J.A 6 ?_
 exact J.D<|J.Z hw0 V () (by first|(rw [qFL (by omega) (by omega) (λh=>h25 h.1)])|(rw [qFL (by omega) (by omega) (λh=>h36 h.2.1)])|(rw [qFL (by omega) (by omega) (λh=>h46 h.2.2)])|(rw [qOk (by omega) (by omega) ⟨Decidable.not_not.1 h25,Decidable.not_not.1 h36,Decidable.not_not.1 h46⟩])) trivial [0] rfl (by decide)
theorem ent60:qAE prog 60:=qAE.of func60 rfl (by kernel_rfl)
theorem ent61:qAE prog 61:=qAE.of func61 rfl (by kernel_rfl)
theorem qMV{X:Type}(F BQ md mm:Hp)(hK:KF F)(x:Hd)(A:Option Addr)(c:Nat)(hg:x.good)(hsl:Sl F 1 A x.nodes.length c (qAH x.nodes))(y:Hd)(B:Option Addr)(e:Nat)(hgy:y.good)(hsy:Sl F 1 B y.nodes.length e (qAH y.nodes))(b:Nat)(dp:Int)(old nw:List UInt8)(As:Option Addr)(ns cs:Nat)(ck:Int)(hC: ∀F':Hp,Le F F'→Ct prog 120 [.agg #[I ((b:Nat):Int),I dp,Str old,Str nw,.slice As ns cs]] [F'] (λ_:Unit=>I ck) (λ_=>True) (λ_=> [F']))(hix:x.next y=0→ck=0→dp=y.dep→b<x.nodes.length∧b<y.nodes.length)(ga gs gq cnt gm:Nat)(hA:qAP F ⟨ga,0,none⟩ [Ptr gs,I ((cnt:Nat):Int),Ptr gq,.map (some gm)])(gk gb nx:Nat)(hcn:cnt≤1000)(hnx:nx≤100000)(hl:nx<cnt)(Ms:Mrk)(hM:qCF plK mm gm (mkV Ms))(hm:qBQ Ms (y.ep,((b:Nat):Int))=none)(hE:qOl x y ck b dp old nw=0)(h1:y.ep≤4294967295)(h2:b<16)(nm:Nat)(h3:nm<64)(h4:y.dig.length=16)(φ:X→Prop)(B1 M1 N1:X→Hp)(hP: ∀F':Hp,Le F F'→Ct prog 121 [Ptr gq,Str (mkB y.ep b y.dig)] [BQ,md,F'] (λ_:X=>I (0)) φ (λx=> [B1 x,M1 x,F',N1 x])){Y:Type}(BB:Hp)(ψ:Y→Prop)(P Q:Y→Option Addr)(p q:Y→Nat)(n1 n2:Nat)(BB1 M2 N2 U2 W2:Y→Hp)(hG: ∀x,φ x→ ∀F':Hp,Le F F'→Ct prog 61 [Ptr gs,Str (atM y.ep b nm y.dig)] [blk gs [Ptr gk,Ptr gb,I ((nx:Nat):Int)] 216,BB,M1 x,F'] (λz:Y=> .tuple #[.agg #[I ((nx:Nat):Int),.slice (P z) n1 (p z),.slice (Q z) n2 (q z)],I ((0:Nat):Int)]) ψ (λz=> [blk gs [Ptr gk,Ptr gb,I ((nx+1:Nat):Int)] 216,BB1 z,M2 z,F',N2 z,U2 z,W2 z])):Ct prog 19 [Ptr ga,I ((nm:Nat):Int),.agg #[N64 x.ep,Str x.par,I x.dep,I x.aud,.slice A x.nodes.length c],.agg #[N64 y.ep,Str y.par,I y.dep,I y.aud,.slice B y.nodes.length e],.agg #[I ((b:Nat):Int),I dp,Str old,Str nw,.slice As ns cs]] [blk gs [Ptr gk,Ptr gb,I ((nx:Nat):Int)] 216,BB,BQ,md,mm,F] (λr:(X×Hp)×Y=> .tuple #[.agg #[N64 y.ep,I ((b:Nat):Int),Str y.dig,I ((nm:Nat):Int),I ((nx:Nat):Int),.slice (P r.2) n1 (p r.2),.slice (Q r.2) n2 (q r.2)],I ((0:Nat):Int)]) (λr=>φ r.1.1∧qCF plK r.1.2 gm (mkV (Ms++ [((y.ep,((b:Nat):Int)),y.dig)]))∧ψ r.2) (λr=> [blk gs [Ptr gk,Ptr gb,I ((nx+1:Nat):Int)] 216,BB1 r.2,B1 r.1.1,M2 r.2,r.1.2,F,N1 r.1.1,N2 r.2,U2 r.2,W2 r.2]):=by
 refine Ct.walk func19 rfl ntmps19 rfl (λw0 hw0=>?_)
 change J _ [(0,_),(1,_),(2,_),(3,_),(4,_)] _ _ _
 refine J.g λK1 hK1=>J.q (qAi (l:= [N64 x.ep,Str (x.par),I (x.dep),I (x.aud),.slice A x.nodes.length c]) V V V) V λg7 _=>?_
 change J _ _ _ [blk gs [Ptr gk,Ptr gb,I ((nx:Nat):Int)] 216,BB,BQ,md,mm,F,blk g7 [N64 x.ep,Str (x.par),I (x.dep),I (x.aud),.slice A x.nodes.length c] 39] _
 refine J.q (qAi (l:= [N64 y.ep,Str (y.par),I (y.dep),I (y.aud),.slice B y.nodes.length e]) V V V) V λg8 _=>?_
 change J _ _ _ [_,_,_,_,_,_,_,blk g8 [N64 y.ep,Str (y.par),I (y.dep),I (y.aud),.slice B y.nodes.length e] 39] _
 refine J.q (qAi (l:= [I ((b:Nat):Int),I (dp),Str (old),Str (nw),.slice As ns cs]) V V V) V λg9 _=>?_
 change J _ _ _ [_,_,_,_,_,_,_,_,blk g9 [I ((b:Nat):Int),I (dp),Str (old),Str (nw),.slice As ns cs] 79] _
 refine J.q (qAO (l:= [.int .u64 0,I 0,Str [],I 0,I 0,.slice none 0 0,.slice none 0 0]) V qHu V) V λg10 _=>?_
 change J _ _ _ [_,_,_,_,_,_,_,_,_,blk g10 [.int .u64 0,I 0,Str [],I 0,I 0,.slice none 0 0,.slice none 0 0] 52] _
 refine J.b V<|J.c hK1<|J.b5 0 1 7 8 9 10 ?_
 refine J.k λK2 hK2=>J.g λK3 hK3=>J.b V<|J.f ((qA1 qTS V V V).as (v':= .bool false) V) V<|J.c hK3<|J.c5 0 1 7 8 9 10 21 ?_
 refine J.a5 ?_
 refine J.W hK2<|J.b5 0 1 7 8 9 10 ?_
 refine J.k λK4 hK4=>J.g λK5 hK5=>J.c8 6 qE0 qCj V V V V V<|J.c8 7 qE0 qCj V V V V V<|J.c8 8 isAgg79 qLZ V V V V V<|J.q (qAB V V ent59 (Ct.use0 (λF' hF=>qJL F' (hK.mo hF) x A c hg (hsl.mono (hF F (by simp))) y B e hgy (hsy.mono (hF F (by simp))) b dp old nw As ns cs ck (λF2 h2=>hC F2 ((hF F (by simp)).trans h2)) hix))) rfl λg26 _=>J.b rfl<|J.c hK5<|J.b5 0 1 8 9 10 12 ?_
 refine J.g λK6 hK6=>J.b V<|J.f ((qAU V V V).no (by omega)) V<|J.c hK6<|J.c5 0 1 8 9 10 12 28 ?_
 refine J.a5 ?_
 refine J.W hK4<|J.a0 0 1 8 9 10 ?_
 refine J.d9 (X:=Nat) (λζ=> [(0,Ptr ga),(8,Ptr g8),(9,Ptr g9),(10,Ptr g10),(13,Ptr ζ)]) (λζ=> [blk gs [Ptr gk,Ptr gb,I ((nx:Nat):Int)] 216,BB,BQ,md,mm,F,blk g7 [N64 x.ep,Str (x.par),I (x.dep),I (x.aud),.slice A x.nodes.length c] 39,blk g8 [N64 y.ep,Str (y.par),I (y.dep),I (y.aud),.slice B y.nodes.length e] 39,blk g9 [I ((b:Nat):Int),I (dp),Str (old),Str (nw),.slice As ns cs] 79,blk g10 [.int .u64 0,I 0,Str [],I 0,I 0,.slice none 0 0,.slice none 0 0] 52,blk ζ [N64 y.ep,I ((b:Nat):Int),Str (y.dig),I ((nm:Nat):Int),I 0,.slice none 0 0,.slice none 0 0] 52]) (λζ=>True) (λK7 hK7=>?_) ?_
 ·
  refine J.b7 [blk g7 [N64 x.ep,Str (x.par),I (x.dep),I (x.aud),.slice A x.nodes.length c] 39,blk g8 [N64 y.ep,Str (y.par),I (y.dep),I (y.aud),.slice B y.nodes.length e] 39,blk g9 [I ((b:Nat):Int),I (dp),Str (old),Str (nw),.slice As ns cs] 79,F] [9] (.y 0 (.y 1 (.y 2 (.y 3 (.y 4 (.y 6 (.br (.e 5 (.y 7 (.e 8 (.e 9 .nil)))) (.e 8 (.e 5 (.y 7 (.e 9 .nil))))))))))) Tryz.wide (by decide+kernel) (by simp) ?_
  refine J.p V (qAA (j:=0) V V qEC V qCG V) V V<|J.p V (qAD 1 (v:=N64 y.ep) V V V qCZ V) V V<|J.p V (qAA (j:=0) V V qGS V z3_ V) V V<|J.p V (qAD 2 (v:=I ((b:Nat):Int)) V V V b3_ V) V V<|J.p V (qAm 1 V V V qE0 qCj V) V V<|J.L ?_
  refine J.f4 ?_ ?_
  ·
   refine J.b2 V (qAB V V ent11 (Ct.use0 (λF' hF=>qA2 F' (hK.mo hF) y B e hgy (hsy.mono (hF F (by simp)))))) rfl (by simp) λg36 _=>J.p rfl (qAK (l:= [(0,.tmp 32),(1,.tmp 34),(2,.tmp 36),(3,.tmp 37)]) (vs:= [N64 (y.ep),I ((b:Nat):Int),Str (y.dig),I ((nm:Nat):Int)]) (places:= [(0,1),(1,1),(2,1),(3,1),(4,3)]) (r:= [N64 (y.ep),I ((b:Nat):Int),Str (y.dig),I ((nm:Nat):Int),I 0,.slice none 0 0,.slice none 0 0]) rfl rfl rfl qCa qHu (λ_=>by kernel_rfl) (by kernel_rfl)) rfl rfl<|J.b2 rfl (qAO (l:= [.int .u64 0,I 0,Str [],I 0,I 0,.slice none 0 0,.slice none 0 0]) rfl qHu rfl) rfl (by simp) λg13 _=>?_
   change J _ _ _ [blk gs [Ptr gk,Ptr gb,I ((nx:Nat):Int)] 216,BB,BQ,md,mm,F,blk g7 [N64 x.ep,Str (x.par),I (x.dep),I (x.aud),.slice A x.nodes.length c] 39,blk g8 [N64 y.ep,Str (y.par),I (y.dep),I (y.aud),.slice B y.nodes.length e] 39,blk g9 [I ((b:Nat):Int),I (dp),Str (old),Str (nw),.slice As ns cs] 79,blk g10 [.int .u64 0,I 0,Str [],I 0,I 0,.slice none 0 0,.slice none 0 0] 52,blk g13 [.int .u64 0,I 0,Str [],I 0,I 0,.slice none 0 0,.slice none 0 0] 52] _
   refine J.d2 V (qAG (i:=10) (l:= [.int .u64 0,I 0,Str [],I 0,I 0,.slice none 0 0,.slice none 0 0]) (vs:= [N64 (y.ep),I ((b:Nat):Int),Str (y.dig),I ((nm:Nat):Int),I 0,.slice none 0 0,.slice none 0 0]) V V V V V qCi V V) V V V λ_ _=>?_
   change J _ _ _ [_,_,_,_,_,_,_,_,_,_,blk g13 [N64 (y.ep),I ((b:Nat):Int),Str (y.dig),I ((nm:Nat):Int),I 0,.slice none 0 0,.slice none 0 0] 52] _
   exact J.b3<|J.u<|J.a9 (g13) hK7 (trivial) ⟨V,V,V,V,V,trivial⟩ (λ_ h=>h)
  refine J.b2 V (qAO (l:= [.int .u64 0,I 0,Str [],I 0,I 0,.slice none 0 0,.slice none 0 0]) V qHu V) V (by simp) λg13 _=>?_
  change J _ _ _ [blk gs [Ptr gk,Ptr gb,I ((nx:Nat):Int)] 216,BB,BQ,md,mm,F,blk g7 [N64 x.ep,Str (x.par),I (x.dep),I (x.aud),.slice A x.nodes.length c] 39,blk g8 [N64 y.ep,Str (y.par),I (y.dep),I (y.aud),.slice B y.nodes.length e] 39,blk g9 [I ((b:Nat):Int),I (dp),Str (old),Str (nw),.slice As ns cs] 79,blk g10 [.int .u64 0,I 0,Str [],I 0,I 0,.slice none 0 0,.slice none 0 0] 52,blk g13 [.int .u64 0,I 0,Str [],I 0,I 0,.slice none 0 0,.slice none 0 0] 52] _
  refine J.b2 V (qAB V V ent11 (Ct.use0 (λF' hF=>qA2 F' (hK.mo hF) y B e hgy (hsy.mono (hF F (by simp)))))) rfl (by simp) λg36 _=>J.p rfl (qAK (l:= [(0,.tmp 32),(1,.tmp 34),(2,.tmp 36),(3,.tmp 37)]) (vs:= [N64 (y.ep),I ((b:Nat):Int),Str (y.dig),I ((nm:Nat):Int)]) (places:= [(0,1),(1,1),(2,1),(3,1),(4,3)]) (r:= [N64 (y.ep),I ((b:Nat):Int),Str (y.dig),I ((nm:Nat):Int),I 0,.slice none 0 0,.slice none 0 0]) rfl rfl rfl qCa qHu (λ_=>by kernel_rfl) (by kernel_rfl)) rfl rfl<|J.d2 rfl (qAG (i:=10) (l:= [.int .u64 0,I 0,Str [],I 0,I 0,.slice none 0 0,.slice none 0 0]) (vs:= [N64 (y.ep),I ((b:Nat):Int),Str (y.dig),I ((nm:Nat):Int),I 0,.slice none 0 0,.slice none 0 0]) rfl rfl rfl rfl rfl qCi rfl rfl) rfl rfl rfl λ_ _=>?_
  change J _ _ _ [_,_,_,_,_,_,_,_,_,_,blk g13 [N64 (y.ep),I ((b:Nat):Int),Str (y.dig),I ((nm:Nat):Int),I 0,.slice none 0 0,.slice none 0 0] 52] _
  exact J.b3<|J.u<|J.a9 (g13) hK7 (trivial) ⟨V,V,V,V,V,trivial⟩ (λ_ h=>h)
 rintro g13 _
 refine J.g λK8 hK8=>J.a2 0 qEC qCG V V V V V<|J.f (qAD 7 (v:=N64 y.ep) V V V qCZ V) V<|J.a2 0 qGS z3_ V V V V V<|J.f (qAD 8 (v:=I ((b:Nat):Int)) V V V b3_ V) V<|J.f (qAK (l:= [(0,.tmp 40),(1,.tmp 42)]) (vs:= [N64 (y.ep),I ((b:Nat):Int)]) (places:= [(0,1),(1,1)]) (r:= [N64 (y.ep),I ((b:Nat):Int)]) V V V qGa qHw (λ_=>by kernel_rfl) V) V<|J.q (qAO (l:= [.int .u64 0,I 0]) V qHw V) V λg14 _=>?_
 change J _ _ _ [blk gs [Ptr gk,Ptr gb,I ((nx:Nat):Int)] 216,BB,BQ,md,mm,F,blk g7 [N64 x.ep,Str (x.par),I (x.dep),I (x.aud),.slice A x.nodes.length c] 39,blk g8 [N64 y.ep,Str (y.par),I (y.dep),I (y.aud),.slice B y.nodes.length e] 39,blk g9 [I ((b:Nat):Int),I (dp),Str (old),Str (nw),.slice As ns cs] 79,blk g10 [.int .u64 0,I 0,Str [],I 0,I 0,.slice none 0 0,.slice none 0 0] 52,blk g13 [N64 y.ep,I ((b:Nat):Int),Str (y.dig),I ((nm:Nat):Int),I 0,.slice none 0 0,.slice none 0 0] 52,blk g14 [.int .u64 0,I 0] 148] _
 refine J.b1 (qAG (i:=11) (l:= [.int .u64 0,I 0]) (vs:= [N64 (y.ep),I ((b:Nat):Int)]) V V V V V qEh V V) V V λ_ _=>?_
 change J _ _ _ [_,_,_,_,_,_,_,_,_,_,_,blk g14 [N64 (y.ep),I ((b:Nat):Int)] 148] _
 refine J.c hK8<|J.O 0 10 13 14 ?_
 refine J.k λK9 hK9=>J.b7 [F,mm,blk g14 [N64 (y.ep),I ((b:Nat):Int)] 148] [] (.y 0 (.y 1 (.y 2 (.y 3 (.y 4 (.y 5 (.y 6 (.y 7 (.y 8 (.y 9 (.y 10 .nil))))))))))) Tryz.wide (by decide+kernel) (by simp) ?_
 refine J.L ?_
 refine J.p V (qAC V V) V V<|J.p V (qAA (j:=3) V V qEE V sizeOf143 V) V V<|J.p V (qAL (v:= .map (some gm)) V V isAgg143 (m:=F) (by simp) (hA.at (i:=3) rfl)) rfl rfl<|J.p rfl (qAm 2 rfl rfl rfl isAgg148 qEh rfl) rfl rfl<|J.p rfl ((qD1 (K:=plK) (l:=mkV Ms) (s:=(y.ep,((b:Nat):Int))) qN9 rfl rfl rfl qMr e9_ (m:=mm) (by simp) hM.at).as (v':= .tuple #[Str [],.bool false]) (by rw [qEw,hm];rfl)) rfl rfl<|J.L ?_
 refine J.d3 (Str ([])) ?_
 refine J.d3 (.bool false) ?_
 refine J.c3 ?_
 refine J.c3 ?_
 refine J.b3<|J.u (J.M hK9 ?_)
 refine J.b5 0 10 13 14 15 16 ?_
 refine J.k λK10 hK10=>J.a1<|J.g λK11 hK11=>J.c8 10 qGM qCi V V V V V<|J.q (qAB V V ent22 (Ct.use0 (λF' hF=>qBl F' (hK.mo hF) y.ep b nm y.dig 0 none none 0 0 0 0 h1 h2 h3 h4))) V λg55 _=>J.f ((qBb V V V).no (λh=>by have q:=qD6 y.ep b nm y.dig;rw [h] at q;exact absurd q (by decide))) rfl<|J.b rfl<|J.c hK11<|J.c5 0 10 13 14 15 16 53 ?_
 refine J.a5 ?_
 refine J.g λK12 hK12=>J.j 8 V<|J.c hK12<|J.b5 0 10 13 14 16 58 ?_
 refine J.a5 ?_
 refine J.g λK13 hK13=>J.b V<|J.q (qAB V V ent21 (Ct.use0 (λF' hF=>qDk F' ga gs gq cnt gm (hA.mono (hF F (by simp))) gk gb nx (qAP.blk0.mono (hF (blk gs [Ptr gk,Ptr gb,I ((nx:Nat):Int)] 216) (by simp))) hcn hnx))) rfl λg69 _=>J.f ((qAS rfl rfl rfl).no (by omega)) rfl<|J.b rfl<|J.c hK13<|J.b5 0 10 13 14 16 67 ?_
 refine J.a5 ?_
 refine J.c0<|J.b0<|J.u (J.M hK10 ?_)
 refine J.a0 0 10 13 14 16 ?_
 refine J.k λK14 hK14=>J.g λK15 hK15=>J.b V<|J.f ((qAw V V).as (v':= .bool true) V) V<|J.c hK15<|J.a0 0 10 13 14 73 ?_
 refine J.c7 ?_
 refine J.k λK16 hK16=>J.c9 [2,3,4,5,0,1,9,10,11] [BQ,md,mm,F,blk gs [Ptr gk,Ptr gb,I ((nx:Nat):Int)] 216,BB,blk g10 [.int .u64 0,I 0,Str [],I 0,I 0,.slice none 0 0,.slice none 0 0] 52,blk g13 [N64 y.ep,I ((b:Nat):Int),Str (y.dig),I ((nm:Nat):Int),I 0,.slice none 0 0,.slice none 0 0] 52,blk g14 [N64 (y.ep),I ((b:Nat):Int)] 148] V (by decide)<|J.H<|J.b V<|J.c8 8 isAgg148 qEh V V V V V<|J.a2 2 qCa z9_ V V V V V<|J.f (qAD 7 (v:=Str (y.dig)) V V V b9_ V) V<|J.q (qAB V V ent60 (Ct.useA [BQ,md,mm] [F,blk gs [Ptr gk,Ptr gb,I ((nx:Nat):Int)] 216,BB,blk g10 [.int .u64 0,I 0,Str [],I 0,I 0,.slice none 0 0,.slice none 0 0] 52,blk g13 [N64 y.ep,I ((b:Nat):Int),Str (y.dig),I ((nm:Nat):Int),I 0,.slice none 0 0,.slice none 0 0] 52,blk g14 [N64 y.ep,I ((b:Nat):Int)] 148] (A':=λq:X×Hp=> [B1 q.1,M1 q.1,q.2]) (new:=λq=> [N1 q.1]) (λF' hF=>qOg F' BQ md mm ga gs gq cnt gm (hA.mono (hF F (by simp))) y.ep b h1 h2 y.dig h4 Ms hM hm φ B1 M1 N1 (λF2 h2'=>hP F2 ((hF F (by simp)).trans h2'))))) rfl ?_
 rintro⟨x78,q78⟩ ⟨hx78,hq78⟩
 change J _ _ _ [B1 x78,M1 x78,q78,F,blk gs [Ptr gk,Ptr gb,I ((nx:Nat):Int)] 216,BB,blk g10 [.int .u64 0,I 0,Str [],I 0,I 0,.slice none 0 0,.slice none 0 0] 52,blk g13 [N64 y.ep,I ((b:Nat):Int),Str (y.dig),I ((nm:Nat):Int),I 0,.slice none 0 0,.slice none 0 0] 52,blk g14 [N64 y.ep,I ((b:Nat):Int)] 148,N1 x78] _
 refine J.b V<|J.c hK16<|J.O 0 10 13 17 ?_
 refine J.g λK17 hK17=>J.b V<|J.f ((qAU V V V).no (by decide)) V<|J.c hK17<|J.a0 0 10 13 17 80 ?_
 refine J.a5 ?_
 refine J.W hK14<|J.G 0 10 13 ?_
 refine J.d9 (X:=Y×Nat) (λζ=> [(10,Ptr g10),(13,Ptr g13),(18,Ptr ζ.2),(19,I ((0:Nat):Int))]) (λζ=> [blk gs [Ptr gk,Ptr gb,I ((nx+1:Nat):Int)] 216,BB1 ζ.1,M2 ζ.1,F,B1 x78,q78,N1 x78,blk g10 [.int .u64 0,I 0,Str [],I 0,I 0,.slice none 0 0,.slice none 0 0] 52,blk g13 [N64 y.ep,I ((b:Nat):Int),Str (y.dig),I ((nm:Nat):Int),I 0,.slice none 0 0,.slice none 0 0] 52,N2 ζ.1,U2 ζ.1,W2 ζ.1,blk ζ.2 [I ((nx:Nat):Int),.slice (P ζ.1) n1 (p ζ.1),.slice (Q ζ.1) n2 (q ζ.1)] 50]) (λζ=>ψ ζ.1) (λK18 hK18=>?_) ?_
 ·
  refine J.c9 [4,5,1,3,0,2,9,6,7] [blk gs [Ptr gk,Ptr gb,I ((nx:Nat):Int)] 216,BB,M1 x78,F,B1 x78,q78,N1 x78,blk g10 [.int .u64 0,I 0,Str [],I 0,I 0,.slice none 0 0,.slice none 0 0] 52,blk g13 [N64 y.ep,I ((b:Nat):Int),Str (y.dig),I ((nm:Nat):Int),I 0,.slice none 0 0,.slice none 0 0] 52] V (by decide)<|J.b7 [F,blk g13 [N64 y.ep,I ((b:Nat):Int),Str (y.dig),I ((nm:Nat):Int),I 0,.slice none 0 0,.slice none 0 0] 52] [11,12,100009] (.y 0 (.y 1 (.y 2 (.y 3 (.y 4 (.br (.e 5 (.br (.e 6 (.y 7 (.y 8 (.y 9 (.e 10 (.e 11 (.e 12 .nil))))))) (.e 10 (.e 6 (.y 7 (.y 8 (.y 9 (.e 11 (.e 12 .nil))))))))) (.e 10 (.e 5 (.e 6 (.y 7 (.y 8 (.y 9 (.e 11 (.e 12 .nil)))))))))))))) Tryz.wide (by decide+kernel) (by simp) ?_
  refine J.L ?_
  refine J.p V (qAC V V) V V<|J.p V (qAA (j:=0) V V qEE V sizeOf137 V) V V<|J.p V (qAL (v:=Ptr gs) V V isAgg137 (m:=F) (by simp) (hA.at (i:=0) rfl)) rfl rfl<|J.p rfl (qAm 1 rfl rfl rfl qGM qCi rfl) rfl rfl<|J.f4 ?_ ?_
  ·
   refine J.b2 V (qAB V V ent22 (Ct.use0 (λF' hF=>qBl F' (hK.mo hF) y.ep b nm y.dig 0 none none 0 0 0 0 h1 h2 h3 h4))) V (by simp) λg89 _=>J.f4 ?_ ?_
   ·
    refine J.b2 V (qAB V V ent61 (Ct.useA [blk gs [Ptr gk,Ptr gb,I ((nx:Nat):Int)] 216,BB,M1 x78] [F,B1 x78,q78,N1 x78,blk g10 [.int .u64 0,I 0,Str [],I 0,I 0,.slice none 0 0,.slice none 0 0] 52,blk g13 [N64 y.ep,I ((b:Nat):Int),Str (y.dig),I ((nm:Nat):Int),I 0,.slice none 0 0,.slice none 0 0] 52] (A':=λz:Y=> [blk gs [Ptr gk,Ptr gb,I ((nx+1:Nat):Int)] 216,BB1 z,M2 z]) (new:=λz=> [N2 z,U2 z,W2 z]) (λF' hF=>hG x78 hx78 F' (hF F (by simp))))) rfl (by simp) ?_
    rintro z90 hz90
    change J _ ((90,.tuple #[.agg #[I ((nx:Nat):Int),.slice (P z90) n1 (p z90),.slice (Q z90) n2 (q z90)],I ((0:Nat):Int)])::_) _ [blk gs [Ptr gk,Ptr gb,I ((nx+1:Nat):Int)] 216,BB1 z90,M2 z90,F,B1 x78,q78,N1 x78,blk g10 [.int .u64 0,I 0,Str [],I 0,I 0,.slice none 0 0,.slice none 0 0] 52,blk g13 [N64 y.ep,I ((b:Nat):Int),Str (y.dig),I ((nm:Nat):Int),I 0,.slice none 0 0,.slice none 0 0] 52,N2 z90,U2 z90,W2 z90] _
    refine J.L ?_
    refine J.d3 (.agg #[I ((nx:Nat):Int),.slice (P z90) n1 (p z90),.slice (Q z90) n2 (q z90)]) ?_
    refine J.e6 V (qAk (v:=I ((0:Nat):Int)) V V V) V V V ?_
    refine J.b2 V (qAO (l:= [I 0,.slice none 0 0,.slice none 0 0]) V qLK V) V (by simp) λg18 _=>?_
    change J _ _ _ [_,_,_,_,_,_,_,_,_,_,_,_,blk g18 [I 0,.slice none 0 0,.slice none 0 0] 50] _
    refine J.d2 V (qAG (i:=12) (l:= [I 0,.slice none 0 0,.slice none 0 0]) (vs:= [I ((nx:Nat):Int),.slice (P z90) n1 (p z90),.slice (Q z90) n2 (q z90)]) V V V V V qE5 V V) V V V λ_ _=>?_
    change J _ _ _ [_,_,_,_,_,_,_,_,_,_,_,_,blk g18 [I ((nx:Nat):Int),.slice (P z90) n1 (p z90),.slice (Q z90) n2 (q z90)] 50] _
    refine J.e5 V (YOp.eop (qAy V V)) V V V V ?_
    intro _ _
    exact J.b3<|J.u<|J.a9 (z90,g18) hK18 (hz90) ⟨V,V,V,V,trivial⟩ (λ_ h=>h)
   refine J.b2 V (qAO (l:= [I 0,.slice none 0 0,.slice none 0 0]) V qLK V) V (by simp) λg18 _=>?_
   change J _ _ _ [blk gs [Ptr gk,Ptr gb,I ((nx:Nat):Int)] 216,BB,M1 x78,F,B1 x78,q78,N1 x78,blk g10 [.int .u64 0,I 0,Str [],I 0,I 0,.slice none 0 0,.slice none 0 0] 52,blk g13 [N64 y.ep,I ((b:Nat):Int),Str (y.dig),I ((nm:Nat):Int),I 0,.slice none 0 0,.slice none 0 0] 52,blk g18 [I 0,.slice none 0 0,.slice none 0 0] 50] _
   refine J.b2 V (qAB V V ent61 (Ct.useA [blk gs [Ptr gk,Ptr gb,I ((nx:Nat):Int)] 216,BB,M1 x78] [F,B1 x78,q78,N1 x78,blk g10 [.int .u64 0,I 0,Str [],I 0,I 0,.slice none 0 0,.slice none 0 0] 52,blk g13 [N64 y.ep,I ((b:Nat):Int),Str (y.dig),I ((nm:Nat):Int),I 0,.slice none 0 0,.slice none 0 0] 52,blk g18 [I 0,.slice none 0 0,.slice none 0 0] 50] (A':=λz:Y=> [blk gs [Ptr gk,Ptr gb,I ((nx+1:Nat):Int)] 216,BB1 z,M2 z]) (new:=λz=> [N2 z,U2 z,W2 z]) (λF' hF=>hG x78 hx78 F' (hF F (by simp))))) rfl (by simp) ?_
   rintro z90 hz90
   change J _ ((90,.tuple #[.agg #[I ((nx:Nat):Int),.slice (P z90) n1 (p z90),.slice (Q z90) n2 (q z90)],I ((0:Nat):Int)])::_) _ [blk gs [Ptr gk,Ptr gb,I ((nx+1:Nat):Int)] 216,BB1 z90,M2 z90,_,_,_,_,_,_,_,N2 z90,U2 z90,W2 z90] _
   refine J.L ?_
   refine J.d3 (.agg #[I ((nx:Nat):Int),.slice (P z90) n1 (p z90),.slice (Q z90) n2 (q z90)]) ?_
   refine J.e6 V (qAk (v:=I ((0:Nat):Int)) V V V) V V V ?_
   refine J.d2 V (qAG (i:=9) (l:= [I 0,.slice none 0 0,.slice none 0 0]) (vs:= [I ((nx:Nat):Int),.slice (P z90) n1 (p z90),.slice (Q z90) n2 (q z90)]) V V V V V qE5 V V) V V V λ_ _=>?_
   change J _ _ _ [_,_,_,_,_,_,_,_,_,blk g18 [I ((nx:Nat):Int),.slice (P z90) n1 (p z90),.slice (Q z90) n2 (q z90)] 50,_,_,_] _
   refine J.e5 V (YOp.eop (qAy V V)) V V V V ?_
   intro _ _
   exact J.b3<|J.u<|J.a9 (z90,g18) hK18 (hz90) ⟨V,V,V,V,trivial⟩ (λ_ h=>h.pick [0,1,2,3,4,5,6,7,8,10,11,12,9] (by decide))
  refine J.b2 V (qAO (l:= [I 0,.slice none 0 0,.slice none 0 0]) V qLK V) V (by simp) λg18 _=>?_
  change J _ _ _ [blk gs [Ptr gk,Ptr gb,I ((nx:Nat):Int)] 216,BB,M1 x78,F,B1 x78,q78,N1 x78,blk g10 [.int .u64 0,I 0,Str [],I 0,I 0,.slice none 0 0,.slice none 0 0] 52,blk g13 [N64 y.ep,I ((b:Nat):Int),Str (y.dig),I ((nm:Nat):Int),I 0,.slice none 0 0,.slice none 0 0] 52,blk g18 [I 0,.slice none 0 0,.slice none 0 0] 50] _
  refine J.b2 V (qAB V V ent22 (Ct.use0 (λF' hF=>qBl F' (hK.mo hF) y.ep b nm y.dig 0 none none 0 0 0 0 h1 h2 h3 h4))) V (by simp) λg89 _=>J.b2 rfl (qAB rfl rfl ent61 (Ct.useA [blk gs [Ptr gk,Ptr gb,I ((nx:Nat):Int)] 216,BB,M1 x78] [F,B1 x78,q78,N1 x78,blk g10 [.int .u64 0,I 0,Str [],I 0,I 0,.slice none 0 0,.slice none 0 0] 52,blk g13 [N64 y.ep,I ((b:Nat):Int),Str (y.dig),I ((nm:Nat):Int),I 0,.slice none 0 0,.slice none 0 0] 52,blk g18 [I 0,.slice none 0 0,.slice none 0 0] 50] (A':=λz:Y=> [blk gs [Ptr gk,Ptr gb,I ((nx+1:Nat):Int)] 216,BB1 z,M2 z]) (new:=λz=> [N2 z,U2 z,W2 z]) (λF' hF=>hG x78 hx78 F' (hF F (by simp))))) rfl (by simp) ?_
  rintro z90 hz90
  change J _ ((90,.tuple #[.agg #[I ((nx:Nat):Int),.slice (P z90) n1 (p z90),.slice (Q z90) n2 (q z90)],I ((0:Nat):Int)])::_) _ [blk gs [Ptr gk,Ptr gb,I ((nx+1:Nat):Int)] 216,BB1 z90,M2 z90,_,_,_,_,_,_,_,N2 z90,U2 z90,W2 z90] _
  refine J.L ?_
  refine J.d3 (.agg #[I ((nx:Nat):Int),.slice (P z90) n1 (p z90),.slice (Q z90) n2 (q z90)]) ?_
  refine J.e6 V (qAk (v:=I ((0:Nat):Int)) V V V) V V V ?_
  refine J.d2 V (qAG (i:=9) (l:= [I 0,.slice none 0 0,.slice none 0 0]) (vs:= [I ((nx:Nat):Int),.slice (P z90) n1 (p z90),.slice (Q z90) n2 (q z90)]) V V V V V qE5 V V) V V V λ_ _=>?_
  change J _ _ _ [_,_,_,_,_,_,_,_,_,blk g18 [I ((nx:Nat):Int),.slice (P z90) n1 (p z90),.slice (Q z90) n2 (q z90)] 50,_,_,_] _
  refine J.e5 V (YOp.eop (qAy V V)) V V V V ?_
  intro _ _
  exact J.b3<|J.u<|J.a9 (z90,g18) hK18 (hz90) ⟨V,V,V,V,trivial⟩ (λ_ h=>h.pick [0,1,2,3,4,5,6,7,8,10,11,12,9] (by decide))
 rintro⟨z90,g18⟩ hz90
 dsimp only at hz90⊢
 refine J.k λK19 hK19=>J.g λK20 hK20=>J.b V<|J.f ((qAU V V V).no (by decide)) V<|J.c hK20<|J.a0 10 13 18 19 94 ?_
 refine J.a5 ?_
 refine J.W hK19<|J.G 10 13 18 ?_
 refine J.g λK21 hK21=>J.c8 12 isAgg50 qE5 V V V V V<|J.a2 4 qCa qE5 V V V V V<|J.b1 (qAV (i:=8) (l:= [N64 y.ep,I ((b:Nat):Int),Str (y.dig),I ((nm:Nat):Int),I 0,.slice none 0 0,.slice none 0 0]) (vs:= [I ((nx:Nat):Int),.slice (P z90) n1 (p z90),.slice (Q z90) n2 (q z90)]) V V V V V qE5 V (by simp)) rfl rfl λ_ _=>?_
 change J _ _ _ [blk gs [Ptr gk,Ptr gb,I ((nx+1:Nat):Int)] 216,BB1 z90,M2 z90,F,B1 x78,q78,N1 x78,blk g10 [.int .u64 0,I 0,Str [],I 0,I 0,.slice none 0 0,.slice none 0 0] 52,blk g13 [N64 y.ep,I ((b:Nat):Int),Str (y.dig),I ((nm:Nat):Int),I ((nx:Nat):Int),.slice (P z90) n1 (p z90),.slice (Q z90) n2 (q z90)] 52,N2 z90,U2 z90,W2 z90,blk g18 [I ((nx:Nat):Int),.slice (P z90) n1 (p z90),.slice (Q z90) n2 (q z90)] 50] _
 refine J.c hK21<|J.E 10 13 ?_
 refine J.g λK22 hK22=>J.c8 8 qGM qCi V V V V V<|J.b1 (qAG (i:=7) (l:= [.int .u64 0,I 0,Str [],I 0,I 0,.slice none 0 0,.slice none 0 0]) (vs:= [N64 y.ep,I ((b:Nat):Int),Str (y.dig),I ((nm:Nat):Int),I ((nx:Nat):Int),.slice (P z90) n1 (p z90),.slice (Q z90) n2 (q z90)]) V V V V V qCi V V) V V λ_ _=>?_
 change J _ _ _ [_,_,_,_,_,_,_,blk g10 [N64 y.ep,I ((b:Nat):Int),Str (y.dig),I ((nm:Nat):Int),I ((nx:Nat):Int),.slice (P z90) n1 (p z90),.slice (Q z90) n2 (q z90)] 52,_,_,_,_,_] _
 refine J.b V<|J.c hK22<|J.E 10 11 ?_
 exact J.D<|J.b4 hw0 (λ_ _ h=>h) (rv2 V (RV.blkA 7 V V qGM qCi) V) (qAj ((x78,q78),z90) V ⟨hx78,hq78,hz90⟩ [0,1,4,2,5,3,6,9,10,11] V (by decide))
theorem qH7(F:Hp)(hK:KF F)(ep bd nm:Nat)(hd:List UInt8)(h1:ep≤4294967295)(h2:bd<16)(h3:nm<64)(h4:hd.length=16)(seed:List UInt8)(h i:Nat)(A1:Option Addr)(n1 c1:Nat)(hch:Sl F 1 A1 n1 c1 (qAH (sgC seed i (atM ep bd nm hd))))(A2:Option Addr)(n2 c2:Nat)(hpt:Sl F 1 A2 n2 c2 (qAH (sgP seed h i)))(h6:h≤6)(hi:i<2^h):
    Ct prog 25 [.agg #[N64 ep,I (bd:Nat),Str hd,I (nm:Nat),I ((i:Nat):Int),.slice A1 n1 c1,.slice A2 n2 c2],.agg #[Str (Wo.opn seed),Str (Xm.root seed h),I ((h:Nat):Int)]] [F] (λ_:Unit=> .bool true) (λ_=>True) (λ_=> [F]):=by
  have e1:(sgC seed i (atM ep bd nm hd)).length=n1:=by have:=hch.1;simpa [qAH] using this
  have e2:(sgP seed h i).length=n2:=by have:=hpt.1;simpa [qAH] using this
  rw [qNB] at e1
  rw [qNA] at e2
  subst e1
  subst e2
  have:=qMT F hK ep bd nm hd h1 h2 h3 h4 (Wo.opn seed) (Xm.root seed h) i A1 c1 (sgC seed i (atM ep bd nm hd)) hch (qTX _ _ _) A2 h c2 (sgP seed h i) hpt (qTW seed hi) (by rw [Wo.opn_length];decide) h6 hi
  have e:Wo.publicOf (Wo.opn seed) i (Wo.ends (Wo.opn seed) i (Wo.digs (Xm.digest (Wo.opn seed) i (atM ep bd nm hd))) (sgC seed i (atM ep bd nm hd)) 35)=Wo.pub seed i:=Wo.recPub seed i _ (by rw [Xm.digest_length];decide)
  rw [e,qKC seed h i hi,decide_eq_true rfl] at this
  exact this
attribute [local irreducible] Sha.tagged Wo.pub Wo.publicOf Wo.signs Wo.ends Wo.digs Wo.walk Wo.opn Mk.root Mk.path Mk.climb Xm.root sgC sgP qBL prt
structure qUQ (R:List UInt8):Prop where
 a:(qAt (Dk.new 40) (sX0 8) R).2=0
 ok:(qAt (Dk.new 40) (sX0 8) R).1.ok
 off:(qAt (Dk.new 40) (sX0 8) R).1.off=false
 armed:(qAt (Dk.new 40) (sX0 8) R).1.armed=false
 wait:(qAt (Dk.new 40) (sX0 8) R).1.wait= []
 len:(qAt (Dk.new 40) (sX0 8) R).1.last.length=40
 keep:(qAt (Dk.new 40) (sX0 8) R).1.keep= []
 dg: ∃O,DG 0 40 O (qAt (Dk.new 40) (sX0 8) R).1 0
 b:(qAt (qAt (Dk.new 40) (sX0 8) R).1 (sX0 0) (qBL 0)).2=0
 off2:(qAt (qAt (Dk.new 40) (sX0 8) R).1 (sX0 0) (qBL 0)).1.off=false
 dg2: ∃O,DG 0 40 O (qAt (qAt (Dk.new 40) (sX0 8) R).1 (sX0 0) (qBL 0)).1 1
theorem ok40:(Dk.new 40).ok:=Dk.new_ok (by decide) (by decide)
theorem XG_00:XG 0 0=sX0 0:=rfl
theorem qUK{R:List UInt8}(hR:R.length≤39):qUQ R:=by
 have c1:=qLN ok40 rfl rfl rfl (X:=sX0 8) (s:=R) hR (by decide) (by decide) (by decide)
 obtain ⟨h1,h2,h3,h4,h5,h6,h7⟩:=c1
 have hl:(qAt (Dk.new 40) (sX0 8) R).1.last=(Dk.new 40).last.set 8 (T1 (qHo (sX0 8).t) (sX0 8).R.length R):=by rw [qIH ok40 rfl rfl rfl hR (by decide) (by decide) (by decide)];rfl
 have hd0:DG 0 40 (λ_=>zS) (Dk.new 40) 0:=DG.new (by decide) (by decide) (by decide)
 have hd1:=hd0.other h2 h5 hl (by decide) (by decide)
 have c2:=qLN h2 h3 h4 h5 (X:=sX0 0) (s:=qBL 0) (qDD 0) (by decide) (by decide) (by rw [h6];decide)
 have hg:qB3 0 (qAt (Dk.new 40) (sX0 8) R).1 0=qAt (qAt (Dk.new 40) (sX0 8) R).1 (sX0 0) (qBL 0):=by
  unfold qB3;rw [if_neg (by decide),XG_00]
 have hw:=qFh hd1 (by decide) h3
 rw [hg] at hw
 exact⟨h1,h2,h3,h4,h5,h6,h7,⟨_,hd1⟩,c2.1,(hw.1 c2.1).1,⟨_,(hw.1 c2.1).2⟩⟩
theorem qHE(F md mm:Hp)(hK:KF F)(x:Hd)(A:Option Addr)(c:Nat)(hg:x.good)(hsl:Sl F 1 A x.nodes.length c (qAH x.nodes))(y:Hd)(B:Option Addr)(e:Nat)(hgy:y.good)(hsy:Sl F 1 B y.nodes.length e (qAH y.nodes))(b:Nat)(dp:Int)(old nw:List UInt8)(As:Option Addr)(ns cs:Nat)(ck:Int)(hC: ∀F':Hp,Le F F'→Ct prog 120 [.agg #[I ((b:Nat):Int),I dp,Str old,Str nw,.slice As ns cs]] [F'] (λ_:Unit=>I ck) (λ_=>True) (λ_=> [F']))(hix:x.next y=0→ck=0→dp=y.dep→b<x.nodes.length∧b<y.nodes.length)(ga gs gq gm gk gb gd:Nat)(seed:List UInt8)(kh:Nat)(hk:qGR F gk seed kh)(hsd:seed.length≤1048576)(h6:kh≤6)
    (hA:qAP F ⟨ga,0,none⟩ [Ptr gs,I ((2^kh:Nat):Int),Ptr gq,.map (some gm)]) (hM:qCF plK mm gm (mkV [])) (hE:qOl x y ck b dp old nw=0) (h1:y.ep≤4294967295) (h2:b<16) (nm:Nat) (h3:nm<64) (h4:y.dig.length=16) (Ab:Option Addr) (cb:Nat) (Aq:Option Addr) (cq:Nat) (hbR:Sl F 1 Ab (sX0 0).R.length cb (qAH (sX0 0).R)) (hqR:Sl F 1 Aq (sX0 8).R.length cq (qAH (sX0 8).R)) (hb:Dsk md gd (Dk.new 40) none 0):
    Ct prog 19 [Ptr ga,I ((nm:Nat):Int),.agg #[N64 x.ep,Str x.par,I x.dep,I x.aud,.slice A x.nodes.length c],.agg #[N64 y.ep,Str y.par,I y.dep,I y.aud,.slice B y.nodes.length e],.agg #[I ((b:Nat):Int),I dp,Str old,Str nw,.slice As ns cs]] [blk gs [Ptr gk,Ptr gb,I ((0:Nat):Int)] 216,blk gb (bkC gd 0 (8/2) (sX0 0) Ab cb false) 223,blk gq (bkC gd 8 16 (sX0 8) Aq cq false) 223,md,mm,F]
      (λr:((Hp×Option Addr×Nat×Hp)×Hp)×((Hp×Option Addr×Nat×Hp)×((Option Addr×Nat×Hp)×(Option Addr×Nat×Hp)))=> .tuple #[.agg #[N64 y.ep,I ((b:Nat):Int),Str y.dig,I ((nm:Nat):Int),I ((0:Nat):Int),.slice r.2.2.1.1 (sgC seed 0 (atM y.ep b nm y.dig)).length r.2.2.1.2.1,.slice r.2.2.2.1 (sgP seed kh 0).length r.2.2.2.2.1],I ((0:Nat):Int)])
      (λr=>Dsk r.2.1.1 gd (qAt (qAt (Dk.new 40) (sX0 8) (mkB y.ep b y.dig)).1 (sX0 0) (qBL 0)).1 none 0∧qCF plK r.1.2 gm (mkV [((y.ep,((b:Nat):Int)),y.dig)])∧Row r.2.2.1.2.2 9 1 r.2.2.1.1 (sgC seed 0 (atM y.ep b nm y.dig)).length r.2.2.1.2.1 (qAH (sgC seed 0 (atM y.ep b nm y.dig)))∧Row r.2.2.2.2.2 9 1 r.2.2.2.1 (sgP seed kh 0).length r.2.2.2.2.1 (qAH (sgP seed kh 0)))
      (λr=> [blk gs [Ptr gk,Ptr gb,I ((0+1:Nat):Int)] 216,blk gb (bkC gd 0 (8/2) (qFH (sX0 0) (qBL 0)) r.2.1.2.1 r.2.1.2.2.1 false) 223,blk gq (bkC gd 8 16 (qFH (sX0 8) (mkB y.ep b y.dig)) r.1.1.2.1 r.1.1.2.2.1 false) 223,r.2.1.1,r.1.2,F,r.1.1.2.2.2,r.2.1.2.2.2,r.2.2.1.2.2,r.2.2.2.2.2]):=by
  have hp64:=Xm.pow_le kh h6
  have hpos:0<2^kh:=zA kh
  have hRl:(mkB y.ep b y.dig).length≤39:=by rw [qHm,h4];decide
  have hc:=qUK hRl
  have h:=qMV (X:=Hp×Option Addr×Nat×Hp) (Y:=(Hp×Option Addr×Nat×Hp)×((Option Addr×Nat×Hp)×(Option Addr×Nat×Hp))) F (blk gq (bkC gd 8 16 (sX0 8) Aq cq false) 223) md mm hK x A c hg hsl y B e hgy hsy b dp old nw As ns cs ck hC hix ga gs gq (2^kh) gm hA gk gb 0 (by omega) (by decide) hpos [] hM rfl hE h1 h2 nm h3 h4
    (λx=>Dsk x.1 gd (qAt (Dk.new 40) (sX0 8) (mkB y.ep b y.dig)).1 none 0∧Row x.2.2.2 9 1 x.2.1 (qFH (sX0 8) (mkB y.ep b y.dig)).R.length x.2.2.1 (qAH (qFH (sX0 8) (mkB y.ep b y.dig)).R)) (λx=>blk gq (bkC gd 8 16 (qFH (sX0 8) (mkB y.ep b y.dig)) x.2.1 x.2.2.1 false) 223) (λx=>x.1) (λx=>x.2.2.2)
    (λF' hF=>qEK F' md (hK.mono hF) gq gd 8 16 (sX0 8) Aq cq (hqR.mono hF) (Dk.new 40) none 0 hb ok40 (by decide) Sl.nil (by decide) (mkB y.ep b y.dig) (by omega) (by decide) (by decide) (by decide) (by rw [qAv hRl];decide) hc.a)
    (blk gb (bkC gd 0 (8/2) (sX0 0) Ab cb false) 223) (λz=>(Dsk z.1.1 gd (qAt (qAt (Dk.new 40) (sX0 8) (mkB y.ep b y.dig)).1 (sX0 0) (qBL 0)).1 none 0∧Row z.1.2.2.2 9 1 z.1.2.1 (qFH (sX0 0) (qBL 0)).R.length z.1.2.2.1 (qAH (qFH (sX0 0) (qBL 0)).R))∧Row z.2.1.2.2 9 1 z.2.1.1 (sgC seed 0 (atM y.ep b nm y.dig)).length z.2.1.2.1 (qAH (sgC seed 0 (atM y.ep b nm y.dig)))∧Row z.2.2.2.2 9 1 z.2.2.1 (sgP seed kh 0).length z.2.2.2.1 (qAH (sgP seed kh 0)))
    (λz=>z.2.1.1) (λz=>z.2.2.1) (λz=>z.2.1.2.1) (λz=>z.2.2.2.1) (sgC seed 0 (atM y.ep b nm y.dig)).length (sgP seed kh 0).length (λz=>blk gb (bkC gd 0 (8/2) (qFH (sX0 0) (qBL 0)) z.1.2.1 z.1.2.2.1 false) 223) (λz=>z.1.1) (λz=>z.1.2.2.2) (λz=>z.2.1.2.2) (λz=>z.2.2.2.2)
    (λq hq F' hF=>qPA F' (blk gb (bkC gd 0 (8/2) (sX0 0) Ab cb false) 223) q.1 gs gk gb 0 (hK.mono hF) seed kh (hk.mono hF) hsd h6 hpos (atM y.ep b nm y.dig) (by rw [qD6];decide) _ _ _ _
      (λF2 h2'=>qEK F2 q.1 (hK.mono (hF.trans h2')) gb gd 0 (8/2) (sX0 0) Ab cb (hbR.mono (hF.trans h2')) (qAt (Dk.new 40) (sX0 8) (mkB y.ep b y.dig)).1 none 0 hq.1 hc.ok (by rw [hc.wait];decide) (by rw [hc.keep];exact Sl.nil) (by rw [hc.keep];decide) (qBL 0) (by rw [qBi];decide) (by decide) (by decide) (by decide) (by rw [qAv (qDD 0)];decide) hc.b))
  exact h.mono id (λ_ _=>rfl) (λr hr=>⟨hr.2.2.1.1,hr.2.1,hr.2.2.2.1,hr.2.2.2.2⟩) (λ_ _ _ _ hs=>hs)
end Go.Proofs.YtfldiegfenndjaaGreatDoor
namespace Go.Proofs.YtfldiegfenndjaaGreatDoor
open Go Go.Fw Go.Proofs.Tryz
set_option maxRecDepth 100000
set_option maxHeartbeats 1000000
attribute [local irreducible] rv0 qOt qBV rvX qCW qEl
theorem qOx.cells{G:Hp}{i:UInt8}{h:RhD}{t:TsD}(q:qOx G i h t):h.cells= [N64 1,Str pH.dig,I ((1:Nat):Int),I ((0:Nat):Int),.slice h.nsA (qAN (qBV i) 1).length h.nsc]:=by
 unfold RhD.cells
 rw [q.ep,q.par,q.dep,q.aud,q.ns]
theorem qOx.nsl2{G:Hp}{i:UInt8}{h:RhD}{t:TsD}(q:qOx G i h t):Sl G 1 h.nsA (qAN (qBV i) 1).length h.nsc (qAH (qAN (qBV i) 1)):=by
 have:=q.nsl
 rw [q.ns] at this;exact this
theorem qOw.cells{G:Hp}{i:UInt8}{b:Nat}{x:TrD}(q:qOw G i b x):x.cells= [I ((b:Nat):Int),I ((1:Nat):Int),Str (rvO i b),Str (rvN i b),.slice x.stA x.st.length x.stc]:=by
 unfold TrD.cells
 rw [q.eb,q.ed,q.eo,q.en]
theorem qBz(i:UInt8):(hH i).good:=⟨by show 1<_;decide,by rw [show(hH i).par=pH.dig from rfl,qBs qKn];decide,by show(qAN (qBV i) 1).length≤_;rw [qCJ];decide⟩
theorem hH_n(i:UInt8):(hH i).nodes.length=2:=qCJ _ _ _
theorem pH_n:pH.nodes.length=2:=qCJ _ _ _
theorem qNH(i:UInt8){b:Nat}(hb:b<2):qOl pH (hH i) 0 b ((1:Nat):Int) (rvO i b) (rvN i b)=0:=qOk (by rw [qSs];decide) (by decide) ⟨rfl,qTb i hb,qTd i hb⟩
theorem qRq(y:Hd)(hy:y.nodes.length=2){b:Nat}(hb:b<2){p q r:Prop}:p→q→r→b<pH.nodes.length∧b<y.nodes.length:=λ_ _ _=>by rw [hy,pH_n];exact⟨hb,hb⟩
theorem qPK(F:Hp)(hK:KF F)(i:UInt8){b:Nat}(hb:b<2)(x:TrD)(h:qOw F i b x)(nw:List UInt8):
    Ct prog 120 [.agg #[I ((b:Nat):Int),I ((1:Nat):Int),Str (rvO i b),Str nw,.slice x.stA x.st.length x.stc]] [F] (λ_:Unit=>I ((if nw=rvN i b then 0 else 15:Nat):Int)) (λ_=>True) (λ_=> [F]):=by
  have hch:qKN b 1 (x.st.map qAq.chg):=by rw [h.chg];exact qQk i hb
  have:=qMz F hK b 1 (by decide) (by omega) (rvO i b) nw x.stA x.st.length x.stc x.st h.sl (rvX i b) (qKd i b) (qNI i b) hch h.ok h.bs (qTc i hb).symm
  rw [h.chg,qRr i hb,qTe i hb] at this
  exact this
theorem qFo(F:Hp)(hK:KF F)(i:UInt8){b:Nat}(hb:b<2)(x:TrD)(h:qOw F i b x):
    Ct prog 120 [.agg #[I ((b:Nat):Int),I ((1:Nat):Int),Str (rvO i b),Str (rvN i b),.slice x.stA x.st.length x.stc]] [F] (λ_:Unit=>I 0) (λ_=>True) (λ_=> [F]):=by
  have:=qPK F hK i hb x h (rvN i b)
  rw [if_pos rfl] at this;exact this
theorem qQr{α:Type}{l:List α}(h:l.length=1): ∃a,l= [a]:=List.length_eq_one_iff.1 h
end Go.Proofs.YtfldiegfenndjaaGreatDoor
namespace Go.Proofs.YtfldiegfenndjaaGreatDoor
open Go Go.Fw Go.Proofs.Tryz
set_option maxRecDepth 100000
set_option maxHeartbeats 1000000
end Go.Proofs.YtfldiegfenndjaaGreatDoor
