/- A part of the proof. -/
import Derived.Test.YtmemgokiolfdoaaGreatDoorTopMsG26
import Derived.Test.YtmemgokiolfdoaaGreatDoorTopMsG14
set_option maxRecDepth 100000
set_option maxHeartbeats 1000000
set_option linter.unusedSimpArgs false
set_option linter.unusedVariables false
namespace Go.Proofs.YtmemgokiolfdoaaGreatDoor
open Go Go.Fw Go.Proofs.Tryz
theorem qS1.see{m:Hp}{g:Nat}{l:List Aud}(h:qS1 m g l): ∃A n c,qAG m ⟨g,0,none⟩ [.slice A n c]∧Sl m 4 A n c (qBr l)∧l.length=n:=by
 obtain ⟨A,n,c,mr,rfl,hd,hr⟩:=h
 have hdd:Djs [blk g [.slice A n c] 232,mr]:=qAa.2 (by simpa using hd)
 refine⟨A,n,c,qAG.blk0.mono (qFr hdd (.head _)),hr.sl.mono (qFr hdd (.tail _ (.head _))),?_⟩
 have:=hr.len
 simpa [qBr] using this
theorem qEO(F:Hp)(hK:qAG F ⟨3,0,none⟩ (Sha.K.map W32))(n:Nat)(hn:n≤1000000):Cz prog 63 [I (n:Nat)] F (Str (qAM n)):=by
 refine Ct.walk func63 O ntmps63 O (λw0 hw0=>?_)
 refine J.f λ_ j1=>J.b O<|J.c j1 ?_
 refine J.f λ_ j2=>J.b O<|J.g (qQ4 (a:=n) (m:=8) O O O xB) O<|J.g (qAx O O u3_ u5_) O<|J.b O<|J.g (qAx O O u3_ u5_) O<|J.q (qAE (l:= [.tmp 5,.tmp 7]) (xs:= [[B8 (UInt8.ofNat (n/2^8))],[B8 (UInt8.ofNat n)]]) O O O O qBu el5 O xC xC xD) O λg8 _=>J.g (qB3 O O qBu u5_ u9_ (m:=blk g8 [B8 (UInt8.ofNat (n/2^8)),B8 (UInt8.ofNat n)] 5) xD ((qBO (q:=True) (qAf [UInt8.ofNat (n/2^8),UInt8.ofNat n]) O (by simp [qAf]) O).sl)) O<|J.q (qAE (l:= [.tmp 9]) (xs:= [[Str ([UInt8.ofNat (n/2^8),UInt8.ofNat n])]]) O O O O qAn el9 O xC xC xD) O λg10 _=>J.q (qAZ O O (λF' hF=>qA3 F' (hK.mo hF) 15 (some ⟨g10,0,none⟩) 1 1 ([[UInt8.ofNat (n/2^8),UInt8.ofNat n]]) (((qBO (q:=True) (qAH [[UInt8.ofNat (n/2^8),UInt8.ofNat n]]) O (by simp [qAH]) O).sl).mono (hF (blk g10 [Str ([UInt8.ofNat (n/2^8),UInt8.ofNat n])] 9) xD)) (by first|(simp;omega)|(simp;done)|decide) xB)) O λg11 _=>J.b O<|J.c j2 ?_
 exact J.A<|J.E hw0 O () (O) trivial [0] O xC
theorem qSh(F:Hp)(hK:qAG F ⟨3,0,none⟩ (Sha.K.map W32))(nm op rt:xA)(ht:Int)(h1:nm.length≤1000000)(h2:op.length≤1048576)(h3:rt.length≤1048576)(hE:qBN op rt ht=0):Cz prog 64 [.agg #[Str (nm),Str (op),Str (rt),I (ht)]] F (Str (Sha.tagged 16 [nm,qBd op rt ht])):=by
 have hpl:=qFa hE
 refine Ct.walk func64 O ntmps64 O (λw0 hw0=>?_)
 refine J.f λ_ j1=>J.q (qAb O O O) O λg1 _=>J.b O<|J.c j1 ?_
 refine J.f λ_ j2=>J.W 1 qPT qCT O O O O O<|J.g (qAP O O qGb qCT (m:=blk g1 [Str (nm),Str (op),Str (rt),I (ht)] 34) xD (qAG.blk0.sub 1 3) O) O<|J.q (qAZ O O (λF' hF=>qEP F' op rt ht xB xB)) O λg8 _=>J.p 5 O<|J.c j2 ?_
 refine J.k λ_ j3=>J.f λ_ j4=>J.b O<|J.g ((qAV O O O).no xB) O<|J.c j4 ?_
 refine J.a3 ?_
 refine J.M j3 ?_
 refine J.f λ_ j5=>J.W 0 qPT z9_ O O O O O<|J.a6 1 b9_ O O O O O<|J.b O<|J.q (qAE (l:= [.tmp 14,.tmp 15]) (xs:= [[Str (nm)],[Str (qBd op rt ht)]]) O O O O qAn el9 O xC xC xD) O λg16 _=>J.q (qAZ O O (λF' hF=>qA3 F' (hK.mo hF) 16 (some ⟨g16,0,none⟩) 2 2 ([nm,qBd op rt ht]) (((qBO (q:=True) (qAH [nm,qBd op rt ht]) O (by simp [qAH]) O).sl).mono (hF (blk g16 [Str (nm),Str (qBd op rt ht)] 9) xD)) (by first|(simp;omega)|(simp;done)|decide) xB)) O λg17 _=>J.b O<|J.c j5 ?_
 exact J.A<|J.E hw0 O () O trivial [0] O xC
theorem qVQ(F:Hp)(hK:qAG F ⟨3,0,none⟩ (Sha.K.map W32))(nm op rt:xA)(ht:Int)(h2:op.length≤1048576)(h3:rt.length≤1048576)(hE:qBN op rt ht≠0):Cz prog 64 [.agg #[Str (nm),Str (op),Str (rt),I (ht)]] F (Str ([])):=by
 refine Ct.walk func64 O ntmps64 O (λw0 hw0=>?_)
 refine J.f λ_ j1=>J.q (qAb O O O) O λg1 _=>J.b O<|J.c j1 ?_
 refine J.f λ_ j2=>J.W 1 qPT qCT O O O O O<|J.g (qAP O O qGb qCT (m:=blk g1 [Str (nm),Str (op),Str (rt),I (ht)] 34) xD (qAG.blk0.sub 1 3) O) O<|J.q (qAZ O O (λF' hF=>qEP F' op rt ht xB xB)) O λg8 _=>J.p 5 O<|J.c j2 ?_
 refine J.k λ_ j3=>J.f λ_ j4=>J.b O<|J.g ((qAV O O O).yes xB) O<|J.c j4 ?_
 refine J.c3 ?_
 refine J.f λ_ j5=>J.b O<|J.c j5 ?_
 exact J.A<|J.V<|J.E hw0 O () O trivial [0] O xC
theorem qVR(F:Hp)(hK:qAG F ⟨3,0,none⟩ (Sha.K.map W32))(x:Aud)(h1:x.nm.length≤1000000)(h2:x.op.length≤1048576)(h3:x.rt.length≤1048576):Cz prog 64 [.agg #[Str x.nm,Str x.op,Str x.rt,I x.ht]] F (Str (qWE x)):=by
 unfold qWE
 by_cases hE:qBN x.op x.rt x.ht=0
 · rw [if_pos hE];exact qSh F hK x.nm x.op x.rt x.ht h1 h2 h3 hE
 · rw [if_neg hE];exact qVQ F hK x.nm x.op x.rt x.ht h2 h3 hE
theorem qSM(F:Hp)(A:Option Addr)(n c:Nat)(l:List Aud)(hs:Sl F 4 A n c (qBr l))(hnb:n≤1073741824):Ct prog 132 [.slice A n c] [F] (λx:Option Addr×Nat×Hp=> .slice x.1 (l).length x.2.1) (λx=>Row x.2.2 34 4 x.1 (l).length x.2.1 (qBr l)) (λx=> [F,x.2.2]):=by
 have hkn:l.length=n:=by have:=hs.1;simpa [qBr] using this
 refine Ct.walk func132 O ntmps132 O (λw0 hw0=>?_)
 refine J.f λ_ j1=>J.b O<|J.c j1 ?_
 refine J.k λ_ j2=>J.f λ_ j3=>J.b O<|J.g ((qFA qDm O O O).as (v':= .bool (decide (A.isNone=true))) (congrArg Value.bool (by cases A<;>rfl))) O<|J.c j3 ?_
 refine J.Z O (λh4=>?_) (λh4=>?_)
 ·
  refine J.f λ_ j4=>J.b O<|J.c j4 ?_
  refine J.A<|J.V ?_
  have hk0:l= []:=by
   refine jT ?_
   rcases yN n with h|h
   · omega
   · obtain ⟨g,o,rfl⟩:=hs.at h;cases h4
  exact J.c6 [0,1] [F,(λ_=>none)] O xC<|J.E hw0 O (none,0,(λ_=>none)) (by rw [hk0];rfl) (by rw [hk0];exact qBZ.nil) [0,1] O xC
 refine J.M j2 ?_
 refine J.f λ_ j5=>J.q (qBs O qDm el34) O λg5 _=>J.b O<|J.q (qAX (i:=1) (m2:=F) O O O qDm qDm el34 O (qAm (q:=True) (xs:=qBr ([])) O (by intro x hx;first|exact absurd hx (zE)|(rw [List.mem_singleton.1 hx];rfl))) xD (hs) (qUK _) xB xB) O ?_
 rintro⟨A7,c7,m7⟩ h7
 try dsimp only at h7
 replace h7:Row m7 34 4 A7 (0+n) c7 (qBr (l)):=h7
 refine J.b O<|J.c j5 ?_
 refine J.A ?_
 rw [show 0+n=l.length by omega] at h7
 exact J.E hw0 O (A7,c7,m7) (by rw [←hkn,jj]) h7 [0,1] O xC
theorem qT5(F:Hp)(g:Nat)(A:Option Addr)(n c:Nat)(l:List Aud)(hs:Sl F 4 A n c (qBr l))(hnb:n≤1073741824)(hp:qAG F ⟨g,0,none⟩ [.slice A n c]):Ct prog 57 [Ptr g] [F] (λx:Nat×Hp=>Ptr x.1) (λx=>qS1 x.2 x.1 l) (λx=> [x.2,F]):=by
 refine Ct.walk func57 O ntmps57 O (λw0 hw0=>?_)
 refine J.f λ_ j1=>J.b O<|J.c j1 ?_
 refine J.k λ_ j2=>J.f λ_ j3=>J.b O<|J.g ((qA6 underlying121 O O O).as (v':= .bool false) O) O<|J.c j3 ?_
 refine J.a3 ?_
 refine J.M j2 ?_
 refine J.f λ_ j4=>J.b O<|J.g (qAB O O) O<|J.W 0 qGm qHk O O O O O<|J.g (qAI O O isAgg118 (m:=F) xD (hp)) O<|J.q (qBb O O (λF' hF=>qSM F' A n c l (hs.mono (Fa hF)) xB)) O ?_
 rintro⟨A9,c9,m9⟩ h9
 try dsimp only at h9
 refine J.g (qAL (places:= [(0,1)]) (r:= [.slice A9 ((l).length) c9]) O O O qGm zeroValue232 (λ_=>xI) O) O<|J.q (qAb O O O) O λg11 _=>J.b O<|J.c j4 ?_
 exact J.A<|J.a9 hw0 (λ_ _ h=>h) (qKV O O) (qCa (g11,U [blk g11 [.slice A9 ((l).length) c9] 232,m9]) (O) (λhd=>⟨A9,(l).length,c9,m9,O,hd,h9⟩) [2,1,0] O O xC)
theorem qWx(F m:Hp)(hK:qAG F ⟨3,0,none⟩ (Sha.K.map W32))(g:Nat)(A:Option Addr)(n c:Nat)(l:List Aud)(hs:Sl F 4 A n c (qBr l))(hnb:n≤1073741824)(hp:qAG F ⟨g,0,none⟩ [.slice A n c])(gt:Nat)(kv:List Sm.PR)(ht:qGH m gt kv)(hsm: ∀x∈l,x.nm.length≤1000000∧x.op.length≤1048576∧x.rt.length≤1048576)(hn6:n≤1000000):Ct prog 48 [Ptr g,Ptr gt] [m,F] (λ_:Hp=>I (0:Nat)) (λm'=>qGH m' gt (qGP kv l n)) (λm'=> [m',F]):=by
 have hkn:l.length=n:=by have:=hs.1;simpa [qBr] using this
 refine Ct.walk func48 O ntmps48 O (λw0 hw0=>?_)
 refine J.f λ_ j1=>J.b O<|J.c j1 ?_
 refine J.k λ_ j2=>J.f λ_ j3=>J.b O<|J.g ((qA6 underlying121 O O O).as (v':= .bool false) O) O<|J.p 2 O<|J.G ((qA6 qL2 O O O).as (v':= .bool false) O) O<|J.b O<|J.c j3 ?_
 refine J.a3 ?_
 refine J.M j2 ?_
 refine J.k λ_ j4=>J.f λ_ j5=>J.b O<|J.g (qAB O O) O<|J.W 0 qGm qHk O O O O O<|J.g (qAI O O isAgg118 (m:=F) xD (hp)) O<|J.g (qAO qDm O O) O<|J.b O<|J.c j5 ?_
 refine J.T<|J.b5 (X:=Nat×Hp) (λζ=> [(1,Ptr gt),(16,.slice A n c),(17,I (n:Nat)),(18,I (ζ.1:Nat))]) (λζ=> [ζ.2,F]) (λζ=>ζ.1≤n∧qGH ζ.2 gt (qGP kv l ζ.1)) (λζ=>n-ζ.1) (0,m) (⟨jE _,ht⟩) ⟨O,O,O,O,trivial⟩ (λ_ h=>h) ?_
 rintro⟨i,mo⟩ ⟨hi,hto⟩ I0 hI0
 dsimp only at hi hto⊢
 refine J.f λ_ j6=>J.g (qAS O O O) O<|J.c j6 ?_
 refine J.k λ_ j7=>J.Z O (λh19=>?_) (λh19=>?_)
 ·
  refine J.M j7 ?_
  refine J.k λ_ j8=>J.T<|J.k λ_ j9=>?_
  obtain ⟨hx1,hx2,hx3⟩:(l.getD i qAt).nm.length≤1000000∧(l.getD i qAt).op.length≤1048576∧(l.getD i qAt).rt.length≤1048576:=by
   rw [jB,jC (show i<l.length by omega)];exact hsm _ (jQ _)
  have hpk:=qBm i
  refine J.H<|J.b O<|J.g (qAF O O O qDm qDq hs xB) O<|J.g (qAP O O qLY qDq (m:=F) xD (hs.elem (qFT xB)) O) O<|J.q (qAJ O qSD O) O λg6 _=>J.b O<|J.a7 (qAC (i:=2) (l:= [Str [],Str [],Str [],I 0]) (vs:= [Str ((l.getD i qAt).nm),Str ((l.getD i qAt).op),Str ((l.getD i qAt).rt),I ((l.getD i qAt).ht)]) O O O O O qDq O O) O O λ_ _=>J.c j9 ?_
  refine J.b1 [blk g6 [Str ((l.getD i qAt).nm),Str ((l.getD i qAt).op),Str ((l.getD i qAt).rt),I ((l.getD i qAt).ht)] 34] [] (.y 0 (.y 1 (.y 3 (.e 2 (.e 4 (.e 5 .nil)))))) Tryz.wide xF xD ?_
  refine J.L ?_
  refine J.L ?_
  refine J.j O (qAU 0 O O O qLY qDq O) O O<|J.a1 O (qAZ O O (λF' hF=>qEO F' (hK.mo hF) i xB)) O xD λg25 _=>J.a1 O (qAZ O O (λF' hF=>qVR F' (hK.mo hF) (l.getD i qAt) hx1 hx2 hx3)) O xD λg27 _=>J.a1 O (qAK O O ent (Ct.use1 0 O (λF' hF=>qPz F' mo gt (qGP kv l i) hto (qAM i) (qWE (l.getD i qAt)) (by first|omega|rfl|assumption)))) O xD ?_
  rintro m28 h28
  refine J.b0<|J.a2<|J.u (J.D j8 ?_)
  exact J.H<|J.g ((qAR O O O xB).nat (i+1) xB) O<|J.b O<|J.a4<|J.u<|J.a8 (i+1,m28) (λη (hη:_∧n-η.1<n-i)=>hI0 η hη.1 hη.2) ⟨⟨by dsimp only;omega,h28⟩,by dsimp only;omega⟩ ⟨O,O,O,O,trivial⟩ (λ_ h=>h.pick [0,1] xC)
 refine J.b3<|J.a0<|J.a0<|J.b4 ?_
 refine J.u (J.D j4 ?_)
 refine J.f λ_ j10=>J.b O<|J.c j10 ?_
 exact J.A<|J.E hw0 O mo O (by rw [show n=i by omega];exact hto) [0,1] O xC
end Go.Proofs.YtmemgokiolfdoaaGreatDoor