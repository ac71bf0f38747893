/- A part of the proof. -/
import Derived.Test.YtllnfioplpipiaaGreatDoorTopOrG8
import Derived.Test.YtllnfioplpipiaaGreatDoorTopOrG30
import Derived.Test.YtllnfioplpipiaaGreatDoorTopOrG21
import Derived.Test.YtllnfioplpipiaaGreatDoorTopOrG15
import Derived.Test.YtllnfioplpipiaaGreatDoorTopOrG14
set_option linter.unusedSimpArgs false
set_option linter.unusedVariables false
namespace Go.Proofs.YtllnfioplpipiaaGreatDoor
open Go Go.Fw Go.Proofs.Tryz
set_option maxRecDepth 100000
set_option maxHeartbeats 1000000
theorem ent55:qAD prog 55:=qAD.of func55 rfl (by kernel_rfl)
theorem ent56:qAD prog 56:=qAD.of func56 rfl (by kernel_rfl)
theorem ent117:qAD prog 117:=qAD.of func117 rfl (by kernel_rfl)
theorem qO2.see{m:Hp}{g:Nat}{l:List Aud}(h:qO2 m g l): ∃A n c,qAL m ⟨g,0,none⟩ [.slice A n c]∧Sl m 4 A n c (qBK l)∧l.length=n:=by
 obtain ⟨A,n,c,mr,rfl,hd,hr⟩:=h
 have hdd:Djs [blk g [.slice A n c] 171,mr]:=qAS.2 (by simpa using hd)
 refine⟨A,n,c,qAL.blk0.mono (qEf hdd (.head _)),hr.sl.mono (qEf hdd (.tail _ (.head _))),?_⟩
 have:=hr.len
 simpa [qBK] using this
theorem qLn(F:Hp)(hK:KF F)(n:Nat)(hn:n≤1000000):Ct prog 55 [I ((n:Nat):Int)] [F] (λ_:Unit=>Str (qB3 n)) (λ_=>True) (λ_=> [F]):=by
 refine Ct.walk func55 rfl ntmps55 rfl (λw0 hw0=>?_)
 change J _ [(0,_)] _ _ _
 refine J.g λK1 hK1=>J.b O<|J.c hK1<|J.u 0 ?_
 refine J.g λK2 hK2=>J.b O<|J.f (qNX (a:=n) (m:=8) O O O (by omega)) O<|J.f (qAj (m:=n/2^8) O O u3_ u5_) O<|J.b O<|J.f (qAj (m:=n) O O u3_ u5_) O<|J.k (qAF (l:= [.tmp 5,.tmp 7]) (xs:= [[B8 (UInt8.ofNat (n/2^8))],[B8 (UInt8.ofNat n)]]) O O O O qBV el5 O (by decide) (by decide) (by simp)) rfl λg8 _=>?_
 change J _ _ _ [F,blk g8 [B8 (UInt8.ofNat (n/2^8)),B8 (UInt8.ofNat n)] 5] _
 refine J.f (qBY (l:= [UInt8.ofNat (n/2^8),UInt8.ofNat n]) O O qBV u5_ u9_ (m:=blk g8 [B8 (UInt8.ofNat (n/2^8)),B8 (UInt8.ofNat n)] 5) (by simp) ((qA4 (q:=True) (qAR [UInt8.ofNat (n/2^8),UInt8.ofNat n]) rfl (by simp [qAR]) rfl).sl)) rfl<|J.k (qAF (l:= [.tmp 9]) (xs:= [[Str ([UInt8.ofNat (n/2^8),UInt8.ofNat n])]]) rfl rfl rfl rfl qAe el9 rfl (by decide) (by decide) (by simp)) rfl λg10 _=>?_
 change J _ _ _ [_,_,blk g10 [Str ([UInt8.ofNat (n/2^8),UInt8.ofNat n])] 9] _
 refine J.k (qAA O O ent75 (Ct.use0 (λF' hF=>qAv F' (hK.mo hF) 15 (some ⟨g10,0,none⟩) 1 1 ([[UInt8.ofNat (n/2^8),UInt8.ofNat n]]) (((qA4 (q:=True) (qAG [[UInt8.ofNat (n/2^8),UInt8.ofNat n]]) O (by simp [qAG]) rfl).sl).mono (hF (blk g10 [Str ([UInt8.ofNat (n/2^8),UInt8.ofNat n])] 9) (by simp))) (by first|(simp;omega)|(simp;done)|decide) (by omega)))) rfl λg11 _=>J.b rfl<|J.c hK2<|J.u 2 ?_
 exact J.D<|J.M hw0 O () (O) trivial [0] O (by decide)
theorem qTg(F:Hp)(hK:KF F)(nm op rt:List UInt8)(ht:Int)(h1:nm.length≤1000000)(h2:op.length≤1048576)(h3:rt.length≤1048576)(hE:qA9 op rt ht=0):Ct prog 56 [.agg #[Str (nm),Str (op),Str (rt),I (ht)]] [F] (λ_:Unit=>Str (Sha.tagged 16 [nm,qBJ op rt ht])) (λ_=>True) (λ_=> [F]):=by
 have hpl:=qEB hE
 refine Ct.walk func56 rfl ntmps56 rfl (λw0 hw0=>?_)
 change J _ [(0,_)] _ _ _
 refine J.g λK1 hK1=>J.k (qAi (l:= [Str (nm),Str (op),Str (rt),I (ht)]) O O O) O λg1 _=>?_
 change J _ _ _ [F,blk g1 [Str (nm),Str (op),Str (rt),I (ht)] 34] _
 refine J.b O<|J.c hK1<|J.u 1 ?_
 refine J.g λK2 hK2=>J.a3 1 qMI qD3 O O O O O<|J.f (qAd (vs:= [Str (op),Str (rt),I (ht)]) O O qMM qD3 (m:=blk g1 [Str (nm),Str (op),Str (rt),I (ht)] 34) (by simp) (qAL.blk0.sub 1 3) rfl) rfl<|J.k (qAA rfl rfl ent51 (Ct.use0 (λF' hF=>qDE F' op rt ht (by omega) (by omega)))) rfl λg8 _=>J.p 5 rfl<|J.c hK2<|J.G 1 3 4 ?_
 refine J.j λK3 hK3=>J.g λK4 hK4=>J.b O<|J.f ((qAb O O O).no (by omega)) O<|J.c hK4<|J.G 1 3 12 ?_
 refine J.a5 ?_
 refine J.W hK3<|J.E 1 3 ?_
 refine J.g λK5 hK5=>J.a3 0 qMI z9_ O O O O O<|J.f (qAE 1 (v:=Str (nm)) O O O b9_ O) O<|J.b O<|J.k (qAF (l:= [.tmp 14,.tmp 15]) (xs:= [[Str (nm)],[Str (qBJ op rt ht)]]) O O O O qAe el9 O (by decide) (by decide) (by simp)) rfl λg16 _=>?_
 change J _ _ _ [_,_,blk g16 [Str (nm),Str (qBJ op rt ht)] 9] _
 refine J.k (qAA O O ent75 (Ct.use0 (λF' hF=>qAv F' (hK.mo hF) 16 (some ⟨g16,0,none⟩) 2 2 ([nm,qBJ op rt ht]) (((qA4 (q:=True) (qAG [nm,qBJ op rt ht]) O (by simp [qAG]) rfl).sl).mono (hF (blk g16 [Str (nm),Str (qBJ op rt ht)] 9) (by simp))) (by first|(simp;omega)|(simp;done)|decide) (by omega)))) rfl λg17 _=>J.b rfl<|J.c hK5<|J.u 2 ?_
 exact J.D<|J.M hw0 O () O trivial [0] O (by decide)
theorem qQ3(F:Hp)(hK:KF F)(nm op rt:List UInt8)(ht:Int)(h2:op.length≤1048576)(h3:rt.length≤1048576)(hE:qA9 op rt ht≠0):Ct prog 56 [.agg #[Str (nm),Str (op),Str (rt),I (ht)]] [F] (λ_:Unit=>Str ([])) (λ_=>True) (λ_=> [F]):=by
 refine Ct.walk func56 rfl ntmps56 rfl (λw0 hw0=>?_)
 change J _ [(0,_)] _ _ _
 refine J.g λK1 hK1=>J.k (qAi (l:= [Str (nm),Str (op),Str (rt),I (ht)]) O O O) O λg1 _=>?_
 change J _ _ _ [F,blk g1 [Str (nm),Str (op),Str (rt),I (ht)] 34] _
 refine J.b O<|J.c hK1<|J.u 1 ?_
 refine J.g λK2 hK2=>J.a3 1 qMI qD3 O O O O O<|J.f (qAd (vs:= [Str (op),Str (rt),I (ht)]) O O qMM qD3 (m:=blk g1 [Str (nm),Str (op),Str (rt),I (ht)] 34) (by simp) (qAL.blk0.sub 1 3) rfl) rfl<|J.k (qAA rfl rfl ent51 (Ct.use0 (λF' hF=>qDE F' op rt ht (by omega) (by omega)))) rfl λg8 _=>J.p 5 rfl<|J.c hK2<|J.G 1 3 4 ?_
 refine J.j λK3 hK3=>J.g λK4 hK4=>J.b O<|J.f ((qAb O O O).yes (by omega)) O<|J.c hK4<|J.G 1 3 12 ?_
 refine J.d0 ?_
 refine J.g λK5 hK5=>J.b O<|J.c hK5<|J.u 2 ?_
 exact J.D<|J.a4<|J.M hw0 O () O trivial [0] O (by decide)
theorem qQ4(F:Hp)(hK:KF F)(x:Aud)(h1:x.nm.length≤1000000)(h2:x.op.length≤1048576)(h3:x.rt.length≤1048576):Ct prog 56 [.agg #[Str x.nm,Str x.op,Str x.rt,I x.ht]] [F] (λ_:Unit=>Str (qRi x)) (λ_=>True) (λ_=> [F]):=by
 unfold qRi
 by_cases hE:qA9 x.op x.rt x.ht=0
 · rw [if_pos hE];exact qTg F hK x.nm x.op x.rt x.ht h1 h2 h3 hE
 · rw [if_neg hE];exact qQ3 F hK x.nm x.op x.rt x.ht h2 h3 hE
theorem qOV(F:Hp)(A:Option Addr)(n c:Nat)(l:List Aud)(hs:Sl F 4 A n c (qBK l))(hnb:n≤1073741824):Ct prog 117 [.slice A n c] [F] (λx:Option Addr×Nat×Hp=> .slice x.1 (l).length x.2.1) (λx=>Row x.2.2 34 4 x.1 (l).length x.2.1 (qBK l)) (λx=> [F,x.2.2]):=by
 have hkn:l.length=n:=by have:=hs.1;simpa [qBK] using this
 refine Ct.walk func117 rfl ntmps117 rfl (λw0 hw0=>?_)
 change J _ [(0,_)] _ _ _
 refine J.g λK1 hK1=>J.b O<|J.c hK1<|J.u 0 ?_
 refine J.j λK2 hK2=>J.g λK3 hK3=>J.b O<|J.f ((qEl qGw O O O).as (v':= .bool (decide (A.isNone=true))) (congrArg Value.bool (by cases A<;>rfl))) rfl<|J.c hK3<|J.E 0 4 ?_
 refine J.a2 O (λh4=>?_) (λh4=>?_)
 ·
  refine J.g λK4 hK4=>J.b O<|J.c hK4<|J.u 2 ?_
  refine J.D<|J.a4 ?_
  have hk0:l= []:=by
   refine List.eq_nil_of_length_eq_zero ?_
   rcases Nat.eq_zero_or_pos n with h|h
   · omega
   · obtain ⟨g,o,rfl⟩:=hs.at h;cases h4
  exact J.d5 [0,1] [F,(λ_=>none)] O (by decide)<|J.M hw0 O (none,0,(λ_=>none)) (by rw [hk0];rfl) (by rw [hk0];exact qBU.nil) [0,1] rfl (by decide)
 refine J.W hK2<|J.u 0 ?_
 refine J.g λK5 hK5=>J.k (qBj O qGw el34) O λg5 _=>?_
 change J _ _ _ [F,blk g5 [] 34] _
 refine J.b O<|J.k (qAW (i:=1) (xs:=qBK ([])) (m2:=F) (ys:=qBK l) O O O qGw qGw el34 O (qAk (q:=True) (xs:=qBK ([])) O (by intro x hx;first|exact absurd hx (List.not_mem_nil)|(rw [List.mem_singleton.1 hx];rfl))) (by simp) (hs) (qP9 _) (by omega) (by omega)) rfl ?_
 rintro⟨A7,c7,m7⟩ h7
 try dsimp only at h7
 change J _ ((7,.slice A7 (0+n) c7)::_) _ [_,m7] _
 replace h7:Row m7 34 4 A7 (0+n) c7 (qBK (l)):=h7
 refine J.b O<|J.c hK5<|J.u 2 ?_
 refine J.D ?_
 rw [show 0+n=l.length by omega] at h7
 exact J.M hw0 O (A7,c7,m7) (by rw [←hkn,Nat.zero_add]) h7 [0,1] rfl (by decide)
theorem qPs(F:Hp)(g:Nat)(A:Option Addr)(n c:Nat)(l:List Aud)(hs:Sl F 4 A n c (qBK l))(hnb:n≤1073741824)(hp:qAL F ⟨g,0,none⟩ [.slice A n c]):Ct prog 50 [Ptr g] [F] (λx:Nat×Hp=>Ptr x.1) (λx=>qO2 x.2 x.1 l) (λx=> [x.2,F]):=by
 refine Ct.walk func50 rfl ntmps50 rfl (λw0 hw0=>?_)
 change J _ [(0,_)] _ _ _
 refine J.g λK1 hK1=>J.b O<|J.c hK1<|J.u 0 ?_
 refine J.j λK2 hK2=>J.g λK3 hK3=>J.b O<|J.f ((qA6 underlying94 O O O).as (v':= .bool false) O) O<|J.c hK3<|J.E 0 4 ?_
 refine J.a5 ?_
 refine J.W hK2<|J.u 0 ?_
 refine J.g λK4 hK4=>J.b O<|J.f (qAC O O) O<|J.a3 0 qF1 qO5 O O O O O<|J.f (qAJ (v:= .slice A n c) O O isAgg91 (m:=F) (by simp) (hp)) rfl<|J.k (qAA rfl rfl ent117 (Ct.use (new:=λx:Option Addr×Nat×Hp=> [x.2.2]) (λF' hF=>qOV F' A n c l (hs.mono (hF F (by simp))) (by omega)))) rfl ?_
 rintro⟨A9,c9,m9⟩ h9
 try dsimp only at h9
 change J _ ((9,.slice A9 (l).length c9)::_) _ [F,m9] _
 refine J.f (qAM (l:= [(0,.tmp 9)]) (vs:= [.slice A9 ((l).length) c9]) (places:= [(0,1)]) (r:= [.slice A9 ((l).length) c9]) O O O qF1 zeroValue171 (λ_=>by kernel_rfl) O) O<|J.k (qAi (l:= [.slice A9 ((l).length) c9]) O O O) O λg11 _=>?_
 change J _ _ _ [_,_,blk g11 [.slice A9 ((l).length) c9] 171] _
 refine J.b O<|J.c hK4<|J.u 2 ?_
 exact J.D<|J.b2 hw0 (λ_ _ h=>h) (qIJ O O) (qBr (g11,U [blk g11 [.slice A9 ((l).length) c9] 171,m9]) (O) (λhd=>⟨A9,(l).length,c9,m9,O,hd,h9⟩) [2,1,0] O O (by decide))
theorem qSK(F m:Hp)(hK:KF F)(g:Nat)(A:Option Addr)(n c:Nat)(l:List Aud)(hs:Sl F 4 A n c (qBK l))(hnb:n≤1073741824)(hp:qAL F ⟨g,0,none⟩ [.slice A n c])(gt:Nat)(kv:List Sm.PR)(ht:qEh m gt kv)(hsm: ∀x∈l,x.nm.length≤1000000∧x.op.length≤1048576∧x.rt.length≤1048576)(hn6:n≤1000000):Ct prog 31 [Ptr g,Ptr gt] [m,F] (λ_:Hp=>I ((0:Nat):Int)) (λm'=>qEh m' gt (qFd kv l n)) (λm'=> [m',F]):=by
 have hkn:l.length=n:=by have:=hs.1;simpa [qBK] using this
 refine Ct.walk func31 rfl ntmps31 rfl (λw0 hw0=>?_)
 change J _ [(0,_),(1,_)] _ _ _
 refine J.g λK1 hK1=>J.b O<|J.c hK1<|J.E 0 1 ?_
 refine J.j λK2 hK2=>J.g λK3 hK3=>J.b O<|J.f ((qA6 underlying94 O O O).as (v':= .bool false) O) O<|J.p 2 O<|J.Z ((qA6 qJW O O O).as (v':= .bool false) O) O<|J.b O<|J.c hK3<|J.G 0 1 12 ?_
 refine J.a5 ?_
 refine J.W hK2<|J.E 0 1 ?_
 refine J.j λK4 hK4=>J.g λK5 hK5=>J.b O<|J.f (qAC O O) O<|J.a3 0 qF1 qO5 O O O O O<|J.f (qAJ (v:= .slice A n c) O O isAgg91 (m:=F) (by simp) (hp)) rfl<|J.f (qAP qGw rfl rfl) rfl<|J.b rfl<|J.c hK5<|J.O 1 16 17 18 ?_
 refine J.V<|J.b6 (X:=Nat×Hp) (λζ=> [(1,Ptr gt),(16,.slice A n c),(17,I ((n:Nat):Int)),(18,I ((ζ.1:Nat):Int))]) (λζ=> [ζ.2,F]) (λζ=>ζ.1≤n∧qEh ζ.2 gt (qFd kv l ζ.1)) (λζ=>n-ζ.1) (0,m) (⟨Nat.zero_le _,ht⟩) ⟨O,O,O,O,trivial⟩ (λ_ h=>h) ?_
 rintro⟨i,mo⟩ ⟨hi,hto⟩ I0 hI0
 dsimp only at hi hto⊢
 refine J.g λK6 hK6=>J.f (qAT O O O) O<|J.c hK6<|J.a0 1 16 17 18 19 ?_
 refine J.j λK7 hK7=>J.a2 O (λh19=>?_) (λh19=>?_)
 ·
  refine J.W hK7<|J.O 1 16 17 18 ?_
  refine J.j λK8 hK8=>J.V<|J.j λK9 hK9=>?_
  obtain ⟨hx1,hx2,hx3⟩:(l.getD i qAq).nm.length≤1000000∧(l.getD i qAq).op.length≤1048576∧(l.getD i qAq).rt.length≤1048576:=by
   rw [List.getD_eq_getElem?_getD,List.getElem?_eq_getElem (show i<l.length by omega)];exact hsm _ (List.getElem_mem _)
  have hpk:=qEF i
  refine J.L<|J.b O<|J.f (qAH (i:=i) O O O qGw qJJ hs (by omega)) O<|J.f (qAd (vs:= [Str ((l.getD i qAq).nm),Str ((l.getD i qAq).op),Str ((l.getD i qAq).rt),I ((l.getD i qAq).ht)]) O O isAgg34 qJJ (m:=F) (by simp) (hs.elem (qFu (by omega))) rfl) rfl<|J.k (qAN (l:= [Str [],Str [],Str [],I 0]) rfl qUf rfl) rfl λg6 _=>?_
  change J _ _ _ [mo,F,blk g6 [Str [],Str [],Str [],I 0] 34] _
  refine J.b O<|J.b0 (qAI (i:=2) (l:= [Str [],Str [],Str [],I 0]) (vs:= [Str ((l.getD i qAq).nm),Str ((l.getD i qAq).op),Str ((l.getD i qAq).rt),I ((l.getD i qAq).ht)]) O O O O O qJJ O O) O O λ_ _=>?_
  change J _ _ _ [_,_,blk g6 [Str ((l.getD i qAq).nm),Str ((l.getD i qAq).op),Str ((l.getD i qAq).rt),I ((l.getD i qAq).ht)] 34] _
  refine J.c hK9<|J.b8 1 5 6 16 17 18 ?_
  refine J.c1 [blk g6 [Str ((l.getD i qAq).nm),Str ((l.getD i qAq).op),Str ((l.getD i qAq).rt),I ((l.getD i qAq).ht)] 34] [] (.y 0 (.y 1 (.y 3 (.e 2 (.e 4 (.e 5 .nil)))))) Tryz.wide (by decide+kernel) (by simp) ?_
  refine J.T ?_
  refine J.T ?_
  refine J.q O (qAy 0 O O O isAgg34 qJJ O) O O<|J.a9 O (qAA O O ent55 (Ct.use0 (λF' hF=>qLn F' (hK.mo hF) i (by omega)))) O (by simp) λg25 _=>J.a9 rfl (qAA rfl rfl ent56 (Ct.use0 (λF' hF=>qQ4 F' (hK.mo hF) (l.getD i qAq) hx1 hx2 hx3))) rfl (by simp) λg27 _=>J.a9 rfl (qAA rfl rfl ent86 (Ct.use1 0 (m':=λx:Hp=>x) (new:=λ_=> []) rfl (λF' hF=>qMk F' mo gt (qFd kv l i) hto (qB3 i) (qRi (l.getD i qAq)) (by first|omega|rfl|assumption)))) rfl (by simp) ?_
  rintro m28 h28
  change J _ ((28,I ((0:Nat):Int))::_) _ [m28,_,_] _
  refine J.b9<|J.a6<|J.A (J.H hK8 ?_)
  refine J.O 1 16 17 18 ?_
  exact J.L<|J.f ((qAO O O O (by omega)).nat (i+1) (by omega)) O<|J.b O<|J.a7<|J.A<|J.a8 (i+1,m28) (λη (hη:_∧n-η.1<n-i)=>hI0 η hη.1 hη.2) ⟨⟨by dsimp only;omega,h28⟩,by dsimp only;omega⟩ ⟨O,O,O,O,trivial⟩ (λ_ h=>h.pick [0,1] (by decide))
 refine J.b4<|J.a1<|J.a1<|J.b5 ?_
 refine J.A (J.H hK4 ?_)
 refine J.c3 [] trivial<|J.g λK10 hK10=>J.b O<|J.c hK10<|J.u 4 ?_
 exact J.D<|J.M hw0 O mo O (by rw [show n=i by omega];exact hto) [0,1] rfl (by decide)
end Go.Proofs.YtllnfioplpipiaaGreatDoor
