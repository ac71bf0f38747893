/- A part of the proof. -/
import Derived.Test.YtmemgokiolfdoaaGreatDoorTopSpG23
import Derived.Test.YtmemgokiolfdoaaGreatDoorTopSpG14
set_option maxRecDepth 100000
set_option maxHeartbeats 1000000
set_option linter.unusedSimpArgs false
set_option linter.unusedVariables false
namespace Go.Proofs.YtmemgokiolfdoaaGreatDoor
open Go Go.Fw Go.Proofs.Tryz
theorem qRe(n:Nat):UInt8.ofNat (n%256)=UInt8.ofNat n:=by
 apply UInt8.toNat_inj.1
 rw [jm,jm];omega
theorem qTJ.see{m:Hp}{g:Nat}{l:List Aud}(h:qTJ m g l): ∃A n c,qAI m ⟨g,0,none⟩ [.slice A n c]/\Sl m 4 A n c (qBn l)/\l.length=n:=by
 obtain ⟨A,n,c,mr,rfl,hd,hr⟩:=h
 have hdd:Djs [blk g [.slice A n c] 232,mr]:=qAh.2 (by simpa using hd)
 refine⟨A,n,c,qAI.blk0.mono (qG2 hdd (.head _)),hr.sl.mono (qG2 hdd (.tail _ (.head _))),?_⟩
 have:=hr.len
 simpa [qBn] using this
theorem qIo(F:Hp)(hK:yf F)(n:Nat)(hn:n<=1000000):Cz prog 63 [I (n:Nat)] F (Str (qAv n)):=by
 refine y7 func63 O ntmps63 O (λw0 hw0=>?_)
 refine yl λ_ C1=>yh O<|yi C1 ?_
 refine yl λ_ C2=>yh O<|yj (qRU (a:=n) (m:=8) O O O xB) O<|yj (qAu O O u3_ u5_) O<|yh O<|yj (qAu O O u3_ u5_) O<|yp (qAE (l:= [.tmp 5,.tmp 7]) (xs:= [[B8 (UInt8.ofNat (n/2^8))],[B8 (UInt8.ofNat n)]]) O O O O qBo el5 O xC xC xD) O λg8 _=>yj (qBO O O qBo u5_ u9_ (m:=blk g8 [B8 (UInt8.ofNat (n/2^8)),B8 (UInt8.ofNat n)] 5) xD ((qAz (q:=True) (qAe [UInt8.ofNat (n/2^8),UInt8.ofNat n]) O (by simp [qAe]) O).sl)) O<|yp (qAE (l:= [.tmp 9]) (xs:= [[Str ([UInt8.ofNat (n/2^8),UInt8.ofNat n])]]) O O O O qAg el9 O xC xC xD) O λg10 _=>yp (qAZ O O (λF' hF=>qBI F' (hK.mo hF) 15 (some ⟨g10,0,none⟩) 1 1 ([[UInt8.ofNat (n/2^8),UInt8.ofNat n]]) (((qAz (q:=True) (qAG [[UInt8.ofNat (n/2^8),UInt8.ofNat n]]) O (by simp [qAG]) O).sl).mono (hF (blk g10 [Str ([UInt8.ofNat (n/2^8),UInt8.ofNat n])] 9) xD)) (by first|(simp;omega)|(simp;done)|decide) xB)) O λg11 _=>yh O<|yi C2 ?_
 exact yr<|yw hw0 O () (O) yd [0] O xC
theorem qMU(F:Hp)(n:Nat)(hn:n<=1000000):Cz prog 154 [I (n:Nat)] F (Str (qAv n)):=by
  refine y7 func154 O ntmps154 O (λw0 hw0=>?_)
  change J _ [(0,_)] _ _ _
  refine ym (λ_ C1=>?_)
  refine yt ?_
  refine va (qBH O O) O O O ?_
  refine y8 ?_
  refine yq (yu C1 ?_)
  refine vh [(0,_)] ⟨O,yd⟩ ?_
  refine ym (λ_ C2=>?_)
  refine yt ?_
  refine va (qAT O O) O O O ?_
  refine va ((qFV O O O xE).as (v':=I (n/256:Nat)) (yY I xB)) O O O ?_
  refine va (qAu (m:=n/256) O O u3_ u5_) O O O ?_
  refine va (qAT O O) O O O ?_
  refine va ((qDM O O O xE).as (v':=I (n%256:Nat)) (yY I xB)) O O O ?_
  refine va (qAu (m:=n%256) O O u3_ u5_) O O O ?_
  refine wA (qAE (l:= [.tmp 5,.tmp 8]) (xs:= [[B8 (UInt8.ofNat (n/256))],[B8 (UInt8.ofNat (n%256))]]) O O O O qBo el5 O xC xC xD) O O O ?_
  intro g9 _
  change J _ _ _ [F,blk g9 [B8 (UInt8.ofNat (n/256)),B8 (UInt8.ofNat (n%256))] 5] _
  refine va (qBO (l:= [UInt8.ofNat (n/256),UInt8.ofNat (n%256)]) O O qBo u5_ u9_ (m:=blk g9 [B8 (UInt8.ofNat (n/256)),B8 (UInt8.ofNat (n%256))] 5) xD ((qAz (q:=True) (qAe [UInt8.ofNat (n/256),UInt8.ofNat (n%256)]) O (by simp [qAe]) O).sl)) O O O ?_
  refine wA (qAE (l:= [.tmp 10]) (xs:= [[Str ([UInt8.ofNat (n/256),UInt8.ofNat (n%256)])]]) O O O O qAg el9 O xC xC xD) O O O ?_
  intro g11 _
  change J _ _ _ [F,blk g9 [B8 (UInt8.ofNat (n/256)),B8 (UInt8.ofNat (n%256))] 5,blk g11 [Str ([UInt8.ofNat (n/256),UInt8.ofNat (n%256)])] 9] _
  refine wA (qAZ O O (λF' hF=>qBZ F' 15 (some ⟨g11,0,none⟩) 1 1 ([[UInt8.ofNat (n/256),UInt8.ofNat (n%256)]]) (((qAz (q:=True) (qAG [[UInt8.ofNat (n/256),UInt8.ofNat (n%256)]]) O (by simp [qAG]) O).sl).mono (hF (blk g11 [Str ([UInt8.ofNat (n/256),UInt8.ofNat (n%256)])] 9) xD)) (by first|(simp;omega)|(simp;done)|decide) xB)) O O O ?_
  intro g12 _
  refine va (qBH O O) O O O ?_
  refine y8 ?_
  refine yq (yu C2 ?_)
  refine vh [(2,_)] ⟨O,yd⟩ ?_
  refine yr ?_
  exact vH hw0 (λ_ _ h=>h) (qIM O O) (qAf () (by unfold qAv;rw [qRe]) yd [0] O xC)
theorem qMC(F:Hp)(a b:xA)(ha:a.length<=1000000)(hb:b.length<=1000000):Cz prog 155 [Str (a),Str (b)] F (Str (Sha.tagged 16 [a,b])):=by
  refine y7 func155 O ntmps155 O (λw0 hw0=>?_)
  change J _ [(0,_),(1,_)] _ _ _
  refine ym (λ_ C1=>?_)
  refine yt ?_
  refine va (qBH O O) O O O ?_
  refine y8 ?_
  refine yq (yu C1 ?_)
  refine vh [(0,_),(1,_)] ⟨O,O,yd⟩ ?_
  refine ym (λ_ C2=>?_)
  refine yt ?_
  refine va (qAT O O) O O O ?_
  refine va (qAT O O) O O O ?_
  refine wA (qAE (l:= [.tmp 5,.tmp 6]) (xs:= [[Str (a)],[Str (b)]]) O O O O qAg el9 O xC xC xD) O O O ?_
  intro g7 _
  change J _ _ _ [F,blk g7 [Str (a),Str (b)] 9] _
  refine wA (qAZ O O (λF' hF=>qBZ F' 16 (some ⟨g7,0,none⟩) 2 2 ([a,b]) (((qAz (q:=True) (qAG [a,b]) O (by simp [qAG]) O).sl).mono (hF (blk g7 [Str (a),Str (b)] 9) xD)) (by first|(simp;omega)|(simp;done)|decide) xB)) O O O ?_
  intro g8 _
  refine va (qBH O O) O O O ?_
  refine y8 ?_
  refine yq (yu C2 ?_)
  refine vh [(4,_)] ⟨O,yd⟩ ?_
  refine yr ?_
  exact vH hw0 (λ_ _ h=>h) (qIM O O) (qAf () O yd [0] O xC)
theorem qTB(F:Hp)(hK:yf F)(nm op rt:xA)(ht:Int)(h1:nm.length<=1000000)(h2:op.length<=1048576)(h3:rt.length<=1048576)(hE:qBT op rt ht=0):Cz prog 64 [.agg #[Str (nm),Str (op),Str (rt),I (ht)]] F (Str (Sha.tagged 16 [nm,qAo op rt ht])):=by
 have hpl:=qCP hE
 refine y7 func64 O ntmps64 O (λw0 hw0=>?_)
 refine yl λ_ C1=>yp (qAi O O O) O λg1 _=>yh O<|yi C1 ?_
 refine yl λ_ C2=>vA 1 qKd qDF O O O O O<|yj (qAb O O qKM qDF (m:=blk g1 [Str (nm),Str (op),Str (rt),I (ht)] 34) xD (qAI.blk0.sub 1 3) O) O<|yp (qAZ O O (λF' hF=>qCr F' op rt ht xB xB)) O λg8 _=>yn 5 O<|yi C2 ?_
 refine ym λ_ C3=>yl λ_ C4=>yh O<|yj ((qAQ O O O).no xB) O<|yi C4 ?_
 refine vC ?_
 refine yy C3 ?_
 refine yl λ_ C5=>vA 0 qKd z9_ O O O O O<|vF 1 b9_ O O O O O<|yh O<|yp (qAE (l:= [.tmp 14,.tmp 15]) (xs:= [[Str (nm)],[Str (qAo op rt ht)]]) O O O O qAg el9 O xC xC xD) O λg16 _=>yp (qAZ O O (λF' hF=>qBI F' (hK.mo hF) 16 (some ⟨g16,0,none⟩) 2 2 ([nm,qAo op rt ht]) (((qAz (q:=True) (qAG [nm,qAo op rt ht]) O (by simp [qAG]) O).sl).mono (hF (blk g16 [Str (nm),Str (qAo op rt ht)] 9) xD)) (by first|(simp;omega)|(simp;done)|decide) xB)) O λg17 _=>yh O<|yi C5 ?_
 exact yr<|yw hw0 O () O yd [0] O xC
theorem qV1(F:Hp)(hK:yf F)(nm op rt:xA)(ht:Int)(h2:op.length<=1048576)(h3:rt.length<=1048576)(hE:qBT op rt ht≠0):Cz prog 64 [.agg #[Str (nm),Str (op),Str (rt),I (ht)]] F (Str ([])):=by
 refine y7 func64 O ntmps64 O (λw0 hw0=>?_)
 refine yl λ_ C1=>yp (qAi O O O) O λg1 _=>yh O<|yi C1 ?_
 refine yl λ_ C2=>vA 1 qKd qDF O O O O O<|yj (qAb O O qKM qDF (m:=blk g1 [Str (nm),Str (op),Str (rt),I (ht)] 34) xD (qAI.blk0.sub 1 3) O) O<|yp (qAZ O O (λF' hF=>qCr F' op rt ht xB xB)) O λg8 _=>yn 5 O<|yi C2 ?_
 refine ym λ_ C3=>yl λ_ C4=>yh O<|yj ((qAQ O O O).yes xB) O<|yi C4 ?_
 refine vV ?_
 refine yl λ_ C5=>yh O<|yi C5 ?_
 exact yr<|y5<|yw hw0 O () O yd [0] O xC
theorem qV2(F:Hp)(hK:yf F)(x:Aud)(h1:x.nm.length<=1000000)(h2:x.op.length<=1048576)(h3:x.rt.length<=1048576):Cz prog 64 [.agg #[Str x.nm,Str x.op,Str x.rt,I x.ht]] F (Str (qL3 x)):=by
 unfold qL3
 by_cases hE:qBT x.op x.rt x.ht=0
 . rw [yX hE];exact qTB F hK x.nm x.op x.rt x.ht h1 h2 h3 hE
 . rw [yW hE];exact qV1 F hK x.nm x.op x.rt x.ht h2 h3 hE
theorem qSt(F:Hp)(A:yS)(n c:Nat)(l:List Aud)(hs:Sl F 4 A n c (qBn l))(hnb:n<=1073741824):Ct prog 132 [.slice A n c] [F] (λx:yS×Nat×Hp=> .slice x.1 (l).length x.2.1) (λx=>Row x.2.2 34 4 x.1 (l).length x.2.1 (qBn l)) (λx=> [F,x.2.2]):=by
 have hkn:l.length=n:=by have:=hs.1;simpa [qBn] using this
 refine y7 func132 O ntmps132 O (λw0 hw0=>?_)
 refine yl λ_ C1=>yh O<|yi C1 ?_
 refine ym λ_ C2=>yl λ_ C3=>yh O<|yj ((qFT qDl O O O).as (v':= .bool (decide (A.isNone=true))) (yY Value.bool (by cases A<;>rfl))) O<|yi C3 ?_
 refine y1 O (λh4=>?_) (λh4=>?_)
 .
  refine yl λ_ C4=>yh O<|yi C4 ?_
  refine yr<|y5 ?_
  have hk0:l= []:=by
   refine jT ?_
   rcases yR n with h|h
   . omega
   . obtain ⟨g,o,rfl⟩:=hs.at h;cases h4
  exact ve [0,1] [F,(λ_=>none)] O xC<|yw hw0 O (none,0,(λ_=>none)) (by rw [hk0];rfl) (by rw [hk0];exact qBf.nil) [0,1] O xC
 refine yy C2 ?_
 refine yl λ_ C5=>yp (qBN O qDl el34) O λg5 _=>yh O<|yp (qAV (i:=1) (m2:=F) O O O qDl qDl el34 O (qAj (q:=True) (xs:=qBn ([])) O (by intro x hx;first|exact absurd hx (jr)|(rw [List.mem_singleton.1 hx];rfl))) xD (hs) (qUs _) xB xB) O ?_
 rintro⟨A7,c7,m7⟩ h7
 try dsimp only at h7
 replace h7:Row m7 34 4 A7 (0+n) c7 (qBn (l)):=h7
 refine yh O<|yi C5 ?_
 refine yr ?_
 rw [show 0+n=l.length by omega] at h7
 exact yw hw0 O (A7,c7,m7) (by rw [<-hkn,jl]) h7 [0,1] O xC
theorem qJh(F:Hp)(g:Nat)(A:yS)(n c:Nat)(l:List Aud)(hs:Sl F 4 A n c (qBn l))(hnb:n<=1073741824)(hp:qAI F ⟨g,0,none⟩ [.slice A n c]):Ct prog 57 [Ptr g] [F] (λx:Nat×Hp=>Ptr x.1) (λx=>qTJ x.2 x.1 l) (λx=> [x.2,F]):=by
 refine y7 func57 O ntmps57 O (λw0 hw0=>?_)
 refine yl λ_ C1=>yh O<|yi C1 ?_
 refine ym λ_ C2=>yl λ_ C3=>yh O<|yj ((qBL underlying121 O O O).as (v':= .bool false) O) O<|yi C3 ?_
 refine vC ?_
 refine yy C2 ?_
 refine yl λ_ C4=>yh O<|yj (qAB O O) O<|vA 0 qII qJN O O O O O<|yj (qAH O O isAgg118 (m:=F) xD (hp)) O<|yp (qBx O O (λF' hF=>qSt F' A n c l (hs.mono (Fa hF)) xB)) O ?_
 rintro⟨A9,c9,m9⟩ h9
 try dsimp only at h9
 refine yj (qAK (places:= [(0,1)]) (r:= [.slice A9 ((l).length) c9]) O O O qII zeroValue232 (λ_=>xH) O) O<|yp (qAi O O O) O λg11 _=>yh O<|yi C4 ?_
 exact yr<|vH hw0 (λ_ _ h=>h) (qIM O O) (qCf (g11,U [blk g11 [.slice A9 ((l).length) c9] 232,m9]) (O) (λhd=>⟨A9,(l).length,c9,m9,O,hd,h9⟩) [2,1,0] O O xC)
theorem qXn(F m:Hp)(hK:yf F)(g:Nat)(A:yS)(n c:Nat)(l:List Aud)(hs:Sl F 4 A n c (qBn l))(hnb:n<=1073741824)(hp:qAI F ⟨g,0,none⟩ [.slice A n c])(gt:Nat)(kv:List Sm.PR)(ht:qGg m gt kv)(hsm: ∀x∈l,x.nm.length<=1000000/\x.op.length<=1048576/\x.rt.length<=1048576)(hn6:n<=1000000):Ct prog 48 [Ptr g,Ptr gt] [m,F] (λ_:Hp=>I (0:Nat)) (λm'=>qGg m' gt (qGQ kv l n)) (λm'=> [m',F]):=by
 have hkn:l.length=n:=by have:=hs.1;simpa [qBn] using this
 refine y7 func48 O ntmps48 O (λw0 hw0=>?_)
 refine yl λ_ C1=>yh O<|yi C1 ?_
 refine ym λ_ C2=>yl λ_ C3=>yh O<|yj ((qBL underlying121 O O O).as (v':= .bool false) O) O<|yn 2 O<|yv ((qBL qMK O O O).as (v':= .bool false) O) O<|yh O<|yi C3 ?_
 refine vC ?_
 refine yy C2 ?_
 refine ym λ_ C4=>yl λ_ C5=>yh O<|yj (qAB O O) O<|vA 0 qII qJN O O O O O<|yj (qAH O O isAgg118 (m:=F) xD (hp)) O<|yj (qAN qDl O O) O<|yh O<|yi C5 ?_
 refine yz<|vN (X:=Nat×Hp) (λζ=> [(1,Ptr gt),(16,.slice A n c),(17,I (n:Nat)),(18,I (ζ.1:Nat))]) (λζ=> [ζ.2,F]) (λζ=>ζ.1<=n/\qGg ζ.2 gt (qGQ kv l ζ.1)) (λζ=>n-ζ.1) (0,m) (⟨jH _,ht⟩) (Sub.of O) (λ_ h=>h) ?_
 rintro⟨i,mo⟩ ⟨hi,hto⟩ I0 hI0
 dsimp only at hi hto⊢
 refine yl λ_ C6=>yj (qAP O O O) O<|yi C6 ?_
 refine ym λ_ C7=>y1 O (λh19=>?_) (λh19=>?_)
 .
  refine yy C7 ?_
  refine ym λ_ C8=>yz<|ym λ_ C9=>?_
  obtain ⟨hx1,hx2,hx3⟩:(l.getD i qBc).nm.length<=1000000/\(l.getD i qBc).op.length<=1048576/\(l.getD i qBc).rt.length<=1048576:=by
   rw [jB,jD (show i<l.length by omega)];exact hsm _ (jU _)
  have hpk:=qGA i
  refine yt<|yh O<|yj (qAC O O O qDl qIV hs xB) O<|yj (qAb O O qPu qIV (m:=F) xD (hs.elem (qIA xB)) O) O<|yp (qAO O qYx O) O λg6 _=>yh O<|vG (qAF (i:=2) (l:= [Str [],Str [],Str [],I 0]) (vs:= [Str ((l.getD i qBc).nm),Str ((l.getD i qBc).op),Str ((l.getD i qBc).rt),I ((l.getD i qBc).ht)]) O O O O O qIV O O) O O λ_ _=>yi C9 ?_
  refine vQ [blk g6 [Str ((l.getD i qBc).nm),Str ((l.getD i qBc).op),Str ((l.getD i qBc).rt),I ((l.getD i qBc).ht)] 34] [] (.y 0 (.y 1 (.y 3 (.e 2 (.e 4 (.e 5 .nil)))))) ye xF xD ?_
  refine yx ?_
  refine yx ?_
  refine yo O (qAx 0 O O O qPu qIV O) O O<|vD O (qAZ O O (λF' hF=>qIo F' (hK.mo hF) i xB)) O xD λg25 _=>vD O (qAZ O O (λF' hF=>qV2 F' (hK.mo hF) (l.getD i qBc) hx1 hx2 hx3)) O xD λg27 _=>vD O (qAJ O O ent (vR 0 O (λF' hF=>qQJ F' mo gt (qGQ kv l i) hto (qAv i) (qL3 (l.getD i qBc)) (by first|omega|rfl|assumption)))) O xD ?_
  rintro m28 h28
  refine vM<|vB<|yq (yu C8 ?_)
  exact yt<|yj ((qAM O O O xB).nat (i+1) xB) O<|yh O<|y8<|yq<|vE (i+1,m28) hI0 ⟨by dsimp only;omega,h28⟩ (Sub.of O) (λ_ h=>h.pick [0,1] xC)
 refine vK<|y6<|y6<|vL ?_
 refine yq (yu C4 ?_)
 refine yl λ_ C10=>yh O<|yi C10 ?_
 exact yr<|yw hw0 O mo O (by rw [show n=i by omega];exact hto) [0,1] O xC
end Go.Proofs.YtmemgokiolfdoaaGreatDoor