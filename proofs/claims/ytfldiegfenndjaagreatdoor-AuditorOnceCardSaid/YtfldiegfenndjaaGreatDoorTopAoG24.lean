/- A part of the proof. -/
import Derived.Test.YtfldiegfenndjaaGreatDoorTopAoG8
import Derived.Test.YtfldiegfenndjaaGreatDoorTopAoG22
import Derived.Test.YtfldiegfenndjaaGreatDoorTopAoG23
import Derived.Test.YtfldiegfenndjaaGreatDoorTopAoG11
import Derived.Test.YtfldiegfenndjaaGreatDoorTopAoG10
set_option linter.unusedSimpArgs false
set_option linter.unusedVariables false
namespace Go.Proofs.YtfldiegfenndjaaGreatDoor
open Go Go.Fw Go.Proofs.Tryz
set_option maxRecDepth 100000
set_option maxHeartbeats 1000000
theorem ent53:qAE prog 53:=qAE.of func53 rfl (by kernel_rfl)
theorem ent55:qAE prog 55:=qAE.of func55 rfl (by kernel_rfl)
theorem ent114:qAE prog 114:=qAE.of func114 rfl (by kernel_rfl)
def qBL(nx:Nat):List UInt8:=Sha.numB (UInt64.ofNat (nx+1)) 2
theorem qBi(nx:Nat):(qBL nx).length=2:=Sha.numB_length _ _
theorem qRg(F:Hp)(hK:KF F)(gd:Nat)(d:Dk)(hok:d.ok)(A:Option Addr)(c:Nat)(B:Option Addr)(e:Nat)(C:Option Addr)(f:Nat)(hc:qAP F ⟨gd,0,none⟩ (d.cells A c B e C f))(hL:Sl F 1 A d.last.length c (qAH d.last))(hW:Sl F 2 B d.wait.length e (qCC d.wait))(hn2:d.wait.length≤1073741824)(first count:Nat)(h8:8≤count)(hfc:first+count≤d.last.length)(hoff:d.off=false)(seed:List UInt8)(hsd:seed.length≤1048576)(kh:Nat)(h6:kh≤6)(X:Hlf)(hX:hst d first (count/2) 2=X)(hXn:X.R.length≤1048576)(hR:X.R= []):Ct prog 52 [Ptr gd,I ((first:Nat):Int),I ((count:Nat):Int),Str seed,I ((kh:Nat):Int)] [F] (λx:(Nat×Hp)×(Nat×Option Addr×Nat×Hp)×Nat=> .tuple #[Ptr x.2.2,I ((0:Nat):Int)]) (λx=>qGR x.1.2 x.1.1 seed kh∧Row x.2.1.2.2.2 9 1 x.2.1.2.1 X.R.length x.2.1.2.2.1 (qAH X.R)) (λx=> [F,x.1.2,blk x.2.1.1 (bkC gd first (count/2) X x.2.1.2.1 x.2.1.2.2.1 false) 223,x.2.1.2.2.2,blk x.2.2 [Ptr x.1.1,Ptr x.2.1.1,I ((0:Nat):Int)] 216]):=by
 refine Ct.walk func52 rfl ntmps52 rfl (λw0 hw0=>?_)
 change J _ [(0,_),(1,_),(2,_),(3,_),(4,_)] _ _ _
 refine J.g λK1 hK1=>J.j 2 V<|J.c hK1<|J.a0 0 1 2 3 4 ?_
 refine J.g λK2 hK2=>J.j 2 V<|J.q (qAB V V ent33 (Ct.use (new:=λx:Nat×Hp=> [x.2]) (λF' hF=>qKP F' (hK.mo hF) seed kh hsd h6))) V ?_
 rintro⟨g21,m21⟩ h21
 try dsimp only at h21
 change J _ ((21,.tuple #[Ptr g21,I 0])::_) _ [F,m21] _
 refine J.j 5 V<|J.c hK2<|J.a0 0 1 2 12 13 ?_
 refine J.k λK3 hK3=>J.g λK4 hK4=>J.b V<|J.f ((qAU V V V).no (by decide)) V<|J.c hK4<|J.b5 0 1 2 12 13 25 ?_
 refine J.a5 ?_
 refine J.W hK3<|J.O 0 1 2 12 ?_
 refine J.g λK5 hK5=>J.j 3 V<|J.q (qAB V V ent53 (Ct.use (new:=λx:Nat×Option Addr×Nat×Hp=> [blk x.1 (bkC gd first (count/2) X x.2.1 x.2.2.1 false) 223,x.2.2.2]) (λF' hF=>by have:=qFd F' (hK.mo hF) gd d hok A c B e C f (hc.mono (hF F (by simp))) (hL.mono (hF F (by simp))) (hW.mono (hF F (by simp))) hn2 first count h8 hfc hoff;rw [hX] at this;exact this))) rfl ?_
 rintro⟨g31,A31,c31,m31⟩ h31
 try dsimp only at h31
 change J _ ((31,.tuple #[Ptr g31,I ((0:Nat):Int)])::_) _ [_,_,blk g31 (bkC gd first (count/2) X A31 c31 false) 223,m31] _
 refine J.j 5 V<|J.c hK5<|J.G 12 13 14 ?_
 refine J.k λK6 hK6=>J.g λK7 hK7=>J.b V<|J.f ((qAU V V V).no (by decide)) V<|J.c hK7<|J.O 12 13 14 35 ?_
 refine J.a5 ?_
 refine J.W hK6<|J.E 12 14 ?_
 refine J.g λK8 hK8=>J.j 2 V<|J.f (qAK (l:= [(0,.tmp 37),(1,.tmp 38)]) (vs:= [Ptr g21,Ptr g31]) (places:= [(0,1),(1,1),(2,1)]) (r:= [Ptr g21,Ptr g31,I 0]) V V V qB4 zeroValue216 (λ_=>by kernel_rfl) V) V<|J.q (qAi (l:= [Ptr g21,Ptr g31,I 0]) V V V) V λg40 _=>?_
 change J _ _ _ [_,_,_,_,blk g40 [Ptr g21,Ptr g31,I 0] 216] _
 refine J.b V<|J.c hK8<|J.E 14 15 ?_
 refine J.k λK9 hK9=>J.g λK10 hK10=>J.b V<|J.q (qAB V V ent55 (Ct.use (new:=λx:Option Addr×Nat×Hp=> [x.2.2]) (λF' hF=>qDf F' g31 gd ((first:Nat):Int) (count/2) ((X.at_:Nat):Int) X.t ((X.e:Nat):Int) A31 X.R.length c31 false (qAP.blk0.mono (hF (blk g31 (bkC gd first (count/2) X A31 c31 false) 223) (by simp))) X.R rfl (h31.sl.mono (hF m31 (by simp))) (by omega)))) rfl ?_
 rintro⟨A42,c42,m42⟩ h42
 try dsimp only at h42
 change J _ ((42,.slice A42 X.R.length c42)::_) _ [_,_,_,_,_,m42] _
 refine J.b V<|J.c hK10<|J.E 15 16 ?_
 refine J.g λK11 hK11=>J.b V<|J.f (qAY qAh V V) V<|J.f ((qA5 V V V).no (by rw [hR];decide)) rfl<|J.c hK11<|J.G 15 16 45 ?_
 refine J.a5 ?_
 refine J.W hK9<|J.A 15 ?_
 refine J.g λK12 hK12=>J.j 3 V<|J.c hK12<|J.E 10 11 ?_
 exact J.D<|J.b4 hw0 (λ_ _ h=>h) (qDe V V V) (qAj ((g21,m21),(g31,A31,c31,m31),g40) V ⟨h21,h31⟩ [0,1,2,3,4] V (by decide))
theorem qRf(F:Hp)(hK:KF F)(gd:Nat)(d:Dk)(hok:d.ok)(A:Option Addr)(c:Nat)(B:Option Addr)(e:Nat)(C:Option Addr)(f:Nat)(hc:qAP F ⟨gd,0,none⟩ (d.cells A c B e C f))(hL:Sl F 1 A d.last.length c (qAH d.last))(hW:Sl F 2 B d.wait.length e (qCC d.wait))(hn2:d.wait.length≤1073741824)(first count:Nat)(h8:8≤count)(hfc:first+count≤d.last.length)(hoff:d.off=false)(seed:List UInt8)(hsd:seed.length≤1048576)(kh:Nat)(h6:kh≤6)(X:Hlf)(hX:hst d first (count/2) 2=X)(hXn:X.R.length≤1048576)(hR:0<X.R.length)(r:List UInt8)(hr:r=(X.R.getD (X.R.length-1) []))(hr2:r.length=2):Ct prog 52 [Ptr gd,I ((first:Nat):Int),I ((count:Nat):Int),Str seed,I ((kh:Nat):Int)] [F] (λx:(Nat×Hp)×(Nat×Option Addr×Nat×Hp)×Nat=> .tuple #[Ptr x.2.2,I ((0:Nat):Int)]) (λx=>qGR x.1.2 x.1.1 seed kh∧Row x.2.1.2.2.2 9 1 x.2.1.2.1 X.R.length x.2.1.2.2.1 (qAH X.R)) (λx=> [F,x.1.2,blk x.2.1.1 (bkC gd first (count/2) X x.2.1.2.1 x.2.1.2.2.1 false) 223,x.2.1.2.2.2,blk x.2.2 [Ptr x.1.1,Ptr x.2.1.1,I ((qBk r:Nat):Int)] 216]):=by
 refine Ct.walk func52 rfl ntmps52 rfl (λw0 hw0=>?_)
 change J _ [(0,_),(1,_),(2,_),(3,_),(4,_)] _ _ _
 refine J.g λK1 hK1=>J.j 2 V<|J.c hK1<|J.a0 0 1 2 3 4 ?_
 refine J.g λK2 hK2=>J.j 2 V<|J.q (qAB V V ent33 (Ct.use (new:=λx:Nat×Hp=> [x.2]) (λF' hF=>qKP F' (hK.mo hF) seed kh hsd h6))) V ?_
 rintro⟨g21,m21⟩ h21
 try dsimp only at h21
 change J _ ((21,.tuple #[Ptr g21,I 0])::_) _ [F,m21] _
 refine J.j 5 V<|J.c hK2<|J.a0 0 1 2 12 13 ?_
 refine J.k λK3 hK3=>J.g λK4 hK4=>J.b V<|J.f ((qAU V V V).no (by decide)) V<|J.c hK4<|J.b5 0 1 2 12 13 25 ?_
 refine J.a5 ?_
 refine J.W hK3<|J.O 0 1 2 12 ?_
 refine J.g λK5 hK5=>J.j 3 V<|J.q (qAB V V ent53 (Ct.use (new:=λx:Nat×Option Addr×Nat×Hp=> [blk x.1 (bkC gd first (count/2) X x.2.1 x.2.2.1 false) 223,x.2.2.2]) (λF' hF=>by have:=qFd F' (hK.mo hF) gd d hok A c B e C f (hc.mono (hF F (by simp))) (hL.mono (hF F (by simp))) (hW.mono (hF F (by simp))) hn2 first count h8 hfc hoff;rw [hX] at this;exact this))) rfl ?_
 rintro⟨g31,A31,c31,m31⟩ h31
 try dsimp only at h31
 change J _ ((31,.tuple #[Ptr g31,I ((0:Nat):Int)])::_) _ [_,_,blk g31 (bkC gd first (count/2) X A31 c31 false) 223,m31] _
 refine J.j 5 V<|J.c hK5<|J.G 12 13 14 ?_
 refine J.k λK6 hK6=>J.g λK7 hK7=>J.b V<|J.f ((qAU V V V).no (by decide)) V<|J.c hK7<|J.O 12 13 14 35 ?_
 refine J.a5 ?_
 refine J.W hK6<|J.E 12 14 ?_
 refine J.g λK8 hK8=>J.j 2 V<|J.f (qAK (l:= [(0,.tmp 37),(1,.tmp 38)]) (vs:= [Ptr g21,Ptr g31]) (places:= [(0,1),(1,1),(2,1)]) (r:= [Ptr g21,Ptr g31,I 0]) V V V qB4 zeroValue216 (λ_=>by kernel_rfl) V) V<|J.q (qAi (l:= [Ptr g21,Ptr g31,I 0]) V V V) V λg40 _=>?_
 change J _ _ _ [_,_,_,_,blk g40 [Ptr g21,Ptr g31,I 0] 216] _
 refine J.b V<|J.c hK8<|J.E 14 15 ?_
 refine J.k λK9 hK9=>J.g λK10 hK10=>J.b V<|J.q (qAB V V ent55 (Ct.use (new:=λx:Option Addr×Nat×Hp=> [x.2.2]) (λF' hF=>qDf F' g31 gd ((first:Nat):Int) (count/2) ((X.at_:Nat):Int) X.t ((X.e:Nat):Int) A31 X.R.length c31 false (qAP.blk0.mono (hF (blk g31 (bkC gd first (count/2) X A31 c31 false) 223) (by simp))) X.R rfl (h31.sl.mono (hF m31 (by simp))) (by omega)))) rfl ?_
 rintro⟨A42,c42,m42⟩ h42
 try dsimp only at h42
 change J _ ((42,.slice A42 X.R.length c42)::_) _ [_,_,_,_,_,m42] _
 refine J.b V<|J.c hK10<|J.E 15 16 ?_
 refine J.g λK11 hK11=>J.b V<|J.f (qAY qAh V V) V<|J.f ((qA5 V V V).yes (by omega)) V<|J.c hK11<|J.G 15 16 45 ?_
 refine J.c7 ?_
 refine J.k λK12 hK12=>?_
 have hb2:=natB2 (⟨r,0⟩:RS)
 have ht:(⟨r,0⟩:RS).take 2=⟨[],0⟩:=by rw [qFl (by rw [hr2];exact jJ 2),jq (by rw [hr2];exact jJ 2)]
 have ho2:(⟨r,0⟩:RS).out 2=r:=by rw [qIg (by rw [hr2];exact jJ 2),jV (by rw [hr2];exact jJ 2)]
 rw [ho2] at hb2
 refine J.H<|J.j 2 V<|J.f (qAY qAh V V) V<|J.f ((qAn V V V (by omega)).nat (X.R.length-1) (by omega)) V<|J.f (qAF (i:=X.R.length-1) V V V qAh z9_ h42.sl (by omega)) V<|J.f (qAL V V b9_ (m:=m42) (by simp) (h42.sl.elem (qAZ (qAd [] (by omega))))) rfl ?_
 rw [←hr]
 refine J.q (qAB V V ent112 (Ct.use (new:=λg=> [RSb g (⟨r,0⟩:RS)]) (λF' _=>(qJl F' r).mono (φ2:=λ_=>True) (val2:=Ptr) (ms2:=λg=>F':: [RSb g (⟨r,0⟩:RS)]) id (λ_ _=>rfl) (λ_ h=>h) (λx w0 w _ h=>h.pick [1,0] (by decide))))) V ?_
 rintro g52 _
 change J _ ((52,Ptr g52)::_) _ [_,_,_,_,_,_,RSb g52 (⟨r,0⟩:RS)] _
 refine J.b V<|J.c hK12<|J.E 15 17 ?_
 refine J.g λK13 hK13=>J.j 2 V<|J.q (qAB V V ent113 (Ct.use1 6 (m':=λ_:Unit=>RSb g52 ((⟨r,0⟩:RS).take 2)) (new:=λ_=> []) V (λF' _=>qDO F' g52 (⟨r,0⟩:RS) 2 (by decide) (by decide)))) V λg55 _=>?_
 change J _ _ _ [_,_,_,_,_,_,RSb g52 ((⟨r,0⟩:RS).take 2)] _
 rw [ho2]
 refine J.f (qCI (a:=qBk r) V V qED u3_ (by omega)) V<|J.f (qAC V V) V<|J.a2 2 qB4 z3_ V V V V V<|J.b1 (qAV (i:=4) (l:= [Ptr g21,Ptr g31,I 0]) (vs:= [I ((qBk r:Nat):Int)]) V V V V V z3_ V (by simp)) rfl rfl λ_ _=>?_
 change J _ _ _ [_,_,_,_,blk g40 [Ptr g21,Ptr g31,I ((qBk r:Nat):Int)] 216,_,_] _
 refine J.c hK13<|J.E 15 17 ?_
 refine J.g λK14 hK14=>J.b V<|J.q (qAB V V ent114 (Ct.use1 6 (m':=λ_:Unit=>RSb g52 ((⟨r,0⟩:RS).take 2)) (new:=λ_=> []) V (λF' _=>qRA F' g52 ((⟨r,0⟩:RS).take 2)))) V λg60 _=>?_
 change J _ _ _ [_,_,_,_,_,_,_] _
 refine J.f ((qAU V V V).no (by rw [ht];exact λh=>h rfl)) rfl<|J.c hK14<|J.E 15 61 ?_
 refine J.a5 ?_
 refine J.W hK9<|J.A 15 ?_
 refine J.g λK15 hK15=>J.j 3 V<|J.c hK15<|J.E 10 11 ?_
 exact J.D<|J.b4 hw0 (λ_ _ h=>h) (qDe V V V) (qAj ((g21,m21),(g31,A31,c31,m31),g40) V ⟨h21,h31⟩ [0,1,2,3,4] V (by decide))
theorem ent121:qAE prog 121:=qAE.of func121 rfl (by kernel_rfl)
theorem ent122:qAE prog 122:=qAE.of func122 rfl (by kernel_rfl)
attribute [local irreducible] Sha.tagged Wo.pub Wo.publicOf Wo.signs Wo.ends Wo.digs Wo.walk Wo.opn Mk.root Mk.path Mk.climb Xm.root sgC sgP
def qHo(t:UInt64):UInt64:=if t.toNat=0 then 1 else t
theorem qNx(t:UInt64):((qHo t).toNat:Int)=max ((t.toNat:Nat):Int) 1:=by
 unfold qHo
 split
 · rename_i h;rw [h];rfl
 · omega
theorem qHn{t:UInt64}(h:t.toNat<2^(8*4)):(qHo t).toNat<2^(8*4):=by
 unfold qHo
 split
 · decide
 · exact h
def qFH(X:Hlf)(s:List UInt8):Hlf:=⟨X.at_,qHo X.t,X.R++ [s],X.e+qAx s.length⟩
def qAt(d:Dk)(X:Hlf)(s:List UInt8):Dk×Int:=qBM d (X.at_+X.e) (λi=>(prt (qHo X.t) (UInt64.ofNat X.R.length) s (qAx s.length) i).text) (qAx s.length)
theorem qEK(F md:Hp)(hK:KF F)(gb gd first size:Nat)(X:Hlf)(A:Option Addr)(c:Nat)(hRs:Sl F 1 A X.R.length c (qAH X.R))(d:Dk)(C:Option Addr)(f:Nat)(hb:Dsk md gd d C f)(hok:d.ok)(hn2:d.wait.length≤1048576)(hKp:Sl F 1 C d.keep.length f (qAR d.keep))(hn3:d.keep.length≤9223372036854775807)(s:List UInt8)(hs:s.length≤900)
    (ht:X.t.toNat<2^(8*4)) (hnr:X.R.length<65536) (hp:X.at_+size≤1048576) (hfit:X.e+qAx s.length≤size) (he:(qAt d X s).2=0):
    Ct prog 121 [Ptr gb,Str s] [blk gb (bkC gd first size X A c false) 223,md,F] (λ_:Hp×Option Addr×Nat×Hp=>I 0) (λx=>Dsk x.1 gd (qAt d X s).1 C f∧Row x.2.2.2 9 1 x.2.1 (qFH X s).R.length x.2.2.1 (qAH (qFH X s).R)) (λx=> [blk gb (bkC gd first size (qFH X s) x.2.1 x.2.2.1 false) 223,x.1,F,x.2.2.2]):=by
  have h:=qJG F md hK gb gd ((first:Nat):Int) size X.at_ X.t X.e A X.R.length c d C f hb hok hn2 hKp hn3 X.R rfl hRs s hs _ rfl (qHo X.t) (qNx _) (qHn ht) hnr hp hfit he
  have e:X.R.length+1=(qFH X s).R.length:=by unfold qFH;rw [jA];rfl
  rw [e] at h
  exact h
theorem qKk(F md:Hp)(hK:KF F)(gb gd first size:Nat)(X:Hlf)(A:Option Addr)(c:Nat)(hRs:Sl F 1 A X.R.length c (qAH X.R))(d:Dk)(C:Option Addr)(f:Nat)(hb:Dsk md gd d C f)(hok:d.ok)(hn2:d.wait.length≤1048576)(hKp:Sl F 1 C d.keep.length f (qAR d.keep))(hn3:d.keep.length≤9223372036854775807)(s:List UInt8)(hs:s.length≤900)
    (ht:X.t.toNat<2^(8*4)) (hnr:X.R.length<65536) (hp:X.at_+size≤1048576) (hfit:X.e+qAx s.length≤size) (he: ¬(qAt d X s).2=0):
    Ct prog 121 [Ptr gb,Str s] [blk gb (bkC gd first size X A c false) 223,md,F] (λ_:Hp=>I (qAt d X s).2) (λx=>Dsk x gd (qAt d X s).1 C f) (λx=> [blk gb (bkC gd first size X A c true) 223,x,F]):=
  qKE F md hK gb gd ((first:Nat):Int) size X.at_ X.t X.e A X.R.length c d C f hb hok hn2 hKp hn3 X.R rfl hRs s hs _ rfl (qHo X.t) (qNx _) (qHn ht) hnr hp hfit he
theorem qEm{X:Type}(F B md:Hp)(gs gk gb nx:Nat)(hS:qAP F ⟨gs,0,none⟩ [Ptr gk,Ptr gb,I ((nx:Nat):Int)])(hnx:nx≤65534)(e1:Int)(h9:e1≠9)(φ:X→Prop)(B1 M1 N1:X→Hp)(hP: ∀F':Hp,Le F F'→Ct prog 121 [Ptr gb,Str (qBL nx)] [B,md,F'] (λ_:X=>I (e1)) φ (λx=> [B1 x,M1 x,F',N1 x])):Ct prog 122 [Ptr gs] [B,md,F] (λ_:X=>I e1) φ (λx=> [B1 x,M1 x,F,N1 x]):=by
 refine Ct.walk func122 rfl ntmps122 rfl (λw0 hw0=>?_)
 change J _ [(0,_)] _ _ _
 refine J.g λK1 hK1=>J.b V<|J.c hK1<|J.A 0 ?_
 refine J.g λK2 hK2=>J.q (qAO (l:= [.pointer none,.slice none 0 0,I 0]) V qKB V) V λg3 _=>?_
 change J _ _ _ [B,md,F,blk g3 [.pointer none,.slice none 0 0,I 0] 188] _
 refine J.c hK2<|J.E 0 3 ?_
 refine J.g λK3 hK3=>J.b V<|J.f (qAC V V) V<|J.a2 2 qB4 z3_ V V V V V<|J.f (qAL (v:=I ((nx:Nat):Int)) V V b3_ (m:=F) (by simp) (hS.at (i:=2) rfl)) rfl<|J.f (qCn (m:=nx) rfl rfl u3_ qED (by omega)) rfl<|J.f (qEr (a:=nx) (b:=1) rfl rfl rfl (by omega)) rfl<|J.q (qAB rfl rfl ent83 (Ct.use1 3 (m':=λx:Hp=>x) (new:=λ_=> []) rfl (λF' hF=>qEs F' (blk g3 [.pointer none,.slice none 0 0,I 0] 188) g3 ([]) (wtrN g3) (by first|decide|omega|(simp only [jA,jD,jH,jP,Sha.numB_length,qDC]<;>omega)) (nx+1) 2 (by decide) (by decide) (by first|decide|omega|assumption)))) rfl ?_
 rintro m13 hw13
 change J _ ((13,Ptr g3)::_) _ [_,_,_,m13] _
 rw [jp] at hw13
 replace hw13:Wtr m13 g3 (qBL nx) 0:=hw13
 have hnl:=qBi nx
 refine J.q (qAB V V ent86 (Ct.use1 3 (m':=λx:Hp=>x) (new:=λ_=> []) V (λF' hF=>qEY F' m13 g3 (qBL nx) hw13 (by first|decide|omega|(simp only [jA,jD,jH,jP,Sha.numB_length,qDC]<;>omega))))) rfl ?_
 rintro m14 hw14
 change J _ ((14,.tuple #[Str (qBL nx),I ((0:Nat):Int)])::_) _ [_,_,_,m14] _
 refine J.j 5 V<|J.c hK3<|J.G 0 4 5 ?_
 refine J.k λK4 hK4=>J.g λK5 hK5=>J.b V<|J.f ((qAU V V V).no (by decide)) V<|J.c hK5<|J.O 0 4 5 18 ?_
 refine J.a5 ?_
 refine J.W hK4<|J.E 0 4 ?_
 refine J.g λK6 hK6=>J.b V<|J.f (qAC V V) V<|J.a2 1 qB4 sizeOf140 V V V V V<|J.f (qAL (v:=Ptr gb) V V isAgg140 (m:=F) (by simp) (hS.at (i:=1) rfl)) rfl<|J.b rfl<|J.q (qAB rfl rfl ent121 (Ct.useA [B,md] [F,m14] (A':=λx:X=> [B1 x,M1 x]) (new:=λx=> [N1 x]) (λF' hF=>hP F' (hF F (by simp))))) rfl ?_
 rintro x25 h25
 change J _ _ _ [B1 x25,M1 x25,_,_,N1 x25] _
 refine J.b V<|J.c hK6<|J.G 0 4 5 ?_
 refine J.k λK7 hK7=>J.g λK8 hK8=>J.b V<|J.f ((qAS V V V).no (h9)) V<|J.c hK8<|J.O 0 4 5 27 ?_
 refine J.a5 ?_
 refine J.W hK7<|J.A 5 ?_
 refine J.g λK9 hK9=>J.j 2 V<|J.c hK9<|J.A 2 ?_
 exact J.D<|J.Z hw0 V x25 V h25 [0,1,2,4] V (by decide)
theorem qPA{X:Type}(F B md:Hp)(gs gk gb nx:Nat)(hK:KF F)(seed:List UInt8)(kh:Nat)(hk:qGR F gk seed kh)(hsd:seed.length≤1048576)(h6:kh≤6)(hnx:nx<2^kh)(mg:List UInt8)(hm:mg.length≤1048576)(φ:X→Prop)(B1 M1 N1:X→Hp)(hP: ∀F':Hp,Le F F'→Ct prog 121 [Ptr gb,Str (qBL nx)] [B,md,F'] (λ_:X=>I (0)) φ (λx=> [B1 x,M1 x,F',N1 x])):Ct prog 61 [Ptr gs,Str mg] [blk gs [Ptr gk,Ptr gb,I ((nx:Nat):Int)] 216,B,md,F] (λx:X×((Option Addr×Nat×Hp)×(Option Addr×Nat×Hp))=> .tuple #[.agg #[I ((nx:Nat):Int),.slice x.2.1.1 (sgC seed nx mg).length x.2.1.2.1,.slice x.2.2.1 (sgP seed kh nx).length x.2.2.2.1],I ((0:Nat):Int)]) (λx=>φ x.1∧Row x.2.1.2.2 9 1 x.2.1.1 (sgC seed nx mg).length x.2.1.2.1 (qAH (sgC seed nx mg))∧Row x.2.2.2.2 9 1 x.2.2.1 (sgP seed kh nx).length x.2.2.2.1 (qAH (sgP seed kh nx))) (λx=> [blk gs [Ptr gk,Ptr gb,I ((nx+1:Nat):Int)] 216,B1 x.1,M1 x.1,F,N1 x.1,x.2.1.2.2,x.2.2.2.2]):=by
 have hp64:=Xm.pow_le kh h6
 obtain ⟨pk,hpk⟩: ∃pk,pk=2^kh:=⟨_,rfl⟩
 rw [←hpk] at hp64 hnx
 refine Ct.walk func61 rfl ntmps61 rfl (λw0 hw0=>?_)
 change J _ [(0,_),(1,_)] _ _ _
 refine J.g λK1 hK1=>J.q (qAO (l:= [I 0,.slice none 0 0,.slice none 0 0]) V qLK V) V λg4 _=>?_
 change J _ _ _ [blk gs [Ptr gk,Ptr gb,I ((nx:Nat):Int)] 216,B,md,F,blk g4 [I 0,.slice none 0 0,.slice none 0 0] 50] _
 refine J.b V<|J.c hK1<|J.G 0 1 4 ?_
 refine J.k λK2 hK2=>J.a1<|J.g λK3 hK3=>J.b V<|J.f (qA1 qLh V V V) V<|J.b V<|J.c hK3<|J.O 0 1 4 7 ?_
 refine J.a5 ?_
 refine J.k λK4 hK4=>J.b7 [blk gs [Ptr gk,Ptr gb,I ((nx:Nat):Int)] 216,F] [] (.y 0 (.y 1 (.y 2 (.y 3 (.y 4 (.y 5 (.y 6 (.y 7 (.e 8 (.y 9 (.y 10 .nil))))))))))) Tryz.wide (by decide+kernel) (by simp) ?_
 refine J.L ?_
 refine J.p V (qAC V V) V V<|J.p V (qAA (j:=2) V V qB4 V z3_ V) V V<|J.p V (qAD 0 (v:=I ((nx:Nat):Int)) V V V b3_ V) V V<|J.L ?_
 refine J.p V (qAC V V) V V<|J.p V (qAA (j:=0) V V qB4 V sizeOf105 V) V V<|J.p V (qAD 0 (v:=Ptr gk) V V V isAgg105 V) V V<|J.b2 V (qAB V V ent89 (Ct.use0 (λF' hF=>by have:=qDa F' gk seed kh (hk.mono (hF F (by simp)));rw [←hpk] at this;exact this))) rfl (by simp) λg20 _=>J.p rfl ((qA9 rfl rfl rfl).no (by omega)) rfl rfl<|J.c3 ?_
 refine J.b3<|J.u (J.M hK4 ?_)
 refine J.O 0 1 4 11 ?_
 refine J.a5 ?_
 refine J.c0<|J.b0<|J.u (J.M hK2 ?_)
 refine J.G 0 1 4 ?_
 refine J.k λK5 hK5=>J.k λK6 hK6=>J.c9 [1,2,0,3,4] [B,md,blk gs [Ptr gk,Ptr gb,I ((nx:Nat):Int)] 216,F,blk g4 [I 0,.slice none 0 0,.slice none 0 0] 50] V (by decide)<|J.H<|J.b V<|J.q (qAB V V ent122 (Ct.useA [B,md] [blk gs [Ptr gk,Ptr gb,I ((nx:Nat):Int)] 216,F,blk g4 [I 0,.slice none 0 0,.slice none 0 0] 50] (A':=λx:X=> [B1 x,M1 x]) (new:=λx=> [N1 x]) (λF' hF=>qEm F' B md gs gk gb nx (qAP.blk0.mono (hF (blk gs [Ptr gk,Ptr gb,I ((nx:Nat):Int)] 216) (by simp))) (by omega) 0 (by decide) φ B1 M1 N1 (λF2 h2=>hP F2 ((hF F (by simp)).trans h2))))) rfl ?_
 rintro x24 h24
 change J _ _ _ [B1 x24,M1 x24,blk gs [Ptr gk,Ptr gb,I ((nx:Nat):Int)] 216,F,blk g4 [I 0,.slice none 0 0,.slice none 0 0] 50,N1 x24] _
 refine J.b V<|J.c hK6<|J.O 0 1 4 6 ?_
 refine J.g λK7 hK7=>J.b V<|J.f ((qAU V V V).no (by decide)) V<|J.c hK7<|J.a0 0 1 4 6 26 ?_
 refine J.a5 ?_
 refine J.W hK5<|J.G 0 1 4 ?_
 refine J.g λK8 hK8=>J.b V<|J.f (qAC V V) V<|J.a2 2 qB4 z3_ V V V V V<|J.f (qAD 2 (v:=I ((nx:Nat):Int)) V V V b3_ V) V<|J.f ((qAQ V V V (by omega)).nat (nx+1) (by omega)) V<|J.f (qAC V V) V<|J.a2 2 qB4 z3_ V V V V V<|J.b1 (qAV (i:=2) (l:= [Ptr gk,Ptr gb,I ((nx:Nat):Int)]) (vs:= [I ((nx+1:Nat):Int)]) V V V V V z3_ V (by simp)) rfl rfl λ_ _=>?_
 change J _ _ _ [_,_,blk gs [Ptr gk,Ptr gb,I ((nx+1:Nat):Int)] 216,_,_,_] _
 refine J.c hK8<|J.G 0 1 4 ?_
 refine J.k λK9 hK9=>J.b7 [blk gs [Ptr gk,Ptr gb,I ((nx+1:Nat):Int)] 216] [13,14] (.y 0 (.y 1 (.y 2 (.y 3 (.y 4 (.y 5 (.y 6 (.y 7 (.y 8 (.y 9 (.e 10 (.y 11 (.y 12 (.e 13 (.e 14 .nil))))))))))))))) Tryz.wide (by decide+kernel) (by simp) ?_
 refine J.L ?_
 refine J.p V (qAC V V) V V<|J.p V (qAA (j:=0) V V qB4 V sizeOf105 V) V V<|J.p V (qAD 0 (v:=Ptr gk) V V V isAgg105 V) V V<|J.L ?_
 refine J.p V (qAC V V) V V<|J.p V (qAA (j:=2) V V qB4 V z3_ V) V V<|J.p V (qAD 0 (v:=I ((nx+1:Nat):Int)) V V V b3_ V) V V<|J.p V ((qAn V V V (by omega)).nat (nx) (by omega)) V V<|J.L ?_
 refine J.b2 V (qAB V V ent45 (Ct.use (new:=λx:(Option Addr×Nat×Hp)×(Option Addr×Nat×Hp)=> [x.1.2.2,x.2.2.2]) (λF' hF=>qIB F' (hK.mo hF) gk seed kh (hk.mono (hF F (by simp))) (by first|assumption|decide) (by first|assumption|decide) nx (by rw [←hpk];exact hnx) mg (by omega)))) rfl (by simp) ?_
 rintro⟨⟨A46,c46,m46⟩,⟨B46,d46,n46⟩⟩ ⟨h46,k46⟩
 change J _ ((46,.tuple #[.agg #[I ((nx:Nat):Int),.slice A46 (sgC seed nx mg).length c46,.slice B46 (sgP seed kh nx).length d46],I 0])::_) _ [_,_,_,_,_,_,m46,n46] _
 refine J.d3 (.agg #[I ((nx:Nat):Int),.slice A46 ((sgC seed nx mg).length) c46,.slice B46 ((sgP seed kh nx).length) d46]) ?_
 refine J.d3 (I ((0:Nat):Int)) ?_
 refine J.d2 V (qAG (i:=4) (l:= [I 0,.slice none 0 0,.slice none 0 0]) (vs:= [I ((nx:Nat):Int),.slice A46 ((sgC seed nx mg).length) c46,.slice B46 ((sgP seed kh nx).length) d46]) V V V V V qE5 V V) V V V λ_ _=>?_
 change J _ _ _ [_,_,_,_,blk g4 [I ((nx:Nat):Int),.slice A46 ((sgC seed nx mg).length) c46,.slice B46 ((sgP seed kh nx).length) d46] 50,_,_,_] _
 refine J.e5 V (YOp.eop (qAy V V)) V V V V ?_
 intro _ _
 refine J.b3<|J.u (J.M hK9 ?_)
 refine J.E 4 5 ?_
 exact J.D<|J.b4 hw0 (λ_ _ h=>h) (rv2 V (RV.blkA 4 V V isAgg50 qE5) V) (qAj (x24,((A46,c46,m46),(B46,d46,n46))) V ⟨h24,h46,k46⟩ [2,0,1,3,5,6,7] V (by decide))
theorem qJf(F:Hp)(gs gk gb nx:Nat)(hS:qAP F ⟨gs,0,none⟩ [Ptr gk,Ptr gb,I ((nx:Nat):Int)])(seed:List UInt8)(kh:Nat)(hk:qGR F gk seed kh)(hsd:seed.length≤1048576)(h6:kh≤6)(hnx:2^kh≤nx)(mg:List UInt8):Ct prog 61 [Ptr gs,Str (mg)] [F] (λ_:Unit=> .tuple #[.agg #[I ((0:Nat):Int),.slice none 0 0,.slice none 0 0],I ((11:Nat):Int)]) (λ_=>True) (λ_=> [F]):=by
 obtain ⟨pk,hpk⟩: ∃pk,pk=2^kh:=⟨_,rfl⟩
 rw [←hpk] at hnx
 refine Ct.walk func61 rfl ntmps61 rfl (λw0 hw0=>?_)
 change J _ [(0,_),(1,_)] _ _ _
 refine J.g λK1 hK1=>J.q (qAO (l:= [I 0,.slice none 0 0,.slice none 0 0]) V qLK V) V λg4 _=>?_
 change J _ _ _ [F,blk g4 [I 0,.slice none 0 0,.slice none 0 0] 50] _
 refine J.b V<|J.c hK1<|J.G 0 1 4 ?_
 refine J.k λK2 hK2=>J.a1<|J.g λK3 hK3=>J.b V<|J.f ((qA1 qLh V V V).as (v':= .bool false) V) V<|J.b V<|J.c hK3<|J.O 0 1 4 7 ?_
 refine J.a5 ?_
 refine J.k λK4 hK4=>J.b7 [F] [] (.y 0 (.y 1 (.y 2 (.y 3 (.y 4 (.y 5 (.y 6 (.y 7 (.e 8 (.y 9 (.y 10 .nil))))))))))) Tryz.wide (by decide+kernel) (by simp) ?_
 refine J.L ?_
 refine J.p V (qAC V V) V V<|J.p V (qAA (j:=2) V V qB4 V z3_ V) V V<|J.p V (qAL (v:=I ((nx:Nat):Int)) V V b3_ (m:=F) (by simp) (hS.at (i:=2) rfl)) rfl rfl<|J.L ?_
 refine J.p V (qAC V V) V V<|J.p V (qAA (j:=0) V V qB4 V sizeOf105 V) V V<|J.p V (qAL (v:=Ptr gk) V V isAgg105 (m:=F) (by simp) (hS.at (i:=0) rfl)) rfl rfl<|J.b2 rfl (qAB rfl rfl ent89 (Ct.use0 (λF' hF=>by have:=qDa F' gk seed kh (hk.mono (hF F (by simp)));rw [←hpk] at this;exact this))) rfl (by simp) λg20 _=>J.p rfl ((qA9 rfl rfl rfl).yes (by omega)) rfl rfl<|J.c3 ?_
 refine J.b3<|J.u (J.M hK4 ?_)
 refine J.O 0 1 4 11 ?_
 refine J.c7 ?_
 refine J.g λK5 hK5=>J.f (qAK (l:= []) (vs:= []) (places:= [(0,1),(1,1),(2,1)]) (r:= [I 0,.slice none 0 0,.slice none 0 0]) V V V qLe qLK (λ_=>by kernel_rfl) V) V<|J.b1 (qAG (i:=1) (l:= [I 0,.slice none 0 0,.slice none 0 0]) (vs:= [I 0,.slice none 0 0,.slice none 0 0]) V V V V V qE5 V V) V V λ_ _=>?_
 change J _ _ _ [_,_] _
 refine J.b V<|J.c hK5<|J.E 4 5 ?_
 exact J.D<|J.b6<|J.a7<|J.b4 hw0 (λ_ _ h=>h) (rv2 V (RV.blkA 1 V V isAgg50 qE5) V) (qAj () V trivial [0] V (by decide))
theorem qPC(F:Hp)(gs gk gb nx:Nat)(hS:qAP F ⟨gs,0,none⟩ [Ptr gk,Ptr gb,I ((nx:Nat):Int)]):Ct prog 62 [Ptr gs] [F] (λ_:Unit=>I ((nx:Nat):Int)) (λ_=>True) (λ_=> [F]):=by
 refine Ct.walk func62 rfl ntmps62 rfl (λw0 hw0=>?_)
 change J _ [(0,_)] _ _ _
 refine J.g λK1 hK1=>J.b V<|J.c hK1<|J.A 0 ?_
 refine J.k λK2 hK2=>J.g λK3 hK3=>J.b V<|J.f ((qA1 qLh V V V).as (v':= .bool false) V) V<|J.c hK3<|J.E 0 4 ?_
 refine J.a5 ?_
 refine J.W hK2<|J.A 0 ?_
 refine J.g λK4 hK4=>J.b V<|J.f (qAC V V) V<|J.a2 2 qB4 z3_ V V V V V<|J.f (qAL (v:=I ((nx:Nat):Int)) V V b3_ (m:=F) (by simp) (hS.at (i:=2) rfl)) rfl<|J.b rfl<|J.c hK4<|J.A 2 ?_
 exact J.D<|J.Z hw0 V () V trivial [0] V (by decide)
theorem qJg(F:Hp)(gs gk gb nx:Nat)(hS:qAP F ⟨gs,0,none⟩ [Ptr gk,Ptr gb,I ((nx:Nat):Int)])(seed:List UInt8)(kh:Nat)(hk:qGR F gk seed kh)(hsd:seed.length≤1048576)(h6:kh≤6):Ct prog 54 [Ptr gs] [F] (λ_:Unit=> .agg #[Str (Wo.opn (seed)),Str (Xm.root (seed) (kh)),I ((kh:Nat):Int)]) (λ_=>True) (λ_=> [F]):=by
 refine Ct.walk func54 rfl ntmps54 rfl (λw0 hw0=>?_)
 change J _ [(0,_)] _ _ _
 refine J.g λK1 hK1=>J.q (qAO (l:= [Str [],Str [],I 0]) V zeroValue54 V) V λg2 _=>?_
 change J _ _ _ [F,blk g2 [Str [],Str [],I 0] 54] _
 refine J.c hK1<|J.E 0 2 ?_
 refine J.k λK2 hK2=>J.g λK3 hK3=>J.b V<|J.f ((qA1 qLh V V V).as (v':= .bool false) V) V<|J.c hK3<|J.G 0 2 4 ?_
 refine J.a5 ?_
 refine J.W hK2<|J.E 0 2 ?_
 refine J.g λK4 hK4=>J.b V<|J.f (qAC V V) V<|J.a2 0 qB4 sizeOf105 V V V V V<|J.f (qAL (v:=Ptr gk) V V isAgg105 (m:=F) (by simp) (hS.at (i:=0) rfl)) rfl<|J.q (qAB rfl rfl ent35 (Ct.use0 (λF' hF=>qO1 F' gk seed kh (hk.mono (hF F (by simp)))))) rfl λg10 _=>J.b1 (qAG (i:=1) (l:= [Str [],Str [],I 0]) (vs:= [Str (Wo.opn (seed)),Str (Xm.root (seed) (kh)),I ((kh:Nat):Int)]) rfl rfl rfl rfl rfl qMY rfl rfl) rfl rfl λ_ _=>?_
 change J _ _ _ [_,blk g2 [Str (Wo.opn (seed)),Str (Xm.root (seed) (kh)),I ((kh:Nat):Int)] 54] _
 refine J.c hK4<|J.A 2 ?_
 exact J.D<|J.b4 hw0 (λ_ _ h=>h) (rv1 V (RV.blkA 1 V V isAgg54 qMY)) (qAj () V trivial [0] V (by decide))
end Go.Proofs.YtfldiegfenndjaaGreatDoor
namespace Go.Proofs.YtfldiegfenndjaaGreatDoor
set_option maxRecDepth 100000
set_option maxHeartbeats 1000000
namespace SN
def qBE{α:Type}(n:Nat)(g:Nat→α):α:=Nat.rec (g 0) (λm _=>g (Nat.succ m)) n
theorem qBU{α:Type}(n:Nat)(g:Nat→α):qBE n g=g n:=by cases n<;>rfl
noncomputable def forceL{α:Type}(l:List Nat):(List Nat→α)→α:=List.rec (λg=>g []) (λa _ ih g=>qBE a λx=>ih λr=>g (x::r)) l
theorem qCq{α:Type}: ∀(l:List Nat) (g:List Nat→α),forceL l g=g l
 | [],_=>rfl
 |a::l,g=>by
  show qBE a (λx=>forceL l λr=>g (x::r))=g (a::l)
  rw [qBU,qCq l]
def rot(x r q:Nat):Nat:=x/r+x%r*q
noncomputable def sch(n:Nat):Nat→Nat→Nat→Nat→Nat→Nat→Nat→Nat→Nat→Nat→Nat→Nat→Nat→Nat→Nat→Nat→List Nat:=
 Nat.rec (λa b c d e f g h i j k l m n o p=> [a,b,c,d,e,f,g,h,i,j,k,l,m,n,o,p])
  (λ_ ih a b c d e f g h i j k l m n o p=>a::qBE ((a+Nat.xor (Nat.xor (rot b 128 33554432) (rot b 262144 16384)) (b/8)+j+Nat.xor (Nat.xor (rot o 131072 32768) (rot o 524288 8192)) (o/1024))%4294967296) λx=>ih b c d e f g h i j k l m n o p x) n
noncomputable def rds(kw:List Nat):List Nat→Nat→Nat→Nat→Nat→Nat→Nat→Nat→Nat→List Nat:=
 List.rec (λ_ a b c d e f g h=> [a,b,c,d,e,f,g,h])
  (λk _ ih ws a b c d e f g h=>List.rec [] (λw ws _=>
   qBE ((h+Nat.xor (Nat.xor (rot e 64 67108864) (rot e 2048 2097152)) (rot e 33554432 128)+Nat.xor (Nat.land e f) (Nat.land (4294967295-e) g)+k+w)%4294967296) λt1=>
   qBE ((t1+(Nat.xor (Nat.xor (rot a 4 1073741824) (rot a 8192 524288)) (rot a 4194304 1024)+Nat.xor (Nat.xor (Nat.land a b) (Nat.land a c)) (Nat.land b c)))%4294967296) λx=>
   qBE ((d+t1)%4294967296) λy=>ih ws x a b c y e f g) ws) kw
theorem qPP(k w:Nat)(ks ws:List Nat)(a b c d e f g h:Nat):rds (k::ks) (w::ws) a b c d e f g h=
      qBE ((h+Nat.xor (Nat.xor (rot e 64 67108864) (rot e 2048 2097152)) (rot e 33554432 128)+Nat.xor (Nat.land e f) (Nat.land (4294967295-e) g)+k+w)%4294967296) λt1=>
      qBE ((t1+(Nat.xor (Nat.xor (rot a 4 1073741824) (rot a 8192 524288)) (rot a 4194304 1024)+Nat.xor (Nat.xor (Nat.land a b) (Nat.land a c)) (Nat.land b c)))%4294967296) λx=>
      qBE ((d+t1)%4294967296) λy=>rds ks ws x a b c y e f g:=rfl
theorem qPI(n' a b c d e f g h i j k l m n o p:Nat):sch (n'+1) a b c d e f g h i j k l m n o p=a::qBE ((a+Nat.xor (Nat.xor (rot b 128 33554432) (rot b 262144 16384)) (b/8)+j+Nat.xor (Nat.xor (rot o 131072 32768) (rot o 524288 8192)) (o/1024))%4294967296) λx=>sch n' b c d e f g h i j k l m n o p x:=rfl
theorem qR5(ws:List Nat)(a b c d e f g h:Nat):rds [] ws a b c d e f g h= [a,b,c,d,e,f,g,h]:=rfl
theorem qPH(a b c d e f g h i j k l m n o p:Nat):sch 0 a b c d e f g h i j k l m n o p= [a,b,c,d,e,f,g,h,i,j,k,l,m,n,o,p]:=rfl
attribute [local irreducible] rds sch
theorem qDn(x:UInt32)(r:Nat)(h1:1≤r)(h2:r<32):rot x.toNat (2^r) (4294967296/2^r)=(Sha.rotr x r).toNat:=(R3.rotr_nat x r h1 h2).symm
theorem qCk(a b:UInt32):Nat.xor a.toNat b.toNat=(a^^^b).toNat:=(UInt32.toNat_xor a b).symm
theorem qJJ(a b:UInt32):Nat.land a.toNat b.toNat=(a&&&b).toNat:=(UInt32.toNat_and a b).symm
theorem qTv(a:UInt32):4294967295-a.toNat=(~~~ a).toNat:=by simp
theorem qPR(k w:UInt32)(ks ws:List Nat)(s:Sha.St8):rds (k.toNat::ks) (w.toNat::ws) s.a.toNat s.b.toNat s.c.toNat s.d.toNat s.e.toNat s.f.toNat s.g.toNat s.h.toNat=
    rds ks ws (Sha.rnd w k s).a.toNat (Sha.rnd w k s).b.toNat (Sha.rnd w k s).c.toNat (Sha.rnd w k s).d.toNat (Sha.rnd w k s).e.toNat (Sha.rnd w k s).f.toNat (Sha.rnd w k s).g.toNat (Sha.rnd w k s).h.toNat:=by
  obtain ⟨S1,hS1⟩: ∃x,x=Sha.rotr s.e 6^^^Sha.rotr s.e 11^^^Sha.rotr s.e 25:=⟨_,rfl⟩
  obtain ⟨CH,hCH⟩: ∃x,x=s.e&&&s.f^^^ ~~~ s.e&&&s.g:=⟨_,rfl⟩
  obtain ⟨T1,hT1⟩: ∃x,x=s.h+S1+CH+k+w:=⟨_,rfl⟩
  obtain ⟨S0,hS0⟩: ∃x,x=Sha.rotr s.a 2^^^Sha.rotr s.a 13^^^Sha.rotr s.a 22:=⟨_,rfl⟩
  obtain ⟨MJ,hMJ⟩: ∃x,x=s.a&&&s.b^^^s.a&&&s.c^^^s.b&&&s.c:=⟨_,rfl⟩
  have hrn:Sha.rnd w k s=⟨T1+(S0+MJ),s.a,s.b,s.c,s.d+T1,s.e,s.f,s.g⟩:=by rw [hT1,hS0,hMJ,hS1,hCH];rfl
  have e1:Nat.xor (Nat.xor (rot s.e.toNat 64 67108864) (rot s.e.toNat 2048 2097152)) (rot s.e.toNat 33554432 128)=S1.toNat:=by
    rw [show rot s.e.toNat 64 67108864=_ from qDn s.e 6 (by decide) (by decide),show rot s.e.toNat 2048 2097152=_ from qDn s.e 11 (by decide) (by decide),show rot s.e.toNat 33554432 128=_ from qDn s.e 25 (by decide) (by decide),qCk,qCk,←hS1]
  have e2:Nat.xor (Nat.land s.e.toNat s.f.toNat) (Nat.land (4294967295-s.e.toNat) s.g.toNat)=CH.toNat:=by rw [qTv,qJJ,qJJ,qCk,←hCH]
  have e3:Nat.xor (Nat.xor (rot s.a.toNat 4 1073741824) (rot s.a.toNat 8192 524288)) (rot s.a.toNat 4194304 1024)=S0.toNat:=by
    rw [show rot s.a.toNat 4 1073741824=_ from qDn s.a 2 (by decide) (by decide),show rot s.a.toNat 8192 524288=_ from qDn s.a 13 (by decide) (by decide),show rot s.a.toNat 4194304 1024=_ from qDn s.a 22 (by decide) (by decide),qCk,qCk,←hS0]
  have e4:Nat.xor (Nat.xor (Nat.land s.a.toNat s.b.toNat) (Nat.land s.a.toNat s.c.toNat)) (Nat.land s.b.toNat s.c.toNat)=MJ.toNat:=by rw [qJJ,qJJ,qJJ,qCk,qCk,←hMJ]
  have t1:(s.h.toNat+S1.toNat+CH.toNat+k.toNat+w.toNat)%4294967296=T1.toNat:=by rw [hT1];simp only [UInt32.toNat_add];omega
  have t2:(T1.toNat+(S0.toNat+MJ.toNat))%4294967296=(T1+(S0+MJ)).toNat:=by simp only [UInt32.toNat_add];omega
  have t3:(s.d.toNat+T1.toNat)%4294967296=(s.d+T1).toNat:=by simp only [UInt32.toNat_add]
  rw [hrn,qPP,qBU,e1,e2,t1,qBU,e3,e4,t2,qBU,t3]
def qSu(ks ws:List UInt32)(s:Sha.St8):Sha.St8:=(ks.zip ws).foldl (λs kw=>Sha.rnd kw.2 kw.1 s) s
theorem qI0(k w:UInt32)(ks ws:List UInt32)(s:Sha.St8):qSu (k::ks) (w::ws) s=qSu ks ws (Sha.rnd w k s):=by unfold qSu;rw [List.zip_cons_cons,List.foldl_cons]
theorem qLG(ws:List UInt32)(s:Sha.St8):qSu [] ws s=s:=by unfold qSu;rw [List.zip_nil_left,List.foldl_nil]
theorem qPQ(ks:List UInt32): ∀(ws:List UInt32) (s:Sha.St8),ks.length=ws.length→rds (ks.map UInt32.toNat) (ws.map UInt32.toNat) s.a.toNat s.b.toNat s.c.toNat s.d.toNat s.e.toNat s.f.toNat s.g.toNat s.h.toNat=(qSu ks ws s).list.map UInt32.toNat:=by
 induction ks with
 |nil=>
  intro ws s h
  cases ws with
  |nil=>rw [List.map_nil,qR5,qLG,Sha.St8.list];rfl
  |cons _ _=>cases h
 |cons k ks ih=>
  intro ws s h
  cases ws with
  |nil=>cases h
  |cons w ws=>
   rw [List.map_cons,List.map_cons,qPR k w (ks.map UInt32.toNat) (ws.map UInt32.toNat) s,qI0,ih ws (Sha.rnd w k s) (by simpa using h)]
theorem qIz(ws:List UInt32)(s:Sha.St8)(hw:ws.length=64): ∀m i,i+m=64→qSu (Sha.K.drop i) (ws.drop i) (Sha.rnds ws s i)=Sha.rnds ws s 64
 |0,i,h=>by
  obtain rfl:i=64:=by omega
  rw [List.drop_of_length_le (l:=ws) (by omega),List.drop_of_length_le (l:=Sha.K) (Nat.le_refl 64),qLG]
 |m+1,i,h=>by
  have h1:i<Sha.K.length:=by show i<64;omega
  have h2:i<ws.length:=by omega
  rw [List.drop_eq_getElem_cons h1,List.drop_eq_getElem_cons h2,qI0]
  have e:Sha.rnd ws[i] Sha.K[i] (Sha.rnds ws s i)=Sha.rnds ws s (i+1):=by
   rw [Sha.rnds,List.getD_eq_getElem?_getD,List.getD_eq_getElem?_getD,List.getElem?_eq_getElem h1,List.getElem?_eq_getElem h2];rfl
  rw [e]
  exact qIz ws s hw m (i+1) (by omega)
theorem qHB(l:List UInt32): ∀n,Sha.exts (n+1) l=Sha.exts n (Sha.ext l)
 |0=>rfl
 |n+1=>by rw [Sha.exts,qHB l n];rfl
theorem qFX(p l:List UInt32)(k:Nat):(p++l).getD (p.length+k) 0=l.getD k 0:=by
 rw [List.getD_eq_getElem?_getD,List.getElem?_append_right (by omega),Nat.add_sub_cancel_left,←List.getD_eq_getElem?_getD]
theorem qTZ(b:UInt32):Nat.xor (Nat.xor (rot b.toNat 128 33554432) (rot b.toNat 262144 16384)) (b.toNat/8)=(Sha.sg0 b).toNat:=by
 have h1:rot b.toNat 128 33554432=(Sha.rotr b 7).toNat:=qDn b 7 (by decide) (by decide)
 have h2:rot b.toNat 262144 16384=(Sha.rotr b 18).toNat:=qDn b 18 (by decide) (by decide)
 have h3:b.toNat/8=(Sha.shr b 3).toNat:=(R3.shr_nat b 3 (by decide)).symm
 rw [h1,h2,h3,qCk,qCk];unfold Sha.sg0;rfl
theorem qTY(b:UInt32):Nat.xor (Nat.xor (rot b.toNat 131072 32768) (rot b.toNat 524288 8192)) (b.toNat/1024)=(Sha.sg1 b).toNat:=by
 have h1:rot b.toNat 131072 32768=(Sha.rotr b 17).toNat:=qDn b 17 (by decide) (by decide)
 have h2:rot b.toNat 524288 8192=(Sha.rotr b 19).toNat:=qDn b 19 (by decide) (by decide)
 have h3:b.toNat/1024=(Sha.shr b 10).toNat:=(R3.shr_nat b 10 (by decide)).symm
 rw [h1,h2,h3,qCk,qCk];unfold Sha.sg1;rfl
theorem qUD(q:List UInt32)(a b c d e f g h i j k l m n' o p:UInt32):Sha.ext (q++ [a,b,c,d,e,f,g,h,i,j,k,l,m,n',o,p])=(q++ [a])++ [b,c,d,e,f,g,h,i,j,k,l,m,n',o,p,a+Sha.sg0 b+j+Sha.sg1 o]:=by
 have hlen:(q++ [a,b,c,d,e,f,g,h,i,j,k,l,m,n',o,p]).length=q.length+16:=by rw [List.length_append];rfl
 unfold Sha.ext
 have g0:(q++ [a,b,c,d,e,f,g,h,i,j,k,l,m,n',o,p]).getD (q.length+0) 0=a:=qFX q [a,b,c,d,e,f,g,h,i,j,k,l,m,n',o,p] 0
 have g1:(q++ [a,b,c,d,e,f,g,h,i,j,k,l,m,n',o,p]).getD (q.length+1) 0=b:=qFX q [a,b,c,d,e,f,g,h,i,j,k,l,m,n',o,p] 1
 have g9:(q++ [a,b,c,d,e,f,g,h,i,j,k,l,m,n',o,p]).getD (q.length+9) 0=j:=qFX q [a,b,c,d,e,f,g,h,i,j,k,l,m,n',o,p] 9
 have g14:(q++ [a,b,c,d,e,f,g,h,i,j,k,l,m,n',o,p]).getD (q.length+14) 0=o:=qFX q [a,b,c,d,e,f,g,h,i,j,k,l,m,n',o,p] 14
 rw [hlen,show q.length+16-16=q.length+0 by omega,show q.length+16-15=q.length+1 by omega,show q.length+16-7=q.length+9 by omega,show q.length+16-2=q.length+14 by omega,g0,g1,g9,g14]
 generalize a+Sha.sg0 b+j+Sha.sg1 o=x
 simp only [List.append_assoc,List.cons_append,List.nil_append]
theorem qRp(a b j o:UInt32):(a.toNat+(Sha.sg0 b).toNat+j.toNat+(Sha.sg1 o).toNat)%4294967296=(a+Sha.sg0 b+j+Sha.sg1 o).toNat:=by
 generalize Sha.sg0 b=x
 generalize Sha.sg1 o=y
 simp only [UInt32.toNat_add];omega
theorem qPJ(n:Nat): ∀(q:List UInt32) (a b c d e f g h i j k l m n' o p:UInt32),(Sha.exts n (q++ [a,b,c,d,e,f,g,h,i,j,k,l,m,n',o,p])).map UInt32.toNat=q.map UInt32.toNat++sch n a.toNat b.toNat c.toNat d.toNat e.toNat f.toNat g.toNat h.toNat i.toNat j.toNat k.toNat l.toNat m.toNat n'.toNat o.toNat p.toNat:=by
 induction n with
 |zero=>intro q a b c d e f g h i j k l m n' o p;rw [Sha.exts,List.map_append,qPH];rfl
 |succ n ih=>
  intro q a b c d e f g h i j k l m n' o p
  rw [qHB,qUD,ih (q++ [a]),qPI,qBU,qTZ,qTY,qRp]
  generalize sch n b.toNat c.toNat d.toNat e.toNat f.toNat g.toNat h.toNat i.toNat j.toNat k.toNat l.toNat m.toNat n'.toNat o.toNat p.toNat _=z
  simp only [List.map_append,List.append_assoc,List.map_cons,List.map_nil,List.cons_append,List.nil_append]
def w4(l:List Nat):Nat:=((l.getD 0 0*256+l.getD 1 0)*256+l.getD 2 0)*256+l.getD 3 0
theorem qP9(l:List UInt8)(i:Nat):(l.map UInt8.toNat).getD i 0=(l.getD i 0).toNat:=by
 rw [List.getD_eq_getElem?_getD,List.getD_eq_getElem?_getD,List.getElem?_map]
 cases l[i]?<;>rfl
theorem w4_eq(l:List UInt8)(i:Nat):w4 ((l.map UInt8.toNat).drop (4*i))=(Sha.word l i).toNat:=by
 have hg: ∀k,(((l.map UInt8.toNat).drop (4*i)).getD k 0)=(l.getD (4*i+k) 0).toNat:=λk=>by
  rw [List.getD_eq_getElem?_getD,List.getElem?_drop,←List.getD_eq_getElem?_getD,qP9]
 unfold w4 Sha.word
 rw [hg,hg,hg,hg,R3.be32_nat,Nat.add_zero]
 omega
noncomputable def mixN(ks:List Nat)(b:List Nat)(A B C D E F G H:Nat):List Nat:=
 qBE (w4 b) λa0=>qBE (w4 (b.drop 4)) λa1=>qBE (w4 (b.drop 8)) λa2=>qBE (w4 (b.drop 12)) λa3=>
 qBE (w4 (b.drop 16)) λa4=>qBE (w4 (b.drop 20)) λa5=>qBE (w4 (b.drop 24)) λa6=>qBE (w4 (b.drop 28)) λa7=>
 qBE (w4 (b.drop 32)) λa8=>qBE (w4 (b.drop 36)) λa9=>qBE (w4 (b.drop 40)) λa10=>qBE (w4 (b.drop 44)) λa11=>
 qBE (w4 (b.drop 48)) λa12=>qBE (w4 (b.drop 52)) λa13=>qBE (w4 (b.drop 56)) λa14=>qBE (w4 (b.drop 60)) λa15=>
 rds ks (sch 48 a0 a1 a2 a3 a4 a5 a6 a7 a8 a9 a10 a11 a12 a13 a14 a15) A B C D E F G H
def KN:List Nat:= [1116352408,1899447441,3049323471,3921009573,961987163,1508970993,2453635748,2870763221,3624381080,310598401,607225278,1426881987,1925078388,2162078206,2614888103,3248222580,3835390401,4022224774,264347078,604807628,770255983,1249150122,1555081692,1996064986,2554220882,2821834349,2952996808,3210313671,3336571891,3584528711,113926993,338241895,666307205,773529912,1294757372,1396182291,1695183700,1986661051,2177026350,2456956037,2730485921,2820302411,3259730800,3345764771,3516065817,3600352804,4094571909,275423344,430227734,506948616,659060556,883997877,958139571,1322822218,1537002063,1747873779,1955562222,2024104815,2227730452,2361852424,2428436474,2756734187,3204031479,3329325298]
theorem KN_eq:KN=Sha.K.map UInt32.toNat:=by decide+kernel
theorem qSf(b:List UInt8)(s:Sha.St8):mixN KN (b.map UInt8.toNat) s.a.toNat s.b.toNat s.c.toNat s.d.toNat s.e.toNat s.f.toNat s.g.toNat s.h.toNat=(Sha.rnds (Sha.sched b) s 64).list.map UInt32.toNat:=by
 have hw:=λi=>w4_eq b i
 have h0:=hw 0;have h1:=hw 1;have h2:=hw 2;have h3:=hw 3;have h4:=hw 4;have h5:=hw 5;have h6:=hw 6;have h7:=hw 7
 have h8:=hw 8;have h9:=hw 9;have h10:=hw 10;have h11:=hw 11;have h12:=hw 12;have h13:=hw 13;have h14:=hw 14;have h15:=hw 15
 simp only [Nat.reduceMul,Nat.mul_zero,List.drop_zero] at h0 h1 h2 h3 h4 h5 h6 h7 h8 h9 h10 h11 h12 h13 h14 h15
 unfold mixN
 simp only [qBU]
 rw [h0,h1,h2,h3,h4,h5,h6,h7,h8,h9,h10,h11,h12,h13,h14,h15]
 have hs:=qPJ 48 [] (Sha.word b 0) (Sha.word b 1) (Sha.word b 2) (Sha.word b 3) (Sha.word b 4) (Sha.word b 5) (Sha.word b 6) (Sha.word b 7) (Sha.word b 8) (Sha.word b 9) (Sha.word b 10) (Sha.word b 11) (Sha.word b 12) (Sha.word b 13) (Sha.word b 14) (Sha.word b 15)
 have hf: []++ [Sha.word b 0,Sha.word b 1,Sha.word b 2,Sha.word b 3,Sha.word b 4,Sha.word b 5,Sha.word b 6,Sha.word b 7,Sha.word b 8,Sha.word b 9,Sha.word b 10,Sha.word b 11,Sha.word b 12,Sha.word b 13,Sha.word b 14,Sha.word b 15]=Sha.firsts b 16:=rfl
 rw [hf,List.map_nil,List.nil_append] at hs
 rw [←hs,show Sha.exts 48 (Sha.firsts b 16)=Sha.sched b from rfl,KN_eq,qPQ _ _ _ (by rw [Sha.sched_length];rfl)]
 have:=qIz (Sha.sched b) s (Sha.sched_length b) 64 0 rfl
 rw [List.drop_zero,List.drop_zero] at this
 rw [show Sha.rnds (Sha.sched b) s 0=s from rfl] at this
 rw [this]
noncomputable def blocks(n:Nat):List Nat→Nat→Nat→Nat→Nat→Nat→Nat→Nat→Nat→List Nat:=
 Nat.rec (λ_ a b c d e f g h=> [a,b,c,d,e,f,g,h])
  (λ_ ih p a b c d e f g h=>forceL (mixN KN p a b c d e f g h) λr=>
   qBE ((a+r.getD 0 0)%4294967296) λa'=>qBE ((b+r.getD 1 0)%4294967296) λb'=>qBE ((c+r.getD 2 0)%4294967296) λc'=>qBE ((d+r.getD 3 0)%4294967296) λd'=>
   qBE ((e+r.getD 4 0)%4294967296) λe'=>qBE ((f+r.getD 5 0)%4294967296) λf'=>qBE ((g+r.getD 6 0)%4294967296) λg'=>qBE ((h+r.getD 7 0)%4294967296) λh'=>
   ih (p.drop 64) a' b' c' d' e' f' g' h') n
theorem qG0(s:Sha.St8)(p:List UInt8): ∀k,Sha.mixes s p (k+1)=Sha.mixes (Sha.mix s p) (p.drop 64) k
 |0=>by rw [Sha.mixes,Sha.mixes,Sha.mixes,Nat.mul_zero,List.drop_zero]
 |k+1=>by
  rw [Sha.mixes,qG0 s p k,Sha.mixes,List.drop_drop]
  congr 2
  omega
theorem qKG(n:Nat)(p:List Nat)(a b c d e f g h:Nat):blocks (n+1) p a b c d e f g h=forceL (mixN KN p a b c d e f g h) λr=>qBE ((a+r.getD 0 0)%4294967296) λa'=>qBE ((b+r.getD 1 0)%4294967296) λb'=>qBE ((c+r.getD 2 0)%4294967296) λc'=>qBE ((d+r.getD 3 0)%4294967296) λd'=>qBE ((e+r.getD 4 0)%4294967296) λe'=>qBE ((f+r.getD 5 0)%4294967296) λf'=>qBE ((g+r.getD 6 0)%4294967296) λg'=>qBE ((h+r.getD 7 0)%4294967296) λh'=>blocks n (p.drop 64) a' b' c' d' e' f' g' h':=rfl
theorem qKF(p:List Nat)(a b c d e f g h:Nat):blocks 0 p a b c d e f g h= [a,b,c,d,e,f,g,h]:=rfl
attribute [local irreducible] blocks mixN KN
theorem qCu(x y:UInt32):(x.toNat+y.toNat)%4294967296=(x+y).toNat:=by simp only [UInt32.toNat_add]
theorem g0(r:Sha.St8):(r.list.map UInt32.toNat).getD 0 0=r.a.toNat:=rfl
theorem f0(s r:Sha.St8):(s.add r).a=s.a+r.a:=rfl
theorem g1(r:Sha.St8):(r.list.map UInt32.toNat).getD 1 0=r.b.toNat:=rfl
theorem f1(s r:Sha.St8):(s.add r).b=s.b+r.b:=rfl
theorem g2(r:Sha.St8):(r.list.map UInt32.toNat).getD 2 0=r.c.toNat:=rfl
theorem f2(s r:Sha.St8):(s.add r).c=s.c+r.c:=rfl
theorem g3(r:Sha.St8):(r.list.map UInt32.toNat).getD 3 0=r.d.toNat:=rfl
theorem f3(s r:Sha.St8):(s.add r).d=s.d+r.d:=rfl
theorem g4(r:Sha.St8):(r.list.map UInt32.toNat).getD 4 0=r.e.toNat:=rfl
theorem f4(s r:Sha.St8):(s.add r).e=s.e+r.e:=rfl
theorem g5(r:Sha.St8):(r.list.map UInt32.toNat).getD 5 0=r.f.toNat:=rfl
theorem f5(s r:Sha.St8):(s.add r).f=s.f+r.f:=rfl
theorem g6(r:Sha.St8):(r.list.map UInt32.toNat).getD 6 0=r.g.toNat:=rfl
theorem f6(s r:Sha.St8):(s.add r).g=s.g+r.g:=rfl
theorem g7(r:Sha.St8):(r.list.map UInt32.toNat).getD 7 0=r.h.toNat:=rfl
theorem f7(s r:Sha.St8):(s.add r).h=s.h+r.h:=rfl
theorem qOc(n:Nat): ∀(p:List UInt8) (s:Sha.St8),blocks n (p.map UInt8.toNat) s.a.toNat s.b.toNat s.c.toNat s.d.toNat s.e.toNat s.f.toNat s.g.toNat s.h.toNat=(Sha.mixes s p n).list.map UInt32.toNat:=by
 induction n with
 |zero=>intro p s;rw [qKF,Sha.mixes];rfl
 |succ n ih=>
  intro p s
  have hm:=qSf p s
  generalize hr:Sha.rnds (Sha.sched p) s 64=r at hm
  have hmx:Sha.mix s p=s.add r:=by unfold Sha.mix;rw [hr]
  have hi:=ih (p.drop 64) (s.add r)
  rw [qG0,hmx,←hi,qKG,qCq,hm,qBU,qBU,qBU,qBU,qBU,qBU,qBU,qBU]
  have h0:(s.a.toNat+(r.list.map UInt32.toNat).getD 0 0)%4294967296=(s.add r).a.toNat:=by rw [g0,f0,qCu]
  have h1:(s.b.toNat+(r.list.map UInt32.toNat).getD 1 0)%4294967296=(s.add r).b.toNat:=by rw [g1,f1,qCu]
  have h2:(s.c.toNat+(r.list.map UInt32.toNat).getD 2 0)%4294967296=(s.add r).c.toNat:=by rw [g2,f2,qCu]
  have h3:(s.d.toNat+(r.list.map UInt32.toNat).getD 3 0)%4294967296=(s.add r).d.toNat:=by rw [g3,f3,qCu]
  have h4:(s.e.toNat+(r.list.map UInt32.toNat).getD 4 0)%4294967296=(s.add r).e.toNat:=by rw [g4,f4,qCu]
  have h5:(s.f.toNat+(r.list.map UInt32.toNat).getD 5 0)%4294967296=(s.add r).f.toNat:=by rw [g5,f5,qCu]
  have h6:(s.g.toNat+(r.list.map UInt32.toNat).getD 6 0)%4294967296=(s.add r).g.toNat:=by rw [g6,f6,qCu]
  have h7:(s.h.toNat+(r.list.map UInt32.toNat).getD 7 0)%4294967296=(s.add r).h.toNat:=by rw [g7,f7,qCu]
  rw [List.map_drop,h0,h1,h2,h3,h4,h5,h6,h7]
def qDt(x:Nat):List Nat:= [x/16777216%256,x/65536%256,x/256%256,x%256]
theorem qJF(x:Nat)(h:x<18446744073709551616):qDt x=(Sha.numB (UInt64.ofNat x) 4).map UInt8.toNat:=by
 rw [R3.four_nat x h]
 simp [qDt,UInt8.toNat_ofNat']
noncomputable def padN(l:List Nat):List Nat:=l++128::List.replicate ((119-l.length%64)%64) 0++(qDt (8*l.length/4294967296)++qDt (8*l.length))
theorem qSA(l:List UInt8)(h:l.length<1152921504606846976):padN (l.map UInt8.toNat)=(Sha.pad l).map UInt8.toNat:=by
 unfold padN Sha.pad
 simp only [List.map_append,List.length_map,List.map_replicate,List.map_cons,List.map_nil,List.append_assoc,List.cons_append,List.nil_append]
 have e:(8*UInt64.ofNat l.length).toNat=8*l.length:=by
  rw [UInt64.toNat_mul,UInt64.toNat_ofNat',Nat.mod_eq_of_lt (show l.length<2^64 by omega)]
  exact Nat.mod_eq_of_lt (by show 8*l.length<18446744073709551616;omega)
 have h8:(Sha.numB (8*UInt64.ofNat l.length) 8).map UInt8.toNat=qDt (8*l.length/4294967296)++qDt (8*l.length):=by
  unfold Sha.numB
  rw [e]
  simp [List.range_succ,R3.u8_of64,qDt,UInt8.toNat_ofNat',Nat.div_div_eq_div_mul]
 rw [h8]
 rfl
noncomputable def sumN(l:List Nat):List Nat:=forceL (padN l) λp=>(blocks (p.length/64) p 1779033703 3144134277 1013904242 2773480762 1359893119 2600822924 528734635 1541459225).flatMap qDt
theorem qRd(l:List UInt8)(h:l.length<1152921504606846976):sumN (l.map UInt8.toNat)=(Sha.sum l).map UInt8.toNat:=by
 unfold sumN
 rw [qCq,qSA l h,List.length_map]
 have hb:=qOc ((Sha.pad l).length/64) (Sha.pad l) Sha.init
 rw [show blocks ((Sha.pad l).length/64) ((Sha.pad l).map UInt8.toNat) 1779033703 3144134277 1013904242 2773480762 1359893119 2600822924 528734635 1541459225=_ from hb]
 unfold Sha.sum Sha.out
 generalize (Sha.mixes Sha.init (Sha.pad l) ((Sha.pad l).length/64)).list=L
 induction L with
 |nil=>rfl
 |cons x L ih=>
  rw [List.map_cons,List.flatMap_cons,List.flatMap_cons,List.map_append,ih,qJF _ (by have:=x.toNat_lt;omega)]
  congr 2
  rw [show x.toUInt64=UInt64.ofNat x.toNat from by apply UInt64.toNat_inj.1;simp]
noncomputable def tagN(tag:Nat)(ls:List (List Nat)):List Nat:=(sumN (tag::ls.flatMap λs=>qDt s.length++s)).take 16
theorem tagN_eq(tag:UInt8)(ls:List (List UInt8))(h:ls.flatten.length+4*ls.length<1152921504606846975):tagN tag.toNat (ls.map (List.map UInt8.toNat))=(Sha.tagged tag ls).map UInt8.toNat:=by
 unfold tagN Sha.tagged
 have e:tag.toNat::(ls.map (List.map UInt8.toNat)).flatMap (λs=>qDt s.length++s)=(Sha.tagB tag ls).map UInt8.toNat:=by
  unfold Sha.tagB
  simp only [List.map_append,List.map_cons,List.map_nil,List.cons_append,List.nil_append]
  congr 1
  induction ls with
  |nil=>rfl
  |cons a l ih=>
   simp only [List.flatten_cons,List.length_append,List.length_cons] at h
   rw [List.map_cons,List.flatMap_cons,List.flatMap_cons,List.map_append,List.map_append,List.length_map,ih (by omega),qJF _ (by omega)]
 rw [e,qRd _ (by rw [Sha.tagB_length];omega),List.map_take]
theorem of_toNat{a b:List UInt8}(h:a.map UInt8.toNat=b.map UInt8.toNat):a=b:=by
 induction a generalizing b with
 |nil=>cases b with
  |nil=>rfl
  |cons _ _=>cases h
 |cons x a ih=>cases b with
  |nil=>cases h
  |cons y b=>
   rw [List.map_cons,List.map_cons,List.cons.injEq] at h
   rw [UInt8.toNat_inj.1 h.1,ih h.2]
end SN
end Go.Proofs.YtfldiegfenndjaaGreatDoor
namespace Go.Proofs.YtfldiegfenndjaaGreatDoor
open Go Go.Fw Go.Proofs.Tryz
set_option maxRecDepth 100000
set_option maxHeartbeats 1000000
attribute [local irreducible] Prt.text qB7 qGU Sha.tagged
theorem qJa{d:Dk}{p:Nat}{t t':Nat→List UInt8}(h:t 0=t' 0):qBM d p t 1=qBM d p t' 1:=by
 have e: ∀t:Nat→List UInt8,qCH d p t 1=(d.write ((p+0:Nat):Int) (t 0),d.wErr ((p+0:Nat):Int) (t 0)):=λt=>qB1 rfl
 unfold qBM
 rw [e t,e t',h]
def sX0(first:Nat):Hlf:=⟨first,0,[],0⟩
theorem qOC{n at_ size:Nat}(hs:0<size)(h:at_+size≤n):hlf (Dk.new n) at_ size=⟨at_,0,[],0⟩:=
 qGC (qKh λt'=>qEJ (by rw [qCT hs,qKv rfl,qHk n _ (by omega)];exact qOz))
theorem qSr{n first size:Nat}(hs:0<size)(h:first+2*size≤n):hst (Dk.new n) first size 2=sX0 first:=by
 show(if _ then _ else _)=_
 rw [qOC hs (by omega),qOC hs (by omega),if_neg (by simp)];rfl
theorem qIH{d:Dk}(hok:d.ok)(ho:d.off=false)(ha:d.armed=false)(hw:d.wait= []){X:Hlf}{s:List UInt8}(hs:s.length≤39)(ht:X.t.toNat<2^(8*4))(hn:X.R.length<65536)(hp:X.at_+X.e<d.last.length):
    qAt d X s=({d with last:=d.last.set (X.at_+X.e) (T1 (qHo X.t) X.R.length s),wait:= []},0):=by
  unfold qAt
  rw [qAv hs,qJa (t':=λ_=>T1 (qHo X.t) X.R.length s) rfl]
  exact qOX (T:=T1 (qHo X.t) X.R.length s) ho ha hw (qLX s (qHn ht) hn) hp hok.l64
theorem qRl{d:Dk}(h:d.ok){p:Nat}{T:List UInt8}(hT:T.length=64):({d with last:=d.last.set p T,wait:= []}:Dk).ok:=by
  refine⟨⟨λs hs=>?_,(λw hw=>nomatch hw),?_,?_⟩,h.fz,h.fb⟩
  · rcases zf hs with hs|rfl
    · exact h.l64 s hs
    · exact hT
  · show 0<(d.last.set p T).length;rw [jm];exact h.n0
  · show(d.last.set p T).length≤1024;rw [jm];exact h.n1
theorem qLN{d:Dk}(hok:d.ok)(ho:d.off=false)(ha:d.armed=false)(hw:d.wait= []){X:Hlf}{s:List UInt8}(hs:s.length≤39)(ht:X.t.toNat<2^(8*4))(hn:X.R.length<65536)(hp:X.at_+X.e<d.last.length):
    (qAt d X s).2=0∧(qAt d X s).1.ok∧(qAt d X s).1.off=false∧(qAt d X s).1.armed=false∧(qAt d X s).1.wait= []∧(qAt d X s).1.last.length=d.last.length∧(qAt d X s).1.keep=d.keep:=by
  rw [qIH hok ho ha hw hs ht hn hp]
  exact⟨rfl,qRl hok (qLX s (qHn ht) hn),ho,ha,rfl,jm ..,rfl⟩
theorem qDD(nx:Nat):(qBL nx).length≤39:=by rw [qBi];decide
end Go.Proofs.YtfldiegfenndjaaGreatDoor
namespace Go.Proofs.YtfldiegfenndjaaGreatDoor
open Go Go.Fw Go.Proofs.Tryz
set_option maxRecDepth 100000
set_option maxHeartbeats 1000000
attribute [local irreducible] SN.tagN Sha.tagged
def tnO(k:Nat):UInt64:=if k<4 then 1 else 2
def nrO(k:Nat):Nat:=if k<4 then k else k-4
def txt(k:Nat):List UInt8:=T1 (tnO k) (nrO k) (qBL k)
theorem qQh(k:Nat):(tnO k).toNat<2^(8*4):=by
 unfold tnO;split<;>decide
theorem qQt{k:Nat}(h:k<8):nrO k<65536:=by
 unfold nrO;split<;>omega
theorem qDw{k:Nat}(h:k<8):(txt k).length=64:=qLX _ (qQh k) (qQt h)
def nmN:List (List Nat):= [[44,20,231,127,170,22,61,134],
 [224,16,39,99,61,14,43,72],
 [172,22,242,226,44,173,166,204],
 [182,36,52,204,176,119,179,253],
 [81,53,156,217,114,85,154,46],
 [230,94,114,251,59,235,117,45],
 [68,46,21,248,33,85,199,167],
 [136,157,185,214,25,101,183,171]]
def hdN:List (List Nat):= [[0,0,0,1,0,0,0,1,2,44,20,231,127,170,22,61,134,0,1],
 [0,0,0,1,0,1,0,1,2,224,16,39,99,61,14,43,72,0,2],
 [0,0,0,1,0,2,0,1,2,172,22,242,226,44,173,166,204,0,3],
 [0,0,0,1,0,3,0,1,2,182,36,52,204,176,119,179,253,0,4],
 [0,0,0,2,0,0,0,1,2,81,53,156,217,114,85,154,46,0,5],
 [0,0,0,2,0,1,0,1,2,230,94,114,251,59,235,117,45,0,6],
 [0,0,0,2,0,2,0,1,2,68,46,21,248,33,85,199,167,0,7],
 [0,0,0,2,0,3,0,1,2,136,157,185,214,25,101,183,171,0,8]]
theorem qTw:(List.range 8).map (λk=>(SN.tagN 7 [[0,0,0,if k<4 then 1 else 2],[0,k%4],[0,k+1]]).take 8)=nmN:=by decide+kernel
theorem qMw: ∀k:Fin 8,∀n:Fin 19,(SN.tagN 8 [(hdN.getD k.val []).take n.val++List.replicate (56-n.val) 0]).take 8≠List.replicate 8 0:=by decide+kernel
theorem qOp(tn:UInt64)(nr:Nat)(s:List UInt8)(hs:s.length=2):T1 tn nr s=(Sha.numB tn 4++(Sha.numB (UInt64.ofNat nr) 2++(Sha.numB (UInt64.ofNat 0) 1++(Sha.numB (UInt64.ofNat 1) 1++(Sha.numB (UInt64.ofNat 2) 1++(qB7 tn (UInt64.ofNat nr) s++s))))))++(List.replicate 37 0++qGU (prt tn (UInt64.ofNat nr) s 1 0).pad):=by
 have hc:(prt tn (UInt64.ofNat nr) s 1 0).con=s:=qJn (by omega)
 have hb:(prt tn (UInt64.ofNat nr) s 1 0).body.length=19:=by
  unfold Prt.body Prt.b5 Prt.b4 Prt.b3 Prt.b2 Prt.b1
  simp only [jA,Sha.numB_length,hc,hs]
  show _+(qB7 _ _ _).length+_=_
  rw [qBf]
 show(prt tn (UInt64.ofNat nr) s 1 0).pad++_=_
 rw [←jT]
 congr 1
 rw [Prt.pad_eq,hb,hc,hs]
 simp only [jT]
 rfl
theorem qRK{tn:UInt64}{nr:Nat}(s:List UInt8)(ht:tn.toNat<2^(8*4))(hn:nr<65536):qGU ((T1 tn nr s).take 56)=(T1 tn nr s).drop 56:=by
 have hl:=Prt.pad_len (qTF s ht hn)
 show qGU (((prt tn (UInt64.ofNat nr) s 1 0).pad++qGU (prt tn (UInt64.ofNat nr) s 1 0).pad).take 56)=((prt tn (UInt64.ofNat nr) s 1 0).pad++qGU (prt tn (UInt64.ofNat nr) s 1 0).pad).drop 56
 rw [zj hl,List.drop_left' hl]
theorem qLE{k:Nat}(h:k<8):((txt k).take 19).map UInt8.toNat=hdN.getD k []:=by
 have e1:(txt k).take 19=Sha.numB (tnO k) 4++(Sha.numB (UInt64.ofNat (nrO k)) 2++(Sha.numB (UInt64.ofNat 0) 1++(Sha.numB (UInt64.ofNat 1) 1++(Sha.numB (UInt64.ofNat 2) 1++(qB7 (tnO k) (UInt64.ofNat (nrO k)) (qBL k)++qBL k))))):=by
  unfold txt
  rw [qOp _ _ _ (qBi k),zj]
  simp only [jA,Sha.numB_length,qBf,qBi]
 have e2:(qB7 (tnO k) (UInt64.ofNat (nrO k)) (qBL k)).map UInt8.toNat=nmN.getD k []:=by
  have h1:=SN.tagN_eq 7 [Sha.numB (tnO k) 4,Sha.numB (UInt64.ofNat (nrO k)) 2,qBL k] (by simp only [jW,jw,jS,jA,Sha.numB_length,qBi,jD,jH];omega)
  unfold qB7
  rw [z8,←h1,←qTw,jB,jN,jv h]
  show _=List.take 8 (SN.tagN 7 [[0,0,0,if k<4 then 1 else 2],[0,k%4],[0,k+1]])
  congr 2
  match k,h with
  |0,_=>decide
  |1,_=>decide
  |2,_=>decide
  |3,_=>decide
  |4,_=>decide
  |5,_=>decide
  |6,_=>decide
  |7,_=>decide
 rw [e1]
 simp only [jM]
 rw [e2]
 match k,h with
 |0,_=>decide
 |1,_=>decide
 |2,_=>decide
 |3,_=>decide
 |4,_=>decide
 |5,_=>decide
 |6,_=>decide
 |7,_=>decide
def torn(T:List UInt8)(n:Nat):List UInt8:=T.take n++List.replicate (64-n) 0
theorem qFj(T:List UInt8):torn T 0=zS:=rfl
theorem qFO{T:List UInt8}(h:T.length=64){n:Nat}(hn:64≤n):torn T n=T:=by
 unfold torn
 rw [jV (by omega),show 64-n=0 by omega];exact jS _
theorem qIM{T:List UInt8}(h:T.length=64)(m n:Nat):qGo (torn T m) T n=torn T (max m n):=by
  apply zD
  intro i
  unfold qGo torn
  by_cases hi:64≤i
  · rw [ji (by simp only [jA,jE,jL,jG];omega),ji (by simp only [jA,jE,jG];omega)]
  · simp only [zi,js,jt,zE,jE,jA,jL,jG,h]
    repeat' split
    all_goals first|rfl|omega|(congr 1;omega)
theorem qRX{k n:Nat}(hk:k<8)(hne:torn (txt k) n≠txt k):qFE (torn (txt k) n):=by
  left
  have hl:=qDw hk
  have hn:n<64:=by
    by_cases h:n<64
    · exact h
    · exact absurd (qFO hl (by omega)) hne
  have hd:(torn (txt k) n).take 56++(torn (txt k) n).drop 56=torn (txt k) n:=jy ..
  unfold qA8
  rw [if_neg]
  intro hs
  by_cases h19:n<19
  ·
    have e1:(torn (txt k) n).take 56=((txt k).take 19).take n++List.replicate (56-n) 0:=by
      unfold torn
      rw [List.take_take,jl (by omega),List.take_append,List.take_take,List.take_replicate,jE,hl]
      congr 1
      · congr 1;omega
      · congr 1;omega
    have e2:(torn (txt k) n).drop 56=List.replicate 8 0:=by
      unfold torn
      rw [zz,jE,hl,jq (by rw [jE];omega),jp,List.drop_replicate]
      congr 1;omega
    rw [e1,e2] at hs
    have h1:=SN.tagN_eq 8 [((txt k).take 19).take n++List.replicate (56-n) 0] (by simp only [jW,jw,jS,jA,jE,jG,jD,jH];omega)
    have h2:(SN.tagN 8 [(hdN.getD k []).take n++List.replicate (56-n) 0]).take 8=(qGU (((txt k).take 19).take n++List.replicate (56-n) 0)).map UInt8.toNat:=by
      unfold qGU
      rw [z8,←h1,←qLE hk]
      congr 2
      simp only [jR,zT,jM,z8,List.map_replicate]
      rfl
    rw [hs] at h2
    exact qMw ⟨k,hk⟩ ⟨n,h19⟩ h2
  · have e1:(torn (txt k) n).take 56=(txt k).take 56:=by
      have hz: ∀i,19≤i→i<56→(txt k)[i]?=some 0:=λi h1 h2=>by
        unfold txt
        rw [qOp _ _ _ (qBi k),jb (by simp only [jA,Sha.numB_length,qBf,qBi];omega)]
        simp only [jA,Sha.numB_length,qBf,qBi]
        rw [jY (by rw [jG];omega),zE,if_pos (by omega)]
      apply zD
      intro i
      unfold torn
      rw [js,js]
      by_cases h56:i<56
      · rw [if_pos h56,if_pos h56,zi,jE,hl]
        split
        · rw [js,if_pos (by omega)]
        · rw [hz i (by omega) h56,zE,if_pos (by omega)]
      · rw [if_neg h56,if_neg h56]
    rw [e1,show qGU ((txt k).take 56)=(txt k).drop 56 from qRK _ (qQh k) (qQt hk)] at hs
    apply hne
    rw [←hd,e1,←hs,jy]
end Go.Proofs.YtfldiegfenndjaaGreatDoor
namespace Go.Proofs.YtfldiegfenndjaaGreatDoor
open Go Go.Fw Go.Proofs.Tryz
set_option maxRecDepth 100000
set_option maxHeartbeats 1000000
structure DV (d:Dk) (v:Nat):Prop where
 ok:d.ok
 wait:d.wait= []
 len:d.last.length=10
 done: ∀i,i<v→i<8→d.last.getD (1+i) []=txt i
 rest: ∀i,v≤i→i<8→ ∃n,d.last.getD (1+i) []=torn (txt i) n∧torn (txt i) n≠txt i
def qCf(a n:Nat):List (List UInt8):=(List.range n).map λi=>qBL (a+i)
theorem qTM{k:Nat}(h:k<8):zS≠txt k:=λe=>by
 have h1:=qLE h
 rw [←e] at h1
 match k,h with
 |0,_=>exact absurd h1 (by decide)
 |1,_=>exact absurd h1 (by decide)
 |2,_=>exact absurd h1 (by decide)
 |3,_=>exact absurd h1 (by decide)
 |4,_=>exact absurd h1 (by decide)
 |5,_=>exact absurd h1 (by decide)
 |6,_=>exact absurd h1 (by decide)
 |7,_=>exact absurd h1 (by decide)
theorem DV.set{d d':Dk}{v:Nat}(h:DV d v)(hv:v<8)(hok:d'.ok)(hw:d'.wait= [])(n:Nat)(hl:d'.last=d.last.set (1+v) (qGo (d.last.getD (1+v) []) (txt v) n)):(64≤n→DV d' (v+1))∧(DV d' v∨DV d' (v+1)):=by
  obtain ⟨m,hm,hne⟩:=h.rest v (jJ _) hv
  rw [hm,qIM (qDw hv)] at hl
  have hlen:d'.last.length=10:=by rw [hl,jm];exact h.len
  have hg: ∀i,i<8→d'.last.getD (1+i) []=if i=v then torn (txt v) (max m n) else d.last.getD (1+i) []:=λi hi=>by
    rw [hl,jB,j9]
    by_cases e:i=v
    · subst e
      rw [if_pos rfl,if_pos rfl,if_pos (by rw [h.len];omega)];rfl
    · rw [if_neg (by omega),if_neg e,jB]
  have hfull:torn (txt v) (max m n)=txt v→DV d' (v+1):=λe=>⟨hok,hw,hlen,λi h1 h2=>by
    rw [hg i h2]
    split
    · rename_i e2;rw [e2];exact e
    · exact h.done i (by omega) h2,λi h1 h2=>by
    rw [hg i h2,if_neg (by omega)];exact h.rest i (by omega) h2⟩
  refine⟨λh64=>hfull (qFO (qDw hv) (by omega)),?_⟩
  by_cases e:torn (txt v) (max m n)=txt v
  · exact Or.inr (hfull e)
  · refine Or.inl ⟨hok,hw,hlen,λi h1 h2=>by rw [hg i h2,if_neg (by omega)];exact h.done i h1 h2,λi h1 h2=>?_⟩
    rw [hg i h2]
    by_cases e2:i=v
    · rw [if_pos e2];subst e2;exact⟨_,rfl,e⟩
    · rw [if_neg e2];exact h.rest i h1 h2
theorem qO3{d:Dk}{p:Nat}{t:Nat→List UInt8}{T:List UInt8}(hT:t 0=T)(h64:T.length=64)(ho:d.off=false)(hw:d.wait= [])(hp:p<d.last.length)(hok:d.ok):
    ((qBM d p t 1).2=0∧(qBM d p t 1).1.off=false∧(qBM d p t 1).1.last=d.last.set p (qGo (d.last.getD p []) T 64))∨((qBM d p t 1).2=8∧(qBM d p t 1).1.off=true∧((qBM d p t 1).1.last=d.last∨ ∃n,(qBM d p t 1).1.last=d.last.set p (qGo (d.last.getD p []) T n))):=by
  have h0:d.ready ((p+0:Nat):Int)=0:=qBR ho (i:=p+0) (by omega)
  have hfull:qHA T=T:=by unfold qHA;rw [h64];exact jS _
  have e1:qCH d p t 1=(d.write ((p+0:Nat):Int) T,d.wErr ((p+0:Nat):Int) T):=by rw [←hT];exact qB1 rfl
  by_cases hb:d.burns
  · have hwe:d.wErr ((p+0:Nat):Int) T=8:=by unfold Dk.wErr;rw [if_neg (by rw [h0];decide),if_neg (by omega),if_pos hb]
    have hwr:d.write ((p+0:Nat):Int) T=d.burn:=by unfold Dk.write;rw [if_neg (by rw [h0];decide),if_neg (by omega),if_pos hb]
    have e:qBM d p t 1=(d.burn,8):=by unfold qBM;rw [e1,hwe,hwr];rfl
    have hbn:d.burn={d with fuse:=d.fuse-1}.cut d.keep:=by unfold Dk.burn;rw [if_pos hb.1,if_pos hb.2]
    refine Or.inr ⟨by rw [e],by rw [e,hbn];rfl,Or.inl ?_⟩
    rw [e,hbn]
    show qDE d.last d.wait d.keep d.wait.length=d.last
    rw [hw];rfl
  · have hwr:=qFN h0 (s:=T) (by omega) hb
    have hbl:=qBe hb
    rw [hwr.1,hwr.2,hfull] at e1
    obtain ⟨D,hD⟩: ∃D,D=({d.burn with wait:=d.burn.wait++ [(((p+0:Nat):Int).toNat,T)]}:Dk):=⟨_,rfl⟩
    rw [←hD] at e1
    have hDl:D.last=d.last:=by rw [hD];exact hbl.1
    have hDw:D.wait= [(p,T)]:=by rw [hD];show d.burn.wait++ [(((p+0:Nat):Int).toNat,T)]=_;rw [hbl.2.1,hw];rfl
    have hDo:D.off=false:=by rw [hD];show d.burn.off=false;rw [hbl.2.2];exact ho
    have e:qBM d p t 1=(D.sync,D.sErr):=by unfold qBM;rw [e1];rfl
    have h3:D.ready 0=0:=qBR hDo (i:=0) (by rw [hDl];omega)
    by_cases hb2:D.burns
    · have hse:D.sErr=8:=by unfold Dk.sErr;rw [if_neg (by rw [h3];decide),if_pos hb2]
      have hsy:D.sync=D.burn:=by unfold Dk.sync;rw [if_neg (by rw [h3];decide),if_pos hb2]
      have hbn:D.burn={D with fuse:=D.fuse-1}.cut D.keep:=by unfold Dk.burn;rw [if_pos hb2.1,if_pos hb2.2]
      refine Or.inr ⟨by rw [e];exact hse,by rw [e];show D.sync.off=_;rw [hsy,hbn];rfl,?_⟩
      rw [e]
      show D.sync.last=_∨ ∃n,D.sync.last=_
      rw [hsy,hbn]
      show qDE D.last D.wait D.keep D.wait.length=_∨ ∃n,qDE D.last D.wait D.keep D.wait.length=_
      rw [hDw,hDl]
      show qDE d.last [(p,T)] D.keep 1=_∨ ∃n,qDE d.last [(p,T)] D.keep 1=_
      unfold qDE
      simp only [qDE]
      split
      · exact Or.inr ⟨_,rfl⟩
      · exact Or.inl rfl
    · have hse:D.sErr=0:=by unfold Dk.sErr;rw [if_neg (by rw [h3];decide),if_neg hb2]
      have hsy:D.sync={D.burn with last:=qCb D.burn.last D.burn.wait D.burn.wait.length,wait:= []}:=by unfold Dk.sync;rw [if_neg (by rw [h3];decide),if_neg hb2]
      have hbl2:=qBe hb2
      refine Or.inl ⟨by rw [e];exact hse,by rw [e];show D.sync.off=_;rw [hsy];exact hbl2.2.2.trans hDo,?_⟩
      rw [e]
      show D.sync.last=_
      rw [hsy]
      show qCb D.burn.last D.burn.wait D.burn.wait.length=_
      rw [hbl2.1,hbl2.2.1,hDw,hDl];rfl
theorem qBd(a n:Nat):(qCf a n).length=n:=by unfold qCf;rw [jK,zP]
theorem qGz(a n:Nat):qCf a (n+1)=qCf a n++ [qBL (a+n)]:=by unfold qCf;rw [zB,jM];rfl
theorem qQu:qFE []:=Or.inl (by
 unfold qA8
 rw [if_neg]
 intro h
 have:=congrArg List.length h
 rw [qH3] at this
 exact absurd this (by decide))
theorem qOD{tn:UInt64}(h0:tn.toNat≠0)(h1:tn.toNat<2^(8*4))(b:Nat)(l:List (List UInt8))(hl:l.length=4)(k:Nat)(hk:k≤4)(hT: ∀i,i<k→l.getD i []=T1 tn i (qBL (b+i)))(hJ:qFE (l.getD k [])):
    rdl 0 [] 0 l=(if k=0 then 0 else tn,qCf b k,k):=by
  have e:l=Txs tn 0 (qCf b k)++l.drop k:=by
    match l,hl with
    | [w,x,y,z],_=>
      match k,hk with
      |0,_=>rfl
      |1,_=>
        show [w,x,y,z]= [T1 tn 0 (qBL (b+0)),x,y,z]
        rw [←hT 0 (by decide)];rfl
      |2,_=>
        show [w,x,y,z]= [T1 tn 0 (qBL (b+0)),T1 tn 1 (qBL (b+1)),y,z]
        rw [←hT 0 (by decide),←hT 1 (by decide)];rfl
      |3,_=>
        show [w,x,y,z]= [T1 tn 0 (qBL (b+0)),T1 tn 1 (qBL (b+1)),T1 tn 2 (qBL (b+2)),z]
        rw [←hT 0 (by decide),←hT 1 (by decide),←hT 2 (by decide)];rfl
      |4,_=>
        show [w,x,y,z]= [T1 tn 0 (qBL (b+0)),T1 tn 1 (qBL (b+1)),T1 tn 2 (qBL (b+2)),T1 tn 3 (qBL (b+3))]
        rw [←hT 0 (by decide),←hT 1 (by decide),←hT 2 (by decide),←hT 3 (by decide)];rfl
  have hd:(l.drop k).getD 0 []=l.getD k []:=by
    rw [jB,jt,zO,←jB]
  have h:=qJm h0 h1 (qCf b k) 0 [] 0 (l.drop k) (λs hs=>by
    obtain ⟨i,_,rfl⟩:=List.mem_map.1 hs
    exact qDD _) (by rw [qBd];show 0+k≤_;omega) (λh=>absurd h (by decide)) (λt'=>qEJ (by rw [hd];exact hJ))
  have h2:rdl 0 [] 0 l=rdl 0 [] 0 (Txs tn 0 (qCf b k)++l.drop k):=congrArg (rdl 0 [] 0) e
  refine h2.trans (h.trans ?_)
  rw [qBd,jp,jn]
  by_cases hk0:k=0
  · subst hk0;rfl
  · rw [if_neg hk0,if_neg (λh=>hk0 (by have:=congrArg List.length h;rwa [qBd] at this))]
theorem qPj{v:Nat}(h0:0<v)(h:v<65536):qBk (qBL (v-1))=v:=by
 unfold qBL
 rw [show v-1+1=v by omega,qK0 v 2 (by decide) (by omega)]
end Go.Proofs.YtfldiegfenndjaaGreatDoor
