/- A part of the proof. -/
import Derived.Test.YtmemgokiolfdoaaGreatDoorTopSpG8
import Derived.Shelf.Unicode.ValidAny
set_option maxRecDepth 100000
set_option maxHeartbeats 1000000
set_option linter.unusedSimpArgs false
set_option linter.unusedVariables false
namespace Go.Proofs.YtmemgokiolfdoaaGreatDoor
open Go Go.Fw Go.Proofs.Tryz
open Go.Shelf Go.RowKit
def Tryz.lays196_ren:Go.Shelf.Ren:=⟨λ|196=>222|259=>271|n=>n,λ|9=>9|4=>4|3=>3|5=>5|12=>12|119=>391|0=>0|46=>222|139=>394|138=>393|53=>49|n=>n,λ|3=>1|4=>2|n=>n⟩
theorem Tryz.lays196:Go.Proofs.Lays.n196 prog Tryz.lays196_ren:={
 mixed:=by kernel_rfl
 f196:=func222.trans (yY some xH)
 f259:=func271.trans (yY some xH)
 t0:=u0_
 a0:=isAgg0
 z0:=sizeOf0
 v0:=e0_
 t3:=u3_
 a3:=b3_
 z3:=z3_
 v3:=e3_
 t4:=u4_
 a4:=b4_
 z4:=z4_
 v4:=e4_
 t5:=u5_
 a5:=b5_
 z5:=z5_
 v5:=e5_
 t9:=u9_
 a9:=b9_
 z9:=z9_
 v9:=e9_
 t12:=underlying12
 a12:=isAgg12
 z12:=sizeOf12
 v12:=zeroValue12
 t46:=qJU
 a46:=isAgg222
 z46:=sizeOf222
 v46:=zeroValue222
 t53:=qDJ
 a53:=qBe
 z53:=qBV
 v53:=zeroValue49
 t119:=underlying391
 a119:=isAgg391
 z119:=sizeOf391
 t138:=underlying393
 a138:=isAgg393
 z138:=sizeOf393
 v138:=zeroValue393
 t139:=underlying394
 a139:=isAgg394
 z139:=sizeOf394
 v139:=zeroValue394
 g3:=by kernel_rfl
 g4:=by kernel_rfl}
def Tryz.lays197_ren:Go.Shelf.Ren:=⟨λ|197=>230|260=>274|n=>n,λ|9=>9|21=>21|3=>3|4=>4|5=>5|105=>332|119=>391|0=>0|46=>222|139=>394|138=>393|n=>n,λ|3=>1|4=>2|n=>n⟩
theorem Tryz.lays197:Go.Proofs.Lays.n197 prog Tryz.lays197_ren:={
 mixed:=by kernel_rfl
 f197:=func230.trans (yY some xH)
 f260:=func274.trans (yY some xH)
 t0:=u0_
 a0:=isAgg0
 z0:=sizeOf0
 v0:=e0_
 t3:=u3_
 a3:=b3_
 z3:=z3_
 v3:=e3_
 t4:=u4_
 a4:=b4_
 z4:=z4_
 v4:=e4_
 t5:=u5_
 a5:=b5_
 z5:=z5_
 v5:=e5_
 t9:=u9_
 a9:=b9_
 z9:=z9_
 v9:=e9_
 t21:=underlying21
 a21:=isAgg21
 z21:=sizeOf21
 v21:=zeroValue21
 t46:=qJU
 a46:=isAgg222
 z46:=sizeOf222
 v46:=zeroValue222
 t105:=underlying332
 a105:=isAgg332
 z105:=sizeOf332
 v105:=zeroValue332
 t119:=underlying391
 a119:=isAgg391
 z119:=sizeOf391
 t138:=underlying393
 a138:=isAgg393
 z138:=sizeOf393
 v138:=zeroValue393
 t139:=underlying394
 a139:=isAgg394
 z139:=sizeOf394
 v139:=zeroValue394
 g3:=by kernel_rfl
 g4:=by kernel_rfl}
theorem qIb: ∀(n:Nat) (l:xA),l.length<=n->Lib.validGoD n l=vld l
 |0,l,h=>by rw [jT (show l.length=0 by omega),qMB];rfl
 |n+1,l,h=>by
  rw [Lib.validGoD]
  by_cases h0:l= []
  . rw [yX h0,h0,qMB]
  have hd:Lib.decodeL l=dec l 0:=rfl
  rw [yW h0,qP9 h0,hd]
  have h1:=qFB l 0 (jH _)
  have h2:=List.length_pos_iff.2 h0
  by_cases hx:(dec l 0).1=65533/\(dec l 0).2=1
  . rw [yX hx,yb (by intro hn;exact hn (Prod.ext hx.1 hx.2))];rfl
  . rw [yW hx,qIb n _ (by rw [jE];omega),ya (by intro e;rw [e] at hx;exact hx ⟨O,O⟩)];rfl
theorem qQB(l:xA):Lib.validD l=vld l:=qIb _ _ (jL _)
def qBl(F:Hp):Prop:=(∀c,c<256->qAI F ⟨1,c,none⟩ [.int .u8 (Lib.firstT c)])/\(∀i,i<16->qAI F ⟨2,2*i,none⟩ [.int .u8 (Lib.accLo i)]/\qAI F ⟨2,2*i+1,none⟩ [.int .u8 (Lib.accHi i)])
theorem qBl.mono{F F':Hp}(h:qBl F)(hl:Le F F'):qBl F':=⟨λc hc=>(h.1 c hc).mono hl,λi hi=>⟨((h.2 i hi).1).mono hl,((h.2 i hi).2).mono hl⟩⟩
theorem qMz{w:World}{F:Hp}{ad:Addr}{v:Value}(h:qAI F ad [v])(hl:Le F (hp w)):w.cell? ad=some v:=by
 have:=(h.mono hl).cell (j:=0) (u:=v) O
 rwa [qDD] at this
theorem qBl.tabs{F:Hp}(h:qBl F){w:World}(hl:Le F (hp w)):Lib.Utf8Tabs 1 2 w:=
 ⟨λc hc=>qMz (h.1 c hc) hl,λi hi=>⟨qMz (h.2 i hi).1 hl,qMz (h.2 i hi).2 hl⟩⟩
theorem qTd(F:Hp)(hT:qBl F)(s:xA)(hs:s.length<=1000000):Cz prog 222 [Str s] F (.bool (vld s)):=Ct.ofBelow λw hw=>by
 have h:=Any.utf8_ValidString Tryz.lays196 ⟨s.toArray⟩ w (by rw [qDV];omega) (hT.tabs hw)
 rw [qQB] at h
 exact h
theorem qSm(F:Hp)(hT:qBl F)(s:xA)(hs:s≠ []):Cz prog 230 [Str s] F (.tuple #[.int .i32 ((dec s 0).1:Nat),I ((dec s 0).2:Nat)]):=Ct.ofBelow λw hw=>by
 have h:=Any.utf8_DecodeRuneInString Tryz.lays197 ⟨s.toArray⟩ w (hT.tabs hw)
 have e:Lib.decodeGo ⟨s.toArray⟩=dec s 0:=by unfold Lib.decodeGo;rw [qDV,yW (by simpa using hs)];rfl
 rw [e] at h
 exact h
end Go.Proofs.YtmemgokiolfdoaaGreatDoor