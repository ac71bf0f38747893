/- A part of the proof. -/
import Derived.Test.YtllnfioplpipiaaGreatDoorTopOrG9
import Derived.Shelf.Unicode.ValidAny
set_option linter.unusedSimpArgs false
set_option linter.unusedVariables false
namespace Go.Proofs.YtllnfioplpipiaaGreatDoor
open Go Go.Fw Go.Proofs.Tryz
set_option maxRecDepth 100000
set_option maxHeartbeats 1000000
open Go.Shelf Go.RowKit
def Tryz.lays196_ren:Go.Shelf.Ren:=⟨λ|196=>222|259=>246|n=>n,λ|9=>9|4=>4|3=>3|5=>5|12=>12|119=>333|0=>0|46=>161|139=>336|138=>335|53=>41|n=>n,λ|3=>3|4=>4|n=>n⟩
theorem Tryz.lays196:Go.Proofs.Lays.n196 prog Tryz.lays196_ren:={
 mixed:=by kernel_rfl
 f196:=func222.trans (congrArg some (by kernel_rfl))
 f259:=func246.trans (congrArg some (by kernel_rfl))
 t0:=u0_
 a0:=isAgg0
 z0:=sizeOf0
 v0:=e0_
 t3:=u3_
 a3:=b3_
 z3:=z3_
 v3:=e3_
 t4:=u4_
 a4:=b4_
 z4:=z4_
 v4:=e4_
 t5:=u5_
 a5:=b5_
 z5:=z5_
 v5:=e5_
 t9:=u9_
 a9:=b9_
 z9:=z9_
 v9:=e9_
 t12:=underlying12
 a12:=isAgg12
 z12:=sizeOf12
 v12:=zeroValue12
 t46:=qGy
 a46:=isAgg161
 z46:=sizeOf161
 v46:=zeroValue161
 t53:=qEi
 a53:=qHt
 z53:=qF9
 v53:=zeroValue41
 t119:=underlying333
 a119:=isAgg333
 z119:=sizeOf333
 t138:=underlying335
 a138:=isAgg335
 z138:=sizeOf335
 v138:=zeroValue335
 t139:=underlying336
 a139:=isAgg336
 z139:=sizeOf336
 v139:=zeroValue336
 g3:=by kernel_rfl
 g4:=by kernel_rfl}
def Tryz.lays197_ren:Go.Shelf.Ren:=⟨λ|197=>230|260=>249|n=>n,λ|9=>9|21=>21|3=>3|4=>4|5=>5|105=>318|119=>333|0=>0|46=>161|139=>336|138=>335|n=>n,λ|3=>3|4=>4|n=>n⟩
theorem Tryz.lays197:Go.Proofs.Lays.n197 prog Tryz.lays197_ren:={
 mixed:=by kernel_rfl
 f197:=func230.trans (congrArg some (by kernel_rfl))
 f260:=func249.trans (congrArg some (by kernel_rfl))
 t0:=u0_
 a0:=isAgg0
 z0:=sizeOf0
 v0:=e0_
 t3:=u3_
 a3:=b3_
 z3:=z3_
 v3:=e3_
 t4:=u4_
 a4:=b4_
 z4:=z4_
 v4:=e4_
 t5:=u5_
 a5:=b5_
 z5:=z5_
 v5:=e5_
 t9:=u9_
 a9:=b9_
 z9:=z9_
 v9:=e9_
 t21:=underlying21
 a21:=isAgg21
 z21:=sizeOf21
 v21:=zeroValue21
 t46:=qGy
 a46:=isAgg161
 z46:=sizeOf161
 v46:=zeroValue161
 t105:=underlying318
 a105:=isAgg318
 z105:=sizeOf318
 v105:=zeroValue318
 t119:=underlying333
 a119:=isAgg333
 z119:=sizeOf333
 t138:=underlying335
 a138:=isAgg335
 z138:=sizeOf335
 v138:=zeroValue335
 t139:=underlying336
 a139:=isAgg336
 z139:=sizeOf336
 v139:=zeroValue336
 g3:=by kernel_rfl
 g4:=by kernel_rfl}
theorem qGE: ∀(n:Nat) (l:List UInt8),l.length≤n→Lib.validGoD n l=vld l
 |0,l,h=>by rw [List.eq_nil_of_length_eq_zero (show l.length=0 by omega),qJS];rfl
 |n+1,l,h=>by
  rw [Lib.validGoD]
  by_cases h0:l= []
  · rw [if_pos h0,h0,qJS]
  have hd:Lib.decodeL l=dec l 0:=rfl
  rw [if_neg h0,qMa h0,hd]
  have h1:=qDc l 0 (Nat.zero_le _)
  have h2:=List.length_pos_iff.2 h0
  by_cases hx:(dec l 0).1=65533∧(dec l 0).2=1
  · rw [if_pos hx,decide_eq_false (by intro hn;exact hn (Prod.ext hx.1 hx.2))];rfl
  · rw [if_neg hx,qGE n _ (by rw [List.length_drop];omega),decide_eq_true (by intro e;rw [e] at hx;exact hx ⟨rfl,rfl⟩)];rfl
theorem qMc(l:List UInt8):Lib.validD l=vld l:=qGE _ _ (Nat.le_refl _)
def qBx(F:Hp):Prop:=(∀c,c<256→qAL F ⟨3,c,none⟩ [.int .u8 (Lib.firstT c)])∧(∀i,i<16→qAL F ⟨4,2*i,none⟩ [.int .u8 (Lib.accLo i)]∧qAL F ⟨4,2*i+1,none⟩ [.int .u8 (Lib.accHi i)])
theorem qBx.mono{F F':Hp}(h:qBx F)(hl:Le F F'):qBx F':=⟨λc hc=>(h.1 c hc).mono hl,λi hi=>⟨((h.2 i hi).1).mono hl,((h.2 i hi).2).mono hl⟩⟩
theorem qKB{w:World}{F:Hp}{ad:Addr}{v:Value}(h:qAL F ad [v])(hl:Le F (hp w)):w.cell? ad=some v:=by
 have:=(h.mono hl).cell (j:=0) (u:=v) rfl
 rwa [qCE] at this
theorem qBx.tabs{F:Hp}(h:qBx F){w:World}(hl:Le F (hp w)):Lib.Utf8Tabs 3 4 w:=
 ⟨λc hc=>qKB (h.1 c hc) hl,λi hi=>⟨qKB (h.2 i hi).1 hl,qKB (h.2 i hi).2 hl⟩⟩
theorem qPD(F:Hp)(hT:qBx F)(s:List UInt8)(hs:s.length≤1000000):Ct prog 222 [Str s] [F] (λ_:Unit=> .bool (vld s)) (λ_=>True) (λ_=> [F]):=Ct.ofBelow λw hw=>by
 have h:=Any.utf8_ValidString Tryz.lays196 ⟨s.toArray⟩ w (by rw [qCO];omega) (hT.tabs hw)
 rw [qMc] at h
 exact h
theorem qOT(F:Hp)(hT:qBx F)(s:List UInt8)(hs:s≠ []):Ct prog 230 [Str s] [F] (λ_:Unit=> .tuple #[.int .i32 ((dec s 0).1:Nat),I ((dec s 0).2:Nat)]) (λ_=>True) (λ_=> [F]):=Ct.ofBelow λw hw=>by
 have h:=Any.utf8_DecodeRuneInString Tryz.lays197 ⟨s.toArray⟩ w (hT.tabs hw)
 have e:Lib.decodeGo ⟨s.toArray⟩=dec s 0:=by unfold Lib.decodeGo;rw [qCO,if_neg (by simpa using hs)];rfl
 rw [e] at h
 exact h
end Go.Proofs.YtllnfioplpipiaaGreatDoor
