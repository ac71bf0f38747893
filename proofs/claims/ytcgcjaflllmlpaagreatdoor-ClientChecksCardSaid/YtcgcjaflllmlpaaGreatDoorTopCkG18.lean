/- A part of the proof. -/
import Derived.Test.YtcgcjaflllmlpaaGreatDoorTopCkG9
import Derived.Shelf.Unicode.ValidAny
set_option maxRecDepth 100000
set_option maxHeartbeats 1000000
set_option linter.unusedSimpArgs false
set_option linter.unusedVariables false
namespace Go.Proofs.YtcgcjaflllmlpaaGreatDoor
open Go Go.Fw Go.Proofs.Tryz
open Go.Shelf Go.RowKit
def Tryz.lays196_ren:Go.Shelf.Ren:=⟨λ|196=>221|259=>247|n=>n,λ|9=>9|4=>4|3=>3|5=>5|12=>12|119=>347|0=>0|46=>198|139=>350|138=>349|53=>31|n=>n,λ|3=>3|4=>4|n=>n⟩
theorem Tryz.lays196:Go.Proofs.Lays.n196 prog Tryz.lays196_ren:={
 mixed:=by kernel_rfl
 f196:=func221.trans (congrArg some xI)
 f259:=func247.trans (congrArg some xI)
 t0:=u0_
 a0:=isAgg0
 z0:=sizeOf0
 v0:=e0_
 t3:=u3_
 a3:=b3_
 z3:=z3_
 v3:=e3_
 t4:=u4_
 a4:=b4_
 z4:=z4_
 v4:=e4_
 t5:=u5_
 a5:=b5_
 z5:=z5_
 v5:=e5_
 t9:=u9_
 a9:=b9_
 z9:=z9_
 v9:=e9_
 t12:=underlying12
 a12:=isAgg12
 z12:=sizeOf12
 v12:=zeroValue12
 t46:=qIj
 a46:=isAgg198
 z46:=sizeOf198
 v46:=zeroValue198
 t53:=qEd
 a53:=qFM
 z53:=qEW
 v53:=zeroValue31
 t119:=underlying347
 a119:=isAgg347
 z119:=sizeOf347
 t138:=underlying349
 a138:=isAgg349
 z138:=sizeOf349
 v138:=zeroValue349
 t139:=underlying350
 a139:=isAgg350
 z139:=sizeOf350
 v139:=zeroValue350
 g3:=by kernel_rfl
 g4:=by kernel_rfl}
def Tryz.lays197_ren:Go.Shelf.Ren:=⟨λ|197=>229|260=>250|n=>n,λ|9=>9|21=>21|3=>3|4=>4|5=>5|105=>329|119=>347|0=>0|46=>198|139=>350|138=>349|n=>n,λ|3=>3|4=>4|n=>n⟩
theorem Tryz.lays197:Go.Proofs.Lays.n197 prog Tryz.lays197_ren:={
 mixed:=by kernel_rfl
 f197:=func229.trans (congrArg some xI)
 f260:=func250.trans (congrArg some xI)
 t0:=u0_
 a0:=isAgg0
 z0:=sizeOf0
 v0:=e0_
 t3:=u3_
 a3:=b3_
 z3:=z3_
 v3:=e3_
 t4:=u4_
 a4:=b4_
 z4:=z4_
 v4:=e4_
 t5:=u5_
 a5:=b5_
 z5:=z5_
 v5:=e5_
 t9:=u9_
 a9:=b9_
 z9:=z9_
 v9:=e9_
 t21:=underlying21
 a21:=isAgg21
 z21:=sizeOf21
 v21:=zeroValue21
 t46:=qIj
 a46:=isAgg198
 z46:=sizeOf198
 v46:=zeroValue198
 t105:=underlying329
 a105:=isAgg329
 z105:=sizeOf329
 v105:=zeroValue329
 t119:=underlying347
 a119:=isAgg347
 z119:=sizeOf347
 t138:=underlying349
 a138:=isAgg349
 z138:=sizeOf349
 v138:=zeroValue349
 t139:=underlying350
 a139:=isAgg350
 z139:=sizeOf350
 v139:=zeroValue350
 g3:=by kernel_rfl
 g4:=by kernel_rfl}
theorem qHw: ∀(n:Nat) (l:xA),l.length≤n→Lib.validGoD n l=vld l
 |0,l,h=>by rw [jU (show l.length=0 by omega),qLc];rfl
 |n+1,l,h=>by
  rw [Lib.validGoD]
  by_cases h0:l= []
  · rw [if_pos h0,h0,qLc]
  have hd:Lib.decodeL l=dec l 0:=rfl
  rw [if_neg h0,qPt h0,hd]
  have h1:=qEo l 0 (jG _)
  have h2:=List.length_pos_iff.2 h0
  by_cases hx:(dec l 0).1=65533∧(dec l 0).2=1
  · rw [if_pos hx,decide_eq_false (by intro hn;exact hn (Prod.ext hx.1 hx.2))];rfl
  · rw [if_neg hx,qHw n _ (by rw [jH];omega),decide_eq_true (by intro e;rw [e] at hx;exact hx ⟨O,O⟩)];rfl
theorem qPy(l:xA):Lib.validD l=vld l:=qHw _ _ (jK _)
def qCI(F:Hp):Prop:=(∀c,c<256→qAM F ⟨3,c,none⟩ [.int .u8 (Lib.firstT c)])∧(∀i,i<16→qAM F ⟨4,2*i,none⟩ [.int .u8 (Lib.accLo i)]∧qAM F ⟨4,2*i+1,none⟩ [.int .u8 (Lib.accHi i)])
theorem qCI.mono{F F':Hp}(h:qCI F)(hl:Le F F'):qCI F':=⟨λc hc=>(h.1 c hc).mono hl,λi hi=>⟨((h.2 i hi).1).mono hl,((h.2 i hi).2).mono hl⟩⟩
theorem qMX{w:World}{F:Hp}{ad:Addr}{v:Value}(h:qAM F ad [v])(hl:Le F (hp w)):w.cell? ad=some v:=by
 have:=(h.mono hl).cell (j:=0) (u:=v) O
 rwa [qDH] at this
theorem qCI.tabs{F:Hp}(h:qCI F){w:World}(hl:Le F (hp w)):Lib.Utf8Tabs 3 4 w:=
 ⟨λc hc=>qMX (h.1 c hc) hl,λi hi=>⟨qMX (h.2 i hi).1 hl,qMX (h.2 i hi).2 hl⟩⟩
theorem qTF(F:Hp)(hT:qCI F)(s:xA)(hs:s.length≤1000000):Cz prog 221 [Str s] F (.bool (vld s)):=Ct.ofBelow λw hw=>by
 have h:=Any.utf8_ValidString Tryz.lays196 ⟨s.toArray⟩ w (by rw [qC0];omega) (hT.tabs hw)
 rw [qPy] at h
 exact h
theorem qSC(F:Hp)(hT:qCI F)(s:xA)(hs:s≠ []):Cz prog 229 [Str s] F (.tuple #[.int .i32 ((dec s 0).1:Nat),I ((dec s 0).2:Nat)]):=Ct.ofBelow λw hw=>by
 have h:=Any.utf8_DecodeRuneInString Tryz.lays197 ⟨s.toArray⟩ w (hT.tabs hw)
 have e:Lib.decodeGo ⟨s.toArray⟩=dec s 0:=by unfold Lib.decodeGo;rw [qC0,if_neg (by simpa using hs)];rfl
 rw [e] at h
 exact h
end Go.Proofs.YtcgcjaflllmlpaaGreatDoor