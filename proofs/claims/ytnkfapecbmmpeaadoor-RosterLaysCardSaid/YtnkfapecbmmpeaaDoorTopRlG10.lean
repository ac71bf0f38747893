/- A part of the proof: contracts of functions of the program, each for every state of the heaps that it names. -/
import Derived.Test.YtnkfapecbmmpeaaDoorTopRlG9
import Derived.Shelf.Unicode.ValidAny
set_option linter.unusedSimpArgs false
set_option linter.unusedVariables false
namespace Go.Proofs.YtnkfapecbmmpeaaDoor
open Go Go.Fw
set_option maxRecDepth 100000
set_option maxHeartbeats 1000000
open Go.Shelf Go.RowKit
def Tryd.lays196_ren : Go.Shelf.Ren := ⟨fun | 196 => 172 | 259 => 195 | n => n, fun | 9 => 9 | 4 => 4 | 3 => 3 | 5 => 5 | 12 => 12 | 119 => 256 | 0 => 0 | 46 => 82 | 139 => 259 | 138 => 258 | 53 => 108 | n => n, fun | 3 => 2 | 4 => 3 | n => n⟩
theorem Tryd.lays196 : Go.Proofs.Lays.n196 Tryd.prog Tryd.lays196_ren := {
  mixed := by kernel_rfl
  f196 := Tryd.func172.trans (congrArg some (by kernel_rfl))
  f259 := Tryd.func195.trans (congrArg some (by kernel_rfl))
  t0 := Tryd.underlying0
  a0 := Tryd.isAgg0
  z0 := Tryd.sizeOf0
  v0 := Tryd.zeroValue0
  t3 := Tryd.underlying3
  a3 := Tryd.isAgg3
  z3 := Tryd.sizeOf3
  v3 := Tryd.zeroValue3
  t4 := Tryd.underlying4
  a4 := Tryd.isAgg4
  z4 := Tryd.sizeOf4
  v4 := Tryd.zeroValue4
  t5 := Tryd.underlying5
  a5 := Tryd.isAgg5
  z5 := Tryd.sizeOf5
  v5 := Tryd.zeroValue5
  t9 := Tryd.underlying9
  a9 := Tryd.isAgg9
  z9 := Tryd.sizeOf9
  v9 := Tryd.zeroValue9
  t12 := Tryd.underlying12
  a12 := Tryd.isAgg12
  z12 := Tryd.sizeOf12
  v12 := Tryd.zeroValue12
  t46 := Tryd.underlying82
  a46 := Tryd.isAgg82
  z46 := Tryd.sizeOf82
  v46 := Tryd.zeroValue82
  t53 := Tryd.underlying108
  a53 := Tryd.isAgg108
  z53 := Tryd.sizeOf108
  v53 := Tryd.zeroValue108
  t119 := Tryd.underlying256
  a119 := Tryd.isAgg256
  z119 := Tryd.sizeOf256
  t138 := Tryd.underlying258
  a138 := Tryd.isAgg258
  z138 := Tryd.sizeOf258
  v138 := Tryd.zeroValue258
  t139 := Tryd.underlying259
  a139 := Tryd.isAgg259
  z139 := Tryd.sizeOf259
  v139 := Tryd.zeroValue259
  g3 := by kernel_rfl
  g4 := by kernel_rfl }
def Tryd.lays197_ren : Go.Shelf.Ren := ⟨fun | 197 => 180 | 260 => 198 | n => n, fun | 9 => 9 | 21 => 21 | 3 => 3 | 4 => 4 | 5 => 5 | 105 => 237 | 119 => 256 | 0 => 0 | 46 => 82 | 139 => 259 | 138 => 258 | n => n, fun | 3 => 2 | 4 => 3 | n => n⟩
theorem Tryd.lays197 : Go.Proofs.Lays.n197 Tryd.prog Tryd.lays197_ren := {
  mixed := by kernel_rfl
  f197 := Tryd.func180.trans (congrArg some (by kernel_rfl))
  f260 := Tryd.func198.trans (congrArg some (by kernel_rfl))
  t0 := Tryd.underlying0
  a0 := Tryd.isAgg0
  z0 := Tryd.sizeOf0
  v0 := Tryd.zeroValue0
  t3 := Tryd.underlying3
  a3 := Tryd.isAgg3
  z3 := Tryd.sizeOf3
  v3 := Tryd.zeroValue3
  t4 := Tryd.underlying4
  a4 := Tryd.isAgg4
  z4 := Tryd.sizeOf4
  v4 := Tryd.zeroValue4
  t5 := Tryd.underlying5
  a5 := Tryd.isAgg5
  z5 := Tryd.sizeOf5
  v5 := Tryd.zeroValue5
  t9 := Tryd.underlying9
  a9 := Tryd.isAgg9
  z9 := Tryd.sizeOf9
  v9 := Tryd.zeroValue9
  t21 := Tryd.underlying21
  a21 := Tryd.isAgg21
  z21 := Tryd.sizeOf21
  v21 := Tryd.zeroValue21
  t46 := Tryd.underlying82
  a46 := Tryd.isAgg82
  z46 := Tryd.sizeOf82
  v46 := Tryd.zeroValue82
  t105 := Tryd.underlying237
  a105 := Tryd.isAgg237
  z105 := Tryd.sizeOf237
  v105 := Tryd.zeroValue237
  t119 := Tryd.underlying256
  a119 := Tryd.isAgg256
  z119 := Tryd.sizeOf256
  t138 := Tryd.underlying258
  a138 := Tryd.isAgg258
  z138 := Tryd.sizeOf258
  v138 := Tryd.zeroValue258
  t139 := Tryd.underlying259
  a139 := Tryd.isAgg259
  z139 := Tryd.sizeOf259
  v139 := Tryd.zeroValue259
  g3 := by kernel_rfl
  g4 := by kernel_rfl }
theorem validGo_eq : ∀ (n : Nat) (l : List UInt8), l.length ≤ n → Lib.validGoD n l = vld l
  | 0, l, h => by rw [List.eq_nil_of_length_eq_zero (show l.length = 0 by omega), vld_nil]; rfl
  | n + 1, l, h => by
    rw [Lib.validGoD]
    by_cases h0 : l = []
    · rw [if_pos h0, h0, vld_nil]
    have hd : Lib.decodeL l = dec l 0 := rfl
    rw [if_neg h0, vld_ne h0, hd]
    have h1 := dec_pos l 0 (Nat.zero_le _)
    have h2 := List.length_pos_iff.2 h0
    by_cases hx : (dec l 0).1 = 65533 ∧ (dec l 0).2 = 1
    · rw [if_pos hx, decide_eq_false (by intro hn; exact hn (Prod.ext hx.1 hx.2))]; rfl
    · rw [if_neg hx, validGo_eq n _ (by rw [List.length_drop]; omega), decide_eq_true (by intro e; rw [e] at hx; exact hx ⟨rfl, rfl⟩)]; rfl
theorem validD_eq (l : List UInt8) : Lib.validD l = vld l := validGo_eq _ _ (Nat.le_refl _)
/-- the two tables of package utf8 lie in a heap -/
def TabsF (F : Hp) : Prop := (∀ c, c < 256 → Cells F ⟨2, c, none⟩ [.int .u8 (Lib.firstT c)]) ∧ (∀ i, i < 16 → Cells F ⟨3, 2 * i, none⟩ [.int .u8 (Lib.accLo i)] ∧ Cells F ⟨3, 2 * i + 1, none⟩ [.int .u8 (Lib.accHi i)])
theorem TabsF.mono {F F' : Hp} (h : TabsF F) (hl : Le F F') : TabsF F' := ⟨fun c hc => (h.1 c hc).mono hl, fun i hi => ⟨((h.2 i hi).1).mono hl, ((h.2 i hi).2).mono hl⟩⟩
theorem cell_of {w : World} {F : Hp} {ad : Addr} {v : Value} (h : Cells F ad [v]) (hl : Le F (hp w)) : w.cell? ad = some v := by
  have := (h.mono hl).cell (j := 0) (u := v) rfl
  rwa [add_zero'] at this
theorem TabsF.tabs {F : Hp} (h : TabsF F) {w : World} (hl : Le F (hp w)) : Lib.Utf8Tabs 2 3 w :=
  ⟨fun c hc => cell_of (h.1 c hc) hl, fun i hi => ⟨cell_of (h.2 i hi).1 hl, cell_of (h.2 i hi).2 hl⟩⟩
theorem valid_ct (F : Hp) (hT : TabsF F) (s : List UInt8) (hs : s.length ≤ 1000000) : Ct Tryd.prog 172 [Str s] [F] (fun _ : Unit => .bool (vld s)) (fun _ => True) (fun _ => [F]) := Ct.ofBelow fun w hw => by
  have h := Any.utf8_ValidString Tryd.lays196 ⟨s.toArray⟩ w (by rw [size_mk]; omega) (hT.tabs hw)
  rw [validD_eq] at h
  exact h
theorem decode_ct (F : Hp) (hT : TabsF F) (s : List UInt8) (hs : s ≠ []) : Ct Tryd.prog 180 [Str s] [F] (fun _ : Unit => .tuple #[.int .i32 ((dec s 0).1 : Nat), I ((dec s 0).2 : Nat)]) (fun _ => True) (fun _ => [F]) := Ct.ofBelow fun w hw => by
  have h := Any.utf8_DecodeRuneInString Tryd.lays197 ⟨s.toArray⟩ w (hT.tabs hw)
  have e : Lib.decodeGo ⟨s.toArray⟩ = dec s 0 := by unfold Lib.decodeGo; rw [size_mk, if_neg (by simpa using hs)]; rfl
  rw [e] at h
  exact h

end Go.Proofs.YtnkfapecbmmpeaaDoor
