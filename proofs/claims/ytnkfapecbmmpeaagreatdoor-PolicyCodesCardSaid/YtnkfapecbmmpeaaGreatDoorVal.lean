/- A part of the proof: contracts of functions of the program, each for every state of the heaps that it names. -/
import Derived.Test.YtnkfapecbmmpeaaGreatDoorLbp
import Derived.Shelf.Unicode.ValidAny
set_option linter.unusedSimpArgs false
set_option linter.unusedVariables false
namespace Go.Proofs.YtnkfapecbmmpeaaGreatDoor
open Go Go.Fw
set_option maxRecDepth 100000
set_option maxHeartbeats 1000000
open Go.Shelf Go.RowKit
def Tryz.lays196_ren : Go.Shelf.Ren := ⟨fun | 196 => 77 | 259 => 94 | n => n, fun | 9 => 9 | 4 => 4 | 3 => 3 | 5 => 5 | 12 => 12 | 119 => 151 | 0 => 0 | 46 => 105 | 139 => 154 | 138 => 153 | 53 => 29 | n => n, fun | 3 => 2 | 4 => 3 | n => n⟩
theorem Tryz.lays196 : Go.Proofs.Lays.n196 Tryz.prog Tryz.lays196_ren := {
  mixed := by kernel_rfl
  f196 := Tryz.func77.trans (congrArg some (by kernel_rfl))
  f259 := Tryz.func94.trans (congrArg some (by kernel_rfl))
  t0 := Tryz.underlying0
  a0 := Tryz.isAgg0
  z0 := Tryz.sizeOf0
  v0 := Tryz.zeroValue0
  t3 := Tryz.underlying3
  a3 := Tryz.isAgg3
  z3 := Tryz.sizeOf3
  v3 := Tryz.zeroValue3
  t4 := Tryz.underlying4
  a4 := Tryz.isAgg4
  z4 := Tryz.sizeOf4
  v4 := Tryz.zeroValue4
  t5 := Tryz.underlying5
  a5 := Tryz.isAgg5
  z5 := Tryz.sizeOf5
  v5 := Tryz.zeroValue5
  t9 := Tryz.underlying9
  a9 := Tryz.isAgg9
  z9 := Tryz.sizeOf9
  v9 := Tryz.zeroValue9
  t12 := Tryz.underlying12
  a12 := Tryz.isAgg12
  z12 := Tryz.sizeOf12
  v12 := Tryz.zeroValue12
  t46 := Tryz.underlying105
  a46 := Tryz.isAgg105
  z46 := Tryz.sizeOf105
  v46 := Tryz.zeroValue105
  t53 := Tryz.underlying29
  a53 := Tryz.isAgg29
  z53 := Tryz.sizeOf29
  v53 := Tryz.zeroValue29
  t119 := Tryz.underlying151
  a119 := Tryz.isAgg151
  z119 := Tryz.sizeOf151
  t138 := Tryz.underlying153
  a138 := Tryz.isAgg153
  z138 := Tryz.sizeOf153
  v138 := Tryz.zeroValue153
  t139 := Tryz.underlying154
  a139 := Tryz.isAgg154
  z139 := Tryz.sizeOf154
  v139 := Tryz.zeroValue154
  g3 := by kernel_rfl
  g4 := by kernel_rfl }
def Tryz.lays197_ren : Go.Shelf.Ren := ⟨fun | 197 => 85 | 260 => 97 | n => n, fun | 9 => 9 | 21 => 21 | 3 => 3 | 4 => 4 | 5 => 5 | 105 => 140 | 119 => 151 | 0 => 0 | 46 => 105 | 139 => 154 | 138 => 153 | n => n, fun | 3 => 2 | 4 => 3 | n => n⟩
theorem Tryz.lays197 : Go.Proofs.Lays.n197 Tryz.prog Tryz.lays197_ren := {
  mixed := by kernel_rfl
  f197 := Tryz.func85.trans (congrArg some (by kernel_rfl))
  f260 := Tryz.func97.trans (congrArg some (by kernel_rfl))
  t0 := Tryz.underlying0
  a0 := Tryz.isAgg0
  z0 := Tryz.sizeOf0
  v0 := Tryz.zeroValue0
  t3 := Tryz.underlying3
  a3 := Tryz.isAgg3
  z3 := Tryz.sizeOf3
  v3 := Tryz.zeroValue3
  t4 := Tryz.underlying4
  a4 := Tryz.isAgg4
  z4 := Tryz.sizeOf4
  v4 := Tryz.zeroValue4
  t5 := Tryz.underlying5
  a5 := Tryz.isAgg5
  z5 := Tryz.sizeOf5
  v5 := Tryz.zeroValue5
  t9 := Tryz.underlying9
  a9 := Tryz.isAgg9
  z9 := Tryz.sizeOf9
  v9 := Tryz.zeroValue9
  t21 := Tryz.underlying21
  a21 := Tryz.isAgg21
  z21 := Tryz.sizeOf21
  v21 := Tryz.zeroValue21
  t46 := Tryz.underlying105
  a46 := Tryz.isAgg105
  z46 := Tryz.sizeOf105
  v46 := Tryz.zeroValue105
  t105 := Tryz.underlying140
  a105 := Tryz.isAgg140
  z105 := Tryz.sizeOf140
  v105 := Tryz.zeroValue140
  t119 := Tryz.underlying151
  a119 := Tryz.isAgg151
  z119 := Tryz.sizeOf151
  t138 := Tryz.underlying153
  a138 := Tryz.isAgg153
  z138 := Tryz.sizeOf153
  v138 := Tryz.zeroValue153
  t139 := Tryz.underlying154
  a139 := Tryz.isAgg154
  z139 := Tryz.sizeOf154
  v139 := Tryz.zeroValue154
  g3 := by kernel_rfl
  g4 := by kernel_rfl }
theorem validGo_eq : ∀ (n : Nat) (l : List UInt8), l.length ≤ n → Lib.validGoD n l = vld l
  | 0, l, h => by rw [List.eq_nil_of_length_eq_zero (show l.length = 0 by omega), vld_nil]; rfl
  | n + 1, l, h => by
    rw [Lib.validGoD]
    by_cases h0 : l = []
    · rw [if_pos h0, h0, vld_nil]
    have hd : Lib.decodeL l = dec l 0 := rfl
    rw [if_neg h0, vld_ne h0, hd]
    have h1 := dec_pos l 0 (Nat.zero_le _)
    have h2 := List.length_pos_iff.2 h0
    by_cases hx : (dec l 0).1 = 65533 ∧ (dec l 0).2 = 1
    · rw [if_pos hx, decide_eq_false (by intro hn; exact hn (Prod.ext hx.1 hx.2))]; rfl
    · rw [if_neg hx, validGo_eq n _ (by rw [List.length_drop]; omega), decide_eq_true (by intro e; rw [e] at hx; exact hx ⟨rfl, rfl⟩)]; rfl
theorem validD_eq (l : List UInt8) : Lib.validD l = vld l := validGo_eq _ _ (Nat.le_refl _)
/-- the two tables of package utf8 lie in a heap -/
def TabsF (F : Hp) : Prop := (∀ c, c < 256 → Cells F ⟨2, c, none⟩ [.int .u8 (Lib.firstT c)]) ∧ (∀ i, i < 16 → Cells F ⟨3, 2 * i, none⟩ [.int .u8 (Lib.accLo i)] ∧ Cells F ⟨3, 2 * i + 1, none⟩ [.int .u8 (Lib.accHi i)])
theorem TabsF.mono {F F' : Hp} (h : TabsF F) (hl : Le F F') : TabsF F' := ⟨fun c hc => (h.1 c hc).mono hl, fun i hi => ⟨((h.2 i hi).1).mono hl, ((h.2 i hi).2).mono hl⟩⟩
theorem cell_of {w : World} {F : Hp} {ad : Addr} {v : Value} (h : Cells F ad [v]) (hl : Le F (hp w)) : w.cell? ad = some v := by
  have := (h.mono hl).cell (j := 0) (u := v) rfl
  rwa [add_zero'] at this
theorem TabsF.tabs {F : Hp} (h : TabsF F) {w : World} (hl : Le F (hp w)) : Lib.Utf8Tabs 2 3 w :=
  ⟨fun c hc => cell_of (h.1 c hc) hl, fun i hi => ⟨cell_of (h.2 i hi).1 hl, cell_of (h.2 i hi).2 hl⟩⟩
theorem valid_ct (F : Hp) (hT : TabsF F) (s : List UInt8) (hs : s.length ≤ 1000000) : Ct Tryz.prog 77 [Str s] [F] (fun _ : Unit => .bool (vld s)) (fun _ => True) (fun _ => [F]) := Ct.ofBelow fun w hw => by
  have h := Any.utf8_ValidString Tryz.lays196 ⟨s.toArray⟩ w (by rw [size_mk]; omega) (hT.tabs hw)
  rw [validD_eq] at h
  exact h
theorem decode_ct (F : Hp) (hT : TabsF F) (s : List UInt8) (hs : s ≠ []) : Ct Tryz.prog 85 [Str s] [F] (fun _ : Unit => .tuple #[.int .i32 ((dec s 0).1 : Nat), I ((dec s 0).2 : Nat)]) (fun _ => True) (fun _ => [F]) := Ct.ofBelow fun w hw => by
  have h := Any.utf8_DecodeRuneInString Tryz.lays197 ⟨s.toArray⟩ w (hT.tabs hw)
  have e : Lib.decodeGo ⟨s.toArray⟩ = dec s 0 := by unfold Lib.decodeGo; rw [size_mk, if_neg (by simpa using hs)]; rfl
  rw [e] at h
  exact h

end Go.Proofs.YtnkfapecbmmpeaaGreatDoor
