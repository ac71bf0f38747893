/- A part of the proof: contracts of functions of the program, each for every state of the heaps that it names. -/
import Derived.Test.YtpcffgkmpmcobaaDoorLbp
import Derived.Shelf.Unicode.ValidAny
set_option linter.unusedSimpArgs false
set_option linter.unusedVariables false
namespace Go.Proofs.YtpcffgkmpmcobaaDoor
open Go Go.Fw
set_option maxRecDepth 100000
set_option maxHeartbeats 1000000
open Go.Shelf Go.RowKit
def Tryd.lays196_ren : Go.Shelf.Ren := ⟨fun | 196 => 84 | 259 => 130 | n => n, fun | 9 => 9 | 4 => 4 | 3 => 3 | 5 => 5 | 12 => 12 | 119 => 182 | 0 => 0 | 46 => 159 | 139 => 185 | 138 => 184 | 53 => 134 | n => n, fun | 3 => 1 | 4 => 2 | n => n⟩
theorem Tryd.lays196 : Go.Proofs.Lays.n196 Tryd.prog Tryd.lays196_ren := {
  mixed := by kernel_rfl
  f196 := Tryd.func84.trans (congrArg some (by kernel_rfl))
  f259 := Tryd.func130.trans (congrArg some (by kernel_rfl))
  t0 := Tryd.underlying0
  a0 := Tryd.isAgg0
  z0 := Tryd.sizeOf0
  v0 := Tryd.zeroValue0
  t3 := Tryd.underlying3
  a3 := Tryd.isAgg3
  z3 := Tryd.sizeOf3
  v3 := Tryd.zeroValue3
  t4 := Tryd.underlying4
  a4 := Tryd.isAgg4
  z4 := Tryd.sizeOf4
  v4 := Tryd.zeroValue4
  t5 := Tryd.underlying5
  a5 := Tryd.isAgg5
  z5 := Tryd.sizeOf5
  v5 := Tryd.zeroValue5
  t9 := Tryd.underlying9
  a9 := Tryd.isAgg9
  z9 := Tryd.sizeOf9
  v9 := Tryd.zeroValue9
  t12 := Tryd.underlying12
  a12 := Tryd.isAgg12
  z12 := Tryd.sizeOf12
  v12 := Tryd.zeroValue12
  t46 := Tryd.underlying159
  a46 := Tryd.isAgg159
  z46 := Tryd.sizeOf159
  v46 := Tryd.zeroValue159
  t53 := Tryd.underlying134
  a53 := Tryd.isAgg134
  z53 := Tryd.sizeOf134
  v53 := Tryd.zeroValue134
  t119 := Tryd.underlying182
  a119 := Tryd.isAgg182
  z119 := Tryd.sizeOf182
  t138 := Tryd.underlying184
  a138 := Tryd.isAgg184
  z138 := Tryd.sizeOf184
  v138 := Tryd.zeroValue184
  t139 := Tryd.underlying185
  a139 := Tryd.isAgg185
  z139 := Tryd.sizeOf185
  v139 := Tryd.zeroValue185
  g3 := by kernel_rfl
  g4 := by kernel_rfl }
def Tryd.lays197_ren : Go.Shelf.Ren := ⟨fun | 197 => 89 | 260 => 131 | n => n, fun | 9 => 9 | 21 => 21 | 3 => 3 | 4 => 4 | 5 => 5 | 105 => 123 | 119 => 182 | 0 => 0 | 46 => 159 | 139 => 185 | 138 => 184 | n => n, fun | 3 => 1 | 4 => 2 | n => n⟩
theorem Tryd.lays197 : Go.Proofs.Lays.n197 Tryd.prog Tryd.lays197_ren := {
  mixed := by kernel_rfl
  f197 := Tryd.func89.trans (congrArg some (by kernel_rfl))
  f260 := Tryd.func131.trans (congrArg some (by kernel_rfl))
  t0 := Tryd.underlying0
  a0 := Tryd.isAgg0
  z0 := Tryd.sizeOf0
  v0 := Tryd.zeroValue0
  t3 := Tryd.underlying3
  a3 := Tryd.isAgg3
  z3 := Tryd.sizeOf3
  v3 := Tryd.zeroValue3
  t4 := Tryd.underlying4
  a4 := Tryd.isAgg4
  z4 := Tryd.sizeOf4
  v4 := Tryd.zeroValue4
  t5 := Tryd.underlying5
  a5 := Tryd.isAgg5
  z5 := Tryd.sizeOf5
  v5 := Tryd.zeroValue5
  t9 := Tryd.underlying9
  a9 := Tryd.isAgg9
  z9 := Tryd.sizeOf9
  v9 := Tryd.zeroValue9
  t21 := Tryd.underlying21
  a21 := Tryd.isAgg21
  z21 := Tryd.sizeOf21
  v21 := Tryd.zeroValue21
  t46 := Tryd.underlying159
  a46 := Tryd.isAgg159
  z46 := Tryd.sizeOf159
  v46 := Tryd.zeroValue159
  t105 := Tryd.underlying123
  a105 := Tryd.isAgg123
  z105 := Tryd.sizeOf123
  v105 := Tryd.zeroValue123
  t119 := Tryd.underlying182
  a119 := Tryd.isAgg182
  z119 := Tryd.sizeOf182
  t138 := Tryd.underlying184
  a138 := Tryd.isAgg184
  z138 := Tryd.sizeOf184
  v138 := Tryd.zeroValue184
  t139 := Tryd.underlying185
  a139 := Tryd.isAgg185
  z139 := Tryd.sizeOf185
  v139 := Tryd.zeroValue185
  g3 := by kernel_rfl
  g4 := by kernel_rfl }
theorem validGo_eq : ∀ (n : Nat) (l : List UInt8), l.length ≤ n → Lib.validGoD n l = vld l
  | 0, l, h => by rw [List.eq_nil_of_length_eq_zero (show l.length = 0 by omega), vld_nil]; rfl
  | n + 1, l, h => by
    rw [Lib.validGoD]
    by_cases h0 : l = []
    · rw [if_pos h0, h0, vld_nil]
    have hd : Lib.decodeL l = dec l 0 := rfl
    rw [if_neg h0, vld_ne h0, hd]
    have h1 := dec_pos l 0 (Nat.zero_le _)
    have h2 := List.length_pos_iff.2 h0
    by_cases hx : (dec l 0).1 = 65533 ∧ (dec l 0).2 = 1
    · rw [if_pos hx, decide_eq_false (by intro hn; exact hn (Prod.ext hx.1 hx.2))]; rfl
    · rw [if_neg hx, validGo_eq n _ (by rw [List.length_drop]; omega), decide_eq_true (by intro e; rw [e] at hx; exact hx ⟨rfl, rfl⟩)]; rfl
theorem validD_eq (l : List UInt8) : Lib.validD l = vld l := validGo_eq _ _ (Nat.le_refl _)
/-- the two tables of package utf8 lie in a heap -/
def TabsF (F : Hp) : Prop := (∀ c, c < 256 → Cells F ⟨1, c, none⟩ [.int .u8 (Lib.firstT c)]) ∧ (∀ i, i < 16 → Cells F ⟨2, 2 * i, none⟩ [.int .u8 (Lib.accLo i)] ∧ Cells F ⟨2, 2 * i + 1, none⟩ [.int .u8 (Lib.accHi i)])
theorem TabsF.mono {F F' : Hp} (h : TabsF F) (hl : Le F F') : TabsF F' := ⟨fun c hc => (h.1 c hc).mono hl, fun i hi => ⟨((h.2 i hi).1).mono hl, ((h.2 i hi).2).mono hl⟩⟩
theorem cell_of {w : World} {F : Hp} {ad : Addr} {v : Value} (h : Cells F ad [v]) (hl : Le F (hp w)) : w.cell? ad = some v := by
  have := (h.mono hl).cell (j := 0) (u := v) rfl
  rwa [add_zero'] at this
theorem TabsF.tabs {F : Hp} (h : TabsF F) {w : World} (hl : Le F (hp w)) : Lib.Utf8Tabs 1 2 w :=
  ⟨fun c hc => cell_of (h.1 c hc) hl, fun i hi => ⟨cell_of (h.2 i hi).1 hl, cell_of (h.2 i hi).2 hl⟩⟩
theorem valid_ct (F : Hp) (hT : TabsF F) (s : List UInt8) (hs : s.length ≤ 1000000) : Ct Tryd.prog 84 [Str s] [F] (fun _ : Unit => .bool (vld s)) (fun _ => True) (fun _ => [F]) := Ct.ofBelow fun w hw => by
  have h := Any.utf8_ValidString Tryd.lays196 ⟨s.toArray⟩ w (by rw [size_mk]; omega) (hT.tabs hw)
  rw [validD_eq] at h
  exact h
theorem decode_ct (F : Hp) (hT : TabsF F) (s : List UInt8) (hs : s ≠ []) : Ct Tryd.prog 89 [Str s] [F] (fun _ : Unit => .tuple #[.int .i32 ((dec s 0).1 : Nat), I ((dec s 0).2 : Nat)]) (fun _ => True) (fun _ => [F]) := Ct.ofBelow fun w hw => by
  have h := Any.utf8_DecodeRuneInString Tryd.lays197 ⟨s.toArray⟩ w (hT.tabs hw)
  have e : Lib.decodeGo ⟨s.toArray⟩ = dec s 0 := by unfold Lib.decodeGo; rw [size_mk, if_neg (by simpa using hs)]; rfl
  rw [e] at h
  exact h

end Go.Proofs.YtpcffgkmpmcobaaDoor
