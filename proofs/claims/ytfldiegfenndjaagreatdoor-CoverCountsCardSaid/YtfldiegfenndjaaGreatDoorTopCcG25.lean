/- A part of the proof. -/
import Derived.Test.YtfldiegfenndjaaGreatDoorTopCcG9
import Derived.Shelf.Unicode.ValidAny
set_option linter.unusedSimpArgs false
set_option linter.unusedVariables false
namespace Go.Proofs.YtfldiegfenndjaaGreatDoor
open Go Go.Fw Go.Proofs.Tryz
set_option maxRecDepth 100000
set_option maxHeartbeats 1000000
open Go.Shelf Go.RowKit
def Tryz.lays196_ren : Go.Shelf.Ren := ⟨fun | 196 => 201 | 259 => 226 | n => n, fun | 9 => 9 | 4 => 4 | 3 => 3 | 5 => 5 | 12 => 12 | 119 => 333 | 0 => 0 | 46 => 94 | 139 => 336 | 138 => 335 | 53 => 36 | n => n, fun | 3 => 3 | 4 => 4 | n => n⟩
theorem Tryz.lays196 : Go.Proofs.Lays.n196 prog Tryz.lays196_ren := {
 mixed := by kernel_rfl
 f196 := func201.trans (congrArg some (by kernel_rfl))
 f259 := func226.trans (congrArg some (by kernel_rfl))
 t0 := u0_
 a0 := isAgg0
 z0 := sizeOf0
 v0 := e0_
 t3 := u3_
 a3 := b3_
 z3 := z3_
 v3 := e3_
 t4 := u4_
 a4 := b4_
 z4 := z4_
 v4 := e4_
 t5 := u5_
 a5 := b5_
 z5 := z5_
 v5 := e5_
 t9 := u9_
 a9 := b9_
 z9 := z9_
 v9 := e9_
 t12 := underlying12
 a12 := isAgg12
 z12 := sizeOf12
 v12 := zeroValue12
 t46 := qTO
 a46 := isAgg94
 z46 := sizeOf94
 v46 := qUJ
 t53 := qDu
 a53 := qBq
 z53 := qBQ
 v53 := zeroValue36
 t119 := underlying333
 a119 := isAgg333
 z119 := sizeOf333
 t138 := underlying335
 a138 := isAgg335
 z138 := sizeOf335
 v138 := zeroValue335
 t139 := underlying336
 a139 := isAgg336
 z139 := sizeOf336
 v139 := zeroValue336
 g3 := by kernel_rfl
 g4 := by kernel_rfl }
def Tryz.lays197_ren : Go.Shelf.Ren := ⟨fun | 197 => 209 | 260 => 229 | n => n, fun | 9 => 9 | 21 => 21 | 3 => 3 | 4 => 4 | 5 => 5 | 105 => 317 | 119 => 333 | 0 => 0 | 46 => 94 | 139 => 336 | 138 => 335 | n => n, fun | 3 => 3 | 4 => 4 | n => n⟩
theorem Tryz.lays197 : Go.Proofs.Lays.n197 prog Tryz.lays197_ren := {
 mixed := by kernel_rfl
 f197 := func209.trans (congrArg some (by kernel_rfl))
 f260 := func229.trans (congrArg some (by kernel_rfl))
 t0 := u0_
 a0 := isAgg0
 z0 := sizeOf0
 v0 := e0_
 t3 := u3_
 a3 := b3_
 z3 := z3_
 v3 := e3_
 t4 := u4_
 a4 := b4_
 z4 := z4_
 v4 := e4_
 t5 := u5_
 a5 := b5_
 z5 := z5_
 v5 := e5_
 t9 := u9_
 a9 := b9_
 z9 := z9_
 v9 := e9_
 t21 := underlying21
 a21 := isAgg21
 z21 := sizeOf21
 v21 := zeroValue21
 t46 := qTO
 a46 := isAgg94
 z46 := sizeOf94
 v46 := qUJ
 t105 := underlying317
 a105 := isAgg317
 z105 := sizeOf317
 v105 := zeroValue317
 t119 := underlying333
 a119 := isAgg333
 z119 := sizeOf333
 t138 := underlying335
 a138 := isAgg335
 z138 := sizeOf335
 v138 := zeroValue335
 t139 := underlying336
 a139 := isAgg336
 z139 := sizeOf336
 v139 := zeroValue336
 g3 := by kernel_rfl
 g4 := by kernel_rfl }
theorem qGB : ∀ (n : Nat) (l : List UInt8), l.length ≤ n → Lib.validGoD n l = vld l
 | 0, l, h => by rw [List.eq_nil_of_length_eq_zero (show l.length = 0 by omega), qIk]; rfl
 | n + 1, l, h => by
  rw [Lib.validGoD]
  by_cases h0 : l = []
  · rw [if_pos h0, h0, qIk]
  have hd : Lib.decodeL l = dec l 0 := rfl
  rw [if_neg h0, qME h0, hd]
  have h1 := qDn l 0 (Nat.zero_le _)
  have h2 := List.length_pos_iff.2 h0
  by_cases hx : (dec l 0).1 = 65533 ∧ (dec l 0).2 = 1
  · rw [if_pos hx, decide_eq_false (by intro hn; exact hn (Prod.ext hx.1 hx.2))]; rfl
  · rw [if_neg hx, qGB n _ (by rw [List.length_drop]; omega), decide_eq_true (by intro e; rw [e] at hx; exact hx ⟨rfl, rfl⟩)]; rfl
theorem qMJ (l : List UInt8) : Lib.validD l = vld l := qGB _ _ (Nat.le_refl _)
def qCX (F : Hp) : Prop := (∀ c, c < 256 → qAV F ⟨3, c, none⟩ [.int .u8 (Lib.firstT c)]) ∧ (∀ i, i < 16 → qAV F ⟨4, 2 * i, none⟩ [.int .u8 (Lib.accLo i)] ∧ qAV F ⟨4, 2 * i + 1, none⟩ [.int .u8 (Lib.accHi i)])
theorem qCX.mono {F F' : Hp} (h : qCX F) (hl : Le F F') : qCX F' := ⟨fun c hc => (h.1 c hc).mono hl, fun i hi => ⟨((h.2 i hi).1).mono hl, ((h.2 i hi).2).mono hl⟩⟩
theorem qJH {w : World} {F : Hp} {ad : Addr} {v : Value} (h : qAV F ad [v]) (hl : Le F (hp w)) : w.cell? ad = some v := by
 have := (h.mono hl).cell (j := 0) (u := v) rfl
 rwa [qCJ] at this
theorem qCX.tabs {F : Hp} (h : qCX F) {w : World} (hl : Le F (hp w)) : Lib.Utf8Tabs 3 4 w :=
 ⟨fun c hc => qJH (h.1 c hc) hl, fun i hi => ⟨qJH (h.2 i hi).1 hl, qJH (h.2 i hi).2 hl⟩⟩
theorem qOk (F : Hp) (hT : qCX F) (s : List UInt8) (hs : s.length ≤ 1000000) : Ct prog 201 [Str s] [F] (fun _ : Unit => .bool (vld s)) (fun _ => True) (fun _ => [F]) := Ct.ofBelow fun w hw => by
 have h := Any.utf8_ValidString Tryz.lays196 ⟨s.toArray⟩ w (by rw [qCQ]; omega) (hT.tabs hw)
 rw [qMJ] at h
 exact h
theorem qNz (F : Hp) (hT : qCX F) (s : List UInt8) (hs : s ≠ []) : Ct prog 209 [Str s] [F] (fun _ : Unit => .tuple #[.int .i32 ((dec s 0).1 : Nat), I ((dec s 0).2 : Nat)]) (fun _ => True) (fun _ => [F]) := Ct.ofBelow fun w hw => by
 have h := Any.utf8_DecodeRuneInString Tryz.lays197 ⟨s.toArray⟩ w (hT.tabs hw)
 have e : Lib.decodeGo ⟨s.toArray⟩ = dec s 0 := by unfold Lib.decodeGo; rw [qCQ, if_neg (by simpa using hs)]; rfl
 rw [e] at h
 exact h
end Go.Proofs.YtfldiegfenndjaaGreatDoor
