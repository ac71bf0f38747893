/- A part of the proof. -/
import Derived.Test.YtfldiegfenndjaaGreatDoorTopCcG35
import Derived.Test.YtfldiegfenndjaaGreatDoorTopCcG30
set_option linter.unusedSimpArgs false
set_option linter.unusedVariables false
namespace Go.Proofs.YtfldiegfenndjaaGreatDoor
open Go Go.Fw Go.Proofs.Tryz
set_option maxRecDepth 100000
set_option maxHeartbeats 1000000
attribute [local irreducible] Xm.root Wo.opn Sha.tagged Sm.nd SN.tagN
theorem qS5 : qDU [120, 97] = 0 := by
 unfold qDU
 rw [show normal [120, 97] = ([120, 97], 0) from qCi (l := [120, 97]) (by decide) (by decide) (by decide)]; rfl
theorem qS4 : qDU [120, 98] = 0 := by
 unfold qDU
 rw [show normal [120, 98] = ([120, 98], 0) from qCi (l := [120, 98]) (by decide) (by decide) (by decide)]; rfl
theorem qS3 : qDU [120, 99] = 0 := by
 unfold qDU
 rw [show normal [120, 99] = ([120, 99], 0) from qCi (l := [120, 99]) (by decide) (by decide) (by decide)]; rfl
theorem qS2 : qDU [120, 100] = 0 := by
 unfold qDU
 rw [show normal [120, 100] = ([120, 100], 0) from qCi (l := [120, 100]) (by decide) (by decide) (by decide)]; rfl
theorem qS1 : qDU [120, 101] = 0 := by
 unfold qDU
 rw [show normal [120, 101] = ([120, 101], 0) from qCi (l := [120, 101]) (by decide) (by decide) (by decide)]; rfl
def wN (j : Nat) : List UInt8 := [120] ++ [UInt8.ofNat (97 + j)]
theorem codeX {i : Nat} (hi : i < 5) : qDU (wN i) = 0 := by
 match i, hi with
 | 0, _ => exact qS5
 | 1, _ => exact qS4
 | 2, _ => exact qS3
 | 3, _ => exact qS2
 | 4, _ => exact qS1
def wA (j : Nat) : Aud := ⟨wN j, Wo.opn (qAI j), Xm.root (qAI j) 2, 2⟩
def wL (i : Nat) : List Aud := (List.range i).map wA
theorem qRR (i : Nat) : wL (i + 1) = wL i ++ [wA i] := by unfold wL; rw [List.range_succ, List.map_append]; rfl
theorem qJW (i : Nat) : (wL i).length = i := by unfold wL; rw [List.length_map, List.length_range]
theorem qQo {i j : Nat} (h : j < i) : (wL i).getD j qBV = wA j := by
 unfold wL
 rw [List.getD_eq_getElem?_getD, List.getElem?_map, List.getElem?_range h]; rfl
def qDy : List (List Nat) := [[22, 164, 247, 0, 48, 253, 180, 71, 220, 85, 164, 252, 188, 160, 204, 90], [101, 12, 161, 181, 223, 198, 74, 60, 112, 220, 105, 68, 168, 64, 74, 68], [146, 83, 211, 224, 30, 128, 154, 79, 165, 236, 208, 225, 73, 13, 246, 50], [148, 225, 153, 219, 213, 181, 119, 81, 164, 172, 175, 225, 88, 150, 136, 15], [70, 197, 109, 249, 108, 48, 180, 93, 6, 9, 118, 143, 33, 233, 157, 204]]
theorem qRx {i : Nat} (hi : i < 5) : (Xm.root (qAI i) 2).map UInt8.toNat = qDy.getD i [] := by
 match i, hi with
 | 0, _ => exact qGw
 | 1, _ => exact qGv
 | 2, _ => exact qGu
 | 3, _ => exact qGt
 | 4, _ => exact qGs
theorem qMn : ∀ i j : Fin 5, i ≠ j → qDy.getD i.val [] ≠ qDy.getD j.val [] := by decide +kernel
theorem qO8 {i j : Nat} (hi : i < 5) (hj : j < 5) (h : i ≠ j) : Xm.root (qAI i) 2 ≠ Xm.root (qAI j) 2 := fun e =>
 qMn ⟨i, hi⟩ ⟨j, hj⟩ (fun q => h (congrArg Fin.val q)) (by rw [← qRx hi, ← qRx hj, e])
theorem qK3 : ∀ i : Fin 5, (qDy.getD i.val []).length = 16 := by decide
theorem qCb {i : Nat} (hi : i < 5) : (Xm.root (qAI i) 2).length = 16 := by
 have h := congrArg List.length (qRx hi)
 rw [List.length_map] at h
 rw [h]
 exact qK3 ⟨i, hi⟩
theorem qMB {i : Nat} (hi : i < 5) : qBd (Wo.opn (qAI i)) (Xm.root (qAI i) 2) 2 = 0 := if_pos ⟨by decide, by decide, Wo.opn_length _, qCb hi⟩
theorem qTI {i : Nat} (hi : i < 5) : qIV (wL i) (wN i) (Wo.opn (qAI i)) (Xm.root (qAI i) 2) 2 = 0 := by
  have hm : qPs (wN i) (Wo.opn (qAI i)) (Xm.root (qAI i) 2) 2 = 0 := by
    unfold qPs
    rw [codeX hi, if_neg (by decide), qMB hi]
  unfold qIV
  rw [hm, if_neg (by decide), if_neg, if_neg (by rw [qJW]; omega)]
  intro h
  obtain ⟨x, hx, hs⟩ := List.any_eq_true.1 h
  obtain ⟨j, hj, rfl⟩ := List.mem_map.1 hx
  have hji := List.mem_range.1 hj
  unfold same wA wN at hs
  dsimp only at hs
  rw [Bool.or_eq_true, decide_eq_true_eq, decide_eq_true_eq] at hs
  rcases hs with hs | ⟨_, hs, _⟩
  · injection hs with _ hs
    injection hs with hs _
    have := congrArg UInt8.toNat hs
    rw [UInt8.toNat_ofNat', UInt8.toNat_ofNat'] at this
    omega
  · exact qO8 (by omega) hi (by omega) hs
theorem qRH {i : Nat} (hi : i < 5) : qON (wL i) (wN i) (Wo.opn (qAI i)) (Xm.root (qAI i) 2) 2 = wL (i + 1) := by
 unfold qON
 rw [if_pos (qTI hi), qRR]; rfl
theorem qTT {i : Nat} (hi : i < 5) : qTB (wA i) = qBN i := by
 have e : qTB (wA i) = if qBd (Wo.opn (qAI i)) (Xm.root (qAI i) 2) 2 = 0 then Sha.tagged 16 [wN i, qBe (Wo.opn (qAI i)) (Xm.root (qAI i) 2) 2] else [] := rfl
 rw [e, if_pos (qMB hi)]
 unfold qBe
 rw [if_pos ⟨by decide, by decide, Wo.opn_length _, qCb hi⟩]; rfl
theorem qP3 {i : Nat} (hi : i < 5) : qAM i = qBO i := by
 unfold qAM qBO
 rw [show i / 256 = 0 by omega]; rfl
theorem lay_w {a : Nat} (h : a ≤ 5) : qSk [] (wL a) a = qAD a := by
 rw [qNY _ a (by omega)]
 unfold qAD
 refine List.map_congr_left fun i hi => ?_
 have hia := List.mem_range.1 hi
 rw [qQo hia, qTT (by omega), qP3 (by omega)]
theorem qOe {a : Nat} (h : a ≤ 5) : ∀ x ∈ wL a, x.nm.length ≤ 1000000 ∧ x.op.length ≤ 1048576 ∧ x.rt.length ≤ 1048576 := fun x hx => by
 obtain ⟨j, hj, rfl⟩ := List.mem_map.1 hx
 have hja := List.mem_range.1 hj
 refine ⟨Nat.le_of_ble_eq_true rfl, ?_, ?_⟩
 · show (Wo.opn (qAI j)).length ≤ _; rw [Wo.opn_length]; decide
 · show (Xm.root (qAI j) 2).length ≤ _; rw [qCb (by omega)]; decide
end Go.Proofs.YtfldiegfenndjaaGreatDoor
