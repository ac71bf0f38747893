/- A part of the proof: contracts of functions of the program, each for every state of the heaps that it names. -/
import Derived.Test.YtnkfapecbmmpeaaGreatDoorEnt
set_option linter.unusedSimpArgs false
set_option linter.unusedVariables false
namespace Go.Proofs.YtnkfapecbmmpeaaGreatDoor
open Go Go.Fw
set_option maxRecDepth 100000
set_option maxHeartbeats 1000000

theorem en_inv {v : Nat} {o r : List UInt8} {h : Int} {p : List UInt8} (he : enErr v o r h p = 0) : 1 ≤ v ∧ v ≤ 4294967295 ∧ (0 ≤ h ∧ h ≤ 6) ∧ o.length = 16 ∧ r.length = 16 ∧ p.length = 16 := by
  unfold enErr at he
  split at he
  · omega
  · split at he
    · rename_i h1 h2
      have h3 := h2.1
      unfold pubErr at h3
      split at h3
      · rename_i h4
        have h5 := h4
        unfold pubOk at h5
        omega
      · omega
    · omega
theorem de_enc {v : Nat} {o r : List UInt8} {h : Int} {p : List UInt8} (he : enErr v o r h p = 0) : deV (enEnc v o r h p) = .tuple #[.agg #[N64 v, Str o, Str r, I h, Str p], I 0] := by
  obtain ⟨h1, h2, ⟨h3, h4⟩, ho, hr, hp⟩ := en_inv he
  rw [(en_0 (by omega) (by omega) (by omega) (by omega) ho hr hp).2]
  obtain ⟨k, rfl⟩ := Int.eq_ofNat_of_zero_le h3
  have hk : k ≤ 6 := by omega
  generalize hN : Sha.numB (UInt64.ofNat v) 4 = N
  have hNl : N.length = 4 := by rw [← hN, Sha.numB_length]
  have hNv : natB N = v := by rw [← hN, natB_numB v (by omega) 4 (by omega)]; exact Nat.mod_eq_of_lt (by omega)
  have hh : ((k : Int).toNat) = k := Int.toNat_natCast k
  rw [hh]
  generalize hc : UInt8.ofNat k = c
  have hcn : c.toNat = k := by rw [← hc, UInt8.toNat_ofNat']; exact Nat.mod_eq_of_lt (by omega)
  have hs : N ++ o ++ r ++ [c] ++ p = N ++ ((o ++ (r ++ [c])) ++ p) := by simp
  rw [hs]
  generalize hS : N ++ ((o ++ (r ++ [c])) ++ p) = s
  have hl : s.length = 53 := by rw [← hS]; simp only [List.length_append, List.length_singleton]; omega
  have hK : deK s = o ++ (r ++ [c]) := by
    unfold deK
    rw [← hS, List.drop_left' hNl, List.take_left' (by simp only [List.length_append, List.length_singleton]; omega)]
  have h37 : (s.drop 37).take 16 = p := by
    rw [← hS, ← List.append_assoc, List.drop_left' (by simp only [List.length_append, List.length_singleton]; omega), List.take_of_length_le (by omega)]
  have hg : s.getD 36 0 = c := by
    rw [← deK_get, hK, ← List.append_assoc, List.getD_eq_getElem?_getD, List.getElem?_append_right (by simp only [List.length_append]; omega)]
    simp [ho, hr]
  have hKe : dpE (deK s) = 0 := by rw [deK_e hl, hg, if_neg (by omega)]
  have hE : deE s = 0 := by rw [de_v hl hKe, ← hS, List.take_left' hNl, hNv, if_neg (by omega)]
  unfold deV deN deO deR deH deP
  rw [hE, if_pos rfl, if_pos rfl, if_pos rfl, if_pos rfl, if_pos rfl, h37]
  unfold dpO dpR dpH
  rw [hKe, if_pos rfl, if_pos rfl, if_pos rfl, deK_get, hg, hcn, hK, List.take_left' ho, List.drop_left' ho, List.take_left' hr, ← hS, List.take_left' hNl, hNv]
theorem zero4 {l : List UInt8} (hl : l.length = 4) : natB l < 1 ↔ l = [0, 0, 0, 0] := by
  constructor
  · intro h
    have h1 := numB_natB l (by omega)
    rw [show natB l = 0 by omega, hl] at h1
    rw [← h1]; decide
  · rintro rfl; decide
theorem enc_de {s : List UInt8} (h : deE s = 0) : enErr (deN s) (deO s) (deR s) (deH s) (deP s) = 0 ∧ enEnc (deN s) (deO s) (deR s) (deH s) (deP s) = s := by
  have hl : s.length = 53 := by
    unfold deE at h
    split at h
    · omega
    · split at h <;> omega
  have hKe : dpE (deK s) = 0 := by
    by_cases h1 : dpE (deK s) = 0
    · exact h1
    · rw [de_4 hl h1] at h; exact h
  have hv := de_v hl hKe
  rw [h] at hv
  have hKl := deK_len hl
  have h4l : (s.take 4).length = 4 := by rw [List.length_take]; omega
  have hlt := natB_lt (s.take 4)
  rw [h4l] at hlt
  have hv1 : ¬ natB (s.take 4) < 1 := fun hc => by rw [if_pos hc] at hv; omega
  have h6 : ¬ 6 < (s.getD 36 0).toNat := fun hc => by rw [deK_e hl, if_pos hc] at hKe; omega
  unfold deN deO deR deH deP
  rw [h, if_pos rfl, if_pos rfl, if_pos rfl, if_pos rfl, if_pos rfl]
  unfold dpO dpR dpH
  rw [hKe, if_pos rfl, if_pos rfl, if_pos rfl, deK_get]
  have e := en_0 (v := natB (s.take 4)) (o := (deK s).take 16) (r := ((deK s).drop 16).take 16) (h := ((s.getD 36 0).toNat : Int)) (p := (s.drop 37).take 16) (by omega) (by omega) (by omega) (by omega) (by rw [List.length_take]; omega) (by rw [List.length_take, List.length_drop]; omega) (by rw [List.length_take, List.length_drop]; omega)
  refine ⟨e.1, e.2.trans ?_⟩
  have hn := numB_natB (s.take 4) (by omega)
  rw [h4l] at hn
  rw [hn, Int.toNat_natCast]
  have hc : UInt8.ofNat (s.getD 36 0).toNat = s.getD 36 0 := by
    apply UInt8.toNat_inj.1
    rw [UInt8.toNat_ofNat']; exact Nat.mod_eq_of_lt (s.getD 36 0).toNat_lt
  rw [hc]
  have h32 : (deK s).drop 32 = [s.getD 36 0] := by
    rw [List.drop_eq_getElem_cons (show 32 < (deK s).length by omega), List.drop_of_length_le (by omega), ← deK_get, List.getD_eq_getElem?_getD, List.getElem?_eq_getElem (show 32 < (deK s).length by omega)]; rfl
  have e1 : (deK s).take 16 ++ (((deK s).drop 16).take 16 ++ [s.getD 36 0]) = deK s := by
    rw [← h32, show (deK s).drop 32 = ((deK s).drop 16).drop 16 by rw [List.drop_drop], List.take_append_drop, List.take_append_drop]
  have e2 : deK s ++ (s.drop 37).take 16 = s.drop 4 := by
    rw [List.take_of_length_le (by rw [List.length_drop]; omega)]
    unfold deK
    rw [show s.drop 37 = (s.drop 4).drop 33 by rw [List.drop_drop], List.take_append_drop]
  rw [show ∀ N O R C P : List UInt8, N ++ O ++ R ++ C ++ P = N ++ ((O ++ (R ++ C)) ++ P) by intro N O R C P; simp, e1, e2, List.take_append_drop]

end Go.Proofs.YtnkfapecbmmpeaaGreatDoor
