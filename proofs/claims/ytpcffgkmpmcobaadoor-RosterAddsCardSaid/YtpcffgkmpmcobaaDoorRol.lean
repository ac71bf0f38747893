/- A part of the proof: contracts of functions of the program, each for every state of the heaps that it names. -/
import Derived.Test.YtpcffgkmpmcobaaDoorRsq
set_option linter.unusedSimpArgs false
set_option linter.unusedVariables false
namespace Go.Proofs.YtpcffgkmpmcobaaDoor
open Go Go.Fw
set_option maxRecDepth 100000
set_option maxHeartbeats 1000000
theorem map_self : ∀ {l : List Nat}, l.map small = l ↔ l.all (fun r => decide (small r = r)) = true
  | [] => ⟨fun _ => rfl, fun _ => rfl⟩
  | r :: l => by
    rw [List.map_cons, List.all_cons, Bool.and_eq_true, ← map_self (l := l), decide_eq_true_eq]
    exact ⟨fun h => by injection h with h1 h2; exact ⟨h1, h2⟩, fun ⟨h1, h2⟩ => by rw [h1, h2]⟩
theorem own_code (s : List UInt8) : ownN s = codeN s := by
  unfold ownN codeN
  rw [normal_why]
  by_cases hw : whyN s = 0
  · have hw2 : ¬ whyN s ≠ 0 := fun q => q hw
    rw [if_neg hw2, if_neg hw2]
    obtain ⟨x, hx⟩ : ∃ x, normal s = (x, 0) := ⟨(normal s).1, Prod.ext rfl (by dsimp only; rw [normal_why]; exact hw)⟩
    obtain ⟨l, q1, q2, q3, q4, q5, q6, hv⟩ := normal_ok hx
    have hro : rlo s = rl s := by unfold rlo; rw [if_pos hv]
    have hs := (vld_runes hv).2
    rw [hx, hro]
    dsimp only
    by_cases h : (rl s).map small = rl s
    · rw [if_pos (map_self.1 h), if_neg (by rw [q2, q4, h, ← hs]; exact fun h => h rfl)]
    · rw [if_neg (fun e => h (map_self.2 e)), if_pos]
      intro e
      refine h ?_
      rw [← q4, ← rl_of q1, ← q2, e]
  · rw [if_pos hw, if_pos hw]
theorem keyO_len (k : UInt8) : (keyO k).length = 16 := rfl
theorem key_err (k : UInt8) (h : Int) : pubErr (keyO k) z16 h = if h < 0 ∨ 6 < h then 10 else 0 := by
  unfold pubErr
  by_cases hh : h < 0 ∨ 6 < h
  · rw [if_neg (show ¬ pubOk (keyO k) z16 h from fun q => by unfold pubOk at q; omega), if_pos hh]
  · rw [if_pos (show pubOk (keyO k) z16 h from ⟨by omega, by omega, rfl, rfl⟩), if_neg hh]
def toA (x : Lau) : Aud := ⟨x.nm, keyO x.key, z16, x.ht⟩
theorem keyO_inj {a b : UInt8} : keyO a = keyO b ↔ a = b := ⟨fun h => by injection h, fun h => by rw [h]⟩
def hit (x y : Lau) : Bool := decide (y.nm = x.nm ∨ y.key = x.key ∧ y.ht = x.ht)
theorem same_hit (x y : Lau) : same x.nm (keyO x.key) z16 x.ht (toA y) = hit x y := by
  unfold same hit toA
  dsimp only
  rw [Bool.eq_iff_iff, Bool.or_eq_true, decide_eq_true_eq, decide_eq_true_eq, decide_eq_true_eq, keyO_inj]
  simp
theorem any_hit (x : Lau) (m : List Lau) : (m.map toA).any (same x.nm (keyO x.key) z16 x.ht) = m.any (hit x) := by
  rw [List.any_map]; congr 1; funext y; exact same_hit x y
/-- what stops it ahead of the others: its name, its height -/
def wa0 (x : Lau) : Nat := if ownN x.nm = 0 ∧ (x.ht < 0 ∨ 6 < x.ht) then 10 else ownN x.nm
theorem own_le (s : List UInt8) : ownN s ≤ 5 := by
  unfold ownN whyN
  (repeat' split) <;> omega
theorem may_wa0 (x : Lau) : mayE x.nm (keyO x.key) z16 x.ht = ((wa0 x : Nat) : Int) := by
  unfold mayE wa0
  rw [← own_code, key_err]
  by_cases h : ownN x.nm = 0
  · rw [if_neg (by omega)]
    by_cases h2 : x.ht < 0 ∨ 6 < x.ht
    · rw [if_pos h2, if_pos ⟨h, h2⟩]; rfl
    · rw [if_neg h2, if_neg (fun q => h2 q.2), h]; rfl
  · rw [if_pos h, if_neg (fun q => h q.1)]
/-- .. and as far as the first k others -/
def wa1 (x : Lau) (m : List Lau) (k : Nat) : Nat := if wa0 x ≠ 0 then wa0 x else if (m.take k).any (hit x) = true then 19 else 0
theorem wa1_zero (x : Lau) (m : List Lau) : wa1 x m 0 = wa0 x := by
  unfold wa1
  by_cases h : wa0 x = 0
  · rw [if_neg (by omega), if_neg (by simp), h]
  · rw [if_pos h]
theorem wa1_step {x : Lau} {m : List Lau} {k : Nat} (hk : k < m.length) (h : wa1 x m k = 0) : wa1 x m (k + 1) = if hit x (m.getD k noLau) = true then 19 else 0 := by
  unfold wa1 at h ⊢
  by_cases hw : wa0 x = 0
  · rw [if_neg (by omega)] at h ⊢
    have h1 : (m.take k).any (hit x) = false := by
      rw [Bool.eq_false_iff]; intro h1; rw [if_pos h1] at h; cases h
    rw [List.take_succ_eq_append_getElem hk, List.any_append, h1, Bool.false_or, List.getD_eq_getElem?_getD, List.getElem?_eq_getElem hk]
    simp
  · rw [if_pos hw] at h; exact absurd h hw
theorem wa1_le (x : Lau) (m : List Lau) (k : Nat) : wa1 x m k ≤ 19 := by
  have := own_le x.nm
  unfold wa1 wa0
  (repeat' split) <;> omega
theorem wa1_fin {x : Lau} {m : List Lau} {k : Nat} (hk : k ≤ m.length) (h : wa1 x m k = 0 → k = m.length) (hm : m.length ≤ 64) :
    addE (m.map toA) x.nm (keyO x.key) z16 x.ht = (((if wa1 x m k = 0 ∧ m.length = 64 then 9 else wa1 x m k) : Nat) : Int) := by
  unfold addE
  rw [may_wa0, any_hit, List.length_map]
  by_cases hw : wa0 x = 0
  · rw [if_neg (by omega)]
    by_cases h1 : m.any (hit x) = true
    · rw [if_pos h1]
      have h2 : wa1 x m k = 19 := by
        by_cases h3 : wa1 x m k = 0
        · exfalso
          have h4 := h h3
          unfold wa1 at h3
          rw [if_neg (by omega), h4, List.take_length, if_pos h1] at h3
          cases h3
        · unfold wa1 at h3 ⊢
          rw [if_neg (by omega)] at h3 ⊢
          split
          · rfl
          · rename_i h4; rw [if_neg h4] at h3; exact absurd rfl h3
      rw [if_neg (by omega), h2]; rfl
    · rw [if_neg h1]
      have h2 : wa1 x m k = 0 := by
        unfold wa1
        rw [if_neg (by omega), if_neg]
        intro h3
        obtain ⟨y, hy, hp⟩ := List.any_eq_true.1 h3
        exact h1 (List.any_eq_true.2 ⟨y, List.mem_of_mem_take hy, hp⟩)
      by_cases h5 : m.length = 64
      · rw [if_pos (by omega), if_pos ⟨h2, h5⟩]; rfl
      · rw [if_neg (by omega), if_neg (fun q => h5 q.2), h2]; rfl
  · have h2 : wa1 x m k = wa0 x := by unfold wa1; rw [if_pos hw]
    rw [if_pos (by omega), h2, if_neg (fun q => hw q.1)]
theorem addL_no {m : List Lau} {x : Lau} (h : addE (m.map toA) x.nm (keyO x.key) z16 x.ht ≠ 0) : addL (m.map toA) x.nm (keyO x.key) z16 x.ht = m.map toA := by unfold addL; rw [if_neg h]
theorem addL_yes {m : List Lau} {x : Lau} (h : addE (m.map toA) x.nm (keyO x.key) z16 x.ht = 0) : addL (m.map toA) x.nm (keyO x.key) z16 x.ht = (m ++ [x]).map toA := by
  unfold addL; rw [if_pos h, List.map_append]; rfl
theorem add_room {m : List Lau} {x : Lau} (h : addE (m.map toA) x.nm (keyO x.key) z16 x.ht = 0) : m.length < 64 := by
  unfold addE at h
  rw [List.length_map] at h
  split at h
  · contradiction
  · split at h
    · cases h
    · split at h
      · cases h
      · omega
def eve : List UInt8 := [101, 118, 101]
def mallory : List UInt8 := [109, 97, 108, 108, 111, 114, 121]
theorem code_eve : codeN eve = 0 := by
  unfold codeN
  rw [show normal eve = (eve, 0) from normal_lit (l := [101, 118, 101]) (by decide) (by decide) (by decide)]; rfl
theorem code_mallory : codeN mallory = 0 := by
  unfold codeN
  rw [show normal mallory = (mallory, 0) from normal_lit (l := [109, 97, 108, 108, 111, 114, 121]) (by decide) (by decide) (by decide)]; rfl
theorem may_ok {s : List UInt8} (h : codeN s = 0) (k : UInt8) : mayE s (keyO k) z16 2 = 0 := by
  unfold mayE
  rw [if_neg (by omega), key_err]; rfl
theorem sp_a : addE [] eve (keyO 1) z16 2 = 0 := by
  unfold addE; rw [may_ok code_eve]; decide
theorem sp_al : addL [] eve (keyO 1) z16 2 = [⟨eve, keyO 1, z16, 2⟩] := by unfold addL; rw [if_pos sp_a]; rfl
theorem sp_an : addNo [] eve (keyO 1) z16 2 = 0 := by unfold addNo; rw [if_pos sp_a]; rfl
theorem sp_b : addE [⟨eve, keyO 1, z16, 2⟩] mallory (keyO 2) z16 2 = 0 := by
  unfold addE; rw [may_ok code_mallory]; decide
theorem sp_bl : addL [⟨eve, keyO 1, z16, 2⟩] mallory (keyO 2) z16 2 = [⟨eve, keyO 1, z16, 2⟩, ⟨mallory, keyO 2, z16, 2⟩] := by unfold addL; rw [if_pos sp_b]; rfl
theorem sp_bn : addNo [⟨eve, keyO 1, z16, 2⟩] mallory (keyO 2) z16 2 = 1 := by unfold addNo; rw [if_pos sp_b]; rfl
theorem sp_c : addE [⟨eve, keyO 1, z16, 2⟩, ⟨mallory, keyO 2, z16, 2⟩] eve (keyO 3) z16 2 = 19 := by
  unfold addE; rw [may_ok code_eve]; decide
theorem sp_cl : addL [⟨eve, keyO 1, z16, 2⟩, ⟨mallory, keyO 2, z16, 2⟩] eve (keyO 3) z16 2 = [⟨eve, keyO 1, z16, 2⟩, ⟨mallory, keyO 2, z16, 2⟩] := by unfold addL; rw [if_neg (by rw [sp_c]; decide)]
theorem hit_step {x y : Lau} {w u : Nat} (hu : u = 0) (h : (w = 19 ∧ (y.nm = x.nm ∨ (y.key.toNat : Int) = x.key.toNat ∧ y.ht = x.ht)) ∨ (w = u ∧ ¬ y.nm = x.nm ∧ ((y.key.toNat : Int) = x.key.toNat → ¬ y.ht = x.ht))) : w = if hit x y = true then 19 else 0 := by
  unfold hit
  rcases h with ⟨rfl, h⟩ | ⟨rfl, h1, h2⟩
  · rw [if_pos (decide_eq_true ?_)]
    rcases h with h | ⟨h1, h2⟩
    · exact .inl h
    · exact .inr ⟨UInt8.toNat_inj.1 (by omega), h2⟩
  · rw [if_neg ?_, hu]
    rw [decide_eq_true_eq]
    rintro (q | ⟨q1, q2⟩)
    · exact h1 q
    · exact h2 (by rw [q1]) q2

end Go.Proofs.YtpcffgkmpmcobaaDoor
