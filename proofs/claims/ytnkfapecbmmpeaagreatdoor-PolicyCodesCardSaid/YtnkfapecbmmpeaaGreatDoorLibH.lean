/- A part of the proof: contracts of functions of the program, each for every state of the heaps that it names. -/
import Derived.Test.YtnkfapecbmmpeaaGreatDoorMkl
set_option linter.unusedSimpArgs false
set_option linter.unusedVariables false
namespace Go.Proofs.YtnkfapecbmmpeaaGreatDoor
open Go Go.Fw
set_option maxRecDepth 100000
set_option maxHeartbeats 1000000

attribute [local irreducible] Mk.node
namespace Mk
theorem xor_val (m : Nat) : m ^^^ 1 = if m % 2 = 0 then m + 1 else m - 1 := by
  have e1 : (m ^^^ 1) / 2 = m / 2 := by rw [Nat.xor_div_two]; simp
  have e2 : (m ^^^ 1) % 2 = (m % 2) ^^^ 1 := Nat.xor_mod_two_pow (n := 1)
  rcases Nat.mod_two_eq_zero_or_one m with h | h
  · rw [h, show (0 : Nat) ^^^ 1 = 1 from rfl] at e2; rw [if_pos h]; omega
  · rw [h, show (1 : Nat) ^^^ 1 = 0 from rfl] at e2; rw [if_neg (by omega)]; omega
theorem xor_below (q z : Nat) (hz : z % 2 = 0) (h : q < z) : q ^^^ 1 < z := by rw [xor_val]; split <;> omega
theorem xor_plus (q z : Nat) (hz : z % 2 = 0) : (z + q) ^^^ 1 = z + (q ^^^ 1) := by rw [xor_val, xor_val]; split <;> split <;> omega
theorem above_get (l : List (List UInt8)) (k : Nat) : (above l)[k]? = if k < l.length / 2 then some (node (l.getD (2 * k) []) (l.getD (2 * k + 1) [])) else none := by
  unfold above
  rw [List.getElem?_map]
  by_cases h : k < l.length / 2
  · rw [if_pos h, List.getElem?_range h]; rfl
  · rw [if_neg h, List.getElem?_eq_none (by simpa using Nat.le_of_not_lt h)]; rfl
theorem getD_left {a b : List (List UInt8)} {k : Nat} (h : k < a.length) : (a ++ b).getD k [] = a.getD k [] := by
  rw [List.getD_eq_getElem?_getD, List.getElem?_append_left h, ← List.getD_eq_getElem?_getD]
theorem getD_right {a b : List (List UInt8)} {k : Nat} (h : a.length ≤ k) : (a ++ b).getD k [] = b.getD (k - a.length) [] := by
  rw [List.getD_eq_getElem?_getD, List.getElem?_append_right h, ← List.getD_eq_getElem?_getD]
theorem above_app (a b : List (List UInt8)) (h : a.length % 2 = 0) : above (a ++ b) = above a ++ above b := by
  apply List.ext_getElem?
  intro k
  rw [above_get, List.length_append]
  by_cases hk : k < (above a).length
  · rw [List.getElem?_append_left hk, above_get]
    rw [above_length] at hk
    rw [if_pos (by omega), if_pos hk, getD_left (by omega), getD_left (by omega)]
  · rw [List.getElem?_append_right (by omega), above_get]
    rw [above_length] at hk ⊢
    by_cases h2 : k - a.length / 2 < b.length / 2
    · rw [if_pos (by omega), if_pos h2, getD_right (by omega), getD_right (by omega), show 2 * k - a.length = 2 * (k - a.length / 2) by omega, show 2 * k + 1 - a.length = 2 * (k - a.length / 2) + 1 by omega]
    · rw [if_neg (by omega), if_neg h2]
theorem two_pow_even {k : Nat} (h : 0 < k) : 2 ^ k % 2 = 0 := by
  rw [show k = (k - 1) + 1 by omega, Nat.pow_succ]; omega
theorem lvl_app (X Y : List (List UInt8)) (H : Nat) (hX : X.length = 2 ^ H) : ∀ j, j ≤ H → lvl (X ++ Y) j = lvl X j ++ lvl Y j
  | 0, _ => rfl
  | j + 1, hj => by
    have hl := lvl_length X H hX j (by omega)
    show above (lvl (X ++ Y) j) = above (lvl X j) ++ above (lvl Y j)
    rw [lvl_app X Y H hX j (by omega), above_app _ _ (by rw [hl]; exact two_pow_even (by omega))]
theorem one_of {l : List (List UInt8)} (h : l.length = 1) : l = [l.getD 0 []] := by
  match l, h with
  | [a], _ => rfl
theorem lvl_top (X Y : List (List UInt8)) (H : Nat) (hX : X.length = 2 ^ H) (hY : Y.length = 2 ^ H) : lvl (X ++ Y) H = [root X H, root Y H] := by
  rw [lvl_app X Y H hX H (Nat.le_refl _)]
  have h1 := lvl_length X H hX H (Nat.le_refl _)
  have h2 := lvl_length Y H hY H (Nat.le_refl _)
  rw [Nat.sub_self] at h1 h2
  rw [one_of h1, one_of h2]; rfl
theorem root_app (X Y : List (List UInt8)) (H : Nat) (hX : X.length = 2 ^ H) (hY : Y.length = 2 ^ H) : root (X ++ Y) (H + 1) = node (root X H) (root Y H) := by
  show (above (lvl (X ++ Y) H)).getD 0 [] = _
  rw [lvl_top X Y H hX hY, List.getD_eq_getElem?_getD, above_get, if_pos (show 0 < [root X H, root Y H].length / 2 from by show 0 < 2 / 2; decide)]; rfl
theorem path_left (X Y : List (List UInt8)) (H K : Nat) (hX : X.length = 2 ^ H) (hY : Y.length = 2 ^ H) (hK : K < 2 ^ H) : path (X ++ Y) K (H + 1) = path X K H ++ [root Y H] := by
  rw [path_succ, lvl_top X Y H hX hY, Nat.div_eq_of_lt hK]
  congr 1
  unfold path
  apply List.map_congr_left
  intro j hj
  rw [List.mem_range] at hj
  have hl := lvl_length X H hX j (by omega)
  rw [lvl_app X Y H hX j (by omega)]
  have h1 : K / 2 ^ j < 2 ^ (H - j) := by rw [Nat.div_lt_iff_lt_mul (Nat.two_pow_pos j), ← Nat.pow_add, show H - j + j = H by omega]; exact hK
  have h2 := two_pow_even (show 0 < H - j by omega)
  rw [getD_left (by rw [hl]; exact xor_below _ _ h2 h1)]
theorem path_right (X Y : List (List UInt8)) (H K : Nat) (hX : X.length = 2 ^ H) (hY : Y.length = 2 ^ H) (hK : K < 2 ^ H) : path (X ++ Y) (2 ^ H + K) (H + 1) = path Y K H ++ [root X H] := by
  have e1 : (2 ^ H + K) / 2 ^ H = 1 := by
    rw [Nat.add_div_left _ (Nat.two_pow_pos H), Nat.div_eq_of_lt hK]
  rw [path_succ, lvl_top X Y H hX hY, e1]
  congr 1
  unfold path
  apply List.map_congr_left
  intro j hj
  rw [List.mem_range] at hj
  have hl := lvl_length X H hX j (by omega)
  rw [lvl_app X Y H hX j (by omega)]
  have h2 := two_pow_even (show 0 < H - j by omega)
  have e2 : (2 ^ H + K) / 2 ^ j = 2 ^ (H - j) + K / 2 ^ j := by
    have : 2 ^ H = 2 ^ j * 2 ^ (H - j) := by rw [← Nat.pow_add, show j + (H - j) = H by omega]
    rw [this, Nat.mul_add_div (Nat.two_pow_pos j)]
  rw [e2, xor_plus _ _ h2, getD_right (by rw [hl]; exact Nat.le_add_right _ _), hl, Nat.add_sub_cancel_left]
theorem root_small (X : List (List UInt8)) (H : Nat) (hs : ∀ s ∈ X, s.length ≤ 1048576) : (root X H).length ≤ 1048576 := by
  unfold root
  by_cases h : 0 < (lvl X H).length
  · exact lvl_small X hs H _ (getS_mem h)
  · have : lvl X H = [] := List.eq_nil_of_length_eq_zero (by omega)
    rw [this]; decide
def tx (ls : List (List UInt8)) (k : Nat) : List UInt8 := [UInt8.ofNat k] ++ (ls.getD k []).take 20
def txs (ls : List (List UInt8)) (k : Nat) : List (List UInt8) := (List.range k).map (tx ls)
theorem txs_succ (ls : List (List UInt8)) (k : Nat) : txs ls (k + 1) = txs ls k ++ [tx ls k] := by simp [txs, List.range_succ]
theorem txs_length (ls : List (List UInt8)) (k : Nat) : (txs ls k).length = k := by simp [txs]
theorem txs_small (ls : List (List UInt8)) (k : Nat) : ∀ s ∈ txs ls k, s.length ≤ 1048576 := fun s hs => by
  simp only [txs, List.mem_map] at hs
  obtain ⟨j, _, rfl⟩ := hs
  simp only [tx, List.length_append, List.length_take, List.length_singleton]; omega
theorem take_min (s : List UInt8) (k : Nat) : (s.take (min s.length k)).drop 0 = s.take k := by
  rw [List.drop_zero]
  by_cases h : s.length ≤ k
  · rw [List.take_of_length_le (by omega), List.take_of_length_le h]
  · rw [Nat.min_eq_right (by omega)]
end Mk
attribute [local irreducible] Mk.root Mk.path Mk.tx Mk.txs

end Go.Proofs.YtnkfapecbmmpeaaGreatDoor
