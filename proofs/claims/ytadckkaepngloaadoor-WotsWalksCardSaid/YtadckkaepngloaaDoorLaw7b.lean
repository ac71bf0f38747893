/- A part of the proof: contracts of functions of the program, each for every state of the heaps that it names. -/
import Derived.Test.YtadckkaepngloaaDoorLaw7a
set_option linter.unusedSimpArgs false
set_option linter.unusedVariables false
namespace Go.Proofs.YtadckkaepngloaaDoor
open Go Go.Fw
set_option maxRecDepth 100000
set_option maxHeartbeats 1000000

attribute [local irreducible] Mk.node
namespace Mk
theorem xor_val (m : Nat) : m ^^^ 1 = if m % 2 = 0 then m + 1 else m - 1 := by
  have e1 : (m ^^^ 1) / 2 = m / 2 := by rw [Nat.xor_div_two]; simp
  have e2 : (m ^^^ 1) % 2 = (m % 2) ^^^ 1 := Nat.xor_mod_two_pow (n := 1)
  rcases Nat.mod_two_eq_zero_or_one m with h | h
  · rw [h, show (0 : Nat) ^^^ 1 = 1 from rfl] at e2; rw [if_pos h]; omega
  · rw [h, show (1 : Nat) ^^^ 1 = 0 from rfl] at e2; rw [if_neg (by omega)]; omega
theorem xor_below (q z : Nat) (hz : z % 2 = 0) (h : q < z) : q ^^^ 1 < z := by rw [xor_val]; split <;> omega
theorem xor_plus (q z : Nat) (hz : z % 2 = 0) : (z + q) ^^^ 1 = z + (q ^^^ 1) := by rw [xor_val, xor_val]; split <;> split <;> omega
theorem above_get (l : List (List UInt8)) (k : Nat) : (above l)[k]? = if k < l.length / 2 then some (node (l.getD (2 * k) []) (l.getD (2 * k + 1) [])) else none := by
  unfold above
  rw [List.getElem?_map]
  by_cases h : k < l.length / 2
  · rw [if_pos h, List.getElem?_range h]; rfl
  · rw [if_neg h, List.getElem?_eq_none (by simpa using Nat.le_of_not_lt h)]; rfl
theorem getD_left {a b : List (List UInt8)} {k : Nat} (h : k < a.length) : (a ++ b).getD k [] = a.getD k [] := by
  rw [List.getD_eq_getElem?_getD, List.getElem?_append_left h, ← List.getD_eq_getElem?_getD]
theorem getD_right {a b : List (List UInt8)} {k : Nat} (h : a.length ≤ k) : (a ++ b).getD k [] = b.getD (k - a.length) [] := by
  rw [List.getD_eq_getElem?_getD, List.getElem?_append_right h, ← List.getD_eq_getElem?_getD]
theorem above_app (a b : List (List UInt8)) (h : a.length % 2 = 0) : above (a ++ b) = above a ++ above b := by
  apply List.ext_getElem?
  intro k
  rw [above_get, List.length_append]
  by_cases hk : k < (above a).length
  · rw [List.getElem?_append_left hk, above_get]
    rw [above_length] at hk
    rw [if_pos (by omega), if_pos hk, getD_left (by omega), getD_left (by omega)]
  · rw [List.getElem?_append_right (by omega), above_get]
    rw [above_length] at hk ⊢
    by_cases h2 : k - a.length / 2 < b.length / 2
    · rw [if_pos (by omega), if_pos h2, getD_right (by omega), getD_right (by omega), show 2 * k - a.length = 2 * (k - a.length / 2) by omega, show 2 * k + 1 - a.length = 2 * (k - a.length / 2) + 1 by omega]
    · rw [if_neg (by omega), if_neg h2]
theorem two_pow_even {k : Nat} (h : 0 < k) : 2 ^ k % 2 = 0 := by
  rw [show k = (k - 1) + 1 by omega, Nat.pow_succ]; omega
theorem lvl_app (X Y : List (List UInt8)) (H : Nat) (hX : X.length = 2 ^ H) : ∀ j, j ≤ H → lvl (X ++ Y) j = lvl X j ++ lvl Y j
  | 0, _ => rfl
  | j + 1, hj => by
    have hl := lvl_length X H hX j (by omega)
    show above (lvl (X ++ Y) j) = above (lvl X j) ++ above (lvl Y j)
    rw [lvl_app X Y H hX j (by omega), above_app _ _ (by rw [hl]; exact two_pow_even (by omega))]
theorem one_of {l : List (List UInt8)} (h : l.length = 1) : l = [l.getD 0 []] := by
  match l, h with
  | [a], _ => rfl
theorem lvl_top (X Y : List (List UInt8)) (H : Nat) (hX : X.length = 2 ^ H) (hY : Y.length = 2 ^ H) : lvl (X ++ Y) H = [root X H, root Y H] := by
  rw [lvl_app X Y H hX H (Nat.le_refl _)]
  have h1 := lvl_length X H hX H (Nat.le_refl _)
  have h2 := lvl_length Y H hY H (Nat.le_refl _)
  rw [Nat.sub_self] at h1 h2
  rw [one_of h1, one_of h2]; rfl
theorem root_app (X Y : List (List UInt8)) (H : Nat) (hX : X.length = 2 ^ H) (hY : Y.length = 2 ^ H) : root (X ++ Y) (H + 1) = node (root X H) (root Y H) := by
  show (above (lvl (X ++ Y) H)).getD 0 [] = _
  rw [lvl_top X Y H hX hY, List.getD_eq_getElem?_getD, above_get, if_pos (show 0 < [root X H, root Y H].length / 2 from by show 0 < 2 / 2; decide)]; rfl
theorem path_left (X Y : List (List UInt8)) (H K : Nat) (hX : X.length = 2 ^ H) (hY : Y.length = 2 ^ H) (hK : K < 2 ^ H) : path (X ++ Y) K (H + 1) = path X K H ++ [root Y H] := by
  rw [path_succ, lvl_top X Y H hX hY, Nat.div_eq_of_lt hK]
  congr 1
  unfold path
  apply List.map_congr_left
  intro j hj
  rw [List.mem_range] at hj
  have hl := lvl_length X H hX j (by omega)
  rw [lvl_app X Y H hX j (by omega)]
  have h1 : K / 2 ^ j < 2 ^ (H - j) := by rw [Nat.div_lt_iff_lt_mul (Nat.two_pow_pos j), ← Nat.pow_add, show H - j + j = H by omega]; exact hK
  have h2 := two_pow_even (show 0 < H - j by omega)
  rw [getD_left (by rw [hl]; exact xor_below _ _ h2 h1)]
theorem path_right (X Y : List (List UInt8)) (H K : Nat) (hX : X.length = 2 ^ H) (hY : Y.length = 2 ^ H) (hK : K < 2 ^ H) : path (X ++ Y) (2 ^ H + K) (H + 1) = path Y K H ++ [root X H] := by
  have e1 : (2 ^ H + K) / 2 ^ H = 1 := by
    rw [Nat.add_div_left _ (Nat.two_pow_pos H), Nat.div_eq_of_lt hK]
  rw [path_succ, lvl_top X Y H hX hY, e1]
  congr 1
  unfold path
  apply List.map_congr_left
  intro j hj
  rw [List.mem_range] at hj
  have hl := lvl_length X H hX j (by omega)
  rw [lvl_app X Y H hX j (by omega)]
  have h2 := two_pow_even (show 0 < H - j by omega)
  have e2 : (2 ^ H + K) / 2 ^ j = 2 ^ (H - j) + K / 2 ^ j := by
    have : 2 ^ H = 2 ^ j * 2 ^ (H - j) := by rw [← Nat.pow_add, show j + (H - j) = H by omega]
    rw [this, Nat.mul_add_div (Nat.two_pow_pos j)]
  rw [e2, xor_plus _ _ h2, getD_right (by rw [hl]; exact Nat.le_add_right _ _), hl, Nat.add_sub_cancel_left]
theorem root_small (X : List (List UInt8)) (H : Nat) (hs : ∀ s ∈ X, s.length ≤ 1048576) : (root X H).length ≤ 1048576 := by
  unfold root
  by_cases h : 0 < (lvl X H).length
  · exact lvl_small X hs H _ (getS_mem h)
  · have : lvl X H = [] := List.eq_nil_of_length_eq_zero (by omega)
    rw [this]; decide
def tx (ls : List (List UInt8)) (k : Nat) : List UInt8 := [UInt8.ofNat k] ++ (ls.getD k []).take 20
def txs (ls : List (List UInt8)) (k : Nat) : List (List UInt8) := (List.range k).map (tx ls)
theorem txs_succ (ls : List (List UInt8)) (k : Nat) : txs ls (k + 1) = txs ls k ++ [tx ls k] := by simp [txs, List.range_succ]
theorem txs_length (ls : List (List UInt8)) (k : Nat) : (txs ls k).length = k := by simp [txs]
theorem txs_small (ls : List (List UInt8)) (k : Nat) : ∀ s ∈ txs ls k, s.length ≤ 1048576 := fun s hs => by
  simp only [txs, List.mem_map] at hs
  obtain ⟨j, _, rfl⟩ := hs
  simp only [tx, List.length_append, List.length_take, List.length_singleton]; omega
theorem take_min (s : List UInt8) (k : Nat) : (s.take (min s.length k)).drop 0 = s.take k := by
  rw [List.drop_zero]
  by_cases h : s.length ≤ k
  · rw [List.take_of_length_le (by omega), List.take_of_length_le h]
  · rw [Nat.min_eq_right (by omega)]
end Mk
attribute [local irreducible] Mk.root Mk.path Mk.tx Mk.txs

theorem halves_ct (F : Hp) (hK : Cells F ⟨0, 0, none⟩ (Sha.K.map W32)) (A : Option Addr) (n c : Nat) (ls : List (List UInt8)) (hl : Sl F 1 A n c (strsV ls)) (hx : UInt8) (i : UInt8) :
    Ct Tryd.prog 8 [.slice A n c, B8 hx, B8 i] [F] (fun _ : Unit => .bool true) (fun _ => True) (fun _ => [F]) := by
  have hlen : ls.length = n := by have := hl.1; simpa [strsV] using this
  obtain ⟨H, hH⟩ : ∃ H, H = (hx &&& 3).toNat := ⟨_, rfl⟩
  have hH3 : H ≤ 3 := by rw [hH, UInt8.toNat_and]; exact Nat.and_le_right
  obtain ⟨N, hN⟩ : ∃ N, N = 2 ^ H := ⟨_, rfl⟩
  have hN8 : N ≤ 8 := by rw [hN]; exact Nat.le_trans (Nat.pow_le_pow_right (by decide) hH3) (by decide)
  have hN0 : 0 < N := by rw [hN]; exact Nat.two_pow_pos H
  have hp : (1 : Int) * 2 ^ (hx &&& 3).toNat = (N : Int) := by rw [Int.one_mul, ← hH, hN]; simp
  have hpS : 2 * N = 2 ^ (H + 1) := by rw [Nat.pow_succ, ← hN]; omega
  refine Ct.walk Tryd.func8 rfl Tryd.ntmps8 rfl (fun w0 => ?_)
  change J _ [(0, _), (1, _), (2, _)] _ _ _
  refine J.seq (fun K1 hK1 => ?_)
  refine J.region ?_
  refine J.y (op_assign rfl rfl) rfl rfl rfl ?_
  refine J.nil ?_
  refine J.then_n (J.k hK1 ?_)
  refine J.keepE [(0, _), (1, _), (2, _)] ⟨rfl, rfl, rfl, trivial⟩ ?_
  refine J.seq (fun K2 hK2 => ?_)
  refine J.seq (fun K3 hK3 => ?_)
  refine J.region ?_
  refine J.e (op_call rfl rfl ent22 (speaks07_ct F hK)) rfl rfl rfl ?_
  intro g25 _
  refine J.y ((op_not rfl rfl).as (v' := .bool false) rfl) rfl rfl rfl ?_
  refine J.nil ?_
  refine J.then_n (J.k hK3 ?_)
  refine J.keepE [(0, _), (1, _), (2, _), (26, _)] ⟨rfl, rfl, rfl, rfl, trivial⟩ ?_
  refine J.condF rfl rfl ?_
  refine J.skip ?_
  refine J.then_n (J.k hK2 ?_)
  refine J.keepE [(0, _), (1, _), (2, _)] ⟨rfl, rfl, rfl, trivial⟩ ?_
  refine J.seq (fun K4 hK4 => ?_)
  refine J.region ?_
  refine J.y (op_move rfl rfl) rfl rfl rfl ?_
  refine J.y (op_and8 (b := 3) rfl rfl rfl) rfl rfl rfl ?_
  refine J.y ((op_shlI (m := (hx &&& 3).toNat) rfl rfl rfl ⟨by omega, by rw [hp]; omega, by rw [hp]; omega⟩).as (v' := I N) (congrArg I hp)) rfl rfl rfl ?_
  refine J.y (op_assign rfl rfl) rfl rfl rfl ?_
  refine J.nil ?_
  refine J.then_n (J.k hK4 ?_)
  refine J.keepE [(0, _), (2, _), (7, _)] ⟨rfl, rfl, rfl, trivial⟩ ?_
  refine J.seq (fun K5 hK5 => ?_)
  refine J.addEmpty [0, 1] [F, (fun _ => none)] rfl (by decide) ?_
  refine J.region ?_
  refine J.y (op_assign rfl rfl) rfl rfl rfl ?_
  refine J.nil ?_
  refine J.then_n (J.k hK5 ?_)
  refine J.keepE [(0, _), (2, _), (7, _), (8, _)] ⟨rfl, rfl, rfl, rfl, trivial⟩ ?_
  refine J.seq (fun K6 hK6 => ?_)
  refine J.seq (fun K7 hK7 => ?_)
  refine J.region ?_
  refine J.y (op_assign rfl rfl) rfl rfl rfl ?_
  refine J.nil ?_
  refine J.then_n (J.k hK7 ?_)
  refine J.keepE [(0, _), (2, _), (7, _), (8, _), (9, _)] ⟨rfl, rfl, rfl, rfl, rfl, trivial⟩ ?_
  refine J.block ?_
  refine J.loop (X := Nat × Option Addr × Nat × Hp) (fun x => [(0, .slice A n c), (2, B8 i), (7, I N), (8, .slice x.2.1 x.1 x.2.2.1), (9, I x.1)]) (fun x => [F, x.2.2.2]) (fun x => x.1 ≤ 2 * N ∧ Row x.2.2.2 9 1 x.2.1 x.1 x.2.2.1 (strsV (Mk.txs ls x.1))) (fun x => 2 * N - x.1) (0, none, 0, fun _ => none) (⟨Nat.zero_le _, by unfold Mk.txs; exact RowQ.nil⟩) ⟨rfl, rfl, rfl, rfl, rfl, trivial⟩ (fun _ h => h) ?_
  rintro ⟨k, A1, c1, m⟩ ⟨hk, hrow⟩ I0 hI0
  dsimp only at hk hrow ⊢
  refine J.seq (fun K8 hK8 => ?_)
  refine J.seq (fun K9 hK9 => ?_)
  refine J.region ?_
  refine J.y (op_move rfl rfl) rfl rfl rfl ?_
  refine J.y (op_move rfl rfl) rfl rfl rfl ?_
  refine J.y ((op_mul (a := 2) rfl rfl rfl (by omega)).as (v' := I ((2 * N : Nat) : Int)) (congrArg I (by omega))) rfl rfl rfl ?_
  refine J.y (op_lss rfl rfl rfl) rfl rfl rfl ?_
  refine J.nil ?_
  refine J.then_n (J.k hK9 ?_)
  refine J.keepE [(0, _), (2, _), (7, _), (8, _), (9, _), (33, _)] ⟨rfl, rfl, rfl, rfl, rfl, rfl, trivial⟩ ?_
  refine J.ite rfl (fun h33 => ?_) (fun h33 => ?_)
  ·
    refine J.skip ?_
    refine J.then_n (J.k hK8 ?_)
    refine J.keepE [(0, _), (2, _), (7, _), (8, _), (9, _)] ⟨rfl, rfl, rfl, rfl, rfl, trivial⟩ ?_
    refine J.seq (fun K10 hK10 => ?_)
    refine J.block ?_
    refine J.seq (fun K11 hK11 => ?_)
    refine J.region ?_
    refine J.y (op_move rfl rfl) rfl rfl rfl ?_
    refine J.y (op_cv_i64_u8 rfl rfl Tryd.underlying3 Tryd.underlying5) rfl rfl rfl ?_
    refine J.e (op_buildSlice (l := [.tmp 37]) (xs := [[B8 (UInt8.ofNat k)]]) rfl rfl rfl rfl Tryd.underlying24 el5 rfl (by decide) (by decide) (by simp)) rfl rfl rfl ?_
    intro g38 _
    change J _ _ _ [F, m, blk g38 [B8 (UInt8.ofNat k)] 5] _
    refine J.y (op_toStr (l := [UInt8.ofNat k]) rfl rfl Tryd.underlying24 Tryd.underlying5 Tryd.underlying9 (m := blk g38 [B8 (UInt8.ofNat k)] 5) (by simp) (row_blk (q := True) (xs := [[B8 (UInt8.ofNat k)]]) rfl (by simp)).sl) rfl rfl rfl ?_
    refine J.y (op_assign rfl rfl) rfl rfl rfl ?_
    refine J.nil ?_
    refine J.then_n (J.k hK11 ?_)
    refine J.keepE [(0, _), (2, _), (7, _), (8, _), (9, _), (10, _)] ⟨rfl, rfl, rfl, rfl, rfl, rfl, trivial⟩ ?_
    refine J.cut (fun _ : Unit => [(0, .slice A n c), (2, B8 i), (7, I N), (8, .slice A1 k c1), (9, I k), (10, Str (Mk.tx ls k))]) (fun _ => [F, m]) (fun _ => True) (fun K12 hK12 => ?_) ?_
    ·
      refine J.seq (fun K13 hK13 => ?_)
      refine J.region ?_
      refine J.y (op_move rfl rfl) rfl rfl rfl ?_
      refine J.y (op_move rfl rfl) rfl rfl rfl ?_
      refine J.y (op_len Tryd.underlying22 rfl rfl) rfl rfl rfl ?_
      refine J.y (op_lss rfl rfl rfl) rfl rfl rfl ?_
      refine J.nil ?_
      refine J.then_n (J.k hK13 ?_)
      refine J.keepE [(0, _), (2, _), (7, _), (8, _), (9, _), (10, _), (43, _)] ⟨rfl, rfl, rfl, rfl, rfl, rfl, rfl, trivial⟩ ?_
      refine J.ite rfl (fun h43 => ?_) (fun h43 => ?_)
      ·
        obtain ⟨s, hs⟩ : ∃ s, ls[k]? = some s := ⟨_, List.getElem?_eq_getElem (by omega)⟩
        have htx : Mk.tx ls k = [UInt8.ofNat k] ++ s.take 20 := by unfold Mk.tx; rw [List.getD_eq_getElem?_getD, hs]; rfl
        refine J.draw [F, m, blk g38 [B8 (UInt8.ofNat k)] 5] [] (.y 0 (.y 1 (.y 2 (.y 3 (.y 4 (.y 5 (.y 6 (.y 7 (.y 8 (.y 9 (.y 10 (.y 11 (.y 12 (.y 13 .nil)))))))))))))) Tryd.wide (by decide +kernel) (by simp) ?_
        refine J.dy rfl (op_move rfl rfl) rfl rfl rfl rfl ?_
        refine J.dy rfl (op_move rfl rfl) rfl rfl rfl rfl ?_
        refine J.dy rfl (op_move rfl rfl) rfl rfl rfl rfl ?_
        refine J.dy rfl (op_indexAddr (i := k) rfl rfl rfl Tryd.underlying22 Tryd.sizeOf9 hl (by omega)) rfl rfl rfl rfl ?_
        refine J.dy rfl (op_load rfl rfl Tryd.isAgg9 (m := F) (by simp) (hl.elem (strsV_get hs))) rfl rfl rfl rfl ?_
        refine J.dy rfl (op_move rfl rfl) rfl rfl rfl rfl ?_
        refine J.dy rfl (op_move rfl rfl) rfl rfl rfl rfl ?_
        refine J.dy rfl (op_indexAddr (i := k) rfl rfl rfl Tryd.underlying22 Tryd.sizeOf9 hl (by omega)) rfl rfl rfl rfl ?_
        refine J.dy rfl (op_load rfl rfl Tryd.isAgg9 (m := F) (by simp) (hl.elem (strsV_get hs))) rfl rfl rfl rfl ?_
        refine J.dy rfl (op_slen Tryd.underlying9 rfl rfl) rfl rfl rfl rfl ?_
        refine J.dy rfl ((op_min rfl rfl rfl).as (v' := I ((min s.length 20 : Nat) : Int)) (congrArg I (by omega))) rfl rfl rfl rfl ?_
        refine J.dy rfl ((op_sslice (l := 0) (h := min s.length 20) Tryd.underlying9 rfl rfl rfl rfl ⟨by omega, by omega⟩).as (congrArg Str (Mk.take_min s 20))) rfl rfl rfl rfl ?_
        refine J.dy rfl (op_sadd rfl rfl rfl (by simp only [List.length_take, List.length_singleton]; omega)) rfl rfl rfl rfl ?_
        refine J.dy rfl (op_assign rfl rfl) rfl rfl rfl rfl ?_
        refine J.dnil ?_
        refine J.then_n ?_
        exact J.kk () hK12 trivial ⟨rfl, rfl, rfl, rfl, rfl, by rw [htx]; rfl, trivial⟩ (fun _ h => h.pick [0, 1] (by decide))
      ·
        have htx : Mk.tx ls k = [UInt8.ofNat k] := by unfold Mk.tx; rw [List.getD_eq_getElem?_getD, List.getElem?_eq_none (by omega)]; rfl
        refine J.skip ?_
        refine J.then_n ?_
        exact J.kk () hK12 trivial ⟨rfl, rfl, rfl, rfl, rfl, by rw [htx]; rfl, trivial⟩ (fun _ h => h.pick [0, 1] (by decide))
    rintro _ _
    refine J.region ?_
    refine J.y (op_move rfl rfl) rfl rfl rfl ?_
    refine J.y (op_move rfl rfl) rfl rfl rfl ?_
    refine J.e (op_buildSlice (l := [.tmp 58]) (xs := [[Str (Mk.tx ls k)]]) rfl rfl rfl rfl Tryd.underlying22 el9 rfl (by decide) (by decide) (by simp)) rfl rfl rfl ?_
    intro g59 _
    change J _ _ _ [F, m, blk g59 [Str (Mk.tx ls k)] 9] _
    refine J.e (op_append (i := 1) (m2 := blk g59 [Str (Mk.tx ls k)] 9) (ys := strsV [Mk.tx ls k]) rfl rfl rfl Tryd.underlying22 Tryd.underlying22 el9 rfl hrow (by simp) (row_blk (q := True) (xs := strsV [Mk.tx ls k]) rfl (by simp [strsV])).sl (strsV_one _) (by omega) (by omega)) rfl rfl rfl ?_
    rintro ⟨A60, c60, m60⟩ h60
    try dsimp only at h60
    change J _ ((60, .slice A60 (k + 1) c60) :: _) _ [F, m60, blk g59 [Str (Mk.tx ls k)] 9] _
    rw [← strsV_app, ← Mk.txs_succ] at h60
    refine J.y (op_assign rfl rfl) rfl rfl rfl ?_
    refine J.nil ?_
    refine J.blk_n ?_
    refine J.then_n (J.k hK10 ?_)
    refine J.keepE [(0, _), (2, _), (7, _), (8, _), (9, _)] ⟨rfl, rfl, rfl, rfl, rfl, trivial⟩ ?_
    refine J.perm [0, 1] [F, m60] rfl (by decide) ?_
    refine J.region ?_
    refine J.y (op_move rfl rfl) rfl rfl rfl ?_
    refine J.y (op_add rfl rfl rfl (by omega)) rfl rfl rfl ?_
    refine J.y (op_assign rfl rfl) rfl rfl rfl ?_
    refine J.nil ?_
    refine J.then_n ?_
    refine J.kk (k + 1, A60, c60, m60) (fun x (hx : _ ∧ 2 * N - x.1 < 2 * N - k) => hI0 x hx.1 hx.2) ⟨⟨by dsimp only; omega, h60⟩, by dsimp only; omega⟩ ⟨rfl, rfl, rfl, rfl, rfl, trivial⟩ (fun _ h => h)
  ·
    refine J.exit ?_
    refine J.then_x ?_
    refine J.then_x ?_
    refine J.blk_eq ?_
    refine J.then_n (J.k hK6 ?_)
    refine J.keepE [(2, _), (7, _), (8, _)] ⟨rfl, rfl, rfl, trivial⟩ ?_
    refine J.seq (fun K14 hK14 => ?_)
    have hk2 : k = 2 * N := by omega
    subst hk2
    obtain ⟨L, hL⟩ : ∃ L, L = Mk.txs ls (2 * N) := ⟨_, rfl⟩
    rw [← hL] at hrow
    have hLl : L.length = 2 * N := by rw [hL, Mk.txs_length]
    have hsL : ∀ s ∈ L, s.length ≤ 1048576 := by rw [hL]; exact Mk.txs_small ls _
    have hsX : ∀ s ∈ L.take N, s.length ≤ 1048576 := fun s hs => hsL s (List.mem_of_mem_take hs)
    have hsY : ∀ s ∈ L.drop N, s.length ≤ 1048576 := fun s hs => hsL s (List.mem_of_mem_drop hs)
    have hXl : (L.take N).length = 2 ^ H := by rw [List.length_take, ← hN]; omega
    have hYl : (L.drop N).length = 2 ^ H := by rw [List.length_drop, ← hN]; omega
    have hsplit : L.take N ++ L.drop N = L := List.take_append_drop N L
    have hroot : Mk.root L (H + 1) = Mk.node (Mk.root (L.take N) H) (Mk.root (L.drop N) H) := by rw [← Mk.root_app _ _ H hXl hYl, hsplit]
    have hc1 : 2 * N ≤ c1 := hrow.sl.2.1
    have slX := hrow.sl.strsTo (k := N) (by omega)
    have slY := hrow.sl.strsFrom (k := N) (by omega)
    refine J.region ?_
    refine J.y (op_move rfl rfl) rfl rfl rfl ?_
    refine J.y (op_move rfl rfl) rfl rfl rfl ?_
    refine J.y (op_sliceTo (h := N) rfl rfl Tryd.underlying22 Tryd.sizeOf9 rfl (by omega)) rfl rfl rfl ?_
    refine J.e (op_call rfl rfl ent23 (Ct.use0 (fun F' hF => root_ct F' (hK.mono (hF _ (by simp))) A1 N c1 (L.take N) (slX.mono (hF _ (by simp))) H (by omega) hN hsX))) rfl rfl rfl ?_
    intro g65 _
    change J _ _ _ [F, m] _
    refine J.y (op_move rfl rfl) rfl rfl rfl ?_
    refine J.y (op_extract rfl rfl rfl) rfl rfl rfl ?_
    refine J.y (op_extract rfl rfl rfl) rfl rfl rfl ?_
    refine J.y (op_assign rfl rfl) rfl rfl rfl ?_
    refine J.y (op_assign rfl rfl) rfl rfl rfl ?_
    refine J.nil ?_
    refine J.then_n (J.k hK14 ?_)
    refine J.keepE [(2, _), (7, _), (8, _), (11, _), (12, _)] ⟨rfl, rfl, rfl, rfl, rfl, trivial⟩ ?_
    refine J.seq (fun K15 hK15 => ?_)
    refine J.region ?_
    refine J.y (op_move rfl rfl) rfl rfl rfl ?_
    refine J.y (op_move rfl rfl) rfl rfl rfl ?_
    refine J.y (op_slice (l := N) (h := 2 * N) rfl rfl Tryd.underlying22 Tryd.sizeOf9 rfl rfl (by omega)) rfl rfl rfl ?_
    refine J.e (op_call rfl rfl ent23 (Ct.use0 (fun F' hF => root_ct F' (hK.mono (hF _ (by simp))) (if c1 = N then A1 else A1.map (·.add (N * 1))) (2 * N - N) (c1 - N) (L.drop N) (slY.mono (hF _ (by simp))) H (by omega) (by omega) hsY))) rfl rfl rfl ?_
    intro g72 _
    change J _ _ _ [F, m] _
    refine J.y (op_move rfl rfl) rfl rfl rfl ?_
    refine J.y (op_extract rfl rfl rfl) rfl rfl rfl ?_
    refine J.y (op_extract rfl rfl rfl) rfl rfl rfl ?_
    refine J.y (op_assign rfl rfl) rfl rfl rfl ?_
    refine J.y (op_assign rfl rfl) rfl rfl rfl ?_
    refine J.nil ?_
    refine J.then_n (J.k hK15 ?_)
    refine J.keepE [(2, _), (7, _), (8, _), (11, _), (12, _), (13, _), (14, _)] ⟨rfl, rfl, rfl, rfl, rfl, rfl, rfl, trivial⟩ ?_
    refine J.seq (fun K16 hK16 => ?_)
    refine J.region ?_
    refine J.y (op_move rfl rfl) rfl rfl rfl ?_
    refine J.e (op_call rfl rfl ent23 (Ct.use0 (fun F' hF => root_ct F' (hK.mono (hF _ (by simp))) A1 (2 * N) c1 L (hrow.sl.mono (hF _ (by simp))) (H + 1) (by omega) hpS hsL))) rfl rfl rfl ?_
    intro g77 _
    change J _ _ _ [F, m] _
    refine J.y (op_move rfl rfl) rfl rfl rfl ?_
    refine J.y (op_extract rfl rfl rfl) rfl rfl rfl ?_
    refine J.y (op_extract rfl rfl rfl) rfl rfl rfl ?_
    refine J.y (op_assign rfl rfl) rfl rfl rfl ?_
    refine J.y (op_assign rfl rfl) rfl rfl rfl ?_
    refine J.nil ?_
    refine J.then_n (J.k hK16 ?_)
    refine J.keepE [(2, _), (7, _), (8, _), (11, _), (12, _), (13, _), (14, _), (15, _), (16, _)] ⟨rfl, rfl, rfl, rfl, rfl, rfl, rfl, rfl, rfl, trivial⟩ ?_
    refine J.seq (fun K17 hK17 => ?_)
    refine J.seq (fun K18 hK18 => ?_)
    refine J.region ?_
    refine J.y (op_move rfl rfl) rfl rfl rfl ?_
    refine J.y ((op_neq rfl rfl rfl).as (v' := .bool false) (congrArg Value.bool (decide_eq_false (by omega)))) rfl rfl rfl ?_
    refine J.y (op_move rfl rfl) rfl rfl rfl ?_
    refine J.yg (Wan.is rfl rfl rfl rfl rfl) (op_move rfl rfl) rfl rfl ?_
    refine J.yg (Wan.is rfl rfl rfl rfl rfl) ((op_neq rfl rfl rfl).as (v' := .bool false) (congrArg Value.bool (decide_eq_false (by omega)))) rfl rfl ?_
    refine J.y (op_pickF rfl rfl rfl) rfl rfl rfl ?_
    refine J.y (op_move rfl rfl) rfl rfl rfl ?_
    refine J.yg (Wan.is rfl rfl rfl rfl rfl) (op_move rfl rfl) rfl rfl ?_
    refine J.yg (Wan.is rfl rfl rfl rfl rfl) ((op_neq rfl rfl rfl).as (v' := .bool false) (congrArg Value.bool (decide_eq_false (by omega)))) rfl rfl ?_
    refine J.y (op_pickF rfl rfl rfl) rfl rfl rfl ?_
    refine J.y (op_move rfl rfl) rfl rfl rfl ?_
    refine J.yg (Wan.is rfl rfl rfl rfl rfl) (op_move rfl rfl) rfl rfl ?_
    refine J.yg (Wan.is rfl rfl rfl rfl rfl) (op_move rfl rfl) rfl rfl ?_
    refine J.yg (Wan.is rfl rfl rfl rfl rfl) (op_move rfl rfl) rfl rfl ?_
    refine J.eg (Wan.is rfl rfl rfl rfl rfl) (op_call rfl rfl ent28 (Ct.use0 (fun F' hF => node_ct F' (hK.mono (hF _ (by simp))) _ _ (Mk.root_small _ H hsX) (Mk.root_small _ H hsY)))) rfl rfl ?_
    intro g94 _
    change J _ _ _ [F, m] _
    refine J.yg (Wan.is rfl rfl rfl rfl rfl) ((op_sne rfl rfl rfl).as (v' := .bool false) (congrArg Value.bool (decide_eq_false (by rw [hroot]; simp)))) rfl rfl ?_
    refine J.y (op_pickF rfl rfl rfl) rfl rfl rfl ?_
    refine J.nil ?_
    refine J.then_n (J.k hK18 ?_)
    refine J.keepE [(2, _), (7, _), (8, _), (11, _), (13, _), (96, _)] ⟨rfl, rfl, rfl, rfl, rfl, rfl, trivial⟩ ?_
    refine J.condF rfl rfl ?_
    refine J.skip ?_
    refine J.then_n (J.k hK17 ?_)
    refine J.keepE [(2, _), (7, _), (8, _), (11, _), (13, _)] ⟨rfl, rfl, rfl, rfl, rfl, trivial⟩ ?_
    refine J.seq (fun K19 hK19 => ?_)
    obtain ⟨K, hKK⟩ : ∃ K, K = i.toNat % (2 * N) := ⟨_, rfl⟩
    have hKlt : K < 2 * N := by rw [hKK]; exact Nat.mod_lt _ (by omega)
    refine J.region ?_
    refine J.y (op_move rfl rfl) rfl rfl rfl ?_
    refine J.y (op_cv_u8_i64 rfl rfl Tryd.underlying5 Tryd.underlying3) rfl rfl rfl ?_
    refine J.y (op_move rfl rfl) rfl rfl rfl ?_
    refine J.y ((op_mul (a := 2) rfl rfl rfl (by omega)).as (v' := I ((2 * N : Nat) : Int)) (congrArg I (by omega))) rfl rfl rfl ?_
    refine J.y ((op_rem rfl rfl rfl (by omega)).as (v' := I (K : Int)) (congrArg I (by rw [hKK, Int.natCast_emod]))) rfl rfl rfl ?_
    refine J.y (op_assign rfl rfl) rfl rfl rfl ?_
    refine J.nil ?_
    refine J.then_n (J.k hK19 ?_)
    refine J.keepE [(7, _), (8, _), (11, _), (13, _), (17, _)] ⟨rfl, rfl, rfl, rfl, rfl, trivial⟩ ?_
    refine J.seq (fun K20 hK20 => ?_)
    refine J.region ?_
    refine J.y (op_move rfl rfl) rfl rfl rfl ?_
    refine J.y (op_move rfl rfl) rfl rfl rfl ?_
    refine J.e (op_call rfl rfl ent24 (Ct.use (fun F' hF => path_ct F' (hK.mono (hF _ (by simp))) A1 (2 * N) c1 L (hrow.sl.mono (hF _ (by simp))) (H + 1) (by omega) hpS hsL K hKlt))) rfl rfl rfl ?_
    rintro ⟨A105, c105, m105⟩ h105
    try dsimp only at h105
    change J _ ((105, .tuple #[.slice A105 (H + 1) c105, I 0]) :: _) _ [F, m, m105] _
    refine J.y (op_move rfl rfl) rfl rfl rfl ?_
    refine J.y (op_extract rfl rfl rfl) rfl rfl rfl ?_
    refine J.y (op_extract rfl rfl rfl) rfl rfl rfl ?_
    refine J.y (op_assign rfl rfl) rfl rfl rfl ?_
    refine J.y (op_assign rfl rfl) rfl rfl rfl ?_
    refine J.nil ?_
    refine J.then_n (J.k hK20 ?_)
    refine J.keepE [(7, _), (8, _), (11, _), (13, _), (17, _), (18, _), (19, _)] ⟨rfl, rfl, rfl, rfl, rfl, rfl, rfl, trivial⟩ ?_
    refine J.seq (fun K21 hK21 => ?_)
    refine J.region ?_
    refine J.y (op_move rfl rfl) rfl rfl rfl ?_
    refine J.y (op_move rfl rfl) rfl rfl rfl ?_
    refine J.y (op_sliceTo (h := N) rfl rfl Tryd.underlying22 Tryd.sizeOf9 rfl (by omega)) rfl rfl rfl ?_
    refine J.y (op_move rfl rfl) rfl rfl rfl ?_
    refine J.y (op_assign rfl rfl) rfl rfl rfl ?_
    refine J.y (op_assign rfl rfl) rfl rfl rfl ?_
    refine J.nil ?_
    refine J.then_n (J.k hK21 ?_)
    refine J.keepE [(7, _), (8, _), (11, _), (17, _), (18, _), (19, _), (20, _), (21, _)] ⟨rfl, rfl, rfl, rfl, rfl, rfl, rfl, rfl, trivial⟩ ?_
    refine J.cut (fun x : Option Addr × Nat × List (List UInt8) × List UInt8 => [(7, I N), (17, I K), (18, .slice A105 (H + 1) c105), (19, I 0), (20, .slice x.1 N x.2.1), (21, Str x.2.2.2)]) (fun _ => [F, m, m105]) (fun x => Sl m 1 x.1 N x.2.1 (strsV x.2.2.1) ∧ Mk.path L K (H + 1) = Mk.path x.2.2.1 (K % N) H ++ [x.2.2.2] ∧ ∀ s ∈ x.2.2.1, s.length ≤ 1048576) (fun K22 hK22 => ?_) ?_
    ·
      refine J.seq (fun K23 hK23 => ?_)
      refine J.region ?_
      refine J.y (op_move rfl rfl) rfl rfl rfl ?_
      refine J.y (op_move rfl rfl) rfl rfl rfl ?_
      refine J.y (op_geq rfl rfl rfl) rfl rfl rfl ?_
      refine J.nil ?_
      refine J.then_n (J.k hK23 ?_)
      refine J.keepE [(7, _), (8, _), (11, _), (17, _), (18, _), (19, _), (20, _), (21, _), (114, _)] ⟨rfl, rfl, rfl, rfl, rfl, rfl, rfl, rfl, rfl, trivial⟩ ?_
      refine J.ite rfl (fun h114 => ?_) (fun h114 => ?_)
      ·
        refine J.region ?_
        refine J.y (op_move rfl rfl) rfl rfl rfl ?_
        refine J.y (op_move rfl rfl) rfl rfl rfl ?_
        refine J.y (op_slice (l := N) (h := 2 * N) rfl rfl Tryd.underlying22 Tryd.sizeOf9 rfl rfl (by omega)) rfl rfl rfl ?_
        refine J.y (op_move rfl rfl) rfl rfl rfl ?_
        refine J.y (op_assign rfl rfl) rfl rfl rfl ?_
        refine J.y (op_assign rfl rfl) rfl rfl rfl ?_
        refine J.nil ?_
        refine J.then_n ?_
        have hYN : 2 * N - N = N := by omega
        rw [hYN] at slY
        exact J.kk ((if c1 = N then A1 else A1.map (·.add (N * 1))), c1 - N, L.drop N, Mk.root (L.take N) H) hK22 ⟨slY, by dsimp only; rw [← hsplit, show K % N = K - N by rw [Nat.mod_eq_sub_mod (by omega), Nat.mod_eq_of_lt (by omega)]]; have := Mk.path_right (L.take N) (L.drop N) H (K - N) hXl hYl (by rw [← hN]; omega); rw [← hN, show N + (K - N) = K by omega] at this; rw [this, hsplit], hsY⟩ ⟨rfl, rfl, rfl, rfl, by rw [hYN]; rfl, rfl, trivial⟩ (fun _ h => h)
      ·
        refine J.skip ?_
        refine J.then_n ?_
        exact J.kk (A1, c1, L.take N, Mk.root (L.drop N) H) hK22 ⟨slX, by dsimp only; have := Mk.path_left (L.take N) (L.drop N) H K hXl hYl (by rw [← hN]; omega); rw [hsplit] at this; rw [this, show K % N = K from Nat.mod_eq_of_lt (by omega)], hsX⟩ ⟨rfl, rfl, rfl, rfl, rfl, rfl, trivial⟩ (fun _ h => h)
    rintro ⟨hA, hc, half, other⟩ ⟨hhs, hpath, hhm⟩
    dsimp only at hhs hpath hhm ⊢
    have hlast : (Mk.path L K (H + 1))[H]? = some other := by rw [hpath, List.getElem?_append_right (by rw [Mk.path_length]; exact Nat.le_refl _), Mk.path_length, Nat.sub_self]; rfl
    refine J.seq (fun K24 hK24 => ?_)
    refine J.region ?_
    refine J.y (op_move rfl rfl) rfl rfl rfl ?_
    refine J.y (op_move rfl rfl) rfl rfl rfl ?_
    refine J.y (op_move rfl rfl) rfl rfl rfl ?_
    refine J.y ((op_rem rfl rfl rfl (by omega)).as (v' := I ((K % N : Nat) : Int)) (congrArg I (by rw [Int.natCast_emod]))) rfl rfl rfl ?_
    refine J.e (op_call rfl rfl ent24 (Ct.use (fun F' hF => path_ct F' (hK.mono (hF _ (by simp))) hA N hc half (hhs.mono (hF _ (by simp))) H (by omega) hN hhm (K % N) (Nat.mod_lt _ hN0)))) rfl rfl rfl ?_
    rintro ⟨A124, c124, m124⟩ h124
    try dsimp only at h124
    change J _ ((124, .tuple #[.slice A124 H c124, I 0]) :: _) _ [F, m, m105, m124] _
    refine J.y (op_move rfl rfl) rfl rfl rfl ?_
    refine J.y (op_extract rfl rfl rfl) rfl rfl rfl ?_
    refine J.y (op_extract rfl rfl rfl) rfl rfl rfl ?_
    refine J.y (op_assign rfl rfl) rfl rfl rfl ?_
    refine J.y (op_assign rfl rfl) rfl rfl rfl ?_
    refine J.nil ?_
    refine J.then_n (J.k hK24 ?_)
    refine J.keepE [(18, _), (19, _), (21, _), (22, _), (23, _)] ⟨rfl, rfl, rfl, rfl, rfl, trivial⟩ ?_
    refine J.seq (fun K25 hK25 => ?_)
    refine J.seq (fun K26 hK26 => ?_)
    refine J.region ?_
    refine J.y (op_move rfl rfl) rfl rfl rfl ?_
    refine J.y ((op_neq rfl rfl rfl).as (v' := .bool false) (congrArg Value.bool (decide_eq_false (by omega)))) rfl rfl rfl ?_
    refine J.y (op_move rfl rfl) rfl rfl rfl ?_
    refine J.yg (Wan.is rfl rfl rfl rfl rfl) (op_move rfl rfl) rfl rfl ?_
    refine J.yg (Wan.is rfl rfl rfl rfl rfl) ((op_neq rfl rfl rfl).as (v' := .bool false) (congrArg Value.bool (decide_eq_false (by omega)))) rfl rfl ?_
    refine J.y (op_pickF rfl rfl rfl) rfl rfl rfl ?_
    refine J.y (op_move rfl rfl) rfl rfl rfl ?_
    refine J.yg (Wan.is rfl rfl rfl rfl rfl) (op_move rfl rfl) rfl rfl ?_
    refine J.yg (Wan.is rfl rfl rfl rfl rfl) (op_len Tryd.underlying22 rfl rfl) rfl rfl ?_
    refine J.yg (Wan.is rfl rfl rfl rfl rfl) (op_move rfl rfl) rfl rfl ?_
    refine J.yg (Wan.is rfl rfl rfl rfl rfl) (op_len Tryd.underlying22 rfl rfl) rfl rfl ?_
    refine J.yg (Wan.is rfl rfl rfl rfl rfl) (op_add rfl rfl rfl (by omega)) rfl rfl ?_
    refine J.yg (Wan.is rfl rfl rfl rfl rfl) ((op_neq rfl rfl rfl).as (v' := .bool false) (congrArg Value.bool (decide_eq_false (by omega)))) rfl rfl ?_
    refine J.y (op_pickF rfl rfl rfl) rfl rfl rfl ?_
    refine J.y (op_move rfl rfl) rfl rfl rfl ?_
    refine J.yg (Wan.is rfl rfl rfl rfl rfl) (op_move rfl rfl) rfl rfl ?_
    refine J.yg (Wan.is rfl rfl rfl rfl rfl) (op_move rfl rfl) rfl rfl ?_
    refine J.yg (Wan.is rfl rfl rfl rfl rfl) (op_len Tryd.underlying22 rfl rfl) rfl rfl ?_
    refine J.yg (Wan.is rfl rfl rfl rfl rfl) (op_indexAddr (m := m105) (i := H) rfl rfl rfl Tryd.underlying22 Tryd.sizeOf9 h105.sl (by omega)) rfl rfl ?_
    refine J.yg (Wan.is rfl rfl rfl rfl rfl) (op_load rfl rfl Tryd.isAgg9 (m := m105) (by simp) (h105.sl.elem (strsV_get hlast))) rfl rfl ?_
    refine J.yg (Wan.is rfl rfl rfl rfl rfl) (op_move rfl rfl) rfl rfl ?_
    refine J.yg (Wan.is rfl rfl rfl rfl rfl) ((op_sne rfl rfl rfl).as (v' := .bool false) (congrArg Value.bool (decide_eq_false (by simp)))) rfl rfl ?_
    refine J.y (op_pickF rfl rfl rfl) rfl rfl rfl ?_
    refine J.nil ?_
    refine J.then_n (J.k hK26 ?_)
    refine J.keepE [(18, _), (22, _), (149, _)] ⟨rfl, rfl, rfl, trivial⟩ ?_
    refine J.condF rfl rfl ?_
    refine J.skip ?_
    refine J.then_n (J.k hK25 ?_)
    refine J.keepE [(18, _), (22, _)] ⟨rfl, rfl, trivial⟩ ?_
    refine J.seq (fun K27 hK27 => ?_)
    refine J.seq (fun K28 hK28 => ?_)
    refine J.region ?_
    refine J.y (op_assign rfl rfl) rfl rfl rfl ?_
    refine J.nil ?_
    refine J.then_n (J.k hK28 ?_)
    refine J.keepE [(18, _), (22, _), (24, _)] ⟨rfl, rfl, rfl, trivial⟩ ?_
    refine J.block ?_
    refine J.loop (fun j : Nat => [(18, .slice A105 (H + 1) c105), (22, .slice A124 H c124), (24, I j)]) (fun _ => [F, m105, m124]) (fun j => j ≤ H) (fun j => H - j) 0 (Nat.zero_le _) ⟨rfl, rfl, rfl, trivial⟩ (fun _ h => h.pick [0, 2, 3] (by decide)) ?_
    intro j hj I2 hI2
    refine J.seq (fun K29 hK29 => ?_)
    refine J.seq (fun K30 hK30 => ?_)
    refine J.region ?_
    refine J.y (op_move rfl rfl) rfl rfl rfl ?_
    refine J.y (op_move rfl rfl) rfl rfl rfl ?_
    refine J.y (op_len Tryd.underlying22 rfl rfl) rfl rfl rfl ?_
    refine J.y (op_lss rfl rfl rfl) rfl rfl rfl ?_
    refine J.nil ?_
    refine J.then_n (J.k hK30 ?_)
    refine J.keepE [(18, _), (22, _), (24, _), (153, _)] ⟨rfl, rfl, rfl, rfl, trivial⟩ ?_
    refine J.ite rfl (fun h153 => ?_) (fun h153 => ?_)
    ·
      refine J.skip ?_
      refine J.then_n (J.k hK29 ?_)
      refine J.keepE [(18, _), (22, _), (24, _)] ⟨rfl, rfl, rfl, trivial⟩ ?_
      refine J.seq (fun K31 hK31 => ?_)
      refine J.block ?_
      refine J.seq (fun K32 hK32 => ?_)
      have hjH : j < H := by omega
      obtain ⟨q, hqj⟩ : ∃ q, (Mk.path half (K % N) H)[j]? = some q := ⟨_, List.getElem?_eq_getElem (by rw [Mk.path_length]; exact hjH)⟩
      have hpj : (Mk.path L K (H + 1))[j]? = some q := by rw [hpath, List.getElem?_append_left (by rw [Mk.path_length]; exact hjH)]; exact hqj
      refine J.draw [F, m105, m124] [] (.y 0 (.y 1 (.y 2 (.y 3 (.y 4 (.y 5 (.y 6 (.y 7 (.y 8 .nil))))))))) Tryd.wide (by decide +kernel) (by simp) ?_
      refine J.dy rfl (op_move rfl rfl) rfl rfl rfl rfl ?_
      refine J.dy rfl (op_move rfl rfl) rfl rfl rfl rfl ?_
      refine J.dy rfl (op_indexAddr (m := m105) (i := j) rfl rfl rfl Tryd.underlying22 Tryd.sizeOf9 h105.sl (by omega)) rfl rfl rfl rfl ?_
      refine J.dy rfl (op_load rfl rfl Tryd.isAgg9 (m := m105) (by simp) (h105.sl.elem (strsV_get hpj))) rfl rfl rfl rfl ?_
      refine J.dy rfl (op_move rfl rfl) rfl rfl rfl rfl ?_
      refine J.dy rfl (op_move rfl rfl) rfl rfl rfl rfl ?_
      refine J.dy rfl (op_indexAddr (m := m124) (i := j) rfl rfl rfl Tryd.underlying22 Tryd.sizeOf9 h124.sl (by omega)) rfl rfl rfl rfl ?_
      refine J.dy rfl (op_load rfl rfl Tryd.isAgg9 (m := m124) (by simp) (h124.sl.elem (strsV_get hqj))) rfl rfl rfl rfl ?_
      refine J.dy rfl ((op_sne rfl rfl rfl).as (v' := .bool false) (congrArg Value.bool (decide_eq_false (by simp)))) rfl rfl rfl rfl ?_
      refine J.dnil ?_
      refine J.then_n (J.k hK32 ?_)
      refine J.keepE [(18, _), (22, _), (24, _), (164, _)] ⟨rfl, rfl, rfl, rfl, trivial⟩ ?_
      refine J.condF rfl rfl ?_
      refine J.skip ?_
      refine J.blk_n ?_
      refine J.then_n (J.k hK31 ?_)
      refine J.keepE [(18, _), (22, _), (24, _)] ⟨rfl, rfl, rfl, trivial⟩ ?_
      refine J.region ?_
      refine J.y (op_move rfl rfl) rfl rfl rfl ?_
      refine J.y (op_add rfl rfl rfl (by omega)) rfl rfl rfl ?_
      refine J.y (op_assign rfl rfl) rfl rfl rfl ?_
      refine J.nil ?_
      refine J.then_n ?_
      exact J.kk (j + 1) (fun x (hx : x ≤ H ∧ H - x < H - j) => hI2 x hx.1 hx.2) ⟨by omega, by omega⟩ ⟨rfl, rfl, rfl, trivial⟩ (fun _ h => h)
    ·
      refine J.exit ?_
      refine J.then_x ?_
      refine J.then_x ?_
      refine J.blk_eq ?_
      refine J.then_n (J.k hK27 ?_)
      refine J.keepE [] trivial ?_
      refine J.seq (fun K33 hK33 => ?_)
      refine J.region ?_
      refine J.y (op_assign rfl rfl) rfl rfl rfl ?_
      refine J.nil ?_
      refine J.then_n (J.k hK33 ?_)
      refine J.keepE [(6, _)] ⟨rfl, trivial⟩ ?_
      refine J.ret ?_
      exact J.done (fun _ _ h => h) (res1 rfl rfl) (retOk () rfl trivial [0] rfl (by decide))

end Go.Proofs.YtadckkaepngloaaDoor
