/- A part of the proof: contracts of functions of the program, each for every state of the heaps that it names. -/
import Derived.Test.YtnkfapecbmmpeaaDoorSmt9
set_option linter.unusedSimpArgs false
set_option linter.unusedVariables false
namespace Go.Proofs.YtnkfapecbmmpeaaDoor
open Go Go.Fw
set_option maxRecDepth 100000
set_option maxHeartbeats 1000000
/-! ## one bit turned -/
theorem xor_bit (x m j : Nat) : (x ^^^ 2 ^ m) / 2 ^ j % 2 = if j = m then 1 - x / 2 ^ j % 2 else x / 2 ^ j % 2 := by
  have h1 := Nat.testBit_eq_decide_div_mod_eq (x := x ^^^ 2 ^ m) (i := j)
  have h2 := Nat.testBit_eq_decide_div_mod_eq (x := x) (i := j)
  rw [Nat.testBit_xor, Nat.testBit_two_pow, h2] at h1
  have a1 : (x ^^^ 2 ^ m) / 2 ^ j % 2 < 2 := Nat.mod_lt _ (by decide)
  have a2 : x / 2 ^ j % 2 < 2 := Nat.mod_lt _ (by decide)
  by_cases h : j = m
  · rw [if_pos h]
    rw [decide_eq_true h.symm] at h1
    by_cases h3 : x / 2 ^ j % 2 = 1
    · rw [decide_eq_true h3] at h1
      have : ¬ (x ^^^ 2 ^ m) / 2 ^ j % 2 = 1 := by simpa using h1.symm
      omega
    · rw [decide_eq_false h3] at h1
      have : (x ^^^ 2 ^ m) / 2 ^ j % 2 = 1 := by simpa using h1.symm
      omega
  · rw [if_neg h]
    rw [show decide (m = j) = false from decide_eq_false (fun e => h e.symm), Bool.xor_false] at h1
    have := decide_eq_decide.1 h1
    omega
/-- a key with one bit turned -/
def turn (k : List UInt8) (d : Nat) : List UInt8 := k.set (d / 8) (k.getD (d / 8) 0 ^^^ UInt8.ofNat (1 * 2 ^ (7 - d % 8)))
theorem turn_len (k : List UInt8) (d : Nat) : (turn k d).length = k.length := by unfold turn; rw [List.length_set]
theorem turn_bit {k : List UInt8} (hk : k.length = 16) {d i : Nat} (hd : d < 128) (hi : i < 128) : Sm.bit (turn k d) i = if i = d then 1 - Sm.bit k i else Sm.bit k i := by
  have hlt : i < 8 * k.length := by omega
  unfold Sm.bit
  rw [turn_len, if_pos hlt, if_pos hlt]
  unfold turn
  have h1 : (1 * 2 ^ (7 - d % 8)) % 256 = 2 ^ (7 - d % 8) := by
    rw [Nat.one_mul]
    exact Nat.mod_eq_of_lt (Nat.lt_of_le_of_lt (Nat.pow_le_pow_right (by decide) (show 7 - d % 8 ≤ 7 by omega)) (by decide))
  by_cases hq : i / 8 = d / 8
  · rw [hq]
    have hg : (k.set (d / 8) (k.getD (d / 8) 0 ^^^ UInt8.ofNat (1 * 2 ^ (7 - d % 8)))).getD (d / 8) 0 = k.getD (d / 8) 0 ^^^ UInt8.ofNat (1 * 2 ^ (7 - d % 8)) := by
      rw [List.getD_eq_getElem?_getD, List.getElem?_set_self (by omega)]; rfl
    rw [hg, UInt8.toNat_xor, show (UInt8.ofNat (1 * 2 ^ (7 - d % 8))).toNat = 2 ^ (7 - d % 8) by rw [UInt8.toNat_ofNat']; exact h1, xor_bit]
    by_cases hid : i = d
    · rw [if_pos (by rw [hid]), if_pos hid]
    · rw [if_neg (by omega), if_neg hid]
  · rw [List.getD_eq_getElem?_getD, List.getElem?_set_ne (fun e => hq e.symm), ← List.getD_eq_getElem?_getD, if_neg (fun e => hq (by rw [e]))]
theorem turn_kv {k : List UInt8} (hk : k.length = 16) {d : Nat} (hd : d < 128) : Sm.kv (turn k d) / 2 ^ (127 - d) = 2 * (Sm.kv k / 2 ^ (128 - d)) + (1 - Sm.bit k d) := by
  have h1 : Sm.belowB (turn k d) k d = true := Sm.belowB_yes fun i hi => by rw [turn_bit hk hd (by omega), if_neg (by omega)]
  have h2 := (Sm.belowB_kv ((turn_len k d).trans hk) hk (by omega)).1 h1
  have e := Sm.pre_succ (Sm.kv (turn k d)) (127 - d)
  rw [show 127 - d + 1 = 128 - d by omega, h2, ← Sm.bit_kv ((turn_len k d).trans hk) hd, turn_bit hk hd hd, if_pos rfl] at e
  exact e
theorem self_kv {k : List UInt8} (hk : k.length = 16) {d : Nat} (hd : d < 128) : Sm.kv k / 2 ^ (127 - d) = 2 * (Sm.kv k / 2 ^ (128 - d)) + Sm.bit k d := by
  have e := Sm.pre_succ (Sm.kv k) (127 - d)
  rw [show 127 - d + 1 = 128 - d by omega, ← Sm.bit_kv hk hd] at e
  exact e
/-- the node above both, on a key's way -/
def up (k : List UInt8) (d : Nat) (x s : List UInt8) : List UInt8 := if Sm.bit k d = 0 then Sb.join x s else Sb.join s x
theorem up_node {kv : List Sm.PR} (hf : Fine kv) {k : List UInt8} (hk : k.length = 16) {d : Nat} (hd : d < 128) : up k d (Sm.ndB kv k (d + 1)) (Sm.ndB kv (turn k d) (d + 1)) = Sm.ndB kv k d := by
  have hb := Sm.bit_le k d
  have ht := turn_kv hk hd
  have hs := self_kv hk hd
  unfold up
  split
  · rename_i h
    rw [h] at ht hs
    exact Sm.ndB_join hf.once hf.k16 hk hk ((turn_len k d).trans hk) hd hs ht
  · rename_i h
    rw [show Sm.bit k d = 1 by omega] at ht hs
    exact Sm.ndB_join hf.once hf.k16 hk ((turn_len k d).trans hk) hk hd ht hs
/-- what stands beside a key's way -/
def bsd (kv : List Sm.PR) (k : List UInt8) (d n : Nat) : List (List UInt8) := (List.range n).map fun i => Sm.ndB kv (turn k (d + i)) (d + i + 1)
theorem bsd_succ (kv : List Sm.PR) (k : List UInt8) (d n : Nat) : bsd kv k d (n + 1) = bsd kv k d n ++ [Sm.ndB kv (turn k (d + n)) (d + n + 1)] := by unfold bsd; rw [List.range_succ, List.map_append]; rfl
theorem bsd_len (kv : List Sm.PR) (k : List UInt8) (d n : Nat) : (bsd kv k d n).length = n := by unfold bsd; rw [List.length_map, List.length_range]
theorem bsd_get (kv : List Sm.PR) (k : List UInt8) (d : Nat) {n i : Nat} (hi : i < n) : (bsd kv k d n).getD i [] = Sm.ndB kv (turn k (d + i)) (d + i + 1) := by
  unfold bsd
  rw [List.getD_eq_getElem?_getD, List.getElem?_map, List.getElem?_range hi]; rfl
theorem bsd_cons (kv : List Sm.PR) (k : List UInt8) (d n : Nat) : bsd kv k d (n + 1) = Sm.ndB kv (turn k d) (d + 1) :: bsd kv k (d + 1) n := by
  unfold bsd
  rw [List.range_succ_eq_map, List.map_cons, List.map_map]
  congr 1
  refine List.map_congr_left fun i _ => ?_
  show Sm.ndB kv (turn k (d + (i + 1))) (d + (i + 1) + 1) = _
  rw [show d + (i + 1) = d + 1 + i by omega]
/-- climbing the last i of them -/
def clm (k : List UInt8) (d : Nat) (bs : List (List UInt8)) (x : List UInt8) : Nat → List UInt8
  | 0 => x
  | i + 1 => up k (d + (bs.length - 1 - i)) (clm k d bs x i) (bs.getD (bs.length - 1 - i) [])
theorem clm_node {kv : List Sm.PR} (hf : Fine kv) {k : List UInt8} (hk : k.length = 16) {d n : Nat} (hd : d + n ≤ 128) : ∀ i, i ≤ n → clm k d (bsd kv k d n) (Sm.ndB kv k (d + n)) i = Sm.ndB kv k (d + n - i)
  | 0, _ => rfl
  | i + 1, hi => by
    rw [clm, clm_node hf hk hd i (by omega), bsd_len, bsd_get _ _ _ (by omega)]
    have h := up_node hf hk (d := d + (n - 1 - i)) (by omega)
    rw [show d + (n - 1 - i) + 1 = d + n - i by omega] at h ⊢
    rw [h, show d + (n - 1 - i) = d + n - (i + 1) by omega]
theorem join_len {a b : List UInt8} (ha : a.length ≤ 17) (hb : b.length ≤ 17) : (Sb.join a b).length ≤ 17 := by
  have e : Sb.join a b = if a = [0] ∧ (b = [0] ∨ Sb.isLf b) then b else if b = [0] ∧ Sb.isLf a then a else 2 :: Sha.tagged 10 [a, b] := by unfold Sb.join; rfl
  rw [e]
  split
  · exact hb
  · split
    · exact ha
    · rw [List.length_cons, Sha.tagged_length]; decide
theorem clm_small {k : List UInt8} {d : Nat} {bs : List (List UInt8)} {x : List UInt8} (hb : ∀ s ∈ bs, s.length ≤ 17) (hx : x.length ≤ 17) : ∀ i, (clm k d bs x i).length ≤ 17
  | 0 => hx
  | i + 1 => by
    have h1 := clm_small (k := k) (d := d) hb hx i
    have h2 : (bs.getD (bs.length - 1 - i) []).length ≤ 17 := by
      by_cases h : bs.length - 1 - i < bs.length
      · rw [List.getD_eq_getElem?_getD, List.getElem?_eq_getElem h]; exact hb _ (List.getElem_mem h)
      · rw [List.getD_eq_getElem?_getD, List.getElem?_eq_none (by omega)]; exact Nat.zero_le _
    rw [clm, up]
    split
    · exact join_len h1 h2
    · exact join_len h2 h1
/-! ## where a way ends -/
def cur (kv : List Sm.PR) (k : List UInt8) (d : Nat) : List Sm.PR := Sm.bel kv k d
/-- the keys there, rising -/
def kd (kv : List Sm.PR) (k : List UInt8) (d : Nat) : List (List UInt8) := (Sm.keysS kv).filter fun q => Sm.belowB q k d
theorem kd_len {kv : List Sm.PR} (ho : Sm.Once kv) (k : List UInt8) (d : Nat) : (kd kv k d).length = (cur kv k d).length := by
  have h : (Sm.prs kv (kd kv k d)).length = (kd kv k d).length := Sm.prs_len _ _
  rw [← h]
  unfold kd
  rw [Sm.prs_filter]
  exact ((Sm.prs_perm ho).filter _).length_eq
theorem below_mono {q k : List UInt8} {d : Nat} (h : Sm.belowB q k (d + 1) = true) : Sm.belowB q k d = true := by
  rw [Sm.belowB_succ, Bool.and_eq_true] at h; exact h.1
theorem kd_succ (kv : List Sm.PR) (k : List UInt8) (d : Nat) : (kd kv k d).filter (fun q => Sm.belowB q k (d + 1)) = kd kv k (d + 1) := by
  unfold kd
  rw [List.filter_filter]
  refine List.filter_congr fun q _ => ?_
  cases h : Sm.belowB q k (d + 1) with
  | false => rfl
  | true => rw [below_mono h]; rfl
/-- the first depth at which there is one at most -/
structure Stop (kv : List Sm.PR) (k : List UInt8) (d s : Nat) : Prop where
  ge : d ≤ s
  le : s ≤ 128
  one : (cur kv k s).length ≤ 1
  two : ∀ e, d ≤ e → e < s → 2 ≤ (cur kv k e).length
theorem Stop.uniq {kv : List Sm.PR} {k : List UInt8} {d s t : Nat} (h : Stop kv k d s) (g : Stop kv k d t) : s = t := by
  rcases Nat.lt_trichotomy s t with h1 | h1 | h1
  · have := g.two s h.ge h1; have := h.one; omega
  · exact h1
  · have := h.two t g.ge h1; have := g.one; omega
theorem Stop.from {kv : List Sm.PR} {k : List UInt8} {d e s : Nat} (h : Stop kv k d s) (h1 : d ≤ e) (h2 : e ≤ s) : Stop kv k e s := ⟨h2, h.le, h.one, fun x q1 q2 => h.two x (by omega) q2⟩
theorem cur_top {kv : List Sm.PR} (hf : Fine kv) {k : List UInt8} (hk : k.length = 16) : (cur kv k 128).length ≤ 1 := (Sm.bel_wf hf.once hf.k16 hk (d := 128) (Nat.le_refl _)).short
/-! ## what a proof tells -/
def pThere (kv : List Sm.PR) (k : List UInt8) (s : Nat) : Bool := decide ((kd kv k s).length = 1)
def pKey (kv : List Sm.PR) (k : List UInt8) (s : Nat) : List UInt8 := if (kd kv k s).length = 1 then (kd kv k s).getD 0 [] else []
def pVal (kv : List Sm.PR) (k : List UInt8) (s : Nat) : List UInt8 := if (kd kv k s).length = 1 then (Sm.getP kv ((kd kv k s).getD 0 [])).getD [] else []
theorem cur_one {kv : List Sm.PR} (ho : Sm.Once kv) {k : List UInt8} {s : Nat} (h : (kd kv k s).length = 1) : cur kv k s = [(pKey kv k s, pVal kv k s)] := by
  obtain ⟨q, hq⟩ := List.length_eq_one_iff.1 h
  have h1 : (cur kv k s).Perm (Sm.prs kv (kd kv k s)) := by
    unfold kd
    rw [Sm.prs_filter]
    exact (Sm.prs_perm ho).symm.filter _
  unfold pKey pVal
  rw [if_pos h, if_pos h, hq]
  rw [hq] at h1
  exact List.perm_singleton.1 h1
theorem nd_form : ∀ {f : Nat} {l : List Sm.PR}, Sm.WF f l → Sm.nd f l = [0] ∨ ((Sm.nd f l).length = 17 ∧ (((Sm.nd f l).getD 0 0).toNat = 1 ∨ ((Sm.nd f l).getD 0 0).toNat = 2))
  | f, [], _ => .inl (Sm.nd_nil f)
  | f, [p], _ => .inr (by rw [Sm.nd_one]; unfold Sb.leafN; exact ⟨by rw [List.length_cons, Sha.tagged_length], .inl rfl⟩)
  | 0, a :: b :: r, hw => by have := hw.short; simp at this
  | f + 1, a :: b :: r, hw => by
    rw [Sm.nd_two f (by simp)]
    have e : ∀ x y, Sb.join x y = if x = [0] ∧ (y = [0] ∨ Sb.isLf y) then y else if y = [0] ∧ Sb.isLf x then x else 2 :: Sha.tagged 10 [x, y] := fun x y => by unfold Sb.join; rfl
    rw [e]
    split
    · exact nd_form (hw.side false)
    · split
      · exact nd_form (hw.side true)
      · exact .inr ⟨by rw [List.length_cons, Sha.tagged_length], .inr rfl⟩
theorem lf_first {s : List UInt8} (h : Sb.isLf s) : (s.getD 0 0).toNat = 1 := by
  obtain ⟨h1, h2⟩ := h
  cases s with
  | nil => exact absurd rfl h1
  | cons a r =>
    rw [List.take_succ_cons, List.take_zero] at h2
    injection h2 with h2 _
    show a.toNat = 1
    rw [h2]; rfl
/-- above two keys at least there is no leaf -/
theorem nd_two2 : ∀ {f : Nat} {l : List Sm.PR}, Sm.WF f l → 2 ≤ l.length → ((Sm.nd f l).getD 0 0).toNat = 2
  | 0, l, hw, h => by have := hw.short; omega
  | f + 1, l, hw, h => by
    rw [Sm.nd_two f h]
    have e : ∀ x y, Sb.join x y = if x = [0] ∧ (y = [0] ∨ Sb.isLf y) then y else if y = [0] ∧ Sb.isLf x then x else 2 :: Sha.tagged 10 [x, y] := fun x y => by unfold Sb.join; rfl
    have hs := Sm.side_len f l
    have z1 := Sm.nd_eq0 (hw.side true)
    have z2 := Sm.nd_eq0 (hw.side false)
    rw [e]
    split
    · rename_i hc
      have h0 : (Sm.side f true l).length = 0 := by rw [z1.1 hc.1]; rfl
      have h2 := nd_two2 (hw.side false) (by omega)
      exact h2
    · split
      · rename_i hc
        have h0 : (Sm.side f false l).length = 0 := by rw [z2.1 hc.1]; rfl
        exact nd_two2 (hw.side true) (by omega)
      · rfl
def nodeB (s : List UInt8) : Bool := decide (s = [0] ∨ (s.length = 17 ∧ ((s.getD 0 0).toNat = 1 ∨ (s.getD 0 0).toNat = 2)))
/-- a proof that may be -/
structure GoodP (bs : List (List UInt8)) (th : Bool) (pk pv k : List UInt8) (d : Nat) : Prop where
  k16 : k.length = 16
  le : d + bs.length ≤ 128
  nodes : ∀ j, j < bs.length → nodeB (bs.getD j []) = true
  last : 0 < bs.length → bs.getD (bs.length - 1) [] ≠ [0] ∧ (th = false → ((bs.getD (bs.length - 1) []).getD 0 0).toNat = 2)
  no : th = false → pk = [] ∧ pv = []
  yes : th = true → pk.length = 16 ∧ Sm.belowB pk k (d + bs.length) = true
  small : ∀ s ∈ bs, s.length ≤ 17
theorem bsd_small (kv : List Sm.PR) (k : List UInt8) (d n : Nat) : ∀ s ∈ bsd kv k d n, s.length ≤ 17 := fun s hs => by
  unfold bsd at hs
  obtain ⟨i, _, rfl⟩ := List.mem_map.1 hs
  exact ndB_small _ _ _
theorem kd_mem {kv : List Sm.PR} {k q : List UInt8} {s : Nat} (h : q ∈ kd kv k s) : (∃ v, (q, v) ∈ kv) ∧ Sm.belowB q k s = true := by
  obtain ⟨h1, h2⟩ := List.mem_filter.1 h
  exact ⟨Sm.keysS_mem.1 h1, h2⟩
theorem other_len {kv : List Sm.PR} (hf : Fine kv) {k : List UInt8} (hk : k.length = 16) {e : Nat} (he : e < 128) : (cur kv k (e + 1)).length + (Sm.bel kv (turn k e) (e + 1)).length = (cur kv k e).length := by
  have hb := Sm.bit_le k e
  have ht := turn_kv hk he
  have hs := self_kv hk he
  have h := Sm.side_len (127 - e) (Sm.bel kv k e)
  have hl := hf.k16
  unfold cur
  by_cases h0 : Sm.bit k e = 0
  · rw [h0] at ht hs
    rw [Sm.bel_half hl hk hk he true (by rw [if_pos rfl]; exact hs), Sm.bel_half hl hk ((turn_len k e).trans hk) he false (by rw [if_neg (by decide)]; exact ht)]
    exact h
  · rw [show Sm.bit k e = 1 by omega] at ht hs
    rw [Sm.bel_half hl hk hk he false (by rw [if_neg (by decide)]; exact hs), Sm.bel_half hl hk ((turn_len k e).trans hk) he true (by rw [if_pos rfl]; exact ht)]
    omega
theorem prove_good {kv : List Sm.PR} (hf : Fine kv) {k : List UInt8} (hk : k.length = 16) {d s : Nat} (h : Stop kv k d s) : GoodP (bsd kv k d (s - d)) (pThere kv k s) (pKey kv k s) (pVal kv k s) k d := by
  have hle := h.le
  have hge := h.ge
  have ht16 : ∀ e, (turn k e).length = 16 := fun e => (turn_len k e).trans hk
  refine ⟨hk, by rw [bsd_len]; omega, fun j hj => ?_, fun h0 => ?_, fun ht => ?_, fun ht => ?_, bsd_small _ _ _ _⟩
  · rw [bsd_len] at hj
    rw [bsd_get _ _ _ hj]
    exact decide_eq_true (nd_form (Sm.bel_wf hf.once hf.k16 (ht16 _) (by omega)))
  · rw [bsd_len] at h0 ⊢
    rw [bsd_get _ _ _ (by omega)]
    have h2 := h.two (d + (s - d - 1)) (by omega) (by omega)
    have ho := other_len hf hk (e := d + (s - d - 1)) (by omega)
    have hone := h.one
    rw [show d + (s - d - 1) + 1 = s by omega] at ho ⊢
    have hw := Sm.bel_wf hf.once hf.k16 (ht16 (d + (s - d - 1))) (d := s) hle
    refine ⟨fun e => ?_, fun hth => ?_⟩
    · have := (Sm.nd_eq0 hw).1 e
      rw [this] at ho
      simp at ho
      omega
    · have h3 : (kd kv k s).length ≠ 1 := of_decide_eq_false hth
      rw [kd_len hf.once] at h3
      exact nd_two2 hw (by omega)
  · have h3 : (kd kv k s).length ≠ 1 := of_decide_eq_false ht
    unfold pKey pVal
    rw [if_neg h3, if_neg h3]; exact ⟨rfl, rfl⟩
  · have h3 : (kd kv k s).length = 1 := of_decide_eq_true ht
    obtain ⟨q, hq⟩ := List.length_eq_one_iff.1 h3
    have hm : q ∈ kd kv k s := by rw [hq]; exact .head _
    obtain ⟨⟨v, hv⟩, hb⟩ := kd_mem hm
    unfold pKey
    rw [if_pos h3, hq, bsd_len, show d + (s - d) = s by omega]
    exact ⟨hf.k16 _ hv, hb⟩
/-- the node at its end -/
theorem end_node {kv : List Sm.PR} (hf : Fine kv) {k : List UInt8} {d s : Nat} (h : Stop kv k d s) : (if pThere kv k s = true then Sb.leafN (pKey kv k s) (pVal kv k s) else [0]) = Sm.ndB kv k s := by
  unfold Sm.ndB
  have e1 : Sm.bel kv k s = cur kv k s := rfl
  have hone := h.one
  by_cases h3 : (kd kv k s).length = 1
  · rw [if_pos (show pThere kv k s = true from decide_eq_true h3), e1, cur_one hf.once h3, Sm.nd_one]
  · rw [if_neg (by unfold pThere; rw [decide_eq_false h3]; decide)]
    rw [kd_len hf.once] at h3
    rw [e1, List.eq_nil_of_length_eq_zero (show (cur kv k s).length = 0 by omega), Sm.nd_nil]
/-- what a proof tells of its key -/
theorem tells {kv : List Sm.PR} (hf : Fine kv) {k : List UInt8} {d s : Nat} (h : Stop kv k d s) :
    (Sm.getP kv k).isSome = (pThere kv k s && decide (pKey kv k s = k)) ∧ (pThere kv k s = true → pKey kv k s = k → Sm.getP kv k = some (pVal kv k s)) := by
  have hself : Sm.belowB k k s = true := Sm.belowB_yes fun _ _ => rfl
  have hone := h.one
  have hmem : ∀ v, Sm.getP kv k = some v → (k, v) ∈ cur kv k s := fun v hv => List.mem_filter.2 ⟨Sm.getP_some hv, hself⟩
  by_cases h3 : (kd kv k s).length = 1
  · have hc := cur_one hf.once h3
    have ht : pThere kv k s = true := decide_eq_true h3
    have hin : (pKey kv k s, pVal kv k s) ∈ kv := (List.mem_filter.1 (show (pKey kv k s, pVal kv k s) ∈ cur kv k s by rw [hc]; exact .head _)).1
    rw [ht, Bool.true_and]
    by_cases hk : pKey kv k s = k
    · have hg := Sm.getP_mem hf.once hin
      rw [show (pKey kv k s, pVal kv k s).1 = k from hk] at hg
      rw [hg, decide_eq_true hk]
      exact ⟨rfl, fun _ _ => rfl⟩
    · rw [decide_eq_false hk]
      refine ⟨?_, fun _ q => absurd q hk⟩
      cases hg : Sm.getP kv k with
      | none => rfl
      | some v =>
        have := hmem v hg
        rw [hc, List.mem_singleton] at this
        injection this with e _
        exact absurd e.symm hk
  · have ht : pThere kv k s = false := decide_eq_false h3
    rw [ht, Bool.false_and]
    refine ⟨?_, fun q => by cases q⟩
    rw [kd_len hf.once] at h3
    have h0 : cur kv k s = [] := List.eq_nil_of_length_eq_zero (by omega)
    cases hg : Sm.getP kv k with
    | none => rfl
    | some v =>
      have := hmem v hg
      rw [h0] at this; cases this
theorem node_1 {s : List UInt8} (h : s = [0]) : nodeB s = true := decide_eq_true (.inl h)
theorem node_2 {s : List UInt8} (h1 : s.length = 17) (h2 : (s.getD 0 0).toNat = 1 ∨ (s.getD 0 0).toNat = 2) : nodeB s = true := decide_eq_true (.inr ⟨h1, h2⟩)
theorem node_no {s : List UInt8} (h0 : ¬ s = [0]) (h : ¬ (s.length = 17 ∧ ((s.getD 0 0).toNat = 1 ∨ (s.getD 0 0).toNat = 2))) : nodeB s = false := decide_eq_false (fun q => q.elim h0 h)
theorem last_pos {s : List UInt8} (h : (s.getD 0 0).toNat = 2) : 0 < s.length := by
  cases s with
  | nil => cases h
  | cons a r => exact Nat.zero_lt_succ _

end Go.Proofs.YtnkfapecbmmpeaaDoor
