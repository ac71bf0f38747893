/- A part of the proof: contracts of functions of the program, each for every state of the heaps that it names. -/
import Derived.Test.YtnkfapecbmmpeaaGreatDoorFwY
set_option linter.unusedSimpArgs false
set_option linter.unusedVariables false
namespace Go.Proofs.YtnkfapecbmmpeaaGreatDoor
open Go Go.Fw
set_option maxRecDepth 100000
set_option maxHeartbeats 1000000
/-! ## Texts as runes -/
theorem get_dec (s : List UInt8) (i : Nat) : (⟨s.toArray⟩ : ByteArray).get! i = s.getD i 0 := by
  show s.toArray[i]! = _
  rw [List.getD_eq_getElem?_getD, getElem!_def, List.getElem?_toArray]
  cases s[i]? <;> rfl
/-- the decoding, by four bytes and how many there are -/
def dc (a b c d n : Nat) : Nat × Nat :=
  if a < 128 then (a, 1)
  else if a / 32 = 6 ∧ 1 < n ∧ b / 64 = 2 then (if a % 32 * 64 + b % 64 ≥ 128 then (a % 32 * 64 + b % 64, 2) else (65533, 1))
  else if a / 16 = 14 ∧ 2 < n ∧ b / 64 = 2 ∧ c / 64 = 2 then (if a % 16 * 4096 + b % 64 * 64 + c % 64 ≥ 2048 ∧ ¬ (55296 ≤ a % 16 * 4096 + b % 64 * 64 + c % 64 ∧ a % 16 * 4096 + b % 64 * 64 + c % 64 < 57344) then (a % 16 * 4096 + b % 64 * 64 + c % 64, 3) else (65533, 1))
  else if a / 8 = 30 ∧ 3 < n ∧ b / 64 = 2 ∧ c / 64 = 2 ∧ d / 64 = 2 then (if a % 8 * 262144 + b % 64 * 4096 + c % 64 * 64 + d % 64 ≥ 65536 ∧ a % 8 * 262144 + b % 64 * 4096 + c % 64 * 64 + d % 64 ≤ 1114111 then (a % 8 * 262144 + b % 64 * 4096 + c % 64 * 64 + d % 64, 4) else (65533, 1))
  else (65533, 1)
def bt (s : List UInt8) (k : Nat) : Nat := (s.getD k 0).toNat
theorem bt_lt (s : List UInt8) (k : Nat) : bt s k < 256 := (s.getD k 0).toNat_lt
theorem dec_dc (s : List UInt8) (pos : Nat) (h : pos ≤ s.length) : dec s pos = dc (bt s (pos + 0)) (bt s (pos + 1)) (bt s (pos + 2)) (bt s (pos + 3)) (s.length - pos) := by
  unfold dec Utf8.decode dc
  simp only [get_dec, Utf8.runeError, Utf8.valid, ← bt.eq_1]
  have hs : (⟨s.toArray⟩ : ByteArray).size = s.length := rfl
  simp only [hs]
  generalize bt s (pos + 0) = a
  generalize bt s (pos + 1) = b
  generalize bt s (pos + 2) = c
  generalize bt s (pos + 3) = d
  have e1 : (decide (pos + 1 < s.length)) = decide (1 < s.length - pos) := decide_eq_decide.2 (by omega)
  have e2 : (decide (pos + 2 < s.length)) = decide (2 < s.length - pos) := decide_eq_decide.2 (by omega)
  have e3 : (decide (pos + 3 < s.length)) = decide (3 < s.length - pos) := decide_eq_decide.2 (by omega)
  simp only [e1, e2, e3, Bool.and_eq_true, Bool.or_eq_true, decide_eq_true_eq, beq_iff_eq, ge_iff_le]
  split
  · rfl
  · refine ite_congr (by simp only [eq_iff_iff, and_assoc]) (fun _ => rfl) (fun _ => ?_)
    refine ite_congr (by simp only [eq_iff_iff]; omega) (fun _ => ite_congr (by simp only [eq_iff_iff]; omega) (fun _ => rfl) (fun _ => rfl)) (fun _ => ?_)
    exact ite_congr (by simp only [eq_iff_iff]; omega) (fun _ => ite_congr (by simp only [eq_iff_iff]; omega) (fun _ => rfl) (fun _ => rfl)) (fun _ => rfl)
theorem dec_drop {s : List UInt8} {pos : Nat} (h : pos ≤ s.length) : dec s pos = dec (s.drop pos) 0 := by
  rw [dec_dc s pos h, dec_dc _ 0 (Nat.zero_le _)]
  have e : ∀ k, bt (s.drop pos) (0 + k) = bt s (pos + k) := fun k => by
    unfold bt
    rw [List.getD_eq_getElem?_getD, List.getD_eq_getElem?_getD, List.getElem?_drop, Nat.zero_add]
  simp only [e, List.length_drop, Nat.sub_zero]
theorem dc_pos (a b c d n : Nat) : 1 ≤ (dc a b c d n).2 := by
  unfold dc
  repeat' split
  all_goals (dsimp only; omega)
theorem dc_le (a b c d n : Nat) (h : 0 < n) : (dc a b c d n).2 ≤ n := by
  unfold dc
  repeat' split
  all_goals (dsimp only; omega)
theorem dc_lt (a b c d n : Nat) (ha : a < 256) : (dc a b c d n).1 < 1114112 := by
  unfold dc
  repeat' split
  all_goals (dsimp only; omega)
theorem dec_pos (s : List UInt8) (pos : Nat) (h : pos ≤ s.length) : 1 ≤ (dec s pos).2 := by rw [dec_dc s pos h]; exact dc_pos _ _ _ _ _
theorem dec_le (s : List UInt8) (pos : Nat) (h : pos < s.length) : pos + (dec s pos).2 ≤ s.length := by
  rw [dec_dc s pos (by omega)]; have := dc_le (bt s (pos + 0)) (bt s (pos + 1)) (bt s (pos + 2)) (bt s (pos + 3)) (s.length - pos) (by omega); omega
theorem dec_rune (s : List UInt8) (pos : Nat) (h : pos ≤ s.length) : (dec s pos).1 < 1114112 := by rw [dec_dc s pos h]; exact dc_lt _ _ _ _ _ (bt_lt _ _)
/-- a rune as bytes -/
def enc (r : Nat) : List UInt8 :=
  if r < 128 then [UInt8.ofNat r]
  else if r < 2048 then [UInt8.ofNat (192 + r / 64), UInt8.ofNat (128 + r % 64)]
  else if r < 65536 then [UInt8.ofNat (224 + r / 4096), UInt8.ofNat (128 + r / 64 % 64), UInt8.ofNat (128 + r % 64)]
  else [UInt8.ofNat (240 + r / 262144), UInt8.ofNat (128 + r / 4096 % 64), UInt8.ofNat (128 + r / 64 % 64), UInt8.ofNat (128 + r % 64)]
/-- may a number be a rune? -/
def Rn (r : Nat) : Prop := r < 1114112 ∧ ¬ (55296 ≤ r ∧ r < 57344)
theorem b8 {n : Nat} (h : n < 256) : (UInt8.ofNat n).toNat = n := by rw [UInt8.toNat_ofNat']; exact Nat.mod_eq_of_lt h
theorem enc_ne (r : Nat) : enc r ≠ [] := by unfold enc; repeat' split
                                            all_goals (intro h; cases h)
theorem dec_enc {r : Nat} (h : Rn r) (t : List UInt8) : dec (enc r ++ t) 0 = (r, (enc r).length) := by
  obtain ⟨h1, h2⟩ := h
  rw [dec_dc _ 0 (Nat.zero_le _)]
  unfold enc
  split
  · simp only [bt, List.cons_append, List.nil_append, List.getD_cons_zero, List.length_cons, List.length_nil, Nat.zero_add]
    unfold dc
    rw [b8 (by omega), if_pos (by omega)]
  split
  · simp only [bt, List.cons_append, List.nil_append, List.getD_cons_zero, List.getD_cons_succ, List.length_cons, List.length_nil, Nat.zero_add]
    unfold dc
    rw [b8 (by omega), b8 (by omega), if_neg (by omega), if_pos (by omega), if_pos (by omega)]
    congr 1; omega
  split
  · simp only [bt, List.cons_append, List.nil_append, List.getD_cons_zero, List.getD_cons_succ, List.length_cons, List.length_nil, Nat.zero_add]
    unfold dc
    rw [b8 (by omega), b8 (by omega), b8 (by omega), if_neg (by omega), if_neg (by omega), if_pos (by omega), if_pos (by omega)]
    congr 1; omega
  · simp only [bt, List.cons_append, List.nil_append, List.getD_cons_zero, List.getD_cons_succ, List.length_cons, List.length_nil, Nat.zero_add]
    unfold dc
    rw [b8 (by omega), b8 (by omega), b8 (by omega), b8 (by omega), if_neg (by omega), if_neg (by omega), if_neg (by omega), if_pos (by omega), if_pos (by omega)]
    congr 1; omega
theorem b8e {n : Nat} {x : UInt8} (h : n = x.toNat) : UInt8.ofNat n = x := by rw [h]; exact UInt8.ofNat_toNat
theorem dec_ok {t : List UInt8} (h0 : t ≠ []) (h : dec t 0 ≠ (65533, 1)) : ∃ r t', Rn r ∧ t = enc r ++ t' ∧ dec t 0 = (r, (enc r).length) := by
  suffices hs : ∃ r t', Rn r ∧ t = enc r ++ t' by
    obtain ⟨r, t', hr, rfl⟩ := hs
    exact ⟨r, t', hr, rfl, dec_enc hr t'⟩
  rw [dec_dc _ 0 (Nat.zero_le _)] at h
  match t, h0 with
  | [x], _ =>
    simp only [bt, List.getD_cons_zero, List.getD_cons_succ, List.getD_nil, List.length_cons, List.length_nil, Nat.zero_add] at h
    unfold dc at h
    have := x.toNat_lt
    by_cases h1 : x.toNat < 128
    · refine ⟨x.toNat, [], ⟨by omega, by omega⟩, ?_⟩
      unfold enc; rw [if_pos h1, b8e rfl]; rfl
    · rw [if_neg h1, if_neg (by omega), if_neg (by omega), if_neg (by omega)] at h; exact absurd rfl h
  | x :: y :: t, _ =>
    simp only [bt, List.getD_cons_zero, List.getD_cons_succ, List.length_cons, Nat.zero_add] at h
    unfold dc at h
    have hx := x.toNat_lt
    have hy := y.toNat_lt
    by_cases h1 : x.toNat < 128
    · refine ⟨x.toNat, y :: t, ⟨by omega, by omega⟩, ?_⟩
      unfold enc; rw [if_pos h1, b8e rfl]; rfl
    rw [if_neg h1] at h
    split at h
    · rename_i h2
      split at h
      · rename_i h3
        refine ⟨x.toNat % 32 * 64 + y.toNat % 64, t, ⟨by omega, by omega⟩, ?_⟩
        unfold enc; rw [if_neg (by omega), if_pos (by omega), b8e (x := x) (by omega), b8e (x := y) (by omega)]; rfl
      · exact absurd rfl h
    split at h
    · rename_i h2 h3
      match t with
      | [] => simp only [List.length_nil] at h3; omega
      | z :: t =>
        simp only [List.getD_cons_zero] at h h3
        have hz := z.toNat_lt
        split at h
        · rename_i h4
          refine ⟨x.toNat % 16 * 4096 + y.toNat % 64 * 64 + z.toNat % 64, t, ⟨by omega, by omega⟩, ?_⟩
          unfold enc; rw [if_neg (by omega), if_neg (by omega), if_pos (by omega), b8e (x := x) (by omega), b8e (x := y) (by omega), b8e (x := z) (by omega)]; rfl
        · exact absurd rfl h
    split at h
    · rename_i h2 h3 h4
      obtain ⟨z, v, t', rfl⟩ : ∃ z v t', t = z :: v :: t' := by
        cases t with
        | nil => simp only [List.length_nil] at h4; omega
        | cons z t => cases t with
          | nil => simp only [List.length_nil, List.length_cons] at h4; omega
          | cons v t => exact ⟨z, v, t, rfl⟩
      simp only [List.getD_cons_zero, List.getD_cons_succ] at h h4
      have hz := z.toNat_lt
      have hv := v.toNat_lt
      split at h
      · rename_i h5
        refine ⟨x.toNat % 8 * 262144 + y.toNat % 64 * 4096 + z.toNat % 64 * 64 + v.toNat % 64, t', ⟨by omega, by omega⟩, ?_⟩
        unfold enc; rw [if_neg (by omega), if_neg (by omega), if_neg (by omega), b8e (x := x) (by omega), b8e (x := y) (by omega), b8e (x := z) (by omega), b8e (x := v) (by omega)]; rfl
      · exact absurd rfl h
    · exact absurd rfl h
/-- the runes that a range gives -/
def rl (s : List UInt8) : List Nat := if h : s = [] then [] else (dec s 0).1 :: rl (s.drop (dec s 0).2)
termination_by s.length
decreasing_by
  have := dec_pos s 0 (Nat.zero_le _)
  have := List.length_pos_iff.2 h
  rw [List.length_drop]; omega
/-- is a text made of runes? -/
def vld (s : List UInt8) : Bool := if h : s = [] then true else decide (dec s 0 ≠ (65533, 1)) && vld (s.drop (dec s 0).2)
termination_by s.length
decreasing_by
  have := dec_pos s 0 (Nat.zero_le _)
  have := List.length_pos_iff.2 h
  rw [List.length_drop]; omega
theorem rl_nil : rl [] = [] := by rw [rl, dif_pos rfl]
theorem rl_ne {s : List UInt8} (h : s ≠ []) : rl s = (dec s 0).1 :: rl (s.drop (dec s 0).2) := by rw [rl, dif_neg h]
theorem vld_nil : vld [] = true := by rw [vld, dif_pos rfl]
theorem vld_ne {s : List UInt8} (h : s ≠ []) : vld s = (decide (dec s 0 ≠ (65533, 1)) && vld (s.drop (dec s 0).2)) := by rw [vld, dif_neg h]
theorem rl_at {s : List UInt8} {pos : Nat} (h : pos < s.length) : rl (s.drop pos) = (dec s pos).1 :: rl (s.drop (npos s pos)) := by
  rw [rl_ne (fun e => by have := congrArg List.length e; rw [List.length_drop] at this; simp at this; omega), ← dec_drop (by omega), npos_in h, List.drop_drop]
theorem rl_cons {r : Nat} (h : Rn r) (t : List UInt8) : rl (enc r ++ t) = r :: rl t := by
  rw [rl_ne (by simp [enc_ne]), dec_enc h]
  dsimp only
  rw [List.drop_left]
theorem vld_cons {r : Nat} (h : Rn r) (t : List UInt8) : vld (enc r ++ t) = if r = 65533 ∧ (enc r).length = 1 then false else vld t := by
  rw [vld_ne (by simp [enc_ne]), dec_enc h]
  dsimp only
  rw [List.drop_left]
  by_cases h2 : r = 65533 ∧ (enc r).length = 1
  · rw [if_pos h2, decide_eq_false (by rw [h2.2, h2.1]; exact fun e => e rfl)]; rfl
  · rw [if_neg h2, decide_eq_true (by intro e; rw [Prod.mk.injEq] at e; exact h2 e)]; rfl
theorem len65533 : (enc 65533).length = 3 := rfl
theorem vld_cons' {r : Nat} (h : Rn r) (t : List UInt8) : vld (enc r ++ t) = vld t := by
  rw [vld_cons h, if_neg]
  rintro ⟨rfl, h⟩
  rw [len65533] at h; omega
def unr (l : List Nat) : List UInt8 := (l.map enc).flatten
theorem unr_cons (r : Nat) (l : List Nat) : unr (r :: l) = enc r ++ unr l := rfl
theorem unr_append (a b : List Nat) : unr (a ++ b) = unr a ++ unr b := by unfold unr; rw [List.map_append, List.flatten_append]
theorem rl_unr : ∀ (l : List Nat), (∀ r ∈ l, Rn r) → ∀ t, rl (unr l ++ t) = l ++ rl t
  | [], _, t => rfl
  | r :: l, h, t => by rw [unr_cons, List.append_assoc, rl_cons (h r (.head _)), rl_unr l (fun x hx => h x (.tail _ hx))]; rfl
theorem vld_unr : ∀ (l : List Nat), (∀ r ∈ l, Rn r) → ∀ t, vld (unr l ++ t) = vld t
  | [], _, t => rfl
  | r :: l, h, t => by rw [unr_cons, List.append_assoc, vld_cons' (h r (.head _)), vld_unr l (fun x hx => h x (.tail _ hx))]
theorem vld_elim : ∀ (n : Nat) (s : List UInt8), s.length ≤ n → vld s = true → ∃ l, (∀ r ∈ l, Rn r) ∧ s = unr l
  | 0, s, hn, _ => ⟨[], by simp, by have := List.eq_nil_of_length_eq_zero (show s.length = 0 by omega); rw [this]; rfl⟩
  | n + 1, s, hn, h => by
    by_cases h0 : s = []
    · exact ⟨[], by simp, h0⟩
    rw [vld_ne h0, Bool.and_eq_true, decide_eq_true_eq] at h
    obtain ⟨r, t, hr, rfl, hd⟩ := dec_ok h0 h.1
    rw [hd] at h
    dsimp only at h
    rw [List.drop_left] at h
    have := List.length_pos_iff.2 (enc_ne r)
    obtain ⟨l, hl, rfl⟩ := vld_elim n t (by rw [List.length_append] at hn; omega) h.2
    exact ⟨r :: l, fun x hx => by rcases List.mem_cons.1 hx with rfl | hx; exact hr; exact hl x hx, rfl⟩
theorem vld_runes {s : List UInt8} (h : vld s = true) : (∀ r ∈ rl s, Rn r) ∧ s = unr (rl s) := by
  obtain ⟨l, hl, rfl⟩ := vld_elim s.length s (Nat.le_refl _) h
  have := rl_unr l hl []
  rw [List.append_nil, rl_nil, List.append_nil] at this
  rw [this]; exact ⟨hl, rfl⟩
theorem rl_of {l : List Nat} (h : ∀ r ∈ l, Rn r) : rl (unr l) = l := by
  have := rl_unr l h []
  rwa [List.append_nil, rl_nil, List.append_nil] at this
theorem vld_of {l : List Nat} (h : ∀ r ∈ l, Rn r) : vld (unr l) = true := by
  have := vld_unr l h []
  rwa [List.append_nil, vld_nil] at this
/-- a text of ASCII's bytes first -/
theorem enc_small {r : Nat} (h : r < 128) : enc r = [UInt8.ofNat r] := by unfold enc; rw [if_pos h]
theorem vld_ascii {c : UInt8} (h : c.toNat < 128) (t : List UInt8) : vld (c :: t) = vld t := by
  have := vld_cons' (r := c.toNat) ⟨by omega, by omega⟩ t
  rwa [enc_small h, b8e rfl] at this
theorem vld_asciis : ∀ (p t : List UInt8), (∀ c ∈ p, c.toNat < 128) → vld (p ++ t) = vld t
  | [], _, _ => rfl
  | c :: p, t, h => by rw [List.cons_append, vld_ascii (h c (.head _)), vld_asciis p t (fun x hx => h x (.tail _ hx))]
theorem rl_len_le (s : List UInt8) : ∀ n, s.length ≤ n → (rl s).length ≤ s.length := by
  intro n
  induction n generalizing s with
  | zero => intro h; rw [List.eq_nil_of_length_eq_zero (show s.length = 0 by omega), rl_nil]; exact Nat.le_refl _
  | succ n ih =>
    intro h
    by_cases h0 : s = []
    · rw [h0, rl_nil]; exact Nat.le_refl _
    have h1 := dec_pos s 0 (Nat.zero_le _)
    have h2 := List.length_pos_iff.2 h0
    have h3 := dec_le s 0 h2
    rw [rl_ne h0, List.length_cons]
    have := ih (s.drop (dec s 0).2) (by rw [List.length_drop]; omega)
    rw [List.length_drop] at this
    omega

end Go.Proofs.YtnkfapecbmmpeaaGreatDoor
