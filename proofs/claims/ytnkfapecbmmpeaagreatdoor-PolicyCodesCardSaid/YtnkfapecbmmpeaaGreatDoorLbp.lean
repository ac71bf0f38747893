/- A part of the proof: contracts of functions of the program, each for every state of the heaps that it names. -/
import Derived.Test.YtnkfapecbmmpeaaGreatDoorRows
import Derived.Test.YtnkfapecbmmpeaaGreatDoorUtp
set_option linter.unusedSimpArgs false
set_option linter.unusedVariables false
namespace Go.Proofs.YtnkfapecbmmpeaaGreatDoor
open Go Go.Fw
set_option maxRecDepth 100000
set_option maxHeartbeats 1000000
/-! ## Labels: plain law -/
def small (r : Nat) : Nat := if 65 ≤ r ∧ r ≤ 90 ∨ 913 ≤ r ∧ r ≤ 937 ∧ r ≠ 930 ∨ 1040 ≤ r ∧ r ≤ 1071 then r + 32 else r
def lett (r : Nat) : Nat := if 97 ≤ small r ∧ small r ≤ 122 then 1 else if 945 ≤ small r ∧ small r ≤ 969 then 2 else if 1072 ≤ small r ∧ small r ≤ 1103 then 4 else 0
def sepr (r : Nat) : Bool := decide (r = 46 ∨ r = 45 ∨ r = 95 ∨ r = 64)
def sepB (c : UInt8) : Bool := sepr c.toNat
def alph (l : List Nat) (b : Nat) : Nat := l.foldl (fun b r => b ||| lett r) b
def good (b : Nat) : Bool := decide (b = 0 ∨ b = 1 ∨ b = 2 ∨ b = 4)
theorem small_le (r : Nat) : small r ≤ r + 32 := by unfold small; split <;> omega
theorem small_small (r : Nat) : small (small r) = small r := by
  unfold small
  by_cases h : 65 ≤ r ∧ r ≤ 90 ∨ 913 ≤ r ∧ r ≤ 937 ∧ r ≠ 930 ∨ 1040 ≤ r ∧ r ≤ 1071
  · rw [if_pos h, if_neg (by omega)]
  · rw [if_neg h, if_neg h]
theorem lett_small (r : Nat) : lett (small r) = lett r := by unfold lett; rw [small_small]
theorem sepr_small (r : Nat) : sepr (small r) = sepr r := by
  unfold sepr small
  by_cases h : 65 ≤ r ∧ r ≤ 90 ∨ 913 ≤ r ∧ r ≤ 937 ∧ r ≠ 930 ∨ 1040 ≤ r ∧ r ≤ 1071
  · rw [if_pos h]; exact decide_eq_decide.2 (by omega)
  · rw [if_neg h]
theorem small64 (r : Nat) : (small r = 64) = (r = 64) := by
  unfold small
  by_cases h : 65 ≤ r ∧ r ≤ 90 ∨ 913 ≤ r ∧ r ≤ 937 ∧ r ≠ 930 ∨ 1040 ≤ r ∧ r ≤ 1071
  · rw [if_pos h]; exact propext (by omega)
  · rw [if_neg h]
theorem digit_small (r : Nat) : (48 ≤ small r ∧ small r ≤ 57) = (48 ≤ r ∧ r ≤ 57) := by
  unfold small
  by_cases h : 65 ≤ r ∧ r ≤ 90 ∨ 913 ≤ r ∧ r ≤ 937 ∧ r ≠ 930 ∨ 1040 ≤ r ∧ r ≤ 1071
  · rw [if_pos h]; exact propext (by omega)
  · rw [if_neg h]
theorem rn_small {r : Nat} (h : Rn r) : Rn (small r) := by
  obtain ⟨h1, h2⟩ := h
  unfold small Rn
  split <;> omega
theorem lett_le (r : Nat) : lett r < 8 := by unfold lett; repeat' split
                                             all_goals omega
theorem alph_le : ∀ (l : List Nat) (b : Nat), b < 8 → alph l b < 8
  | [], _, h => h
  | r :: l, b, h => alph_le l (b ||| lett r) (Nat.or_lt_two_pow (n := 3) h (lett_le r))
theorem alph_cons (r : Nat) (l : List Nat) (b : Nat) : alph (r :: l) b = alph l (b ||| lett r) := rfl
theorem alph_app (l m : List Nat) (b : Nat) : alph (l ++ m) b = alph m (alph l b) := List.foldl_append
theorem alph_or : ∀ (l : List Nat) (b : Nat), alph l b = b ||| alph l 0
  | [], b => (Nat.or_zero b).symm
  | r :: l, b => by rw [alph_cons, alph_cons, alph_or l (b ||| lett r), alph_or l (0 ||| lett r), Nat.zero_or, Nat.or_assoc]
/-- a text, parted at its separators: behind what has been -/
def spl : List UInt8 → List UInt8 → List (List UInt8)
  | cur, [] => [cur]
  | cur, c :: t => if sepB c then cur :: spl [] t else spl (cur ++ [c]) t
def splR : List Nat → List Nat → List (List Nat)
  | cur, [] => [cur]
  | cur, r :: t => if sepr r then cur :: splR [] t else splR (cur ++ [r]) t
theorem spl_sep {c : UInt8} (h : sepB c = true) (cur t : List UInt8) : spl cur (c :: t) = cur :: spl [] t := by rw [spl, if_pos h]
theorem spl_piece : ∀ (p : List UInt8), (∀ c ∈ p, sepB c = false) → ∀ cur t, spl cur (p ++ t) = spl (cur ++ p) t
  | [], _, cur, t => by rw [List.append_nil]; rfl
  | c :: p, h, cur, t => by
    rw [List.cons_append, spl, if_neg (by rw [h c (.head _)]; decide), spl_piece p (fun x hx => h x (.tail _ hx)), List.append_assoc]; rfl
theorem enc_big {r : Nat} (h : Rn r) (hb : 128 ≤ r) : ∀ c ∈ enc r, 128 ≤ c.toNat := by
  have := h.1
  intro c hc
  unfold enc at hc
  rw [if_neg (by omega)] at hc
  split at hc
  · rcases List.mem_cons.1 hc with rfl | hc
    · rw [b8 (by omega)]; omega
    · rw [List.mem_singleton.1 hc, b8 (by omega)]; omega
  split at hc
  · rcases List.mem_cons.1 hc with rfl | hc
    · rw [b8 (by omega)]; omega
    rcases List.mem_cons.1 hc with rfl | hc
    · rw [b8 (by omega)]; omega
    · rw [List.mem_singleton.1 hc, b8 (by omega)]; omega
  · rcases List.mem_cons.1 hc with rfl | hc
    · rw [b8 (by omega)]; omega
    rcases List.mem_cons.1 hc with rfl | hc
    · rw [b8 (by omega)]; omega
    rcases List.mem_cons.1 hc with rfl | hc
    · rw [b8 (by omega)]; omega
    · rw [List.mem_singleton.1 hc, b8 (by omega)]; omega
theorem sepB_big {c : UInt8} (h : 128 ≤ c.toNat) : sepB c = false := by unfold sepB sepr; exact decide_eq_false (by omega)
/-- what one step of a range over a text sees, for its separators -/
theorem step_sep {s : List UInt8} (h : s ≠ []) (hs : sepr (dec s 0).1 = true) : (dec s 0).2 = 1 ∧ ∃ c t, s = c :: t ∧ sepB c = true ∧ c.toNat = (dec s 0).1 := by
  by_cases ho : dec s 0 = (65533, 1)
  · rw [ho] at hs; exact absurd hs (by decide)
  · obtain ⟨r, t, hr, rfl, hd⟩ := dec_ok h ho
    rw [hd] at hs ⊢
    dsimp only at hs ⊢
    have hr2 : r < 128 := by unfold sepr at hs; rw [decide_eq_true_eq] at hs; omega
    rw [enc_small hr2]
    refine ⟨rfl, _, _, rfl, ?_, b8 (by omega)⟩
    unfold sepB; rw [b8 (by omega)]; exact hs
theorem step_not {s : List UInt8} (h : s ≠ []) (hs : sepr (dec s 0).1 = false) : ∀ c ∈ s.take (dec s 0).2, sepB c = false := by
  by_cases ho : dec s 0 = (65533, 1)
  · rw [ho]
    obtain ⟨x, t, rfl⟩ := List.exists_cons_of_ne_nil h
    intro c hc
    rw [show (x :: t).take 1 = [x] from rfl, List.mem_singleton] at hc
    subst hc
    refine sepB_big ?_
    by_cases hx : c.toNat < 128
    · have := dec_enc (r := c.toNat) ⟨by omega, by omega⟩ t
      rw [enc_small hx, b8e rfl] at this
      rw [show [c] ++ t = c :: t from rfl, ho] at this
      have := congrArg Prod.fst this
      dsimp only at this
      omega
    · omega
  · obtain ⟨r, t, hr, rfl, hd⟩ := dec_ok h ho
    rw [hd] at hs ⊢
    dsimp only at hs ⊢
    rw [List.take_left]
    by_cases hr2 : r < 128
    · rw [enc_small hr2]
      intro c hc
      rw [List.mem_singleton.1 hc]; unfold sepB; rw [b8 (by omega)]; exact hs
    · exact fun c hc => sepB_big (enc_big hr (by omega) c hc)
theorem spl_unr : ∀ (l : List Nat), (∀ r ∈ l, Rn r) → ∀ cur, spl (unr cur) (unr l) = (splR cur l).map unr
  | [], _, cur => rfl
  | r :: l, h, cur => by
    have hr := h r (.head _)
    have ih := spl_unr l (fun x hx => h x (.tail _ hx))
    rw [unr_cons, splR]
    by_cases hs : sepr r = true
    · have hr2 : r < 128 := by unfold sepr at hs; rw [decide_eq_true_eq] at hs; omega
      rw [if_pos hs, enc_small hr2, List.map_cons, ← ih []]
      rw [show [UInt8.ofNat r] ++ unr l = UInt8.ofNat r :: unr l from rfl, spl, if_pos (by unfold sepB; rw [b8 (by omega)]; exact hs)]; rfl
    · rw [if_neg hs, ← ih, spl_piece, unr_append]
      · rw [show unr [r] = enc r from List.append_nil _]
      · by_cases hr2 : r < 128
        · rw [enc_small hr2]
          intro c hc
          rw [List.mem_singleton.1 hc]; unfold sepB; rw [b8 (by omega)]; exact Bool.eq_false_iff.2 hs
        · exact fun c hc => sepB_big (enc_big hr (by omega) c hc)
theorem splR_mem : ∀ (l cur : List Nat) (p : List Nat), p ∈ splR cur l → ∀ r ∈ p, r ∈ cur ∨ r ∈ l
  | [], cur, p, h, r, hr => by rw [splR, List.mem_singleton] at h; subst h; exact .inl hr
  | x :: l, cur, p, h, r, hr => by
    rw [splR] at h
    split at h
    · rcases List.mem_cons.1 h with rfl | h
      · exact .inl hr
      · rcases splR_mem l [] p h r hr with h | h
        · cases h
        · exact .inr (.tail _ h)
    · rcases splR_mem l _ p h r hr with h | h
      · rcases List.mem_append.1 h with h | h
        · exact .inl h
        · rw [List.mem_singleton.1 h]; exact .inr (.head _)
      · exact .inr (.tail _ h)
def okR (r : Nat) : Bool := decide (lett r ≠ 0 ∨ 48 ≤ r ∧ r ≤ 57) || sepr r
def okP (p : List UInt8) : Bool := decide (p ≠ []) && good (alph (rl p) 0)
/-- may a text's runes be? as the program asks -/
def right (s : List UInt8) : Bool := (rl s).all okR && (spl [] s).all okP && decide (s.count 64 ≤ 1)
def normal (s : List UInt8) : List UInt8 × Nat :=
  if vld s = true then (if (rl s).length ≤ 64 then (if right s = true then (unr ((rl s).map small), 0) else ([], 5)) else ([], 2)) else ([], 4)
/-- as the document asks: numbers of @, bits, whether there is something since the last separator -/
def why5 : Nat → Nat → Bool → List Nat → Bool
  | ats, bits, sm, [] => sm && good bits && decide (ats ≤ 1)
  | ats, bits, sm, r :: t => if sepr r = true then sm && good bits && why5 (if r = 64 then ats + 1 else ats) 0 false t
      else decide (lett r ≠ 0 ∨ 48 ≤ r ∧ r ≤ 57) && why5 ats (bits ||| lett r) true t
def whyN (s : List UInt8) : Nat := if vld s = true then (if (rl s).length ≤ 64 then (if why5 0 0 false (rl s) = true then 0 else 5) else 2) else 4
theorem why5_small : ∀ (l : List Nat) (a b : Nat) (c : Bool), why5 a b c (l.map small) = why5 a b c l
  | [], _, _, _ => rfl
  | r :: l, a, b, c => by
    rw [List.map_cons, why5, why5, sepr_small, lett_small, why5_small l, why5_small l]
    simp only [small64, digit_small]
theorem why5_eq : ∀ (l : List Nat) (ats : Nat) (cur : List Nat),
    why5 ats (alph cur 0) (decide (cur ≠ [])) l = (l.all okR && (splR cur l).all (fun p => decide (p ≠ []) && good (alph p 0)) && decide (ats + l.count 64 ≤ 1))
  | [], ats, cur => by
    rw [why5, splR, List.all_nil, Bool.true_and, List.all_cons, List.all_nil, Bool.and_true, List.count_nil, Nat.add_zero]
  | r :: l, ats, cur => by
    rw [why5, splR]
    by_cases hs : sepr r = true
    · rw [if_pos hs, if_pos hs]
      have := why5_eq l (if r = 64 then ats + 1 else ats) []
      rw [show alph [] 0 = 0 from rfl, show decide (([] : List Nat) ≠ []) = false from rfl] at this
      rw [this, List.all_cons, List.all_cons, show okR r = true from by unfold okR; rw [hs, Bool.or_true]]
      have e : decide ((if r = 64 then ats + 1 else ats) + l.count 64 ≤ 1) = decide (ats + (r :: l).count 64 ≤ 1) := by
        rw [List.count_cons]
        by_cases h : r = 64
        · subst h; rw [if_pos rfl]; simp only [beq_self_eq_true, if_true]; exact decide_eq_decide.2 (by omega)
        · rw [if_neg h, if_neg (by rw [beq_iff_eq]; exact h)]; rfl
      rw [e, Bool.true_and]
      cases decide (cur ≠ []) <;> cases good (alph cur 0) <;> cases l.all okR <;> simp
    · rw [if_neg hs, if_neg hs]
      have := why5_eq l ats (cur ++ [r])
      rw [alph_app, show alph [r] (alph cur 0) = alph cur 0 ||| lett r from rfl, show decide (cur ++ [r] ≠ []) = true from decide_eq_true (by simp)] at this
      rw [this, List.all_cons, show okR r = decide (lett r ≠ 0 ∨ 48 ≤ r ∧ r ≤ 57) from by unfold okR; rw [Bool.eq_false_iff.2 hs, Bool.or_false]]
      have e : (r :: l).count 64 = l.count 64 := by
        rw [List.count_cons, if_neg, Nat.add_zero]
        intro h
        rw [beq_iff_eq] at h; subst h; exact hs rfl
      rw [e, Bool.and_assoc, Bool.and_assoc, Bool.and_assoc]
theorem enc_count {r : Nat} (h : Rn r) : (enc r).count 64 = if r = 64 then 1 else 0 := by
  by_cases hr : r < 128
  · rw [enc_small hr, List.count_singleton]
    by_cases h4 : r = 64
    · subst h4; rfl
    · rw [if_neg h4, if_neg]
      rw [beq_iff_eq]; intro e
      have := congrArg UInt8.toNat e
      rw [b8 (by omega)] at this
      exact h4 this
  · rw [if_neg (by omega)]
    refine List.count_eq_zero.2 fun hm => ?_
    have := enc_big h (by omega) _ hm
    exact absurd this (by decide)
theorem unr_count : ∀ (l : List Nat), (∀ r ∈ l, Rn r) → (unr l).count 64 = l.count 64
  | [], _ => rfl
  | r :: l, h => by
    rw [unr_cons, List.count_append, unr_count l (fun x hx => h x (.tail _ hx)), enc_count (h r (.head _)), List.count_cons, Nat.add_comm]
    simp only [beq_iff_eq]
theorem unr_ne {l : List Nat} (h : l ≠ []) : unr l ≠ [] := by
  obtain ⟨r, t, rfl⟩ := List.exists_cons_of_ne_nil h
  rw [unr_cons]; simp [enc_ne]
theorem all_mem {α : Type} {f g : α → Bool} : ∀ {l : List α}, (∀ x ∈ l, f x = g x) → l.all f = l.all g
  | [], _ => rfl
  | x :: l, h => by rw [List.all_cons, List.all_cons, h x (.head _), all_mem (fun y hy => h y (.tail _ hy))]
theorem right_unr {l : List Nat} (h : ∀ r ∈ l, Rn r) : right (unr l) = why5 0 0 false l := by
  have := why5_eq l 0 []
  rw [show alph [] 0 = 0 from rfl, show decide (([] : List Nat) ≠ []) = false from rfl] at this
  rw [this]
  unfold right
  have e := spl_unr l h []
  rw [show unr [] = [] from rfl] at e
  rw [rl_of h, e, unr_count l h, Nat.zero_add, List.all_map]
  congr 2
  refine all_mem fun p hp => ?_
  have hp2 : ∀ r ∈ p, Rn r := fun r hr => by
    rcases splR_mem l [] p hp r hr with h' | h'
    · cases h'
    · exact h r h'
  show okP (unr p) = _
  unfold okP
  rw [rl_of hp2]
  congr 1
  by_cases h0 : p = []
  · subst h0; rfl
  · rw [decide_eq_true (unr_ne h0), decide_eq_true h0]
theorem normal_why (s : List UInt8) : (normal s).2 = whyN s := by
  unfold normal whyN
  by_cases hv : vld s = true
  · rw [if_pos hv, if_pos hv]
    split
    · have e : right s = why5 0 0 false (rl s) := by
        obtain ⟨h1, h2⟩ := vld_runes hv
        rw [← right_unr h1, ← h2]
      rw [e]
      split <;> rfl
    · rfl
  · rw [if_neg hv, if_neg hv]
/-- what a label's normal form is -/
theorem normal_ok {s t : List UInt8} (h : normal s = (t, 0)) : ∃ l, (∀ r ∈ l, Rn r) ∧ t = unr l ∧ l.map small = l ∧ l = (rl s).map small ∧ l.length ≤ 64 ∧ why5 0 0 false l = true ∧ vld s = true := by
  unfold normal at h
  by_cases hv : vld s = true
  · rw [if_pos hv] at h
    split at h
    · rename_i hl
      split at h
      · rename_i hr
        obtain ⟨h1, h2⟩ := vld_runes hv
        have h3 : ∀ r ∈ (rl s).map small, Rn r := fun r hr => by
          obtain ⟨x, hx, rfl⟩ := List.mem_map.1 hr
          exact rn_small (h1 x hx)
        refine ⟨(rl s).map small, h3, (congrArg Prod.fst h).symm, ?_, rfl, by rw [List.length_map]; exact hl, ?_, hv⟩
        · rw [List.map_map]; exact List.map_congr_left fun r _ => small_small r
        · rw [why5_small]
          rw [h2, right_unr h1] at hr; exact hr
      · exact absurd (congrArg Prod.snd h) (by dsimp only; decide)
    · exact absurd (congrArg Prod.snd h) (by dsimp only; decide)
  · rw [if_neg hv] at h; exact absurd (congrArg Prod.snd h) (by dsimp only; decide)
theorem normal_unr {l : List Nat} (h : ∀ r ∈ l, Rn r) : normal (unr l) = if l.length ≤ 64 then (if why5 0 0 false l = true then (unr (l.map small), 0) else ([], 5)) else ([], 2) := by
  unfold normal
  rw [if_pos (vld_of h), rl_of h, right_unr h]
theorem normal_idem {s t : List UInt8} (h : normal s = (t, 0)) : normal t = (t, 0) := by
  obtain ⟨l, h1, rfl, h2, _, h4, h5, _⟩ := normal_ok h
  rw [normal_unr h1, if_pos h4, if_pos h5, h2]
theorem normal_fst {s : List UInt8} (h : (normal s).2 ≠ 0) : (normal s).1 = [] := by
  unfold normal at h ⊢
  repeat' split
  all_goals (first | rfl | (exfalso; apply h; simp only [*, if_true, if_false]; try rfl))
/-- two labels with a separator between -/
theorem splR_join : ∀ (l cur : List Nat) {c : Nat} (_ : sepr c = true) (m : List Nat), splR cur (l ++ c :: m) = splR cur l ++ splR [] m
  | [], cur, c, hc, m => by simp only [List.nil_append, splR, hc, if_true]; rfl
  | r :: l, cur, c, hc, m => by
    rw [List.cons_append, splR, splR]
    split
    · rw [splR_join l [] hc m]; rfl
    · exact splR_join l _ hc m
theorem spl_join : ∀ (l cur : List UInt8) {c : UInt8} (_ : sepB c = true) (m : List UInt8), spl cur (l ++ c :: m) = spl cur l ++ spl [] m
  | [], cur, c, hc, m => by simp only [List.nil_append, spl, hc, if_true]; rfl
  | r :: l, cur, c, hc, m => by
    rw [List.cons_append, spl, spl]
    split
    · rw [spl_join l [] hc m]; rfl
    · exact spl_join l _ hc m
theorem why5_join {l m : List Nat} {c : Nat} (hc : sepr c = true) (hl : why5 0 0 false l = true) (hm : why5 0 0 false m = true) :
    why5 0 0 false (l ++ c :: m) = decide ((l ++ c :: m).count 64 ≤ 1) := by
  have e := fun l => why5_eq l 0 []
  simp only [show alph [] 0 = 0 from rfl, show decide (([] : List Nat) ≠ []) = false from rfl, Nat.zero_add] at e
  rw [e] at hl hm ⊢
  simp only [Bool.and_eq_true] at hl hm
  rw [splR_join l [] hc, List.all_append, List.all_cons, List.all_append, hl.1.1, hl.1.2, hm.1.1, hm.1.2, show okR c = true from by unfold okR; rw [hc, Bool.or_true]]
  rfl
theorem normal_join {s s' x y : List UInt8} (hx : normal s = (x, 0)) (hy : normal s' = (y, 0)) {c : UInt8} (hc : sepB c = true) :
    normal (x ++ c :: y) = if (rl x).length + (rl y).length + 1 ≤ 64 then (if (x ++ c :: y).count 64 ≤ 1 then (x ++ c :: y, 0) else ([], 5)) else ([], 2) := by
  obtain ⟨l, h1, rfl, h2, _, h4, h5, _⟩ := normal_ok hx
  obtain ⟨m, g1, rfl, g2, _, g4, g5, _⟩ := normal_ok hy
  have hc2 : c.toNat < 128 := by unfold sepB sepr at hc; rw [decide_eq_true_eq] at hc; omega
  have e : unr l ++ c :: unr m = unr (l ++ c.toNat :: m) := by rw [unr_append, unr_cons, enc_small hc2, b8e rfl]; rfl
  have hR : ∀ r ∈ l ++ c.toNat :: m, Rn r := fun r hr => by
    rcases List.mem_append.1 hr with hr | hr
    · exact h1 r hr
    rcases List.mem_cons.1 hr with rfl | hr
    · exact ⟨by omega, by omega⟩
    · exact g1 r hr
  have hs : small c.toNat = c.toNat := by
    unfold sepB sepr at hc; rw [decide_eq_true_eq] at hc
    unfold small; rw [if_neg (by omega)]
  rw [e, normal_unr hR, why5_join hc h5 g5, rl_of h1, rl_of g1, unr_count _ hR, List.map_append, List.map_cons, h2, g2, hs]
  have el : (l ++ c.toNat :: m).length ≤ 64 ↔ l.length + m.length + 1 ≤ 64 := by rw [List.length_append, List.length_cons]; omega
  simp only [el, decide_eq_true_eq]
theorem rl_alph_join {s s' x y : List UInt8} (hx : normal s = (x, 0)) (hy : normal s' = (y, 0)) {c : UInt8} (hc : sepB c = true) :
    alph (rl (x ++ c :: y)) 0 = alph (rl x) 0 ||| alph (rl y) 0 := by
  obtain ⟨l, h1, rfl, h2, _, h4, h5, _⟩ := normal_ok hx
  obtain ⟨m, g1, rfl, g2, _, g4, g5, _⟩ := normal_ok hy
  have hc2 : c.toNat < 128 := by unfold sepB sepr at hc; rw [decide_eq_true_eq] at hc; omega
  have e : unr l ++ c :: unr m = unr (l ++ c.toNat :: m) := by rw [unr_append, unr_cons, enc_small hc2, b8e rfl]; rfl
  have hR : ∀ r ∈ l ++ c.toNat :: m, Rn r := fun r hr => by
    rcases List.mem_append.1 hr with hr | hr
    · exact h1 r hr
    rcases List.mem_cons.1 hr with rfl | hr
    · exact ⟨by omega, by omega⟩
    · exact g1 r hr
  have hl0 : lett c.toNat = 0 := by
    unfold sepB sepr at hc; rw [decide_eq_true_eq] at hc
    rcases hc with h | h | h | h <;> rw [h] <;> decide
  rw [e, rl_of hR, rl_of h1, rl_of g1, alph_app, alph_cons, hl0, Nat.or_zero, alph_or]
/-! ### steps of the program's loops -/
theorem drop_ne {s : List UInt8} {p : Nat} (h : p < s.length) : s.drop p ≠ [] := fun e => by
  have := congrArg List.length e
  rw [List.length_drop, List.length_nil] at this; omega
theorem dec_rn {s : List UInt8} {p : Nat} (h : p < s.length) : Rn (dec s p).1 := by
  rw [dec_drop (by omega)]
  by_cases ho : dec (s.drop p) 0 = (65533, 1)
  · rw [ho]; exact ⟨by decide, by decide⟩
  · obtain ⟨r, t, hr, _, hd⟩ := dec_ok (drop_ne h) ho
    rw [hd]; exact hr
theorem dec_len {s : List UInt8} {p : Nat} (h : p < s.length) (hn : (dec s p).1 ≠ 65533) : (enc (dec s p).1).length = (dec s p).2 := by
  rw [dec_drop (by omega)] at hn ⊢
  obtain ⟨r, t, hr, _, hd⟩ := dec_ok (drop_ne h) (fun ho => by rw [ho] at hn; exact hn rfl)
  rw [hd]
theorem spl_step {s : List UInt8} {p : Nat} (h : p < s.length) (cur : List UInt8) (hs : sepr (dec s p).1 = true) : spl cur (s.drop p) = cur :: spl [] (s.drop (npos s p)) := by
  have hd := dec_drop (s := s) (pos := p) (by omega)
  rw [hd] at hs
  obtain ⟨h1, c, t, e, hc, _⟩ := step_sep (drop_ne h) hs
  rw [npos_in h, hd, h1, ← List.drop_drop, e, spl_sep hc]; rfl
theorem spl_piece_step {s : List UInt8} {p : Nat} (h : p < s.length) (cur : List UInt8) (hs : sepr (dec s p).1 = false) : spl cur (s.drop p) = spl (cur ++ (s.take (p + (dec s p).2)).drop p) (s.drop (npos s p)) := by
  have hd := dec_drop (s := s) (pos := p) (by omega)
  have e : (s.take (p + (dec s p).2)).drop p = (s.drop p).take (dec s p).2 := by rw [List.drop_take]; congr 1; omega
  rw [e, npos_in h, ← List.drop_drop]
  rw [hd] at hs ⊢
  rw [← spl_piece _ (step_not (drop_ne h) hs), List.take_append_drop]
theorem last_set (ds : List (List UInt8)) (cur q : List UInt8) {n : Nat} (h : n = ds.length) : (ds ++ [cur]).set n ((ds ++ [cur]).getD n [] ++ q) = ds ++ [cur ++ q] := by
  subst h
  rw [List.getD_eq_getElem?_getD, List.getElem?_append_right (Nat.le_refl _), List.set_append_right _ _ (Nat.le_refl _), Nat.sub_self]; rfl
theorem one_good : ∀ b, b < 8 → (b &&& (b - 1) = 0 ↔ good b = true) := by decide
theorem last_get (ds : List (List UInt8)) (cur : List UInt8) : (ds ++ [cur]).getD ds.length [] = cur := by
  rw [List.getD_eq_getElem?_getD, List.getElem?_append_right (Nat.le_refl _), Nat.sub_self]; rfl
theorem spl_len_go : ∀ (t cur : List UInt8) (q : List UInt8), q ∈ spl cur t → q.length ≤ cur.length + t.length
  | [], cur, q, h => by rw [spl, List.mem_singleton] at h; subst h; exact Nat.le_refl _
  | c :: t, cur, q, h => by
    rw [spl] at h
    rw [List.length_cons]
    split at h
    · rcases List.mem_cons.1 h with rfl | h
      · omega
      · have := spl_len_go t [] q h; rw [List.length_nil] at this; omega
    · have := spl_len_go t _ q h; rw [List.length_append, List.length_cons, List.length_nil] at this; omega
theorem spl_len (s : List UInt8) (k : Nat) : ((spl [] s).getD k []).length ≤ s.length := by
  by_cases h : k < (spl [] s).length
  · have := spl_len_go s [] ((spl [] s).getD k []) (by rw [List.getD_eq_getElem?_getD, List.getElem?_eq_getElem h]; exact List.getElem_mem h)
    rw [List.length_nil] at this; omega
  · rw [List.getD_eq_getElem?_getD, List.getElem?_eq_none (by omega)]; exact Nat.zero_le _
theorem take_all {l : List (List UInt8)} {f : List UInt8 → Bool} {k : Nat} (h : k < l.length) : (l.take (k + 1)).all f = ((l.take k).all f && f (l.getD k [])) := by
  rw [List.take_add_one, List.getD_eq_getElem?_getD, List.getElem?_eq_getElem h, List.all_append]; simp
theorem drop_all {l : List (List UInt8)} {f : List UInt8 → Bool} {k : Nat} (h : k < l.length) (hf : f (l.getD k []) = false) : l.all f = false := by
  rw [List.getD_eq_getElem?_getD, List.getElem?_eq_getElem h] at hf
  rw [List.all_eq_false]; exact ⟨l[k], List.getElem_mem h, by simpa using hf⟩
theorem okr_sep {r : Nat} (h : sepr r = true) : okR r = true := by unfold okR; rw [h, Bool.or_true]
theorem okr_yes {r : Nat} (h : lett r ≠ 0 ∨ 48 ≤ r ∧ r ≤ 57) : okR r = true := by unfold okR; rw [decide_eq_true h, Bool.true_or]
theorem okr_no {r : Nat} (h : lett r = 0) (h2 : ¬ (48 ≤ r ∧ r ≤ 57)) (h3 : sepr r = false) : okR r = false := by unfold okR; rw [h3, decide_eq_false (by omega)]; rfl
theorem spl_num : ∀ (t cur : List UInt8), (spl cur t).length ≤ t.length + 1
  | [], cur => by rw [spl]; exact Nat.le_refl _
  | c :: t, cur => by
    rw [spl]
    split
    · have := spl_num t []; rw [List.length_cons, List.length_cons]; omega
    · have := spl_num t (cur ++ [c]); rw [List.length_cons]; omega
/-! ### the document's answer -/
def nx (s : List UInt8) : Nat × Nat := if s = [] ∨ dec s 0 = (65533, 1) then (0, 0) else dec s 0
def rlo (s : List UInt8) : List Nat := if vld s = true then rl s else []
theorem nx_bad {s : List UInt8} (h : dec s 0 = (65533, 1)) : nx s = (0, 0) := by unfold nx; rw [if_pos (.inr h)]
theorem nx_ok {s : List UInt8} {r n : Nat} (h0 : s ≠ []) (h : dec s 0 = (r, n)) (hn : n ≠ 1 ∨ r ≠ 65533) : nx s = (r, n) := by
  unfold nx; rw [if_neg, h]
  rintro (e | e)
  · exact h0 e
  · rw [h] at e; cases e; omega
theorem nx_zero {s : List UInt8} (h : (nx s).2 = 0) : s = [] ∨ dec s 0 = (65533, 1) := by
  unfold nx at h
  split at h
  · assumption
  · have := dec_pos s 0 (Nat.zero_le _); omega
theorem nx_pos {s : List UInt8} (h : (nx s).2 ≠ 0) : nx s = dec s 0 ∧ s ≠ [] ∧ dec s 0 ≠ (65533, 1) := by
  unfold nx at h ⊢
  split at h
  · exact absurd rfl h
  · rename_i h2; rw [if_neg h2]; exact ⟨rfl, fun e => h2 (.inl e), fun e => h2 (.inr e)⟩
theorem rlo_len (s : List UInt8) : (rlo s).length = if vld s = true then (rl s).length else 0 := by unfold rlo; split <;> rfl
theorem rl_le (s : List UInt8) : (rl s).length ≤ s.length := rl_len_le s _ (Nat.le_refl _)
theorem rlo_le (s : List UInt8) : (rlo s).length ≤ s.length := by unfold rlo; split; exact rl_le s; exact Nat.zero_le _
theorem rl_lt : ∀ (n : Nat) (s : List UInt8), s.length ≤ n → ∀ r ∈ rl s, r < 1114112
  | 0, s, h, r, hr => by rw [List.eq_nil_of_length_eq_zero (show s.length = 0 by omega), rl_nil] at hr; cases hr
  | n + 1, s, h, r, hr => by
    by_cases h0 : s = []
    · rw [h0, rl_nil] at hr; cases hr
    rw [rl_ne h0] at hr
    rcases List.mem_cons.1 hr with rfl | hr
    · exact dec_rune s 0 (Nat.zero_le _)
    · have := dec_pos s 0 (Nat.zero_le _)
      have := List.length_pos_iff.2 h0
      exact rl_lt n _ (by rw [List.length_drop]; omega) r hr
theorem rlo_lt (s : List UInt8) (k : Nat) : (rlo s).getD k 0 < 1114112 := by
  rw [List.getD_eq_getElem?_getD]
  cases h : (rlo s)[k]? with
  | none => decide
  | some r =>
    have hm := List.mem_of_getElem? h
    unfold rlo at hm
    split at hm
    · exact rl_lt _ s (Nat.le_refl _) r hm
    · cases hm
def nxN (s : List UInt8) (n r : Nat) : Prop := (n = 0 ∧ (bt s 0 < 192 ∨ 248 ≤ bt s 0)) ∨ (n = 2 ∧ 192 ≤ bt s 0 ∧ bt s 0 < 224 ∧ r + 192 = bt s 0) ∨ (n = 3 ∧ 224 ≤ bt s 0 ∧ bt s 0 < 240 ∧ r + 224 = bt s 0) ∨ (n = 4 ∧ 240 ≤ bt s 0 ∧ bt s 0 < 248 ∧ r + 240 = bt s 0)
def nxI (s : List UInt8) (n r i q : Nat) : Prop := 1 ≤ n ∧ n ≤ s.length ∧ 2 ≤ n ∧ i ≤ n ∧ ((i = 1 ∧ q = r ∧ r < 32) ∨ (i = 2 ∧ q = r * 64 + bt s 1 - 128 ∧ 128 ≤ bt s 1 ∧ bt s 1 < 192 ∧ r < 32) ∨ (i = 3 ∧ q = r * 4096 + (bt s 1 - 128) * 64 + bt s 2 - 128 ∧ 128 ≤ bt s 1 ∧ bt s 1 < 192 ∧ 128 ≤ bt s 2 ∧ bt s 2 < 192 ∧ r < 16) ∨ (i = 4 ∧ q = r * 262144 + (bt s 1 - 128) * 4096 + (bt s 2 - 128) * 64 + bt s 3 - 128 ∧ 128 ≤ bt s 1 ∧ bt s 1 < 192 ∧ 128 ≤ bt s 2 ∧ bt s 2 < 192 ∧ 128 ≤ bt s 3 ∧ bt s 3 < 192 ∧ r < 8))
theorem dec0 (s : List UInt8) : dec s 0 = dc (bt s 0) (bt s 1) (bt s 2) (bt s 3) s.length := by rw [dec_dc _ 0 (Nat.zero_le _)]; simp only [Nat.zero_add, Nat.sub_zero]
theorem nx_end {s : List UInt8} {n r i q : Nat} (hl : 0 < s.length) (hn : nxN s n r) (hi : nxI s n r i q) (hin : ¬ i < n) :
    nx s = if n = 2 ∧ q < 128 ∨ n = 3 ∧ (q < 2048 ∨ 55296 ≤ q ∧ q < 57344) ∨ n = 4 ∧ (q < 65536 ∨ q > 1114111) then (0, 0) else (q, n) := by
  have h0 : s ≠ [] := fun e => by rw [e] at hl; exact absurd hl (by decide)
  have hb := bt_lt s 0
  obtain ⟨_, h2, h3, h4, hi⟩ := hi
  rcases hn with ⟨rfl, _⟩ | ⟨rfl, g1, g2, g3⟩ | ⟨rfl, g1, g2, g3⟩ | ⟨rfl, g1, g2, g3⟩
  · omega
  · have e : dec s 0 = if q ≥ 128 then (q, 2) else (65533, 1) := by
      rw [dec0]; unfold dc
      rw [if_neg (by omega), if_pos (by omega), show bt s 0 % 32 * 64 + bt s 1 % 64 = q by omega]
    by_cases hq : q ≥ 128
    · rw [if_pos hq] at e; rw [nx_ok h0 e (by omega), if_neg (by omega)]
    · rw [if_neg hq] at e; rw [nx_bad e, if_pos (by omega)]
  · have e : dec s 0 = if q ≥ 2048 ∧ ¬ (55296 ≤ q ∧ q < 57344) then (q, 3) else (65533, 1) := by
      rw [dec0]; unfold dc
      rw [if_neg (by omega), if_neg (by omega), if_pos (by omega), show bt s 0 % 16 * 4096 + bt s 1 % 64 * 64 + bt s 2 % 64 = q by omega]
    by_cases hq : q ≥ 2048 ∧ ¬ (55296 ≤ q ∧ q < 57344)
    · rw [if_pos hq] at e; rw [nx_ok h0 e (by omega), if_neg (by omega)]
    · rw [if_neg hq] at e; rw [nx_bad e, if_pos (by omega)]
  · have e : dec s 0 = if q ≥ 65536 ∧ q ≤ 1114111 then (q, 4) else (65533, 1) := by
      rw [dec0]; unfold dc
      rw [if_neg (by omega), if_neg (by omega), if_neg (by omega), if_pos (by omega), show bt s 0 % 8 * 262144 + bt s 1 % 64 * 4096 + bt s 2 % 64 * 64 + bt s 3 % 64 = q by omega]
    by_cases hq : q ≥ 65536 ∧ q ≤ 1114111
    · rw [if_pos hq] at e; rw [nx_ok h0 e (by omega), if_neg (by omega)]
    · rw [if_neg hq] at e; rw [nx_bad e, if_pos (by omega)]
theorem nx_short {s : List UInt8} {n r : Nat} (hl : 0 < s.length) (ha : ¬ bt s 0 < 128) (hn : nxN s n r) (h : n = 0 ∨ s.length < n) : nx s = (0, 0) := by
  have hb := bt_lt s 0
  refine nx_bad ?_
  rw [dec0]; unfold dc
  rcases hn with ⟨rfl, _⟩ | ⟨rfl, g1, g2, g3⟩ | ⟨rfl, g1, g2, g3⟩ | ⟨rfl, g1, g2, g3⟩
  all_goals rw [if_neg ha, if_neg (by omega), if_neg (by omega), if_neg (by omega)]
theorem nx_mid {s : List UInt8} {n r i q c : Nat} (ha : ¬ bt s 0 < 128) (hn : nxN s n r) (hi : nxI s n r i q) (hin : i < n) (hc : bt s i = c) (hb : c < 128 ∨ 192 ≤ c) : nx s = (0, 0) := by
  have hb0 := bt_lt s 0
  obtain ⟨_, h2, h3, h4, hi⟩ := hi
  refine nx_bad ?_
  rw [dec0]; unfold dc
  have hq : (i = 1 ∧ bt s 1 / 64 ≠ 2) ∨ (i = 2 ∧ bt s 2 / 64 ≠ 2) ∨ (i = 3 ∧ bt s 3 / 64 ≠ 2) ∨ i ≥ 4 := by
    rcases hi with h | h | h | h
    · obtain ⟨rfl, h⟩ := h; have := bt_lt s 1; omega
    · obtain ⟨rfl, h⟩ := h; have := bt_lt s 2; omega
    · obtain ⟨rfl, h⟩ := h; have := bt_lt s 3; omega
    · omega
  rcases hn with ⟨rfl, _⟩ | ⟨rfl, g1, g2, g3⟩ | ⟨rfl, g1, g2, g3⟩ | ⟨rfl, g1, g2, g3⟩
  · omega
  all_goals rw [if_neg ha, if_neg (by omega), if_neg (by omega), if_neg (by omega)]
theorem nx_one {s : List UInt8} (hl : 0 < s.length) (ha : bt s 0 < 128) : nx s = (bt s 0, 1) := by
  refine nx_ok (fun e => by rw [e] at hl; exact absurd hl (by decide)) ?_ (by omega)
  rw [dec0]; unfold dc; rw [if_pos ha]
theorem drop_at {l : List Nat} {i : Nat} (h : i < l.length) : l.drop i = l.getD i 0 :: l.drop (i + 1) := by
  rw [List.getD_eq_getElem?_getD, List.getElem?_eq_getElem h]; exact List.drop_eq_getElem_cons h
theorem why_sep {l : List Nat} {i a b : Nat} {c : Bool} (h : i < l.length) (hs : sepr (l.getD i 0) = true) : why5 a b c (l.drop i) = (c && good b && why5 (if l.getD i 0 = 64 then a + 1 else a) 0 false (l.drop (i + 1))) := by
  rw [drop_at h, why5, if_pos hs]
theorem why_let {l : List Nat} {i a b : Nat} {c : Bool} (h : i < l.length) (hs : ¬ sepr (l.getD i 0) = true) : why5 a b c (l.drop i) = (decide (lett (l.getD i 0) ≠ 0 ∨ 48 ≤ l.getD i 0 ∧ l.getD i 0 ≤ 57) && why5 a (b ||| lett (l.getD i 0)) true (l.drop (i + 1))) := by
  rw [drop_at h, why5, if_neg hs]
theorem why_end {l : List Nat} {i a b : Nat} {c : Bool} (h : i = l.length) : why5 a b c (l.drop i) = (c && good b && decide (a ≤ 1)) := by
  rw [List.drop_of_length_le (by omega), why5]
theorem good_no {b : Nat} (h : b ≠ 0 ∧ b ≠ 1 ∧ b ≠ 2 ∧ b ≠ 4) : good b = false := decide_eq_false (by omega)
theorem good_yes {b : Nat} (h : b = 0 ∨ b = 1 ∨ b = 2 ∨ b = 4) : good b = true := decide_eq_true h
/-- where the document's loop stands -/
def whyI (l : List Nat) (i a b : Nat) (c : Bool) : Prop := b < 8 ∧ a ≤ i ∧ ((i ≤ l.length ∧ why5 a b c (l.drop i) = why5 0 0 false l) ∨ (i = l.length + 1 ∧ decide (a ≤ 1) = why5 0 0 false l))
theorem whyI_sep {l : List Nat} {i a b : Nat} {c : Bool} (hi : whyI l i a b c) (h : i < l.length) (hs : sepr (l.getD i 0) = true) (hc : c = true) (hb : good b = true) {a' : Nat} (ha : a' = if l.getD i 0 = 64 then a + 1 else a) : whyI l (i + 1) a' 0 false := by
  obtain ⟨h1, h2, h3⟩ := hi
  rcases h3 with ⟨h3, h4⟩ | ⟨h3, _⟩
  · rw [why_sep h hs, hc, hb] at h4
    rw [ha]
    exact ⟨by omega, by split <;> omega, .inl ⟨by omega, by rw [← h4]; rfl⟩⟩
  · omega
theorem whyI_end {l : List Nat} {i a b : Nat} {c : Bool} (hi : whyI l i a b c) (h : i = l.length) (hc : c = true) (hb : good b = true) : whyI l (i + 1) a 0 false := by
  obtain ⟨h1, h2, h3⟩ := hi
  rcases h3 with ⟨h3, h4⟩ | ⟨h3, _⟩
  · rw [why_end h, hc, hb] at h4
    exact ⟨by omega, by omega, .inr ⟨by omega, by rw [← h4]; rfl⟩⟩
  · omega
theorem whyI_let {l : List Nat} {i a b : Nat} {c : Bool} (hi : whyI l i a b c) (h : i < l.length) (hs : ¬ sepr (l.getD i 0) = true) (ho : lett (l.getD i 0) ≠ 0 ∨ 48 ≤ l.getD i 0 ∧ l.getD i 0 ≤ 57) : whyI l (i + 1) a (b ||| lett (l.getD i 0)) true := by
  obtain ⟨h1, h2, h3⟩ := hi
  rcases h3 with ⟨h3, h4⟩ | ⟨h3, _⟩
  · rw [why_let h hs, decide_eq_true ho, Bool.true_and] at h4
    exact ⟨Nat.or_lt_two_pow (n := 3) h1 (lett_le _), by omega, .inl ⟨by omega, h4⟩⟩
  · omega
theorem whyI_bad {l : List Nat} {i a b : Nat} {c : Bool} (hi : whyI l i a b c) (h : i ≤ l.length) (hs : i = l.length ∨ sepr (l.getD i 0) = true) (hc : c = false ∨ good b = false) : why5 0 0 false l = false := by
  obtain ⟨h1, h2, h3⟩ := hi
  rcases h3 with ⟨h3, h4⟩ | ⟨h3, _⟩
  · rw [← h4]
    by_cases he : i = l.length
    · rw [why_end he]; rcases hc with h | h <;> rw [h] <;> simp
    · rw [why_sep (by omega) (hs.resolve_left he)]; rcases hc with h | h <;> rw [h] <;> simp
  · omega
theorem whyI_bad2 {l : List Nat} {i a b : Nat} {c : Bool} (hi : whyI l i a b c) (h : i < l.length) (hs : ¬ sepr (l.getD i 0) = true) (ho : lett (l.getD i 0) = 0 ∧ ¬ (48 ≤ l.getD i 0 ∧ l.getD i 0 ≤ 57)) : why5 0 0 false l = false := by
  obtain ⟨h1, h2, h3⟩ := hi
  rcases h3 with ⟨h3, h4⟩ | ⟨h3, _⟩
  · rw [← h4, why_let h hs, decide_eq_false (by omega)]; rfl
  · omega
theorem whyI_fin {l : List Nat} {i a b : Nat} {c : Bool} (hi : whyI l i a b c) (h : ¬ i ≤ l.length) : why5 0 0 false l = decide (a ≤ 1) := by
  obtain ⟨h1, h2, h3⟩ := hi
  rcases h3 with ⟨h3, h4⟩ | ⟨h3, h4⟩
  · omega
  · exact h4.symm
theorem why_is5 {s : List UInt8} (hwn : whyN s = if why5 0 0 false (rlo s) = true then 0 else 5) (h : why5 0 0 false (rlo s) = false) : (Value.int .i64 5) = I ((whyN s : Nat) : Int) := by
  rw [hwn, h]; rfl
theorem why_is0 {s : List UInt8} (hwn : whyN s = if why5 0 0 false (rlo s) = true then 0 else 5) (h : why5 0 0 false (rlo s) = true) : (Value.int .i64 0) = I ((whyN s : Nat) : Int) := by
  rw [hwn, h]; rfl
/-! ### the laws -/
theorem rn_all {l : List Nat} (h : l.all (fun r => decide (r < 55296)) = true) : ∀ r ∈ l, Rn r := fun r hr => by
  have := List.all_eq_true.1 h r hr
  rw [decide_eq_true_eq] at this
  exact ⟨by omega, by omega⟩
theorem normal_lit {s : List UInt8} {l : List Nat} {x : List UInt8} {e : Nat} (h : s = unr l) (hr : l.all (fun r => decide (r < 55296)) = true) (hx : (if l.length ≤ 64 then (if why5 0 0 false l = true then (unr (l.map small), 0) else ([], 5)) else ([], 2)) = (x, e)) : normal s = (x, e) := by
  rw [h, normal_unr (rn_all hr)]; exact hx
theorem sp1 : normal [65, 108, 105, 99, 101, 64, 69, 120, 97, 109, 112, 108, 101, 46, 111, 114, 103] = ([97, 108, 105, 99, 101, 64, 101, 120, 97, 109, 112, 108, 101, 46, 111, 114, 103], 0) :=
  normal_lit (l := [65, 108, 105, 99, 101, 64, 69, 120, 97, 109, 112, 108, 101, 46, 111, 114, 103]) (by decide) (by decide) (by decide)
theorem sp2 : normal [206, 145, 206, 146, 45, 208, 182] = ([206, 177, 206, 178, 45, 208, 182], 0) := normal_lit (l := [913, 914, 45, 1078]) (by decide) (by decide) (by decide)
theorem sp3 : normal [97, 208, 182] = ([], 5) := normal_lit (l := [97, 1078]) (by decide) (by decide) (by decide)
theorem spl_head : ∀ (z cur : List UInt8), ∃ p, spl cur z = (cur ++ p) :: (spl cur z).tail ∧ (∀ c ∈ p, sepB c = false) ∧ (((spl cur z).tail = [] ∧ z = p) ∨ ∃ c z', sepB c = true ∧ z = p ++ c :: z' ∧ spl [] z' = (spl cur z).tail)
  | [], cur => ⟨[], by rw [spl, List.append_nil]; rfl, by simp, .inl ⟨by rw [spl]; rfl, rfl⟩⟩
  | c :: z, cur => by
    by_cases hc : sepB c = true
    · refine ⟨[], ?_, by simp, .inr ⟨c, z, hc, rfl, ?_⟩⟩
      · rw [spl_sep hc, List.append_nil]; rfl
      · rw [spl_sep hc]; rfl
    · obtain ⟨p, h1, h2, h3⟩ := spl_head z (cur ++ [c])
      have e : spl cur (c :: z) = spl (cur ++ [c]) z := by rw [spl, if_neg hc]
      rw [e]
      refine ⟨c :: p, ?_, ?_, ?_⟩
      · rw [List.append_assoc] at h1; exact h1
      · intro d hd
        rcases List.mem_cons.1 hd with rfl | hd
        · exact Bool.eq_false_iff.2 hc
        · exact h2 d hd
      · rcases h3 with ⟨h3, h4⟩ | ⟨d, z', h3, h4, h5⟩
        · exact .inl ⟨h3, by rw [h4]⟩
        · exact .inr ⟨d, z', h3, by rw [h4]; rfl, h5⟩
/-- what is left of a text behind some of its parts -/
def rstP (l : List (List UInt8)) (i : Nat) (z : List UInt8) : Prop := (i < l.length ∧ spl [] z = l.drop i) ∨ (i = l.length ∧ z = [])
theorem rst_at {l : List (List UInt8)} {i : Nat} {z : List UInt8} (h : rstP l i z) (hi : i < l.length) :
    (∀ c ∈ l.getD i [], sepB c = false) ∧ ∃ z', z = l.getD i [] ++ z' ∧ ((i + 1 = l.length ∧ z' = []) ∨ (i + 1 < l.length ∧ ∃ c z'', sepB c = true ∧ z' = c :: z'' ∧ rstP l (i + 1) z'')) := by
  rcases h with ⟨_, h⟩ | ⟨h, _⟩
  · obtain ⟨p, h1, h2, h3⟩ := spl_head z []
    have hd : l.drop i = l.getD i [] :: l.drop (i + 1) := by
      rw [List.getD_eq_getElem?_getD, List.getElem?_eq_getElem hi]; exact List.drop_eq_getElem_cons hi
    rw [h, hd, List.nil_append] at h1
    rw [h, hd] at h3
    rw [List.tail_cons] at h1 h3
    have hp : l.getD i [] = p := (List.cons.inj h1).1
    rw [hp]
    refine ⟨h2, ?_⟩
    rcases h3 with ⟨h3, h4⟩ | ⟨c, z', h3, h4, h5⟩
    · refine ⟨[], by rw [List.append_nil]; exact h4, .inl ⟨?_, rfl⟩⟩
      have := congrArg List.length h3
      rw [List.length_drop, List.length_nil] at this; omega
    · refine ⟨c :: z', h4, .inr ⟨?_, c, z', h3, rfl, ?_⟩⟩
      · have h6 := spl_num z' []
        have := congrArg List.length h5
        rw [List.length_drop] at this
        have : 0 < (spl [] z').length := by obtain ⟨q, hq, _⟩ := spl_head z' []; rw [hq]; exact Nat.zero_lt_succ _
        omega
      · by_cases hl : i + 1 < l.length
        · exact .inl ⟨hl, h5⟩
        · exfalso
          have := congrArg List.length h5
          rw [List.length_drop] at this
          have : 0 < (spl [] z').length := by obtain ⟨q, hq, _⟩ := spl_head z' []; rw [hq]; exact Nat.zero_lt_succ _
          omega
  · omega
theorem rst_start (t : List UInt8) : rstP (spl [] t) 0 t := .inl ⟨by obtain ⟨q, hq, _⟩ := spl_head t []; rw [hq]; exact Nat.zero_lt_succ _, rfl⟩
theorem sepB_not {c : UInt8} (h : sepB c = false) : c.toNat ≠ 46 ∧ c.toNat ≠ 45 ∧ c.toNat ≠ 95 ∧ c.toNat ≠ 64 := by
  unfold sepB sepr at h; rw [decide_eq_false_iff_not] at h; omega
theorem sepB_yes {c : UInt8} (h : sepB c = true) : c.toNat = 46 ∨ c.toNat = 45 ∨ c.toNat = 95 ∨ c.toNat = 64 := by
  unfold sepB sepr at h; rwa [decide_eq_true_eq] at h
theorem getD_mem {l : List UInt8} {k : Nat} (h : k < l.length) : l.getD k 0 ∈ l := by
  rw [List.getD_eq_getElem?_getD, List.getElem?_eq_getElem h]; exact List.getElem_mem h
theorem alph_take {l : List Nat} {i b : Nat} (h : i < l.length) (hb : alph (l.take i) 0 = b) : alph (l.take (i + 1)) 0 = b ||| lett (l.getD i 0) := by
  rw [List.take_add_one, List.getD_eq_getElem?_getD, List.getElem?_eq_getElem h, alph_app, hb]; rfl
theorem count_take {l : List UInt8} {i a : Nat} (h : i < l.length) (ha : (l.take i).count 64 = a) : (l.take (i + 1)).count 64 = if (l.getD i 0).toNat = 64 then a + 1 else a := by
  rw [List.take_add_one, List.getD_eq_getElem?_getD, List.getElem?_eq_getElem h, List.count_append, ha]
  show a + [l[i]].count 64 = _
  rw [List.count_singleton]
  by_cases he : l[i] = 64
  · rw [he]; rfl
  · rw [if_neg (by rw [beq_iff_eq]; exact he), if_neg (fun h => he (by exact UInt8.toNat_inj.1 h)), Nat.add_zero]
theorem enc_len (r : Nat) : (enc r).length ≤ 4 := by unfold enc; repeat' split
                                                     all_goals (simp only [List.length_cons, List.length_nil]; omega)
theorem unr_len' : ∀ l : List Nat, (unr l).length ≤ 4 * l.length
  | [] => Nat.zero_le _
  | r :: l => by rw [unr_cons, List.length_append, List.length_cons]; have := enc_len r; have := unr_len' l; omega
theorem unr_len {l : List Nat} (_ : ∀ r ∈ l, Rn r) : (unr l).length ≤ 4 * l.length := unr_len' l
theorem lmap_getD {l : List Nat} {i : Nat} (h : i < l.length) : (l.map small).getD i 0 = small (l.getD i 0) := by
  rw [List.getD_eq_getElem?_getD, List.getD_eq_getElem?_getD, List.getElem?_map, List.getElem?_eq_getElem h]; rfl
theorem normal_len {s x : List UInt8} (h : normal s = (x, 0)) : x.length ≤ 256 := by
  obtain ⟨l, h1, rfl, _, _, h4, _⟩ := normal_ok h
  have := unr_len h1; omega
theorem normal_vld {s x : List UInt8} (h : normal s = (x, 0)) : vld x = true := by
  obtain ⟨l, h1, rfl, _⟩ := normal_ok h
  exact vld_of h1

end Go.Proofs.YtnkfapecbmmpeaaGreatDoor
