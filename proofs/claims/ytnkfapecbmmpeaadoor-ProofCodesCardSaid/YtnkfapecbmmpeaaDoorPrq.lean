/- A part of the proof: contracts of functions of the program, each for every state of the heaps that it names. -/
import Derived.Test.YtnkfapecbmmpeaaDoorPrf0
set_option linter.unusedSimpArgs false
set_option linter.unusedVariables false
namespace Go.Proofs.YtnkfapecbmmpeaaDoor
open Go Go.Fw
set_option maxRecDepth 100000
set_option maxHeartbeats 1000000
/-! ## a key more -/
theorem putP_mem {kv : List Sm.PR} (ho : Sm.Once kv) {k v : List UInt8} {p : Sm.PR} : p ∈ Sm.putP kv k v ↔ (p ∈ kv ∧ p.1 ≠ k) ∨ p = (k, v) := by
  rw [(Sm.putP_perm k v ho).mem_iff]
  unfold Sm.setP
  rw [List.mem_append, List.mem_filter, decide_eq_true_eq, List.mem_singleton]
theorem Fine.put {kv : List Sm.PR} (hf : Fine kv) {k v : List UInt8} (hk : k.length = 16) (hv : v.length ≤ 1000000) (hl : kv.length ≤ 100000) : Fine (Sm.putP kv k v) := by
  refine ⟨(Sm.setP_once k v hf.once).perm (Sm.putP_perm k v hf.once).symm, fun p q => ?_, fun p q => ?_, Nat.le_trans (Sm.putP_len kv k v) (by omega)⟩
  · rcases (putP_mem hf.once).1 q with ⟨q, _⟩ | rfl
    · exact hf.k16 p q
    · exact hk
  · rcases (putP_mem hf.once).1 q with ⟨q, _⟩ | rfl
    · exact hf.small p q
    · exact hv
/-- beside its own way nothing is another one -/
theorem put_beside {kv : List Sm.PR} (hf : Fine kv) {k v : List UInt8} (hk : k.length = 16) {b : List UInt8} (hb : b.length = 16) {d : Nat} (hd : d ≤ 128) (hn : Sm.belowB k b d = false) (hv : v.length ≤ 1000000) (hl : kv.length ≤ 100000) :
    Sm.ndB (Sm.putP kv k v) b d = Sm.ndB kv b d := by
  have hf' := hf.put hk hv hl
  have h1 : Sm.ndB (Sm.putP kv k v) b d = Sm.ndB (Sm.setP kv k v) b d := Sm.ndB_perm hf'.once hf'.k16 (Sm.putP_perm k v hf.once) hb hd
  rw [h1]
  unfold Sm.ndB Sm.bel Sm.setP
  rw [List.filter_append, List.filter_cons, if_neg (by rw [hn]; decide), List.filter_nil, List.append_nil, List.filter_filter]
  congr 1
  refine List.filter_congr fun p hp => ?_
  by_cases h : p.1 = k
  · rw [h, hn]; rfl
  · rw [decide_eq_true h, Bool.and_true]
theorem bsd_put {kv : List Sm.PR} (hf : Fine kv) {k v : List UInt8} (hk : k.length = 16) (hv : v.length ≤ 1000000) (hl : kv.length ≤ 100000) {d n : Nat} (hd : d + n ≤ 128) : bsd (Sm.putP kv k v) k d n = bsd kv k d n := by
  unfold bsd
  refine List.map_congr_left fun i hi => ?_
  have := List.mem_range.1 hi
  have hb := Sm.bit_le k (d + i)
  refine put_beside hf hk ((turn_len _ _).trans hk) (by omega) (Sm.belowB_no (i := d + i) (by omega) ?_) hv hl
  rw [turn_bit hk (by omega) (by omega), if_pos rfl]
  omega
theorem bel_one {k v b : List UInt8} {d : Nat} (h : Sm.belowB k b d = true) : Sm.bel [(k, v)] b d = [(k, v)] := by unfold Sm.bel; rw [List.filter_cons, if_pos h, List.filter_nil]
/-- the end of the way, once the key has a value: the key alone -/
theorem put_end {kv : List Sm.PR} (hf : Fine kv) {k v : List UInt8} (hk : k.length = 16) (hv : v.length ≤ 1000000) (hl : kv.length ≤ 100000) {s : Nat} (hs : s ≤ 128) (ho : ∀ p ∈ cur kv k s, p.1 = k) : Sm.ndB (Sm.putP kv k v) k s = Sb.leafN k v := by
  have hf' := hf.put hk hv hl
  have h1 : Sm.ndB (Sm.putP kv k v) k s = Sm.ndB (Sm.setP kv k v) k s := Sm.ndB_perm hf'.once hf'.k16 (Sm.putP_perm k v hf.once) hk hs
  have hself : Sm.belowB k k s = true := Sm.belowB_yes fun _ _ => rfl
  rw [h1]
  unfold Sm.ndB Sm.bel Sm.setP
  rw [List.filter_append, List.filter_cons, if_pos hself, List.filter_nil, List.filter_filter, List.filter_eq_nil_iff.2 (fun p hp => by
    intro q
    rw [Bool.and_eq_true, decide_eq_true_eq] at q
    exact q.2 (ho p (List.mem_filter.2 ⟨hp, q.1⟩))), List.nil_append, Sm.nd_one]
/-- .. or two keys -/
theorem put_end2 {kv : List Sm.PR} (hf : Fine kv) {k v q w : List UInt8} (hk : k.length = 16) (hv : v.length ≤ 1000000) (hl : kv.length ≤ 100000) {s : Nat} (hs : s ≤ 128) (hc : cur kv k s = [(q, w)]) (hq : q ≠ k) : Sm.ndB (Sm.putP kv k v) k s = Sm.ndB [(k, v), (q, w)] k s := by
  have hf' := hf.put hk hv hl
  have h1 : Sm.ndB (Sm.putP kv k v) k s = Sm.ndB (Sm.setP kv k v) k s := Sm.ndB_perm hf'.once hf'.k16 (Sm.putP_perm k v hf.once) hk hs
  have hself : Sm.belowB k k s = true := Sm.belowB_yes fun _ _ => rfl
  have hqb : Sm.belowB q k s = true := (List.mem_filter.1 (show (q, w) ∈ cur kv k s by rw [hc]; exact .head _)).2
  have e1 : Sm.bel (Sm.setP kv k v) k s = [(q, w), (k, v)] := by
    unfold Sm.bel Sm.setP
    rw [List.filter_append, List.filter_cons, if_pos hself, List.filter_nil, List.filter_filter]
    have e2 : kv.filter (fun p => Sm.belowB p.1 k s && decide (p.1 ≠ k)) = (cur kv k s).filter (fun p => decide (p.1 ≠ k)) := by
      show _ = (kv.filter fun p => Sm.belowB p.1 k s).filter (fun p => decide (p.1 ≠ k))
      rw [List.filter_filter]
      refine List.filter_congr fun p _ => ?_
      rw [Bool.and_comm]
    rw [e2, hc, List.filter_cons, if_pos (decide_eq_true hq), List.filter_nil]; rfl
  have e3 : Sm.bel [(k, v), (q, w)] k s = [(k, v), (q, w)] := by unfold Sm.bel; rw [List.filter_cons, if_pos hself, List.filter_cons, if_pos hqb, List.filter_nil]
  have hw : Sm.WF (128 - s) (Sm.bel (Sm.setP kv k v) k s) := (Sm.bel_wf hf'.once hf'.k16 hk hs).perm ((Sm.putP_perm k v hf.once).filter _)
  rw [h1]
  unfold Sm.ndB
  rw [e3]
  exact Sm.nd_perm _ hw (show (Sm.bel (Sm.setP kv k v) k s).Perm [(k, v), (q, w)] by rw [e1]; exact List.Perm.swap _ _ _)
/-! ## two leaves, and the node above them -/
structure Two (k q : List UInt8) (a : Nat) : Prop where
  k16 : k.length = 16
  q16 : q.length = 16
  lt : a < 128
  same : ∀ i, i < a → Sm.bit k i = Sm.bit q i
  differ : Sm.bit k a ≠ Sm.bit q a
theorem Two.ne {k q : List UInt8} {a : Nat} (h : Two k q a) : q ≠ k := fun e => h.differ (by rw [e])
theorem Two.fine {k q v w : List UInt8} {a : Nat} (h : Two k q a) (hv : v.length ≤ 1000000) (hw : w.length ≤ 1000000) : Fine [(k, v), (q, w)] := by
  refine ⟨?_, fun p hp => ?_, fun p hp => ?_, by simp⟩
  · unfold Sm.Once
    rw [List.pairwise_cons]
    exact ⟨fun p hp => by rw [List.mem_singleton.1 hp]; exact fun e => h.ne e.symm, by simp⟩
  · rcases List.mem_cons.1 hp with rfl | hp
    · exact h.k16
    · rw [List.mem_singleton.1 hp]; exact h.q16
  · rcases List.mem_cons.1 hp with rfl | hp
    · exact hv
    · rw [List.mem_singleton.1 hp]; exact hw
theorem Two.top {k q v w : List UInt8} {a : Nat} (h : Two k q a) (hv : v.length ≤ 1000000) (hw : w.length ≤ 1000000) : Sm.ndB [(k, v), (q, w)] k a = up k a (Sb.leafN k v) (Sb.leafN q w) := by
  rw [← up_node (h.fine hv hw) h.k16 h.lt]
  have hb := Sm.bit_le k a
  have hb2 := Sm.bit_le q a
  have hd := h.differ
  have h1 : Sm.belowB k k (a + 1) = true := Sm.belowB_yes fun _ _ => rfl
  have h2 : Sm.belowB q k (a + 1) = false := Sm.belowB_no (i := a) (by omega) fun e => h.differ e.symm
  have h3 : Sm.belowB k (turn k a) (a + 1) = false := Sm.belowB_no (i := a) (by omega) (by rw [turn_bit h.k16 h.lt h.lt, if_pos rfl]; omega)
  have h4 : Sm.belowB q (turn k a) (a + 1) = true := Sm.belowB_yes fun i hi => by
    have hlt := h.lt
    rw [turn_bit h.k16 h.lt (by omega)]
    by_cases hia : i = a
    · rw [if_pos hia, hia]; omega
    · rw [if_neg hia]; exact (h.same i (by omega)).symm
  unfold Sm.ndB
  have e1 : Sm.bel [(k, v), (q, w)] k (a + 1) = [(k, v)] := by unfold Sm.bel; rw [List.filter_cons, if_pos h1, List.filter_cons, if_neg (by rw [h2]; decide), List.filter_nil]
  have e2 : Sm.bel [(k, v), (q, w)] (turn k a) (a + 1) = [(q, w)] := by unfold Sm.bel; rw [List.filter_cons, if_neg (by rw [h3]; decide), List.filter_cons, if_pos h4, List.filter_nil]
  rw [e1, e2, Sm.nd_one, Sm.nd_one]
theorem Two.step {k q v w : List UInt8} {a : Nat} (h : Two k q a) (hv : v.length ≤ 1000000) (hw : w.length ≤ 1000000) {e : Nat} (he : e < a) : Sm.ndB [(k, v), (q, w)] k e = up k e (Sm.ndB [(k, v), (q, w)] k (e + 1)) [0] := by
  have hlt := h.lt
  rw [← up_node (h.fine hv hw) h.k16 (d := e) (by omega)]
  have hb := Sm.bit_le k e
  have hs := h.same e he
  have h3 : Sm.belowB k (turn k e) (e + 1) = false := Sm.belowB_no (i := e) (by omega) (by rw [turn_bit h.k16 (by omega) (by omega), if_pos rfl]; omega)
  have h4 : Sm.belowB q (turn k e) (e + 1) = false := Sm.belowB_no (i := e) (by omega) (by rw [turn_bit h.k16 (by omega) (by omega), if_pos rfl]; omega)
  have e2 : Sm.bel [(k, v), (q, w)] (turn k e) (e + 1) = [] := by unfold Sm.bel; rw [List.filter_cons, if_neg (by rw [h3]; decide), List.filter_cons, if_neg (by rw [h4]; decide), List.filter_nil]
  congr 1
  unfold Sm.ndB
  rw [e2, Sm.nd_nil]
theorem Two.le {k q : List UInt8} {a s : Nat} (h : Two k q a) (hs : Sm.belowB q k s = true) : s ≤ a := by
  rcases Nat.lt_or_ge a s with h1 | h1
  · have := List.all_eq_true.1 hs a (List.mem_range.2 h1)
    exact absurd (of_decide_eq_true this).symm h.differ
  · exact h1
/-! ## what two keys begin with alike -/
def len8 (x : Nat) : Nat := if x = 0 then 0 else Nat.log2 x + 1
theorem clz_tab : ∀ x : Fin 256, x.val ≠ 0 → 1 ≤ len8 x.val ∧ len8 x.val ≤ 8 ∧ x.val / 2 ^ (len8 x.val - 1) % 2 = 1 ∧ x.val < 2 ^ len8 x.val := by decide +kernel
theorem xor_bits (x y j : Nat) : (x ^^^ y) / 2 ^ j % 2 = 1 ↔ x / 2 ^ j % 2 ≠ y / 2 ^ j % 2 := by
  have h1 := Nat.testBit_eq_decide_div_mod_eq (x := x ^^^ y) (i := j)
  have h2 := Nat.testBit_eq_decide_div_mod_eq (x := x) (i := j)
  have h3 := Nat.testBit_eq_decide_div_mod_eq (x := y) (i := j)
  rw [Nat.testBit_xor, h2, h3] at h1
  have a2 : x / 2 ^ j % 2 < 2 := Nat.mod_lt _ (by decide)
  have a3 : y / 2 ^ j % 2 < 2 := Nat.mod_lt _ (by decide)
  have hx : x / 2 ^ j % 2 = 0 ∨ x / 2 ^ j % 2 = 1 := by omega
  have hy : y / 2 ^ j % 2 = 0 ∨ y / 2 ^ j % 2 = 1 := by omega
  rcases hx with hx | hx <;> rcases hy with hy | hy <;> rw [hx, hy] at h1 ⊢ <;> simp at h1 <;> omega
theorem two_of {k q : List UInt8} (hk : k.length = 16) (hq : q.length = 16) {i : Nat} (hi : i < 16) (hs : ∀ j, j < i → k.getD j 0 = q.getD j 0) (hn : (k.getD i 0 ^^^ q.getD i 0).toNat ≠ 0) :
    Two k q (8 * i + (8 - len8 (k.getD i 0 ^^^ q.getD i 0).toNat)) := by
  obtain ⟨x, hx⟩ : ∃ x, x = (k.getD i 0 ^^^ q.getD i 0).toNat := ⟨_, rfl⟩
  rw [← hx] at hn ⊢
  have hxl : x < 256 := by rw [hx]; exact (k.getD i 0 ^^^ q.getD i 0).toNat_lt
  obtain ⟨h1, h2, h3, h4⟩ := clz_tab ⟨x, hxl⟩ hn
  dsimp only at h1 h2 h3 h4
  have hxe : x = (k.getD i 0).toNat ^^^ (q.getD i 0).toNat := by rw [hx, UInt8.toNat_xor]
  have hbit : ∀ (z : Nat), z < 8 → Sm.bit k (8 * i + z) = (k.getD i 0).toNat / 2 ^ (7 - z) % 2 ∧ Sm.bit q (8 * i + z) = (q.getD i 0).toNat / 2 ^ (7 - z) % 2 := fun z hz => by
    unfold Sm.bit
    rw [if_pos (by omega), if_pos (by omega), show (8 * i + z) / 8 = i by omega, show (8 * i + z) % 8 = z by omega]
    exact ⟨rfl, rfl⟩
  refine ⟨hk, hq, by omega, fun j hj => ?_, ?_⟩
  · by_cases hji : j / 8 < i
    · unfold Sm.bit
      rw [if_pos (by omega), if_pos (by omega), hs _ hji]
    · have hj8 : j = 8 * i + (j - 8 * i) := by omega
      obtain ⟨b1, b2⟩ := hbit (j - 8 * i) (by omega)
      rw [← hj8] at b1 b2
      rw [b1, b2]
      have h5 : ¬ (x / 2 ^ (7 - (j - 8 * i)) % 2 = 1) := by
        have h6 : x / 2 ^ (7 - (j - 8 * i)) = 0 := Nat.div_eq_of_lt (Nat.lt_of_lt_of_le h4 (Nat.pow_le_pow_right (by decide) (by omega)))
        rw [h6]; decide
      rw [hxe] at h5
      exact Decidable.by_contra fun h => h5 ((xor_bits _ _ _).2 h)
  · obtain ⟨b1, b2⟩ := hbit (8 - len8 x) (by omega)
    rw [b1, b2, show 7 - (8 - len8 x) = len8 x - 1 by omega]
    rw [hxe] at h3
    exact (xor_bits _ _ _).1 (by rw [← hxe]; rw [← hxe] at h3; exact h3)

end Go.Proofs.YtnkfapecbmmpeaaDoor
