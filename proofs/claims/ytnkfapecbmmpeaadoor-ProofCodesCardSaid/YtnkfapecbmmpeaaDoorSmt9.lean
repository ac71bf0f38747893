/- A part of the proof: contracts of functions of the program, each for every state of the heaps that it names. -/
import Derived.Test.YtnkfapecbmmpeaaDoorSmt8
set_option linter.unusedSimpArgs false
set_option linter.unusedVariables false
namespace Go.Proofs.YtnkfapecbmmpeaaDoor
open Go Go.Fw
set_option maxRecDepth 100000
set_option maxHeartbeats 1000000

theorem bandK_lt {k : List UInt8} (hk : k.length = 16) {i : Nat} (hi : i ≤ 16) : Sm.kv k / 2 ^ (128 - i) < 2 ^ i := by
  have h := Sm.kv_lt k
  rw [hk] at h
  rw [Nat.div_lt_iff_lt_mul (Nat.two_pow_pos _), ← Nat.pow_add, show i + (128 - i) = 128 by omega]
  exact Nat.lt_of_lt_of_eq h (by decide)
theorem pow16 {i : Nat} (hi : i ≤ 16) : 2 ^ i ≤ 65536 := Nat.le_trans (Nat.pow_le_pow_right (by decide) hi) (by decide)
theorem bandK_step {k : List UInt8} (hk : k.length = 16) {i : Nat} (hi : i < 16) : (Sm.kv k / 2 ^ (128 - i)) * 2 ^ 1 ||| Sm.bit k i = Sm.kv k / 2 ^ (128 - (i + 1)) := by
  have hb := Sm.bit_le k i
  have e := Nat.two_pow_add_eq_or_of_lt (i := 1) (b := Sm.bit k i) (by omega) (Sm.kv k / 2 ^ (128 - i))
  have e1 := Sm.pre_succ (Sm.kv k) (127 - i)
  rw [show 127 - i + 1 = 128 - i by omega] at e1
  rw [Nat.mul_comm, ← e, Sm.bit_kv hk (by omega), show 128 - (i + 1) = 127 - i by omega]
  omega
/-- a band's number -/
def bandN (k : List UInt8) : Nat → Nat
  | 0 => 0
  | i + 1 => bandN k i * 2 ^ 1 ||| Sm.bit k i
theorem bandN_lt (k : List UInt8) : ∀ i, bandN k i < 2 ^ i
  | 0 => Nat.one_pos
  | i + 1 => by
    have h1 := bandN_lt k i
    have h2 := Sm.bit_le k i
    have h3 : 2 ^ (i + 1) = 2 ^ i * 2 := Nat.pow_succ 2 i
    have e := Nat.two_pow_add_eq_or_of_lt (i := 1) (b := Sm.bit k i) (by omega) (bandN k i)
    rw [bandN, Nat.mul_comm, ← e]
    omega
theorem bandN_kv {k : List UInt8} (hk : k.length = 16) : ∀ {i : Nat}, i ≤ 16 → bandN k i = Sm.kv k / 2 ^ (128 - i)
  | 0, _ => by rw [Nat.div_eq_of_lt (Nat.lt_of_lt_of_eq (Sm.kv_lt k) (by rw [hk]))]; rfl
  | i + 1, hi => by rw [bandN, bandN_kv hk (by omega), bandK_step hk (by omega)]
/-- the first key of a band -/
def kF (n d : Nat) : List UInt8 := [UInt8.ofNat (n * 2 ^ (16 - d) / 2 ^ 8), UInt8.ofNat (n * 2 ^ (16 - d)), 0, 0, 0, 0, 0, 0, 0, 0, 0, 0, 0, 0, 0, 0]
theorem kF_len (n d : Nat) : (kF n d).length = 16 := rfl
theorem top_lt {n d : Nat} (hd : d ≤ 16) (hn : n < 2 ^ d) : n * 2 ^ (16 - d) < 65536 := by
  have h := Nat.mul_lt_mul_of_pos_right hn (Nat.two_pow_pos (16 - d))
  rw [← Nat.pow_add, show d + (16 - d) = 16 by omega] at h
  exact h
theorem kF_kv {n d : Nat} (hd : d ≤ 16) (hn : n < 2 ^ d) : Sm.kv (kF n d) = n * 2 ^ (128 - d) := by
  have ht := top_lt hd hn
  obtain ⟨t, hte⟩ : ∃ t, t = n * 2 ^ (16 - d) := ⟨_, rfl⟩
  have e : n * 2 ^ (128 - d) = t * 2 ^ 112 := by rw [hte, Nat.mul_assoc, ← Nat.pow_add, show 16 - d + 112 = 128 - d by omega]
  have h1 : (UInt8.ofNat (t / 2 ^ 8)).toNat = t / 2 ^ 8 := UInt8.toNat_ofNat_of_lt' (by show _ < 256; omega)
  have h2 : (UInt8.ofNat t).toNat = t % 256 := by simp
  rw [e]
  unfold kF
  rw [← hte]
  simp only [Sm.kv, List.length_cons, List.length_nil, h1, h2]
  show t / 2 ^ 8 * 256 ^ 15 + (t % 256 * 256 ^ 14 + 0) = _
  rw [show (256 : Nat) ^ 15 = 256 * 2 ^ 112 by decide, show (256 : Nat) ^ 14 = 2 ^ 112 by decide, ← Nat.mul_assoc, Nat.add_zero, ← Nat.add_mul]
  congr 1
  omega
theorem kF_div {n d : Nat} (hd : d ≤ 16) (hn : n < 2 ^ d) : Sm.kv (kF n d) / 2 ^ (128 - d) = n := by rw [kF_kv hd hn, Nat.mul_div_cancel _ (Nat.two_pow_pos _)]

def belR (m : List Pr) (k : List UInt8) (d : Nat) : List Pr := m.filter fun p => Sm.belowB p.k k d
theorem belR_map (m : List Pr) (k : List UInt8) (d : Nat) : (belR m k d).map toP = Sm.bel (m.map toP) k d := by
  unfold belR Sm.bel
  rw [List.filter_map]; rfl
theorem belR_len (m : List Pr) (k : List UInt8) (d : Nat) : (belR m k d).length ≤ m.length := List.length_filter_le _ _
theorem belR_take {m : List Pr} {i : Nat} (hi : i < m.length) (k : List UInt8) (d : Nat) : belR (m.take (i + 1)) k d = belR (m.take i) k d ++ if Sm.belowB (m.getD i noPr).k k d = true then [m.getD i noPr] else [] := by
  have e : m.getD i noPr = m[i] := by rw [List.getD_eq_getElem?_getD, List.getElem?_eq_getElem hi]; rfl
  unfold belR
  rw [e, List.take_succ_eq_append_getElem hi, List.filter_append, List.filter_cons, List.filter_nil]
theorem belR_yes {m : List Pr} {i : Nat} (hi : i < m.length) {k : List UInt8} {d : Nat} (h : Sm.belowB (m.getD i noPr).k k d = true) : belR (m.take (i + 1)) k d = belR (m.take i) k d ++ [m.getD i noPr] := by rw [belR_take hi, if_pos h]
theorem belR_no {m : List Pr} {i : Nat} (hi : i < m.length) {k : List UInt8} {d : Nat} (h : Sm.belowB (m.getD i noPr).k k d = false) : belR (m.take (i + 1)) k d = belR (m.take i) k d := by rw [belR_take hi, if_neg (by rw [h]; decide), List.append_nil]
theorem Pairs.wfB {m : List Pr} {kv : List Sm.PR} (h : Pairs m kv) {k : List UInt8} (hk : k.length = 16) {d : Nat} (hd : d ≤ 128) : Sm.WF (128 - d) ((belR m k d).map toP) := by
  rw [belR_map]; exact Sm.bel_wf h.once h.k16 hk hd
theorem Pairs.smallB {m : List Pr} {kv : List Sm.PR} (h : Pairs m kv) (k : List UInt8) (d : Nat) : ∀ p ∈ belR m k d, p.v.length ≤ 1000000 := fun p q => h.small p (List.mem_filter.1 q).1
theorem Pairs.ndB {m : List Pr} {kv : List Sm.PR} (h : Pairs m kv) {k : List UInt8} (hk : k.length = 16) {d : Nat} (hd : d ≤ 128) : Sm.ndB kv k d = Sm.nd (128 - d) ((belR m k d).map toP) := by
  rw [belR_map]; exact (Sm.ndB_perm h.once h.k16 h.perm hk hd).symm
theorem Pairs.klen {m : List Pr} {kv : List Sm.PR} (h : Pairs m kv) (i : Nat) : (m.getD i noPr).k.length ≤ 1000000 := by
  by_cases hi : i < m.length
  · rw [List.getD_eq_getElem?_getD, List.getElem?_eq_getElem hi]
    rw [show (some m[i]).getD noPr = m[i] from rfl, show m[i].k.length = 16 from h.k16 (toP m[i]) (List.mem_map.2 ⟨_, List.getElem_mem hi, rfl⟩)]; decide
  · rw [List.getD_eq_getElem?_getD, List.getElem?_eq_none (by omega)]; exact Nat.zero_le _
theorem ndB_small (l : List Sm.PR) (b : List UInt8) (d : Nat) : (Sm.ndB l b d).length ≤ 17 := Sm.nd_small _ _
theorem ndB_halves {kv : List Sm.PR} (hf : Fine kv) {k : List UInt8} (hk : k.length = 16) {d : Nat} (hd : d ≤ 15) {n : Nat} (hn : n = Sm.kv k / 2 ^ (128 - d)) :
    Sb.join (Sm.ndB kv (kF (2 * n) (d + 1)) (d + 1)) (Sm.ndB kv (kF (2 * n + 1) (d + 1)) (d + 1)) = Sm.ndB kv k d := by
  have hlt := bandK_lt hk (i := d) (by omega)
  have h2 : 2 ^ (d + 1) = 2 ^ d * 2 := Nat.pow_succ 2 d
  have f0 := kF_div (n := 2 * n) (d := d + 1) (by omega) (by omega)
  have f1 := kF_div (n := 2 * n + 1) (d := d + 1) (by omega) (by omega)
  rw [show 128 - (d + 1) = 127 - d by omega] at f0 f1
  exact Sm.ndB_join hf.once hf.k16 hk (kF_len _ _) (kF_len _ _) (by omega) (by rw [f0, hn]) (by rw [f1, hn])

end Go.Proofs.YtnkfapecbmmpeaaDoor
