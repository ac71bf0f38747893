/- A part of the proof: contracts of functions of the program, each for every state of the heaps that it names. -/
import Derived.Test.YtnkfapecbmmpeaaDoorTopSiG22
import Derived.Test.YtnkfapecbmmpeaaDoorTopSiG23
set_option linter.unusedSimpArgs false
set_option linter.unusedVariables false
namespace Go.Proofs.YtnkfapecbmmpeaaDoor
open Go Go.Fw
set_option maxRecDepth 100000
set_option maxHeartbeats 1000000

attribute [local irreducible] SN.tagN Sha.tagged
/-- the turn and the number of a text -/
def tnO (k : Nat) : UInt64 := if k < 4 then 1 else 2
def nrO (k : Nat) : Nat := if k < 4 then k else k - 4
/-- the text that sector 1 + k gets -/
def txt (k : Nat) : List UInt8 := T1 (tnO k) (nrO k) (note k)
theorem tnO_lt (k : Nat) : (tnO k).toNat < 2 ^ (8 * 4) := by
  unfold tnO; split <;> decide
theorem nrO_lt {k : Nat} (h : k < 8) : nrO k < 65536 := by
  unfold nrO; split <;> omega
theorem txt_len {k : Nat} (h : k < 8) : (txt k).length = 64 := T1_len _ (tnO_lt k) (nrO_lt h)
def nmN : List (List Nat) := [[44, 20, 231, 127, 170, 22, 61, 134],
  [224, 16, 39, 99, 61, 14, 43, 72],
  [172, 22, 242, 226, 44, 173, 166, 204],
  [182, 36, 52, 204, 176, 119, 179, 253],
  [81, 53, 156, 217, 114, 85, 154, 46],
  [230, 94, 114, 251, 59, 235, 117, 45],
  [68, 46, 21, 248, 33, 85, 199, 167],
  [136, 157, 185, 214, 25, 101, 183, 171]]
def hdN : List (List Nat) := [[0, 0, 0, 1, 0, 0, 0, 1, 2, 44, 20, 231, 127, 170, 22, 61, 134, 0, 1],
  [0, 0, 0, 1, 0, 1, 0, 1, 2, 224, 16, 39, 99, 61, 14, 43, 72, 0, 2],
  [0, 0, 0, 1, 0, 2, 0, 1, 2, 172, 22, 242, 226, 44, 173, 166, 204, 0, 3],
  [0, 0, 0, 1, 0, 3, 0, 1, 2, 182, 36, 52, 204, 176, 119, 179, 253, 0, 4],
  [0, 0, 0, 2, 0, 0, 0, 1, 2, 81, 53, 156, 217, 114, 85, 154, 46, 0, 5],
  [0, 0, 0, 2, 0, 1, 0, 1, 2, 230, 94, 114, 251, 59, 235, 117, 45, 0, 6],
  [0, 0, 0, 2, 0, 2, 0, 1, 2, 68, 46, 21, 248, 33, 85, 199, 167, 0, 7],
  [0, 0, 0, 2, 0, 3, 0, 1, 2, 136, 157, 185, 214, 25, 101, 183, 171, 0, 8]]
theorem nmN_eq : (List.range 8).map (fun k => (SN.tagN 7 [[0, 0, 0, if k < 4 then 1 else 2], [0, k % 4], [0, k + 1]]).take 8) = nmN := by decide +kernel
theorem torn_sums : ∀ k : Fin 8, ∀ n : Fin 19, (SN.tagN 8 [(hdN.getD k.val []).take n.val ++ List.replicate (56 - n.val) 0]).take 8 ≠ List.replicate 8 0 := by decide +kernel
theorem T1_head (tn : UInt64) (nr : Nat) (s : List UInt8) (hs : s.length = 2) : T1 tn nr s = (Sha.numB tn 4 ++ (Sha.numB (UInt64.ofNat nr) 2 ++ (Sha.numB (UInt64.ofNat 0) 1 ++ (Sha.numB (UInt64.ofNat 1) 1 ++ (Sha.numB (UInt64.ofNat 2) 1 ++ (bname tn (UInt64.ofNat nr) s ++ s)))))) ++ (List.replicate 37 0 ++ bsum (prt tn (UInt64.ofNat nr) s 1 0).pad) := by
  have hc : (prt tn (UInt64.ofNat nr) s 1 0).con = s := prt_con (by omega)
  have hb : (prt tn (UInt64.ofNat nr) s 1 0).body.length = 19 := by
    unfold Prt.body Prt.b5 Prt.b4 Prt.b3 Prt.b2 Prt.b1
    simp only [List.length_append, Sha.numB_length, hc, hs]
    show _ + (bname _ _ _).length + _ = _
    rw [bname_len]
  show (prt tn (UInt64.ofNat nr) s 1 0).pad ++ _ = _
  rw [← List.append_assoc]
  congr 1
  rw [Prt.pad_eq, hb, hc, hs]
  simp only [List.append_assoc]
  rfl
theorem T1_sum {tn : UInt64} {nr : Nat} (s : List UInt8) (ht : tn.toNat < 2 ^ (8 * 4)) (hn : nr < 65536) : bsum ((T1 tn nr s).take 56) = (T1 tn nr s).drop 56 := by
  have hl := Prt.pad_len (T1_ok s ht hn)
  show bsum (((prt tn (UInt64.ofNat nr) s 1 0).pad ++ bsum (prt tn (UInt64.ofNat nr) s 1 0).pad).take 56) = ((prt tn (UInt64.ofNat nr) s 1 0).pad ++ bsum (prt tn (UInt64.ofNat nr) s 1 0).pad).drop 56
  rw [List.take_left' hl, List.drop_left' hl]
theorem head_nat {k : Nat} (h : k < 8) : ((txt k).take 19).map UInt8.toNat = hdN.getD k [] := by
  have e1 : (txt k).take 19 = Sha.numB (tnO k) 4 ++ (Sha.numB (UInt64.ofNat (nrO k)) 2 ++ (Sha.numB (UInt64.ofNat 0) 1 ++ (Sha.numB (UInt64.ofNat 1) 1 ++ (Sha.numB (UInt64.ofNat 2) 1 ++ (bname (tnO k) (UInt64.ofNat (nrO k)) (note k) ++ note k))))) := by
    unfold txt
    rw [T1_head _ _ _ (note_len k), List.take_left']
    simp only [List.length_append, Sha.numB_length, bname_len, note_len]
  have e2 : (bname (tnO k) (UInt64.ofNat (nrO k)) (note k)).map UInt8.toNat = nmN.getD k [] := by
    have h1 := SN.tagN_eq 7 [Sha.numB (tnO k) 4, Sha.numB (UInt64.ofNat (nrO k)) 2, note k] (by simp only [List.flatten_cons, List.flatten_nil, List.append_nil, List.length_append, Sha.numB_length, note_len, List.length_cons, List.length_nil]; omega)
    unfold bname
    rw [List.map_take, ← h1, ← nmN_eq, List.getD_eq_getElem?_getD, List.getElem?_map, List.getElem?_range h]
    show _ = List.take 8 (SN.tagN 7 [[0, 0, 0, if k < 4 then 1 else 2], [0, k % 4], [0, k + 1]])
    congr 2
    match k, h with
    | 0, _ => decide
    | 1, _ => decide
    | 2, _ => decide
    | 3, _ => decide
    | 4, _ => decide
    | 5, _ => decide
    | 6, _ => decide
    | 7, _ => decide
  rw [e1]
  simp only [List.map_append]
  rw [e2]
  match k, h with
  | 0, _ => decide
  | 1, _ => decide
  | 2, _ => decide
  | 3, _ => decide
  | 4, _ => decide
  | 5, _ => decide
  | 6, _ => decide
  | 7, _ => decide
/-! ## torn texts -/
def torn (T : List UInt8) (n : Nat) : List UInt8 := T.take n ++ List.replicate (64 - n) 0
theorem torn_zero (T : List UInt8) : torn T 0 = zS := rfl
theorem torn_all {T : List UInt8} (h : T.length = 64) {n : Nat} (hn : 64 ≤ n) : torn T n = T := by
  unfold torn
  rw [List.take_of_length_le (by omega), show 64 - n = 0 by omega]; exact List.append_nil _
theorem tear_torn {T : List UInt8} (h : T.length = 64) (m n : Nat) : tear (torn T m) T n = torn T (max m n) := by
  apply List.ext_getElem?
  intro i
  unfold tear torn
  by_cases hi : 64 ≤ i
  · rw [List.getElem?_eq_none (by simp only [List.length_append, List.length_take, List.length_drop, List.length_replicate]; omega), List.getElem?_eq_none (by simp only [List.length_append, List.length_take, List.length_replicate]; omega)]
  · simp only [List.getElem?_append, List.getElem?_take, List.getElem?_drop, List.getElem?_replicate, List.length_take, List.length_append, List.length_drop, List.length_replicate, h]
    repeat' split
    all_goals first | rfl | omega | (congr 1; omega)
theorem torn_no {k n : Nat} (hk : k < 8) (hne : torn (txt k) n ≠ txt k) : NoPart (torn (txt k) n) := by
  left
  have hl := txt_len hk
  have hn : n < 64 := by
    by_cases h : n < 64
    · exact h
    · exact absurd (torn_all hl (by omega)) hne
  have hd : (torn (txt k) n).take 56 ++ (torn (txt k) n).drop 56 = torn (txt k) n := List.take_append_drop ..
  unfold parse
  rw [if_neg]
  intro hs
  by_cases h19 : n < 19
  · -- the head alone
    have e1 : (torn (txt k) n).take 56 = ((txt k).take 19).take n ++ List.replicate (56 - n) 0 := by
      unfold torn
      rw [List.take_take, Nat.min_eq_left (by omega), List.take_append, List.take_take, List.take_replicate, List.length_take, hl]
      congr 1
      · congr 1; omega
      · congr 1; omega
    have e2 : (torn (txt k) n).drop 56 = List.replicate 8 0 := by
      unfold torn
      rw [List.drop_append, List.length_take, hl, List.drop_of_length_le (by rw [List.length_take]; omega), List.nil_append, List.drop_replicate]
      congr 1; omega
    rw [e1, e2] at hs
    have h1 := SN.tagN_eq 8 [((txt k).take 19).take n ++ List.replicate (56 - n) 0] (by simp only [List.flatten_cons, List.flatten_nil, List.append_nil, List.length_append, List.length_take, List.length_replicate, List.length_cons, List.length_nil]; omega)
    have h2 : (SN.tagN 8 [(hdN.getD k []).take n ++ List.replicate (56 - n) 0]).take 8 = (bsum (((txt k).take 19).take n ++ List.replicate (56 - n) 0)).map UInt8.toNat := by
      unfold bsum
      rw [List.map_take, ← h1, ← head_nat hk]
      congr 2
      simp only [List.map_cons, List.map_nil, List.map_append, List.map_take, List.map_replicate]
      rfl
    rw [hs] at h2
    exact torn_sums ⟨k, hk⟩ ⟨n, h19⟩ h2
  · have e1 : (torn (txt k) n).take 56 = (txt k).take 56 := by
      have hz : ∀ i, 19 ≤ i → i < 56 → (txt k)[i]? = some 0 := fun i h1 h2 => by
        unfold txt
        rw [T1_head _ _ _ (note_len k), List.getElem?_append_right (by simp only [List.length_append, Sha.numB_length, bname_len, note_len]; omega)]
        simp only [List.length_append, Sha.numB_length, bname_len, note_len]
        rw [List.getElem?_append_left (by rw [List.length_replicate]; omega), List.getElem?_replicate, if_pos (by omega)]
      apply List.ext_getElem?
      intro i
      unfold torn
      rw [List.getElem?_take, List.getElem?_take]
      by_cases h56 : i < 56
      · rw [if_pos h56, if_pos h56, List.getElem?_append, List.length_take, hl]
        split
        · rw [List.getElem?_take, if_pos (by omega)]
        · rw [hz i (by omega) h56, List.getElem?_replicate, if_pos (by omega)]
      · rw [if_neg h56, if_neg h56]
    rw [e1, show bsum ((txt k).take 56) = (txt k).drop 56 from T1_sum _ (tnO_lt k) (nrO_lt hk)] at hs
    apply hne
    rw [← hd, e1, ← hs, List.take_append_drop]

end Go.Proofs.YtnkfapecbmmpeaaDoor

namespace Go.Proofs.YtnkfapecbmmpeaaDoor
open Go Go.Fw
set_option maxRecDepth 100000
set_option maxHeartbeats 1000000

/-! ## the disk -/
structure DV (d : Dk) (v : Nat) : Prop where
  ok : d.ok
  wait : d.wait = []
  len : d.last.length = 10
  done : ∀ i, i < v → i < 8 → d.last.getD (1 + i) [] = txt i
  rest : ∀ i, v ≤ i → i < 8 → ∃ n, d.last.getD (1 + i) [] = torn (txt i) n ∧ torn (txt i) n ≠ txt i
def noteL (a n : Nat) : List (List UInt8) := (List.range n).map fun i => note (a + i)
/-- the half that a book has on such a disk -/
def XV (v : Nat) : Hlf := if v = 0 then ⟨1, 0, [], 0⟩ else if v ≤ 4 then ⟨1, 1, noteL 0 v, v⟩ else ⟨5, 2, noteL 4 (v - 4), v - 4⟩
theorem zS_txt {k : Nat} (h : k < 8) : zS ≠ txt k := fun e => by
  have h1 := head_nat h
  rw [← e] at h1
  match k, h with
  | 0, _ => exact absurd h1 (by decide)
  | 1, _ => exact absurd h1 (by decide)
  | 2, _ => exact absurd h1 (by decide)
  | 3, _ => exact absurd h1 (by decide)
  | 4, _ => exact absurd h1 (by decide)
  | 5, _ => exact absurd h1 (by decide)
  | 6, _ => exact absurd h1 (by decide)
  | 7, _ => exact absurd h1 (by decide)
theorem DV.new : DV (Dk.new 10) 0 := ⟨Dk.new_ok (by decide) (by decide), rfl, rfl, fun i h => absurd h (Nat.not_lt_zero i), fun i _ h => ⟨0, by rw [torn_zero]; exact new_last 10 _ (by omega), by rw [torn_zero]; exact zS_txt h⟩⟩
theorem DV.fuse {d : Dk} {v : Nat} (h : DV d v) (n : Int) (hn : -9223372036854775808 ≤ n ∧ n ≤ 9223372036854775807) (K : List UInt8) : DV (d.setFuse n K) v := ⟨h.ok.setFuse n hn K, h.wait, h.len, h.done, h.rest⟩
theorem DV.cutStart {d : Dk} {v : Nat} (h : DV d v) (K : List UInt8) : DV (d.cut K).start v := by
  have e : cutL d.last d.wait K d.wait.length = d.last := by rw [h.wait]; rfl
  refine ⟨(h.ok.cut K).start, rfl, ?_, ?_, ?_⟩
  · show (cutL d.last d.wait K d.wait.length).length = 10; rw [e]; exact h.len
  · show ∀ i, i < v → i < 8 → (cutL d.last d.wait K d.wait.length).getD (1 + i) [] = txt i; rw [e]; exact h.done
  · show ∀ i, v ≤ i → i < 8 → ∃ n, (cutL d.last d.wait K d.wait.length).getD (1 + i) [] = torn (txt i) n ∧ _; rw [e]; exact h.rest
/-- the sector after the text, or a part of it, is written there -/
theorem DV.set {d d' : Dk} {v : Nat} (h : DV d v) (hv : v < 8) (hok : d'.ok) (hw : d'.wait = []) (n : Nat) (hl : d'.last = d.last.set (1 + v) (tear (d.last.getD (1 + v) []) (txt v) n)) : (64 ≤ n → DV d' (v + 1)) ∧ (DV d' v ∨ DV d' (v + 1)) := by
  obtain ⟨m, hm, hne⟩ := h.rest v (Nat.le_refl _) hv
  rw [hm, tear_torn (txt_len hv)] at hl
  have hlen : d'.last.length = 10 := by rw [hl, List.length_set]; exact h.len
  have hg : ∀ i, i < 8 → d'.last.getD (1 + i) [] = if i = v then torn (txt v) (max m n) else d.last.getD (1 + i) [] := fun i hi => by
    rw [hl, List.getD_eq_getElem?_getD, List.getElem?_set]
    by_cases e : i = v
    · subst e
      rw [if_pos rfl, if_pos rfl, if_pos (by rw [h.len]; omega)]; rfl
    · rw [if_neg (by omega), if_neg e, List.getD_eq_getElem?_getD]
  have hfull : torn (txt v) (max m n) = txt v → DV d' (v + 1) := fun e => ⟨hok, hw, hlen, fun i h1 h2 => by
    rw [hg i h2]
    split
    · rename_i e2; rw [e2]; exact e
    · exact h.done i (by omega) h2, fun i h1 h2 => by
    rw [hg i h2, if_neg (by omega)]; exact h.rest i (by omega) h2⟩
  refine ⟨fun h64 => hfull (torn_all (txt_len hv) (by omega)), ?_⟩
  by_cases e : torn (txt v) (max m n) = txt v
  · exact Or.inr (hfull e)
  · refine Or.inl ⟨hok, hw, hlen, fun i h1 h2 => by rw [hg i h2, if_neg (by omega)]; exact h.done i h1 h2, fun i h1 h2 => ?_⟩
    rw [hg i h2]
    by_cases e2 : i = v
    · rw [if_pos e2]; subst e2; exact ⟨_, rfl, e⟩
    · rw [if_neg e2]; exact h.rest i h1 h2
/-! ## one text written and synced -/
theorem wend_one {d : Dk} {p : Nat} {t : Nat → List UInt8} {T : List UInt8} (hT : t 0 = T) (h64 : T.length = 64) (ho : d.off = false) (hw : d.wait = []) (hp : p < d.last.length) (hok : d.ok) :
    ((wend d p t 1).2 = 0 ∧ (wend d p t 1).1.off = false ∧ (wend d p t 1).1.last = d.last.set p (tear (d.last.getD p []) T 64)) ∨ ((wend d p t 1).2 = 8 ∧ (wend d p t 1).1.off = true ∧ ((wend d p t 1).1.last = d.last ∨ ∃ n, (wend d p t 1).1.last = d.last.set p (tear (d.last.getD p []) T n))) := by
  have h0 : d.ready ((p + 0 : Nat) : Int) = 0 := calm_ready ho (i := p + 0) (by omega)
  have hfull : full T = T := by unfold full; rw [h64]; exact List.append_nil _
  have e1 : wrun d p t 1 = (d.write ((p + 0 : Nat) : Int) T, d.wErr ((p + 0 : Nat) : Int) T) := by rw [← hT]; exact wrun_succ rfl
  by_cases hb : d.burns
  · have hwe : d.wErr ((p + 0 : Nat) : Int) T = 8 := by unfold Dk.wErr; rw [if_neg (by rw [h0]; decide), if_neg (by omega), if_pos hb]
    have hwr : d.write ((p + 0 : Nat) : Int) T = d.burn := by unfold Dk.write; rw [if_neg (by rw [h0]; decide), if_neg (by omega), if_pos hb]
    have e : wend d p t 1 = (d.burn, 8) := by unfold wend; rw [e1, hwe, hwr]; rfl
    have hbn : d.burn = { d with fuse := d.fuse - 1 }.cut d.keep := by unfold Dk.burn; rw [if_pos hb.1, if_pos hb.2]
    refine Or.inr ⟨by rw [e], by rw [e, hbn]; rfl, Or.inl ?_⟩
    rw [e, hbn]
    show cutL d.last d.wait d.keep d.wait.length = d.last
    rw [hw]; rfl
  · have hwr := write_in h0 (s := T) (by omega) hb
    have hbl := burn_last hb
    rw [hwr.1, hwr.2, hfull] at e1
    obtain ⟨D, hD⟩ : ∃ D, D = ({ d.burn with wait := d.burn.wait ++ [(((p + 0 : Nat) : Int).toNat, T)] } : Dk) := ⟨_, rfl⟩
    rw [← hD] at e1
    have hDl : D.last = d.last := by rw [hD]; exact hbl.1
    have hDw : D.wait = [(p, T)] := by rw [hD]; show d.burn.wait ++ [(((p + 0 : Nat) : Int).toNat, T)] = _; rw [hbl.2.1, hw]; rfl
    have hDo : D.off = false := by rw [hD]; show d.burn.off = false; rw [hbl.2.2]; exact ho
    have e : wend d p t 1 = (D.sync, D.sErr) := by unfold wend; rw [e1]; rfl
    have h3 : D.ready 0 = 0 := calm_ready hDo (i := 0) (by rw [hDl]; omega)
    by_cases hb2 : D.burns
    · have hse : D.sErr = 8 := by unfold Dk.sErr; rw [if_neg (by rw [h3]; decide), if_pos hb2]
      have hsy : D.sync = D.burn := by unfold Dk.sync; rw [if_neg (by rw [h3]; decide), if_pos hb2]
      have hbn : D.burn = { D with fuse := D.fuse - 1 }.cut D.keep := by unfold Dk.burn; rw [if_pos hb2.1, if_pos hb2.2]
      refine Or.inr ⟨by rw [e]; exact hse, by rw [e]; show D.sync.off = _; rw [hsy, hbn]; rfl, ?_⟩
      rw [e]
      show D.sync.last = _ ∨ ∃ n, D.sync.last = _
      rw [hsy, hbn]
      show cutL D.last D.wait D.keep D.wait.length = _ ∨ ∃ n, cutL D.last D.wait D.keep D.wait.length = _
      rw [hDw, hDl]
      show cutL d.last [(p, T)] D.keep 1 = _ ∨ ∃ n, cutL d.last [(p, T)] D.keep 1 = _
      unfold cutL
      simp only [cutL]
      split
      · exact Or.inr ⟨_, rfl⟩
      · exact Or.inl rfl
    · have hse : D.sErr = 0 := by unfold Dk.sErr; rw [if_neg (by rw [h3]; decide), if_neg hb2]
      have hsy : D.sync = { D.burn with last := syncL D.burn.last D.burn.wait D.burn.wait.length, wait := [] } := by unfold Dk.sync; rw [if_neg (by rw [h3]; decide), if_neg hb2]
      have hbl2 := burn_last hb2
      refine Or.inl ⟨by rw [e]; exact hse, by rw [e]; show D.sync.off = _; rw [hsy]; exact hbl2.2.2.trans hDo, ?_⟩
      rw [e]
      show D.sync.last = _
      rw [hsy]
      show syncL D.burn.last D.burn.wait D.burn.wait.length = _
      rw [hbl2.1, hbl2.2.1, hDw, hDl]; rfl
/-- the record of index v written: it lasts, or the power fails -/
theorem DV.put {d : Dk} {v p : Nat} {t : Nat → List UInt8} (h : DV d v) (hv : v < 8) (ho : d.off = false) (hp : p = 1 + v) (hT : t 0 = txt v) (hok : (wend d p t 1).1.ok) (hw : (wend d p t 1).1.wait = []) :
    ((wend d p t 1).2 = 0 → (wend d p t 1).1.off = false ∧ DV (wend d p t 1).1 (v + 1)) ∧ ((wend d p t 1).2 ≠ 0 → (wend d p t 1).2 = 8 ∧ (wend d p t 1).1.off = true ∧ (DV (wend d p t 1).1 v ∨ DV (wend d p t 1).1 (v + 1))) := by
  subst hp
  rcases wend_one (d := d) (p := 1 + v) (t := t) hT (txt_len hv) ho h.wait (by rw [h.len]; omega) h.ok with ⟨h1, h2, h3⟩ | ⟨h1, h2, h3⟩
  · exact ⟨fun _ => ⟨h2, (h.set hv hok hw 64 h3).1 (Nat.le_refl _)⟩, fun e => absurd h1 e⟩
  · refine ⟨fun e => by rw [e] at h1; exact absurd h1 (by decide), fun _ => ⟨h1, h2, ?_⟩⟩
    rcases h3 with h3 | ⟨n, h3⟩
    · refine Or.inl ⟨hok, hw, by rw [h3]; exact h.len, by rw [h3]; exact h.done, by rw [h3]; exact h.rest⟩
    · exact (h.set hv hok hw n h3).2

end Go.Proofs.YtnkfapecbmmpeaaDoor

namespace Go.Proofs.YtnkfapecbmmpeaaDoor
open Go Go.Fw
set_option maxRecDepth 100000
set_option maxHeartbeats 1000000

theorem noteL_len (a n : Nat) : (noteL a n).length = n := by unfold noteL; rw [List.length_map, List.length_range]
theorem noteL_succ (a n : Nat) : noteL a (n + 1) = noteL a n ++ [note (a + n)] := by unfold noteL; rw [List.range_succ, List.map_append]; rfl
theorem nil_no : NoPart [] := Or.inl (by
  unfold parse
  rw [if_neg]
  intro h
  have := congrArg List.length h
  rw [bsum_len] at this
  exact absurd this (by decide))
theorem half_of {tn : UInt64} (h0 : tn.toNat ≠ 0) (h1 : tn.toNat < 2 ^ (8 * 4)) (b : Nat) (l : List (List UInt8)) (hl : l.length = 4) (k : Nat) (hk : k ≤ 4) (hT : ∀ i, i < k → l.getD i [] = T1 tn i (note (b + i))) (hJ : NoPart (l.getD k [])) :
    rdl 0 [] 0 l = (if k = 0 then 0 else tn, noteL b k, k) := by
  have e : l = Txs tn 0 (noteL b k) ++ l.drop k := by
    match l, hl with
    | [w, x, y, z], _ =>
      match k, hk with
      | 0, _ => rfl
      | 1, _ =>
        show [w, x, y, z] = [T1 tn 0 (note (b + 0)), x, y, z]
        rw [← hT 0 (by decide)]; rfl
      | 2, _ =>
        show [w, x, y, z] = [T1 tn 0 (note (b + 0)), T1 tn 1 (note (b + 1)), y, z]
        rw [← hT 0 (by decide), ← hT 1 (by decide)]; rfl
      | 3, _ =>
        show [w, x, y, z] = [T1 tn 0 (note (b + 0)), T1 tn 1 (note (b + 1)), T1 tn 2 (note (b + 2)), z]
        rw [← hT 0 (by decide), ← hT 1 (by decide), ← hT 2 (by decide)]; rfl
      | 4, _ =>
        show [w, x, y, z] = [T1 tn 0 (note (b + 0)), T1 tn 1 (note (b + 1)), T1 tn 2 (note (b + 2)), T1 tn 3 (note (b + 3))]
        rw [← hT 0 (by decide), ← hT 1 (by decide), ← hT 2 (by decide), ← hT 3 (by decide)]; rfl
  have hd : (l.drop k).getD 0 [] = l.getD k [] := by
    rw [List.getD_eq_getElem?_getD, List.getElem?_drop, Nat.add_zero, ← List.getD_eq_getElem?_getD]
  have h := rdl_txs h0 h1 (noteL b k) 0 [] 0 (l.drop k) (fun s hs => by
    obtain ⟨i, _, rfl⟩ := List.mem_map.1 hs
    exact note39 _) (by rw [noteL_len]; show 0 + k ≤ _; omega) (fun h => absurd h (by decide)) (fun t' => recR_none (by rw [hd]; exact hJ))
  have h2 : rdl 0 [] 0 l = rdl 0 [] 0 (Txs tn 0 (noteL b k) ++ l.drop k) := congrArg (rdl 0 [] 0) e
  refine h2.trans (h.trans ?_)
  rw [noteL_len, List.nil_append, Nat.zero_add]
  by_cases hk0 : k = 0
  · subst hk0; rfl
  · rw [if_neg hk0, if_neg (fun h => hk0 (by have := congrArg List.length h; rwa [noteL_len] at this))]
theorem DV.now {d : Dk} {v : Nat} (h : DV d v) (i : Nat) : d.now i = d.last.getD i [] := now_calm h.wait i
theorem DV.no {d : Dk} {v i : Nat} (h : DV d v) (hi : v ≤ i) (h8 : i < 8) : NoPart (d.now (1 + i)) := by
  obtain ⟨n, h1, h2⟩ := h.rest i hi h8
  rw [h.now, h1]; exact torn_no h8 h2
theorem DV.half1 {d : Dk} {v : Nat} (h : DV d v) : hlf d 1 4 = ⟨1, if min v 4 = 0 then 0 else 1, noteL 0 (min v 4), min v 4⟩ := by
  refine hlf_eq (half_of (tn := 1) (by decide) (by decide) 0 _ (secs_len d 1 4) (min v 4) (by omega) (fun i hi => ?_) ?_)
  · rw [secs_get (by omega), h.now, h.done i (by omega) (by omega), Nat.zero_add]
    unfold txt tnO nrO
    rw [if_pos (by omega), if_pos (by omega)]
  · by_cases h4 : v < 4
    · rw [show min v 4 = v by omega, secs_get h4]; exact h.no (Nat.le_refl _) (by omega)
    · rw [show min v 4 = 4 by omega]; exact nil_no
theorem DV.half2 {d : Dk} {v : Nat} (h : DV d v) (h8 : v ≤ 8) : hlf d 5 4 = ⟨5, if v - 4 = 0 then 0 else 2, noteL 4 (v - 4), v - 4⟩ := by
  refine hlf_eq (half_of (tn := 2) (by decide) (by decide) 4 _ (secs_len d 5 4) (v - 4) (by omega) (fun i hi => ?_) ?_)
  · rw [secs_get (by omega), h.now, show 5 + i = 1 + (4 + i) by omega, h.done (4 + i) (by omega) (by omega)]
    unfold txt tnO nrO
    rw [if_neg (by omega), if_neg (by omega), show 4 + i - 4 = i by omega]
  · by_cases h4 : v < 8
    · rw [secs_get (by omega), show 5 + (v - 4) = 1 + (4 + (v - 4)) by omega]; exact h.no (by omega) (by omega)
    · rw [show v - 4 = 4 by omega]; exact nil_no
theorem DV.half {d : Dk} {v : Nat} (h : DV d v) (h8 : v ≤ 8) : hst d 1 (8 / 2) 2 = XV v := by
  have h1 := h.half1
  have h2 := h.half2 h8
  show (if 0 < (hlf d 5 4).R.length ∧ ((hlf d 1 4).R.length = 0 ∨ (hlf d 1 4).t.toNat < (hlf d 5 4).t.toNat) then hlf d 5 4 else hlf d 1 4) = _
  rw [h1, h2]
  dsimp only
  rw [noteL_len, noteL_len]
  unfold XV
  by_cases hv0 : v = 0
  · subst hv0; rfl
  · by_cases hv4 : v ≤ 4
    · rw [if_neg hv0, if_pos hv4, if_neg (by omega), show min v 4 = v by omega, if_neg hv0]
    · rw [if_neg hv0, if_neg hv4, show min v 4 = 4 by omega, show (if v - 4 = 0 then (0 : UInt64) else 2) = 2 from if_neg (by omega)]
      exact if_pos ⟨by omega, Or.inr (by decide)⟩
/-- what stands in a book behind its next note -/
theorem XV_len {v : Nat} : (XV v).R.length = if v = 0 then 0 else if v ≤ 4 then v else v - 4 := by
  unfold XV; split
  · rfl
  · split <;> exact noteL_len _ _
theorem XV_e {v : Nat} : (XV v).e = (XV v).R.length := by
  rw [XV_len]; unfold XV; split
  · rfl
  · split <;> rfl
theorem XV_at {v : Nat} : (XV v).at_ = if v ≤ 4 then 1 else 5 := by
  unfold XV
  by_cases h0 : v = 0
  · subst h0; rfl
  · rw [if_neg h0]; split <;> rfl
theorem XV_t {v : Nat} : (XV v).t.toNat < 2 ^ (8 * 4) := by
  unfold XV; split
  · decide
  · split
    · show (1 : UInt64).toNat < _; decide
    · show (2 : UInt64).toNat < _; decide
theorem XV_put {v : Nat} (h8 : v < 8) (h4 : v ≠ 4) : putX (XV v) (note v) = XV (v + 1) ∧ (XV v).at_ + (XV v).e = 1 + v ∧ (prt (maxT (XV v).t) (UInt64.ofNat (XV v).R.length) (note v) 1 0).text = txt v := by
  unfold txt T1 tnO nrO putX
  rw [partsN_one (note39 v)]
  by_cases hv0 : v = 0
  · subst hv0; exact ⟨rfl, rfl, rfl⟩
  · by_cases hv4 : v < 4
    · have e : XV v = ⟨1, 1, noteL 0 v, v⟩ := by unfold XV; rw [if_neg hv0, if_pos (by omega)]
      have e2 : XV (v + 1) = ⟨1, 1, noteL 0 (v + 1), v + 1⟩ := by unfold XV; rw [if_neg (by omega), if_pos (by omega)]
      rw [e, e2, if_pos hv4, if_pos hv4, noteL_len, noteL_succ, Nat.zero_add]
      exact ⟨rfl, rfl, rfl⟩
    · have e : XV v = ⟨5, 2, noteL 4 (v - 4), v - 4⟩ := by unfold XV; rw [if_neg hv0, if_neg (by omega)]
      have e2 : XV (v + 1) = ⟨5, 2, noteL 4 (v - 4 + 1), v - 4 + 1⟩ := by unfold XV; rw [if_neg (by omega), if_neg (by omega), show v + 1 - 4 = v - 4 + 1 by omega]
      rw [e, e2, if_neg hv4, if_neg hv4, noteL_len, noteL_succ, show 4 + (v - 4) = v by omega]
      exact ⟨rfl, by show 5 + (v - 4) = _; omega, rfl⟩
theorem XV_last {v : Nat} (h0 : 0 < v) (h8 : v ≤ 8) : 0 < (XV v).R.length ∧ (XV v).R.getD ((XV v).R.length - 1) [] = note (v - 1) := by
  by_cases hv4 : v ≤ 4
  · have e : XV v = ⟨1, 1, noteL 0 v, v⟩ := by unfold XV; rw [if_neg (by omega), if_pos (by omega)]
    rw [e]; dsimp only
    rw [noteL_len]
    refine ⟨h0, ?_⟩
    unfold noteL
    rw [List.getD_eq_getElem?_getD, List.getElem?_map, List.getElem?_range (by omega), Option.map_some, Nat.zero_add]; rfl
  · have e : XV v = ⟨5, 2, noteL 4 (v - 4), v - 4⟩ := by unfold XV; rw [if_neg (by omega), if_neg (by omega)]
    rw [e]; dsimp only
    rw [noteL_len]
    refine ⟨by omega, ?_⟩
    unfold noteL
    rw [List.getD_eq_getElem?_getD, List.getElem?_map, List.getElem?_range (by omega), Option.map_some, show 4 + (v - 4 - 1) = v - 1 by omega]; rfl
theorem note_nat {v : Nat} (h0 : 0 < v) (h : v < 65536) : natB (note (v - 1)) = v := by
  unfold note
  rw [show v - 1 + 1 = v by omega, natB_n v 2 (by decide) (by omega)]

end Go.Proofs.YtnkfapecbmmpeaaDoor

namespace Go.Proofs.YtnkfapecbmmpeaaDoor
open Go Go.Fw
set_option maxRecDepth 100000
set_option maxHeartbeats 1000000
theorem ent32 : Enters Tryd.prog 32 := Enters.of Tryd.func32 rfl (by kernel_rfl)
theorem ent35 : Enters Tryd.prog 35 := Enters.of Tryd.func35 rfl (by kernel_rfl)
theorem ent36 : Enters Tryd.prog 36 := Enters.of Tryd.func36 rfl (by kernel_rfl)
theorem ent38 : Enters Tryd.prog 38 := Enters.of Tryd.func38 rfl (by kernel_rfl)
theorem ent40 : Enters Tryd.prog 40 := Enters.of Tryd.func40 rfl (by kernel_rfl)
attribute [local irreducible] Sha.tagged Wo.pub Wo.publicOf Wo.signs Wo.ends Wo.digs Wo.walk Wo.opn Mk.root Mk.path Mk.climb Xm.root sgC sgP note prt

theorem speaks11_ct (F : Hp) (hK : Cells F ⟨1, 0, none⟩ (Sha.K.map W32)) : Ct Tryd.prog 31 [] [F] (fun _ : Unit => .bool true) (fun _ => True) (fun _ => [F]) := by
  have hok0 : (Dk.new 8).ok := Dk.new_ok (by decide) (by decide)
  have hz0 : (Dk.new 8).wait = [] ∧ (Dk.new 8).keep = [] := ⟨rfl, rfl⟩
  have hX0 := hst_new (n := 8) (first := 0) (size := 8 / 2) (by decide) (by decide)
  have c1 := calm_one hok0 rfl rfl rfl (X := (sX0 0)) (s := note 0) (by rw [note_len]; decide) (by decide) (by decide) (by decide)
  obtain ⟨D1, hD1⟩ : ∃ D1, D1 = (wendH (Dk.new 8) (sX0 0) (note 0)).1 := ⟨_, rfl⟩
  have c1b := c1.2
  rw [← hD1] at c1b
  obtain ⟨ok1, o1, a1, w1, l1, k1⟩ := c1b
  have hz1 : D1.wait = [] ∧ D1.keep = [] := ⟨w1, k1⟩
  have c2 := calm_one ok1 o1 a1 w1 (X := (putX (sX0 0) (note 0))) (s := note (0 + 1)) (by rw [note_len]; decide) (by decide) (by decide) (by rw [l1, putX_e (note39 _)]; decide)
  refine Ct.walk Tryd.func31 rfl Tryd.ntmps31 rfl (fun w0 hw0 => ?_)
  change J _ [] _ _ _
  refine J.seq (fun K1 hK1 => ?_)
  refine J.region ?_
  refine J.y (op_assign rfl rfl) rfl rfl rfl ?_
  refine J.nil ?_
  refine J.then_n (J.k hK1 ?_)
  refine J.keepE [] trivial ?_
  refine J.seq (fun K2 hK2 => ?_)
  refine J.region ?_
  refine J.e (op_call rfl rfl ent32 (Ct.use (new := fun x : Nat × Hp => [x.2]) (fun F' _ => new_ok_ct F' 8 (by decide) (by decide)))) rfl rfl rfl ?_
  rintro ⟨g12, m12⟩ hb12
  try dsimp only at hb12
  change J _ ((12, .tuple #[Ptr g12, I 0]) :: _) _ [F, m12] _
  obtain ⟨A, c, B, e, hc, hsL, hsW⟩ := hb12.see
  refine J.y (op_move rfl rfl) rfl rfl rfl ?_
  refine J.y (op_extract (v := Ptr g12) rfl rfl rfl) rfl rfl rfl ?_
  refine J.y (op_extract (v := I ((0 : Nat) : Int)) rfl rfl rfl) rfl rfl rfl ?_
  refine J.y (op_assign rfl rfl) rfl rfl rfl ?_
  refine J.y (op_assign rfl rfl) rfl rfl rfl ?_
  refine J.nil ?_
  refine J.then_n (J.k hK2 ?_)
  refine J.keepE [(1, _), (2, _)] ⟨rfl, rfl, trivial⟩ ?_
  refine J.seq (fun K3 hK3 => ?_)
  refine J.region ?_
  refine J.y (op_move rfl rfl) rfl rfl rfl ?_
  refine J.e (op_call rfl rfl ent35 (Ct.use (new := fun x : (Nat × Hp) × (Nat × Option Addr × Nat × Hp) × Nat => [x.1.2, blk x.2.1.1 (bkC g12 0 (8 / 2) (sX0 0) x.2.1.2.1 x.2.1.2.2.1 false) 130, x.2.1.2.2.2, blk x.2.2 [Ptr x.1.1, Ptr x.2.1.1, I ((0 : Nat) : Int)] 139]) (fun F' hF => sopen_e F' (hK.mono (hF F (by simp))) g12 (Dk.new 8) hok0 A c B e none 0 (hc.mono (hF m12 (by simp))) (hsL.mono (hF m12 (by simp))) (hsW.mono (hF m12 (by simp))) (by decide) 0 8 (by decide) (by decide) rfl [115, 101, 101, 100] (by decide) 1 (by decide) (sX0 0) hX0 (by decide) rfl))) rfl rfl rfl ?_
  rintro ⟨⟨gk, mk⟩, ⟨gb, Ab, cb, mb⟩, gs⟩ ⟨hk, hb⟩
  change J _ ((17, .tuple #[Ptr gs, I ((0 : Nat) : Int)]) :: _) _ [F, m12, mk, blk gb (bkC g12 0 (8 / 2) (sX0 0) Ab cb false) 130, mb, blk gs [Ptr gk, Ptr gb, I ((0 : Nat) : Int)] 139] _
  refine J.y (op_move rfl rfl) rfl rfl rfl ?_
  refine J.y (op_extract (v := Ptr gs) rfl rfl rfl) rfl rfl rfl ?_
  refine J.y (op_extract (v := I ((0 : Nat) : Int)) rfl rfl rfl) rfl rfl rfl ?_
  refine J.y (op_assign rfl rfl) rfl rfl rfl ?_
  refine J.y (op_assign rfl rfl) rfl rfl rfl ?_
  refine J.nil ?_
  refine J.then_n (J.k hK3 ?_)
  refine J.keepE [(2, _), (3, _), (4, _)] ⟨rfl, rfl, rfl, trivial⟩ ?_
  refine J.seq (fun K4 hK4 => ?_)
  refine J.seq (fun K5 hK5 => ?_)
  refine J.region ?_
  refine J.y (op_move rfl rfl) rfl rfl rfl ?_
  refine J.y ((op_neq rfl rfl rfl).as (v' := .bool false) (congrArg Value.bool (decide_eq_false (by decide)))) rfl rfl rfl ?_
  refine J.y (op_move rfl rfl) rfl rfl rfl ?_
  refine J.yg (Wan.is rfl rfl rfl rfl rfl) (op_move rfl rfl) rfl rfl ?_
  refine J.yg (Wan.is rfl rfl rfl rfl rfl) ((op_neq rfl rfl rfl).as (v' := .bool false) (congrArg Value.bool (decide_eq_false (by decide)))) rfl rfl ?_
  refine J.y (op_pickF rfl rfl rfl) rfl rfl rfl ?_
  refine J.nil ?_
  refine J.then_n (J.k hK5 ?_)
  refine J.keepE [(3, _), (25, _)] ⟨rfl, rfl, trivial⟩ ?_
  refine J.condF rfl rfl ?_
  refine J.skip ?_
  refine J.then_n (J.k hK4 ?_)
  refine J.keepE [(3, _)] ⟨rfl, trivial⟩ ?_
  refine J.seq (fun K6 hK6 => ?_)
  refine J.perm [5, 3, 1, 0, 2, 4] [blk gs [Ptr gk, Ptr gb, I ((0 : Nat) : Int)] 139, blk gb (bkC g12 0 (8 / 2) (sX0 0) Ab cb false) 130, m12, F, mk, mb] rfl (by decide) ?_
  refine J.region ?_
  refine J.y (op_move rfl rfl) rfl rfl rfl ?_
  refine J.e (op_call rfl rfl ent36 (Ct.useA [blk gs [Ptr gk, Ptr gb, I ((0 : Nat) : Int)] 139, blk gb (bkC g12 0 (8 / 2) (sX0 0) Ab cb false) 130, m12] [F, mk, mb] (A' := fun x : (Hp × Option Addr × Nat × Hp) × ((Option Addr × Nat × Hp) × (Option Addr × Nat × Hp)) => [blk gs [Ptr gk, Ptr gb, I ((0 + 1 : Nat) : Int)] 139, blk gb (bkC g12 0 (8 / 2) (putX (sX0 0) (note 0)) x.1.2.1 x.1.2.2.1 false) 130, x.1.1]) (new := fun x => [x.1.2.2.2, x.2.1.2.2, x.2.2.2.2]) (fun F' hF => ssign_ok F' (blk gb (bkC g12 0 (8 / 2) (sX0 0) Ab cb false) 130) m12 gs gk gb 0 (hK.mono (hF F (by simp))) [115, 101, 101, 100] 1 (hk.mono (hF mk (by simp))) (by decide) (by decide) (by decide) [120] (by first | decide | omega) (fun x : Hp × Option Addr × Nat × Hp => Dsk x.1 g12 (wendH (Dk.new 8) (sX0 0) (note 0)).1 none 0 ∧ Row x.2.2.2 9 1 x.2.1 (putX (sX0 0) (note 0)).R.length x.2.2.1 (strsV (putX (sX0 0) (note 0)).R)) (fun x => blk gb (bkC g12 0 (8 / 2) (putX (sX0 0) (note 0)) x.2.1 x.2.2.1 false) 130) (fun x => x.1) (fun x => x.2.2.2) (fun F2 h2 => putH_good F2 m12 (hK.mono ((hF F (by simp)).trans h2)) gb g12 0 (8 / 2) (sX0 0) Ab cb (hb.sl.mono ((hF mb (by simp)).trans h2)) (Dk.new 8) none 0 hb12 hok0 (by rw [hz0.1]; exact Nat.zero_le _) (by rw [hz0.2]; exact Sl.nil) (by rw [hz0.2]; exact Nat.zero_le _) (note 0) (by rw [note_len]; decide) (by decide) (by decide) (by decide) (by rw [partsN_one (note39 _)]; decide) c1.1)))) rfl rfl rfl ?_
  rintro ⟨⟨m28, A28, c28, r28⟩, ⟨⟨P28, p28, u28⟩, ⟨Q28, q28, v28⟩⟩⟩ ⟨⟨hd28, hr28⟩, hp28, hq28⟩
  change J _ ((28, .tuple #[.agg #[I ((0 : Nat) : Int), .slice P28 (sgC [115, 101, 101, 100] 0 [120]).length p28, .slice Q28 (sgP [115, 101, 101, 100] 1 0).length q28], I ((0 : Nat) : Int)]) :: _) _ [blk gs [Ptr gk, Ptr gb, I ((0 + 1 : Nat) : Int)] 139, blk gb (bkC g12 0 (8 / 2) (putX (sX0 0) (note 0)) A28 c28 false) 130, m28, F, mk, mb, r28, u28, v28] _
  rw [← hD1] at hd28
  refine J.y (op_move rfl rfl) rfl rfl rfl ?_
  refine J.y (op_extract (v := .agg #[I ((0 : Nat) : Int), .slice P28 ((sgC [115, 101, 101, 100] 0 [120]).length) p28, .slice Q28 ((sgP [115, 101, 101, 100] 1 0).length) q28]) rfl rfl rfl) rfl rfl rfl ?_
  refine J.y (op_extract (v := I ((0 : Nat) : Int)) rfl rfl rfl) rfl rfl rfl ?_
  refine J.e (op_alloc (l := [I 0, .slice none 0 0, .slice none 0 0]) rfl Tryd.zeroValue75 rfl) rfl rfl rfl ?_
  intro g5 _
  change J _ _ _ [blk gs [Ptr gk, Ptr gb, I ((0 + 1 : Nat) : Int)] 139, blk gb (bkC g12 0 (8 / 2) (putX (sX0 0) (note 0)) A28 c28 false) 130, m28, F, mk, mb, r28, u28, v28, blk g5 [I 0, .slice none 0 0, .slice none 0 0] 75] _
  refine J.s (op_storeAll (i := 9) (l := [I 0, .slice none 0 0, .slice none 0 0]) (vs := [I ((0 : Nat) : Int), .slice P28 ((sgC [115, 101, 101, 100] 0 [120]).length) p28, .slice Q28 ((sgP [115, 101, 101, 100] 1 0).length) q28]) rfl rfl rfl rfl rfl Tryd.sizeOf75 rfl rfl) rfl rfl (fun _ _ => ?_)
  change J _ _ _ [blk gs [Ptr gk, Ptr gb, I ((0 + 1 : Nat) : Int)] 139, blk gb (bkC g12 0 (8 / 2) (putX (sX0 0) (note 0)) A28 c28 false) 130, m28, F, mk, mb, r28, u28, v28, blk g5 [I ((0 : Nat) : Int), .slice P28 ((sgC [115, 101, 101, 100] 0 [120]).length) p28, .slice Q28 ((sgP [115, 101, 101, 100] 1 0).length) q28] 75] _
  refine J.y (op_assign rfl rfl) rfl rfl rfl ?_
  refine J.nil ?_
  refine J.then_n (J.k hK6 ?_)
  refine J.keepE [(3, _), (5, _), (6, _)] ⟨rfl, rfl, rfl, trivial⟩ ?_
  refine J.seq (fun K7 hK7 => ?_)
  refine J.perm [0, 1, 2, 3, 4, 5, 6, 7, 8, 9] [blk gs [Ptr gk, Ptr gb, I ((0 + 1 : Nat) : Int)] 139, blk gb (bkC g12 0 (8 / 2) (putX (sX0 0) (note 0)) A28 c28 false) 130, m28, F, mk, mb, r28, u28, v28, blk g5 [I ((0 : Nat) : Int), .slice P28 ((sgC [115, 101, 101, 100] 0 [120]).length) p28, .slice Q28 ((sgP [115, 101, 101, 100] 1 0).length) q28] 75] rfl (by decide) ?_
  refine J.region ?_
  refine J.y (op_move rfl rfl) rfl rfl rfl ?_
  refine J.e (op_call rfl rfl ent36 (Ct.useA [blk gs [Ptr gk, Ptr gb, I (((0 + 1) : Nat) : Int)] 139, blk gb (bkC g12 0 (8 / 2) (putX (sX0 0) (note 0)) A28 c28 false) 130, m28] [F, mk, mb, r28, u28, v28, blk g5 [I ((0 : Nat) : Int), .slice P28 (sgC [115, 101, 101, 100] 0 [120]).length p28, .slice Q28 (sgP [115, 101, 101, 100] 1 0).length q28] 75] (A' := fun x : (Hp × Option Addr × Nat × Hp) × ((Option Addr × Nat × Hp) × (Option Addr × Nat × Hp)) => [blk gs [Ptr gk, Ptr gb, I (((0 + 1) + 1 : Nat) : Int)] 139, blk gb (bkC g12 0 (8 / 2) (putX (putX (sX0 0) (note 0)) (note (0 + 1))) x.1.2.1 x.1.2.2.1 false) 130, x.1.1]) (new := fun x => [x.1.2.2.2, x.2.1.2.2, x.2.2.2.2]) (fun F' hF => ssign_ok F' (blk gb (bkC g12 0 (8 / 2) (putX (sX0 0) (note 0)) A28 c28 false) 130) m28 gs gk gb (0 + 1) (hK.mono (hF F (by simp))) [115, 101, 101, 100] 1 (hk.mono (hF mk (by simp))) (by decide) (by decide) (by decide) [121] (by first | decide | omega) (fun x : Hp × Option Addr × Nat × Hp => Dsk x.1 g12 (wendH D1 (putX (sX0 0) (note 0)) (note (0 + 1))).1 none 0 ∧ Row x.2.2.2 9 1 x.2.1 (putX (putX (sX0 0) (note 0)) (note (0 + 1))).R.length x.2.2.1 (strsV (putX (putX (sX0 0) (note 0)) (note (0 + 1))).R)) (fun x => blk gb (bkC g12 0 (8 / 2) (putX (putX (sX0 0) (note 0)) (note (0 + 1))) x.2.1 x.2.2.1 false) 130) (fun x => x.1) (fun x => x.2.2.2) (fun F2 h2 => putH_good F2 m28 (hK.mono ((hF F (by simp)).trans h2)) gb g12 0 (8 / 2) (putX (sX0 0) (note 0)) A28 c28 (hr28.sl.mono ((hF r28 (by simp)).trans h2)) D1 none 0 hd28 ok1 (by rw [hz1.1]; exact Nat.zero_le _) (by rw [hz1.2]; exact Sl.nil) (by rw [hz1.2]; exact Nat.zero_le _) (note (0 + 1)) (by rw [note_len]; decide) (by decide) (by decide) (by decide) (by rw [partsN_one (note39 _), putX_e (note39 _)]; decide) c2.1)))) rfl rfl rfl ?_
  rintro ⟨⟨m33, A33, c33, r33⟩, ⟨⟨P33, p33, u33⟩, ⟨Q33, q33, v33⟩⟩⟩ ⟨⟨hd33, hr33⟩, hp33, hq33⟩
  change J _ ((33, .tuple #[.agg #[I (((0 + 1) : Nat) : Int), .slice P33 (sgC [115, 101, 101, 100] (0 + 1) [121]).length p33, .slice Q33 (sgP [115, 101, 101, 100] 1 (0 + 1)).length q33], I ((0 : Nat) : Int)]) :: _) _ [blk gs [Ptr gk, Ptr gb, I (((0 + 1) + 1 : Nat) : Int)] 139, blk gb (bkC g12 0 (8 / 2) (putX (putX (sX0 0) (note 0)) (note (0 + 1))) A33 c33 false) 130, m33, F, mk, mb, r28, u28, v28, blk g5 [I ((0 : Nat) : Int), .slice P28 (sgC [115, 101, 101, 100] 0 [120]).length p28, .slice Q28 (sgP [115, 101, 101, 100] 1 0).length q28] 75, r33, u33, v33] _
  refine J.y (op_move rfl rfl) rfl rfl rfl ?_
  refine J.y (op_extract (v := .agg #[I (((0 + 1) : Nat) : Int), .slice P33 ((sgC [115, 101, 101, 100] (0 + 1) [121]).length) p33, .slice Q33 ((sgP [115, 101, 101, 100] 1 (0 + 1)).length) q33]) rfl rfl rfl) rfl rfl rfl ?_
  refine J.y (op_extract (v := I ((0 : Nat) : Int)) rfl rfl rfl) rfl rfl rfl ?_
  refine J.e (op_alloc (l := [I 0, .slice none 0 0, .slice none 0 0]) rfl Tryd.zeroValue75 rfl) rfl rfl rfl ?_
  intro g7 _
  change J _ _ _ [blk gs [Ptr gk, Ptr gb, I (((0 + 1) + 1 : Nat) : Int)] 139, blk gb (bkC g12 0 (8 / 2) (putX (putX (sX0 0) (note 0)) (note (0 + 1))) A33 c33 false) 130, m33, F, mk, mb, r28, u28, v28, blk g5 [I ((0 : Nat) : Int), .slice P28 (sgC [115, 101, 101, 100] 0 [120]).length p28, .slice Q28 (sgP [115, 101, 101, 100] 1 0).length q28] 75, r33, u33, v33, blk g7 [I 0, .slice none 0 0, .slice none 0 0] 75] _
  refine J.s (op_storeAll (i := 13) (l := [I 0, .slice none 0 0, .slice none 0 0]) (vs := [I (((0 + 1) : Nat) : Int), .slice P33 ((sgC [115, 101, 101, 100] (0 + 1) [121]).length) p33, .slice Q33 ((sgP [115, 101, 101, 100] 1 (0 + 1)).length) q33]) rfl rfl rfl rfl rfl Tryd.sizeOf75 rfl rfl) rfl rfl (fun _ _ => ?_)
  change J _ _ _ [blk gs [Ptr gk, Ptr gb, I (((0 + 1) + 1 : Nat) : Int)] 139, blk gb (bkC g12 0 (8 / 2) (putX (putX (sX0 0) (note 0)) (note (0 + 1))) A33 c33 false) 130, m33, F, mk, mb, r28, u28, v28, blk g5 [I ((0 : Nat) : Int), .slice P28 (sgC [115, 101, 101, 100] 0 [120]).length p28, .slice Q28 (sgP [115, 101, 101, 100] 1 0).length q28] 75, r33, u33, v33, blk g7 [I (((0 + 1) : Nat) : Int), .slice P33 ((sgC [115, 101, 101, 100] (0 + 1) [121]).length) p33, .slice Q33 ((sgP [115, 101, 101, 100] 1 (0 + 1)).length) q33] 75] _
  refine J.y (op_assign rfl rfl) rfl rfl rfl ?_
  refine J.nil ?_
  refine J.then_n (J.k hK7 ?_)
  refine J.keepE [(3, _), (5, _), (6, _), (7, _), (8, _)] ⟨rfl, rfl, rfl, rfl, rfl, trivial⟩ ?_
  refine J.seq (fun K8 hK8 => ?_)
  refine J.region ?_
  refine J.y (op_move rfl rfl) rfl rfl rfl ?_
  refine J.e (op_call rfl rfl ent36 (Ct.use0 (fun F' hF => ssign_spent F' gs gk gb (0 + 1 + 1) (Cells.blk0.mono (hF (blk gs [Ptr gk, Ptr gb, I ((0 + 1 + 1 : Nat) : Int)] 139) (by simp))) [115, 101, 101, 100] 1 (hk.mono (hF mk (by simp))) (by decide) (by decide) (by decide) [122]))) rfl rfl rfl ?_
  intro g38 _
  refine J.y (op_move rfl rfl) rfl rfl rfl ?_
  refine J.y (op_extract (v := .agg #[I ((0 : Nat) : Int), .slice none 0 0, .slice none 0 0]) rfl rfl rfl) rfl rfl rfl ?_
  refine J.y (op_extract (v := I ((11 : Nat) : Int)) rfl rfl rfl) rfl rfl rfl ?_
  refine J.e (op_alloc (l := [I 0, .slice none 0 0, .slice none 0 0]) rfl Tryd.zeroValue75 rfl) rfl rfl rfl ?_
  intro g9 _
  change J _ _ _ [blk gs [Ptr gk, Ptr gb, I (((0 + 1) + 1 : Nat) : Int)] 139, blk gb (bkC g12 0 (8 / 2) (putX (putX (sX0 0) (note 0)) (note (0 + 1))) A33 c33 false) 130, m33, F, mk, mb, r28, u28, v28, blk g5 [I ((0 : Nat) : Int), .slice P28 (sgC [115, 101, 101, 100] 0 [120]).length p28, .slice Q28 (sgP [115, 101, 101, 100] 1 0).length q28] 75, r33, u33, v33, blk g7 [I (((0 + 1) : Nat) : Int), .slice P33 ((sgC [115, 101, 101, 100] (0 + 1) [121]).length) p33, .slice Q33 ((sgP [115, 101, 101, 100] 1 (0 + 1)).length) q33] 75, blk g9 [I 0, .slice none 0 0, .slice none 0 0] 75] _
  refine J.s (op_storeAll (i := 14) (l := [I 0, .slice none 0 0, .slice none 0 0]) (vs := [I ((0 : Nat) : Int), .slice none 0 0, .slice none 0 0]) rfl rfl rfl rfl rfl Tryd.sizeOf75 rfl rfl) rfl rfl (fun _ _ => ?_)
  change J _ _ _ [blk gs [Ptr gk, Ptr gb, I (((0 + 1) + 1 : Nat) : Int)] 139, blk gb (bkC g12 0 (8 / 2) (putX (putX (sX0 0) (note 0)) (note (0 + 1))) A33 c33 false) 130, m33, F, mk, mb, r28, u28, v28, blk g5 [I ((0 : Nat) : Int), .slice P28 (sgC [115, 101, 101, 100] 0 [120]).length p28, .slice Q28 (sgP [115, 101, 101, 100] 1 0).length q28] 75, r33, u33, v33, blk g7 [I (((0 + 1) : Nat) : Int), .slice P33 ((sgC [115, 101, 101, 100] (0 + 1) [121]).length) p33, .slice Q33 ((sgP [115, 101, 101, 100] 1 (0 + 1)).length) q33] 75, blk g9 [I ((0 : Nat) : Int), .slice none 0 0, .slice none 0 0] 75] _
  refine J.y (op_assign rfl rfl) rfl rfl rfl ?_
  refine J.nil ?_
  refine J.then_n (J.k hK8 ?_)
  refine J.keepE [(3, _), (5, _), (6, _), (7, _), (8, _), (10, _)] ⟨rfl, rfl, rfl, rfl, rfl, rfl, trivial⟩ ?_
  refine J.seq (fun K9 hK9 => ?_)
  refine J.draw [blk g5 [I ((0 : Nat) : Int), .slice P28 (sgC [115, 101, 101, 100] 0 [120]).length p28, .slice Q28 (sgP [115, 101, 101, 100] 1 0).length q28] 75, blk g7 [I (((0 + 1) : Nat) : Int), .slice P33 ((sgC [115, 101, 101, 100] (0 + 1) [121]).length) p33, .slice Q33 ((sgP [115, 101, 101, 100] 1 (0 + 1)).length) q33] 75] [] (.y 0 (.y 1 (.y 2 (.y 3 (.y 4 (.y 5 (.y 6 (.y 7 (.y 8 (.y 9 (.y 10 (.y 11 (.y 12 (.y 13 (.y 14 (.y 15 (.y 16 (.y 17 (.y 18 (.y 19 (.y 20 (.y 21 (.y 23 (.e 22 (.e 24 (.y 25 (.y 26 (.y 27 (.y 29 (.e 28 (.e 30 (.y 31 (.y 32 .nil))))))))))))))))))))))))))))))))) Tryd.wide (by decide +kernel) (by simp) ?_
  refine J.dy rfl (op_move rfl rfl) rfl rfl rfl rfl ?_
  refine J.dy rfl ((op_eql rfl rfl rfl).as (v' := .bool true) (congrArg Value.bool (decide_eq_true (by decide)))) rfl rfl rfl rfl ?_
  refine J.dy rfl (op_move rfl rfl) rfl rfl rfl rfl ?_
  refine J.dyg rfl (op_move rfl rfl) (Wan.is rfl rfl rfl rfl rfl) rfl rfl rfl ?_
  refine J.dyg rfl ((op_eql rfl rfl rfl).as (v' := .bool true) (congrArg Value.bool (decide_eq_true (by decide)))) (Wan.is rfl rfl rfl rfl rfl) rfl rfl rfl ?_
  refine J.dy rfl (op_pickT rfl rfl rfl) rfl rfl rfl rfl ?_
  refine J.dy rfl (op_move rfl rfl) rfl rfl rfl rfl ?_
  refine J.dyg rfl (op_move rfl rfl) (Wan.is rfl rfl rfl rfl rfl) rfl rfl rfl ?_
  refine J.dyg rfl ((op_eql rfl rfl rfl).as (v' := .bool true) (congrArg Value.bool (decide_eq_true (by decide)))) (Wan.is rfl rfl rfl rfl rfl) rfl rfl rfl ?_
  refine J.dy rfl (op_pickT rfl rfl rfl) rfl rfl rfl rfl ?_
  refine J.dy rfl (op_move rfl rfl) rfl rfl rfl rfl ?_
  refine J.dyg rfl (op_fieldAddr (j := 0) rfl rfl Tryd.underlying75 rfl Tryd.sizeOf3 rfl) (Wan.is rfl rfl rfl rfl rfl) rfl rfl rfl ?_
  refine J.dyg rfl (op_loadB 0 (v := I ((0 : Nat) : Int)) rfl rfl rfl Tryd.isAgg3 rfl) (Wan.is rfl rfl rfl rfl rfl) rfl rfl rfl ?_
  refine J.dyg rfl ((op_eql rfl rfl rfl).as (v' := .bool true) (congrArg Value.bool (decide_eq_true (by decide)))) (Wan.is rfl rfl rfl rfl rfl) rfl rfl rfl ?_
  refine J.dy rfl (op_pickT rfl rfl rfl) rfl rfl rfl rfl ?_
  refine J.dy rfl (op_move rfl rfl) rfl rfl rfl rfl ?_
  refine J.dyg rfl (op_fieldAddr (j := 0) rfl rfl Tryd.underlying75 rfl Tryd.sizeOf3 rfl) (Wan.is rfl rfl rfl rfl rfl) rfl rfl rfl ?_
  refine J.dyg rfl (op_loadB 1 (v := I (((0 + 1) : Nat) : Int)) rfl rfl rfl Tryd.isAgg3 rfl) (Wan.is rfl rfl rfl rfl rfl) rfl rfl rfl ?_
  refine J.dyg rfl ((op_eql rfl rfl rfl).as (v' := .bool true) (congrArg Value.bool (decide_eq_true (by decide)))) (Wan.is rfl rfl rfl rfl rfl) rfl rfl rfl ?_
  refine J.dy rfl (op_pickT rfl rfl rfl) rfl rfl rfl rfl ?_
  refine J.dy rfl (op_move rfl rfl) rfl rfl rfl rfl ?_
  refine J.dyg rfl (op_move rfl rfl) (Wan.is rfl rfl rfl rfl rfl) rfl rfl rfl ?_
  refine J.dyg rfl (op_loadBA 0 rfl rfl rfl Tryd.isAgg75 Tryd.sizeOf75 rfl) (Wan.is rfl rfl rfl rfl rfl) rfl rfl rfl ?_
  refine J.deg rfl (op_call rfl rfl ent38 (Ct.use0 (fun F' hF => spub_ct F' gs gk gb (0 + 1 + 1) (Cells.blk0.mono (hF (blk gs [Ptr gk, Ptr gb, I ((0 + 1 + 1 : Nat) : Int)] 139) (by simp))) [115, 101, 101, 100] 1 (hk.mono (hF mk (by simp))) (by decide) (by decide)))) (Wan.is rfl rfl rfl rfl rfl) rfl rfl (by simp) ?_
  intro g63 _
  refine J.deg rfl (op_call rfl rfl ent40 (Ct.use0 (fun F' hF => xverK_ct F' (hK.mono (hF F (by simp))) [115, 101, 101, 100] 1 (0) [120] P28 _ p28 (hp28.sl.mono (hF u28 (by simp))) Q28 _ q28 (hq28.sl.mono (hF v28 (by simp))) (by decide) (by decide) (by decide)))) (Wan.is rfl rfl rfl rfl rfl) rfl rfl (by simp) ?_
  intro g65 _
  refine J.dy rfl (op_pickT rfl rfl rfl) rfl rfl rfl rfl ?_
  refine J.dy rfl (op_move rfl rfl) rfl rfl rfl rfl ?_
  refine J.dyg rfl (op_move rfl rfl) (Wan.is rfl rfl rfl rfl rfl) rfl rfl rfl ?_
  refine J.dyg rfl (op_loadBA 1 rfl rfl rfl Tryd.isAgg75 Tryd.sizeOf75 rfl) (Wan.is rfl rfl rfl rfl rfl) rfl rfl rfl ?_
  refine J.deg rfl (op_call rfl rfl ent38 (Ct.use0 (fun F' hF => spub_ct F' gs gk gb (0 + 1 + 1) (Cells.blk0.mono (hF (blk gs [Ptr gk, Ptr gb, I ((0 + 1 + 1 : Nat) : Int)] 139) (by simp))) [115, 101, 101, 100] 1 (hk.mono (hF mk (by simp))) (by decide) (by decide)))) (Wan.is rfl rfl rfl rfl rfl) rfl rfl (by simp) ?_
  intro g69 _
  refine J.deg rfl (op_call rfl rfl ent40 (Ct.use0 (fun F' hF => xverK_ct F' (hK.mono (hF F (by simp))) [115, 101, 101, 100] 1 (0 + 1) [121] P33 _ p33 (hp33.sl.mono (hF u33 (by simp))) Q33 _ q33 (hq33.sl.mono (hF v33 (by simp))) (by decide) (by decide) (by decide)))) (Wan.is rfl rfl rfl rfl rfl) rfl rfl (by simp) ?_
  intro g71 _
  refine J.dy rfl (op_pickT rfl rfl rfl) rfl rfl rfl rfl ?_
  refine J.dy rfl (op_assign rfl rfl) rfl rfl rfl rfl ?_
  refine J.dnil ?_
  refine J.then_n (J.k hK9 ?_)
  refine J.keepE [(0, _)] ⟨rfl, trivial⟩ ?_
  refine J.ret ?_
  exact J.done hw0 (fun _ _ h => h) (res1 rfl rfl) (retOk () rfl trivial [3] rfl (by decide))

end Go.Proofs.YtnkfapecbmmpeaaDoor
