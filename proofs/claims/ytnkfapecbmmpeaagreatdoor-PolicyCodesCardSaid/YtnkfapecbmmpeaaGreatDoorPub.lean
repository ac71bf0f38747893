/- A part of the proof: contracts of functions of the program, each for every state of the heaps that it names. -/
import Derived.Test.YtnkfapecbmmpeaaGreatDoorRep
set_option linter.unusedSimpArgs false
set_option linter.unusedVariables false
namespace Go.Proofs.YtnkfapecbmmpeaaGreatDoor
open Go Go.Fw
set_option maxRecDepth 100000
set_option maxHeartbeats 1000000
theorem ent22 : Enters Tryz.prog 22 := Enters.of Tryz.func22 rfl (by kernel_rfl)
theorem ent23 : Enters Tryz.prog 23 := Enters.of Tryz.func23 rfl (by kernel_rfl)
theorem ent25 : Enters Tryz.prog 25 := Enters.of Tryz.func25 rfl (by kernel_rfl)
theorem ent41 : Enters Tryz.prog 41 := Enters.of Tryz.func41 rfl (by kernel_rfl)

theorem wtr_new (g : Nat) : Wtr (blk g [.pointer none, .slice none 0 0, I 0] 63) g [] 0 :=
  ⟨[.pointer none, .slice none 0 0, I 0], fun _ => none, none, 0, none, by funext k; simp only [U]; cases blk g [.pointer none, .slice none 0 0, I 0] 63 k <;> rfl, fun _ => .inr rfl, rfl, ⟨rfl, .inl rfl, rfl, RowQ.nil, .inl rfl⟩, rfl⟩
theorem wfix_len (s : List UInt8) (n : Nat) (bs : List UInt8) (bad : Int) : (wfix s n bs bad).length ≤ bs.length + n := by
  unfold wfix fbad okF
  by_cases h1 : s.length = n <;> by_cases h2 : bad = 0 <;> simp [h1, h2]
theorem wnum_len (n : UInt64) (size : Nat) (bs : List UInt8) (bad : Int) : (wnum n size bs bad).length ≤ bs.length + size := by
  unfold wnum
  split
  · rw [List.length_append, Sha.numB_length]; omega
  · omega
theorem okF_t {s : List UInt8} {n : Nat} (h : s.length = n) : okF s n = true := decide_eq_true h
theorem okF_f {s : List UInt8} {n : Nat} (h : ¬ s.length = n) : okF s n = false := decide_eq_false h
theorem fbad_t (e bad : Int) : fbad true e bad = bad := by simp [fbad]
theorem fbad_f (e : Int) (he : e ≠ 0) : ∀ bad, fbad false e bad ≠ 0 := fun bad => by
  unfold fbad; split <;> simp_all
theorem wfix_t {s : List UInt8} {n : Nat} (h : s.length = n) (bs : List UInt8) : wfix s n bs 0 = bs ++ s := by
  unfold wfix; rw [okF_t h, fbad_t]; simp

def pubOk (o r : List UInt8) (h : Int) : Prop := 0 ≤ h ∧ h ≤ 6 ∧ o.length = 16 ∧ r.length = 16
instance (o r : List UInt8) (h : Int) : Decidable (pubOk o r h) := by unfold pubOk; infer_instance
def pubEnc (o r : List UInt8) (h : Int) : List UInt8 := if pubOk o r h then o ++ r ++ [UInt8.ofNat h.toNat] else []
def pubErr (o r : List UInt8) (h : Int) : Int := if pubOk o r h then 0 else 10
theorem numB1 : ∀ k, k < 7 → Sha.numB (UInt64.ofNat k) 1 = [UInt8.ofNat k] := by decide
theorem okN1 : ∀ k, k < 7 → okN (UInt64.ofNat k) 1 = true := by decide
def pbad (o r : List UInt8) : Int := fbad (okF r 16) 10 (fbad (okF o 16) 10 0)
def pbs (o r : List UInt8) : List UInt8 := wfix r 16 (wfix o 16 [] 0) (fbad (okF o 16) 10 0)
theorem pub_bad (o r : List UInt8) (k : Nat) (hk : k ≤ 6) : fbad (okN (UInt64.ofNat k) 1) 10 (pbad o r) = pubErr o r k := by
  rw [okN1 k (by omega), fbad_t]
  unfold pbad pubErr pubOk okF fbad
  by_cases h1 : o.length = 16 <;> by_cases h2 : r.length = 16 <;> simp [h1, h2] <;> omega
theorem pub_bs (o r : List UInt8) (k : Nat) (hk : k ≤ 6) (h : pubErr o r k = 0) : wnum (UInt64.ofNat k) 1 (pbs o r) (pbad o r) = pubEnc o r k := by
  have hb := pub_bad o r k hk
  unfold wnum pubEnc
  rw [hb, h, if_pos rfl, numB1 k (by omega)]
  unfold pubErr at h
  split at h
  · rename_i h1
    rw [if_pos h1]
    have h2 := h1
    unfold pubOk at h2
    unfold pbs
    rw [wfix_t h2.2.2.1, okF_t h2.2.2.1, fbad_t, wfix_t h2.2.2.2]; simp
  · omega
theorem pub_nil {o r : List UInt8} {h : Int} (hn : ¬ pubErr o r h = 0) : pubEnc o r h = [] := by
  unfold pubErr at hn; unfold pubEnc
  split at hn
  · omega
  · rename_i h1; rw [if_neg h1]
theorem pub_no {o r : List UInt8} {h : Int} (hn : h < 0 ∨ 6 < h) : Value.tuple #[Str [], I 10] = .tuple #[Str (pubEnc o r h), I (pubErr o r h)] := by
  have h1 : ¬ pubOk o r h := by unfold pubOk; omega
  unfold pubEnc pubErr
  rw [if_neg h1, if_neg h1]
theorem pub_val (o r : List UInt8) (k : Nat) (hk : k ≤ 6) : Value.tuple #[Str (if fbad (okN (UInt64.ofNat k) 1) 10 (pbad o r) = 0 then wnum (UInt64.ofNat k) 1 (pbs o r) (pbad o r) else []), I (fbad (okN (UInt64.ofNat k) 1) 10 (pbad o r))] = .tuple #[Str (pubEnc o r k), I (pubErr o r k)] := by
  rw [pub_bad o r k hk]
  by_cases h : pubErr o r k = 0
  · rw [if_pos h, pub_bs o r k hk h]
  · rw [if_neg h, pub_nil h]

theorem pencode_ct (F : Hp) (o r : List UInt8) (h : Int) (ho : o.length ≤ 1048576) (hr : r.length ≤ 1048576) :
    Ct Tryz.prog 39 [.agg #[Str o, Str r, I h]] [F] (fun _ : Unit => .tuple #[Str (pubEnc o r h), I (pubErr o r h)]) (fun _ => True) (fun _ => [F]) := by
  refine Ct.walk Tryz.func39 rfl Tryz.ntmps39 rfl (fun w0 hw0 => ?_)
  change J _ [(0, _)] _ _ _
  refine J.seq (fun K1 hK1 => ?_)
  refine J.region ?_
  refine J.e (op_box rfl rfl (l := [Str o, Str r, I h]) rfl) rfl rfl rfl ?_
  intro g1 _
  change J _ _ _ [F, blk g1 [Str o, Str r, I h] 31] _
  refine J.y (op_assign rfl rfl) rfl rfl rfl ?_
  refine J.y (op_assign rfl rfl) rfl rfl rfl ?_
  refine J.nil ?_
  refine J.then_n (J.k hK1 ?_)
  refine J.keepE [(1, _)] ⟨rfl, trivial⟩ ?_
  refine J.seq (fun K2 hK2 => ?_)
  refine J.seq (fun K3 hK3 => ?_)
  refine J.region ?_
  refine J.y (op_fieldAddr (j := 2) rfl rfl Tryz.underlying31 rfl Tryz.sizeOf3 rfl) rfl rfl rfl ?_
  refine J.y (op_loadB 1 rfl rfl rfl Tryz.isAgg3 rfl) rfl rfl rfl ?_
  refine J.y (op_lss rfl rfl rfl) rfl rfl rfl ?_
  refine J.y (op_move rfl rfl) rfl rfl rfl ?_
  refine J.split (d := 8) rfl (fun h8 => ?_) (fun h8 => ?_)
  ·
    refine J.no (Wan.is rfl rfl rfl rfl rfl) rfl rfl ?_
    refine J.no (Wan.is rfl rfl rfl rfl rfl) rfl rfl ?_
    refine J.no (Wan.is rfl rfl rfl rfl rfl) rfl rfl ?_
    refine J.y (op_pickT rfl rfl rfl) rfl rfl rfl ?_
    refine J.nil ?_
    refine J.then_n (J.k hK3 ?_)
    refine J.keepE [(1, _), (12, _)] ⟨rfl, rfl, trivial⟩ ?_
    refine J.condT rfl rfl ?_
    refine J.seq (fun K4 hK4 => ?_)
    refine J.region ?_
    refine J.y (op_assign rfl rfl) rfl rfl rfl ?_
    refine J.y (op_assign rfl rfl) rfl rfl rfl ?_
    refine J.nil ?_
    refine J.then_n (J.k hK4 ?_)
    refine J.keepE [(2, _), (3, _)] ⟨rfl, rfl, trivial⟩ ?_
    refine J.ret ?_
    refine J.then_r ?_
    exact J.done hw0 (fun _ _ h => h) (res2 rfl rfl rfl) (retOk () (pub_no (by omega)) trivial [0] rfl (by decide))
  ·
    refine J.yg (Wan.is rfl rfl rfl rfl rfl) (op_fieldAddr (j := 2) rfl rfl Tryz.underlying31 rfl Tryz.sizeOf3 rfl) rfl rfl ?_
    refine J.yg (Wan.is rfl rfl rfl rfl rfl) (op_loadB 1 rfl rfl rfl Tryz.isAgg3 rfl) rfl rfl ?_
    refine J.yg (Wan.is rfl rfl rfl rfl rfl) (op_gtr rfl rfl rfl) rfl rfl ?_
    refine J.y (op_pickF rfl rfl rfl) rfl rfl rfl ?_
    refine J.nil ?_
    refine J.then_n (J.k hK3 ?_)
    refine J.keepE [(1, _), (12, _)] ⟨rfl, rfl, trivial⟩ ?_
    refine J.ite rfl (fun h12 => ?_) (fun h12 => ?_)
    ·
      refine J.seq (fun K5 hK5 => ?_)
      refine J.region ?_
      refine J.y (op_assign rfl rfl) rfl rfl rfl ?_
      refine J.y (op_assign rfl rfl) rfl rfl rfl ?_
      refine J.nil ?_
      refine J.then_n (J.k hK5 ?_)
      refine J.keepE [(2, _), (3, _)] ⟨rfl, rfl, trivial⟩ ?_
      refine J.ret ?_
      refine J.then_r ?_
      exact J.done hw0 (fun _ _ h => h) (res2 rfl rfl rfl) (retOk () (pub_no (by omega)) trivial [0] rfl (by decide))
    ·
      refine J.skip ?_
      refine J.then_n (J.k hK2 ?_)
      refine J.keepE [(1, _)] ⟨rfl, trivial⟩ ?_
      refine J.seq (fun K6 hK6 => ?_)
      obtain ⟨k, hk⟩ := Int.eq_ofNat_of_zero_le (show 0 ≤ h by omega)
      have hk6 : k ≤ 6 := by omega
      refine J.region ?_
      refine J.e (op_alloc rfl Tryz.zeroValue63 rfl) rfl rfl rfl ?_
      intro g4 _
      change J _ _ _ [F, blk g1 [Str o, Str r, I h] 31, blk g4 _ 63] _
      refine J.nil ?_
      refine J.then_n (J.k hK6 ?_)
      refine J.keepE [(1, _), (4, _)] ⟨rfl, rfl, trivial⟩ ?_
      refine J.seq (fun K7 hK7 => ?_)
      refine J.draw [blk g1 [Str o, Str r, I h] 31] [] (.y 0 (.y 1 (.y 3 (.y 4 (.y 6 (.y 7 (.y 8 (.e 2 (.e 5 (.e 9 (.e 10 (.y 11 (.y 12 (.y 13 (.y 14 .nil))))))))))))))) Tryz.wide (by decide +kernel) (by simp) ?_
      refine J.dy rfl (op_fieldAddr (j := 0) rfl rfl Tryz.underlying31 rfl Tryz.sizeOf9 rfl) rfl rfl rfl rfl ?_
      refine J.dy rfl (op_loadB 0 rfl rfl rfl Tryz.isAgg9 rfl) rfl rfl rfl rfl ?_
      refine J.dy rfl (op_fieldAddr (j := 1) rfl rfl Tryz.underlying31 rfl Tryz.sizeOf9 rfl) rfl rfl rfl rfl ?_
      refine J.dy rfl (op_loadB 0 rfl rfl rfl Tryz.isAgg9 rfl) rfl rfl rfl rfl ?_
      refine J.dy rfl (op_fieldAddr (j := 2) rfl rfl Tryz.underlying31 rfl Tryz.sizeOf3 rfl) rfl rfl rfl rfl ?_
      refine J.dy rfl (op_loadB 0 rfl rfl rfl Tryz.isAgg3 rfl) rfl rfl rfl rfl ?_
      refine J.dy rfl ((op_cvZ_i64_u64 rfl rfl Tryz.underlying3 Tryz.underlying29).as (v' := W64 (UInt64.ofNat k)) (by rw [show (h % 18446744073709551616).toNat = k by omega])) rfl rfl rfl rfl ?_
      refine J.de rfl (op_call rfl rfl ent41 (Ct.use1 2 (m' := fun x : Hp => x) (new := fun _ => []) rfl (fun F' _ => fixed_ct F' (blk g4 [.pointer none, .slice none 0 0, I 0] 63) g4 [] 0 (wtr_new g4) (by decide) o (by omega) 16))) rfl rfl rfl (by simp) ?_
      rintro m15 hw15
      change J _ _ _ [F, blk g1 [Str o, Str r, I h] 31, m15] _
      refine J.de rfl (op_call rfl rfl ent41 (Ct.use1 2 (m' := fun x : Hp => x) (new := fun _ => []) rfl (fun F' _ => fixed_ct F' m15 g4 (wfix o 16 [] 0) (fbad (okF o 16) 10 0) hw15 (by have := wfix_len o 16 [] 0; simp only [List.length_nil] at this; omega) r (by omega) 16))) rfl rfl rfl (by simp) ?_
      rintro m18 hw18
      change J _ _ _ [F, blk g1 [Str o, Str r, I h] 31, m18] _
      refine J.de rfl (op_call rfl rfl ent40 (Ct.use1 2 (m' := fun x : Hp => x) (new := fun _ => []) rfl (fun F' _ => num_ct F' m18 g4 (pbs o r) (pbad o r) hw18 (by have := wfix_len o 16 [] 0; have h2 := wfix_len r 16 (wfix o 16 [] 0) (fbad (okF o 16) 10 0); simp only [List.length_nil] at this; unfold pbs; omega) (UInt64.ofNat k) 1 (by omega) (by omega)))) rfl rfl rfl (by simp) ?_
      rintro m22 hw22
      change J _ _ _ [F, blk g1 [Str o, Str r, I h] 31, m22] _
      refine J.de rfl (op_call rfl rfl ent22 (Ct.use1 2 (m' := fun x : Hp => x) (new := fun _ => []) rfl (fun F' _ => bytes_ct F' m22 g4 (wnum (UInt64.ofNat k) 1 (pbs o r) (pbad o r)) (fbad (okN (UInt64.ofNat k) 1) 10 (pbad o r)) hw22 (by have := wfix_len o 16 [] 0; have h2 := wfix_len r 16 (wfix o 16 [] 0) (fbad (okF o 16) 10 0); have h3 := wnum_len (UInt64.ofNat k) 1 (pbs o r) (pbad o r); simp only [List.length_nil] at this; unfold pbs at h3 ⊢; omega)))) rfl rfl rfl (by simp) ?_
      rintro m23 hw23
      change J _ _ _ [F, blk g1 [Str o, Str r, I h] 31, m23] _
      refine J.dy rfl (op_extract (v := Str (if fbad (okN (UInt64.ofNat k) 1) 10 (pbad o r) = 0 then wnum (UInt64.ofNat k) 1 (pbs o r) (pbad o r) else [])) rfl rfl rfl) rfl rfl rfl rfl ?_
      refine J.dy rfl (op_extract (v := I (fbad (okN (UInt64.ofNat k) 1) 10 (pbad o r))) rfl rfl rfl) rfl rfl rfl rfl ?_
      refine J.dy rfl (op_assign rfl rfl) rfl rfl rfl rfl ?_
      refine J.dy rfl (op_assign rfl rfl) rfl rfl rfl rfl ?_
      refine J.dnil ?_
      refine J.then_n (J.k hK7 ?_)
      refine J.keepE [(2, _), (3, _)] ⟨rfl, rfl, trivial⟩ ?_
      refine J.ret ?_
      exact J.done hw0 (fun _ _ h => h) (res2 rfl rfl rfl) (retOk () (by subst hk; exact pub_val o r k hk6) trivial [0] rfl (by decide))

theorem takes3 (l : List Nat) (s : List UInt8) : l.foldl RS.take ⟨s, 3⟩ = ⟨s, 3⟩ := by
  induction l with
  | nil => rfl
  | cons n l ih => exact ih
theorem take_ok {s : List UInt8} {n : Nat} (h : n ≤ s.length) : (⟨s, 0⟩ : RS).take n = ⟨s.drop n, 0⟩ := by simp [RS.take, h]
theorem take_no {s : List UInt8} {n : Nat} (h : ¬ n ≤ s.length) : (⟨s, 0⟩ : RS).take n = ⟨s, 3⟩ := by simp [RS.take, h]
theorem out_ok {s : List UInt8} {n : Nat} (h : n ≤ s.length) : (⟨s, 0⟩ : RS).out n = s.take n := by simp [RS.out, h]
theorem last_takes (l : List Nat) : ∀ s : List UInt8, (l.foldl RS.take ⟨s, 0⟩).last = if s.length < l.sum then 3 else if l.sum < s.length then 2 else 0 := by
  induction l with
  | nil =>
    intro s
    cases s <;> simp [RS.last]
  | cons n l ih =>
    intro s
    by_cases h : n ≤ s.length
    · rw [List.foldl_cons, take_ok h, ih, List.length_drop, List.sum_cons]
      by_cases h1 : s.length < n + l.sum
      · rw [if_pos (by omega), if_pos h1]
      · rw [if_neg (by omega), if_neg h1]
        by_cases h2 : n + l.sum < s.length
        · rw [if_pos (by omega), if_pos h2]
        · rw [if_neg (by omega), if_neg h2]
    · rw [List.foldl_cons, take_no h, takes3, List.sum_cons, if_pos (by omega)]
      simp [RS.last]
theorem natB_one (c : UInt8) : natB [c] = c.toNat := by simp [natB]
def dpE (s : List UInt8) : Int := if s.length < 33 then 3 else if 33 < s.length then 2 else if 6 < (s.getD 32 0).toNat then 4 else 0
def dpO (s : List UInt8) : List UInt8 := if dpE s = 0 then s.take 16 else []
def dpR (s : List UInt8) : List UInt8 := if dpE s = 0 then (s.drop 16).take 16 else []
def dpH (s : List UInt8) : Nat := if dpE s = 0 then (s.getD 32 0).toNat else 0
def dpV (s : List UInt8) : Value := .tuple #[.agg #[Str (dpO s), Str (dpR s), I (dpH s)], I (dpE s)]
theorem dpV_no {s : List UInt8} {e : Int} (h : dpE s = e) (he : e ≠ 0) : Value.tuple #[.agg #[Str [], Str [], I 0], I e] = dpV s := by
  unfold dpV dpO dpR dpH
  rw [h, if_neg he, if_neg he, if_neg he]; rfl
theorem dp_last (s : List UInt8) : ((((⟨s, 0⟩ : RS).take 16).take 16).take 1).last = if s.length < 33 then 3 else if 33 < s.length then 2 else 0 := last_takes [16, 16, 1] s
theorem dp_num {s : List UInt8} (h : ((((⟨s, 0⟩ : RS).take 16).take 16).take 1).last = 0) : s.length = 33 ∧ (⟨s, 0⟩ : RS).out 16 = s.take 16 ∧ ((⟨s, 0⟩ : RS).take 16).out 16 = (s.drop 16).take 16 ∧ natB ((((⟨s, 0⟩ : RS).take 16).take 16).out 1) = (s.getD 32 0).toNat := by
  rw [dp_last] at h
  have hl : s.length = 33 := by
    by_cases h1 : s.length < 33
    · rw [if_pos h1] at h; omega
    · rw [if_neg h1] at h
      by_cases h2 : 33 < s.length
      · rw [if_pos h2] at h; omega
      · omega
  refine ⟨hl, out_ok (by omega), ?_, ?_⟩
  · rw [take_ok (by omega), out_ok (by rw [List.length_drop]; omega)]
  · rw [take_ok (by omega), take_ok (by rw [List.length_drop]; omega), out_ok (by rw [List.length_drop, List.length_drop]; omega), List.drop_drop]
    rw [List.drop_eq_getElem_cons (show 16 + 16 < s.length by omega), List.take_succ_cons, List.take_zero, natB_one]
    rw [List.getD_eq_getElem?_getD, List.getElem?_eq_getElem (show 32 < s.length by omega)]; rfl
theorem dp_e {s : List UInt8} (h : ¬ ((((⟨s, 0⟩ : RS).take 16).take 16).take 1).last = 0) : dpE s = ((((⟨s, 0⟩ : RS).take 16).take 16).take 1).last := by
  rw [dp_last] at h ⊢
  unfold dpE
  by_cases h1 : s.length < 33
  · rw [if_pos h1, if_pos h1]
  · rw [if_neg h1, if_neg h1]
    rw [if_neg h1] at h
    by_cases h2 : 33 < s.length
    · rw [if_pos h2, if_pos h2]
    · rw [if_neg h2] at h; exact absurd rfl h
theorem dp_ok {s : List UInt8} (h : ((((⟨s, 0⟩ : RS).take 16).take 16).take 1).last = 0) (h6 : ¬ 6 < (s.getD 32 0).toNat) : dpE s = 0 := by
  unfold dpE
  have := dp_num h
  rw [if_neg (by omega), if_neg (by omega), if_neg h6]
theorem pubEnc_len {o r : List UInt8} {h : Int} (he : pubErr o r h = 0) : (pubEnc o r h).length = 33 := by
  unfold pubErr at he; unfold pubEnc
  split at he
  · rename_i h1
    rw [if_pos h1]
    have h2 := h1
    unfold pubOk at h2
    simp only [List.length_append, List.length_singleton]
    omega
  · omega
theorem numN_ct (F m : Hp) (g : Nat) (bs : List UInt8) (bad : Int) (hw : Wtr m g bs bad) (hlen : bs.length ≤ 1099511627776) (n : Nat) (hn : n < 18446744073709551616) (size : Nat) (h1 : 1 ≤ size) (h8 : size < 8) :
    Ct Tryz.prog 40 [Ptr g, N64 n, I size] [m, F] (fun _ : Hp => Ptr g) (fun m' => Wtr m' g (wnum (UInt64.ofNat n) size bs bad) (fbad (okN (UInt64.ofNat n) size) 10 bad)) (fun m' => [m', F]) := by
  rw [N_W hn]
  exact num_ct F m g bs bad hw hlen (UInt64.ofNat n) size h1 h8
theorem okN_t {n size : Nat} (hn : n < 18446744073709551616) (h : n < 2 ^ (8 * size)) : okN (UInt64.ofNat n) size = true := by
  unfold okN
  rw [ofNat64 hn]
  exact decide_eq_true h
theorem dp_4 {s : List UInt8} (h : ((((⟨s, 0⟩ : RS).take 16).take 16).take 1).last = 0) (h6 : 6 < (s.getD 32 0).toNat) : dpE s = 4 := by
  unfold dpE
  have := dp_num h
  rw [if_neg (by omega), if_neg (by omega), if_pos h6]

theorem pdecode_ct (F : Hp) (s : List UInt8) :
    Ct Tryz.prog 53 [Str s] [F] (fun _ : Unit => dpV s) (fun _ => True) (fun _ => [F]) := by
  refine Ct.walk Tryz.func53 rfl Tryz.ntmps53 rfl (fun w0 hw0 => ?_)
  change J _ [(0, _)] _ _ _
  refine J.seq (fun K1 hK1 => ?_)
  refine J.region ?_
  refine J.e (op_alloc rfl Tryz.zeroValue31 rfl) rfl rfl rfl ?_
  intro g2 _
  change J _ _ _ [F, blk g2 _ 31] _
  refine J.y (op_assign rfl rfl) rfl rfl rfl ?_
  refine J.nil ?_
  refine J.then_n (J.k hK1 ?_)
  refine J.keepE [(0, _), (2, _)] ⟨rfl, rfl, trivial⟩ ?_
  refine J.seq (fun K2 hK2 => ?_)
  refine J.region ?_
  refine J.y (op_move rfl rfl) rfl rfl rfl ?_
  refine J.e (op_call rfl rfl ent23 (Ct.use (new := fun g => [RSb g ⟨s, 0⟩]) (fun F' _ => (read_ct F' s).mono (φ2 := fun _ => True) (val2 := Ptr) (ms2 := fun g => F' :: [RSb g ⟨s, 0⟩]) id (fun _ _ => rfl) (fun _ h => h) (fun x w0 w _ h => h.pick [1, 0] (by decide))))) rfl rfl rfl ?_
  rintro g8 _
  change J _ _ _ [F, blk g2 _ 31, RSb g8 (⟨s, 0⟩ : RS)] _
  refine J.y (op_assign rfl rfl) rfl rfl rfl ?_
  refine J.nil ?_
  refine J.then_n (J.k hK2 ?_)
  refine J.keepE [(2, _), (4, _)] ⟨rfl, rfl, trivial⟩ ?_
  refine J.seq (fun K3 hK3 => ?_)
  refine J.region ?_
  refine J.y (op_move rfl rfl) rfl rfl rfl ?_
  refine J.e (op_call rfl rfl ent52 (Ct.use1 2 (m' := fun _ : Unit => RSb g8 ((⟨s, 0⟩ : RS).take 16)) (new := fun _ => []) rfl (fun F' _ => rfixed_ct F' g8 (⟨s, 0⟩ : RS) 16))) rfl rfl rfl ?_
  intro g10 _
  change J _ _ _ [F, blk g2 _ 31, RSb g8 ((⟨s, 0⟩ : RS).take 16)] _
  refine J.y (op_move rfl rfl) rfl rfl rfl ?_
  refine J.e (op_call rfl rfl ent52 (Ct.use1 2 (m' := fun _ : Unit => RSb g8 (((⟨s, 0⟩ : RS).take 16).take 16)) (new := fun _ => []) rfl (fun F' _ => rfixed_ct F' g8 ((⟨s, 0⟩ : RS).take 16) 16))) rfl rfl rfl ?_
  intro g12 _
  change J _ _ _ [F, blk g2 _ 31, RSb g8 (((⟨s, 0⟩ : RS).take 16).take 16)] _
  refine J.y (op_move rfl rfl) rfl rfl rfl ?_
  refine J.e (op_call rfl rfl ent50 (Ct.use1 2 (m' := fun _ : Unit => RSb g8 ((((⟨s, 0⟩ : RS).take 16).take 16).take 1)) (new := fun _ => []) rfl (fun F' _ => rnum_ct F' g8 (((⟨s, 0⟩ : RS).take 16).take 16) 1 (by omega) (by omega)))) rfl rfl rfl ?_
  intro g14 _
  change J _ _ _ [F, blk g2 _ 31, RSb g8 ((((⟨s, 0⟩ : RS).take 16).take 16).take 1)] _
  refine J.y (op_cvU_toI rfl rfl Tryz.underlying29 Tryz.underlying3 (by have := natB_lt ((((⟨s, 0⟩ : RS).take 16).take 16).out 1); have h2 := (((⟨s, 0⟩ : RS).take 16).take 16).out_len 1; have h3 := Nat.pow_le_pow_right (n := 256) (by omega) h2; omega)) rfl rfl rfl ?_
  refine J.y (op_buildStruct (l := [(0, .tmp 10), (1, .tmp 12), (2, .tmp 15)]) (vs := [Str ((⟨s, 0⟩ : RS).out 16), Str (((⟨s, 0⟩ : RS).take 16).out 16), I (natB ((((⟨s, 0⟩ : RS).take 16).take 16).out 1))]) (places := [(0, 1), (1, 1), (2, 1)]) (r := [Str ((⟨s, 0⟩ : RS).out 16), Str (((⟨s, 0⟩ : RS).take 16).out 16), I (natB ((((⟨s, 0⟩ : RS).take 16).take 16).out 1))]) rfl rfl rfl Tryz.underlying31 Tryz.zeroValue31 (fun _ => by kernel_rfl) rfl) rfl rfl rfl ?_
  refine J.e (op_alloc rfl Tryz.zeroValue31 rfl) rfl rfl rfl ?_
  intro g5 _
  change J _ _ _ [F, blk g2 _ 31, RSb g8 ((((⟨s, 0⟩ : RS).take 16).take 16).take 1), blk g5 _ 31] _
  refine J.s (op_storeAll (l := [Str [], Str [], I 0]) (i := 3) (vs := [Str ((⟨s, 0⟩ : RS).out 16), Str (((⟨s, 0⟩ : RS).take 16).out 16), I (natB ((((⟨s, 0⟩ : RS).take 16).take 16).out 1))]) rfl rfl rfl rfl rfl Tryz.sizeOf31 rfl rfl) rfl rfl (fun _ _ => ?_)
  change J _ _ _ [F, blk g2 _ 31, RSb g8 ((((⟨s, 0⟩ : RS).take 16).take 16).take 1), blk g5 [Str ((⟨s, 0⟩ : RS).out 16), Str (((⟨s, 0⟩ : RS).take 16).out 16), I (natB ((((⟨s, 0⟩ : RS).take 16).take 16).out 1))] 31] _
  refine J.nil ?_
  refine J.then_n (J.k hK3 ?_)
  refine J.keepE [(2, _), (4, _), (5, _)] ⟨rfl, rfl, rfl, trivial⟩ ?_
  refine J.seq (fun K4 hK4 => ?_)
  refine J.seq (fun K5 hK5 => ?_)
  refine J.region ?_
  refine J.y (op_move rfl rfl) rfl rfl rfl ?_
  refine J.e (op_call rfl rfl ent25 (Ct.use1 2 (m' := fun _ : Unit => RSb g8 ((((⟨s, 0⟩ : RS).take 16).take 16).take 1)) (new := fun _ => []) rfl (fun F' _ => end_ct F' g8 ((((⟨s, 0⟩ : RS).take 16).take 16).take 1)))) rfl rfl rfl ?_
  intro g18 _
  change J _ _ _ [F, blk g2 _ 31, RSb g8 ((((⟨s, 0⟩ : RS).take 16).take 16).take 1), blk g5 [Str ((⟨s, 0⟩ : RS).out 16), Str (((⟨s, 0⟩ : RS).take 16).out 16), I (natB ((((⟨s, 0⟩ : RS).take 16).take 16).out 1))] 31] _
  refine J.y (op_assign rfl rfl) rfl rfl rfl ?_
  refine J.nil ?_
  refine J.then_n (J.k hK5 ?_)
  refine J.keepE [(2, _), (5, _), (6, _)] ⟨rfl, rfl, rfl, trivial⟩ ?_
  refine J.seq (fun K6 hK6 => ?_)
  refine J.region ?_
  refine J.y (op_move rfl rfl) rfl rfl rfl ?_
  refine J.y (op_neq rfl rfl rfl) rfl rfl rfl ?_
  refine J.nil ?_
  refine J.then_n (J.k hK6 ?_)
  refine J.keepE [(2, _), (5, _), (6, _), (20, _)] ⟨rfl, rfl, rfl, rfl, trivial⟩ ?_
  refine J.ite rfl (fun h20 => ?_) (fun h20 => ?_)
  ·
    refine J.seq (fun K7 hK7 => ?_)
    refine J.region ?_
    refine J.y (op_buildStruct (l := []) (vs := []) (places := [(0, 1), (1, 1), (2, 1)]) (r := [Str [], Str [], I 0]) rfl rfl rfl Tryz.underlying31 Tryz.zeroValue31 (fun _ => by kernel_rfl) rfl) rfl rfl rfl ?_
    refine J.y (op_move rfl rfl) rfl rfl rfl ?_
    refine J.s (op_storeAll (l := [Str [], Str [], I 0]) (i := 1) (vs := [Str [], Str [], I 0]) rfl rfl rfl rfl rfl Tryz.sizeOf31 rfl rfl) rfl rfl (fun _ _ => ?_)
    change J _ _ _ [F, blk g2 [Str [], Str [], I 0] 31, RSb g8 ((((⟨s, 0⟩ : RS).take 16).take 16).take 1), blk g5 [Str ((⟨s, 0⟩ : RS).out 16), Str (((⟨s, 0⟩ : RS).take 16).out 16), I (natB ((((⟨s, 0⟩ : RS).take 16).take 16).out 1))] 31] _
    refine J.y (op_assign rfl rfl) rfl rfl rfl ?_
    refine J.nil ?_
    refine J.then_n (J.k hK7 ?_)
    refine J.keepE [(2, _), (3, _)] ⟨rfl, rfl, trivial⟩ ?_
    refine J.ret ?_
    refine J.then_r ?_
    exact J.done hw0 (fun _ _ h => h) (rv2 rfl (RV.blkA 1 rfl rfl Tryz.isAgg31 Tryz.sizeOf31) rfl) (retOk () (dpV_no (dp_e (by omega)) (by omega)) trivial [0] rfl (by decide))
  ·
    refine J.skip ?_
    refine J.then_n (J.k hK4 ?_)
    refine J.keepE [(2, _), (5, _)] ⟨rfl, rfl, trivial⟩ ?_
    refine J.seq (fun K8 hK8 => ?_)
    refine J.seq (fun K9 hK9 => ?_)
    obtain ⟨hl, ho1, ho2, hn⟩ := dp_num (s := s) (by omega)
    refine J.region ?_
    refine J.y (op_fieldAddr (j := 2) rfl rfl Tryz.underlying31 rfl Tryz.sizeOf3 rfl) rfl rfl rfl ?_
    refine J.y (op_loadB 3 rfl rfl rfl Tryz.isAgg3 rfl) rfl rfl rfl ?_
    refine J.y (op_gtr rfl rfl rfl) rfl rfl rfl ?_
    refine J.nil ?_
    refine J.then_n (J.k hK9 ?_)
    refine J.keepE [(2, _), (5, _), (25, _)] ⟨rfl, rfl, rfl, trivial⟩ ?_
    refine J.ite rfl (fun h25 => ?_) (fun h25 => ?_)
    ·
      refine J.seq (fun K10 hK10 => ?_)
      refine J.region ?_
      refine J.y (op_buildStruct (l := []) (vs := []) (places := [(0, 1), (1, 1), (2, 1)]) (r := [Str [], Str [], I 0]) rfl rfl rfl Tryz.underlying31 Tryz.zeroValue31 (fun _ => by kernel_rfl) rfl) rfl rfl rfl ?_
      refine J.s (op_storeAll (l := [Str [], Str [], I 0]) (i := 1) (vs := [Str [], Str [], I 0]) rfl rfl rfl rfl rfl Tryz.sizeOf31 rfl rfl) rfl rfl (fun _ _ => ?_)
      change J _ _ _ [F, blk g2 [Str [], Str [], I 0] 31, RSb g8 ((((⟨s, 0⟩ : RS).take 16).take 16).take 1), blk g5 [Str ((⟨s, 0⟩ : RS).out 16), Str (((⟨s, 0⟩ : RS).take 16).out 16), I (natB ((((⟨s, 0⟩ : RS).take 16).take 16).out 1))] 31] _
      refine J.y (op_assign rfl rfl) rfl rfl rfl ?_
      refine J.nil ?_
      refine J.then_n (J.k hK10 ?_)
      refine J.keepE [(2, _), (3, _)] ⟨rfl, rfl, trivial⟩ ?_
      refine J.ret ?_
      refine J.then_r ?_
      exact J.done hw0 (fun _ _ h => h) (rv2 rfl (RV.blkA 1 rfl rfl Tryz.isAgg31 Tryz.sizeOf31) rfl) (retOk () (dpV_no (dp_4 (by omega) (by omega)) (by decide)) trivial [0] rfl (by decide))
    ·
      refine J.skip ?_
      refine J.then_n (J.k hK8 ?_)
      refine J.keepE [(2, _), (5, _)] ⟨rfl, rfl, trivial⟩ ?_
      refine J.seq (fun K11 hK11 => ?_)
      refine J.region ?_
      refine J.y (op_loadBA 3 rfl rfl rfl Tryz.isAgg31 Tryz.sizeOf31 rfl) rfl rfl rfl ?_
      refine J.s (op_storeAll (l := [Str [], Str [], I 0]) (i := 1) (vs := [Str ((⟨s, 0⟩ : RS).out 16), Str (((⟨s, 0⟩ : RS).take 16).out 16), I (natB ((((⟨s, 0⟩ : RS).take 16).take 16).out 1))]) rfl rfl rfl rfl rfl Tryz.sizeOf31 rfl rfl) rfl rfl (fun _ _ => ?_)
      change J _ _ _ [F, blk g2 [Str ((⟨s, 0⟩ : RS).out 16), Str (((⟨s, 0⟩ : RS).take 16).out 16), I (natB ((((⟨s, 0⟩ : RS).take 16).take 16).out 1))] 31, RSb g8 ((((⟨s, 0⟩ : RS).take 16).take 16).take 1), blk g5 [Str ((⟨s, 0⟩ : RS).out 16), Str (((⟨s, 0⟩ : RS).take 16).out 16), I (natB ((((⟨s, 0⟩ : RS).take 16).take 16).out 1))] 31] _
      refine J.y (op_assign rfl rfl) rfl rfl rfl ?_
      refine J.nil ?_
      refine J.then_n (J.k hK11 ?_)
      refine J.keepE [(2, _), (3, _)] ⟨rfl, rfl, trivial⟩ ?_
      refine J.ret ?_
      exact J.done hw0 (fun _ _ h => h) (rv2 rfl (RV.blkA 1 rfl rfl Tryz.isAgg31 Tryz.sizeOf31) rfl) (retOk () (by have he := dp_ok (s := s) (by omega) (by omega); unfold dpV dpO dpR dpH; rw [he, if_pos rfl, if_pos rfl, if_pos rfl, ho1, ho2, hn]) trivial [0] rfl (by decide))

theorem eqPub (d : Nat) (o r o' r' : List UInt8) (h h' : Int) (w : World) : (Op.equalIn (d + 2) 31 (.agg #[Str o, Str r, I h]) (.agg #[Str o', Str r', I h'])).run Tryz.prog w = .ok (decide (o = o' ∧ r = r' ∧ h = h')) w := by
  have u3 := Tryz.underlying3
  have a3 := Tryz.isAgg3
  have us := Tryz.underlying9
  have ag := Tryz.isAgg9
  have hS : Tryz.prog.underlying 31 = some (.struct (Tryz.prog.fieldsOf 31)) := by kernel_rfl
  have hp : Tryz.prog.stoodInHeld 31 = false := by kernel_rfl
  rw [show d + 2 = (d + 1) + 1 from rfl, run_equalIn_struct w (d + 1) 31 _ _ hS hp]
  simp only [Program.fieldsOf, Tryz.underlying31]
  have hi : ∀ (a b : Int) (w : World), (Op.equalIn (d + 1) 3 (.int .i64 a) (.int .i64 b)).run Tryz.prog w = .ok (a == b) w := fun a b w => run_equalIn_int w d 3 .i64 .i64 a b u3
  have hs : ∀ (a b : List UInt8) (w : World), (Op.equalIn (d + 1) 9 (Str a) (Str b)).run Tryz.prog w = .ok (decide (a = b)) w := fun a b w => by rw [run_equalIn_string w d 9 _ _ us, bytes_beq]
  simp only [Op.eqFields]
  simp [part, a3, ag, hi, hs]
  by_cases h1 : o = o' <;> by_cases h2 : r = r' <;> by_cases h3 : h = h' <;> simp [h1, h2, h3]

theorem numB_zero (n : UInt64) : Sha.numB n 0 = [] := rfl
theorem numB_cons (n t : Nat) (hn : n < 18446744073709551616) (ht : t < 8) : Sha.numB (UInt64.ofNat n) (t + 1) = UInt8.ofNat (n / 256 ^ t % 256) :: Sha.numB (UInt64.ofNat n) t := by
  unfold Sha.numB
  rw [List.range_succ_eq_map, List.map_cons, List.map_map]
  congr 1
  · rw [ofNat64 hn, Nat.min_eq_left (by omega), show t + 1 - 1 - 0 = t by omega, Nat.pow_mul]
    apply UInt8.toNat_inj.1
    rw [UInt64.toNat_toUInt8, ofNat64 (Nat.lt_of_le_of_lt (Nat.div_le_self _ _) hn), UInt8.toNat_ofNat']; simp
  · apply List.map_congr_left
    intro i hi
    rw [List.mem_range] at hi
    simp only [Function.comp, Nat.succ_eq_add_one, ofNat64 hn]
    rw [show t + 1 - 1 - (i + 1) = t - 1 - i by omega]
theorem pow_le8 (t : Nat) (ht : t ≤ 8) : 256 ^ t ≤ 18446744073709551616 := Nat.le_trans (Nat.pow_le_pow_right (by omega) ht) (by decide)

def noughts : List UInt8 := List.replicate 16 0
theorem natB_foldl (l : List UInt8) : ∀ a : Nat, l.foldl (fun n c => n * 256 + c.toNat) a = a * 256 ^ l.length + natB l := by
  induction l with
  | nil => intro a; simp [natB]
  | cons c l ih =>
    intro a
    unfold natB
    rw [List.foldl_cons, List.foldl_cons, ih, ih (0 * 256 + c.toNat), List.length_cons, Nat.pow_succ, Nat.add_mul, Nat.add_mul, Nat.mul_assoc, Nat.mul_comm 256]
    omega
theorem natB_cons (c : UInt8) (l : List UInt8) : natB (c :: l) = c.toNat * 256 ^ l.length + natB l := by
  rw [natB, List.foldl_cons, natB_foldl, Nat.zero_mul, Nat.zero_add]
theorem natB_numB (n : Nat) (hn : n < 18446744073709551616) : ∀ t, t ≤ 8 → natB (Sha.numB (UInt64.ofNat n) t) = n % 256 ^ t := by
  intro t
  induction t with
  | zero => intro _; rw [numB_zero]; simp [natB, Nat.mod_one]
  | succ t ih =>
    intro ht
    rw [numB_cons n t hn (by omega), natB_cons, Sha.numB_length, ih (by omega), UInt8.toNat_ofNat', show (2 ^ 8 : Nat) = 256 from rfl, Nat.mod_mod, Nat.pow_succ, Nat.mod_mul, Nat.mul_comm, Nat.add_comm]
theorem numB_add (c m t : Nat) (hc : c * 256 ^ t + m < 18446744073709551616) : ∀ k, k ≤ t → k ≤ 8 → Sha.numB (UInt64.ofNat (c * 256 ^ t + m)) k = Sha.numB (UInt64.ofNat m) k := by
  intro k
  induction k with
  | zero => intro _ _; rfl
  | succ k ih =>
    intro hk h8
    rw [numB_cons _ k hc (by omega), numB_cons m k (by omega) (by omega), ih (by omega) (by omega)]
    congr 2
    obtain ⟨d, rfl⟩ : ∃ d, t = k + 1 + d := ⟨t - k - 1, by omega⟩
    have e : c * 256 ^ (k + 1 + d) = 256 ^ k * (c * 256 ^ d * 256) := by rw [Nat.pow_add, Nat.pow_succ]; ac_rfl
    rw [e, Nat.mul_add_div (Nat.pow_pos (by omega)), Nat.mul_comm, Nat.mul_add_mod]
theorem numB_natB : ∀ (l : List UInt8), l.length ≤ 8 → Sha.numB (UInt64.ofNat (natB l)) l.length = l := by
  intro l
  induction l with
  | nil => intro _; rfl
  | cons c l ih =>
    intro hl
    rw [List.length_cons] at hl
    have h1 := natB_lt (c :: l)
    have h2 := pow_le8 (l.length + 1) hl
    have h3 := natB_lt l
    rw [List.length_cons] at h1
    rw [natB_cons] at h1 ⊢
    rw [List.length_cons, numB_cons _ _ (by omega) (by omega), numB_add _ _ _ (by omega) _ (Nat.le_refl _) (by omega), ih (by omega)]
    congr 1
    apply UInt8.toNat_inj.1
    have h4 := c.toNat_lt
    rw [UInt8.toNat_ofNat', Nat.mul_comm, Nat.mul_add_div (Nat.pow_pos (by omega)), Nat.div_eq_of_lt h3]
    simp only [Nat.reducePow] at h4 ⊢
    omega

end Go.Proofs.YtnkfapecbmmpeaaGreatDoor
