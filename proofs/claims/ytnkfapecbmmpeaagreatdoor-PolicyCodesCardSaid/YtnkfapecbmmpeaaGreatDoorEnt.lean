/- A part of the proof: contracts of functions of the program, each for every state of the heaps that it names. -/
import Derived.Test.YtnkfapecbmmpeaaGreatDoorPub
import Derived.Test.YtnkfapecbmmpeaaGreatDoorLibM
set_option linter.unusedSimpArgs false
set_option linter.unusedVariables false
namespace Go.Proofs.YtnkfapecbmmpeaaGreatDoor
open Go Go.Fw
set_option maxRecDepth 100000
set_option maxHeartbeats 1000000
theorem ent12 : Enters Tryz.prog 12 := Enters.of Tryz.func12 rfl (by kernel_rfl)
theorem ent17 : Enters Tryz.prog 17 := Enters.of Tryz.func17 rfl (by kernel_rfl)
theorem ent33 : Enters Tryz.prog 33 := Enters.of Tryz.func33 rfl (by kernel_rfl)
theorem ent39 : Enters Tryz.prog 39 := Enters.of Tryz.func39 rfl (by kernel_rfl)
theorem ent53 : Enters Tryz.prog 53 := Enters.of Tryz.func53 rfl (by kernel_rfl)
theorem ent58 : Enters Tryz.prog 58 := Enters.of Tryz.func58 rfl (by kernel_rfl)

def enErr (v : Nat) (o r : List UInt8) (h : Int) (p : List UInt8) : Int := if v < 1 ∨ 4294967295 < v then 13 else if pubErr o r h = 0 ∧ p.length = 16 then 0 else 10
def enEnc (v : Nat) (o r : List UInt8) (h : Int) (p : List UInt8) : List UInt8 := if enErr v o r h p = 0 then Sha.numB (UInt64.ofNat v) 4 ++ pubEnc o r h ++ p else []
def enV (v : Nat) (o r : List UInt8) (h : Int) (p : List UInt8) : Value := .tuple #[Str (enEnc v o r h p), I (enErr v o r h p)]
theorem enV_no {v : Nat} {o r : List UInt8} {h : Int} {p : List UInt8} {e : Int} (he : enErr v o r h p = e) (h0 : e ≠ 0) : Value.tuple #[Str [], I e] = enV v o r h p := by
  unfold enV enEnc
  rw [he, if_neg h0]
theorem en_13 {v : Nat} {o r : List UInt8} {h : Int} {p : List UInt8} (hv : v < 1 ∨ 4294967295 < v) : enErr v o r h p = 13 := if_pos hv
theorem pubErr_10 {o r : List UInt8} {h : Int} (he : ¬ pubErr o r h = 0) : pubErr o r h = 10 := by
  unfold pubErr at he ⊢
  split at he
  · omega
  · rename_i h1; rw [if_neg h1]
theorem en_10 {v : Nat} {o r : List UInt8} {h : Int} {p : List UInt8} (h1 : ¬ v < 1) (h2 : ¬ 4294967295 < v) (he : ¬ pubErr o r h = 0) : enErr v o r h p = 10 := by
  unfold enErr
  rw [if_neg (by omega), if_neg (fun e => he e.1)]
theorem en_val {v : Nat} {o r : List UInt8} {h : Int} {p : List UInt8} (h1 : ¬ v < 1) (h2 : ¬ 4294967295 < v) (he : pubErr o r h = 0) :
    Value.tuple #[Str (if fbad (okF p 16) 10 0 = 0 then wfix p 16 (Sha.numB (UInt64.ofNat v) 4 ++ pubEnc o r h) 0 else []), I (fbad (okF p 16) 10 0)] = enV v o r h p := by
  unfold enV enEnc
  by_cases h3 : p.length = 16
  · have e : enErr v o r h p = 0 := by unfold enErr; rw [if_neg (by omega), if_pos ⟨he, h3⟩]
    rw [e, okF_t h3, fbad_t, if_pos rfl, if_pos rfl, wfix_t h3]
  · have e : enErr v o r h p = 10 := by unfold enErr; rw [if_neg (by omega), if_neg (fun e => h3 e.2)]
    have e2 : fbad (okF p 16) 10 0 = 10 := by rw [okF_f h3]; rfl
    rw [e, e2, if_neg (by decide), if_neg (by decide)]

theorem eencode_ct (F : Hp) (v : Nat) (o r : List UInt8) (h : Int) (p : List UInt8) (hv : v < 18446744073709551616) (ho : o.length ≤ 1048576) (hr : r.length ≤ 1048576) (hp : p.length ≤ 1048576) :
    Ct Tryz.prog 17 [.agg #[N64 v, Str o, Str r, I h, Str p]] [F] (fun _ : Unit => enV v o r h p) (fun _ => True) (fun _ => [F]) := by
  refine Ct.walk Tryz.func17 rfl Tryz.ntmps17 rfl (fun w0 hw0 => ?_)
  change J _ [(0, _)] _ _ _
  refine J.seq (fun K1 hK1 => ?_)
  refine J.region ?_
  refine J.e (op_box rfl rfl (l := [N64 v, Str o, Str r, I h, Str p]) rfl) rfl rfl rfl ?_
  intro g1 _
  change J _ _ _ [F, blk g1 [N64 v, Str o, Str r, I h, Str p] 34] _
  refine J.y (op_assign rfl rfl) rfl rfl rfl ?_
  refine J.y (op_assign rfl rfl) rfl rfl rfl ?_
  refine J.nil ?_
  refine J.then_n (J.k hK1 ?_)
  refine J.keepE [(1, _)] ⟨rfl, trivial⟩ ?_
  refine J.seq (fun K2 hK2 => ?_)
  refine J.seq (fun K3 hK3 => ?_)
  refine J.region ?_
  refine J.y (op_fieldAddr (j := 0) rfl rfl Tryz.underlying34 rfl Tryz.sizeOf29 rfl) rfl rfl rfl ?_
  refine J.y (op_loadB 1 rfl rfl rfl Tryz.isAgg29 rfl) rfl rfl rfl ?_
  refine J.y (op_lss rfl rfl rfl) rfl rfl rfl ?_
  refine J.y (op_move rfl rfl) rfl rfl rfl ?_
  refine J.split (d := 10) rfl (fun h10 => ?_) (fun h10 => ?_)
  ·
    refine J.no (Wan.is rfl rfl rfl rfl rfl) rfl rfl ?_
    refine J.no (Wan.is rfl rfl rfl rfl rfl) rfl rfl ?_
    refine J.no (Wan.is rfl rfl rfl rfl rfl) rfl rfl ?_
    refine J.y (op_pickT rfl rfl rfl) rfl rfl rfl ?_
    refine J.nil ?_
    refine J.then_n (J.k hK3 ?_)
    refine J.keepE [(1, _), (14, _)] ⟨rfl, rfl, trivial⟩ ?_
    refine J.condT rfl rfl ?_
    refine J.seq (fun K4 hK4 => ?_)
    refine J.region ?_
    refine J.y (op_assign rfl rfl) rfl rfl rfl ?_
    refine J.y (op_assign rfl rfl) rfl rfl rfl ?_
    refine J.nil ?_
    refine J.then_n (J.k hK4 ?_)
    refine J.keepE [(2, _), (3, _)] ⟨rfl, rfl, trivial⟩ ?_
    refine J.ret ?_
    refine J.then_r ?_
    exact J.done hw0 (fun _ _ h => h) (res2 rfl rfl rfl) (retOk () (enV_no (en_13 (by omega)) (by decide)) trivial [0] rfl (by decide))
  ·
    refine J.yg (Wan.is rfl rfl rfl rfl rfl) (op_fieldAddr (j := 0) rfl rfl Tryz.underlying34 rfl Tryz.sizeOf29 rfl) rfl rfl ?_
    refine J.yg (Wan.is rfl rfl rfl rfl rfl) (op_loadB 1 rfl rfl rfl Tryz.isAgg29 rfl) rfl rfl ?_
    refine J.yg (Wan.is rfl rfl rfl rfl rfl) (op_gtr rfl rfl rfl) rfl rfl ?_
    refine J.y (op_pickF rfl rfl rfl) rfl rfl rfl ?_
    refine J.nil ?_
    refine J.then_n (J.k hK3 ?_)
    refine J.keepE [(1, _), (14, _)] ⟨rfl, rfl, trivial⟩ ?_
    refine J.ite rfl (fun h14 => ?_) (fun h14 => ?_)
    ·
      refine J.seq (fun K5 hK5 => ?_)
      refine J.region ?_
      refine J.y (op_assign rfl rfl) rfl rfl rfl ?_
      refine J.y (op_assign rfl rfl) rfl rfl rfl ?_
      refine J.nil ?_
      refine J.then_n (J.k hK5 ?_)
      refine J.keepE [(2, _), (3, _)] ⟨rfl, rfl, trivial⟩ ?_
      refine J.ret ?_
      refine J.then_r ?_
      exact J.done hw0 (fun _ _ h => h) (res2 rfl rfl rfl) (retOk () (enV_no (en_13 (by omega)) (by decide)) trivial [0] rfl (by decide))
    ·
      refine J.skip ?_
      refine J.then_n (J.k hK2 ?_)
      refine J.keepE [(1, _)] ⟨rfl, trivial⟩ ?_
      refine J.seq (fun K6 hK6 => ?_)
      refine J.region ?_
      refine J.y (op_fieldAddr (j := 1) rfl rfl Tryz.underlying34 rfl Tryz.sizeOf31 rfl) rfl rfl rfl ?_
      refine J.y (op_loadMA 1 rfl rfl Tryz.isAgg31 Tryz.sizeOf31 (vs := [Str o, Str r, I h]) rfl (Cells.blk 1 (fun j u hj => by match j with | 0 => exact hj | 1 => exact hj | 2 => exact hj)) rfl) rfl rfl rfl ?_
      refine J.e (op_call rfl rfl ent39 (Ct.use0 (fun F' hF => pencode_ct F' o r h ho hr))) rfl rfl rfl ?_
      intro g18 _
      refine J.y (op_move rfl rfl) rfl rfl rfl ?_
      refine J.y (op_extract (v := Str (pubEnc o r h)) rfl rfl rfl) rfl rfl rfl ?_
      refine J.y (op_extract (v := I (pubErr o r h)) rfl rfl rfl) rfl rfl rfl ?_
      refine J.y (op_assign rfl rfl) rfl rfl rfl ?_
      refine J.y (op_assign rfl rfl) rfl rfl rfl ?_
      refine J.nil ?_
      refine J.then_n (J.k hK6 ?_)
      refine J.keepE [(1, _), (4, _), (5, _)] ⟨rfl, rfl, rfl, trivial⟩ ?_
      refine J.seq (fun K7 hK7 => ?_)
      refine J.seq (fun K8 hK8 => ?_)
      refine J.region ?_
      refine J.y (op_move rfl rfl) rfl rfl rfl ?_
      refine J.y (op_neq rfl rfl rfl) rfl rfl rfl ?_
      refine J.nil ?_
      refine J.then_n (J.k hK8 ?_)
      refine J.keepE [(1, _), (4, _), (5, _), (22, _)] ⟨rfl, rfl, rfl, rfl, trivial⟩ ?_
      refine J.ite rfl (fun h22 => ?_) (fun h22 => ?_)
      ·
        refine J.seq (fun K9 hK9 => ?_)
        refine J.region ?_
        refine J.y (op_move rfl rfl) rfl rfl rfl ?_
        refine J.y (op_assign rfl rfl) rfl rfl rfl ?_
        refine J.y (op_assign rfl rfl) rfl rfl rfl ?_
        refine J.nil ?_
        refine J.then_n (J.k hK9 ?_)
        refine J.keepE [(2, _), (3, _)] ⟨rfl, rfl, trivial⟩ ?_
        refine J.ret ?_
        refine J.then_r ?_
        exact J.done hw0 (fun _ _ h => h) (res2 rfl rfl rfl) (retOk () (enV_no ((en_10 (by omega) (by omega) (by omega)).trans (pubErr_10 (by omega)).symm) (by omega)) trivial [0] rfl (by decide))
      ·
        refine J.skip ?_
        refine J.then_n (J.k hK7 ?_)
        refine J.keepE [(1, _), (4, _)] ⟨rfl, rfl, trivial⟩ ?_
        refine J.seq (fun K10 hK10 => ?_)
        have hk0 : pubErr o r h = 0 := by omega
        have hkl := pubEnc_len hk0
        refine J.region ?_
        refine J.e (op_alloc rfl Tryz.zeroValue63 rfl) rfl rfl rfl ?_
        intro g6 _
        change J _ _ _ [F, blk g1 [N64 v, Str o, Str r, I h, Str p] 34, blk g6 _ 63] _
        refine J.nil ?_
        refine J.then_n (J.k hK10 ?_)
        refine J.keepE [(1, _), (4, _), (6, _)] ⟨rfl, rfl, rfl, trivial⟩ ?_
        refine J.seq (fun K11 hK11 => ?_)
        refine J.draw [blk g1 [N64 v, Str o, Str r, I h, Str p] 34] [] (.y 0 (.y 1 (.y 3 (.y 5 (.y 6 (.e 2 (.e 4 (.e 7 (.e 8 (.y 9 (.y 10 (.y 11 (.y 12 .nil))))))))))))) Tryz.wide (by decide +kernel) (by simp) ?_
        refine J.dy rfl (op_fieldAddr (j := 0) rfl rfl Tryz.underlying34 rfl Tryz.sizeOf29 rfl) rfl rfl rfl rfl ?_
        refine J.dy rfl (op_loadB 0 rfl rfl rfl Tryz.isAgg29 rfl) rfl rfl rfl rfl ?_
        refine J.dy rfl (op_move rfl rfl) rfl rfl rfl rfl ?_
        refine J.dy rfl (op_fieldAddr (j := 4) rfl rfl Tryz.underlying34 rfl Tryz.sizeOf9 rfl) rfl rfl rfl rfl ?_
        refine J.dy rfl (op_loadB 0 rfl rfl rfl Tryz.isAgg9 rfl) rfl rfl rfl rfl ?_
        refine J.de rfl (op_call rfl rfl ent40 (Ct.use1 2 (m' := fun x : Hp => x) (new := fun _ => []) rfl (fun F' _ => numN_ct F' (blk g6 [.pointer none, .slice none 0 0, I 0] 63) g6 [] 0 (wtr_new g6) (by decide) v hv 4 (by omega) (by omega)))) rfl rfl rfl (by simp) ?_
        rintro m26 hw26
        change J _ _ _ [F, blk g1 [N64 v, Str o, Str r, I h, Str p] 34, m26] _
        rw [okN_t (size := 4) hv (by omega), fbad_t, wnum_ok (okN_t (size := 4) hv (by omega)), List.nil_append] at hw26
        refine J.de rfl (op_call rfl rfl ent41 (Ct.use1 2 (m' := fun x : Hp => x) (new := fun _ => []) rfl (fun F' _ => fixed_ct F' m26 g6 (Sha.numB (UInt64.ofNat v) 4) 0 hw26 (by rw [Sha.numB_length]; omega) (pubEnc o r h) (by omega) 33))) rfl rfl rfl (by simp) ?_
        rintro m28 hw28
        change J _ _ _ [F, blk g1 [N64 v, Str o, Str r, I h, Str p] 34, m28] _
        rw [wfix_t hkl, okF_t hkl, fbad_t] at hw28
        refine J.de rfl (op_call rfl rfl ent41 (Ct.use1 2 (m' := fun x : Hp => x) (new := fun _ => []) rfl (fun F' _ => fixed_ct F' m28 g6 ((Sha.numB (UInt64.ofNat v) 4) ++ pubEnc o r h) 0 hw28 (by rw [List.length_append, Sha.numB_length]; omega) p (by omega) 16))) rfl rfl rfl (by simp) ?_
        rintro m31 hw31
        change J _ _ _ [F, blk g1 [N64 v, Str o, Str r, I h, Str p] 34, m31] _
        refine J.de rfl (op_call rfl rfl ent22 (Ct.use1 2 (m' := fun x : Hp => x) (new := fun _ => []) rfl (fun F' _ => bytes_ct F' m31 g6 (wfix p 16 ((Sha.numB (UInt64.ofNat v) 4) ++ pubEnc o r h) 0) (fbad (okF p 16) 10 0) hw31 (by have := wfix_len p 16 ((Sha.numB (UInt64.ofNat v) 4) ++ pubEnc o r h) 0; rw [List.length_append, Sha.numB_length] at this; omega)))) rfl rfl rfl (by simp) ?_
        rintro m32 hw32
        change J _ _ _ [F, blk g1 [N64 v, Str o, Str r, I h, Str p] 34, m32] _
        refine J.dy rfl (op_extract (v := Str (if fbad (okF p 16) 10 0 = 0 then wfix p 16 ((Sha.numB (UInt64.ofNat v) 4) ++ pubEnc o r h) 0 else [])) rfl rfl rfl) rfl rfl rfl rfl ?_
        refine J.dy rfl (op_extract (v := I (fbad (okF p 16) 10 0)) rfl rfl rfl) rfl rfl rfl rfl ?_
        refine J.dy rfl (op_assign rfl rfl) rfl rfl rfl rfl ?_
        refine J.dy rfl (op_assign rfl rfl) rfl rfl rfl rfl ?_
        refine J.dnil ?_
        refine J.then_n (J.k hK11 ?_)
        refine J.keepE [(2, _), (3, _)] ⟨rfl, rfl, trivial⟩ ?_
        refine J.ret ?_
        exact J.done hw0 (fun _ _ h => h) (res2 rfl rfl rfl) (retOk () (en_val (by omega) (by omega) hk0) trivial [0] rfl (by decide))

def deK (s : List UInt8) : List UInt8 := (s.drop 4).take 33
def deE (s : List UInt8) : Int := if s.length < 53 then 3 else if 53 < s.length then 2 else if 6 < (s.getD 36 0).toNat then 4 else if natB (s.take 4) < 1 then 13 else 0
def deN (s : List UInt8) : Nat := if deE s = 0 then natB (s.take 4) else 0
def deO (s : List UInt8) : List UInt8 := if deE s = 0 then dpO (deK s) else []
def deR (s : List UInt8) : List UInt8 := if deE s = 0 then dpR (deK s) else []
def deH (s : List UInt8) : Nat := if deE s = 0 then dpH (deK s) else 0
def deP (s : List UInt8) : List UInt8 := if deE s = 0 then (s.drop 37).take 16 else []
def deV (s : List UInt8) : Value := .tuple #[.agg #[N64 (deN s), Str (deO s), Str (deR s), I (deH s), Str (deP s)], I (deE s)]
theorem deV_no {s : List UInt8} {e : Int} (h : deE s = e) (he : e ≠ 0) : Value.tuple #[.agg #[N64 0, Str [], Str [], I 0, Str []], I e] = deV s := by
  unfold deV deN deO deR deH deP
  rw [h, if_neg he, if_neg he, if_neg he, if_neg he, if_neg he]; rfl
theorem de_last (s : List UInt8) : ((((⟨s, 0⟩ : RS).take 4).take 33).take 16).last = if s.length < 53 then 3 else if 53 < s.length then 2 else 0 := last_takes [4, 33, 16] s
theorem de_len {s : List UInt8} (h : ((((⟨s, 0⟩ : RS).take 4).take 33).take 16).last = 0) : s.length = 53 := by
  rw [de_last] at h
  by_cases h1 : s.length < 53
  · rw [if_pos h1] at h; omega
  · rw [if_neg h1] at h
    by_cases h2 : 53 < s.length
    · rw [if_pos h2] at h; omega
    · omega
theorem de_out {s : List UInt8} (hl : s.length = 53) : (⟨s, 0⟩ : RS).out 4 = s.take 4 ∧ ((⟨s, 0⟩ : RS).take 4).out 33 = deK s ∧ (((⟨s, 0⟩ : RS).take 4).take 33).out 16 = (s.drop 37).take 16 := by
  refine ⟨out_ok (by omega), ?_, ?_⟩
  · rw [take_ok (by omega), out_ok (by rw [List.length_drop]; omega)]; rfl
  · rw [take_ok (by omega), take_ok (by rw [List.length_drop]; omega), out_ok (by rw [List.length_drop, List.length_drop]; omega), List.drop_drop]
theorem deK_len {s : List UInt8} (hl : s.length = 53) : (deK s).length = 33 := by
  unfold deK
  rw [List.length_take, List.length_drop]; omega
theorem deK_get {s : List UInt8} : (deK s).getD 32 0 = s.getD 36 0 := by
  unfold deK
  rw [List.getD_eq_getElem?_getD, List.getD_eq_getElem?_getD, List.getElem?_take_of_lt (by decide), List.getElem?_drop]
theorem deK_e {s : List UInt8} (hl : s.length = 53) : dpE (deK s) = if 6 < (s.getD 36 0).toNat then 4 else 0 := by
  unfold dpE
  rw [deK_len hl, if_neg (by decide), if_neg (by decide), deK_get]
theorem de_e {s : List UInt8} (h : ¬ ((((⟨s, 0⟩ : RS).take 4).take 33).take 16).last = 0) : deE s = ((((⟨s, 0⟩ : RS).take 4).take 33).take 16).last := by
  rw [de_last] at h ⊢
  unfold deE
  by_cases h1 : s.length < 53
  · rw [if_pos h1, if_pos h1]
  · rw [if_neg h1, if_neg h1]
    rw [if_neg h1] at h
    by_cases h2 : 53 < s.length
    · rw [if_pos h2, if_pos h2]
    · rw [if_neg h2] at h; exact absurd rfl h
theorem de_4 {s : List UInt8} (hl : s.length = 53) (h : ¬ dpE (deK s) = 0) : deE s = dpE (deK s) := by
  have he := deK_e hl
  unfold deE
  rw [he] at h ⊢
  rw [if_neg (by omega), if_neg (by omega)]
  by_cases h6 : 6 < (s.getD 36 0).toNat
  · rw [if_pos h6, if_pos h6]
  · rw [if_neg h6] at h; exact absurd rfl h
theorem de_v {s : List UInt8} (hl : s.length = 53) (h : dpE (deK s) = 0) : deE s = if natB (s.take 4) < 1 then 13 else 0 := by
  have he := deK_e hl
  rw [he] at h
  unfold deE
  have h6 : ¬ 6 < (s.getD 36 0).toNat := fun h6 => by rw [if_pos h6] at h; omega
  rw [if_neg (by omega), if_neg (by omega), if_neg h6]

theorem edecode_ct (F : Hp) (s : List UInt8) :
    Ct Tryz.prog 26 [Str s] [F] (fun _ : Unit => deV s) (fun _ => True) (fun _ => [F]) := by
  refine Ct.walk Tryz.func26 rfl Tryz.ntmps26 rfl (fun w0 hw0 => ?_)
  change J _ [(0, _)] _ _ _
  refine J.seq (fun K1 hK1 => ?_)
  refine J.region ?_
  refine J.e (op_alloc rfl Tryz.zeroValue34 rfl) rfl rfl rfl ?_
  intro g2 _
  change J _ _ _ [F, blk g2 _ 34] _
  refine J.y (op_assign rfl rfl) rfl rfl rfl ?_
  refine J.nil ?_
  refine J.then_n (J.k hK1 ?_)
  refine J.keepE [(0, _), (2, _)] ⟨rfl, rfl, trivial⟩ ?_
  refine J.seq (fun K2 hK2 => ?_)
  refine J.region ?_
  refine J.y (op_move rfl rfl) rfl rfl rfl ?_
  refine J.e (op_call rfl rfl ent23 (Ct.use (new := fun g => [RSb g ⟨s, 0⟩]) (fun F' _ => (read_ct F' s).mono (φ2 := fun _ => True) (val2 := Ptr) (ms2 := fun g => F' :: [RSb g ⟨s, 0⟩]) id (fun _ _ => rfl) (fun _ h => h) (fun x w0 w _ h => h.pick [1, 0] (by decide))))) rfl rfl rfl ?_
  rintro g11 _
  change J _ _ _ [F, blk g2 _ 34, RSb g11 (⟨s, 0⟩ : RS)] _
  refine J.y (op_assign rfl rfl) rfl rfl rfl ?_
  refine J.nil ?_
  refine J.then_n (J.k hK2 ?_)
  refine J.keepE [(2, _), (4, _)] ⟨rfl, rfl, trivial⟩ ?_
  refine J.seq (fun K3 hK3 => ?_)
  refine J.region ?_
  refine J.y (op_move rfl rfl) rfl rfl rfl ?_
  refine J.e (op_call rfl rfl ent50 (Ct.use1 2 (m' := fun _ : Unit => RSb g11 ((⟨s, 0⟩ : RS).take 4)) (new := fun _ => []) rfl (fun F' _ => rnum_ct F' g11 (⟨s, 0⟩ : RS) 4 (by omega) (by omega)))) rfl rfl rfl ?_
  intro g13 _
  change J _ _ _ [F, blk g2 _ 34, RSb g11 ((⟨s, 0⟩ : RS).take 4)] _
  refine J.y (op_buildStruct (l := [(0, .tmp 13)]) (vs := [N64 (natB ((⟨s, 0⟩ : RS).out 4))]) (places := [(0, 1), (1, 3), (4, 1)]) (r := [N64 (natB ((⟨s, 0⟩ : RS).out 4)), Str [], Str [], I 0, Str []]) rfl rfl rfl Tryz.underlying34 Tryz.zeroValue34 (fun _ => by kernel_rfl) rfl) rfl rfl rfl ?_
  refine J.e (op_alloc rfl Tryz.zeroValue34 rfl) rfl rfl rfl ?_
  intro g5 _
  change J _ _ _ [F, blk g2 _ 34, RSb g11 ((⟨s, 0⟩ : RS).take 4), blk g5 _ 34] _
  refine J.s (op_storeAll (l := [N64 0, Str [], Str [], I 0, Str []]) (i := 3) (vs := [N64 (natB ((⟨s, 0⟩ : RS).out 4)), Str [], Str [], I 0, Str []]) rfl rfl rfl rfl rfl Tryz.sizeOf34 rfl rfl) rfl rfl (fun _ _ => ?_)
  change J _ _ _ [F, blk g2 _ 34, RSb g11 ((⟨s, 0⟩ : RS).take 4), blk g5 [N64 (natB ((⟨s, 0⟩ : RS).out 4)), Str [], Str [], I 0, Str []] 34] _
  refine J.nil ?_
  refine J.then_n (J.k hK3 ?_)
  refine J.keepE [(2, _), (4, _), (5, _)] ⟨rfl, rfl, rfl, trivial⟩ ?_
  refine J.seq (fun K4 hK4 => ?_)
  refine J.region ?_
  refine J.y (op_move rfl rfl) rfl rfl rfl ?_
  refine J.e (op_call rfl rfl ent52 (Ct.use1 2 (m' := fun _ : Unit => RSb g11 (((⟨s, 0⟩ : RS).take 4).take 33)) (new := fun _ => []) rfl (fun F' _ => rfixed_ct F' g11 ((⟨s, 0⟩ : RS).take 4) 33))) rfl rfl rfl ?_
  intro g16 _
  change J _ _ _ [F, blk g2 _ 34, RSb g11 (((⟨s, 0⟩ : RS).take 4).take 33), blk g5 [N64 (natB ((⟨s, 0⟩ : RS).out 4)), Str [], Str [], I 0, Str []] 34] _
  refine J.y (op_assign rfl rfl) rfl rfl rfl ?_
  refine J.nil ?_
  refine J.then_n (J.k hK4 ?_)
  refine J.keepE [(2, _), (4, _), (5, _), (6, _)] ⟨rfl, rfl, rfl, rfl, trivial⟩ ?_
  refine J.seq (fun K5 hK5 => ?_)
  refine J.region ?_
  refine J.y (op_move rfl rfl) rfl rfl rfl ?_
  refine J.e (op_call rfl rfl ent52 (Ct.use1 2 (m' := fun _ : Unit => RSb g11 ((((⟨s, 0⟩ : RS).take 4).take 33).take 16)) (new := fun _ => []) rfl (fun F' _ => rfixed_ct F' g11 (((⟨s, 0⟩ : RS).take 4).take 33) 16))) rfl rfl rfl ?_
  intro g18 _
  change J _ _ _ [F, blk g2 _ 34, RSb g11 ((((⟨s, 0⟩ : RS).take 4).take 33).take 16), blk g5 [N64 (natB ((⟨s, 0⟩ : RS).out 4)), Str [], Str [], I 0, Str []] 34] _
  refine J.y (op_fieldAddr (j := 4) rfl rfl Tryz.underlying34 rfl Tryz.sizeOf9 rfl) rfl rfl rfl ?_
  refine J.s (op_store (i := 3) (vs := [Str ((((⟨s, 0⟩ : RS).take 4).take 33).out 16)]) rfl rfl rfl rfl rfl Tryz.sizeOf9 rfl (by simp)) rfl rfl (fun _ _ => ?_)
  change J _ _ _ [F, blk g2 _ 34, RSb g11 ((((⟨s, 0⟩ : RS).take 4).take 33).take 16), blk g5 [N64 (natB ((⟨s, 0⟩ : RS).out 4)), Str [], Str [], I 0, Str ((((⟨s, 0⟩ : RS).take 4).take 33).out 16)] 34] _
  refine J.nil ?_
  refine J.then_n (J.k hK5 ?_)
  refine J.keepE [(2, _), (4, _), (5, _), (6, _)] ⟨rfl, rfl, rfl, rfl, trivial⟩ ?_
  refine J.seq (fun K6 hK6 => ?_)
  refine J.seq (fun K7 hK7 => ?_)
  refine J.region ?_
  refine J.y (op_move rfl rfl) rfl rfl rfl ?_
  refine J.e (op_call rfl rfl ent25 (Ct.use1 2 (m' := fun _ : Unit => RSb g11 ((((⟨s, 0⟩ : RS).take 4).take 33).take 16)) (new := fun _ => []) rfl (fun F' _ => end_ct F' g11 ((((⟨s, 0⟩ : RS).take 4).take 33).take 16)))) rfl rfl rfl ?_
  intro g21 _
  change J _ _ _ [F, blk g2 _ 34, RSb g11 ((((⟨s, 0⟩ : RS).take 4).take 33).take 16), blk g5 [N64 (natB ((⟨s, 0⟩ : RS).out 4)), Str [], Str [], I 0, Str ((((⟨s, 0⟩ : RS).take 4).take 33).out 16)] 34] _
  refine J.y (op_assign rfl rfl) rfl rfl rfl ?_
  refine J.nil ?_
  refine J.then_n (J.k hK7 ?_)
  refine J.keepE [(2, _), (5, _), (6, _), (7, _)] ⟨rfl, rfl, rfl, rfl, trivial⟩ ?_
  refine J.seq (fun K8 hK8 => ?_)
  refine J.region ?_
  refine J.y (op_move rfl rfl) rfl rfl rfl ?_
  refine J.y (op_neq rfl rfl rfl) rfl rfl rfl ?_
  refine J.nil ?_
  refine J.then_n (J.k hK8 ?_)
  refine J.keepE [(2, _), (5, _), (6, _), (7, _), (23, _)] ⟨rfl, rfl, rfl, rfl, rfl, trivial⟩ ?_
  refine J.ite rfl (fun h23 => ?_) (fun h23 => ?_)
  ·
    refine J.seq (fun K9 hK9 => ?_)
    refine J.region ?_
    refine J.y (op_buildStruct (l := []) (vs := []) (places := [(0, 1), (1, 3), (4, 1)]) (r := [N64 0, Str [], Str [], I 0, Str []]) rfl rfl rfl Tryz.underlying34 Tryz.zeroValue34 (fun _ => by kernel_rfl) rfl) rfl rfl rfl ?_
    refine J.y (op_move rfl rfl) rfl rfl rfl ?_
    refine J.s (op_storeAll (l := [N64 0, Str [], Str [], I 0, Str []]) (i := 1) (vs := [N64 0, Str [], Str [], I 0, Str []]) rfl rfl rfl rfl rfl Tryz.sizeOf34 rfl rfl) rfl rfl (fun _ _ => ?_)
    change J _ _ _ [F, blk g2 [N64 0, Str [], Str [], I 0, Str []] 34, RSb g11 ((((⟨s, 0⟩ : RS).take 4).take 33).take 16), blk g5 [N64 (natB ((⟨s, 0⟩ : RS).out 4)), Str [], Str [], I 0, Str ((((⟨s, 0⟩ : RS).take 4).take 33).out 16)] 34] _
    refine J.y (op_assign rfl rfl) rfl rfl rfl ?_
    refine J.nil ?_
    refine J.then_n (J.k hK9 ?_)
    refine J.keepE [(2, _), (3, _)] ⟨rfl, rfl, trivial⟩ ?_
    refine J.ret ?_
    refine J.then_r ?_
    exact J.done hw0 (fun _ _ h => h) (rv2 rfl (RV.blkA 1 rfl rfl Tryz.isAgg34 Tryz.sizeOf34) rfl) (retOk () (deV_no (de_e (by omega)) (by omega)) trivial [0] rfl (by decide))
  ·
    refine J.skip ?_
    refine J.then_n (J.k hK6 ?_)
    refine J.keepE [(2, _), (5, _), (6, _)] ⟨rfl, rfl, rfl, trivial⟩ ?_
    refine J.seq (fun K10 hK10 => ?_)
    have hl := de_len (s := s) (by omega)
    obtain ⟨hu1, hu2, hu3⟩ := de_out hl
    refine J.region ?_
    refine J.y (op_move rfl rfl) rfl rfl rfl ?_
    refine J.e (op_call rfl rfl ent53 (Ct.use0 (fun F' hF => pdecode_ct F' (((⟨s, 0⟩ : RS).take 4).out 33)))) rfl rfl rfl ?_
    intro g28 _
    refine J.y (op_move rfl rfl) rfl rfl rfl ?_
    refine J.y (op_extract (v := .agg #[Str (dpO (((⟨s, 0⟩ : RS).take 4).out 33)), Str (dpR (((⟨s, 0⟩ : RS).take 4).out 33)), I (dpH (((⟨s, 0⟩ : RS).take 4).out 33))]) rfl rfl rfl) rfl rfl rfl ?_
    refine J.y (op_extract (v := I (dpE (((⟨s, 0⟩ : RS).take 4).out 33))) rfl rfl rfl) rfl rfl rfl ?_
    refine J.e (op_alloc rfl Tryz.zeroValue31 rfl) rfl rfl rfl ?_
    intro g8 _
    change J _ _ _ [F, blk g2 _ 34, RSb g11 ((((⟨s, 0⟩ : RS).take 4).take 33).take 16), blk g5 [N64 (natB ((⟨s, 0⟩ : RS).out 4)), Str [], Str [], I 0, Str ((((⟨s, 0⟩ : RS).take 4).take 33).out 16)] 34, blk g8 _ 31] _
    refine J.s (op_storeAll (l := [Str [], Str [], I 0]) (i := 4) (vs := [Str (dpO (((⟨s, 0⟩ : RS).take 4).out 33)), Str (dpR (((⟨s, 0⟩ : RS).take 4).out 33)), I (dpH (((⟨s, 0⟩ : RS).take 4).out 33))]) rfl rfl rfl rfl rfl Tryz.sizeOf31 rfl rfl) rfl rfl (fun _ _ => ?_)
    change J _ _ _ [F, blk g2 _ 34, RSb g11 ((((⟨s, 0⟩ : RS).take 4).take 33).take 16), blk g5 [N64 (natB ((⟨s, 0⟩ : RS).out 4)), Str [], Str [], I 0, Str ((((⟨s, 0⟩ : RS).take 4).take 33).out 16)] 34, blk g8 [Str (dpO (((⟨s, 0⟩ : RS).take 4).out 33)), Str (dpR (((⟨s, 0⟩ : RS).take 4).out 33)), I (dpH (((⟨s, 0⟩ : RS).take 4).out 33))] 31] _
    refine J.y (op_assign rfl rfl) rfl rfl rfl ?_
    refine J.nil ?_
    refine J.then_n (J.k hK10 ?_)
    refine J.keepE [(2, _), (5, _), (8, _), (9, _)] ⟨rfl, rfl, rfl, rfl, trivial⟩ ?_
    refine J.seq (fun K11 hK11 => ?_)
    refine J.block ?_
    refine J.seq (fun K12 hK12 => ?_)
    refine J.region ?_
    refine J.y (op_move rfl rfl) rfl rfl rfl ?_
    refine J.y (op_neq rfl rfl rfl) rfl rfl rfl ?_
    refine J.y (op_assign rfl rfl) rfl rfl rfl ?_
    refine J.nil ?_
    refine J.then_n (J.k hK12 ?_)
    refine J.keepE [(2, _), (5, _), (8, _), (9, _), (31, _)] ⟨rfl, rfl, rfl, rfl, rfl, trivial⟩ ?_
    refine J.ite rfl (fun h31 => ?_) (fun h31 => ?_)
    ·
      refine J.seq (fun K13 hK13 => ?_)
      refine J.region ?_
      refine J.y (op_buildStruct (l := []) (vs := []) (places := [(0, 1), (1, 3), (4, 1)]) (r := [N64 0, Str [], Str [], I 0, Str []]) rfl rfl rfl Tryz.underlying34 Tryz.zeroValue34 (fun _ => by kernel_rfl) rfl) rfl rfl rfl ?_
      refine J.y (op_move rfl rfl) rfl rfl rfl ?_
      refine J.s (op_storeAll (l := [N64 0, Str [], Str [], I 0, Str []]) (i := 1) (vs := [N64 0, Str [], Str [], I 0, Str []]) rfl rfl rfl rfl rfl Tryz.sizeOf34 rfl rfl) rfl rfl (fun _ _ => ?_)
      change J _ _ _ [F, blk g2 [N64 0, Str [], Str [], I 0, Str []] 34, RSb g11 ((((⟨s, 0⟩ : RS).take 4).take 33).take 16), blk g5 [N64 (natB ((⟨s, 0⟩ : RS).out 4)), Str [], Str [], I 0, Str ((((⟨s, 0⟩ : RS).take 4).take 33).out 16)] 34, blk g8 [Str (dpO (((⟨s, 0⟩ : RS).take 4).out 33)), Str (dpR (((⟨s, 0⟩ : RS).take 4).out 33)), I (dpH (((⟨s, 0⟩ : RS).take 4).out 33))] 31] _
      refine J.y (op_assign rfl rfl) rfl rfl rfl ?_
      refine J.nil ?_
      refine J.then_n (J.k hK13 ?_)
      refine J.keepE [(2, _), (3, _)] ⟨rfl, rfl, trivial⟩ ?_
      refine J.ret ?_
      refine J.blk_r ?_
      refine J.then_r ?_
      exact J.done hw0 (fun _ _ h => h) (rv2 rfl (RV.blkA 1 rfl rfl Tryz.isAgg34 Tryz.sizeOf34) rfl) (retOk () (deV_no (by rw [hu2]; exact de_4 hl (by rw [← hu2]; omega)) (by omega)) trivial [0] rfl (by decide))
    ·
      refine J.seq (fun K14 hK14 => ?_)
      have hd0 : dpE (deK s) = 0 := by rw [← hu2]; omega
      refine J.region ?_
      refine J.y (op_fieldAddr (j := 0) rfl rfl Tryz.underlying34 rfl Tryz.sizeOf29 rfl) rfl rfl rfl ?_
      refine J.y ((op_loadB 3 rfl rfl rfl Tryz.isAgg29 rfl).as (v' := N64 (natB (s.take 4))) (by rw [hu1])) rfl rfl rfl ?_
      refine J.y (op_lss rfl rfl rfl) rfl rfl rfl ?_
      refine J.y (op_assign rfl rfl) rfl rfl rfl ?_
      refine J.nil ?_
      refine J.then_n (J.k hK14 ?_)
      refine J.keepE [(2, _), (5, _), (8, _), (36, _)] ⟨rfl, rfl, rfl, rfl, trivial⟩ ?_
      refine J.ite rfl (fun h36 => ?_) (fun h36 => ?_)
      ·
        refine J.seq (fun K15 hK15 => ?_)
        refine J.region ?_
        refine J.y (op_buildStruct (l := []) (vs := []) (places := [(0, 1), (1, 3), (4, 1)]) (r := [N64 0, Str [], Str [], I 0, Str []]) rfl rfl rfl Tryz.underlying34 Tryz.zeroValue34 (fun _ => by kernel_rfl) rfl) rfl rfl rfl ?_
        refine J.s (op_storeAll (l := [N64 0, Str [], Str [], I 0, Str []]) (i := 1) (vs := [N64 0, Str [], Str [], I 0, Str []]) rfl rfl rfl rfl rfl Tryz.sizeOf34 rfl rfl) rfl rfl (fun _ _ => ?_)
        change J _ _ _ [F, blk g2 [N64 0, Str [], Str [], I 0, Str []] 34, RSb g11 ((((⟨s, 0⟩ : RS).take 4).take 33).take 16), blk g5 [N64 (natB ((⟨s, 0⟩ : RS).out 4)), Str [], Str [], I 0, Str ((((⟨s, 0⟩ : RS).take 4).take 33).out 16)] 34, blk g8 [Str (dpO (((⟨s, 0⟩ : RS).take 4).out 33)), Str (dpR (((⟨s, 0⟩ : RS).take 4).out 33)), I (dpH (((⟨s, 0⟩ : RS).take 4).out 33))] 31] _
        refine J.y (op_assign rfl rfl) rfl rfl rfl ?_
        refine J.nil ?_
        refine J.then_n (J.k hK15 ?_)
        refine J.keepE [(2, _), (3, _)] ⟨rfl, rfl, trivial⟩ ?_
        refine J.ret ?_
        refine J.blk_r ?_
        refine J.then_r ?_
        exact J.done hw0 (fun _ _ h => h) (rv2 rfl (RV.blkA 1 rfl rfl Tryz.isAgg34 Tryz.sizeOf34) rfl) (retOk () (deV_no ((de_v hl hd0).trans (if_pos (by omega))) (by decide)) trivial [0] rfl (by decide))
      ·
        refine J.skip ?_
        refine J.blk_n ?_
        refine J.then_n (J.k hK11 ?_)
        refine J.keepE [(2, _), (5, _), (8, _)] ⟨rfl, rfl, rfl, trivial⟩ ?_
        refine J.seq (fun K16 hK16 => ?_)
        refine J.region ?_
        refine J.y (op_loadBA 4 rfl rfl rfl Tryz.isAgg31 Tryz.sizeOf31 rfl) rfl rfl rfl ?_
        refine J.y (op_fieldAddr (j := 1) rfl rfl Tryz.underlying34 rfl Tryz.sizeOf31 rfl) rfl rfl rfl ?_
        refine J.s (op_store (i := 3) (vs := [Str (dpO (((⟨s, 0⟩ : RS).take 4).out 33)), Str (dpR (((⟨s, 0⟩ : RS).take 4).out 33)), I (dpH (((⟨s, 0⟩ : RS).take 4).out 33))]) rfl rfl rfl rfl rfl Tryz.sizeOf31 rfl (by simp)) rfl rfl (fun _ _ => ?_)
        change J _ _ _ [F, blk g2 _ 34, RSb g11 ((((⟨s, 0⟩ : RS).take 4).take 33).take 16), blk g5 [N64 (natB ((⟨s, 0⟩ : RS).out 4)), Str (dpO (((⟨s, 0⟩ : RS).take 4).out 33)), Str (dpR (((⟨s, 0⟩ : RS).take 4).out 33)), I (dpH (((⟨s, 0⟩ : RS).take 4).out 33)), Str ((((⟨s, 0⟩ : RS).take 4).take 33).out 16)] 34, blk g8 [Str (dpO (((⟨s, 0⟩ : RS).take 4).out 33)), Str (dpR (((⟨s, 0⟩ : RS).take 4).out 33)), I (dpH (((⟨s, 0⟩ : RS).take 4).out 33))] 31] _
        refine J.nil ?_
        refine J.then_n (J.k hK16 ?_)
        refine J.keepE [(2, _), (5, _)] ⟨rfl, rfl, trivial⟩ ?_
        refine J.seq (fun K17 hK17 => ?_)
        refine J.region ?_
        refine J.y (op_loadBA 3 rfl rfl rfl Tryz.isAgg34 Tryz.sizeOf34 rfl) rfl rfl rfl ?_
        refine J.s (op_storeAll (l := [N64 0, Str [], Str [], I 0, Str []]) (i := 1) (vs := [N64 (natB ((⟨s, 0⟩ : RS).out 4)), Str (dpO (((⟨s, 0⟩ : RS).take 4).out 33)), Str (dpR (((⟨s, 0⟩ : RS).take 4).out 33)), I (dpH (((⟨s, 0⟩ : RS).take 4).out 33)), Str ((((⟨s, 0⟩ : RS).take 4).take 33).out 16)]) rfl rfl rfl rfl rfl Tryz.sizeOf34 rfl rfl) rfl rfl (fun _ _ => ?_)
        change J _ _ _ [F, blk g2 [N64 (natB ((⟨s, 0⟩ : RS).out 4)), Str (dpO (((⟨s, 0⟩ : RS).take 4).out 33)), Str (dpR (((⟨s, 0⟩ : RS).take 4).out 33)), I (dpH (((⟨s, 0⟩ : RS).take 4).out 33)), Str ((((⟨s, 0⟩ : RS).take 4).take 33).out 16)] 34, RSb g11 ((((⟨s, 0⟩ : RS).take 4).take 33).take 16), blk g5 [N64 (natB ((⟨s, 0⟩ : RS).out 4)), Str (dpO (((⟨s, 0⟩ : RS).take 4).out 33)), Str (dpR (((⟨s, 0⟩ : RS).take 4).out 33)), I (dpH (((⟨s, 0⟩ : RS).take 4).out 33)), Str ((((⟨s, 0⟩ : RS).take 4).take 33).out 16)] 34, blk g8 [Str (dpO (((⟨s, 0⟩ : RS).take 4).out 33)), Str (dpR (((⟨s, 0⟩ : RS).take 4).out 33)), I (dpH (((⟨s, 0⟩ : RS).take 4).out 33))] 31] _
        refine J.y (op_assign rfl rfl) rfl rfl rfl ?_
        refine J.nil ?_
        refine J.then_n (J.k hK17 ?_)
        refine J.keepE [(2, _), (3, _)] ⟨rfl, rfl, trivial⟩ ?_
        refine J.ret ?_
        exact J.done hw0 (fun _ _ h => h) (rv2 rfl (RV.blkA 1 rfl rfl Tryz.isAgg34 Tryz.sizeOf34) rfl) (retOk () (by have he : deE s = 0 := (de_v hl hd0).trans (if_neg (by omega)); unfold deV deN deO deR deH deP; rw [he, if_pos rfl, if_pos rfl, if_pos rfl, if_pos rfl, if_pos rfl, hu1, hu2, hu3]) trivial [0] rfl (by decide))

def enVal (v : Nat) (o r : List UInt8) (h : Int) (p : List UInt8) : List UInt8 := if enErr v o r h p = 0 then Sha.tagged 12 [enEnc v o r h p] else []
theorem enEnc_len {v : Nat} {o r : List UInt8} {h : Int} {p : List UInt8} (he : enErr v o r h p = 0) : (enEnc v o r h p).length = 53 := by
  unfold enEnc
  rw [if_pos he]
  unfold enErr at he
  split at he
  · omega
  · split at he
    · rename_i h2
      rw [List.length_append, List.length_append, Sha.numB_length, pubEnc_len h2.1, h2.2]
    · omega
theorem enVal_small (v : Nat) (o r : List UInt8) (h : Int) (p : List UInt8) : (enVal v o r h p).length ≤ 16 := by
  unfold enVal
  split
  · rw [Sha.tagged_length]; exact Nat.le_refl _
  · exact Nat.zero_le _
/-- an entry -/
structure En where
  v : Nat
  o : List UInt8
  r : List UInt8
  h : Int
  p : List UInt8
  deriving DecidableEq
def En.cells (x : En) : List Value := [N64 x.v, Str x.o, Str x.r, I x.h, Str x.p]
def En.good (x : En) : Prop := x.v < 18446744073709551616 ∧ x.o.length ≤ 1048576 ∧ x.r.length ≤ 1048576 ∧ x.p.length ≤ 1048576
def En.val (x : En) : List UInt8 := enVal x.v x.o x.r x.h x.p
def En.next (x y : En) : Int := if x.v = 18446744073709551615 ∨ y.v ≠ x.v + 1 then 13 else if x.val = [] ∨ y.p ≠ x.val then 15 else 0
def En.chain : List En → Int
  | [] => 0
  | [_] => 0
  | x :: y :: r => if x.next y ≠ 0 then x.next y else En.chain (y :: r)
def En.hist : List En → Int
  | [] => 20
  | x :: r => if x.v ≠ 1 then 13 else if x.p ≠ noughts then 15 else En.chain (x :: r)

theorem evalue_ct (F : Hp) (hK : Cells F ⟨0, 0, none⟩ (Sha.K.map W32)) (v : Nat) (o r : List UInt8) (h : Int) (p : List UInt8) (hv : v < 18446744073709551616) (ho : o.length ≤ 1048576) (hr : r.length ≤ 1048576) (hp : p.length ≤ 1048576) :
    Ct Tryz.prog 12 [.agg #[N64 v, Str o, Str r, I h, Str p]] [F] (fun _ : Unit => Str (enVal v o r h p)) (fun _ => True) (fun _ => [F]) := by
  refine Ct.walk Tryz.func12 rfl Tryz.ntmps12 rfl (fun w0 hw0 => ?_)
  change J _ [(0, _)] _ _ _
  refine J.seq (fun K1 hK1 => ?_)
  refine J.region ?_
  refine J.e (op_box rfl rfl (l := [N64 v, Str o, Str r, I h, Str p]) rfl) rfl rfl rfl ?_
  intro g1 _
  change J _ _ _ [F, blk g1 [N64 v, Str o, Str r, I h, Str p] 34] _
  refine J.y (op_assign rfl rfl) rfl rfl rfl ?_
  refine J.nil ?_
  refine J.then_n (J.k hK1 ?_)
  refine J.keepE [(1, _)] ⟨rfl, trivial⟩ ?_
  refine J.seq (fun K2 hK2 => ?_)
  refine J.region ?_
  refine J.y (op_loadBA 1 rfl rfl rfl Tryz.isAgg34 Tryz.sizeOf34 rfl) rfl rfl rfl ?_
  refine J.e (op_call rfl rfl ent17 (Ct.use0 (fun F' hF => eencode_ct F' v o r h p hv ho hr hp))) rfl rfl rfl ?_
  intro g7 _
  refine J.y (op_move rfl rfl) rfl rfl rfl ?_
  refine J.y (op_extract (v := Str (enEnc v o r h p)) rfl rfl rfl) rfl rfl rfl ?_
  refine J.y (op_extract (v := I (enErr v o r h p)) rfl rfl rfl) rfl rfl rfl ?_
  refine J.y (op_assign rfl rfl) rfl rfl rfl ?_
  refine J.y (op_assign rfl rfl) rfl rfl rfl ?_
  refine J.nil ?_
  refine J.then_n (J.k hK2 ?_)
  refine J.keepE [(3, _), (4, _)] ⟨rfl, rfl, trivial⟩ ?_
  refine J.seq (fun K3 hK3 => ?_)
  refine J.seq (fun K4 hK4 => ?_)
  refine J.region ?_
  refine J.y (op_move rfl rfl) rfl rfl rfl ?_
  refine J.y (op_neq rfl rfl rfl) rfl rfl rfl ?_
  refine J.nil ?_
  refine J.then_n (J.k hK4 ?_)
  refine J.keepE [(3, _), (11, _)] ⟨rfl, rfl, trivial⟩ ?_
  refine J.ite rfl (fun h11 => ?_) (fun h11 => ?_)
  ·
    refine J.seq (fun K5 hK5 => ?_)
    refine J.region ?_
    refine J.y (op_assign rfl rfl) rfl rfl rfl ?_
    refine J.nil ?_
    refine J.then_n (J.k hK5 ?_)
    refine J.keepE [(2, _)] ⟨rfl, trivial⟩ ?_
    refine J.ret ?_
    refine J.then_r ?_
    exact J.done hw0 (fun _ _ h => h) (res1 rfl rfl) (retOk () (by unfold enVal; rw [if_neg (by omega)]) trivial [0] rfl (by decide))
  ·
    refine J.skip ?_
    refine J.then_n (J.k hK3 ?_)
    refine J.keepE [(3, _)] ⟨rfl, trivial⟩ ?_
    refine J.seq (fun K6 hK6 => ?_)
    have he0 : enErr v o r h p = 0 := by omega
    refine J.region ?_
    refine J.y (op_move rfl rfl) rfl rfl rfl ?_
    refine J.e (op_buildSlice (l := [.tmp 12]) (xs := [[Str (enEnc v o r h p)]]) rfl rfl rfl rfl Tryz.underlying35 el9 rfl (by decide) (by decide) (by simp)) rfl rfl rfl ?_
    intro g13 _
    change J _ _ _ [F, blk g1 [N64 v, Str o, Str r, I h, Str p] 34, blk g13 [Str (enEnc v o r h p)] 9] _
    refine J.e (op_call rfl rfl ent19 (Ct.use0 (fun F' hF => tagged_ct F' (hK.mono (hF _ (by simp))) 12 (some ⟨g13, 0, none⟩) 1 1 [enEnc v o r h p] ((slS [enEnc v o r h p] rfl).mono (hF (blk g13 (([enEnc v o r h p] : List (List UInt8)).map fun s => Str s) 9) (by simp))) (by have := enEnc_len he0; simp [this]) (by decide)))) rfl rfl rfl ?_
    intro g14 _
    refine J.y (op_assign rfl rfl) rfl rfl rfl ?_
    refine J.nil ?_
    refine J.then_n (J.k hK6 ?_)
    refine J.keepE [(2, _)] ⟨rfl, trivial⟩ ?_
    refine J.ret ?_
    exact J.done hw0 (fun _ _ h => h) (res1 rfl rfl) (retOk () (by unfold enVal; rw [if_pos he0]) trivial [0] rfl (by decide))

theorem enext_ct (F : Hp) (hK : Cells F ⟨0, 0, none⟩ (Sha.K.map W32)) (x y : En) (hx : x.good) (hy : y.good) :
    Ct Tryz.prog 33 [.agg x.cells.toArray, .agg y.cells.toArray] [F] (fun _ : Unit => I (x.next y)) (fun _ => True) (fun _ => [F]) := by
  obtain ⟨hx1, hx2, hx3, hx4⟩ := hx
  obtain ⟨hy1, hy2, hy3, hy4⟩ := hy
  have hxv : x.val = enVal x.v x.o x.r x.h x.p := rfl
  refine Ct.walk Tryz.func33 rfl Tryz.ntmps33 rfl (fun w0 hw0 => ?_)
  change J _ [(0, _), (1, _)] _ _ _
  refine J.seq (fun K1 hK1 => ?_)
  refine J.region ?_
  refine J.e (op_box rfl rfl (l := [N64 x.v, Str x.o, Str x.r, I x.h, Str x.p]) rfl) rfl rfl rfl ?_
  intro g2 _
  change J _ _ _ [F, blk g2 [N64 x.v, Str x.o, Str x.r, I x.h, Str x.p] 34] _
  refine J.e (op_box rfl rfl (l := [N64 y.v, Str y.o, Str y.r, I y.h, Str y.p]) rfl) rfl rfl rfl ?_
  intro g3 _
  change J _ _ _ [F, blk g2 [N64 x.v, Str x.o, Str x.r, I x.h, Str x.p] 34, blk g3 [N64 y.v, Str y.o, Str y.r, I y.h, Str y.p] 34] _
  refine J.y (op_assign rfl rfl) rfl rfl rfl ?_
  refine J.nil ?_
  refine J.then_n (J.k hK1 ?_)
  refine J.keepE [(2, _), (3, _)] ⟨rfl, rfl, trivial⟩ ?_
  refine J.seq (fun K2 hK2 => ?_)
  refine J.seq (fun K3 hK3 => ?_)
  refine J.region ?_
  refine J.y (op_loadBA 1 rfl rfl rfl Tryz.isAgg34 Tryz.sizeOf34 rfl) rfl rfl rfl ?_
  refine J.e (op_call rfl rfl ent12 (Ct.use0 (fun F' hF => evalue_ct F' (hK.mono (hF _ (by simp))) x.v x.o x.r x.h x.p hx1 hx2 hx3 hx4))) rfl rfl rfl ?_
  intro g7 _
  refine J.y (op_assign rfl rfl) rfl rfl rfl ?_
  refine J.nil ?_
  refine J.then_n (J.k hK3 ?_)
  refine J.keepE [(2, _), (3, _), (5, _)] ⟨rfl, rfl, rfl, trivial⟩ ?_
  refine J.block ?_
  refine J.seq (fun K4 hK4 => ?_)
  refine J.region ?_
  refine J.y (op_fieldAddr (j := 0) rfl rfl Tryz.underlying34 rfl Tryz.sizeOf29 rfl) rfl rfl rfl ?_
  refine J.y (op_loadB 1 rfl rfl rfl Tryz.isAgg29 rfl) rfl rfl rfl ?_
  refine J.y (op_eql rfl rfl rfl) rfl rfl rfl ?_
  refine J.y (op_move rfl rfl) rfl rfl rfl ?_
  refine J.split (d := 12) rfl (fun h12 => ?_) (fun h12 => ?_)
  ·
    refine J.no (Wan.is rfl rfl rfl rfl rfl) rfl rfl ?_
    refine J.no (Wan.is rfl rfl rfl rfl rfl) rfl rfl ?_
    refine J.no (Wan.is rfl rfl rfl rfl rfl) rfl rfl ?_
    refine J.no (Wan.is rfl rfl rfl rfl rfl) rfl rfl ?_
    refine J.no (Wan.is rfl rfl rfl rfl rfl) rfl rfl ?_
    refine J.no (Wan.is rfl rfl rfl rfl rfl) rfl rfl ?_
    refine J.y (op_pickT rfl rfl rfl) rfl rfl rfl ?_
    refine J.y (op_assign rfl rfl) rfl rfl rfl ?_
    refine J.nil ?_
    refine J.then_n (J.k hK4 ?_)
    refine J.keepE [(3, _), (5, _), (8, _)] ⟨rfl, rfl, rfl, trivial⟩ ?_
    refine J.condT rfl rfl ?_
    refine J.seq (fun K5 hK5 => ?_)
    refine J.region ?_
    refine J.y (op_assign rfl rfl) rfl rfl rfl ?_
    refine J.nil ?_
    refine J.then_n (J.k hK5 ?_)
    refine J.keepE [(4, _)] ⟨rfl, trivial⟩ ?_
    refine J.ret ?_
    refine J.blk_r ?_
    refine J.then_r ?_
    exact J.done hw0 (fun _ _ h => h) (res1 rfl rfl) (retOk () (congrArg I (by unfold En.next; rw [if_pos (by omega)])) trivial [0] rfl (by decide))
  ·
    refine J.yg (Wan.is rfl rfl rfl rfl rfl) (op_fieldAddr (j := 0) rfl rfl Tryz.underlying34 rfl Tryz.sizeOf29 rfl) rfl rfl ?_
    refine J.yg (Wan.is rfl rfl rfl rfl rfl) (op_loadB 2 rfl rfl rfl Tryz.isAgg29 rfl) rfl rfl ?_
    refine J.yg (Wan.is rfl rfl rfl rfl rfl) (op_fieldAddr (j := 0) rfl rfl Tryz.underlying34 rfl Tryz.sizeOf29 rfl) rfl rfl ?_
    refine J.yg (Wan.is rfl rfl rfl rfl rfl) (op_loadB 1 rfl rfl rfl Tryz.isAgg29 rfl) rfl rfl ?_
    refine J.yg (Wan.is rfl rfl rfl rfl rfl) (op_addU (b := 1) rfl rfl rfl (by omega)) rfl rfl ?_
    refine J.yg (Wan.is rfl rfl rfl rfl rfl) (op_neq rfl rfl rfl) rfl rfl ?_
    refine J.y (op_pickF rfl rfl rfl) rfl rfl rfl ?_
    refine J.y (op_assign rfl rfl) rfl rfl rfl ?_
    refine J.nil ?_
    refine J.then_n (J.k hK4 ?_)
    refine J.keepE [(3, _), (5, _), (8, _)] ⟨rfl, rfl, rfl, trivial⟩ ?_
    refine J.ite rfl (fun h8 => ?_) (fun h8 => ?_)
    ·
      refine J.seq (fun K6 hK6 => ?_)
      refine J.region ?_
      refine J.y (op_assign rfl rfl) rfl rfl rfl ?_
      refine J.nil ?_
      refine J.then_n (J.k hK6 ?_)
      refine J.keepE [(4, _)] ⟨rfl, trivial⟩ ?_
      refine J.ret ?_
      refine J.blk_r ?_
      refine J.then_r ?_
      exact J.done hw0 (fun _ _ h => h) (res1 rfl rfl) (retOk () (congrArg I (by unfold En.next; rw [if_pos (by omega)])) trivial [0] rfl (by decide))
    ·
      refine J.seq (fun K7 hK7 => ?_)
      refine J.region ?_
      refine J.y (op_move rfl rfl) rfl rfl rfl ?_
      refine J.y (op_seq rfl rfl rfl) rfl rfl rfl ?_
      refine J.y (op_move rfl rfl) rfl rfl rfl ?_
      refine J.split (d := 23) rfl (fun h23 => ?_) (fun h23 => ?_)
      ·
        refine J.no (Wan.is rfl rfl rfl rfl rfl) rfl rfl ?_
        refine J.no (Wan.is rfl rfl rfl rfl rfl) rfl rfl ?_
        refine J.no (Wan.is rfl rfl rfl rfl rfl) rfl rfl ?_
        refine J.no (Wan.is rfl rfl rfl rfl rfl) rfl rfl ?_
        refine J.y (op_pickT rfl rfl rfl) rfl rfl rfl ?_
        refine J.y (op_assign rfl rfl) rfl rfl rfl ?_
        refine J.nil ?_
        refine J.then_n (J.k hK7 ?_)
        refine J.keepE [(20, _)] ⟨rfl, trivial⟩ ?_
        refine J.condT rfl rfl ?_
        refine J.seq (fun K8 hK8 => ?_)
        refine J.region ?_
        refine J.y (op_assign rfl rfl) rfl rfl rfl ?_
        refine J.nil ?_
        refine J.then_n (J.k hK8 ?_)
        refine J.keepE [(4, _)] ⟨rfl, trivial⟩ ?_
        refine J.ret ?_
        refine J.blk_r ?_
        refine J.then_r ?_
        exact J.done hw0 (fun _ _ h => h) (res1 rfl rfl) (retOk () (congrArg I (by unfold En.next; rw [if_neg (by omega), if_pos (.inl h23)])) trivial [0] rfl (by decide))
      ·
        refine J.yg (Wan.is rfl rfl rfl rfl rfl) (op_fieldAddr (j := 4) rfl rfl Tryz.underlying34 rfl Tryz.sizeOf9 rfl) rfl rfl ?_
        refine J.yg (Wan.is rfl rfl rfl rfl rfl) (op_loadB 2 rfl rfl rfl Tryz.isAgg9 rfl) rfl rfl ?_
        refine J.yg (Wan.is rfl rfl rfl rfl rfl) (op_move rfl rfl) rfl rfl ?_
        refine J.yg (Wan.is rfl rfl rfl rfl rfl) (op_sne rfl rfl rfl) rfl rfl ?_
        refine J.y (op_pickF rfl rfl rfl) rfl rfl rfl ?_
        refine J.y (op_assign rfl rfl) rfl rfl rfl ?_
        refine J.nil ?_
        refine J.then_n (J.k hK7 ?_)
        refine J.keepE [(20, _)] ⟨rfl, trivial⟩ ?_
        refine J.ite rfl (fun h20 => ?_) (fun h20 => ?_)
        ·
          refine J.seq (fun K9 hK9 => ?_)
          refine J.region ?_
          refine J.y (op_assign rfl rfl) rfl rfl rfl ?_
          refine J.nil ?_
          refine J.then_n (J.k hK9 ?_)
          refine J.keepE [(4, _)] ⟨rfl, trivial⟩ ?_
          refine J.ret ?_
          refine J.blk_r ?_
          refine J.then_r ?_
          exact J.done hw0 (fun _ _ h => h) (res1 rfl rfl) (retOk () (congrArg I (by unfold En.next; rw [if_neg (by omega), if_pos (.inr h20)])) trivial [0] rfl (by decide))
        ·
          refine J.skip ?_
          refine J.blk_n ?_
          refine J.then_n (J.k hK2 ?_)
          refine J.keepE [] trivial ?_
          refine J.seq (fun K10 hK10 => ?_)
          refine J.region ?_
          refine J.y (op_assign rfl rfl) rfl rfl rfl ?_
          refine J.nil ?_
          refine J.then_n (J.k hK10 ?_)
          refine J.keepE [(4, _)] ⟨rfl, trivial⟩ ?_
          refine J.ret ?_
          exact J.done hw0 (fun _ _ h => h) (res1 rfl rfl) (retOk () (congrArg I (by unfold En.next; rw [if_neg (by omega), if_neg (fun e => e.elim h23 h20)])) trivial [0] rfl (by decide))

def noEn : En := ⟨0, [], [], 0, []⟩
theorem cellsGet {l : List En} {j : Nat} (h : j < l.length) : (l.map En.cells)[j]? = some (l.getD j noEn).cells := by rw [List.getElem?_map, getSome noEn h]; rfl
theorem hist_cons {l : List En} (h : 0 < l.length) : En.hist l = if (l.getD 0 noEn).v ≠ 1 then 13 else if (l.getD 0 noEn).p ≠ noughts then 15 else En.chain l := by
  cases l with
  | nil => simp at h
  | cons x r => rfl
theorem chain_step {l : List En} {k : Nat} (h : k + 1 < l.length) : En.chain (l.drop k) = if (l.getD k noEn).next (l.getD (k + 1) noEn) ≠ 0 then (l.getD k noEn).next (l.getD (k + 1) noEn) else En.chain (l.drop (k + 1)) := by
  rw [List.drop_eq_getElem_cons (show k < l.length by omega), List.drop_eq_getElem_cons h]
  rw [List.getD_eq_getElem?_getD, List.getD_eq_getElem?_getD, List.getElem?_eq_getElem (show k < l.length by omega), List.getElem?_eq_getElem h]; rfl
theorem chain_end {l : List En} {k : Nat} (h : k + 1 = l.length) : En.chain (l.drop k) = 0 := by
  rw [List.drop_eq_getElem_cons (show k < l.length by omega), List.drop_of_length_le (by omega)]; rfl
theorem getD_good {l : List En} {k : Nat} (hg : ∀ x ∈ l, x.good) (h : k < l.length) : (l.getD k noEn).good := by
  rw [List.getD_eq_getElem?_getD, List.getElem?_eq_getElem h]
  exact hg _ (List.getElem_mem h)

theorem ehistory_nil (F : Hp) (A : Option Addr) (c : Nat) :
    Ct Tryz.prog 32 [.slice A 0 c] [F] (fun _ : Unit => I 20) (fun _ => True) (fun _ => [F]) := by
  refine Ct.walk Tryz.func32 rfl Tryz.ntmps32 rfl (fun w0 hw0 => ?_)
  change J _ [(0, _)] _ _ _
  refine J.seq (fun K1 hK1 => ?_)
  refine J.region ?_
  refine J.y (op_assign rfl rfl) rfl rfl rfl ?_
  refine J.nil ?_
  refine J.then_n (J.k hK1 ?_)
  refine J.keepE [(0, _)] ⟨rfl, trivial⟩ ?_
  refine J.seq (fun K2 hK2 => ?_)
  refine J.block ?_
  refine J.seq (fun K3 hK3 => ?_)
  refine J.region ?_
  refine J.y (op_move rfl rfl) rfl rfl rfl ?_
  refine J.y (op_len Tryz.underlying108 rfl rfl) rfl rfl rfl ?_
  refine J.y ((op_eql rfl rfl rfl).as (v' := .bool true) (congrArg Value.bool (decide_eq_true (by decide)))) rfl rfl rfl ?_
  refine J.y (op_assign rfl rfl) rfl rfl rfl ?_
  refine J.nil ?_
  refine J.then_n (J.k hK3 ?_)
  refine J.keepE [(0, _), (5, _)] ⟨rfl, rfl, trivial⟩ ?_
  refine J.condT rfl rfl ?_
  refine J.seq (fun K4 hK4 => ?_)
  refine J.region ?_
  refine J.y (op_assign rfl rfl) rfl rfl rfl ?_
  refine J.nil ?_
  refine J.then_n (J.k hK4 ?_)
  refine J.keepE [(2, _)] ⟨rfl, trivial⟩ ?_
  refine J.ret ?_
  refine J.blk_r ?_
  refine J.then_r ?_
  exact J.done hw0 (fun _ _ h => h) (res1 rfl rfl) (retOk () rfl trivial [0] rfl (by decide))

theorem ehistory_cons (F : Hp) (hK : Cells F ⟨0, 0, none⟩ (Sha.K.map W32)) (l : List En) (hg : ∀ x ∈ l, x.good) (g o c : Nat) (hl : Sl F 5 (some ⟨g, o, none⟩) l.length c (l.map En.cells)) (hn : 0 < l.length) (hn2 : l.length ≤ 1073741824) :
    Ct Tryz.prog 32 [.slice (some ⟨g, o, none⟩) l.length c] [F] (fun _ : Unit => I (En.hist l)) (fun _ => True) (fun _ => [F]) := by
  refine Ct.walk Tryz.func32 rfl Tryz.ntmps32 rfl (fun w0 hw0 => ?_)
  change J _ [(0, _)] _ _ _
  refine J.seq (fun K1 hK1 => ?_)
  refine J.region ?_
  refine J.y (op_assign rfl rfl) rfl rfl rfl ?_
  refine J.nil ?_
  refine J.then_n (J.k hK1 ?_)
  refine J.keepE [(0, _)] ⟨rfl, trivial⟩ ?_
  refine J.seq (fun K2 hK2 => ?_)
  refine J.block ?_
  refine J.seq (fun K3 hK3 => ?_)
  refine J.region ?_
  refine J.y (op_move rfl rfl) rfl rfl rfl ?_
  refine J.y (op_len Tryz.underlying108 rfl rfl) rfl rfl rfl ?_
  refine J.y ((op_eql rfl rfl rfl).as (v' := .bool false) (congrArg Value.bool (decide_eq_false (by omega)))) rfl rfl rfl ?_
  refine J.y (op_assign rfl rfl) rfl rfl rfl ?_
  refine J.nil ?_
  refine J.then_n (J.k hK3 ?_)
  refine J.keepE [(0, _), (5, _)] ⟨rfl, rfl, trivial⟩ ?_
  refine J.condF rfl rfl ?_
  refine J.seq (fun K4 hK4 => ?_)
  refine J.region ?_
  refine J.y (op_move rfl rfl) rfl rfl rfl ?_
  refine J.y (op_indexAddr (i := 0) rfl rfl rfl Tryz.underlying108 Tryz.sizeOf34 hl (hn)) rfl rfl rfl ?_
  refine J.y ((op_fieldAddr (j := o + 0 * 5 + 0) (off := o + 0 * 5) (g := g) rfl rfl Tryz.underlying34 rfl Tryz.sizeOf29 rfl)) rfl rfl rfl ?_
  refine J.y (op_load rfl rfl Tryz.isAgg29 (m := F) (by simp) (v := N64 (l.getD 0 noEn).v) (hl.cell (i := 0) (x := (l.getD 0 noEn).cells) (cellsGet hn) (k := 0) (v := N64 (l.getD 0 noEn).v) rfl)) rfl rfl rfl ?_
  refine J.y (op_neq rfl rfl rfl) rfl rfl rfl ?_
  refine J.y (op_assign rfl rfl) rfl rfl rfl ?_
  refine J.nil ?_
  refine J.then_n (J.k hK4 ?_)
  refine J.keepE [(0, _), (9, _)] ⟨rfl, rfl, trivial⟩ ?_
  refine J.ite rfl (fun h9 => ?_) (fun h9 => ?_)
  ·
    refine J.seq (fun K5 hK5 => ?_)
    refine J.region ?_
    refine J.y (op_assign rfl rfl) rfl rfl rfl ?_
    refine J.nil ?_
    refine J.then_n (J.k hK5 ?_)
    refine J.keepE [(2, _)] ⟨rfl, trivial⟩ ?_
    refine J.ret ?_
    refine J.blk_r ?_
    refine J.then_r ?_
    exact J.done hw0 (fun _ _ h => h) (res1 rfl rfl) (retOk () (congrArg I (by rw [hist_cons hn, if_pos (by omega)])) trivial [0] rfl (by decide))
  ·
    refine J.seq (fun K6 hK6 => ?_)
    refine J.draw [F] [] (.y 0 (.y 1 (.y 2 (.y 3 (.e 4 (.y 5 (.y 6 .nil))))))) Tryz.wide (by decide +kernel) (by simp) ?_
    refine J.dy rfl (op_move rfl rfl) rfl rfl rfl rfl ?_
    refine J.dy rfl (op_indexAddr (i := 0) rfl rfl rfl Tryz.underlying108 Tryz.sizeOf34 hl (hn)) rfl rfl rfl rfl ?_
    refine J.dy rfl ((op_fieldAddr (j := o + 0 * 5 + 4) (off := o + 0 * 5) (g := g) rfl rfl Tryz.underlying34 rfl Tryz.sizeOf9 rfl)) rfl rfl rfl rfl ?_
    refine J.dy rfl (op_load rfl rfl Tryz.isAgg9 (m := F) (by simp) (v := Str (l.getD 0 noEn).p) (hl.cell (i := 0) (x := (l.getD 0 noEn).cells) (cellsGet hn) (k := 4) (v := Str (l.getD 0 noEn).p) rfl)) rfl rfl rfl rfl ?_
    refine J.de rfl (op_call rfl rfl ent58 (Ct.use0 (fun F' hF => repeat_ct F' 16 (by decide) (by decide)))) rfl rfl rfl (by simp) ?_
    intro g20 _
    refine J.dy rfl (op_sne rfl rfl rfl) rfl rfl rfl rfl ?_
    refine J.dy rfl (op_assign rfl rfl) rfl rfl rfl rfl ?_
    refine J.dnil ?_
    refine J.then_n (J.k hK6 ?_)
    refine J.keepE [(0, _), (15, _)] ⟨rfl, rfl, trivial⟩ ?_
    refine J.ite rfl (fun h15 => ?_) (fun h15 => ?_)
    ·
      change (l.getD 0 noEn).p ≠ noughts at h15
      refine J.seq (fun K7 hK7 => ?_)
      refine J.region ?_
      refine J.y (op_assign rfl rfl) rfl rfl rfl ?_
      refine J.nil ?_
      refine J.then_n (J.k hK7 ?_)
      refine J.keepE [(2, _)] ⟨rfl, trivial⟩ ?_
      refine J.ret ?_
      refine J.blk_r ?_
      refine J.then_r ?_
      exact J.done hw0 (fun _ _ h => h) (res1 rfl rfl) (retOk () (congrArg I (by rw [hist_cons hn, if_neg (by omega), if_pos h15])) trivial [0] rfl (by decide))
    ·
      change ¬ (l.getD 0 noEn).p ≠ noughts at h15
      refine J.skip ?_
      refine J.blk_n ?_
      refine J.then_n (J.k hK2 ?_)
      refine J.keepE [(0, _)] ⟨rfl, trivial⟩ ?_
      refine J.seq (fun K8 hK8 => ?_)
      refine J.seq (fun K9 hK9 => ?_)
      refine J.region ?_
      refine J.y (op_move rfl rfl) rfl rfl rfl ?_
      refine J.y (op_len Tryz.underlying108 rfl rfl) rfl rfl rfl ?_
      refine J.y (op_sub rfl rfl rfl (by omega)) rfl rfl rfl ?_
      refine J.y (op_move rfl rfl) rfl rfl rfl ?_
      refine J.nil ?_
      refine J.then_n (J.k hK9 ?_)
      refine J.keepE [(0, _), (24, _), (25, _)] ⟨rfl, rfl, rfl, trivial⟩ ?_
      refine J.block ?_
      refine J.loop (X := Nat) (fun k => [(0, .slice (some ⟨g, o, none⟩) l.length c), (24, I ((l.length : Int) - 1)), (25, I k)]) (fun _ => [F]) (fun k => k + 1 ≤ l.length ∧ En.chain (l.drop k) = En.chain l) (fun k => l.length - k) 0 (⟨by omega, rfl⟩) ⟨rfl, rfl, rfl, trivial⟩ (fun _ h => h) ?_
      intro k ⟨hk, hch⟩ I0 hI0
      refine J.seq (fun K10 hK10 => ?_)
      refine J.region ?_
      refine J.y (op_lss rfl rfl rfl) rfl rfl rfl ?_
      refine J.nil ?_
      refine J.then_n (J.k hK10 ?_)
      refine J.keepE [(0, _), (24, _), (25, _), (26, _)] ⟨rfl, rfl, rfl, rfl, trivial⟩ ?_
      refine J.seq (fun K11 hK11 => ?_)
      refine J.ite rfl (fun h26 => ?_) (fun h26 => ?_)
      ·
        refine J.skip ?_
        refine J.then_n (J.k hK11 ?_)
        refine J.keepE [(0, _), (24, _), (25, _)] ⟨rfl, rfl, rfl, trivial⟩ ?_
        refine J.seq (fun K12 hK12 => ?_)
        refine J.block ?_
        refine J.seq (fun K13 hK13 => ?_)
        refine J.region ?_
        refine J.y (op_move rfl rfl) rfl rfl rfl ?_
        refine J.y (op_assign rfl rfl) rfl rfl rfl ?_
        refine J.nil ?_
        refine J.then_n (J.k hK13 ?_)
        refine J.keepE [(0, _), (3, _), (24, _), (25, _)] ⟨rfl, rfl, rfl, rfl, trivial⟩ ?_
        refine J.seq (fun K14 hK14 => ?_)
        refine J.draw [F] [] (.y 0 (.y 1 (.y 2 (.y 3 (.y 4 (.y 5 (.y 6 (.y 7 (.y 8 (.e 9 (.y 10 .nil))))))))))) Tryz.wide (by decide +kernel) (by simp) ?_
        refine J.dy rfl (op_move rfl rfl) rfl rfl rfl rfl ?_
        refine J.dy rfl (op_move rfl rfl) rfl rfl rfl rfl ?_
        refine J.dy rfl (op_indexAddr (i := k) rfl rfl rfl Tryz.underlying108 Tryz.sizeOf34 hl (by omega)) rfl rfl rfl rfl ?_
        refine J.dy rfl (op_loadA rfl rfl Tryz.isAgg34 Tryz.sizeOf34 (m := F) (by simp) (vs := (l.getD k noEn).cells) (hl.elem (cellsGet (by omega))) rfl) rfl rfl rfl rfl ?_
        refine J.dy rfl (op_move rfl rfl) rfl rfl rfl rfl ?_
        refine J.dy rfl (op_move rfl rfl) rfl rfl rfl rfl ?_
        refine J.dy rfl ((op_add rfl rfl rfl (by first | omega | (refine ⟨?_, ?_⟩ <;> omega))).as (v' := I ((k + 1 : Nat) : Int)) (congrArg I (by omega))) rfl rfl rfl rfl ?_
        refine J.dy rfl (op_indexAddr (i := (k + 1)) rfl rfl rfl Tryz.underlying108 Tryz.sizeOf34 hl (by omega)) rfl rfl rfl rfl ?_
        refine J.dy rfl (op_loadA rfl rfl Tryz.isAgg34 Tryz.sizeOf34 (m := F) (by simp) (vs := (l.getD (k + 1) noEn).cells) (hl.elem (cellsGet (by omega))) rfl) rfl rfl rfl rfl ?_
        refine J.de rfl (op_call rfl rfl ent33 (Ct.use0 (fun F' hF => enext_ct F' (hK.mono (hF _ (by simp))) (l.getD k noEn) (l.getD (k + 1) noEn) (getD_good hg (by omega)) (getD_good hg (by omega))))) rfl rfl rfl (by simp) ?_
        intro g37 _
        refine J.dy rfl (op_assign rfl rfl) rfl rfl rfl rfl ?_
        refine J.dnil ?_
        refine J.then_n (J.k hK14 ?_)
        refine J.keepE [(0, _), (4, _), (24, _), (25, _)] ⟨rfl, rfl, rfl, rfl, trivial⟩ ?_
        refine J.seq (fun K15 hK15 => ?_)
        refine J.region ?_
        refine J.y (op_move rfl rfl) rfl rfl rfl ?_
        refine J.y (op_neq rfl rfl rfl) rfl rfl rfl ?_
        refine J.nil ?_
        refine J.then_n (J.k hK15 ?_)
        refine J.keepE [(0, _), (4, _), (24, _), (25, _), (39, _)] ⟨rfl, rfl, rfl, rfl, rfl, trivial⟩ ?_
        refine J.ite rfl (fun h39 => ?_) (fun h39 => ?_)
        ·
          refine J.seq (fun K16 hK16 => ?_)
          refine J.region ?_
          refine J.y (op_move rfl rfl) rfl rfl rfl ?_
          refine J.y (op_assign rfl rfl) rfl rfl rfl ?_
          refine J.nil ?_
          refine J.then_n (J.k hK16 ?_)
          refine J.keepE [(2, _)] ⟨rfl, trivial⟩ ?_
          refine J.ret ?_
          refine J.blk_r ?_
          refine J.then_r ?_
          refine J.then_r ?_
          refine J.blk_r ?_
          refine J.then_r ?_
          exact J.done hw0 (fun _ _ h => h) (res1 rfl rfl) (retOk () (congrArg I (by rw [hist_cons hn, if_neg (by omega), if_neg h15, ← hch, chain_step (l := l) (k := k) (by omega), if_pos (by omega)])) trivial [0] rfl (by decide))
        ·
          refine J.skip ?_
          refine J.blk_n ?_
          refine J.then_n (J.k hK12 ?_)
          refine J.keepE [(0, _), (24, _), (25, _)] ⟨rfl, rfl, rfl, trivial⟩ ?_
          refine J.region ?_
          refine J.y ((op_add rfl rfl rfl (by first | omega | (refine ⟨?_, ?_⟩ <;> omega))).as (v' := I ((k + 1 : Nat) : Int)) (congrArg I (by omega))) rfl rfl rfl ?_
          refine J.y (op_move rfl rfl) rfl rfl rfl ?_
          refine J.nil ?_
          refine J.then_n ?_
          exact J.kk (k + 1) (fun x (hx : _ ∧ l.length - x < l.length - k) => hI0 x hx.1 hx.2) ⟨⟨by omega, by have := chain_step (l := l) (k := k) (by omega); rw [if_neg (by omega)] at this; rw [← this]; exact hch⟩, by omega⟩ ⟨rfl, rfl, rfl, trivial⟩ (fun _ h => h)
      ·
        refine J.exit ?_
        refine J.then_x ?_
        refine J.then_x ?_
        refine J.blk_eq ?_
        refine J.then_n (J.k hK8 ?_)
        refine J.keepE [] trivial ?_
        refine J.seq (fun K17 hK17 => ?_)
        have hce := chain_end (l := l) (k := k) (by omega)
        refine J.region ?_
        refine J.y (op_assign rfl rfl) rfl rfl rfl ?_
        refine J.nil ?_
        refine J.then_n (J.k hK17 ?_)
        refine J.keepE [(2, _)] ⟨rfl, trivial⟩ ?_
        refine J.ret ?_
        exact J.done hw0 (fun _ _ h => h) (res1 rfl rfl) (retOk () (congrArg I (by rw [hist_cons hn, if_neg (by omega), if_neg h15, ← hch, hce])) trivial [0] rfl (by decide))

theorem ehistory_ct (F : Hp) (hK : Cells F ⟨0, 0, none⟩ (Sha.K.map W32)) (l : List En) (hg : ∀ x ∈ l, x.good) (A : Option Addr) (n c : Nat) (hl : Sl F 5 A n c (l.map En.cells)) (hn2 : n ≤ 1073741824) :
    Ct Tryz.prog 32 [.slice A n c] [F] (fun _ : Unit => I (En.hist l)) (fun _ => True) (fun _ => [F]) := by
  have hln : l.length = n := by have := hl.1; rwa [List.length_map] at this
  subst hln
  cases l with
  | nil => exact ehistory_nil F A c
  | cons x r =>
    obtain ⟨g, o, rfl⟩ := hl.at (by rw [List.length_cons]; omega)
    exact ehistory_cons F hK (x :: r) hg g o c hl (by rw [List.length_cons]; omega) hn2

theorem en_10' {v : Nat} {o r : List UInt8} {h : Int} {p : List UInt8} (h1 : ¬ v < 1) (h2 : ¬ 4294967295 < v) (hb : h < 0 ∨ 6 < h ∨ ¬ o.length = 16 ∨ ¬ r.length = 16 ∨ ¬ p.length = 16) : enErr v o r h p = 10 := by
  unfold enErr
  rw [if_neg (by omega), if_neg]
  rintro ⟨a, b⟩
  unfold pubErr at a
  split at a
  · rename_i hq; unfold pubOk at hq; omega
  · omega
theorem en_0 {v : Nat} {o r : List UInt8} {h : Int} {p : List UInt8} (h1 : ¬ v < 1) (h2 : ¬ 4294967295 < v) (h3 : ¬ h < 0) (h4 : ¬ 6 < h) (ho : o.length = 16) (hr : r.length = 16) (hp : p.length = 16) : enErr v o r h p = 0 ∧ enEnc v o r h p = Sha.numB (UInt64.ofNat v) 4 ++ o ++ r ++ [UInt8.ofNat h.toNat] ++ p := by
  have hq : pubOk o r h := ⟨by omega, by omega, ho, hr⟩
  have e : enErr v o r h p = 0 := by
    unfold enErr pubErr
    rw [if_neg (by omega), if_pos hq, if_pos ⟨rfl, hp⟩]
  refine ⟨e, ?_⟩
  unfold enEnc pubEnc
  rw [if_pos e, if_pos hq]
  simp

def kEn (v : Nat) (c : UInt8) (p : List UInt8) : En := ⟨v, List.replicate 16 c, noughts, 2, p⟩
theorem kEn_0 {v : Nat} {c : UInt8} {p : List UInt8} (h1 : 1 ≤ v) (h2 : v ≤ 4294967295) (hp : p.length = 16) : enErr v (List.replicate 16 c) noughts 2 p = 0 := (en_0 (by omega) (by omega) (by decide) (by decide) List.length_replicate List.length_replicate hp).1
theorem kEn_val {v : Nat} {c : UInt8} {p : List UInt8} (h1 : 1 ≤ v) (h2 : v ≤ 4294967295) (hp : p.length = 16) : (kEn v c p).val = Sha.tagged 12 [enEnc v (List.replicate 16 c) noughts 2 p] := if_pos (kEn_0 h1 h2 hp)
theorem kEn_len {v : Nat} {c : UInt8} {p : List UInt8} (h1 : 1 ≤ v) (h2 : v ≤ 4294967295) (hp : p.length = 16) : (kEn v c p).val.length = 16 := by rw [kEn_val h1 h2 hp, Sha.tagged_length]
theorem noughts_len : noughts.length = 16 := List.length_replicate
theorem kEn_good {v : Nat} {c : UInt8} {p : List UInt8} (hv : v < 18446744073709551616) (hp : p.length ≤ 1048576) : (kEn v c p).good := ⟨hv, by rw [kEn, List.length_replicate]; decide, by rw [kEn, noughts_len]; decide, hp⟩
theorem next_ok {x y : En} (h1 : x.v ≠ 18446744073709551615) (h2 : y.v = x.v + 1) (h3 : x.val ≠ []) (h4 : y.p = x.val) : x.next y = 0 := by
  unfold En.next
  rw [if_neg (by omega), if_neg]
  rintro (h | h)
  · exact h3 h
  · exact h h4
theorem ne_of_len {l : List UInt8} (h : l.length = 16) : l ≠ [] := fun e => by rw [e] at h; simp at h
def eX : En := kEn 1 97 noughts
def eY : En := kEn 2 98 eX.val
theorem eX_len : eX.val.length = 16 := kEn_len (by decide) (by decide) noughts_len
theorem eXY : eX.next eY = 0 := next_ok (by decide) rfl (ne_of_len eX_len) rfl
theorem eXY_hist : En.hist [eX, eY] = 0 := by
  show (if eX.v ≠ 1 then (13 : Int) else if eX.p ≠ noughts then 15 else if eX.next eY ≠ 0 then eX.next eY else 0) = 0
  rw [if_neg (fun h => h rfl), if_neg (fun h => h rfl), if_neg (fun h => h eXY)]
theorem eX_good : eX.good := kEn_good (by decide) (by decide)
theorem eY_good : eY.good := kEn_good (by decide) (by rw [eX_len]; decide)

theorem N64_inj (a b : Nat) : (((a : Int) == (b : Int)) = decide (a = b)) := by
  by_cases h : a = b
  · simp [h]
  · rw [decide_eq_false h, beq_eq_false_iff_ne]; omega
theorem eqEn (x y : En) (w : World) : (Op.equalIn 10000 34 (.agg x.cells.toArray) (.agg y.cells.toArray)).run Tryz.prog w = .ok (decide (x = y)) w := by
  have uu := Tryz.underlying29
  have au := Tryz.isAgg29
  have us := Tryz.underlying9
  have ag := Tryz.isAgg9
  have ap := Tryz.isAgg31
  have zp := Tryz.sizeOf31
  have hS : Tryz.prog.underlying 34 = some (.struct (Tryz.prog.fieldsOf 34)) := by kernel_rfl
  have hp : Tryz.prog.stoodInHeld 34 = false := by kernel_rfl
  rw [show (10000 : Nat) = 9999 + 1 from rfl, run_equalIn_struct w 9999 34 _ _ hS hp]
  simp only [Program.fieldsOf, Tryz.underlying34]
  obtain ⟨v, o, r, h, p⟩ := x
  obtain ⟨v', o', r', h', p'⟩ := y
  have hi : ∀ (a b : Int) (w : World), (Op.equalIn 9999 29 (.int .u64 a) (.int .u64 b)).run Tryz.prog w = .ok (a == b) w := fun a b w => run_equalIn_int w 9998 29 .u64 .u64 a b uu
  have hs : ∀ (a b : List UInt8) (w : World), (Op.equalIn 9999 9 (Str a) (Str b)).run Tryz.prog w = .ok (decide (a = b)) w := fun a b w => by rw [run_equalIn_string w 9998 9 _ _ us, bytes_beq]
  have hq := eqPub 9997 o r o' r' h h'
  simp only [Op.eqFields, En.cells]
  simp [part, au, ag, ap, zp, hi, hs, N64_inj, hq]
  by_cases h1 : v = v' <;> by_cases h2 : p = p' <;> by_cases h3 : o = o' <;> by_cases h4 : r = r' <;> by_cases h5 : h = h' <;> simp [h1, h2, h3, h4, h5]

end Go.Proofs.YtnkfapecbmmpeaaGreatDoor
