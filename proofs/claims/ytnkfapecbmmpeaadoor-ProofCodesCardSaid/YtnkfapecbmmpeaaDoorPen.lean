/- A part of the proof: contracts of functions of the program, each for every state of the heaps that it names. -/
import Derived.Test.YtnkfapecbmmpeaaDoorOct2
set_option linter.unusedSimpArgs false
set_option linter.unusedVariables false
namespace Go.Proofs.YtnkfapecbmmpeaaDoor
open Go Go.Fw
set_option maxRecDepth 100000
set_option maxHeartbeats 1000000
theorem ent54 : Enters Tryd.prog 54 := Enters.of Tryd.func54 rfl (by kernel_rfl)
theorem ent56 : Enters Tryd.prog 56 := Enters.of Tryd.func56 rfl (by kernel_rfl)

theorem wtr_new (g : Nat) : Wtr (blk g [.pointer none, .slice none 0 0, I 0] 104) g [] 0 :=
  ⟨[.pointer none, .slice none 0 0, I 0], fun _ => none, none, 0, none, by funext k; simp only [U]; cases blk g [.pointer none, .slice none 0 0, I 0] 104 k <;> rfl, fun _ => .inr rfl, rfl, ⟨rfl, .inl rfl, rfl, RowQ.nil, .inl rfl⟩, rfl⟩
theorem wfix_len (s : List UInt8) (n : Nat) (bs : List UInt8) (bad : Int) : (wfix s n bs bad).length ≤ bs.length + n := by
  unfold wfix fbad okF
  by_cases h1 : s.length = n <;> by_cases h2 : bad = 0 <;> simp [h1, h2]
theorem wnum_len (n : UInt64) (size : Nat) (bs : List UInt8) (bad : Int) : (wnum n size bs bad).length ≤ bs.length + size := by
  unfold wnum
  split
  · rw [List.length_append, Sha.numB_length]; omega
  · omega
theorem okF_t {s : List UInt8} {n : Nat} (h : s.length = n) : okF s n = true := decide_eq_true h
theorem okF_f {s : List UInt8} {n : Nat} (h : ¬ s.length = n) : okF s n = false := decide_eq_false h
theorem fbad_t (e bad : Int) : fbad true e bad = bad := by simp [fbad]
theorem fbad_f (e : Int) (he : e ≠ 0) : ∀ bad, fbad false e bad ≠ 0 := fun bad => by
  unfold fbad; split <;> simp_all
theorem wfix_t {s : List UInt8} {n : Nat} (h : s.length = n) (bs : List UInt8) : wfix s n bs 0 = bs ++ s := by
  unfold wfix; rw [okF_t h, fbad_t]; simp

def pubOk (o r : List UInt8) (h : Int) : Prop := 0 ≤ h ∧ h ≤ 6 ∧ o.length = 16 ∧ r.length = 16
instance (o r : List UInt8) (h : Int) : Decidable (pubOk o r h) := by unfold pubOk; infer_instance
def pubEnc (o r : List UInt8) (h : Int) : List UInt8 := if pubOk o r h then o ++ r ++ [UInt8.ofNat h.toNat] else []
def pubErr (o r : List UInt8) (h : Int) : Int := if pubOk o r h then 0 else 10
theorem numB1 : ∀ k, k < 7 → Sha.numB (UInt64.ofNat k) 1 = [UInt8.ofNat k] := by decide
theorem okN1 : ∀ k, k < 7 → okN (UInt64.ofNat k) 1 = true := by decide
def pbad (o r : List UInt8) : Int := fbad (okF r 16) 10 (fbad (okF o 16) 10 0)
def pbs (o r : List UInt8) : List UInt8 := wfix r 16 (wfix o 16 [] 0) (fbad (okF o 16) 10 0)
theorem pub_bad (o r : List UInt8) (k : Nat) (hk : k ≤ 6) : fbad (okN (UInt64.ofNat k) 1) 10 (pbad o r) = pubErr o r k := by
  rw [okN1 k (by omega), fbad_t]
  unfold pbad pubErr pubOk okF fbad
  by_cases h1 : o.length = 16 <;> by_cases h2 : r.length = 16 <;> simp [h1, h2] <;> omega
theorem pub_bs (o r : List UInt8) (k : Nat) (hk : k ≤ 6) (h : pubErr o r k = 0) : wnum (UInt64.ofNat k) 1 (pbs o r) (pbad o r) = pubEnc o r k := by
  have hb := pub_bad o r k hk
  unfold wnum pubEnc
  rw [hb, h, if_pos rfl, numB1 k (by omega)]
  unfold pubErr at h
  split at h
  · rename_i h1
    rw [if_pos h1]
    have h2 := h1
    unfold pubOk at h2
    unfold pbs
    rw [wfix_t h2.2.2.1, okF_t h2.2.2.1, fbad_t, wfix_t h2.2.2.2]; simp
  · omega
theorem pub_nil {o r : List UInt8} {h : Int} (hn : ¬ pubErr o r h = 0) : pubEnc o r h = [] := by
  unfold pubErr at hn; unfold pubEnc
  split at hn
  · omega
  · rename_i h1; rw [if_neg h1]
theorem pub_no {o r : List UInt8} {h : Int} (hn : h < 0 ∨ 6 < h) : Value.tuple #[Str [], I 10] = .tuple #[Str (pubEnc o r h), I (pubErr o r h)] := by
  have h1 : ¬ pubOk o r h := by unfold pubOk; omega
  unfold pubEnc pubErr
  rw [if_neg h1, if_neg h1]
theorem pub_val (o r : List UInt8) (k : Nat) (hk : k ≤ 6) : Value.tuple #[Str (if fbad (okN (UInt64.ofNat k) 1) 10 (pbad o r) = 0 then wnum (UInt64.ofNat k) 1 (pbs o r) (pbad o r) else []), I (fbad (okN (UInt64.ofNat k) 1) 10 (pbad o r))] = .tuple #[Str (pubEnc o r k), I (pubErr o r k)] := by
  rw [pub_bad o r k hk]
  by_cases h : pubErr o r k = 0
  · rw [if_pos h, pub_bs o r k hk h]
  · rw [if_neg h, pub_nil h]

theorem pencode_ct (F : Hp) (o r : List UInt8) (h : Int) (ho : o.length ≤ 1048576) (hr : r.length ≤ 1048576) :
    Ct Tryd.prog 17 [.agg #[Str o, Str r, I h]] [F] (fun _ : Unit => .tuple #[Str (pubEnc o r h), I (pubErr o r h)]) (fun _ => True) (fun _ => [F]) := by
  refine Ct.walk Tryd.func17 rfl Tryd.ntmps17 rfl (fun w0 hw0 => ?_)
  change J _ [(0, _)] _ _ _
  refine J.seq (fun K1 hK1 => ?_)
  refine J.region ?_
  refine J.e (op_box rfl rfl (l := [Str o, Str r, I h]) rfl) rfl rfl rfl ?_
  intro g1 _
  change J _ _ _ [F, blk g1 [Str o, Str r, I h] 32] _
  refine J.y (op_assign rfl rfl) rfl rfl rfl ?_
  refine J.y (op_assign rfl rfl) rfl rfl rfl ?_
  refine J.nil ?_
  refine J.then_n (J.k hK1 ?_)
  refine J.keepE [(1, _)] ⟨rfl, trivial⟩ ?_
  refine J.seq (fun K2 hK2 => ?_)
  refine J.seq (fun K3 hK3 => ?_)
  refine J.region ?_
  refine J.y (op_fieldAddr (j := 2) rfl rfl Tryd.underlying32 rfl Tryd.sizeOf3 rfl) rfl rfl rfl ?_
  refine J.y (op_loadB 1 rfl rfl rfl Tryd.isAgg3 rfl) rfl rfl rfl ?_
  refine J.y (op_lss rfl rfl rfl) rfl rfl rfl ?_
  refine J.y (op_move rfl rfl) rfl rfl rfl ?_
  refine J.split (d := 8) rfl (fun h8 => ?_) (fun h8 => ?_)
  ·
    refine J.no (Wan.is rfl rfl rfl rfl rfl) rfl rfl ?_
    refine J.no (Wan.is rfl rfl rfl rfl rfl) rfl rfl ?_
    refine J.no (Wan.is rfl rfl rfl rfl rfl) rfl rfl ?_
    refine J.y (op_pickT rfl rfl rfl) rfl rfl rfl ?_
    refine J.nil ?_
    refine J.then_n (J.k hK3 ?_)
    refine J.keepE [(1, _), (12, _)] ⟨rfl, rfl, trivial⟩ ?_
    refine J.condT rfl rfl ?_
    refine J.seq (fun K4 hK4 => ?_)
    refine J.region ?_
    refine J.y (op_assign rfl rfl) rfl rfl rfl ?_
    refine J.y (op_assign rfl rfl) rfl rfl rfl ?_
    refine J.nil ?_
    refine J.then_n (J.k hK4 ?_)
    refine J.keepE [(2, _), (3, _)] ⟨rfl, rfl, trivial⟩ ?_
    refine J.ret ?_
    refine J.then_r ?_
    exact J.done hw0 (fun _ _ h => h) (res2 rfl rfl rfl) (retOk () (pub_no (by omega)) trivial [0] rfl (by decide))
  ·
    refine J.yg (Wan.is rfl rfl rfl rfl rfl) (op_fieldAddr (j := 2) rfl rfl Tryd.underlying32 rfl Tryd.sizeOf3 rfl) rfl rfl ?_
    refine J.yg (Wan.is rfl rfl rfl rfl rfl) (op_loadB 1 rfl rfl rfl Tryd.isAgg3 rfl) rfl rfl ?_
    refine J.yg (Wan.is rfl rfl rfl rfl rfl) (op_gtr rfl rfl rfl) rfl rfl ?_
    refine J.y (op_pickF rfl rfl rfl) rfl rfl rfl ?_
    refine J.nil ?_
    refine J.then_n (J.k hK3 ?_)
    refine J.keepE [(1, _), (12, _)] ⟨rfl, rfl, trivial⟩ ?_
    refine J.ite rfl (fun h12 => ?_) (fun h12 => ?_)
    ·
      refine J.seq (fun K5 hK5 => ?_)
      refine J.region ?_
      refine J.y (op_assign rfl rfl) rfl rfl rfl ?_
      refine J.y (op_assign rfl rfl) rfl rfl rfl ?_
      refine J.nil ?_
      refine J.then_n (J.k hK5 ?_)
      refine J.keepE [(2, _), (3, _)] ⟨rfl, rfl, trivial⟩ ?_
      refine J.ret ?_
      refine J.then_r ?_
      exact J.done hw0 (fun _ _ h => h) (res2 rfl rfl rfl) (retOk () (pub_no (by omega)) trivial [0] rfl (by decide))
    ·
      refine J.skip ?_
      refine J.then_n (J.k hK2 ?_)
      refine J.keepE [(1, _)] ⟨rfl, trivial⟩ ?_
      refine J.seq (fun K6 hK6 => ?_)
      obtain ⟨k, hk⟩ := Int.eq_ofNat_of_zero_le (show 0 ≤ h by omega)
      have hk6 : k ≤ 6 := by omega
      refine J.region ?_
      refine J.e (op_alloc rfl Tryd.zeroValue104 rfl) rfl rfl rfl ?_
      intro g4 _
      change J _ _ _ [F, blk g1 [Str o, Str r, I h] 32, blk g4 _ 104] _
      refine J.nil ?_
      refine J.then_n (J.k hK6 ?_)
      refine J.keepE [(1, _), (4, _)] ⟨rfl, rfl, trivial⟩ ?_
      refine J.seq (fun K7 hK7 => ?_)
      refine J.draw [blk g1 [Str o, Str r, I h] 32] [] (.y 0 (.y 1 (.y 3 (.y 4 (.y 6 (.y 7 (.y 8 (.e 2 (.e 5 (.e 9 (.e 10 (.y 11 (.y 12 (.y 13 (.y 14 .nil))))))))))))))) Tryd.wide (by decide +kernel) (by simp) ?_
      refine J.dy rfl (op_fieldAddr (j := 0) rfl rfl Tryd.underlying32 rfl Tryd.sizeOf9 rfl) rfl rfl rfl rfl ?_
      refine J.dy rfl (op_loadB 0 rfl rfl rfl Tryd.isAgg9 rfl) rfl rfl rfl rfl ?_
      refine J.dy rfl (op_fieldAddr (j := 1) rfl rfl Tryd.underlying32 rfl Tryd.sizeOf9 rfl) rfl rfl rfl rfl ?_
      refine J.dy rfl (op_loadB 0 rfl rfl rfl Tryd.isAgg9 rfl) rfl rfl rfl rfl ?_
      refine J.dy rfl (op_fieldAddr (j := 2) rfl rfl Tryd.underlying32 rfl Tryd.sizeOf3 rfl) rfl rfl rfl rfl ?_
      refine J.dy rfl (op_loadB 0 rfl rfl rfl Tryd.isAgg3 rfl) rfl rfl rfl rfl ?_
      refine J.dy rfl ((op_cvZ_i64_u64 rfl rfl Tryd.underlying3 Tryd.underlying108).as (v' := W64 (UInt64.ofNat k)) (by rw [show (h % 18446744073709551616).toNat = k by omega])) rfl rfl rfl rfl ?_
      refine J.de rfl (op_call rfl rfl ent54 (Ct.use1 2 (m' := fun x : Hp => x) (new := fun _ => []) rfl (fun F' _ => fixed_ct F' (blk g4 [.pointer none, .slice none 0 0, I 0] 104) g4 [] 0 (wtr_new g4) (by decide) o (by omega) 16))) rfl rfl rfl (by simp) ?_
      rintro m15 hw15
      change J _ _ _ [F, blk g1 [Str o, Str r, I h] 32, m15] _
      refine J.de rfl (op_call rfl rfl ent54 (Ct.use1 2 (m' := fun x : Hp => x) (new := fun _ => []) rfl (fun F' _ => fixed_ct F' m15 g4 (wfix o 16 [] 0) (fbad (okF o 16) 10 0) hw15 (by have := wfix_len o 16 [] 0; simp only [List.length_nil] at this; omega) r (by omega) 16))) rfl rfl rfl (by simp) ?_
      rintro m18 hw18
      change J _ _ _ [F, blk g1 [Str o, Str r, I h] 32, m18] _
      refine J.de rfl (op_call rfl rfl ent55 (Ct.use1 2 (m' := fun x : Hp => x) (new := fun _ => []) rfl (fun F' _ => num_ct F' m18 g4 (pbs o r) (pbad o r) hw18 (by have := wfix_len o 16 [] 0; have h2 := wfix_len r 16 (wfix o 16 [] 0) (fbad (okF o 16) 10 0); simp only [List.length_nil] at this; unfold pbs; omega) (UInt64.ofNat k) 1 (by omega) (by omega)))) rfl rfl rfl (by simp) ?_
      rintro m22 hw22
      change J _ _ _ [F, blk g1 [Str o, Str r, I h] 32, m22] _
      refine J.de rfl (op_call rfl rfl ent56 (Ct.use1 2 (m' := fun x : Hp => x) (new := fun _ => []) rfl (fun F' _ => bytes_ct F' m22 g4 (wnum (UInt64.ofNat k) 1 (pbs o r) (pbad o r)) (fbad (okN (UInt64.ofNat k) 1) 10 (pbad o r)) hw22 (by have := wfix_len o 16 [] 0; have h2 := wfix_len r 16 (wfix o 16 [] 0) (fbad (okF o 16) 10 0); have h3 := wnum_len (UInt64.ofNat k) 1 (pbs o r) (pbad o r); simp only [List.length_nil] at this; unfold pbs at h3 ⊢; omega)))) rfl rfl rfl (by simp) ?_
      rintro m23 hw23
      change J _ _ _ [F, blk g1 [Str o, Str r, I h] 32, m23] _
      refine J.dy rfl (op_extract (v := Str (if fbad (okN (UInt64.ofNat k) 1) 10 (pbad o r) = 0 then wnum (UInt64.ofNat k) 1 (pbs o r) (pbad o r) else [])) rfl rfl rfl) rfl rfl rfl rfl ?_
      refine J.dy rfl (op_extract (v := I (fbad (okN (UInt64.ofNat k) 1) 10 (pbad o r))) rfl rfl rfl) rfl rfl rfl rfl ?_
      refine J.dy rfl (op_assign rfl rfl) rfl rfl rfl rfl ?_
      refine J.dy rfl (op_assign rfl rfl) rfl rfl rfl rfl ?_
      refine J.dnil ?_
      refine J.then_n (J.k hK7 ?_)
      refine J.keepE [(2, _), (3, _)] ⟨rfl, rfl, trivial⟩ ?_
      refine J.ret ?_
      exact J.done hw0 (fun _ _ h => h) (res2 rfl rfl rfl) (retOk () (by subst hk; exact pub_val o r k hk6) trivial [0] rfl (by decide))

theorem eqPub (d : Nat) (o r o' r' : List UInt8) (h h' : Int) (w : World) : (Op.equalIn (d + 2) 32 (.agg #[Str o, Str r, I h]) (.agg #[Str o', Str r', I h'])).run Tryd.prog w = .ok (decide (o = o' ∧ r = r' ∧ h = h')) w := by
  have u3 := Tryd.underlying3
  have a3 := Tryd.isAgg3
  have us := Tryd.underlying9
  have ag := Tryd.isAgg9
  have hS : Tryd.prog.underlying 32 = some (.struct (Tryd.prog.fieldsOf 32)) := by kernel_rfl
  have hp : Tryd.prog.stoodInHeld 32 = false := by kernel_rfl
  rw [show d + 2 = (d + 1) + 1 from rfl, run_equalIn_struct w (d + 1) 32 _ _ hS hp]
  simp only [Program.fieldsOf, Tryd.underlying32]
  have hi : ∀ (a b : Int) (w : World), (Op.equalIn (d + 1) 3 (.int .i64 a) (.int .i64 b)).run Tryd.prog w = .ok (a == b) w := fun a b w => run_equalIn_int w d 3 .i64 .i64 a b u3
  have hs : ∀ (a b : List UInt8) (w : World), (Op.equalIn (d + 1) 9 (Str a) (Str b)).run Tryd.prog w = .ok (decide (a = b)) w := fun a b w => by rw [run_equalIn_string w d 9 _ _ us, bytes_beq]
  simp only [Op.eqFields]
  simp [part, a3, ag, hi, hs]
  by_cases h1 : o = o' <;> by_cases h2 : r = r' <;> by_cases h3 : h = h' <;> simp [h1, h2, h3]

end Go.Proofs.YtnkfapecbmmpeaaDoor
