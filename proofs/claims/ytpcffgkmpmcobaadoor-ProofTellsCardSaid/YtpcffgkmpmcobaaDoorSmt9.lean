/- A part of the proof: contracts of functions of the program, each for every state of the heaps that it names. -/
import Derived.Test.YtpcffgkmpmcobaaDoorSmt8
set_option linter.unusedSimpArgs false
set_option linter.unusedVariables false
namespace Go.Proofs.YtpcffgkmpmcobaaDoor
open Go Go.Fw
set_option maxRecDepth 100000
set_option maxHeartbeats 1000000
theorem ent56 : Enters Tryd.prog 56 := Enters.of Tryd.func56 rfl (by kernel_rfl)
theorem ent58 : Enters Tryd.prog 58 := Enters.of Tryd.func58 rfl (by kernel_rfl)

theorem bandK_lt {k : List UInt8} (hk : k.length = 16) {i : Nat} (hi : i ≤ 16) : Sm.kv k / 2 ^ (128 - i) < 2 ^ i := by
  have h := Sm.kv_lt k
  rw [hk] at h
  rw [Nat.div_lt_iff_lt_mul (Nat.two_pow_pos _), ← Nat.pow_add, show i + (128 - i) = 128 by omega]
  exact Nat.lt_of_lt_of_eq h (by decide)
theorem pow16 {i : Nat} (hi : i ≤ 16) : 2 ^ i ≤ 65536 := Nat.le_trans (Nat.pow_le_pow_right (by decide) hi) (by decide)
theorem bandK_step {k : List UInt8} (hk : k.length = 16) {i : Nat} (hi : i < 16) : (Sm.kv k / 2 ^ (128 - i)) * 2 ^ 1 ||| Sm.bit k i = Sm.kv k / 2 ^ (128 - (i + 1)) := by
  have hb := Sm.bit_le k i
  have e := Nat.two_pow_add_eq_or_of_lt (i := 1) (b := Sm.bit k i) (by omega) (Sm.kv k / 2 ^ (128 - i))
  have e1 := Sm.pre_succ (Sm.kv k) (127 - i)
  rw [show 127 - i + 1 = 128 - i by omega] at e1
  rw [Nat.mul_comm, ← e, Sm.bit_kv hk (by omega), show 128 - (i + 1) = 127 - i by omega]
  omega
/-- a band's number -/
def bandN (k : List UInt8) : Nat → Nat
  | 0 => 0
  | i + 1 => bandN k i * 2 ^ 1 ||| Sm.bit k i
theorem bandN_lt (k : List UInt8) : ∀ i, bandN k i < 2 ^ i
  | 0 => Nat.one_pos
  | i + 1 => by
    have h1 := bandN_lt k i
    have h2 := Sm.bit_le k i
    have h3 : 2 ^ (i + 1) = 2 ^ i * 2 := Nat.pow_succ 2 i
    have e := Nat.two_pow_add_eq_or_of_lt (i := 1) (b := Sm.bit k i) (by omega) (bandN k i)
    rw [bandN, Nat.mul_comm, ← e]
    omega
theorem bandN_kv {k : List UInt8} (hk : k.length = 16) : ∀ {i : Nat}, i ≤ 16 → bandN k i = Sm.kv k / 2 ^ (128 - i)
  | 0, _ => by rw [Nat.div_eq_of_lt (Nat.lt_of_lt_of_eq (Sm.kv_lt k) (by rw [hk]))]; rfl
  | i + 1, hi => by rw [bandN, bandN_kv hk (by omega), bandK_step hk (by omega)]
/-- the first key of a band -/
def kF (n d : Nat) : List UInt8 := [UInt8.ofNat (n * 2 ^ (16 - d) / 2 ^ 8), UInt8.ofNat (n * 2 ^ (16 - d)), 0, 0, 0, 0, 0, 0, 0, 0, 0, 0, 0, 0, 0, 0]
theorem kF_len (n d : Nat) : (kF n d).length = 16 := rfl
theorem top_lt {n d : Nat} (hd : d ≤ 16) (hn : n < 2 ^ d) : n * 2 ^ (16 - d) < 65536 := by
  have h := Nat.mul_lt_mul_of_pos_right hn (Nat.two_pow_pos (16 - d))
  rw [← Nat.pow_add, show d + (16 - d) = 16 by omega] at h
  exact h
theorem kF_kv {n d : Nat} (hd : d ≤ 16) (hn : n < 2 ^ d) : Sm.kv (kF n d) = n * 2 ^ (128 - d) := by
  have ht := top_lt hd hn
  obtain ⟨t, hte⟩ : ∃ t, t = n * 2 ^ (16 - d) := ⟨_, rfl⟩
  have e : n * 2 ^ (128 - d) = t * 2 ^ 112 := by rw [hte, Nat.mul_assoc, ← Nat.pow_add, show 16 - d + 112 = 128 - d by omega]
  have h1 : (UInt8.ofNat (t / 2 ^ 8)).toNat = t / 2 ^ 8 := UInt8.toNat_ofNat_of_lt' (by show _ < 256; omega)
  have h2 : (UInt8.ofNat t).toNat = t % 256 := by simp
  rw [e]
  unfold kF
  rw [← hte]
  simp only [Sm.kv, List.length_cons, List.length_nil, h1, h2]
  show t / 2 ^ 8 * 256 ^ 15 + (t % 256 * 256 ^ 14 + 0) = _
  rw [show (256 : Nat) ^ 15 = 256 * 2 ^ 112 by decide, show (256 : Nat) ^ 14 = 2 ^ 112 by decide, ← Nat.mul_assoc, Nat.add_zero, ← Nat.add_mul]
  congr 1
  omega
theorem kF_div {n d : Nat} (hd : d ≤ 16) (hn : n < 2 ^ d) : Sm.kv (kF n d) / 2 ^ (128 - d) = n := by rw [kF_kv hd hn, Nat.mul_div_cancel _ (Nat.two_pow_pos _)]

theorem band_ct (F : Hp) (k : List UInt8) (hk : k.length ≤ 1000000) (d : Nat) (hd : d ≤ 16) : Ct Tryd.prog 56 [Str (k), I ((d : Nat) : Int)] [F] (fun _ : Unit => I ((bandN k d : Nat) : Int)) (fun _ => True) (fun _ => [F]) := by
  refine Ct.walk Tryd.func56 rfl Tryd.ntmps56 rfl (fun w0 hw0 => ?_)
  change J _ [(0, _), (1, _)] _ _ _
  refine J.seq (fun K1 hK1 => ?_)
  refine J.region ?_
  refine J.y (op_assign rfl rfl) rfl rfl rfl ?_
  refine J.nil ?_
  refine J.then_n (J.k hK1 ?_)
  refine J.keepE [(0, _), (1, _)] ⟨rfl, rfl, trivial⟩ ?_
  refine J.seq (fun K2 hK2 => ?_)
  refine J.seq (fun K3 hK3 => ?_)
  refine J.region ?_
  refine J.y (op_move rfl rfl) rfl rfl rfl ?_
  refine J.y (op_lss rfl rfl rfl) rfl rfl rfl ?_
  refine J.y (op_move rfl rfl) rfl rfl rfl ?_
  refine J.split (d := 9) rfl (fun h9 => ?_) (fun h9 => ?_)
  ·
    refine J.no (Wan.is rfl rfl rfl rfl rfl) rfl rfl ?_
    refine J.no (Wan.is rfl rfl rfl rfl rfl) rfl rfl ?_
    refine J.y (op_pickT rfl rfl rfl) rfl rfl rfl ?_
    refine J.nil ?_
    refine J.then_n (J.k hK3 ?_)
    refine J.keepE [(0, _), (1, _), (12, _)] ⟨rfl, rfl, rfl, trivial⟩ ?_
    refine J.condT rfl rfl ?_
    refine J.seq (fun K4 hK4 => ?_)
    refine J.region ?_
    refine J.y (op_assign rfl rfl) rfl rfl rfl ?_
    refine J.nil ?_
    refine J.then_n (J.k hK4 ?_)
    refine J.keepE [(4, _)] ⟨rfl, trivial⟩ ?_
    refine J.ret ?_
    refine J.then_r ?_
    exact J.done hw0 (fun _ _ h => h) (res1 rfl rfl) (retOk () (by exfalso; omega) trivial [0] rfl (by decide))
  ·
    refine J.yg (Wan.is rfl rfl rfl rfl rfl) (op_move rfl rfl) rfl rfl ?_
    refine J.yg (Wan.is rfl rfl rfl rfl rfl) (op_gtr rfl rfl rfl) rfl rfl ?_
    refine J.y (op_pickF rfl rfl rfl) rfl rfl rfl ?_
    refine J.nil ?_
    refine J.then_n (J.k hK3 ?_)
    refine J.keepE [(0, _), (1, _), (12, _)] ⟨rfl, rfl, rfl, trivial⟩ ?_
    refine J.ite rfl (fun h12 => ?_) (fun h12 => ?_)
    ·
      refine J.seq (fun K5 hK5 => ?_)
      refine J.region ?_
      refine J.y (op_assign rfl rfl) rfl rfl rfl ?_
      refine J.nil ?_
      refine J.then_n (J.k hK5 ?_)
      refine J.keepE [(4, _)] ⟨rfl, trivial⟩ ?_
      refine J.ret ?_
      refine J.then_r ?_
      exact J.done hw0 (fun _ _ h => h) (res1 rfl rfl) (retOk () (by exfalso; omega) trivial [0] rfl (by decide))
    ·
      refine J.skip ?_
      refine J.then_n (J.k hK2 ?_)
      refine J.keepE [(0, _), (1, _)] ⟨rfl, rfl, trivial⟩ ?_
      refine J.seq (fun K6 hK6 => ?_)
      refine J.region ?_
      refine J.y (op_assign rfl rfl) rfl rfl rfl ?_
      refine J.nil ?_
      refine J.then_n (J.k hK6 ?_)
      refine J.keepE [(0, _), (1, _), (5, _)] ⟨rfl, rfl, rfl, trivial⟩ ?_
      refine J.seq (fun K7 hK7 => ?_)
      refine J.seq (fun K8 hK8 => ?_)
      refine J.region ?_
      refine J.y (op_move rfl rfl) rfl rfl rfl ?_
      refine J.y (op_move rfl rfl) rfl rfl rfl ?_
      refine J.nil ?_
      refine J.then_n (J.k hK8 ?_)
      refine J.keepE [(0, _), (5, _), (13, _), (14, _)] ⟨rfl, rfl, rfl, rfl, trivial⟩ ?_
      refine J.block ?_
      refine J.loop (X := Nat) (fun ζ => [(0, Str (k)), (5, I ((bandN k ζ : Nat) : Int)), (13, I ((d : Nat) : Int)), (14, I ((ζ : Nat) : Int))]) (fun ζ => [F]) (fun ζ => ζ ≤ d) (fun ζ => d - ζ) 0 (Nat.zero_le _) ⟨rfl, rfl, rfl, rfl, trivial⟩ (fun _ h => h) ?_
      rintro i hi I0 hI0
      have hlt := bandN_lt k i
      have hp16 := pow16 (i := i) (by omega)
      have hbl := Sm.bit_le k i
      refine J.seq (fun K9 hK9 => ?_)
      refine J.region ?_
      refine J.y (op_lss rfl rfl rfl) rfl rfl rfl ?_
      refine J.nil ?_
      refine J.then_n (J.k hK9 ?_)
      refine J.keepE [(0, _), (5, _), (13, _), (14, _), (15, _)] ⟨rfl, rfl, rfl, rfl, rfl, trivial⟩ ?_
      refine J.seq (fun K10 hK10 => ?_)
      refine J.ite rfl (fun h15 => ?_) (fun h15 => ?_)
      ·
        refine J.skip ?_
        refine J.then_n (J.k hK10 ?_)
        refine J.keepE [(0, _), (5, _), (13, _), (14, _)] ⟨rfl, rfl, rfl, rfl, trivial⟩ ?_
        refine J.seq (fun K11 hK11 => ?_)
        refine J.block ?_
        refine J.seq (fun K12 hK12 => ?_)
        refine J.region ?_
        refine J.y (op_move rfl rfl) rfl rfl rfl ?_
        refine J.y (op_assign rfl rfl) rfl rfl rfl ?_
        refine J.nil ?_
        refine J.then_n (J.k hK12 ?_)
        refine J.keepE [(0, _), (5, _), (6, _), (13, _), (14, _)] ⟨rfl, rfl, rfl, rfl, rfl, trivial⟩ ?_
        refine J.region ?_
        refine J.y (op_move rfl rfl) rfl rfl rfl ?_
        refine J.y (op_shlN (a := bandN k i) (m := 1) rfl rfl rfl (by first | omega | (simp only [List.length_append, List.length_cons, List.length_nil, List.length_take, List.length_drop] at *; omega))) rfl rfl rfl ?_
        refine J.y (op_move rfl rfl) rfl rfl rfl ?_
        refine J.y (op_move rfl rfl) rfl rfl rfl ?_
        refine J.e (op_call rfl rfl ent108 (Ct.use0 (fun F' hF => bit_ct F' k (by first | omega | exact hsm _) i (by omega)))) rfl rfl rfl ?_
        intro g21 _
        refine J.y (op_orI (a := (bandN k i) * 2 ^ 1) (b := Sm.bit k i) rfl rfl rfl (by first | omega | (simp only [List.length_append, List.length_cons, List.length_nil, List.length_take, List.length_drop] at *; omega))) rfl rfl rfl ?_
        refine J.y (op_assign rfl rfl) rfl rfl rfl ?_
        refine J.nil ?_
        refine J.blk_n ?_
        refine J.then_n (J.k hK11 ?_)
        refine J.keepE [(0, _), (5, _), (13, _), (14, _)] ⟨rfl, rfl, rfl, rfl, trivial⟩ ?_
        refine J.region ?_
        refine J.y ((op_add rfl rfl rfl (by first | omega | (simp only [List.length_append, List.length_cons, List.length_nil, List.length_take, List.length_drop] at *; omega))).as (v' := I ((i + 1 : Nat) : Int)) (congrArg I (by omega))) rfl rfl rfl ?_
        refine J.y (op_move rfl rfl) rfl rfl rfl ?_
        refine J.nil ?_
        refine J.then_n ?_
        exact J.kk (i + 1) (fun η (hη : _ ∧ d - η < d - i) => hI0 η hη.1 hη.2) ⟨(by omega), by first | omega | (dsimp only; omega)⟩ ⟨rfl, rfl, rfl, rfl, trivial⟩ (fun _ h => h)
      ·
        refine J.exit ?_
        refine J.then_x ?_
        refine J.then_x ?_
        refine J.blk_eq ?_
        refine J.then_n (J.k hK7 ?_)
        refine J.keepE [(5, _)] ⟨rfl, trivial⟩ ?_
        refine J.seq (fun K13 hK13 => ?_)
        refine J.region ?_
        refine J.y (op_move rfl rfl) rfl rfl rfl ?_
        refine J.y (op_assign rfl rfl) rfl rfl rfl ?_
        refine J.nil ?_
        refine J.then_n (J.k hK13 ?_)
        refine J.keepE [(4, _)] ⟨rfl, trivial⟩ ?_
        refine J.ret ?_
        exact J.done hw0 (fun _ _ h => h) (res1 rfl rfl) (retOk () (by rw [show i = d by omega]) trivial [0] rfl (by decide))

theorem firstb_ct (F : Hp) (n d : Nat) (hd : d ≤ 16) (hn : n < 2 ^ d) : Ct Tryd.prog 58 [I ((n : Nat) : Int), I ((d : Nat) : Int)] [F] (fun _ : Unit => Str (kF n d)) (fun _ => True) (fun _ => [F]) := by
  have hp16 := pow16 hd
  have htl := top_lt hd hn
  have hpe : 2 ^ (16 - d) ≤ 65536 := pow16 (Nat.sub_le _ _)
  refine Ct.walk Tryd.func58 rfl Tryd.ntmps58 rfl (fun w0 hw0 => ?_)
  change J _ [(0, _), (1, _)] _ _ _
  refine J.seq (fun K1 hK1 => ?_)
  refine J.region ?_
  refine J.y (op_assign rfl rfl) rfl rfl rfl ?_
  refine J.nil ?_
  refine J.then_n (J.k hK1 ?_)
  refine J.keepE [(0, _), (1, _)] ⟨rfl, rfl, trivial⟩ ?_
  refine J.seq (fun K2 hK2 => ?_)
  refine J.region ?_
  refine J.e (op_makeSlice (n' := 16) rfl rfl Tryd.underlying66 el5 (by omega) (by omega)) rfl rfl rfl ?_
  rintro g7 _
  change J _ ((7, .slice (some ⟨g7, 0, none⟩) 16 16) :: _) _ [F, blk g7 (List.replicate 16 [.int .u8 0]).flatten 5] _
  refine J.y (op_assign rfl rfl) rfl rfl rfl ?_
  refine J.nil ?_
  refine J.then_n (J.k hK2 ?_)
  refine J.keepE [(0, _), (1, _), (5, _)] ⟨rfl, rfl, rfl, trivial⟩ ?_
  refine J.seq (fun K3 hK3 => ?_)
  refine J.seq (fun K4 hK4 => ?_)
  refine J.region ?_
  refine J.y (op_move rfl rfl) rfl rfl rfl ?_
  refine J.y ((op_geq rfl rfl rfl).as (v' := .bool true) (congrArg Value.bool (decide_eq_true (by omega)))) rfl rfl rfl ?_
  refine J.y (op_move rfl rfl) rfl rfl rfl ?_
  refine J.yg (Wan.is rfl rfl rfl rfl rfl) (op_move rfl rfl) rfl rfl ?_
  refine J.yg (Wan.is rfl rfl rfl rfl rfl) ((op_leq rfl rfl rfl).as (v' := .bool true) (congrArg Value.bool (decide_eq_true (by omega)))) rfl rfl ?_
  refine J.y (op_pickT rfl rfl rfl) rfl rfl rfl ?_
  refine J.y (op_move rfl rfl) rfl rfl rfl ?_
  refine J.yg (Wan.is rfl rfl rfl rfl rfl) (op_move rfl rfl) rfl rfl ?_
  refine J.yg (Wan.is rfl rfl rfl rfl rfl) ((op_geq rfl rfl rfl).as (v' := .bool true) (congrArg Value.bool (decide_eq_true (by omega)))) rfl rfl ?_
  refine J.y (op_pickT rfl rfl rfl) rfl rfl rfl ?_
  refine J.y (op_move rfl rfl) rfl rfl rfl ?_
  refine J.yg (Wan.is rfl rfl rfl rfl rfl) (op_move rfl rfl) rfl rfl ?_
  refine J.yg (Wan.is rfl rfl rfl rfl rfl) (op_move rfl rfl) rfl rfl ?_
  refine J.yg (Wan.is rfl rfl rfl rfl rfl) ((op_shlN (a := 1) (m := d) rfl rfl rfl ⟨by omega, by omega⟩)) rfl rfl ?_
  refine J.yg (Wan.is rfl rfl rfl rfl rfl) ((op_lss rfl rfl rfl).as (v' := .bool true) (congrArg Value.bool (decide_eq_true (by omega)))) rfl rfl ?_
  refine J.y (op_pickT rfl rfl rfl) rfl rfl rfl ?_
  refine J.nil ?_
  refine J.then_n (J.k hK4 ?_)
  refine J.keepE [(0, _), (1, _), (5, _), (23, _)] ⟨rfl, rfl, rfl, rfl, trivial⟩ ?_
  refine J.condT rfl rfl ?_
  refine J.seq (fun K5 hK5 => ?_)
  refine J.region ?_
  refine J.y (op_move rfl rfl) rfl rfl rfl ?_
  refine J.y (op_move rfl rfl) rfl rfl rfl ?_
  refine J.y ((op_sub rfl rfl rfl (by first | omega | (refine ⟨?_, ?_⟩ <;> omega))).as (v' := I ((16 - d : Nat) : Int)) (congrArg I (by omega))) rfl rfl rfl ?_
  refine J.y (op_shlN (a := n) (m := 16 - d) rfl rfl rfl (by first | omega | decide | (simp only [List.length_set, List.length_replicate] at *; omega))) rfl rfl rfl ?_
  refine J.y (op_assign rfl rfl) rfl rfl rfl ?_
  refine J.nil ?_
  refine J.then_n (J.k hK5 ?_)
  refine J.keepE [(5, _), (6, _)] ⟨rfl, rfl, trivial⟩ ?_
  refine J.region ?_
  refine J.y (op_move rfl rfl) rfl rfl rfl ?_
  refine J.y (op_move rfl rfl) rfl rfl rfl ?_
  refine J.y (op_move rfl rfl) rfl rfl rfl ?_
  refine J.y (op_shrN (a := n * 2 ^ (16 - d)) (m := 8) rfl rfl rfl (by first | omega | decide | (simp only [List.length_set, List.length_replicate] at *; omega))) rfl rfl rfl ?_
  refine J.y (op_cv_i64_u8 (m := (n * 2 ^ (16 - d)) / 2 ^ 8) rfl rfl Tryd.underlying3 Tryd.underlying5) rfl rfl rfl ?_
  refine J.y (op_move rfl rfl) rfl rfl rfl ?_
  refine J.y (op_cv_i64_u8 (m := n * 2 ^ (16 - d)) rfl rfl Tryd.underlying3 Tryd.underlying5) rfl rfl rfl ?_
  refine J.y (op_indexAddrS (i := 0) (j := 0 + 0 * 1) rfl rfl rfl Tryd.underlying66 Tryd.sizeOf5 (by first | omega | decide | (simp only [List.length_set, List.length_replicate] at *; omega)) (by omega)) rfl rfl rfl ?_
  refine J.s (op_storeRow (i := 1) (k := 0) (off := 0) (b := [B8 (UInt8.ofNat ((n * 2 ^ (16 - d)) / 2 ^ 8))]) rfl rfl rfl rfl (row_blk (q := True) (sz := 1) (xs := bytesV (List.replicate 16 0)) rfl (by intro x hx; obtain ⟨_, _, rfl⟩ := List.mem_map.1 hx; rfl)) (vs := [B8 (UInt8.ofNat ((n * 2 ^ (16 - d)) / 2 ^ 8))]) rfl Tryd.sizeOf5 rfl (by omega) (bytesV_get (getSome 0 (by first | omega | decide | (simp only [List.length_set, List.length_replicate] at *; omega)))) rfl (Nat.le_refl _)) rfl rfl ?_
  rintro m4_1 hm4_1
  change J _ _ _ [F, m4_1] _
  rw [bytesV_set] at hm4_1
  refine J.y (op_indexAddrS (i := 1) (j := 0 + 1 * 1) rfl rfl rfl Tryd.underlying66 Tryd.sizeOf5 (by first | omega | decide | (simp only [List.length_set, List.length_replicate] at *; omega)) (by omega)) rfl rfl rfl ?_
  refine J.s (op_storeRow (i := 1) (k := 1) (off := 0) (b := [B8 (UInt8.ofNat (n * 2 ^ (16 - d)))]) rfl rfl rfl rfl hm4_1 (vs := [B8 (UInt8.ofNat (n * 2 ^ (16 - d)))]) rfl Tryd.sizeOf5 rfl (by omega) (bytesV_get (getSome 0 (by first | omega | decide | (simp only [List.length_set, List.length_replicate] at *; omega)))) rfl (Nat.le_refl _)) rfl rfl ?_
  rintro m4_2 hm4_2
  change J _ _ _ [F, m4_2] _
  rw [bytesV_set] at hm4_2
  refine J.nil ?_
  refine J.then_n (J.k hK3 ?_)
  refine J.keepE [(5, _)] ⟨rfl, trivial⟩ ?_
  refine J.seq (fun K6 hK6 => ?_)
  refine J.region ?_
  refine J.y (op_move rfl rfl) rfl rfl rfl ?_
  refine J.y (op_toStr (l := ((List.replicate 16 0).set 0 (UInt8.ofNat ((n * 2 ^ (16 - d)) / 2 ^ 8))).set 1 (UInt8.ofNat (n * 2 ^ (16 - d)))) rfl rfl Tryd.underlying66 Tryd.underlying5 Tryd.underlying9 (m := m4_2) (by simp) hm4_2.sl) rfl rfl rfl ?_
  refine J.y (op_assign rfl rfl) rfl rfl rfl ?_
  refine J.nil ?_
  refine J.then_n (J.k hK6 ?_)
  refine J.keepE [(4, _)] ⟨rfl, trivial⟩ ?_
  refine J.ret ?_
  exact J.done hw0 (fun _ _ h => h) (res1 rfl rfl) (retOk () (by unfold kF; rfl) trivial [0] rfl (by decide))

def belR (m : List Pr) (k : List UInt8) (d : Nat) : List Pr := m.filter fun p => Sm.belowB p.k k d
theorem belR_map (m : List Pr) (k : List UInt8) (d : Nat) : (belR m k d).map toP = Sm.bel (m.map toP) k d := by
  unfold belR Sm.bel
  rw [List.filter_map]; rfl
theorem belR_len (m : List Pr) (k : List UInt8) (d : Nat) : (belR m k d).length ≤ m.length := List.length_filter_le _ _
theorem belR_take {m : List Pr} {i : Nat} (hi : i < m.length) (k : List UInt8) (d : Nat) : belR (m.take (i + 1)) k d = belR (m.take i) k d ++ if Sm.belowB (m.getD i noPr).k k d = true then [m.getD i noPr] else [] := by
  have e : m.getD i noPr = m[i] := by rw [List.getD_eq_getElem?_getD, List.getElem?_eq_getElem hi]; rfl
  unfold belR
  rw [e, List.take_succ_eq_append_getElem hi, List.filter_append, List.filter_cons, List.filter_nil]
theorem belR_yes {m : List Pr} {i : Nat} (hi : i < m.length) {k : List UInt8} {d : Nat} (h : Sm.belowB (m.getD i noPr).k k d = true) : belR (m.take (i + 1)) k d = belR (m.take i) k d ++ [m.getD i noPr] := by rw [belR_take hi, if_pos h]
theorem belR_no {m : List Pr} {i : Nat} (hi : i < m.length) {k : List UInt8} {d : Nat} (h : Sm.belowB (m.getD i noPr).k k d = false) : belR (m.take (i + 1)) k d = belR (m.take i) k d := by rw [belR_take hi, if_neg (by rw [h]; decide), List.append_nil]
theorem Pairs.wfB {m : List Pr} {kv : List Sm.PR} (h : Pairs m kv) {k : List UInt8} (hk : k.length = 16) {d : Nat} (hd : d ≤ 128) : Sm.WF (128 - d) ((belR m k d).map toP) := by
  rw [belR_map]; exact Sm.bel_wf h.once h.k16 hk hd
theorem Pairs.smallB {m : List Pr} {kv : List Sm.PR} (h : Pairs m kv) (k : List UInt8) (d : Nat) : ∀ p ∈ belR m k d, p.v.length ≤ 1000000 := fun p q => h.small p (List.mem_filter.1 q).1
theorem Pairs.ndB {m : List Pr} {kv : List Sm.PR} (h : Pairs m kv) {k : List UInt8} (hk : k.length = 16) {d : Nat} (hd : d ≤ 128) : Sm.ndB kv k d = Sm.nd (128 - d) ((belR m k d).map toP) := by
  rw [belR_map]; exact (Sm.ndB_perm h.once h.k16 h.perm hk hd).symm
theorem Pairs.klen {m : List Pr} {kv : List Sm.PR} (h : Pairs m kv) (i : Nat) : (m.getD i noPr).k.length ≤ 1000000 := by
  by_cases hi : i < m.length
  · rw [List.getD_eq_getElem?_getD, List.getElem?_eq_getElem hi]
    rw [show (some m[i]).getD noPr = m[i] from rfl, show m[i].k.length = 16 from h.k16 (toP m[i]) (List.mem_map.2 ⟨_, List.getElem_mem hi, rfl⟩)]; decide
  · rw [List.getD_eq_getElem?_getD, List.getElem?_eq_none (by omega)]; exact Nat.zero_le _
theorem ndB_small (l : List Sm.PR) (b : List UInt8) (d : Nat) : (Sm.ndB l b d).length ≤ 17 := Sm.nd_small _ _
theorem ndB_halves {kv : List Sm.PR} (hf : Fine kv) {k : List UInt8} (hk : k.length = 16) {d : Nat} (hd : d ≤ 15) {n : Nat} (hn : n = Sm.kv k / 2 ^ (128 - d)) :
    Sb.join (Sm.ndB kv (kF (2 * n) (d + 1)) (d + 1)) (Sm.ndB kv (kF (2 * n + 1) (d + 1)) (d + 1)) = Sm.ndB kv k d := by
  have hlt := bandK_lt hk (i := d) (by omega)
  have h2 : 2 ^ (d + 1) = 2 ^ d * 2 := Nat.pow_succ 2 d
  have f0 := kF_div (n := 2 * n) (d := d + 1) (by omega) (by omega)
  have f1 := kF_div (n := 2 * n + 1) (d := d + 1) (by omega) (by omega)
  rw [show 128 - (d + 1) = 127 - d by omega] at f0 f1
  exact Sm.ndB_join hf.once hf.k16 hk (kF_len _ _) (kF_len _ _) (by omega) (by rw [f0, hn]) (by rw [f1, hn])

theorem smtNodes_ct (F : Hp) (hK : Cells F ⟨4, 0, none⟩ (Sha.K.map W32)) (A0 : Option Addr) (n0 c0 : Nat) (l0 : List Pu) (sl0 : Sl F 3 A0 n0 c0 (putsV l0)) (a : UInt8) (z : Int) : Ct Tryd.prog 11 [.slice A0 n0 c0, B8 (a), I (z)] [F] (fun _ : Unit => .bool true) (fun _ => True) (fun _ => [F]) := by
  refine Ct.walk Tryd.func11 rfl Tryd.ntmps11 rfl (fun w0 hw0 => ?_)
  change J _ [(0, _), (1, _), (2, _)] _ _ _
  refine J.seq (fun K1 hK1 => ?_)
  refine J.region ?_
  refine J.y (op_assign rfl rfl) rfl rfl rfl ?_
  refine J.nil ?_
  refine J.then_n (J.k hK1 ?_)
  refine J.keepE [(0, _), (1, _), (2, _)] ⟨rfl, rfl, rfl, trivial⟩ ?_
  refine J.seq (fun K2 hK2 => ?_)
  refine J.seq (fun K3 hK3 => ?_)
  refine J.region ?_
  refine J.e (op_call rfl rfl ent46 (Ct.use0 (fun F' hF => speaks13_ct F' (hK.mono (hF F (by simp)))))) rfl rfl rfl ?_
  intro g14 _
  refine J.y (op_not rfl rfl) rfl rfl rfl ?_
  refine J.nil ?_
  refine J.then_n (J.k hK3 ?_)
  refine J.keepE [(0, _), (1, _), (2, _), (15, _)] ⟨rfl, rfl, rfl, rfl, trivial⟩ ?_
  refine J.condF rfl rfl ?_
  refine J.skip ?_
  refine J.then_n (J.k hK2 ?_)
  refine J.keepE [(0, _), (1, _), (2, _)] ⟨rfl, rfl, rfl, trivial⟩ ?_
  refine J.seq (fun K4 hK4 => ?_)
  refine J.region ?_
  refine J.y (op_move rfl rfl) rfl rfl rfl ?_
  refine J.e (op_call rfl rfl ent47 (Ct.use (new := fun x : List Pr × List Sm.PR × Option Addr × Nat × Hp × Nat × Hp => [x.2.2.2.2.1, x.2.2.2.2.2.2]) (fun F' hF => both_ct F' A0 n0 c0 l0 (sl0.mono (hF F (by simp)))))) rfl rfl rfl ?_
  rintro ⟨m, kv, A, c, mr, g, mo⟩ ⟨hp, hm, hr, ht⟩
  change J _ ((18, .tuple #[.slice A m.length c, Ptr g]) :: _) _ [F, mr, mo] _
  refine J.y (op_move rfl rfl) rfl rfl rfl ?_
  refine J.y (op_extract (v := .slice A m.length c) rfl rfl rfl) rfl rfl rfl ?_
  refine J.y (op_extract (v := Ptr g) rfl rfl rfl) rfl rfl rfl ?_
  refine J.y (op_assign rfl rfl) rfl rfl rfl ?_
  refine J.y (op_assign rfl rfl) rfl rfl rfl ?_
  refine J.nil ?_
  refine J.then_n (J.k hK4 ?_)
  refine J.keepE [(1, _), (2, _), (7, _), (8, _)] ⟨rfl, rfl, rfl, rfl, trivial⟩ ?_
  refine J.seq (fun K5 hK5 => ?_)
  dsimp only at hp hm hr ht
  have hfi := hp.fine
  have hln := hp.len
  refine J.region ?_
  refine J.y (op_move rfl rfl) rfl rfl rfl ?_
  refine J.y ((op_max rfl rfl rfl).as (v' := I ((z.toNat : Nat) : Int)) (congrArg I (by omega))) rfl rfl rfl ?_
  refine J.y ((op_min rfl rfl rfl).as (v' := I ((min z.toNat 128 : Nat) : Int)) (congrArg I (by omega))) rfl rfl rfl ?_
  refine J.y (op_assign rfl rfl) rfl rfl rfl ?_
  refine J.nil ?_
  refine J.then_n (J.k hK5 ?_)
  refine J.keepE [(1, _), (2, _), (7, _), (8, _), (9, _)] ⟨rfl, rfl, rfl, rfl, rfl, trivial⟩ ?_
  refine J.seq (fun K6 hK6 => ?_)
  obtain ⟨D, hD⟩ : ∃ D, D = min z.toNat 128 := ⟨_, rfl⟩
  rw [← hD]
  have hD8 : D ≤ 128 := by omega
  refine J.region ?_
  refine J.y (op_move rfl rfl) rfl rfl rfl ?_
  refine J.e (op_call rfl rfl ent53 (Ct.use0 (fun F' hF => key13_ct F' a 0))) rfl rfl rfl ?_
  intro g25 _
  refine J.y (op_assign rfl rfl) rfl rfl rfl ?_
  refine J.nil ?_
  refine J.then_n (J.k hK6 ?_)
  refine J.keepE [(2, _), (7, _), (8, _), (9, _), (10, _)] ⟨rfl, rfl, rfl, rfl, rfl, trivial⟩ ?_
  refine J.seq (fun K7 hK7 => ?_)
  obtain ⟨k, hk⟩ : ∃ k, k = (keyK a 0) := ⟨_, rfl⟩
  rw [← hk]
  have hk16 : k.length = 16 := by rw [hk]; rfl
  refine J.region ?_
  refine J.y (op_assign rfl rfl) rfl rfl rfl ?_
  refine J.nil ?_
  refine J.then_n (J.k hK7 ?_)
  refine J.keepE [(2, _), (7, _), (8, _), (9, _), (10, _), (11, _)] ⟨rfl, rfl, rfl, rfl, rfl, rfl, trivial⟩ ?_
  refine J.seq (fun K8 hK8 => ?_)
  refine J.seq (fun K9 hK9 => ?_)
  refine J.region ?_
  refine J.y (op_assign rfl rfl) rfl rfl rfl ?_
  refine J.nil ?_
  refine J.then_n (J.k hK9 ?_)
  refine J.keepE [(2, _), (7, _), (8, _), (9, _), (10, _), (11, _), (12, _)] ⟨rfl, rfl, rfl, rfl, rfl, rfl, rfl, trivial⟩ ?_
  refine J.block ?_
  refine J.loop (X := Nat × Option Addr × Nat × Hp) (fun ζ => [(2, I (z)), (7, .slice A m.length c), (8, Ptr g), (9, I ((D : Nat) : Int)), (10, Str (k)), (11, .slice ζ.2.1 ((belR (m.take ζ.1) k D).length) ζ.2.2.1), (12, I ((ζ.1 : Nat) : Int))]) (fun ζ => [F, mr, mo, ζ.2.2.2]) (fun ζ => ζ.1 ≤ m.length ∧ Row ζ.2.2.2 84 2 ζ.2.1 (belR (m.take ζ.1) k D).length ζ.2.2.1 (prsV (belR (m.take ζ.1) k D))) (fun ζ => m.length - ζ.1) (0, none, 0, (fun _ => none)) (⟨Nat.zero_le _, RowQ.nil⟩) ⟨rfl, rfl, rfl, rfl, rfl, rfl, rfl, trivial⟩ (fun _ h => h.empty.pick [0, 1, 2, 3] (by decide)) ?_
  rintro ⟨i, A5, c5, mq⟩ ⟨hi, hq⟩ I0 hI0
  dsimp only at hi hq ⊢
  have hsm := hp.klen
  have hki := hp.klen i
  have hla := belR_len (m.take i) k D
  rw [List.length_take] at hla
  refine J.seq (fun K10 hK10 => ?_)
  refine J.seq (fun K11 hK11 => ?_)
  refine J.region ?_
  refine J.y (op_move rfl rfl) rfl rfl rfl ?_
  refine J.y (op_move rfl rfl) rfl rfl rfl ?_
  refine J.y (op_len Tryd.underlying75 rfl rfl) rfl rfl rfl ?_
  refine J.y (op_lss rfl rfl rfl) rfl rfl rfl ?_
  refine J.nil ?_
  refine J.then_n (J.k hK11 ?_)
  refine J.keepE [(2, _), (7, _), (8, _), (9, _), (10, _), (11, _), (12, _), (29, _)] ⟨rfl, rfl, rfl, rfl, rfl, rfl, rfl, rfl, trivial⟩ ?_
  refine J.ite rfl (fun h29 => ?_) (fun h29 => ?_)
  ·
    refine J.skip ?_
    refine J.then_n (J.k hK10 ?_)
    refine J.keepE [(2, _), (7, _), (8, _), (9, _), (10, _), (11, _), (12, _)] ⟨rfl, rfl, rfl, rfl, rfl, rfl, rfl, trivial⟩ ?_
    refine J.seq (fun K12 hK12 => ?_)
    refine J.block ?_
    refine J.seq (fun K13 hK13 => ?_)
    refine J.region ?_
    refine J.y (op_move rfl rfl) rfl rfl rfl ?_
    refine J.y (op_move rfl rfl) rfl rfl rfl ?_
    refine J.y (op_indexAddr (i := i) rfl rfl rfl Tryd.underlying75 Tryd.sizeOf84 hr.sl (by first | omega | (simp only [List.length_append, List.length_cons, List.length_nil, List.length_take, List.length_drop] at *; omega))) rfl rfl rfl ?_
    refine J.y (op_fieldAddrE (off := 0) rfl rfl Tryd.underlying84 rfl Tryd.sizeOf9 hr.sl (by first | omega | (simp only [List.length_append, List.length_cons, List.length_nil, List.length_take, List.length_drop] at *; omega)) rfl) rfl rfl rfl ?_
    refine J.y (op_load (v := Str ((m.getD i noPr).k)) rfl rfl Tryd.isAgg9 (m := mr) (by simp) (hr.sl.part (prsV_get (by first | omega | (simp only [List.length_append, List.length_cons, List.length_nil, List.length_take, List.length_drop] at *; omega))) 0 1)) rfl rfl rfl ?_
    refine J.y (op_move rfl rfl) rfl rfl rfl ?_
    refine J.y (op_move rfl rfl) rfl rfl rfl ?_
    refine J.e (op_call rfl rfl ent54 (Ct.use0 (fun F' hF => below_ct F' ((m.getD i noPr).k) (by omega) k (by omega) ((D : Nat) : Int)))) rfl rfl rfl ?_
    intro g39 _
    refine J.nil ?_
    refine J.then_n (J.k hK13 ?_)
    refine J.keepE [(2, _), (7, _), (8, _), (9, _), (10, _), (11, _), (12, _), (39, _)] ⟨rfl, rfl, rfl, rfl, rfl, rfl, rfl, rfl, trivial⟩ ?_
    refine J.cond rfl (fun h39 => ?_) (fun h39 => ?_)
    ·
      have hy := belR_yes (m := m) (i := i) (k := k) (d := D) (by omega) (by rw [Int.toNat_natCast, Nat.min_eq_left hD8] at h39; exact h39)
      refine J.region ?_
      refine J.y (op_move rfl rfl) rfl rfl rfl ?_
      refine J.y (op_move rfl rfl) rfl rfl rfl ?_
      refine J.y (op_move rfl rfl) rfl rfl rfl ?_
      refine J.y (op_indexAddr (i := i) rfl rfl rfl Tryd.underlying75 Tryd.sizeOf84 hr.sl (by first | omega | (simp only [List.length_append, List.length_cons, List.length_nil, List.length_take, List.length_drop] at *; omega))) rfl rfl rfl ?_
      refine J.y (op_loadA (vs := [Str ((m.getD i noPr).k), Str ((m.getD i noPr).v)]) rfl rfl Tryd.isAgg84 Tryd.sizeOf84 (m := mr) (by simp) (hr.sl.elem (prsV_get (by first | omega | (simp only [List.length_append, List.length_cons, List.length_nil, List.length_take, List.length_drop] at *; omega)))) rfl) rfl rfl rfl ?_
      refine J.e (op_buildSlice (l := [.tmp 44]) (xs := [[Str ((m.getD i noPr).k), Str ((m.getD i noPr).v)]]) rfl rfl rfl rfl Tryd.underlying75 el84 rfl (by decide) (by decide) (by simp)) rfl rfl rfl ?_
      intro g45 _
      change J _ _ _ [F, mr, mo, mq, blk g45 [Str ((m.getD i noPr).k), Str ((m.getD i noPr).v)] 84] _
      refine J.e (op_append (i := 3) (xs := prsV (belR (m.take i) k D)) (m2 := blk g45 [Str ((m.getD i noPr).k), Str ((m.getD i noPr).v)] 84) (ys := [[Str ((m.getD i noPr).k), Str ((m.getD i noPr).v)]]) rfl rfl rfl Tryd.underlying75 Tryd.underlying75 el84 rfl hq (by simp) ((row_blk (q := True) (xs := prsV [(m.getD i noPr)]) rfl (by intro x hx; rw [List.mem_singleton.1 hx]; rfl)).sl) rfl (by first | omega | (simp only [List.length_append, List.length_cons, List.length_nil, List.length_take, List.length_drop] at *; omega)) (by first | omega | (simp only [List.length_append, List.length_cons, List.length_nil, List.length_take, List.length_drop] at *; omega))) rfl rfl rfl ?_
      rintro ⟨A46, c46, m46⟩ h46
      try dsimp only at h46
      change J _ ((46, .slice A46 (((belR (m.take i) k D).length) + 1) c46) :: _) _ [F, mr, mo, m46, blk g45 [Str ((m.getD i noPr).k), Str ((m.getD i noPr).v)] 84] _
      replace h46 : Row m46 84 2 A46 (((belR (m.take i) k D).length) + 1) c46 (prsV ((belR (m.take i) k D) ++ ([(m.getD i noPr)]))) := by rw [prsV_snoc]; exact h46
      refine J.y (op_assign rfl rfl) rfl rfl rfl ?_
      refine J.nil ?_
      refine J.blk_n ?_
      refine J.then_n (J.k hK12 ?_)
      refine J.keepE [(2, _), (7, _), (8, _), (9, _), (10, _), (11, _), (12, _)] ⟨rfl, rfl, rfl, rfl, rfl, rfl, rfl, trivial⟩ ?_
      refine J.region ?_
      refine J.y (op_move rfl rfl) rfl rfl rfl ?_
      refine J.y ((op_add rfl rfl rfl (by first | omega | (simp only [List.length_append, List.length_cons, List.length_nil, List.length_take, List.length_drop] at *; omega))).as (v' := I ((i + 1 : Nat) : Int)) (congrArg I (by omega))) rfl rfl rfl ?_
      refine J.y (op_assign rfl rfl) rfl rfl rfl ?_
      refine J.nil ?_
      refine J.then_n ?_
      exact J.kk (i + 1, A46, c46, m46) (fun η (hη : _ ∧ m.length - η.1 < m.length - i) => hI0 η hη.1 hη.2) ⟨⟨by dsimp only; omega, by dsimp only; rw [hy, List.length_append]; exact h46⟩, by first | omega | (dsimp only; omega)⟩ ⟨rfl, rfl, rfl, rfl, rfl, by dsimp only; first | rfl | (rw [hy, List.length_append]; rfl) | (rw [hy]; rfl), rfl, trivial⟩ (fun _ h => h.pick [0, 1, 2, 3] (by decide))
    ·
      have hy := belR_no (m := m) (i := i) (k := k) (d := D) (by omega) (by rw [Int.toNat_natCast, Nat.min_eq_left hD8] at h39; exact h39)
      refine J.skip ?_
      refine J.blk_n ?_
      refine J.then_n (J.k hK12 ?_)
      refine J.keepE [(2, _), (7, _), (8, _), (9, _), (10, _), (11, _), (12, _)] ⟨rfl, rfl, rfl, rfl, rfl, rfl, rfl, trivial⟩ ?_
      refine J.region ?_
      refine J.y (op_move rfl rfl) rfl rfl rfl ?_
      refine J.y ((op_add rfl rfl rfl (by first | omega | (simp only [List.length_append, List.length_cons, List.length_nil, List.length_take, List.length_drop] at *; omega))).as (v' := I ((i + 1 : Nat) : Int)) (congrArg I (by omega))) rfl rfl rfl ?_
      refine J.y (op_assign rfl rfl) rfl rfl rfl ?_
      refine J.nil ?_
      refine J.then_n ?_
      exact J.kk (i + 1, A5, c5, mq) (fun η (hη : _ ∧ m.length - η.1 < m.length - i) => hI0 η hη.1 hη.2) ⟨⟨by dsimp only; omega, by dsimp only; rw [hy]; exact hq⟩, by first | omega | (dsimp only; omega)⟩ ⟨rfl, rfl, rfl, rfl, rfl, by dsimp only; first | rfl | (rw [hy, List.length_append]; rfl) | (rw [hy]; rfl), rfl, trivial⟩ (fun _ h => h)
  ·
    refine J.exit ?_
    refine J.then_x ?_
    refine J.then_x ?_
    refine J.blk_eq ?_
    refine J.then_n (J.k hK8 ?_)
    refine J.keepE [(2, _), (8, _), (9, _), (10, _), (11, _)] ⟨rfl, rfl, rfl, rfl, rfl, trivial⟩ ?_
    refine J.seq (fun K14 hK14 => ?_)
    refine J.seq (fun K15 hK15 => ?_)
    obtain rfl : i = m.length := by omega
    rw [List.take_length] at hq ⊢
    have hwm := hp.wfB hk16 hD8
    have hvm := hp.smallB k D
    have hbl := belR_len m k D
    refine J.region ?_
    refine J.y (op_move rfl rfl) rfl rfl rfl ?_
    refine J.y (op_move rfl rfl) rfl rfl rfl ?_
    refine J.y (op_move rfl rfl) rfl rfl rfl ?_
    refine J.e (op_call rfl rfl ent55 (Ct.use0 (fun F' hF => tNode_ct F' (hK.mono (hF F (by simp))) g kv (ht.at.mono (hF mo (by simp))) (by assumption) k (by first | omega | decide) z (by first | assumption | exact wf_zero (by assumption) | exact wf_bel (by assumption) (by assumption))))) rfl rfl rfl ?_
    intro g50 _
    refine J.y (op_move rfl rfl) rfl rfl rfl ?_
    refine J.y (op_move rfl rfl) rfl rfl rfl ?_
    refine J.e (op_call rfl rfl ent49 (Ct.use0 (fun F' hF => rnode_ct F' A5 ((belR m k D).length) c5 (belR m k D) (hq.sl.mono (hF mq (by simp))) (by omega) D (by omega) (by assumption) (by assumption)))) rfl rfl rfl ?_
    intro g53 _
    refine J.y ((op_sne rfl rfl rfl).as (v' := .bool false) (congrArg Value.bool (decide_eq_false (by rw [← hD, hp.ndB hk16 hD8]; exact fun h => h rfl)))) rfl rfl rfl ?_
    refine J.nil ?_
    refine J.then_n (J.k hK15 ?_)
    refine J.keepE [(2, _), (8, _), (9, _), (10, _), (54, _)] ⟨rfl, rfl, rfl, rfl, rfl, trivial⟩ ?_
    refine J.condF rfl rfl ?_
    refine J.skip ?_
    refine J.then_n (J.k hK14 ?_)
    refine J.keepE [(2, _), (8, _), (9, _), (10, _)] ⟨rfl, rfl, rfl, rfl, trivial⟩ ?_
    refine J.seq (fun K16 hK16 => ?_)
    refine J.seq (fun K17 hK17 => ?_)
    refine J.region ?_
    refine J.y (op_move rfl rfl) rfl rfl rfl ?_
    refine J.y (op_gtr rfl rfl rfl) rfl rfl rfl ?_
    refine J.nil ?_
    refine J.then_n (J.k hK17 ?_)
    refine J.keepE [(2, _), (8, _), (9, _), (10, _), (56, _)] ⟨rfl, rfl, rfl, rfl, rfl, trivial⟩ ?_
    refine J.ite rfl (fun h56 => ?_) (fun h56 => ?_)
    ·
      refine J.seq (fun K18 hK18 => ?_)
      refine J.region ?_
      refine J.y (op_assign rfl rfl) rfl rfl rfl ?_
      refine J.nil ?_
      refine J.then_n (J.k hK18 ?_)
      refine J.keepE [(6, _)] ⟨rfl, trivial⟩ ?_
      refine J.ret ?_
      refine J.then_r ?_
      exact J.done hw0 (fun _ _ h => h) (res1 rfl rfl) (retOk () rfl trivial [0] rfl (by decide))
    ·
      refine J.skip ?_
      refine J.then_n (J.k hK16 ?_)
      refine J.keepE [(2, _), (8, _), (9, _), (10, _)] ⟨rfl, rfl, rfl, rfl, trivial⟩ ?_
      refine J.seq (fun K19 hK19 => ?_)
      refine J.region ?_
      refine J.y (op_move rfl rfl) rfl rfl rfl ?_
      refine J.y (op_move rfl rfl) rfl rfl rfl ?_
      refine J.e (op_call rfl rfl ent56 (Ct.use0 (fun F' hF => band_ct F' k (by first | omega | exact hsm _) D (by omega)))) rfl rfl rfl ?_
      intro g59 _
      refine J.y (op_assign rfl rfl) rfl rfl rfl ?_
      refine J.nil ?_
      refine J.then_n (J.k hK19 ?_)
      refine J.keepE [(2, _), (8, _), (9, _), (10, _), (13, _)] ⟨rfl, rfl, rfl, rfl, rfl, trivial⟩ ?_
      refine J.seq (fun K20 hK20 => ?_)
      obtain ⟨n, hn⟩ : ∃ n, n = bandN k D := ⟨_, rfl⟩
      rw [← hn]
      rw [bandN_kv hk16 (by omega)] at hn
      have hlt := bandK_lt hk16 (i := D) (by omega)
      rw [← hn] at hlt
      have hp16 := pow16 (i := D) (by omega)
      have hps : 2 ^ (D + 1) = 2 ^ D * 2 := Nat.pow_succ 2 D
      have hb0 : 2 * n < 2 ^ (D + 1) := by omega
      have hb1 : 2 * n + 1 < 2 ^ (D + 1) := by omega
      have hf0 := kF_len (2 * n) (D + 1)
      have hf1 := kF_len (2 * n + 1) (D + 1)
      have hs0 := ndB_small kv (kF (2 * n) (D + 1)) (min (((D + 1 : Nat) : Int)).toNat 128)
      have hs1 := ndB_small kv (kF (2 * n + 1) (D + 1)) (min (((D + 1 : Nat) : Int)).toNat 128)
      refine J.region ?_
      refine J.y (op_move rfl rfl) rfl rfl rfl ?_
      refine J.y (op_move rfl rfl) rfl rfl rfl ?_
      refine J.y ((op_mul rfl rfl rfl (by first | omega | (simp only [List.length_append, List.length_cons, List.length_nil, List.length_take, List.length_drop] at *; omega))).as (v' := I ((2 * n : Nat) : Int)) (congrArg I (by omega))) rfl rfl rfl ?_
      refine J.y (op_move rfl rfl) rfl rfl rfl ?_
      refine J.y ((op_add rfl rfl rfl (by first | omega | (simp only [List.length_append, List.length_cons, List.length_nil, List.length_take, List.length_drop] at *; omega))).as (v' := I ((D + 1 : Nat) : Int)) (congrArg I (by omega))) rfl rfl rfl ?_
      refine J.e (op_call rfl rfl ent58 (Ct.use0 (fun F' hF => firstb_ct F' (2 * n) (D + 1) (by omega) (by assumption)))) rfl rfl rfl ?_
      intro g65 _
      refine J.y (op_move rfl rfl) rfl rfl rfl ?_
      refine J.y ((op_add rfl rfl rfl (by first | omega | (simp only [List.length_append, List.length_cons, List.length_nil, List.length_take, List.length_drop] at *; omega))).as (v' := I ((D + 1 : Nat) : Int)) (congrArg I (by omega))) rfl rfl rfl ?_
      refine J.e (op_call rfl rfl ent55 (Ct.use0 (fun F' hF => tNode_ct F' (hK.mono (hF F (by simp))) g kv (ht.at.mono (hF mo (by simp))) (by assumption) (kF (2 * n) (D + 1)) (by first | omega | decide) ((D + 1 : Nat) : Int) (by first | assumption | exact wf_zero (by assumption) | exact wf_bel (by assumption) (by assumption))))) rfl rfl rfl ?_
      intro g68 _
      refine J.y (op_move rfl rfl) rfl rfl rfl ?_
      refine J.y (op_move rfl rfl) rfl rfl rfl ?_
      refine J.y ((op_mul rfl rfl rfl (by first | omega | (simp only [List.length_append, List.length_cons, List.length_nil, List.length_take, List.length_drop] at *; omega))).as (v' := I ((2 * n : Nat) : Int)) (congrArg I (by omega))) rfl rfl rfl ?_
      refine J.y ((op_add rfl rfl rfl (by first | omega | (simp only [List.length_append, List.length_cons, List.length_nil, List.length_take, List.length_drop] at *; omega))).as (v' := I ((2 * n + 1 : Nat) : Int)) (congrArg I (by omega))) rfl rfl rfl ?_
      refine J.y (op_move rfl rfl) rfl rfl rfl ?_
      refine J.y ((op_add rfl rfl rfl (by first | omega | (simp only [List.length_append, List.length_cons, List.length_nil, List.length_take, List.length_drop] at *; omega))).as (v' := I ((D + 1 : Nat) : Int)) (congrArg I (by omega))) rfl rfl rfl ?_
      refine J.e (op_call rfl rfl ent58 (Ct.use0 (fun F' hF => firstb_ct F' (2 * n + 1) (D + 1) (by omega) (by assumption)))) rfl rfl rfl ?_
      intro g75 _
      refine J.y (op_move rfl rfl) rfl rfl rfl ?_
      refine J.y ((op_add rfl rfl rfl (by first | omega | (simp only [List.length_append, List.length_cons, List.length_nil, List.length_take, List.length_drop] at *; omega))).as (v' := I ((D + 1 : Nat) : Int)) (congrArg I (by omega))) rfl rfl rfl ?_
      refine J.e (op_call rfl rfl ent55 (Ct.use0 (fun F' hF => tNode_ct F' (hK.mono (hF F (by simp))) g kv (ht.at.mono (hF mo (by simp))) (by assumption) (kF (2 * n + 1) (D + 1)) (by first | omega | decide) ((D + 1 : Nat) : Int) (by first | assumption | exact wf_zero (by assumption) | exact wf_bel (by assumption) (by assumption))))) rfl rfl rfl ?_
      intro g78 _
      refine J.e (op_call rfl rfl ent57 (Ct.use0 (fun F' hF => sjoin_ct F' (hK.mono (hF F (by simp))) (Sm.ndB kv (kF (2 * n) (D + 1)) (min ((D + 1 : Nat) : Int).toNat 128)) (Sm.ndB kv (kF (2 * n + 1) (D + 1)) (min ((D + 1 : Nat) : Int).toNat 128)) (by omega) (by omega)))) rfl rfl rfl ?_
      intro g79 _
      refine J.y (op_move rfl rfl) rfl rfl rfl ?_
      refine J.y (op_move rfl rfl) rfl rfl rfl ?_
      refine J.y (op_move rfl rfl) rfl rfl rfl ?_
      refine J.e (op_call rfl rfl ent55 (Ct.use0 (fun F' hF => tNode_ct F' (hK.mono (hF F (by simp))) g kv (ht.at.mono (hF mo (by simp))) (by assumption) k (by first | omega | decide) z (by first | assumption | exact wf_zero (by assumption) | exact wf_bel (by assumption) (by assumption))))) rfl rfl rfl ?_
      intro g83 _
      refine J.y ((op_seq rfl rfl rfl).as (v' := .bool true) (congrArg Value.bool (decide_eq_true (by rw [Int.toNat_natCast, Nat.min_eq_left (show D + 1 ≤ 128 by omega), ← hD]; exact ndB_halves hfi hk16 (by omega) hn)))) rfl rfl rfl ?_
      refine J.y (op_assign rfl rfl) rfl rfl rfl ?_
      refine J.nil ?_
      refine J.then_n (J.k hK20 ?_)
      refine J.keepE [(6, _)] ⟨rfl, trivial⟩ ?_
      refine J.ret ?_
      exact J.done hw0 (fun _ _ h => h) (res1 rfl rfl) (retOk () rfl trivial [0] rfl (by decide))

end Go.Proofs.YtpcffgkmpmcobaaDoor
