/- A part of the proof: contracts of functions of the program, each for every state of the heaps that it names. -/
import Derived.Test.YtnkfapecbmmpeaaDoorShaW
set_option linter.unusedSimpArgs false
set_option linter.unusedVariables false
namespace Go.Proofs.YtnkfapecbmmpeaaDoor
open Go Go.Fw
set_option maxRecDepth 100000
set_option maxHeartbeats 1000000

theorem join0_ct (F : Hp) (A : Option Addr) (n c : Nat) (ls : List (List UInt8)) (hl : Sl F 1 A n c (strsV ls)) (htot : ls.flatten.length ≤ 35184372088832) (hn47 : n ≤ 70368744177664) :
    Ct Tryd.prog 148 [.slice A n c, Str []] [F] (fun _ : Unit => Str ls.flatten) (fun _ => True) (fun _ => [F]) := by
  have h := join_ct F A n c ls [] hl (by rw [joinB_nil]; exact htot) hn47
  rw [joinB_nil] at h; exact h
theorem bytesV_app (a b : List UInt8) : bytesV (a ++ b) = bytesV a ++ bytesV b := by simp [bytesV]
theorem bytesV_one (a : List UInt8) : (bytesV a).all (fun x => x.all Value.oneCell') = true := by simp [bytesV, Value.oneCell']
theorem bytesV_cut (p : List UInt8) (k N : Nat) (hN : p.length = N) : ((bytesV (p.drop (64 * k))).take (N - 64 * k)).drop 64 = bytesV (p.drop (64 * (k + 1))) := by
  rw [List.take_of_length_le (by simp [bytesV, hN])]
  unfold bytesV
  rw [← List.map_drop, List.drop_drop, Nat.mul_add]
def Sha.outs (t : Sha.St8) (k : Nat) : List UInt8 := (t.list.take k).flatMap fun x => Sha.numB x.toUInt64 4
theorem outs_succ (t : Sha.St8) : ∀ k, k < 8 → Sha.outs t (k + 1) = Sha.outs t k ++ Sha.numB (t.list.getD k 0).toUInt64 4
  | 0, _ => rfl | 1, _ => rfl | 2, _ => rfl | 3, _ => rfl | 4, _ => rfl | 5, _ => rfl | 6, _ => rfl | 7, _ => rfl
  | n + 8, h => by omega
attribute [local irreducible] Sha.sum Sha.pad Sha.mixes Sha.numB

theorem sum_ct (F : Hp) (hK : Cells F ⟨1, 0, none⟩ (Sha.K.map W32)) (A : Option Addr) (n c : Nat) (ls : List (List UInt8)) (hl : Sl F 1 A n c (strsV ls)) (htot : ls.flatten.length ≤ 17592186044416) (hn47 : n ≤ 70368744177664) :
    Ct Tryd.prog 108 [.slice A n c] [F] (fun _ : Unit => Str (Sha.sum ls.flatten)) (fun _ => True) (fun _ => [F]) := by
  obtain ⟨l, hL⟩ : ∃ l, l = ls.flatten := ⟨_, rfl⟩
  have hJ := join0_ct F A n c ls hl (by omega) hn47
  rw [← hL] at hJ htot ⊢
  have hpad := Sha.pad_length l
  have hpm := Sha.pad_mod l
  obtain ⟨p, hp⟩ : ∃ p, p = Sha.pad l := ⟨_, rfl⟩
  rw [← hp] at hpad hpm
  have hsum : Sha.sum l = Sha.out (Sha.mixes Sha.init p (p.length / 64)) := by rw [hp]; unfold Sha.sum; rfl
  have hpd : p = l ++ [128] ++ List.replicate ((119 - l.length % 64) % 64) 0 ++ Sha.numB (8 * UInt64.ofNat l.length) 8 := by rw [hp]; unfold Sha.pad; rfl
  refine Ct.walk Tryd.func108 rfl Tryd.ntmps108 rfl (fun w0 hw0 => ?_)
  change J _ [(0, _)] _ _ _
  refine J.seq (fun K1 hK1 => ?_)
  refine J.region ?_
  refine J.y (op_assign rfl rfl) rfl rfl rfl ?_
  refine J.nil ?_
  refine J.then_n (J.k hK1 ?_)
  refine J.keepE [(0, _)] ⟨rfl, trivial⟩ ?_
  refine J.seq (fun K2 hK2 => ?_)
  refine J.region ?_
  refine J.y (op_move rfl rfl) rfl rfl rfl ?_
  refine J.e (op_call rfl rfl ent148 hJ) rfl rfl rfl ?_
  intro g10 _
  refine J.e (op_toBytes rfl rfl Tryd.underlying9 Tryd.underlying30 Tryd.underlying5) rfl rfl rfl ?_
  rintro ⟨g11, c11, m11⟩ h11
  try dsimp only at h11
  change J _ ((11, .slice (some ⟨g11, 0, none⟩) l.length c11) :: _) _ [F, m11] _
  refine J.y (op_assign rfl rfl) rfl rfl rfl ?_
  refine J.nil ?_
  refine J.then_n (J.k hK2 ?_)
  refine J.keepE [(3, _)] ⟨rfl, trivial⟩ ?_
  refine J.seq (fun K3 hK3 => ?_)
  refine J.region ?_
  refine J.y (op_move rfl rfl) rfl rfl rfl ?_
  refine J.y (op_len Tryd.underlying30 rfl rfl) rfl rfl rfl ?_
  refine J.y (op_cv_i64_u64 rfl rfl Tryd.underlying3 Tryd.underlying108 (by omega)) rfl rfl rfl ?_
  refine J.y (op_assign rfl rfl) rfl rfl rfl ?_
  refine J.nil ?_
  refine J.then_n (J.k hK3 ?_)
  refine J.keepE [(3, _), (4, _)] ⟨rfl, rfl, trivial⟩ ?_
  refine J.seq (fun K4 hK4 => ?_)
  refine J.region ?_
  refine J.y (op_move rfl rfl) rfl rfl rfl ?_
  refine J.e (op_buildSlice (l := [.const ((Value.int IntKind.u8 128))]) (xs := [[B8 128]]) rfl rfl rfl rfl Tryd.underlying30 el5 rfl (by decide) (by decide) (by simp)) rfl rfl rfl ?_
  intro g16 _
  change J _ _ _ [F, m11, blk g16 [B8 128] 5] _
  refine J.e (op_append (i := 1) (m2 := blk g16 [B8 128] 5) (ys := [[B8 128]]) rfl rfl rfl Tryd.underlying30 Tryd.underlying30 el5 rfl h11 (by simp) (row_blk (q := True) (xs := [[B8 128]]) rfl (by simp)).sl rfl (by omega) (by omega)) rfl rfl rfl ?_
  rintro ⟨A17, c17, m17⟩ h17
  try dsimp only at h17
  change J _ ((17, .slice A17 (l.length + 1) c17) :: _) _ [F, m17, blk g16 [B8 128] 5] _
  rw [show [[B8 128]] = bytesV [128] from rfl, ← bytesV_app] at h17
  refine J.perm [0, 1] [F, m17] rfl (by decide) ?_
  refine J.y (op_assign rfl rfl) rfl rfl rfl ?_
  refine J.nil ?_
  refine J.then_n (J.k hK4 ?_)
  refine J.keepE [(3, _), (4, _)] ⟨rfl, rfl, trivial⟩ ?_
  refine J.seq (fun K5 hK5 => ?_)
  refine J.block ?_
  refine J.loop (X := Nat × Option Addr × Nat × Hp) (fun x => [(3, .slice x.2.1 (l.length + 1 + x.1) x.2.2.1), (4, W64 (UInt64.ofNat l.length))]) (fun x => [F, x.2.2.2]) (fun x => x.1 ≤ (119 - l.length % 64) % 64 ∧ Row x.2.2.2 5 1 x.2.1 (l.length + 1 + x.1) x.2.2.1 (bytesV (l ++ [128] ++ List.replicate x.1 0))) (fun x => (119 - l.length % 64) % 64 - x.1) (0, A17, c17, m17) (⟨Nat.zero_le _, by simpa using h17⟩) ⟨rfl, rfl, trivial⟩ (fun _ h => h) ?_
  rintro ⟨k, A1, c1, m⟩ ⟨hk, hrow⟩ I0 hI0
  dsimp only at hk hrow ⊢
  refine J.seq (fun K6 hK6 => ?_)
  refine J.seq (fun K7 hK7 => ?_)
  refine J.region ?_
  refine J.y (op_move rfl rfl) rfl rfl rfl ?_
  refine J.y (op_len Tryd.underlying30 rfl rfl) rfl rfl rfl ?_
  refine J.y (op_rem rfl rfl rfl (by omega)) rfl rfl rfl ?_
  refine J.y (op_neq rfl rfl rfl) rfl rfl rfl ?_
  refine J.nil ?_
  refine J.then_n (J.k hK7 ?_)
  refine J.keepE [(3, _), (4, _), (21, _)] ⟨rfl, rfl, rfl, trivial⟩ ?_
  refine J.ite rfl (fun h21 => ?_) (fun h21 => ?_)
  ·
    refine J.skip ?_
    refine J.then_n (J.k hK6 ?_)
    refine J.keepE [(3, _), (4, _)] ⟨rfl, rfl, trivial⟩ ?_
    refine J.block ?_
    refine J.region ?_
    refine J.y (op_move rfl rfl) rfl rfl rfl ?_
    refine J.e (op_buildSlice (l := [.const ((Value.int IntKind.u8 0))]) (xs := [[B8 0]]) rfl rfl rfl rfl Tryd.underlying30 el5 rfl (by decide) (by decide) (by simp)) rfl rfl rfl ?_
    intro g23 _
    change J _ _ _ [F, m, blk g23 [B8 0] 5] _
    refine J.e (op_append (i := 1) (m2 := blk g23 [B8 0] 5) (ys := [[B8 0]]) rfl rfl rfl Tryd.underlying30 Tryd.underlying30 el5 rfl hrow (by simp) (row_blk (q := True) (xs := [[B8 0]]) rfl (by simp)).sl rfl (by omega) (by omega)) rfl rfl rfl ?_
    rintro ⟨A24, c24, m24⟩ h24
    try dsimp only at h24
    change J _ ((24, .slice A24 (l.length + 1 + k + 1) c24) :: _) _ [F, m24, blk g23 [B8 0] 5] _
    rw [show [[B8 0]] = bytesV [0] from rfl, ← bytesV_app] at h24
    refine J.perm [0, 1] [F, m24] rfl (by decide) ?_
    refine J.y (op_assign rfl rfl) rfl rfl rfl ?_
    refine J.nil ?_
    refine J.blk_n ?_
    refine J.then_n ?_
    refine J.kk (k + 1, A24, c24, m24) (fun x (hx : _ ∧ (119 - l.length % 64) % 64 - x.1 < (119 - l.length % 64) % 64 - k) => hI0 x hx.1 hx.2) ⟨⟨by dsimp only; omega, by rw [List.replicate_succ', ← List.append_assoc]; exact h24⟩, by dsimp only; omega⟩ ⟨rfl, rfl, trivial⟩ (fun _ h => h)
  ·
    refine J.exit ?_
    refine J.then_x ?_
    refine J.then_x ?_
    refine J.blk_eq ?_
    refine J.then_n (J.k hK5 ?_)
    refine J.keepE [(3, _), (4, _)] ⟨rfl, rfl, trivial⟩ ?_
    refine J.seq (fun K8 hK8 => ?_)
    have hkz : k = (119 - l.length % 64) % 64 := by omega
    refine J.region ?_
    refine J.y (op_move rfl rfl) rfl rfl rfl ?_
    refine J.y (op_move rfl rfl) rfl rfl rfl ?_
    refine J.y (op_mul64 (a := 8) rfl rfl rfl) rfl rfl rfl ?_
    refine J.e (op_call rfl rfl ent107 (Ct.use (fun F' _ => number_ct F' _ 8 (by decide)))) rfl rfl rfl ?_
    rintro ⟨A28, c28, m28⟩ h28
    try dsimp only at h28
    change J _ ((28, .slice A28 8 c28) :: _) _ [F, m, m28] _
    refine J.e (op_append (i := 1) (m2 := m28) (ys := bytesV (Sha.numB (8 * UInt64.ofNat l.length) 8)) rfl rfl rfl Tryd.underlying30 Tryd.underlying30 el5 rfl hrow (by simp) h28.sl (bytesV_one _) (by omega) (by omega)) rfl rfl rfl ?_
    rintro ⟨A29, c29, m29⟩ h29
    try dsimp only at h29
    change J _ ((29, .slice A29 (l.length + 1 + k + 8) c29) :: _) _ [F, m29, m28] _
    rw [← bytesV_app] at h29
    refine J.perm [0, 1] [F, m29] rfl (by decide) ?_
    refine J.y (op_assign rfl rfl) rfl rfl rfl ?_
    refine J.nil ?_
    refine J.then_n (J.k hK8 ?_)
    refine J.keepE [(3, _)] ⟨rfl, trivial⟩ ?_
    refine J.seq (fun K9 hK9 => ?_)
    rw [hkz, ← hpd] at h29
    rw [hkz, show l.length + 1 + (119 - l.length % 64) % 64 + 8 = p.length by omega] at *
    refine J.region ?_
    refine J.e (op_call rfl rfl ent149 (Ct.use0 (fun F' _ => first_ct F'))) rfl rfl rfl ?_
    intro g30 _
    refine J.e (op_alloc rfl Tryd.zeroValue210 rfl) rfl rfl rfl ?_
    intro g5 _
    change J _ _ _ [F, m29, blk g5 _ 210] _
    refine J.s (op_storeAll (i := 2) (vs := Sha.init.list.map W32) rfl rfl rfl rfl rfl Tryd.sizeOf210 (one_W _) (by rfl)) rfl rfl (fun _ _ => ?_)
    change J _ _ _ [F, m29, blk g5 (Sha.init.list.map W32) 210] _
    refine J.nil ?_
    refine J.then_n (J.k hK9 ?_)
    refine J.keepE [(3, _), (5, _)] ⟨rfl, rfl, trivial⟩ ?_
    refine J.seq (fun K10 hK10 => ?_)
    refine J.block ?_
    refine J.loop (X := Nat × Option Addr × Nat) (fun x => [(3, .slice x.2.1 (p.length - 64 * x.1) x.2.2), (5, Ptr g5)]) (fun x => [F, m29, blk g5 ((Sha.mixes Sha.init p x.1).list.map W32) 210]) (fun x => 64 * x.1 ≤ p.length ∧ Sl m29 1 x.2.1 (p.length - 64 * x.1) x.2.2 (bytesV (p.drop (64 * x.1)))) (fun x => p.length - 64 * x.1) (0, A29, c29) (⟨Nat.zero_le _, h29.sl⟩) ⟨rfl, rfl, trivial⟩ (fun _ h => by unfold Sha.mixes; exact h) ?_
    rintro ⟨k, A2, c2⟩ ⟨hk, hsl⟩ I2 hI2
    dsimp only at hk hsl ⊢
    refine J.seq (fun K11 hK11 => ?_)
    refine J.seq (fun K12 hK12 => ?_)
    refine J.region ?_
    refine J.y (op_move rfl rfl) rfl rfl rfl ?_
    refine J.y (op_len Tryd.underlying30 rfl rfl) rfl rfl rfl ?_
    refine J.y (op_gtr rfl rfl rfl) rfl rfl rfl ?_
    refine J.nil ?_
    refine J.then_n (J.k hK12 ?_)
    refine J.keepE [(3, _), (5, _), (33, _)] ⟨rfl, rfl, rfl, trivial⟩ ?_
    refine J.ite rfl (fun h33 => ?_) (fun h33 => ?_)
    ·
      refine J.skip ?_
      refine J.then_n (J.k hK11 ?_)
      refine J.keepE [(3, _), (5, _)] ⟨rfl, rfl, trivial⟩ ?_
      refine J.seq (fun K13 hK13 => ?_)
      refine J.block ?_
      have hN : 64 ≤ p.length - 64 * k := by omega
      have hc2 := hsl.2.1
      refine J.region ?_
      refine J.y (op_move rfl rfl) rfl rfl rfl ?_
      refine J.e (op_call rfl rfl ent150 (Ct.use1 2 (m' := fun _ : Unit => blk g5 ((Sha.mix (Sha.mixes Sha.init p k) (p.drop (64 * k))).list.map W32) 210) (new := fun _ => []) rfl (fun F' hF => mix_ct F' (hK.mono (hF _ (by simp))) g5 _ A2 (p.length - 64 * k) c2 (p.drop (64 * k)) (hsl.mono (hF _ (by simp))) (by omega)))) rfl rfl rfl ?_
      intro g37 _
      change J _ _ _ [F, m29, blk g5 ((Sha.mix (Sha.mixes Sha.init p k) (p.drop (64 * k))).list.map W32) 210] _
      refine J.nil ?_
      refine J.blk_n ?_
      refine J.then_n (J.k hK13 ?_)
      refine J.keepE [(3, _), (5, _)] ⟨rfl, rfl, trivial⟩ ?_
      refine J.region ?_
      refine J.y (op_move rfl rfl) rfl rfl rfl ?_
      refine J.y (op_slice (l := 64) (h := p.length - 64 * k) rfl rfl Tryd.underlying30 Tryd.sizeOf5 rfl rfl (by omega)) rfl rfl rfl ?_
      refine J.y (op_assign rfl rfl) rfl rfl rfl ?_
      refine J.nil ?_
      refine J.then_n ?_
      have hcut := hsl.cut (lo := 64) (hi := p.length - 64 * k) (mx := c2) hN (Nat.le_refl _) hsl.2.1
      rw [bytesV_cut p k _ rfl] at hcut
      have hNN : p.length - 64 * k - 64 = p.length - 64 * (k + 1) := by omega
      refine J.kk (k + 1, _, c2 - 64) (fun x (hx : _ ∧ p.length - 64 * x.1 < p.length - 64 * k) => hI2 x hx.1 hx.2) ⟨⟨by dsimp only; omega, by rw [← hNN]; exact hcut⟩, by dsimp only; omega⟩ ⟨by rw [← hNN]; rfl, rfl, trivial⟩ (fun _ h => by unfold Sha.mixes; exact h)
    ·
      refine J.exit ?_
      refine J.then_x ?_
      refine J.then_x ?_
      refine J.blk_eq ?_
      refine J.then_n (J.k hK10 ?_)
      refine J.keepE [(5, _)] ⟨rfl, trivial⟩ ?_
      refine J.seq (fun K14 hK14 => ?_)
      have hk64 : k = p.length / 64 := by omega
      rw [← hk64] at hsum
      generalize Sha.mixes Sha.init p k = t at hsum ⊢
      refine J.region ?_
      refine J.y (op_assign rfl rfl) rfl rfl rfl ?_
      refine J.nil ?_
      refine J.then_n (J.k hK14 ?_)
      refine J.keepE [(5, _), (6, _)] ⟨rfl, rfl, trivial⟩ ?_
      refine J.seq (fun K15 hK15 => ?_)
      refine J.seq (fun K16 hK16 => ?_)
      refine J.region ?_
      refine J.y (op_loadBA 2 rfl rfl rfl Tryd.isAgg210 Tryd.sizeOf210 rfl) rfl rfl rfl ?_
      refine J.addEmpty [0, 3] [F, (fun _ => none)] rfl (by decide) ?_
      refine J.y (op_move rfl rfl) rfl rfl rfl ?_
      refine J.nil ?_
      refine J.then_n (J.k hK16 ?_)
      refine J.keepE [(6, _), (38, _), (39, _)] ⟨rfl, rfl, rfl, trivial⟩ ?_
      refine J.block ?_
      refine J.loop (X := Nat × Option Addr × Nat × Hp) (fun x => [(6, .slice x.2.1 (4 * x.1) x.2.2.1), (38, .agg (t.list.map W32).toArray), (39, I x.1)]) (fun x => [F, x.2.2.2]) (fun x => x.1 ≤ 8 ∧ Row x.2.2.2 5 1 x.2.1 (4 * x.1) x.2.2.1 (bytesV (Sha.outs t x.1))) (fun x => 8 - x.1) (0, none, 0, fun _ => none) (⟨Nat.zero_le _, RowQ.nil⟩) ⟨rfl, rfl, rfl, trivial⟩ (fun _ h => h) ?_
      rintro ⟨k, A3, c3, m⟩ ⟨hk, hrow⟩ I4 hI4
      dsimp only at hk hrow ⊢
      refine J.seq (fun K17 hK17 => ?_)
      refine J.region ?_
      refine J.y (op_lss rfl rfl rfl) rfl rfl rfl ?_
      refine J.nil ?_
      refine J.then_n (J.k hK17 ?_)
      refine J.keepE [(6, _), (38, _), (39, _), (40, _)] ⟨rfl, rfl, rfl, rfl, trivial⟩ ?_
      refine J.seq (fun K18 hK18 => ?_)
      refine J.ite rfl (fun h40 => ?_) (fun h40 => ?_)
      ·
        refine J.skip ?_
        refine J.then_n (J.k hK18 ?_)
        refine J.keepE [(6, _), (38, _), (39, _)] ⟨rfl, rfl, rfl, trivial⟩ ?_
        refine J.seq (fun K19 hK19 => ?_)
        refine J.block ?_
        refine J.seq (fun K20 hK20 => ?_)
        refine J.region ?_
        refine J.y (op_index (i := k) (v := W32 (t.list.getD k 0)) rfl rfl rfl Tryd.underlying210 Tryd.sizeOf208 Tryd.isAgg208 (by omega) (by rw [Nat.mul_one, List.getElem?_toArray]; exact list_get _ k (by omega))) rfl rfl rfl ?_
        refine J.y (op_assign rfl rfl) rfl rfl rfl ?_
        refine J.nil ?_
        refine J.then_n (J.k hK20 ?_)
        refine J.keepE [(6, _), (8, _), (38, _), (39, _)] ⟨rfl, rfl, rfl, rfl, trivial⟩ ?_
        refine J.region ?_
        refine J.y (op_move rfl rfl) rfl rfl rfl ?_
        refine J.y (op_move rfl rfl) rfl rfl rfl ?_
        refine J.y (op_cv_u32_u64 rfl rfl Tryd.underlying208 Tryd.underlying108) rfl rfl rfl ?_
        refine J.e (op_call rfl rfl ent107 (Ct.use (fun F' _ => number_ct F' _ 4 (by decide)))) rfl rfl rfl ?_
        rintro ⟨A45, c45, m45⟩ h45
        try dsimp only at h45
        change J _ ((45, .slice A45 4 c45) :: _) _ [F, m, m45] _
        refine J.e (op_append (i := 1) (m2 := m45) (ys := bytesV (Sha.numB (t.list.getD k 0).toUInt64 4)) rfl rfl rfl Tryd.underlying30 Tryd.underlying30 el5 rfl hrow (by simp) h45.sl (bytesV_one _) (by omega) (by omega)) rfl rfl rfl ?_
        rintro ⟨A46, c46, m46⟩ h46
        try dsimp only at h46
        change J _ ((46, .slice A46 (4 * k + 4) c46) :: _) _ [F, m46, m45] _
        rw [← bytesV_app, ← outs_succ t k (by omega)] at h46
        refine J.perm [0, 1] [F, m46] rfl (by decide) ?_
        refine J.y (op_assign rfl rfl) rfl rfl rfl ?_
        refine J.nil ?_
        refine J.blk_n ?_
        refine J.then_n (J.k hK19 ?_)
        refine J.keepE [(6, _), (38, _), (39, _)] ⟨rfl, rfl, rfl, trivial⟩ ?_
        refine J.region ?_
        refine J.y (op_add rfl rfl rfl (by omega)) rfl rfl rfl ?_
        refine J.y (op_move rfl rfl) rfl rfl rfl ?_
        refine J.nil ?_
        refine J.then_n ?_
        refine J.kk (k + 1, A46, c46, m46) (fun x (hx : _ ∧ 8 - x.1 < 8 - k) => hI4 x hx.1 hx.2) ⟨⟨by dsimp only; omega, h46⟩, by dsimp only; omega⟩ ⟨rfl, rfl, rfl, trivial⟩ (fun _ h => h)
      ·
        refine J.exit ?_
        refine J.then_x ?_
        refine J.then_x ?_
        refine J.blk_eq ?_
        refine J.then_n (J.k hK15 ?_)
        refine J.keepE [(6, _)] ⟨rfl, trivial⟩ ?_
        refine J.seq (fun K21 hK21 => ?_)
        have hk8 : k = 8 := by omega
        subst hk8
        refine J.region ?_
        refine J.y (op_move rfl rfl) rfl rfl rfl ?_
        refine J.y (op_toStr rfl rfl Tryd.underlying30 Tryd.underlying5 Tryd.underlying9 (m := m) (by simp) hrow.sl) rfl rfl rfl ?_
        refine J.y (op_assign rfl rfl) rfl rfl rfl ?_
        refine J.nil ?_
        refine J.then_n (J.k hK21 ?_)
        refine J.keepE [(2, _)] ⟨rfl, trivial⟩ ?_
        refine J.ret ?_
        exact J.done hw0 (fun _ _ h => h) (res1 rfl rfl) (retOk () (by rw [hsum]; rfl) trivial [0] rfl (by decide))

theorem el9 : Elem Tryd.prog 9 [Str []] 16 := Elem.of (by kernel_rfl) rfl
namespace Sha
def tagParts (tag : UInt8) (ls : List (List UInt8)) (k : Nat) : List (List UInt8) := [[tag]] ++ (ls.take k).flatMap fun s => [numB (UInt64.ofNat s.length) 4, s]
def tagB (tag : UInt8) (ls : List (List UInt8)) : List UInt8 := [tag] ++ ls.flatMap fun s => numB (UInt64.ofNat s.length) 4 ++ s
def tagged (tag : UInt8) (ls : List (List UInt8)) : List UInt8 := (sum (tagB tag ls)).take 16
theorem tagParts_succ (tag : UInt8) (ls : List (List UInt8)) (k : Nat) {s : List UInt8} (h : ls[k]? = some s) : tagParts tag ls (k + 1) = tagParts tag ls k ++ [numB (UInt64.ofNat s.length) 4, s] := by
  obtain ⟨hk, rfl⟩ := List.getElem?_eq_some_iff.1 h
  unfold tagParts
  rw [List.take_succ_eq_append_getElem hk, List.flatMap_append, ← List.append_assoc]
  simp
theorem tagParts_flat (tag : UInt8) (ls : List (List UInt8)) : (tagParts tag ls ls.length).flatten = tagB tag ls := by
  unfold tagParts tagB
  rw [List.take_length, List.flatten_append]
  congr 1
  induction ls with
  | nil => rfl
  | cons a l ih => rw [List.flatMap_cons, List.flatMap_cons, List.flatten_append, ih]; simp
theorem tagB_length (tag : UInt8) (ls : List (List UInt8)) : (tagB tag ls).length = 1 + 4 * ls.length + ls.flatten.length := by
  unfold tagB
  rw [List.length_append]
  induction ls with
  | nil => rfl
  | cons a l ih => simp only [List.flatMap_cons, List.length_append, numB_length, List.length_cons, List.flatten_cons, List.length_nil] at ih ⊢; omega
theorem tagged_length (tag : UInt8) (ls : List (List UInt8)) : (tagged tag ls).length = 16 := by rw [tagged, List.length_take, sum_length]; rfl
def digits : List UInt8 := [48, 49, 50, 51, 52, 53, 54, 55, 56, 57, 97, 98, 99, 100, 101, 102]
def hi (b : UInt8) : UInt8 := UInt8.ofNat (b.toNat / 2 ^ min 4 8)
def hexB (s : List UInt8) : List UInt8 := s.flatMap fun b => [digits.getD (hi b).toNat 0, digits.getD (b &&& 15).toNat 0]
end Sha
theorem strsV_app (a b : List (List UInt8)) : strsV (a ++ b) = strsV a ++ strsV b := by simp [strsV]
theorem len_flat {ls : List (List UInt8)} {k : Nat} {s : List UInt8} (h : ls[k]? = some s) : s.length ≤ ls.flatten.length := by
  have : s ∈ ls := List.mem_of_getElem? h
  induction ls generalizing k with
  | nil => cases this
  | cons a l ih =>
    cases k with
    | zero => simp at h; subst h; simp
    | succ k => simp only [List.flatten_cons, List.length_append]; simp only [List.getElem?_cons_succ] at h; have := ih h (List.mem_of_getElem? h); omega
attribute [local irreducible] Sha.tagParts Sha.tagB

theorem tagged_ct (F : Hp) (hK : Cells F ⟨1, 0, none⟩ (Sha.K.map W32)) (tag : UInt8) (A : Option Addr) (n c : Nat) (ls : List (List UInt8)) (hl : Sl F 1 A n c (strsV ls)) (htot : ls.flatten.length ≤ 8796093022208) (hn : n ≤ 1099511627776) :
    Ct Tryd.prog 58 [B8 tag, .slice A n c] [F] (fun _ : Unit => Str (Sha.tagged tag ls)) (fun _ => True) (fun _ => [F]) := by
  have hlen : ls.length = n := by have := hl.1; simpa [strsV] using this
  have htl := Sha.tagB_length tag ls
  have hfl := Sha.tagParts_flat tag ls
  rw [hlen] at hfl htl
  refine Ct.walk Tryd.func58 rfl Tryd.ntmps58 rfl (fun w0 hw0 => ?_)
  change J _ [(0, _), (1, _)] _ _ _
  refine J.seq (fun K1 hK1 => ?_)
  refine J.region ?_
  refine J.y (op_assign rfl rfl) rfl rfl rfl ?_
  refine J.nil ?_
  refine J.then_n (J.k hK1 ?_)
  refine J.keepE [(0, _), (1, _)] ⟨rfl, rfl, trivial⟩ ?_
  refine J.seq (fun K2 hK2 => ?_)
  refine J.region ?_
  refine J.y (op_move rfl rfl) rfl rfl rfl ?_
  refine J.e (op_buildSlice (l := [.tmp 8]) (xs := [[B8 tag]]) rfl rfl rfl rfl Tryd.underlying30 el5 rfl (by decide) (by decide) (by simp)) rfl rfl rfl ?_
  intro g9 _
  change J _ _ _ [F, blk g9 [B8 tag] 5] _
  refine J.y (op_toStr (l := [tag]) rfl rfl Tryd.underlying30 Tryd.underlying5 Tryd.underlying9 (m := blk g9 [B8 tag] 5) (by simp) (row_blk (q := True) (xs := [[B8 tag]]) rfl (by simp)).sl) rfl rfl rfl ?_
  refine J.e (op_buildSlice (l := [.tmp 10]) (xs := [[Str [tag]]]) rfl rfl rfl rfl Tryd.underlying55 el9 rfl (by decide) (by decide) (by simp)) rfl rfl rfl ?_
  intro g11 _
  change J _ _ _ [F, blk g9 [B8 tag] 5, blk g11 [Str [tag]] 9] _
  refine J.perm [0, 2] [F, blk g11 [Str [tag]] 9] rfl (by decide) ?_
  refine J.y (op_assign rfl rfl) rfl rfl rfl ?_
  refine J.nil ?_
  refine J.then_n (J.k hK2 ?_)
  refine J.keepE [(1, _), (5, _)] ⟨rfl, rfl, trivial⟩ ?_
  refine J.seq (fun K3 hK3 => ?_)
  refine J.seq (fun K4 hK4 => ?_)
  refine J.region ?_
  refine J.y (op_move rfl rfl) rfl rfl rfl ?_
  refine J.y (op_len Tryd.underlying55 rfl rfl) rfl rfl rfl ?_
  refine J.y (op_move rfl rfl) rfl rfl rfl ?_
  refine J.nil ?_
  refine J.then_n (J.k hK4 ?_)
  refine J.keepE [(5, _), (12, _), (13, _), (14, _)] ⟨rfl, rfl, rfl, rfl, trivial⟩ ?_
  refine J.block ?_
  refine J.loop (X := Nat × Option Addr × Nat × Hp) (fun x => [(5, .slice x.2.1 (2 * x.1 + 1) x.2.2.1), (12, .slice A n c), (13, I n), (14, I x.1)]) (fun x => [F, x.2.2.2]) (fun x => x.1 ≤ n ∧ Row x.2.2.2 9 1 x.2.1 (2 * x.1 + 1) x.2.2.1 (strsV (Sha.tagParts tag ls x.1))) (fun x => n - x.1) (0, some ⟨g11, 0, none⟩, 1, blk g11 [Str [tag]] 9) (⟨Nat.zero_le _, by unfold Sha.tagParts; exact row_blk (xs := strsV [[tag]]) rfl (by simp [strsV])⟩) ⟨rfl, rfl, rfl, rfl, trivial⟩ (fun _ h => h) ?_
  rintro ⟨k, A1, c1, m⟩ ⟨hk, hrow⟩ I0 hI0
  dsimp only at hk hrow ⊢
  refine J.seq (fun K5 hK5 => ?_)
  refine J.region ?_
  refine J.y (op_lss rfl rfl rfl) rfl rfl rfl ?_
  refine J.nil ?_
  refine J.then_n (J.k hK5 ?_)
  refine J.keepE [(5, _), (12, _), (13, _), (14, _), (15, _)] ⟨rfl, rfl, rfl, rfl, rfl, trivial⟩ ?_
  refine J.seq (fun K6 hK6 => ?_)
  refine J.ite rfl (fun h15 => ?_) (fun h15 => ?_)
  ·
    refine J.skip ?_
    refine J.then_n (J.k hK6 ?_)
    refine J.keepE [(5, _), (12, _), (13, _), (14, _)] ⟨rfl, rfl, rfl, rfl, trivial⟩ ?_
    refine J.seq (fun K7 hK7 => ?_)
    refine J.block ?_
    refine J.seq (fun K8 hK8 => ?_)
    have hkn : k < n := by omega
    obtain ⟨s, hs⟩ : ∃ s, ls[k]? = some s := ⟨_, List.getElem?_eq_getElem (by omega)⟩
    have hsl := len_flat hs
    refine J.region ?_
    refine J.y (op_indexAddr (i := k) rfl rfl rfl Tryd.underlying55 Tryd.sizeOf9 hl (by omega)) rfl rfl rfl ?_
    refine J.y (op_load rfl rfl Tryd.isAgg9 (by simp) (hl.elem (strsV_get hs))) rfl rfl rfl ?_
    refine J.y (op_assign rfl rfl) rfl rfl rfl ?_
    refine J.nil ?_
    refine J.then_n (J.k hK8 ?_)
    refine J.keepE [(5, _), (7, _), (12, _), (13, _), (14, _)] ⟨rfl, rfl, rfl, rfl, rfl, trivial⟩ ?_
    refine J.region ?_
    refine J.y (op_move rfl rfl) rfl rfl rfl ?_
    refine J.y (op_move rfl rfl) rfl rfl rfl ?_
    refine J.y (op_slen Tryd.underlying9 rfl rfl) rfl rfl rfl ?_
    refine J.y (op_cv_i64_u64 rfl rfl Tryd.underlying3 Tryd.underlying108 (by omega)) rfl rfl rfl ?_
    refine J.e (op_call rfl rfl ent107 (Ct.use (fun F' _ => number_ct F' _ 4 (by decide)))) rfl rfl rfl ?_
    rintro ⟨A22, c22, m22⟩ h22
    try dsimp only at h22
    change J _ ((22, .slice A22 4 c22) :: _) _ [F, m, m22] _
    refine J.y (op_toStr rfl rfl Tryd.underlying30 Tryd.underlying5 Tryd.underlying9 (m := m22) (by simp) h22.sl) rfl rfl rfl ?_
    refine J.y (op_move rfl rfl) rfl rfl rfl ?_
    refine J.e (op_buildSlice (l := [.tmp 23, .tmp 24]) (xs := [[Str (Sha.numB (UInt64.ofNat s.length) 4)], [Str s]]) rfl rfl rfl rfl Tryd.underlying55 el9 rfl (by decide) (by decide) (by simp)) rfl rfl rfl ?_
    intro g25 _
    change J _ _ _ [F, m, m22, blk g25 [Str (Sha.numB (UInt64.ofNat s.length) 4), Str s] 9] _
    refine J.e (op_append (i := 1) (m2 := blk g25 [Str (Sha.numB (UInt64.ofNat s.length) 4), Str s] 9) (ys := strsV [(Sha.numB (UInt64.ofNat s.length) 4), s]) rfl rfl rfl Tryd.underlying55 Tryd.underlying55 el9 rfl hrow (by simp) (row_blk (q := True) (xs := strsV [(Sha.numB (UInt64.ofNat s.length) 4), s]) rfl (by simp [strsV])).sl (by simp [strsV, Value.oneCell']) (by omega) (by omega)) rfl rfl rfl ?_
    rintro ⟨A26, c26, m26⟩ h26
    try dsimp only at h26
    change J _ ((26, .slice A26 (2 * k + 1 + 2) c26) :: _) _ [F, m26, m22, blk g25 [Str (Sha.numB (UInt64.ofNat s.length) 4), Str s] 9] _
    rw [← strsV_app, ← Sha.tagParts_succ tag ls k hs] at h26
    refine J.perm [0, 1] [F, m26] rfl (by decide) ?_
    refine J.y (op_assign rfl rfl) rfl rfl rfl ?_
    refine J.nil ?_
    refine J.blk_n ?_
    refine J.then_n (J.k hK7 ?_)
    refine J.keepE [(5, _), (12, _), (13, _), (14, _)] ⟨rfl, rfl, rfl, rfl, trivial⟩ ?_
    refine J.region ?_
    refine J.y (op_add rfl rfl rfl (by omega)) rfl rfl rfl ?_
    refine J.y (op_move rfl rfl) rfl rfl rfl ?_
    refine J.nil ?_
    refine J.then_n ?_
    refine J.kk (k + 1, A26, c26, m26) (fun x (hx : _ ∧ n - x.1 < n - k) => hI0 x hx.1 hx.2) ⟨⟨by dsimp only; omega, h26⟩, by dsimp only; omega⟩ ⟨rfl, rfl, rfl, rfl, trivial⟩ (fun _ h => h)
  ·
    refine J.exit ?_
    refine J.then_x ?_
    refine J.then_x ?_
    refine J.blk_eq ?_
    refine J.then_n (J.k hK3 ?_)
    refine J.keepE [(5, _)] ⟨rfl, trivial⟩ ?_
    refine J.seq (fun K9 hK9 => ?_)
    have hkn : n = k := by omega
    subst hkn
    refine J.region ?_
    refine J.y (op_move rfl rfl) rfl rfl rfl ?_
    refine J.e (op_call rfl rfl ent108 (Ct.use0 (fun F' hF => sum_ct F' (hK.mono (hF _ (by simp))) A1 (2 * n + 1) c1 (Sha.tagParts tag ls n) (hrow.sl.mono (hF _ (by simp))) (by rw [hfl]; omega) (by omega)))) rfl rfl rfl ?_
    intro g29 _
    change J _ _ _ [F, m] _
    refine J.y (op_sslice (l := 0) (h := 16) Tryd.underlying9 rfl rfl rfl rfl (by rw [Sha.sum_length]; omega)) rfl rfl rfl ?_
    refine J.y (op_assign rfl rfl) rfl rfl rfl ?_
    refine J.nil ?_
    refine J.then_n (J.k hK9 ?_)
    refine J.keepE [(4, _)] ⟨rfl, trivial⟩ ?_
    refine J.ret ?_
    exact J.done hw0 (fun _ _ h => h) (res1 rfl rfl) (retOk () (by rw [hfl]; rfl) trivial [0] rfl (by decide))

end Go.Proofs.YtnkfapecbmmpeaaDoor
