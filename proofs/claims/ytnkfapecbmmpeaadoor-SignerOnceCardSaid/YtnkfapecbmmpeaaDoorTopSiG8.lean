/- A part of the proof: contracts of functions of the program, each for every state of the heaps that it names. -/
import Derived.Test.YtnkfapecbmmpeaaDoorTopSiG7
import Derived.Test.YtnkfapecbmmpeaaDoorTopSiG4
import Derived.Test.YtnkfapecbmmpeaaDoorTopSiG6
set_option linter.unusedSimpArgs false
set_option linter.unusedVariables false
namespace Go.Proofs.YtnkfapecbmmpeaaDoor
open Go Go.Fw
set_option maxRecDepth 100000
set_option maxHeartbeats 1000000

theorem join0_ct (F : Hp) (A : Option Addr) (n c : Nat) (ls : List (List UInt8)) (hl : Sl F 1 A n c (strsV ls)) (htot : ls.flatten.length ≤ 35184372088832) (hn47 : n ≤ 70368744177664) :
    Ct Tryd.prog 148 [.slice A n c, Str []] [F] (fun _ : Unit => Str ls.flatten) (fun _ => True) (fun _ => [F]) := by
  have h := join_ct F A n c ls [] hl (by rw [joinB_nil]; exact htot) hn47
  rw [joinB_nil] at h; exact h
theorem bytesV_app (a b : List UInt8) : bytesV (a ++ b) = bytesV a ++ bytesV b := by simp [bytesV]
theorem bytesV_one (a : List UInt8) : (bytesV a).all (fun x => x.all Value.oneCell') = true := by simp [bytesV, Value.oneCell']
theorem bytesV_cut (p : List UInt8) (k N : Nat) (hN : p.length = N) : ((bytesV (p.drop (64 * k))).take (N - 64 * k)).drop 64 = bytesV (p.drop (64 * (k + 1))) := by
  rw [List.take_of_length_le (by simp [bytesV, hN])]
  unfold bytesV
  rw [← List.map_drop, List.drop_drop, Nat.mul_add]
def Sha.outs (t : Sha.St8) (k : Nat) : List UInt8 := (t.list.take k).flatMap fun x => Sha.numB x.toUInt64 4
theorem outs_succ (t : Sha.St8) : ∀ k, k < 8 → Sha.outs t (k + 1) = Sha.outs t k ++ Sha.numB (t.list.getD k 0).toUInt64 4
  | 0, _ => rfl | 1, _ => rfl | 2, _ => rfl | 3, _ => rfl | 4, _ => rfl | 5, _ => rfl | 6, _ => rfl | 7, _ => rfl
  | n + 8, h => by omega
attribute [local irreducible] Sha.sum Sha.pad Sha.mixes Sha.numB

theorem sum_ct (F : Hp) (hK : Cells F ⟨1, 0, none⟩ (Sha.K.map W32)) (A : Option Addr) (n c : Nat) (ls : List (List UInt8)) (hl : Sl F 1 A n c (strsV ls)) (htot : ls.flatten.length ≤ 17592186044416) (hn47 : n ≤ 70368744177664) :
    Ct Tryd.prog 108 [.slice A n c] [F] (fun _ : Unit => Str (Sha.sum ls.flatten)) (fun _ => True) (fun _ => [F]) := by
  obtain ⟨l, hL⟩ : ∃ l, l = ls.flatten := ⟨_, rfl⟩
  have hJ := join0_ct F A n c ls hl (by omega) hn47
  rw [← hL] at hJ htot ⊢
  have hpad := Sha.pad_length l
  have hpm := Sha.pad_mod l
  obtain ⟨p, hp⟩ : ∃ p, p = Sha.pad l := ⟨_, rfl⟩
  rw [← hp] at hpad hpm
  have hsum : Sha.sum l = Sha.out (Sha.mixes Sha.init p (p.length / 64)) := by rw [hp]; unfold Sha.sum; rfl
  have hpd : p = l ++ [128] ++ List.replicate ((119 - l.length % 64) % 64) 0 ++ Sha.numB (8 * UInt64.ofNat l.length) 8 := by rw [hp]; unfold Sha.pad; rfl
  refine Ct.walk Tryd.func108 rfl Tryd.ntmps108 rfl (fun w0 hw0 => ?_)
  change J _ [(0, _)] _ _ _
  refine J.seq (fun K1 hK1 => ?_)
  refine J.region ?_
  refine J.y (op_assign rfl rfl) rfl rfl rfl ?_
  refine J.nil ?_
  refine J.then_n (J.k hK1 ?_)
  refine J.keepE [(0, _)] ⟨rfl, trivial⟩ ?_
  refine J.seq (fun K2 hK2 => ?_)
  refine J.region ?_
  refine J.y (op_move rfl rfl) rfl rfl rfl ?_
  refine J.e (op_call rfl rfl ent148 hJ) rfl rfl rfl ?_
  intro g10 _
  refine J.e (op_toBytes rfl rfl Tryd.underlying9 Tryd.underlying30 Tryd.underlying5) rfl rfl rfl ?_
  rintro ⟨g11, c11, m11⟩ h11
  try dsimp only at h11
  change J _ ((11, .slice (some ⟨g11, 0, none⟩) l.length c11) :: _) _ [F, m11] _
  refine J.y (op_assign rfl rfl) rfl rfl rfl ?_
  refine J.nil ?_
  refine J.then_n (J.k hK2 ?_)
  refine J.keepE [(3, _)] ⟨rfl, trivial⟩ ?_
  refine J.seq (fun K3 hK3 => ?_)
  refine J.region ?_
  refine J.y (op_move rfl rfl) rfl rfl rfl ?_
  refine J.y (op_len Tryd.underlying30 rfl rfl) rfl rfl rfl ?_
  refine J.y (op_cv_i64_u64 rfl rfl Tryd.underlying3 Tryd.underlying108 (by omega)) rfl rfl rfl ?_
  refine J.y (op_assign rfl rfl) rfl rfl rfl ?_
  refine J.nil ?_
  refine J.then_n (J.k hK3 ?_)
  refine J.keepE [(3, _), (4, _)] ⟨rfl, rfl, trivial⟩ ?_
  refine J.seq (fun K4 hK4 => ?_)
  refine J.region ?_
  refine J.y (op_move rfl rfl) rfl rfl rfl ?_
  refine J.e (op_buildSlice (l := [.const ((Value.int IntKind.u8 128))]) (xs := [[B8 128]]) rfl rfl rfl rfl Tryd.underlying30 el5 rfl (by decide) (by decide) (by simp)) rfl rfl rfl ?_
  intro g16 _
  change J _ _ _ [F, m11, blk g16 [B8 128] 5] _
  refine J.e (op_append (i := 1) (m2 := blk g16 [B8 128] 5) (ys := [[B8 128]]) rfl rfl rfl Tryd.underlying30 Tryd.underlying30 el5 rfl h11 (by simp) (row_blk (q := True) (xs := [[B8 128]]) rfl (by simp)).sl rfl (by omega) (by omega)) rfl rfl rfl ?_
  rintro ⟨A17, c17, m17⟩ h17
  try dsimp only at h17
  change J _ ((17, .slice A17 (l.length + 1) c17) :: _) _ [F, m17, blk g16 [B8 128] 5] _
  rw [show [[B8 128]] = bytesV [128] from rfl, ← bytesV_app] at h17
  refine J.perm [0, 1] [F, m17] rfl (by decide) ?_
  refine J.y (op_assign rfl rfl) rfl rfl rfl ?_
  refine J.nil ?_
  refine J.then_n (J.k hK4 ?_)
  refine J.keepE [(3, _), (4, _)] ⟨rfl, rfl, trivial⟩ ?_
  refine J.seq (fun K5 hK5 => ?_)
  refine J.block ?_
  refine J.loop (X := Nat × Option Addr × Nat × Hp) (fun x => [(3, .slice x.2.1 (l.length + 1 + x.1) x.2.2.1), (4, W64 (UInt64.ofNat l.length))]) (fun x => [F, x.2.2.2]) (fun x => x.1 ≤ (119 - l.length % 64) % 64 ∧ Row x.2.2.2 5 1 x.2.1 (l.length + 1 + x.1) x.2.2.1 (bytesV (l ++ [128] ++ List.replicate x.1 0))) (fun x => (119 - l.length % 64) % 64 - x.1) (0, A17, c17, m17) (⟨Nat.zero_le _, by simpa using h17⟩) ⟨rfl, rfl, trivial⟩ (fun _ h => h) ?_
  rintro ⟨k, A1, c1, m⟩ ⟨hk, hrow⟩ I0 hI0
  dsimp only at hk hrow ⊢
  refine J.seq (fun K6 hK6 => ?_)
  refine J.seq (fun K7 hK7 => ?_)
  refine J.region ?_
  refine J.y (op_move rfl rfl) rfl rfl rfl ?_
  refine J.y (op_len Tryd.underlying30 rfl rfl) rfl rfl rfl ?_
  refine J.y (op_rem rfl rfl rfl (by omega)) rfl rfl rfl ?_
  refine J.y (op_neq rfl rfl rfl) rfl rfl rfl ?_
  refine J.nil ?_
  refine J.then_n (J.k hK7 ?_)
  refine J.keepE [(3, _), (4, _), (21, _)] ⟨rfl, rfl, rfl, trivial⟩ ?_
  refine J.ite rfl (fun h21 => ?_) (fun h21 => ?_)
  ·
    refine J.skip ?_
    refine J.then_n (J.k hK6 ?_)
    refine J.keepE [(3, _), (4, _)] ⟨rfl, rfl, trivial⟩ ?_
    refine J.block ?_
    refine J.region ?_
    refine J.y (op_move rfl rfl) rfl rfl rfl ?_
    refine J.e (op_buildSlice (l := [.const ((Value.int IntKind.u8 0))]) (xs := [[B8 0]]) rfl rfl rfl rfl Tryd.underlying30 el5 rfl (by decide) (by decide) (by simp)) rfl rfl rfl ?_
    intro g23 _
    change J _ _ _ [F, m, blk g23 [B8 0] 5] _
    refine J.e (op_append (i := 1) (m2 := blk g23 [B8 0] 5) (ys := [[B8 0]]) rfl rfl rfl Tryd.underlying30 Tryd.underlying30 el5 rfl hrow (by simp) (row_blk (q := True) (xs := [[B8 0]]) rfl (by simp)).sl rfl (by omega) (by omega)) rfl rfl rfl ?_
    rintro ⟨A24, c24, m24⟩ h24
    try dsimp only at h24
    change J _ ((24, .slice A24 (l.length + 1 + k + 1) c24) :: _) _ [F, m24, blk g23 [B8 0] 5] _
    rw [show [[B8 0]] = bytesV [0] from rfl, ← bytesV_app] at h24
    refine J.perm [0, 1] [F, m24] rfl (by decide) ?_
    refine J.y (op_assign rfl rfl) rfl rfl rfl ?_
    refine J.nil ?_
    refine J.blk_n ?_
    refine J.then_n ?_
    refine J.kk (k + 1, A24, c24, m24) (fun x (hx : _ ∧ (119 - l.length % 64) % 64 - x.1 < (119 - l.length % 64) % 64 - k) => hI0 x hx.1 hx.2) ⟨⟨by dsimp only; omega, by rw [List.replicate_succ', ← List.append_assoc]; exact h24⟩, by dsimp only; omega⟩ ⟨rfl, rfl, trivial⟩ (fun _ h => h)
  ·
    refine J.exit ?_
    refine J.then_x ?_
    refine J.then_x ?_
    refine J.blk_eq ?_
    refine J.then_n (J.k hK5 ?_)
    refine J.keepE [(3, _), (4, _)] ⟨rfl, rfl, trivial⟩ ?_
    refine J.seq (fun K8 hK8 => ?_)
    have hkz : k = (119 - l.length % 64) % 64 := by omega
    refine J.region ?_
    refine J.y (op_move rfl rfl) rfl rfl rfl ?_
    refine J.y (op_move rfl rfl) rfl rfl rfl ?_
    refine J.y (op_mul64 (a := 8) rfl rfl rfl) rfl rfl rfl ?_
    refine J.e (op_call rfl rfl ent107 (Ct.use (fun F' _ => number_ct F' _ 8 (by decide)))) rfl rfl rfl ?_
    rintro ⟨A28, c28, m28⟩ h28
    try dsimp only at h28
    change J _ ((28, .slice A28 8 c28) :: _) _ [F, m, m28] _
    refine J.e (op_append (i := 1) (m2 := m28) (ys := bytesV (Sha.numB (8 * UInt64.ofNat l.length) 8)) rfl rfl rfl Tryd.underlying30 Tryd.underlying30 el5 rfl hrow (by simp) h28.sl (bytesV_one _) (by omega) (by omega)) rfl rfl rfl ?_
    rintro ⟨A29, c29, m29⟩ h29
    try dsimp only at h29
    change J _ ((29, .slice A29 (l.length + 1 + k + 8) c29) :: _) _ [F, m29, m28] _
    rw [← bytesV_app] at h29
    refine J.perm [0, 1] [F, m29] rfl (by decide) ?_
    refine J.y (op_assign rfl rfl) rfl rfl rfl ?_
    refine J.nil ?_
    refine J.then_n (J.k hK8 ?_)
    refine J.keepE [(3, _)] ⟨rfl, trivial⟩ ?_
    refine J.seq (fun K9 hK9 => ?_)
    rw [hkz, ← hpd] at h29
    rw [hkz, show l.length + 1 + (119 - l.length % 64) % 64 + 8 = p.length by omega] at *
    refine J.region ?_
    refine J.e (op_call rfl rfl ent149 (Ct.use0 (fun F' _ => first_ct F'))) rfl rfl rfl ?_
    intro g30 _
    refine J.e (op_alloc rfl Tryd.zeroValue210 rfl) rfl rfl rfl ?_
    intro g5 _
    change J _ _ _ [F, m29, blk g5 _ 210] _
    refine J.s (op_storeAll (i := 2) (vs := Sha.init.list.map W32) rfl rfl rfl rfl rfl Tryd.sizeOf210 (one_W _) (by rfl)) rfl rfl (fun _ _ => ?_)
    change J _ _ _ [F, m29, blk g5 (Sha.init.list.map W32) 210] _
    refine J.nil ?_
    refine J.then_n (J.k hK9 ?_)
    refine J.keepE [(3, _), (5, _)] ⟨rfl, rfl, trivial⟩ ?_
    refine J.seq (fun K10 hK10 => ?_)
    refine J.block ?_
    refine J.loop (X := Nat × Option Addr × Nat) (fun x => [(3, .slice x.2.1 (p.length - 64 * x.1) x.2.2), (5, Ptr g5)]) (fun x => [F, m29, blk g5 ((Sha.mixes Sha.init p x.1).list.map W32) 210]) (fun x => 64 * x.1 ≤ p.length ∧ Sl m29 1 x.2.1 (p.length - 64 * x.1) x.2.2 (bytesV (p.drop (64 * x.1)))) (fun x => p.length - 64 * x.1) (0, A29, c29) (⟨Nat.zero_le _, h29.sl⟩) ⟨rfl, rfl, trivial⟩ (fun _ h => by unfold Sha.mixes; exact h) ?_
    rintro ⟨k, A2, c2⟩ ⟨hk, hsl⟩ I2 hI2
    dsimp only at hk hsl ⊢
    refine J.seq (fun K11 hK11 => ?_)
    refine J.seq (fun K12 hK12 => ?_)
    refine J.region ?_
    refine J.y (op_move rfl rfl) rfl rfl rfl ?_
    refine J.y (op_len Tryd.underlying30 rfl rfl) rfl rfl rfl ?_
    refine J.y (op_gtr rfl rfl rfl) rfl rfl rfl ?_
    refine J.nil ?_
    refine J.then_n (J.k hK12 ?_)
    refine J.keepE [(3, _), (5, _), (33, _)] ⟨rfl, rfl, rfl, trivial⟩ ?_
    refine J.ite rfl (fun h33 => ?_) (fun h33 => ?_)
    ·
      refine J.skip ?_
      refine J.then_n (J.k hK11 ?_)
      refine J.keepE [(3, _), (5, _)] ⟨rfl, rfl, trivial⟩ ?_
      refine J.seq (fun K13 hK13 => ?_)
      refine J.block ?_
      have hN : 64 ≤ p.length - 64 * k := by omega
      have hc2 := hsl.2.1
      refine J.region ?_
      refine J.y (op_move rfl rfl) rfl rfl rfl ?_
      refine J.e (op_call rfl rfl ent150 (Ct.use1 2 (m' := fun _ : Unit => blk g5 ((Sha.mix (Sha.mixes Sha.init p k) (p.drop (64 * k))).list.map W32) 210) (new := fun _ => []) rfl (fun F' hF => mix_ct F' (hK.mono (hF _ (by simp))) g5 _ A2 (p.length - 64 * k) c2 (p.drop (64 * k)) (hsl.mono (hF _ (by simp))) (by omega)))) rfl rfl rfl ?_
      intro g37 _
      change J _ _ _ [F, m29, blk g5 ((Sha.mix (Sha.mixes Sha.init p k) (p.drop (64 * k))).list.map W32) 210] _
      refine J.nil ?_
      refine J.blk_n ?_
      refine J.then_n (J.k hK13 ?_)
      refine J.keepE [(3, _), (5, _)] ⟨rfl, rfl, trivial⟩ ?_
      refine J.region ?_
      refine J.y (op_move rfl rfl) rfl rfl rfl ?_
      refine J.y (op_slice (l := 64) (h := p.length - 64 * k) rfl rfl Tryd.underlying30 Tryd.sizeOf5 rfl rfl (by omega)) rfl rfl rfl ?_
      refine J.y (op_assign rfl rfl) rfl rfl rfl ?_
      refine J.nil ?_
      refine J.then_n ?_
      have hcut := hsl.cut (lo := 64) (hi := p.length - 64 * k) (mx := c2) hN (Nat.le_refl _) hsl.2.1
      rw [bytesV_cut p k _ rfl] at hcut
      have hNN : p.length - 64 * k - 64 = p.length - 64 * (k + 1) := by omega
      refine J.kk (k + 1, _, c2 - 64) (fun x (hx : _ ∧ p.length - 64 * x.1 < p.length - 64 * k) => hI2 x hx.1 hx.2) ⟨⟨by dsimp only; omega, by rw [← hNN]; exact hcut⟩, by dsimp only; omega⟩ ⟨by rw [← hNN]; rfl, rfl, trivial⟩ (fun _ h => by unfold Sha.mixes; exact h)
    ·
      refine J.exit ?_
      refine J.then_x ?_
      refine J.then_x ?_
      refine J.blk_eq ?_
      refine J.then_n (J.k hK10 ?_)
      refine J.keepE [(5, _)] ⟨rfl, trivial⟩ ?_
      refine J.seq (fun K14 hK14 => ?_)
      have hk64 : k = p.length / 64 := by omega
      rw [← hk64] at hsum
      generalize Sha.mixes Sha.init p k = t at hsum ⊢
      refine J.region ?_
      refine J.y (op_assign rfl rfl) rfl rfl rfl ?_
      refine J.nil ?_
      refine J.then_n (J.k hK14 ?_)
      refine J.keepE [(5, _), (6, _)] ⟨rfl, rfl, trivial⟩ ?_
      refine J.seq (fun K15 hK15 => ?_)
      refine J.seq (fun K16 hK16 => ?_)
      refine J.region ?_
      refine J.y (op_loadBA 2 rfl rfl rfl Tryd.isAgg210 Tryd.sizeOf210 rfl) rfl rfl rfl ?_
      refine J.addEmpty [0, 3] [F, (fun _ => none)] rfl (by decide) ?_
      refine J.y (op_move rfl rfl) rfl rfl rfl ?_
      refine J.nil ?_
      refine J.then_n (J.k hK16 ?_)
      refine J.keepE [(6, _), (38, _), (39, _)] ⟨rfl, rfl, rfl, trivial⟩ ?_
      refine J.block ?_
      refine J.loop (X := Nat × Option Addr × Nat × Hp) (fun x => [(6, .slice x.2.1 (4 * x.1) x.2.2.1), (38, .agg (t.list.map W32).toArray), (39, I x.1)]) (fun x => [F, x.2.2.2]) (fun x => x.1 ≤ 8 ∧ Row x.2.2.2 5 1 x.2.1 (4 * x.1) x.2.2.1 (bytesV (Sha.outs t x.1))) (fun x => 8 - x.1) (0, none, 0, fun _ => none) (⟨Nat.zero_le _, RowQ.nil⟩) ⟨rfl, rfl, rfl, trivial⟩ (fun _ h => h) ?_
      rintro ⟨k, A3, c3, m⟩ ⟨hk, hrow⟩ I4 hI4
      dsimp only at hk hrow ⊢
      refine J.seq (fun K17 hK17 => ?_)
      refine J.region ?_
      refine J.y (op_lss rfl rfl rfl) rfl rfl rfl ?_
      refine J.nil ?_
      refine J.then_n (J.k hK17 ?_)
      refine J.keepE [(6, _), (38, _), (39, _), (40, _)] ⟨rfl, rfl, rfl, rfl, trivial⟩ ?_
      refine J.seq (fun K18 hK18 => ?_)
      refine J.ite rfl (fun h40 => ?_) (fun h40 => ?_)
      ·
        refine J.skip ?_
        refine J.then_n (J.k hK18 ?_)
        refine J.keepE [(6, _), (38, _), (39, _)] ⟨rfl, rfl, rfl, trivial⟩ ?_
        refine J.seq (fun K19 hK19 => ?_)
        refine J.block ?_
        refine J.seq (fun K20 hK20 => ?_)
        refine J.region ?_
        refine J.y (op_index (i := k) (v := W32 (t.list.getD k 0)) rfl rfl rfl Tryd.underlying210 Tryd.sizeOf208 Tryd.isAgg208 (by omega) (by rw [Nat.mul_one, List.getElem?_toArray]; exact list_get _ k (by omega))) rfl rfl rfl ?_
        refine J.y (op_assign rfl rfl) rfl rfl rfl ?_
        refine J.nil ?_
        refine J.then_n (J.k hK20 ?_)
        refine J.keepE [(6, _), (8, _), (38, _), (39, _)] ⟨rfl, rfl, rfl, rfl, trivial⟩ ?_
        refine J.region ?_
        refine J.y (op_move rfl rfl) rfl rfl rfl ?_
        refine J.y (op_move rfl rfl) rfl rfl rfl ?_
        refine J.y (op_cv_u32_u64 rfl rfl Tryd.underlying208 Tryd.underlying108) rfl rfl rfl ?_
        refine J.e (op_call rfl rfl ent107 (Ct.use (fun F' _ => number_ct F' _ 4 (by decide)))) rfl rfl rfl ?_
        rintro ⟨A45, c45, m45⟩ h45
        try dsimp only at h45
        change J _ ((45, .slice A45 4 c45) :: _) _ [F, m, m45] _
        refine J.e (op_append (i := 1) (m2 := m45) (ys := bytesV (Sha.numB (t.list.getD k 0).toUInt64 4)) rfl rfl rfl Tryd.underlying30 Tryd.underlying30 el5 rfl hrow (by simp) h45.sl (bytesV_one _) (by omega) (by omega)) rfl rfl rfl ?_
        rintro ⟨A46, c46, m46⟩ h46
        try dsimp only at h46
        change J _ ((46, .slice A46 (4 * k + 4) c46) :: _) _ [F, m46, m45] _
        rw [← bytesV_app, ← outs_succ t k (by omega)] at h46
        refine J.perm [0, 1] [F, m46] rfl (by decide) ?_
        refine J.y (op_assign rfl rfl) rfl rfl rfl ?_
        refine J.nil ?_
        refine J.blk_n ?_
        refine J.then_n (J.k hK19 ?_)
        refine J.keepE [(6, _), (38, _), (39, _)] ⟨rfl, rfl, rfl, trivial⟩ ?_
        refine J.region ?_
        refine J.y (op_add rfl rfl rfl (by omega)) rfl rfl rfl ?_
        refine J.y (op_move rfl rfl) rfl rfl rfl ?_
        refine J.nil ?_
        refine J.then_n ?_
        refine J.kk (k + 1, A46, c46, m46) (fun x (hx : _ ∧ 8 - x.1 < 8 - k) => hI4 x hx.1 hx.2) ⟨⟨by dsimp only; omega, h46⟩, by dsimp only; omega⟩ ⟨rfl, rfl, rfl, trivial⟩ (fun _ h => h)
      ·
        refine J.exit ?_
        refine J.then_x ?_
        refine J.then_x ?_
        refine J.blk_eq ?_
        refine J.then_n (J.k hK15 ?_)
        refine J.keepE [(6, _)] ⟨rfl, trivial⟩ ?_
        refine J.seq (fun K21 hK21 => ?_)
        have hk8 : k = 8 := by omega
        subst hk8
        refine J.region ?_
        refine J.y (op_move rfl rfl) rfl rfl rfl ?_
        refine J.y (op_toStr rfl rfl Tryd.underlying30 Tryd.underlying5 Tryd.underlying9 (m := m) (by simp) hrow.sl) rfl rfl rfl ?_
        refine J.y (op_assign rfl rfl) rfl rfl rfl ?_
        refine J.nil ?_
        refine J.then_n (J.k hK21 ?_)
        refine J.keepE [(2, _)] ⟨rfl, trivial⟩ ?_
        refine J.ret ?_
        exact J.done hw0 (fun _ _ h => h) (res1 rfl rfl) (retOk () (by rw [hsum]; rfl) trivial [0] rfl (by decide))

theorem el9 : Elem Tryd.prog 9 [Str []] 16 := Elem.of (by kernel_rfl) rfl
namespace Sha
def tagParts (tag : UInt8) (ls : List (List UInt8)) (k : Nat) : List (List UInt8) := [[tag]] ++ (ls.take k).flatMap fun s => [numB (UInt64.ofNat s.length) 4, s]
def tagB (tag : UInt8) (ls : List (List UInt8)) : List UInt8 := [tag] ++ ls.flatMap fun s => numB (UInt64.ofNat s.length) 4 ++ s
def tagged (tag : UInt8) (ls : List (List UInt8)) : List UInt8 := (sum (tagB tag ls)).take 16
theorem tagParts_succ (tag : UInt8) (ls : List (List UInt8)) (k : Nat) {s : List UInt8} (h : ls[k]? = some s) : tagParts tag ls (k + 1) = tagParts tag ls k ++ [numB (UInt64.ofNat s.length) 4, s] := by
  obtain ⟨hk, rfl⟩ := List.getElem?_eq_some_iff.1 h
  unfold tagParts
  rw [List.take_succ_eq_append_getElem hk, List.flatMap_append, ← List.append_assoc]
  simp
theorem tagParts_flat (tag : UInt8) (ls : List (List UInt8)) : (tagParts tag ls ls.length).flatten = tagB tag ls := by
  unfold tagParts tagB
  rw [List.take_length, List.flatten_append]
  congr 1
  induction ls with
  | nil => rfl
  | cons a l ih => rw [List.flatMap_cons, List.flatMap_cons, List.flatten_append, ih]; simp
theorem tagB_length (tag : UInt8) (ls : List (List UInt8)) : (tagB tag ls).length = 1 + 4 * ls.length + ls.flatten.length := by
  unfold tagB
  rw [List.length_append]
  induction ls with
  | nil => rfl
  | cons a l ih => simp only [List.flatMap_cons, List.length_append, numB_length, List.length_cons, List.flatten_cons, List.length_nil] at ih ⊢; omega
theorem tagged_length (tag : UInt8) (ls : List (List UInt8)) : (tagged tag ls).length = 16 := by rw [tagged, List.length_take, sum_length]; rfl
def digits : List UInt8 := [48, 49, 50, 51, 52, 53, 54, 55, 56, 57, 97, 98, 99, 100, 101, 102]
def hi (b : UInt8) : UInt8 := UInt8.ofNat (b.toNat / 2 ^ min 4 8)
def hexB (s : List UInt8) : List UInt8 := s.flatMap fun b => [digits.getD (hi b).toNat 0, digits.getD (b &&& 15).toNat 0]
end Sha
theorem strsV_app (a b : List (List UInt8)) : strsV (a ++ b) = strsV a ++ strsV b := by simp [strsV]
theorem len_flat {ls : List (List UInt8)} {k : Nat} {s : List UInt8} (h : ls[k]? = some s) : s.length ≤ ls.flatten.length := by
  have : s ∈ ls := List.mem_of_getElem? h
  induction ls generalizing k with
  | nil => cases this
  | cons a l ih =>
    cases k with
    | zero => simp at h; subst h; simp
    | succ k => simp only [List.flatten_cons, List.length_append]; simp only [List.getElem?_cons_succ] at h; have := ih h (List.mem_of_getElem? h); omega
attribute [local irreducible] Sha.tagParts Sha.tagB

theorem tagged_ct (F : Hp) (hK : Cells F ⟨1, 0, none⟩ (Sha.K.map W32)) (tag : UInt8) (A : Option Addr) (n c : Nat) (ls : List (List UInt8)) (hl : Sl F 1 A n c (strsV ls)) (htot : ls.flatten.length ≤ 8796093022208) (hn : n ≤ 1099511627776) :
    Ct Tryd.prog 58 [B8 tag, .slice A n c] [F] (fun _ : Unit => Str (Sha.tagged tag ls)) (fun _ => True) (fun _ => [F]) := by
  have hlen : ls.length = n := by have := hl.1; simpa [strsV] using this
  have htl := Sha.tagB_length tag ls
  have hfl := Sha.tagParts_flat tag ls
  rw [hlen] at hfl htl
  refine Ct.walk Tryd.func58 rfl Tryd.ntmps58 rfl (fun w0 hw0 => ?_)
  change J _ [(0, _), (1, _)] _ _ _
  refine J.seq (fun K1 hK1 => ?_)
  refine J.region ?_
  refine J.y (op_assign rfl rfl) rfl rfl rfl ?_
  refine J.nil ?_
  refine J.then_n (J.k hK1 ?_)
  refine J.keepE [(0, _), (1, _)] ⟨rfl, rfl, trivial⟩ ?_
  refine J.seq (fun K2 hK2 => ?_)
  refine J.region ?_
  refine J.y (op_move rfl rfl) rfl rfl rfl ?_
  refine J.e (op_buildSlice (l := [.tmp 8]) (xs := [[B8 tag]]) rfl rfl rfl rfl Tryd.underlying30 el5 rfl (by decide) (by decide) (by simp)) rfl rfl rfl ?_
  intro g9 _
  change J _ _ _ [F, blk g9 [B8 tag] 5] _
  refine J.y (op_toStr (l := [tag]) rfl rfl Tryd.underlying30 Tryd.underlying5 Tryd.underlying9 (m := blk g9 [B8 tag] 5) (by simp) (row_blk (q := True) (xs := [[B8 tag]]) rfl (by simp)).sl) rfl rfl rfl ?_
  refine J.e (op_buildSlice (l := [.tmp 10]) (xs := [[Str [tag]]]) rfl rfl rfl rfl Tryd.underlying55 el9 rfl (by decide) (by decide) (by simp)) rfl rfl rfl ?_
  intro g11 _
  change J _ _ _ [F, blk g9 [B8 tag] 5, blk g11 [Str [tag]] 9] _
  refine J.perm [0, 2] [F, blk g11 [Str [tag]] 9] rfl (by decide) ?_
  refine J.y (op_assign rfl rfl) rfl rfl rfl ?_
  refine J.nil ?_
  refine J.then_n (J.k hK2 ?_)
  refine J.keepE [(1, _), (5, _)] ⟨rfl, rfl, trivial⟩ ?_
  refine J.seq (fun K3 hK3 => ?_)
  refine J.seq (fun K4 hK4 => ?_)
  refine J.region ?_
  refine J.y (op_move rfl rfl) rfl rfl rfl ?_
  refine J.y (op_len Tryd.underlying55 rfl rfl) rfl rfl rfl ?_
  refine J.y (op_move rfl rfl) rfl rfl rfl ?_
  refine J.nil ?_
  refine J.then_n (J.k hK4 ?_)
  refine J.keepE [(5, _), (12, _), (13, _), (14, _)] ⟨rfl, rfl, rfl, rfl, trivial⟩ ?_
  refine J.block ?_
  refine J.loop (X := Nat × Option Addr × Nat × Hp) (fun x => [(5, .slice x.2.1 (2 * x.1 + 1) x.2.2.1), (12, .slice A n c), (13, I n), (14, I x.1)]) (fun x => [F, x.2.2.2]) (fun x => x.1 ≤ n ∧ Row x.2.2.2 9 1 x.2.1 (2 * x.1 + 1) x.2.2.1 (strsV (Sha.tagParts tag ls x.1))) (fun x => n - x.1) (0, some ⟨g11, 0, none⟩, 1, blk g11 [Str [tag]] 9) (⟨Nat.zero_le _, by unfold Sha.tagParts; exact row_blk (xs := strsV [[tag]]) rfl (by simp [strsV])⟩) ⟨rfl, rfl, rfl, rfl, trivial⟩ (fun _ h => h) ?_
  rintro ⟨k, A1, c1, m⟩ ⟨hk, hrow⟩ I0 hI0
  dsimp only at hk hrow ⊢
  refine J.seq (fun K5 hK5 => ?_)
  refine J.region ?_
  refine J.y (op_lss rfl rfl rfl) rfl rfl rfl ?_
  refine J.nil ?_
  refine J.then_n (J.k hK5 ?_)
  refine J.keepE [(5, _), (12, _), (13, _), (14, _), (15, _)] ⟨rfl, rfl, rfl, rfl, rfl, trivial⟩ ?_
  refine J.seq (fun K6 hK6 => ?_)
  refine J.ite rfl (fun h15 => ?_) (fun h15 => ?_)
  ·
    refine J.skip ?_
    refine J.then_n (J.k hK6 ?_)
    refine J.keepE [(5, _), (12, _), (13, _), (14, _)] ⟨rfl, rfl, rfl, rfl, trivial⟩ ?_
    refine J.seq (fun K7 hK7 => ?_)
    refine J.block ?_
    refine J.seq (fun K8 hK8 => ?_)
    have hkn : k < n := by omega
    obtain ⟨s, hs⟩ : ∃ s, ls[k]? = some s := ⟨_, List.getElem?_eq_getElem (by omega)⟩
    have hsl := len_flat hs
    refine J.region ?_
    refine J.y (op_indexAddr (i := k) rfl rfl rfl Tryd.underlying55 Tryd.sizeOf9 hl (by omega)) rfl rfl rfl ?_
    refine J.y (op_load rfl rfl Tryd.isAgg9 (by simp) (hl.elem (strsV_get hs))) rfl rfl rfl ?_
    refine J.y (op_assign rfl rfl) rfl rfl rfl ?_
    refine J.nil ?_
    refine J.then_n (J.k hK8 ?_)
    refine J.keepE [(5, _), (7, _), (12, _), (13, _), (14, _)] ⟨rfl, rfl, rfl, rfl, rfl, trivial⟩ ?_
    refine J.region ?_
    refine J.y (op_move rfl rfl) rfl rfl rfl ?_
    refine J.y (op_move rfl rfl) rfl rfl rfl ?_
    refine J.y (op_slen Tryd.underlying9 rfl rfl) rfl rfl rfl ?_
    refine J.y (op_cv_i64_u64 rfl rfl Tryd.underlying3 Tryd.underlying108 (by omega)) rfl rfl rfl ?_
    refine J.e (op_call rfl rfl ent107 (Ct.use (fun F' _ => number_ct F' _ 4 (by decide)))) rfl rfl rfl ?_
    rintro ⟨A22, c22, m22⟩ h22
    try dsimp only at h22
    change J _ ((22, .slice A22 4 c22) :: _) _ [F, m, m22] _
    refine J.y (op_toStr rfl rfl Tryd.underlying30 Tryd.underlying5 Tryd.underlying9 (m := m22) (by simp) h22.sl) rfl rfl rfl ?_
    refine J.y (op_move rfl rfl) rfl rfl rfl ?_
    refine J.e (op_buildSlice (l := [.tmp 23, .tmp 24]) (xs := [[Str (Sha.numB (UInt64.ofNat s.length) 4)], [Str s]]) rfl rfl rfl rfl Tryd.underlying55 el9 rfl (by decide) (by decide) (by simp)) rfl rfl rfl ?_
    intro g25 _
    change J _ _ _ [F, m, m22, blk g25 [Str (Sha.numB (UInt64.ofNat s.length) 4), Str s] 9] _
    refine J.e (op_append (i := 1) (m2 := blk g25 [Str (Sha.numB (UInt64.ofNat s.length) 4), Str s] 9) (ys := strsV [(Sha.numB (UInt64.ofNat s.length) 4), s]) rfl rfl rfl Tryd.underlying55 Tryd.underlying55 el9 rfl hrow (by simp) (row_blk (q := True) (xs := strsV [(Sha.numB (UInt64.ofNat s.length) 4), s]) rfl (by simp [strsV])).sl (by simp [strsV, Value.oneCell']) (by omega) (by omega)) rfl rfl rfl ?_
    rintro ⟨A26, c26, m26⟩ h26
    try dsimp only at h26
    change J _ ((26, .slice A26 (2 * k + 1 + 2) c26) :: _) _ [F, m26, m22, blk g25 [Str (Sha.numB (UInt64.ofNat s.length) 4), Str s] 9] _
    rw [← strsV_app, ← Sha.tagParts_succ tag ls k hs] at h26
    refine J.perm [0, 1] [F, m26] rfl (by decide) ?_
    refine J.y (op_assign rfl rfl) rfl rfl rfl ?_
    refine J.nil ?_
    refine J.blk_n ?_
    refine J.then_n (J.k hK7 ?_)
    refine J.keepE [(5, _), (12, _), (13, _), (14, _)] ⟨rfl, rfl, rfl, rfl, trivial⟩ ?_
    refine J.region ?_
    refine J.y (op_add rfl rfl rfl (by omega)) rfl rfl rfl ?_
    refine J.y (op_move rfl rfl) rfl rfl rfl ?_
    refine J.nil ?_
    refine J.then_n ?_
    refine J.kk (k + 1, A26, c26, m26) (fun x (hx : _ ∧ n - x.1 < n - k) => hI0 x hx.1 hx.2) ⟨⟨by dsimp only; omega, h26⟩, by dsimp only; omega⟩ ⟨rfl, rfl, rfl, rfl, trivial⟩ (fun _ h => h)
  ·
    refine J.exit ?_
    refine J.then_x ?_
    refine J.then_x ?_
    refine J.blk_eq ?_
    refine J.then_n (J.k hK3 ?_)
    refine J.keepE [(5, _)] ⟨rfl, trivial⟩ ?_
    refine J.seq (fun K9 hK9 => ?_)
    have hkn : n = k := by omega
    subst hkn
    refine J.region ?_
    refine J.y (op_move rfl rfl) rfl rfl rfl ?_
    refine J.e (op_call rfl rfl ent108 (Ct.use0 (fun F' hF => sum_ct F' (hK.mono (hF _ (by simp))) A1 (2 * n + 1) c1 (Sha.tagParts tag ls n) (hrow.sl.mono (hF _ (by simp))) (by rw [hfl]; omega) (by omega)))) rfl rfl rfl ?_
    intro g29 _
    change J _ _ _ [F, m] _
    refine J.y (op_sslice (l := 0) (h := 16) Tryd.underlying9 rfl rfl rfl rfl (by rw [Sha.sum_length]; omega)) rfl rfl rfl ?_
    refine J.y (op_assign rfl rfl) rfl rfl rfl ?_
    refine J.nil ?_
    refine J.then_n (J.k hK9 ?_)
    refine J.keepE [(4, _)] ⟨rfl, trivial⟩ ?_
    refine J.ret ?_
    exact J.done hw0 (fun _ _ h => h) (res1 rfl rfl) (retOk () (by rw [hfl]; rfl) trivial [0] rfl (by decide))

end Go.Proofs.YtnkfapecbmmpeaaDoor

namespace Go.Proofs.YtnkfapecbmmpeaaDoor
open Go Go.Fw
set_option maxRecDepth 100000
set_option maxHeartbeats 1000000

namespace Mk
def node (a b : List UInt8) : List UInt8 := Sha.tagged 5 [a, b]
def above (l : List (List UInt8)) : List (List UInt8) := (List.range (l.length / 2)).map fun k => node (l.getD (2 * k) []) (l.getD (2 * k + 1) [])
def lvl (l : List (List UInt8)) : Nat → List (List UInt8)
  | 0 => l
  | j + 1 => above (lvl l j)
def root (l : List (List UInt8)) (h : Nat) : List UInt8 := (lvl l h).getD 0 []
def path (l : List (List UInt8)) (i h : Nat) : List (List UInt8) := (List.range h).map fun j => (lvl l j).getD ((i / 2 ^ j) ^^^ 1) []
def climb : List UInt8 → Nat → List (List UInt8) → List UInt8
  | x, _, [] => x
  | x, i, s :: r => climb (if i % 2 = 0 then node x s else node s x) (i / 2) r
def Right (n : Nat) : Prop := n = 1 ∨ n = 2 ∨ n = 4 ∨ n = 8 ∨ n = 16 ∨ n = 32 ∨ n = 64
instance (n : Nat) : Decidable (Right n) := by unfold Right; infer_instance
theorem right_tab : ∀ n : Fin 65, (1 ≤ n.val ∧ n.val &&& (n.val - 1) = 0) ↔ Right n.val := by decide +kernel
theorem right_of (n : Nat) : (1 ≤ n ∧ n ≤ 64 ∧ n &&& (n - 1) = 0) ↔ Right n := by
  by_cases h : n < 65
  · have := right_tab ⟨n, h⟩
    dsimp only at this
    rw [← this]
    constructor
    · intro ⟨a, _, c⟩; exact ⟨a, c⟩
    · intro ⟨a, c⟩; exact ⟨a, by omega, c⟩
  · constructor
    · intro ⟨_, b, _⟩; omega
    · intro hr; unfold Right at hr; omega
theorem right_pow (h : Nat) (h6 : h ≤ 6) : Right (2 ^ h) := by
  have : ∀ h : Fin 7, Right (2 ^ h.val) := by decide +kernel
  exact this ⟨h, by omega⟩
theorem node_length (a b : List UInt8) : (node a b).length = 16 := Sha.tagged_length _ _
theorem above_length (l : List (List UInt8)) : (above l).length = l.length / 2 := by simp [above]
theorem above_small (l : List (List UInt8)) : ∀ s ∈ above l, s.length = 16 := fun s hs => by
  simp only [above, List.mem_map] at hs
  obtain ⟨k, _, rfl⟩ := hs
  exact node_length _ _
theorem lvl_succ_length (l : List (List UInt8)) (j : Nat) : (lvl l (j + 1)).length = (lvl l j).length / 2 := above_length _
theorem lvl_length (l : List (List UInt8)) (h : Nat) (hl : l.length = 2 ^ h) : ∀ j, j ≤ h → (lvl l j).length = 2 ^ (h - j)
  | 0, _ => hl
  | j + 1, hj => by
    rw [lvl_succ_length, lvl_length l h hl j (by omega), show h - j = (h - (j + 1)) + 1 by omega, Nat.pow_succ]
    omega
theorem lvl_small (l : List (List UInt8)) (hs : ∀ s ∈ l, s.length ≤ 1048576) : ∀ j, ∀ s ∈ lvl l j, s.length ≤ 1048576
  | 0 => hs
  | j + 1 => fun s h => by rw [above_small _ s h]; decide
theorem xor_one (m k : Nat) (h : m < 2 * k) : m ^^^ 1 < 2 * k := by
  have e1 : (m ^^^ 1) / 2 = m / 2 := by rw [Nat.xor_div_two]; simp
  omega
theorem path_succ (l : List (List UInt8)) (i h : Nat) : path l i (h + 1) = path l i h ++ [(lvl l h).getD ((i / 2 ^ h) ^^^ 1) []] := by simp [path, List.range_succ]
theorem path_length (l : List (List UInt8)) (i h : Nat) : (path l i h).length = h := by simp [path]
theorem above_succ (l : List (List UInt8)) (k : Nat) : ((List.range (k + 1)).map fun k => node (l.getD (2 * k) []) (l.getD (2 * k + 1) [])) = ((List.range k).map fun k => node (l.getD (2 * k) []) (l.getD (2 * k + 1) [])) ++ [node (l.getD (2 * k) []) (l.getD (2 * k + 1) [])] := by simp [List.range_succ]
theorem getS {l : List (List UInt8)} {j : Nat} (h : j < l.length) : l[j]? = some (l.getD j []) := by rw [List.getD_eq_getElem?_getD, List.getElem?_eq_getElem h]; rfl
theorem getS_mem {l : List (List UInt8)} {j : Nat} (h : j < l.length) : l.getD j [] ∈ l := List.mem_of_getElem? (getS h)
end Mk

theorem ent138 : Enters Tryd.prog 138 := Enters.of Tryd.func138 rfl (by kernel_rfl)
theorem ent169 : Enters Tryd.prog 169 := Enters.of Tryd.func169 rfl (by kernel_rfl)
theorem ent170 : Enters Tryd.prog 170 := Enters.of Tryd.func170 rfl (by kernel_rfl)
theorem ent127 : Enters Tryd.prog 127 := Enters.of Tryd.func127 rfl (by kernel_rfl)
theorem ent133 : Enters Tryd.prog 133 := Enters.of Tryd.func133 rfl (by kernel_rfl)
theorem ent94 : Enters Tryd.prog 94 := Enters.of Tryd.func94 rfl (by kernel_rfl)
theorem strsV_one (a : List (List UInt8)) : (strsV a).all (fun x => x.all Value.oneCell') = true := by simp [strsV, Value.oneCell']
attribute [local irreducible] Mk.node

theorem node_ct (F : Hp) (hK : Cells F ⟨1, 0, none⟩ (Sha.K.map W32)) (a b : List UInt8) (ha : a.length ≤ 1048576) (hb : b.length ≤ 1048576) :
    Ct Tryd.prog 138 [Str a, Str b] [F] (fun _ : Unit => Str (Mk.node a b)) (fun _ => True) (fun _ => [F]) := by
  refine Ct.walk Tryd.func138 rfl Tryd.ntmps138 rfl (fun w0 hw0 => ?_)
  change J _ [(0, _), (1, _)] _ _ _
  refine J.seq (fun K1 hK1 => ?_)
  refine J.region ?_
  refine J.y (op_assign rfl rfl) rfl rfl rfl ?_
  refine J.nil ?_
  refine J.then_n (J.k hK1 ?_)
  refine J.keepE [(0, _), (1, _)] ⟨rfl, rfl, trivial⟩ ?_
  refine J.seq (fun K2 hK2 => ?_)
  refine J.region ?_
  refine J.y (op_move rfl rfl) rfl rfl rfl ?_
  refine J.y (op_move rfl rfl) rfl rfl rfl ?_
  refine J.e (op_buildSlice (l := [.tmp 5, .tmp 6]) (xs := [[Str a], [Str b]]) rfl rfl rfl rfl Tryd.underlying55 el9 rfl (by decide) (by decide) (by simp)) rfl rfl rfl ?_
  intro g7 _
  change J _ _ _ [F, blk g7 [Str a, Str b] 9] _
  refine J.e (op_call rfl rfl ent58 (Ct.use0 (fun F' hF => tagged_ct F' (hK.mono (hF _ (by simp))) 5 (some ⟨g7, 0, none⟩) 2 2 [a, b] (((row_blk (q := True) (xs := strsV [a, b]) rfl (by simp [strsV])).sl (m := blk g7 [Str a, Str b] 9)).mono (hF _ (by simp))) (by simp; omega) (by decide)))) rfl rfl rfl ?_
  intro g8 _
  refine J.y (op_assign rfl rfl) rfl rfl rfl ?_
  refine J.nil ?_
  refine J.then_n (J.k hK2 ?_)
  refine J.keepE [(4, _)] ⟨rfl, trivial⟩ ?_
  refine J.ret ?_
  exact J.done hw0 (fun _ _ h => h) (res1 rfl rfl) (retOk () (by unfold Mk.node; rfl) trivial [0] rfl (by decide))

theorem right_ct (F : Hp) (n : Nat) (hn : n < 9223372036854775808) : Ct Tryd.prog 169 [I n] [F] (fun _ : Unit => .bool (decide (Mk.Right n))) (fun _ => True) (fun _ => [F]) := by
  have hR := Mk.right_of n
  refine Ct.walk Tryd.func169 rfl Tryd.ntmps169 rfl (fun w0 hw0 => ?_)
  change J _ [(0, _)] _ _ _
  refine J.seq (fun K1 hK1 => ?_)
  refine J.region ?_
  refine J.y (op_assign rfl rfl) rfl rfl rfl ?_
  refine J.nil ?_
  refine J.then_n (J.k hK1 ?_)
  refine J.keepE [(0, _)] ⟨rfl, trivial⟩ ?_
  refine J.seq (fun K2 hK2 => ?_)
  refine J.region ?_
  refine J.y (op_move rfl rfl) rfl rfl rfl ?_
  refine J.y (op_geq rfl rfl rfl) rfl rfl rfl ?_
  refine J.y (op_move rfl rfl) rfl rfl rfl ?_
  refine J.split (d := 5) rfl (fun h5 => ?_) (fun h5 => ?_)
  ·
    refine J.yg (Wan.is rfl rfl rfl rfl rfl) (op_move rfl rfl) rfl rfl ?_
    refine J.yg (Wan.is rfl rfl rfl rfl rfl) (op_leq rfl rfl rfl) rfl rfl ?_
    refine J.y (op_pickT rfl rfl rfl) rfl rfl rfl ?_
    refine J.y (op_move rfl rfl) rfl rfl rfl ?_
    refine J.split (d := 9) rfl (fun h9 => ?_) (fun h9 => ?_)
    ·
      refine J.yg (Wan.is rfl rfl rfl rfl rfl) (op_move rfl rfl) rfl rfl ?_
      refine J.yg (Wan.is rfl rfl rfl rfl rfl) (op_move rfl rfl) rfl rfl ?_
      refine J.yg (Wan.is rfl rfl rfl rfl rfl) ((op_sub rfl rfl rfl (by omega)).as (v' := I ((n - 1 : Nat) : Int)) (congrArg I (by omega))) rfl rfl ?_
      refine J.yg (Wan.is rfl rfl rfl rfl rfl) (op_andI (a := n) (b := n - 1) rfl rfl rfl (by omega)) rfl rfl ?_
      refine J.yg (Wan.is rfl rfl rfl rfl rfl) (op_eql rfl rfl rfl) rfl rfl ?_
      refine J.y (op_pickT rfl rfl rfl) rfl rfl rfl ?_
      refine J.y (op_assign rfl rfl) rfl rfl rfl ?_
      refine J.nil ?_
      refine J.then_n (J.k hK2 ?_)
      refine J.keepE [(2, _)] ⟨rfl, trivial⟩ ?_
      refine J.ret ?_
      exact J.done hw0 (fun _ _ h => h) (res1 rfl rfl) (retOk () (congrArg Value.bool (decide_eq_decide.2 (by rw [← hR]; omega))) trivial [0] rfl (by decide))
    ·
      refine J.no (Wan.is rfl rfl rfl rfl rfl) rfl rfl ?_
      refine J.no (Wan.is rfl rfl rfl rfl rfl) rfl rfl ?_
      refine J.no (Wan.is rfl rfl rfl rfl rfl) rfl rfl ?_
      refine J.no (Wan.is rfl rfl rfl rfl rfl) rfl rfl ?_
      refine J.no (Wan.is rfl rfl rfl rfl rfl) rfl rfl ?_
      refine J.y (op_pickF rfl rfl rfl) rfl rfl rfl ?_
      refine J.y (op_assign rfl rfl) rfl rfl rfl ?_
      refine J.nil ?_
      refine J.then_n (J.k hK2 ?_)
      refine J.keepE [(2, _)] ⟨rfl, trivial⟩ ?_
      refine J.ret ?_
      exact J.done hw0 (fun _ _ h => h) (res1 rfl rfl) (retOk () (congrArg Value.bool (decide_eq_false (by rw [← hR]; omega)).symm) trivial [0] rfl (by decide))
  ·
    refine J.no (Wan.is rfl rfl rfl rfl rfl) rfl rfl ?_
    refine J.no (Wan.is rfl rfl rfl rfl rfl) rfl rfl ?_
    refine J.y (op_pickF rfl rfl rfl) rfl rfl rfl ?_
    refine J.y (op_move rfl rfl) rfl rfl rfl ?_
    refine J.no (Wan.is rfl rfl rfl rfl rfl) rfl rfl ?_
    refine J.no (Wan.is rfl rfl rfl rfl rfl) rfl rfl ?_
    refine J.no (Wan.is rfl rfl rfl rfl rfl) rfl rfl ?_
    refine J.no (Wan.is rfl rfl rfl rfl rfl) rfl rfl ?_
    refine J.no (Wan.is rfl rfl rfl rfl rfl) rfl rfl ?_
    refine J.y (op_pickF rfl rfl rfl) rfl rfl rfl ?_
    refine J.y (op_assign rfl rfl) rfl rfl rfl ?_
    refine J.nil ?_
    refine J.then_n (J.k hK2 ?_)
    refine J.keepE [(2, _)] ⟨rfl, trivial⟩ ?_
    refine J.ret ?_
    exact J.done hw0 (fun _ _ h => h) (res1 rfl rfl) (retOk () (congrArg Value.bool (decide_eq_false (by rw [← hR]; omega)).symm) trivial [0] rfl (by decide))

theorem above_ct (F : Hp) (hK : Cells F ⟨1, 0, none⟩ (Sha.K.map W32)) (A : Option Addr) (n c : Nat) (ls : List (List UInt8)) (hl : Sl F 1 A n c (strsV ls)) (hsm : ∀ s ∈ ls, s.length ≤ 1048576) (hn : n ≤ 1048576) :
    Ct Tryd.prog 170 [.slice A n c] [F] (fun x : Option Addr × Nat × Hp => .slice x.1 (n / 2) x.2.1) (fun x => Row x.2.2 9 1 x.1 (n / 2) x.2.1 (strsV (Mk.above ls))) (fun x => [F, x.2.2]) := by
  have hlen : ls.length = n := by have := hl.1; simpa [strsV] using this
  refine Ct.walk Tryd.func170 rfl Tryd.ntmps170 rfl (fun w0 hw0 => ?_)
  change J _ [(0, _)] _ _ _
  refine J.seq (fun K1 hK1 => ?_)
  refine J.region ?_
  refine J.y (op_assign rfl rfl) rfl rfl rfl ?_
  refine J.nil ?_
  refine J.then_n (J.k hK1 ?_)
  refine J.keepE [(0, _)] ⟨rfl, trivial⟩ ?_
  refine J.seq (fun K2 hK2 => ?_)
  refine J.region ?_
  refine J.y (op_assign rfl rfl) rfl rfl rfl ?_
  refine J.nil ?_
  refine J.then_n (J.k hK2 ?_)
  refine J.keepE [(0, _), (3, _)] ⟨rfl, rfl, trivial⟩ ?_
  refine J.seq (fun K3 hK3 => ?_)
  refine J.seq (fun K4 hK4 => ?_)
  refine J.addEmpty [0, 1] [F, (fun _ => none)] rfl (by decide) ?_
  refine J.region ?_
  refine J.y (op_assign rfl rfl) rfl rfl rfl ?_
  refine J.nil ?_
  refine J.then_n (J.k hK4 ?_)
  refine J.keepE [(0, _), (3, _), (4, _)] ⟨rfl, rfl, rfl, trivial⟩ ?_
  refine J.block ?_
  refine J.loop (X := Nat × Option Addr × Nat × Hp) (fun x => [(0, .slice A n c), (3, .slice x.2.1 x.1 x.2.2.1), (4, I ((2 * x.1 : Nat) : Int))]) (fun x => [F, x.2.2.2]) (fun x => 2 * x.1 ≤ n ∧ Row x.2.2.2 9 1 x.2.1 x.1 x.2.2.1 (strsV ((List.range x.1).map fun k => Mk.node (ls.getD (2 * k) []) (ls.getD (2 * k + 1) [])))) (fun x => n - x.1) (0, none, 0, fun _ => none) (⟨Nat.zero_le _, RowQ.nil⟩) ⟨rfl, rfl, rfl, trivial⟩ (fun _ h => h) ?_
  rintro ⟨k, A1, c1, m⟩ ⟨hk, hrow⟩ I0 hI0
  dsimp only at hk hrow ⊢
  refine J.seq (fun K5 hK5 => ?_)
  refine J.seq (fun K6 hK6 => ?_)
  refine J.region ?_
  refine J.y (op_move rfl rfl) rfl rfl rfl ?_
  refine J.y ((op_add rfl rfl rfl (by omega))) rfl rfl rfl ?_
  refine J.y (op_move rfl rfl) rfl rfl rfl ?_
  refine J.y (op_len Tryd.underlying55 rfl rfl) rfl rfl rfl ?_
  refine J.y (op_lss rfl rfl rfl) rfl rfl rfl ?_
  refine J.nil ?_
  refine J.then_n (J.k hK6 ?_)
  refine J.keepE [(0, _), (3, _), (4, _), (9, _)] ⟨rfl, rfl, rfl, rfl, trivial⟩ ?_
  refine J.ite rfl (fun h9 => ?_) (fun h9 => ?_)
  ·
    refine J.skip ?_
    refine J.then_n (J.k hK5 ?_)
    refine J.keepE [(0, _), (3, _), (4, _)] ⟨rfl, rfl, rfl, trivial⟩ ?_
    refine J.seq (fun K7 hK7 => ?_)
    refine J.block ?_
    refine J.draw [F] [] (.y 0 (.y 1 (.y 2 (.y 3 (.y 4 (.y 5 (.y 6 (.y 7 (.y 8 (.y 9 (.e 10 (.e 11 (.e 12 (.y 13 .nil)))))))))))))) Tryd.wide (by decide +kernel) (by simp) ?_
    refine J.dy rfl (op_move rfl rfl) rfl rfl rfl rfl ?_
    refine J.dy rfl (op_move rfl rfl) rfl rfl rfl rfl ?_
    refine J.dy rfl (op_move rfl rfl) rfl rfl rfl rfl ?_
    refine J.dy rfl (op_indexAddr (i := 2 * k) rfl rfl rfl Tryd.underlying55 Tryd.sizeOf9 hl (by omega)) rfl rfl rfl rfl ?_
    refine J.dy rfl (op_load rfl rfl Tryd.isAgg9 (m := F) (by simp) (hl.elem (strsV_get (Mk.getS (l := ls) (j := 2 * k) (by omega))))) rfl rfl rfl rfl ?_
    refine J.dy rfl (op_move rfl rfl) rfl rfl rfl rfl ?_
    refine J.dy rfl (op_move rfl rfl) rfl rfl rfl rfl ?_
    refine J.dy rfl ((op_add rfl rfl rfl (by omega)).as (v' := I ((2 * k + 1 : Nat) : Int)) (congrArg I (by omega))) rfl rfl rfl rfl ?_
    refine J.dy rfl (op_indexAddr (i := 2 * k + 1) rfl rfl rfl Tryd.underlying55 Tryd.sizeOf9 hl (by omega)) rfl rfl rfl rfl ?_
    refine J.dy rfl (op_load rfl rfl Tryd.isAgg9 (m := F) (by simp) (hl.elem (strsV_get (Mk.getS (l := ls) (j := 2 * k + 1) (by omega))))) rfl rfl rfl rfl ?_
    refine J.de rfl (op_call rfl rfl ent138 (Ct.use0 (fun F' hF => node_ct F' (hK.mono (hF _ (by simp))) (ls.getD (2 * k) []) (ls.getD (2 * k + 1) []) (hsm _ (Mk.getS_mem (by omega))) (hsm _ (Mk.getS_mem (by omega)))))) rfl rfl rfl (by simp) ?_
    intro g22 _
    refine J.de rfl (op_buildSlice (l := [.tmp 22]) (xs := [[Str (Mk.node (ls.getD (2 * k) []) (ls.getD (2 * k + 1) []))]]) rfl rfl rfl rfl Tryd.underlying55 el9 rfl (by decide) (by decide) (by simp)) rfl rfl rfl (by simp) ?_
    intro g23 _
    change J _ _ _ [F, m, blk g23 [Str (Mk.node (ls.getD (2 * k) []) (ls.getD (2 * k + 1) []))] 9] _
    refine J.de rfl (op_append (i := 1) (m2 := blk g23 [Str (Mk.node (ls.getD (2 * k) []) (ls.getD (2 * k + 1) []))] 9) (ys := strsV [Mk.node (ls.getD (2 * k) []) (ls.getD (2 * k + 1) [])]) rfl rfl rfl Tryd.underlying55 Tryd.underlying55 el9 rfl hrow (by simp) (row_blk (q := True) (xs := strsV [Mk.node (ls.getD (2 * k) []) (ls.getD (2 * k + 1) [])]) rfl (by simp [strsV])).sl (strsV_one _) (by omega) (by omega)) rfl rfl rfl (by simp) ?_
    rintro ⟨A24, c24, m24⟩ h24
    try dsimp only at h24
    change J _ ((24, .slice A24 (k + 1) c24) :: _) _ [F, m24, blk g23 [Str (Mk.node (ls.getD (2 * k) []) (ls.getD (2 * k + 1) []))] 9] _
    rw [← strsV_app, ← Mk.above_succ ls k] at h24
    refine J.dy rfl (op_assign rfl rfl) rfl rfl rfl rfl ?_
    refine J.dnil ?_
    refine J.blk_n ?_
    refine J.then_n (J.k hK7 ?_)
    refine J.keepE [(0, _), (3, _), (4, _)] ⟨rfl, rfl, rfl, trivial⟩ ?_
    refine J.perm [0, 1] [F, m24] rfl (by decide) ?_
    refine J.region ?_
    refine J.y (op_move rfl rfl) rfl rfl rfl ?_
    refine J.y ((op_add rfl rfl rfl (by omega)).as (v' := I ((2 * (k + 1) : Nat) : Int)) (congrArg I (by omega))) rfl rfl rfl ?_
    refine J.y (op_assign rfl rfl) rfl rfl rfl ?_
    refine J.nil ?_
    refine J.then_n ?_
    refine J.kk (k + 1, A24, c24, m24) (fun x (hx : _ ∧ n - x.1 < n - k) => hI0 x hx.1 hx.2) ⟨⟨by dsimp only; omega, h24⟩, by dsimp only; omega⟩ ⟨rfl, rfl, rfl, trivial⟩ (fun _ h => h)
  ·
    refine J.exit ?_
    refine J.then_x ?_
    refine J.then_x ?_
    refine J.blk_eq ?_
    refine J.then_n (J.k hK3 ?_)
    refine J.keepE [(3, _)] ⟨rfl, trivial⟩ ?_
    refine J.seq (fun K8 hK8 => ?_)
    refine J.region ?_
    refine J.y (op_move rfl rfl) rfl rfl rfl ?_
    refine J.y (op_assign rfl rfl) rfl rfl rfl ?_
    refine J.nil ?_
    refine J.then_n (J.k hK8 ?_)
    refine J.keepE [(2, _)] ⟨rfl, trivial⟩ ?_
    refine J.ret ?_
    have hk2 : k = n / 2 := by omega
    subst hk2
    exact J.done hw0 (fun _ _ h => h) (res1 rfl rfl) (retOk (A1, c1, m) rfl (by rw [← hlen] at hrow; unfold Mk.above; rw [← hlen]; exact hrow) [0, 1] rfl (by decide))

theorem root_ct (F : Hp) (hK : Cells F ⟨1, 0, none⟩ (Sha.K.map W32)) (A : Option Addr) (n c : Nat) (ls : List (List UInt8)) (hl : Sl F 1 A n c (strsV ls)) (h : Nat) (h6 : h ≤ 6) (hn : n = 2 ^ h) (hsm : ∀ s ∈ ls, s.length ≤ 1048576) :
    Ct Tryd.prog 127 [.slice A n c] [F] (fun _ : Unit => .tuple #[Str (Mk.root ls h), I 0]) (fun _ => True) (fun _ => [F]) := by
  have hlen : ls.length = n := by have := hl.1; simpa [strsV] using this
  have hR : Mk.Right n := by rw [hn]; exact Mk.right_pow h h6
  have hn64 : n ≤ 64 := by unfold Mk.Right at hR; omega
  have hlv : ∀ j, j ≤ h → (Mk.lvl ls j).length = 2 ^ (h - j) := Mk.lvl_length ls h (by omega)
  have hle : ∀ j, 2 ^ (h - j) ≤ 64 := fun j => Nat.le_trans (Nat.pow_le_pow_right (by decide) (show h - j ≤ 6 by omega)) (by decide)
  refine Ct.walk Tryd.func127 rfl Tryd.ntmps127 rfl (fun w0 hw0 => ?_)
  change J _ [(0, _)] _ _ _
  refine J.seq (fun K1 hK1 => ?_)
  refine J.region ?_
  refine J.y (op_assign rfl rfl) rfl rfl rfl ?_
  refine J.y (op_assign rfl rfl) rfl rfl rfl ?_
  refine J.nil ?_
  refine J.then_n (J.k hK1 ?_)
  refine J.keepE [(0, _)] ⟨rfl, trivial⟩ ?_
  refine J.seq (fun K2 hK2 => ?_)
  refine J.seq (fun K3 hK3 => ?_)
  refine J.region ?_
  refine J.y (op_move rfl rfl) rfl rfl rfl ?_
  refine J.y (op_len Tryd.underlying55 rfl rfl) rfl rfl rfl ?_
  refine J.e (op_call rfl rfl ent169 (right_ct F n (by omega))) rfl rfl rfl ?_
  intro g6 _
  refine J.y ((op_notD rfl rfl).as (v' := .bool false) (by simp [hR])) rfl rfl rfl ?_
  refine J.addEmpty [0, 1] [F, (fun _ => none)] rfl (by decide) ?_
  refine J.nil ?_
  refine J.then_n (J.k hK3 ?_)
  refine J.keepE [(0, _), (7, _)] ⟨rfl, rfl, trivial⟩ ?_
  refine J.condF rfl rfl ?_
  refine J.skip ?_
  refine J.then_n (J.k hK2 ?_)
  refine J.keepE [(0, _)] ⟨rfl, trivial⟩ ?_
  refine J.seq (fun K4 hK4 => ?_)
  refine J.block ?_
  refine J.loop (X := Nat × Option Addr × Nat × Hp) (fun x => [(0, .slice x.2.1 (Mk.lvl ls x.1).length x.2.2.1)]) (fun x => [F, x.2.2.2]) (fun x => x.1 ≤ h ∧ ∃ mm ∈ [F, x.2.2.2], Sl mm 1 x.2.1 (Mk.lvl ls x.1).length x.2.2.1 (strsV (Mk.lvl ls x.1))) (fun x => h - x.1) (0, A, c, fun _ => none) (⟨Nat.zero_le _, F, .head _, by rw [show (Mk.lvl ls (0, A, c, (fun _ => none : Hp)).1).length = n from hlen]; exact hl⟩) ⟨by rw [← hlen]; rfl, trivial⟩ (fun _ h => h) ?_
  rintro ⟨j, A1, c1, m⟩ ⟨hj, mm, hmm, hsl⟩ I0 hI0
  dsimp only at hj hmm hsl ⊢
  have hj2 := hlv j hj
  have hj3 := hle j
  have hpos : 0 < (Mk.lvl ls j).length := by rw [hj2]; exact Nat.two_pow_pos _
  have hmm2 : mm = F ∨ mm = m := by simpa using hmm
  refine J.seq (fun K5 hK5 => ?_)
  refine J.seq (fun K6 hK6 => ?_)
  refine J.region ?_
  refine J.y (op_move rfl rfl) rfl rfl rfl ?_
  refine J.y (op_len Tryd.underlying55 rfl rfl) rfl rfl rfl ?_
  refine J.y (op_gtr rfl rfl rfl) rfl rfl rfl ?_
  refine J.nil ?_
  refine J.then_n (J.k hK6 ?_)
  refine J.keepE [(0, _), (10, _)] ⟨rfl, rfl, trivial⟩ ?_
  refine J.ite rfl (fun h10 => ?_) (fun h10 => ?_)
  ·
    refine J.skip ?_
    refine J.then_n (J.k hK5 ?_)
    refine J.keepE [(0, _)] ⟨rfl, trivial⟩ ?_
    refine J.block ?_
    have hjh : j < h := by
      rcases Nat.lt_or_ge j h with hlt | hge
      · exact hlt
      · rw [hj2, show h - j = 0 by omega] at h10; simp at h10
    refine J.region ?_
    refine J.y (op_move rfl rfl) rfl rfl rfl ?_
    refine J.e (op_call rfl rfl ent170 (Ct.use (fun F' hF => above_ct F' (hK.mono (hF _ (by simp))) A1 (Mk.lvl ls j).length c1 (Mk.lvl ls j) (hsl.mono (hF _ (by rcases hmm2 with rfl | rfl <;> simp))) (Mk.lvl_small ls hsm j) (by omega)))) rfl rfl rfl ?_
    rintro ⟨A12, c12, m12⟩ h12
    try dsimp only at h12
    change J _ ((12, .slice A12 ((Mk.lvl ls j).length / 2) c12) :: _) _ [F, m, m12] _
    refine J.perm [0, 2] [F, m12] rfl (by decide) ?_
    refine J.y (op_assign rfl rfl) rfl rfl rfl ?_
    refine J.nil ?_
    refine J.blk_n ?_
    refine J.then_n ?_
    refine J.kk (j + 1, A12, c12, m12) (fun x (hx : _ ∧ h - x.1 < h - j) => hI0 x hx.1 hx.2) ⟨⟨by dsimp only; omega, m12, by simp, by rw [Mk.lvl_succ_length]; exact h12.sl⟩, by dsimp only; omega⟩ ⟨by rw [Mk.lvl_succ_length]; rfl, trivial⟩ (fun _ h => h)
  ·
    refine J.exit ?_
    refine J.then_x ?_
    refine J.then_x ?_
    refine J.blk_eq ?_
    refine J.then_n (J.k hK4 ?_)
    refine J.keepE [(0, _)] ⟨rfl, trivial⟩ ?_
    refine J.seq (fun K7 hK7 => ?_)
    have hjh : j = h := by
      rcases Nat.lt_or_ge j h with hlt | hge
      · have := Nat.one_lt_two_pow_iff.2 (show h - j ≠ 0 by omega)
        omega
      · omega
    refine J.region ?_
    refine J.y (op_move rfl rfl) rfl rfl rfl ?_
    refine J.y (op_indexAddr (m := mm) (i := 0) rfl rfl rfl Tryd.underlying55 Tryd.sizeOf9 hsl hpos) rfl rfl rfl ?_
    refine J.y (op_load rfl rfl Tryd.isAgg9 hmm (hsl.elem (strsV_get (Mk.getS (l := Mk.lvl ls j) (j := 0) hpos)))) rfl rfl rfl ?_
    refine J.y (op_assign rfl rfl) rfl rfl rfl ?_
    refine J.y (op_assign rfl rfl) rfl rfl rfl ?_
    refine J.nil ?_
    refine J.then_n (J.k hK7 ?_)
    refine J.keepE [(2, _), (3, _)] ⟨rfl, rfl, trivial⟩ ?_
    refine J.ret ?_
    exact J.done hw0 (fun _ _ h => h) (res2 rfl rfl rfl) (retOk () (by rw [hjh]; rfl) trivial [0] rfl (by decide))

theorem path_ct (F : Hp) (hK : Cells F ⟨1, 0, none⟩ (Sha.K.map W32)) (A : Option Addr) (n c : Nat) (ls : List (List UInt8)) (hl : Sl F 1 A n c (strsV ls)) (h : Nat) (h6 : h ≤ 6) (hn : n = 2 ^ h) (hsm : ∀ s ∈ ls, s.length ≤ 1048576) (i : Nat) (hi : i < n) :
    Ct Tryd.prog 133 [.slice A n c, I i] [F] (fun x : Option Addr × Nat × Hp => .tuple #[.slice x.1 h x.2.1, I 0]) (fun x => Row x.2.2 9 1 x.1 h x.2.1 (strsV (Mk.path ls i h))) (fun x => [F, x.2.2]) := by
  have hlen : ls.length = n := by have := hl.1; simpa [strsV] using this
  have hR : Mk.Right n := by rw [hn]; exact Mk.right_pow h h6
  have hn64 : n ≤ 64 := by unfold Mk.Right at hR; omega
  have hlv : ∀ j, j ≤ h → (Mk.lvl ls j).length = 2 ^ (h - j) := Mk.lvl_length ls h (by omega)
  have hle : ∀ j, 2 ^ (h - j) ≤ 64 := fun j => Nat.le_trans (Nat.pow_le_pow_right (by decide) (show h - j ≤ 6 by omega)) (by decide)
  refine Ct.walk Tryd.func133 rfl Tryd.ntmps133 rfl (fun w0 hw0 => ?_)
  change J _ [(0, _), (1, _)] _ _ _
  refine J.seq (fun K1 hK1 => ?_)
  refine J.region ?_
  refine J.y (op_assign rfl rfl) rfl rfl rfl ?_
  refine J.y (op_assign rfl rfl) rfl rfl rfl ?_
  refine J.nil ?_
  refine J.then_n (J.k hK1 ?_)
  refine J.keepE [(0, _), (1, _)] ⟨rfl, rfl, trivial⟩ ?_
  refine J.seq (fun K2 hK2 => ?_)
  refine J.block ?_
  refine J.seq (fun K3 hK3 => ?_)
  refine J.region ?_
  refine J.y (op_move rfl rfl) rfl rfl rfl ?_
  refine J.y (op_len Tryd.underlying55 rfl rfl) rfl rfl rfl ?_
  refine J.e (op_call rfl rfl ent169 (right_ct F n (by omega))) rfl rfl rfl ?_
  intro g10 _
  refine J.y ((op_notD rfl rfl).as (v' := .bool false) (by simp [hR])) rfl rfl rfl ?_
  refine J.y (op_assign rfl rfl) rfl rfl rfl ?_
  refine J.nil ?_
  refine J.then_n (J.k hK3 ?_)
  refine J.keepE [(0, _), (1, _), (7, _)] ⟨rfl, rfl, rfl, trivial⟩ ?_
  refine J.condF rfl rfl ?_
  refine J.seq (fun K4 hK4 => ?_)
  refine J.region ?_
  refine J.y (op_move rfl rfl) rfl rfl rfl ?_
  refine J.y ((op_lss rfl rfl rfl).as (v' := .bool false) (congrArg Value.bool (decide_eq_false (by omega)))) rfl rfl rfl ?_
  refine J.y (op_move rfl rfl) rfl rfl rfl ?_
  refine J.yg (Wan.is rfl rfl rfl rfl rfl) (op_move rfl rfl) rfl rfl ?_
  refine J.yg (Wan.is rfl rfl rfl rfl rfl) (op_move rfl rfl) rfl rfl ?_
  refine J.yg (Wan.is rfl rfl rfl rfl rfl) (op_len Tryd.underlying55 rfl rfl) rfl rfl ?_
  refine J.yg (Wan.is rfl rfl rfl rfl rfl) ((op_geq rfl rfl rfl).as (v' := .bool false) (congrArg Value.bool (decide_eq_false (by omega)))) rfl rfl ?_
  refine J.y (op_pickF rfl rfl rfl) rfl rfl rfl ?_
  refine J.y (op_assign rfl rfl) rfl rfl rfl ?_
  refine J.nil ?_
  refine J.then_n (J.k hK4 ?_)
  refine J.keepE [(0, _), (1, _), (12, _)] ⟨rfl, rfl, rfl, trivial⟩ ?_
  refine J.condF rfl rfl ?_
  refine J.skip ?_
  refine J.blk_n ?_
  refine J.then_n (J.k hK2 ?_)
  refine J.keepE [(0, _), (1, _)] ⟨rfl, rfl, trivial⟩ ?_
  refine J.seq (fun K5 hK5 => ?_)
  refine J.addEmpty [0, 1] [F, (fun _ => none)] rfl (by decide) ?_
  refine J.addEmpty [0, 1, 2] [F, (fun _ => none), (fun _ => none)] rfl (by decide) ?_
  refine J.region ?_
  refine J.y (op_assign rfl rfl) rfl rfl rfl ?_
  refine J.nil ?_
  refine J.then_n (J.k hK5 ?_)
  refine J.keepE [(0, _), (1, _), (6, _)] ⟨rfl, rfl, rfl, trivial⟩ ?_
  refine J.seq (fun K6 hK6 => ?_)
  refine J.block ?_
  refine J.loop (X := Nat × Option Addr × Nat × Hp × Option Addr × Nat × Hp) (fun x => [(0, .slice x.2.1 (Mk.lvl ls x.1).length x.2.2.1), (1, I ((i / 2 ^ x.1 : Nat) : Int)), (6, .slice x.2.2.2.2.1 x.1 x.2.2.2.2.2.1)]) (fun x => [F, x.2.2.2.2.2.2, x.2.2.2.1]) (fun x => x.1 ≤ h ∧ (∃ mm ∈ [F, x.2.2.2.1], Sl mm 1 x.2.1 (Mk.lvl ls x.1).length x.2.2.1 (strsV (Mk.lvl ls x.1))) ∧ Row x.2.2.2.2.2.2 9 1 x.2.2.2.2.1 x.1 x.2.2.2.2.2.1 (strsV (Mk.path ls i x.1))) (fun x => h - x.1) (0, A, c, (fun _ => none), none, 0, fun _ => none) (⟨Nat.zero_le _, ⟨F, .head _, by rw [show (Mk.lvl ls (0, A, c, (fun _ => none : Hp)).1).length = n from hlen]; exact hl⟩, RowQ.nil⟩) ⟨by rw [← hlen]; rfl, by rw [Nat.pow_zero, Nat.div_one]; rfl, rfl, trivial⟩ (fun _ h => h) ?_
  rintro ⟨j, A1, c1, m, A2, c2, m2⟩ ⟨hj, ⟨mm, hmm, hsl⟩, hrow⟩ I0 hI0
  dsimp only at hj hmm hsl hrow ⊢
  have hj2 := hlv j hj
  have hj3 := hle j
  have hpos : 0 < (Mk.lvl ls j).length := by rw [hj2]; exact Nat.two_pow_pos _
  have hmm2 : mm = F ∨ mm = m := by simpa using hmm
  have hmF : mm ∈ [F, m2, m] := by rcases hmm2 with rfl | rfl <;> simp
  refine J.seq (fun K7 hK7 => ?_)
  refine J.seq (fun K8 hK8 => ?_)
  refine J.region ?_
  refine J.y (op_move rfl rfl) rfl rfl rfl ?_
  refine J.y (op_len Tryd.underlying55 rfl rfl) rfl rfl rfl ?_
  refine J.y (op_gtr rfl rfl rfl) rfl rfl rfl ?_
  refine J.nil ?_
  refine J.then_n (J.k hK8 ?_)
  refine J.keepE [(0, _), (1, _), (6, _), (23, _)] ⟨rfl, rfl, rfl, rfl, trivial⟩ ?_
  refine J.ite rfl (fun h23 => ?_) (fun h23 => ?_)
  ·
    refine J.skip ?_
    refine J.then_n (J.k hK7 ?_)
    refine J.keepE [(0, _), (1, _), (6, _)] ⟨rfl, rfl, rfl, trivial⟩ ?_
    refine J.seq (fun K9 hK9 => ?_)
    refine J.block ?_
    have hjh : j < h := by
      rcases Nat.lt_or_ge j h with hlt | hge
      · exact hlt
      · rw [hj2, show h - j = 0 by omega] at h23; simp at h23
    have hij : i / 2 ^ j < 2 ^ (h - j) := by
      rw [Nat.div_lt_iff_lt_mul (Nat.two_pow_pos j), ← Nat.pow_add, show h - j + j = h by omega, ← hn]; exact hi
    have hx1 : i / 2 ^ j ^^^ 1 < (Mk.lvl ls j).length := by
      rw [hj2, show h - j = (h - j - 1) + 1 by omega, Nat.pow_succ, Nat.mul_comm]
      refine Mk.xor_one _ _ ?_
      rw [show h - j = (h - j - 1) + 1 by omega, Nat.pow_succ, Nat.mul_comm] at hij; exact hij
    refine J.region ?_
    refine J.y (op_move rfl rfl) rfl rfl rfl ?_
    refine J.y (op_move rfl rfl) rfl rfl rfl ?_
    refine J.y (op_move rfl rfl) rfl rfl rfl ?_
    refine J.y (op_xorI (a := i / 2 ^ j) (b := 1) rfl rfl rfl ⟨Nat.lt_of_le_of_lt (Nat.div_le_self _ _) (show i < 9223372036854775808 by omega), by decide⟩) rfl rfl rfl ?_
    refine J.y (op_indexAddr (m := mm) (i := i / 2 ^ j ^^^ 1) rfl rfl rfl Tryd.underlying55 Tryd.sizeOf9 hsl hx1) rfl rfl rfl ?_
    refine J.y (op_load rfl rfl Tryd.isAgg9 hmF (hsl.elem (strsV_get (Mk.getS (l := Mk.lvl ls j) (j := i / 2 ^ j ^^^ 1) hx1)))) rfl rfl rfl ?_
    refine J.e (op_buildSlice (l := [.tmp 33]) (xs := [[Str ((Mk.lvl ls j).getD ((i / 2 ^ j) ^^^ 1) [])]]) rfl rfl rfl rfl Tryd.underlying55 el9 rfl (by decide) (by decide) (by simp)) rfl rfl rfl ?_
    intro g34 _
    change J _ _ _ [F, m2, m, blk g34 [Str ((Mk.lvl ls j).getD ((i / 2 ^ j) ^^^ 1) [])] 9] _
    refine J.e (op_append (i := 1) (m2 := blk g34 [Str ((Mk.lvl ls j).getD ((i / 2 ^ j) ^^^ 1) [])] 9) (ys := strsV [((Mk.lvl ls j).getD ((i / 2 ^ j) ^^^ 1) [])]) rfl rfl rfl Tryd.underlying55 Tryd.underlying55 el9 rfl hrow (by simp) (row_blk (q := True) (xs := strsV [((Mk.lvl ls j).getD ((i / 2 ^ j) ^^^ 1) [])]) rfl (by simp [strsV])).sl (strsV_one _) (by omega) (by omega)) rfl rfl rfl ?_
    rintro ⟨A35, c35, m35⟩ h35
    try dsimp only at h35
    change J _ ((35, .slice A35 (j + 1) c35) :: _) _ [F, m35, m, blk g34 [Str ((Mk.lvl ls j).getD ((i / 2 ^ j) ^^^ 1) [])] 9] _
    rw [← strsV_app, ← Mk.path_succ] at h35
    refine J.y (op_assign rfl rfl) rfl rfl rfl ?_
    refine J.nil ?_
    refine J.blk_n ?_
    refine J.then_n (J.k hK9 ?_)
    refine J.keepE [(0, _), (1, _), (6, _)] ⟨rfl, rfl, rfl, trivial⟩ ?_
    refine J.region ?_
    refine J.y (op_move rfl rfl) rfl rfl rfl ?_
    refine J.e (op_call rfl rfl ent170 (Ct.use (fun F' hF => above_ct F' (hK.mono (hF _ (by simp))) A1 (Mk.lvl ls j).length c1 (Mk.lvl ls j) (hsl.mono (hF _ (by rcases hmm2 with rfl | rfl <;> simp))) (Mk.lvl_small ls hsm j) (by omega)))) rfl rfl rfl ?_
    rintro ⟨A25, c25, m25⟩ h25
    try dsimp only at h25
    change J _ ((25, .slice A25 ((Mk.lvl ls j).length / 2) c25) :: _) _ [F, m35, m, blk g34 [Str ((Mk.lvl ls j).getD ((i / 2 ^ j) ^^^ 1) [])] 9, m25] _
    refine J.perm [0, 1, 4] [F, m35, m25] rfl (by decide) ?_
    refine J.y (op_move rfl rfl) rfl rfl rfl ?_
    refine J.y ((op_quo rfl rfl rfl ⟨Int.natCast_nonneg _, by decide, Int.ofNat_le.2 (Nat.le_trans (Nat.div_le_self _ _) (show i ≤ 9223372036854775807 by omega))⟩).as (v' := I ((i / 2 ^ (j + 1) : Nat) : Int)) (congrArg I (by rw [Nat.pow_succ, ← Nat.div_div_eq_div_mul]; rfl))) rfl rfl rfl ?_
    refine J.y (op_assign rfl rfl) rfl rfl rfl ?_
    refine J.y (op_assign rfl rfl) rfl rfl rfl ?_
    refine J.nil ?_
    refine J.then_n ?_
    refine J.kk (j + 1, A25, c25, m25, A35, c35, m35) (fun x (hx : _ ∧ h - x.1 < h - j) => hI0 x hx.1 hx.2) ⟨⟨by dsimp only; omega, ⟨m25, by simp, by rw [Mk.lvl_succ_length]; exact h25.sl⟩, h35⟩, by dsimp only; omega⟩ ⟨by rw [Mk.lvl_succ_length]; rfl, rfl, rfl, trivial⟩ (fun _ h => h)
  ·
    refine J.exit ?_
    refine J.then_x ?_
    refine J.then_x ?_
    refine J.blk_eq ?_
    refine J.then_n (J.k hK6 ?_)
    refine J.keepE [(6, _)] ⟨rfl, trivial⟩ ?_
    refine J.seq (fun K10 hK10 => ?_)
    have hjh : j = h := by
      rcases Nat.lt_or_ge j h with hlt | hge
      · have := Nat.one_lt_two_pow_iff.2 (show h - j ≠ 0 by omega)
        omega
      · omega
    refine J.region ?_
    refine J.y (op_move rfl rfl) rfl rfl rfl ?_
    refine J.y (op_assign rfl rfl) rfl rfl rfl ?_
    refine J.y (op_assign rfl rfl) rfl rfl rfl ?_
    refine J.nil ?_
    refine J.then_n (J.k hK10 ?_)
    refine J.keepE [(4, _), (5, _)] ⟨rfl, rfl, trivial⟩ ?_
    refine J.ret ?_
    exact J.done hw0 (fun _ _ h => h) (res2 rfl rfl rfl) (retOk (A2, c2, m2) (by rw [hjh]) (by rw [hjh] at hrow; exact hrow) [0, 1] rfl (by decide))

theorem climb_ct (F : Hp) (hK : Cells F ⟨1, 0, none⟩ (Sha.K.map W32)) (xx : List UInt8) (i : Nat) (A : Option Addr) (n c : Nat) (ls : List (List UInt8)) (hl : Sl F 1 A n c (strsV ls)) (hx : xx.length ≤ 1048576) (hsm : ∀ s ∈ ls, s.length ≤ 1048576) (hi : i < 9223372036854775808) (hn : n ≤ 1048576) :
    Ct Tryd.prog 94 [Str xx, I i, .slice A n c] [F] (fun _ : Unit => Str (Mk.climb xx i ls)) (fun _ => True) (fun _ => [F]) := by
  have hlen : ls.length = n := by have := hl.1; simpa [strsV] using this
  refine Ct.walk Tryd.func94 rfl Tryd.ntmps94 rfl (fun w0 hw0 => ?_)
  change J _ [(0, _), (1, _), (2, _)] _ _ _
  refine J.seq (fun K1 hK1 => ?_)
  refine J.region ?_
  refine J.y (op_assign rfl rfl) rfl rfl rfl ?_
  refine J.nil ?_
  refine J.then_n (J.k hK1 ?_)
  refine J.keepE [(0, _), (1, _), (2, _)] ⟨rfl, rfl, rfl, trivial⟩ ?_
  refine J.seq (fun K2 hK2 => ?_)
  refine J.seq (fun K3 hK3 => ?_)
  refine J.region ?_
  refine J.y (op_move rfl rfl) rfl rfl rfl ?_
  refine J.y (op_len Tryd.underlying55 rfl rfl) rfl rfl rfl ?_
  refine J.y (op_move rfl rfl) rfl rfl rfl ?_
  refine J.nil ?_
  refine J.then_n (J.k hK3 ?_)
  refine J.keepE [(0, _), (1, _), (9, _), (10, _), (11, _)] ⟨rfl, rfl, rfl, rfl, rfl, trivial⟩ ?_
  refine J.block ?_
  refine J.loop (X := Nat × List UInt8 × Nat) (fun x => [(0, Str x.2.1), (1, I x.2.2), (9, .slice A n c), (10, I n), (11, I x.1)]) (fun _ => [F]) (fun x => x.1 ≤ n ∧ x.2.1.length ≤ 1048576 ∧ x.2.2 ≤ i ∧ Mk.climb x.2.1 x.2.2 (ls.drop x.1) = Mk.climb xx i ls) (fun x => n - x.1) (0, xx, i) (⟨Nat.zero_le _, hx, Nat.le_refl _, rfl⟩) ⟨rfl, rfl, rfl, rfl, rfl, trivial⟩ (fun _ h => h) ?_
  rintro ⟨k, y, j⟩ ⟨hk, hy, hji, hc⟩ I0 hI0
  dsimp only at hk hy hji hc ⊢
  refine J.seq (fun K4 hK4 => ?_)
  refine J.region ?_
  refine J.y (op_lss rfl rfl rfl) rfl rfl rfl ?_
  refine J.nil ?_
  refine J.then_n (J.k hK4 ?_)
  refine J.keepE [(0, _), (1, _), (9, _), (10, _), (11, _), (12, _)] ⟨rfl, rfl, rfl, rfl, rfl, rfl, trivial⟩ ?_
  refine J.seq (fun K5 hK5 => ?_)
  refine J.ite rfl (fun h12 => ?_) (fun h12 => ?_)
  ·
    refine J.skip ?_
    refine J.then_n (J.k hK5 ?_)
    refine J.keepE [(0, _), (1, _), (9, _), (10, _), (11, _)] ⟨rfl, rfl, rfl, rfl, rfl, trivial⟩ ?_
    refine J.seq (fun K6 hK6 => ?_)
    refine J.block ?_
    refine J.seq (fun K7 hK7 => ?_)
    have hkn : k < n := by omega
    obtain ⟨s, hs⟩ : ∃ s, ls[k]? = some s := ⟨_, List.getElem?_eq_getElem (by omega)⟩
    have hdr : ls.drop k = s :: ls.drop (k + 1) := by
      obtain ⟨hk2, rfl⟩ := List.getElem?_eq_some_iff.1 hs
      exact List.drop_eq_getElem_cons hk2
    rw [hdr, Mk.climb] at hc
    refine J.region ?_
    refine J.y (op_indexAddr (i := k) rfl rfl rfl Tryd.underlying55 Tryd.sizeOf9 hl (by omega)) rfl rfl rfl ?_
    refine J.y (op_load rfl rfl Tryd.isAgg9 (m := F) (by simp) (hl.elem (strsV_get hs))) rfl rfl rfl ?_
    refine J.y (op_assign rfl rfl) rfl rfl rfl ?_
    refine J.nil ?_
    refine J.then_n (J.k hK7 ?_)
    refine J.keepE [(0, _), (1, _), (8, _), (9, _), (10, _), (11, _)] ⟨rfl, rfl, rfl, rfl, rfl, rfl, trivial⟩ ?_
    refine J.seq (fun K8 hK8 => ?_)
    refine J.seq (fun K9 hK9 => ?_)
    refine J.region ?_
    refine J.y (op_move rfl rfl) rfl rfl rfl ?_
    refine J.y (op_andI (a := j) (b := 1) rfl rfl rfl (by omega)) rfl rfl rfl ?_
    refine J.y (op_eql rfl rfl rfl) rfl rfl rfl ?_
    refine J.nil ?_
    refine J.then_n (J.k hK9 ?_)
    refine J.keepE [(0, _), (1, _), (8, _), (9, _), (10, _), (11, _), (17, _)] ⟨rfl, rfl, rfl, rfl, rfl, rfl, rfl, trivial⟩ ?_
    refine J.ite rfl (fun h17 => ?_) (fun h17 => ?_)
    ·
      refine J.region ?_
      refine J.y (op_move rfl rfl) rfl rfl rfl ?_
      refine J.y (op_move rfl rfl) rfl rfl rfl ?_
      refine J.e (op_call rfl rfl ent138 (Ct.use0 (fun F' hF => node_ct F' (hK.mono (hF _ (by simp))) y s hy (hsm _ (List.mem_of_getElem? hs))))) rfl rfl rfl ?_
      intro g20 _
      refine J.y (op_assign rfl rfl) rfl rfl rfl ?_
      refine J.nil ?_
      refine J.then_n (J.k hK8 ?_)
      refine J.keepE [(0, _), (1, _), (9, _), (10, _), (11, _)] ⟨rfl, rfl, rfl, rfl, rfl, trivial⟩ ?_
      refine J.region ?_
      refine J.y (op_move rfl rfl) rfl rfl rfl ?_
      refine J.y ((op_shrI (m := 1) rfl rfl rfl (by omega)).as (v' := I ((j / 2 : Nat) : Int)) (congrArg I (by omega))) rfl rfl rfl ?_
      refine J.y (op_assign rfl rfl) rfl rfl rfl ?_
      refine J.nil ?_
      refine J.blk_n ?_
      refine J.then_n (J.k hK6 ?_)
      refine J.keepE [(0, _), (1, _), (9, _), (10, _), (11, _)] ⟨rfl, rfl, rfl, rfl, rfl, trivial⟩ ?_
      refine J.region ?_
      refine J.y (op_add rfl rfl rfl (by omega)) rfl rfl rfl ?_
      refine J.y (op_move rfl rfl) rfl rfl rfl ?_
      refine J.nil ?_
      refine J.then_n ?_
      rw [if_pos (by rw [Nat.and_one_is_mod] at h17; omega)] at hc
      refine J.kk (k + 1, Mk.node y s, j / 2) (fun x (hx : _ ∧ n - x.1 < n - k) => hI0 x hx.1 hx.2) ⟨⟨by dsimp only; omega, by dsimp only; rw [Mk.node_length]; decide, by dsimp only; omega, hc⟩, by dsimp only; omega⟩ ⟨rfl, rfl, rfl, rfl, rfl, trivial⟩ (fun _ h => h)
    ·
      refine J.region ?_
      refine J.y (op_move rfl rfl) rfl rfl rfl ?_
      refine J.y (op_move rfl rfl) rfl rfl rfl ?_
      refine J.e (op_call rfl rfl ent138 (Ct.use0 (fun F' hF => node_ct F' (hK.mono (hF _ (by simp))) s y (hsm _ (List.mem_of_getElem? hs)) hy))) rfl rfl rfl ?_
      intro g23 _
      refine J.y (op_assign rfl rfl) rfl rfl rfl ?_
      refine J.nil ?_
      refine J.then_n (J.k hK8 ?_)
      refine J.keepE [(0, _), (1, _), (9, _), (10, _), (11, _)] ⟨rfl, rfl, rfl, rfl, rfl, trivial⟩ ?_
      refine J.region ?_
      refine J.y (op_move rfl rfl) rfl rfl rfl ?_
      refine J.y ((op_shrI (m := 1) rfl rfl rfl (by omega)).as (v' := I ((j / 2 : Nat) : Int)) (congrArg I (by omega))) rfl rfl rfl ?_
      refine J.y (op_assign rfl rfl) rfl rfl rfl ?_
      refine J.nil ?_
      refine J.blk_n ?_
      refine J.then_n (J.k hK6 ?_)
      refine J.keepE [(0, _), (1, _), (9, _), (10, _), (11, _)] ⟨rfl, rfl, rfl, rfl, rfl, trivial⟩ ?_
      refine J.region ?_
      refine J.y (op_add rfl rfl rfl (by omega)) rfl rfl rfl ?_
      refine J.y (op_move rfl rfl) rfl rfl rfl ?_
      refine J.nil ?_
      refine J.then_n ?_
      rw [if_neg (by rw [Nat.and_one_is_mod] at h17; omega)] at hc
      refine J.kk (k + 1, Mk.node s y, j / 2) (fun x (hx : _ ∧ n - x.1 < n - k) => hI0 x hx.1 hx.2) ⟨⟨by dsimp only; omega, by dsimp only; rw [Mk.node_length]; decide, by dsimp only; omega, hc⟩, by dsimp only; omega⟩ ⟨rfl, rfl, rfl, rfl, rfl, trivial⟩ (fun _ h => h)
  ·
    refine J.exit ?_
    refine J.then_x ?_
    refine J.then_x ?_
    refine J.blk_eq ?_
    refine J.then_n (J.k hK2 ?_)
    refine J.keepE [(0, _)] ⟨rfl, trivial⟩ ?_
    refine J.seq (fun K10 hK10 => ?_)
    rw [List.drop_of_length_le (by omega)] at hc
    refine J.region ?_
    refine J.y (op_move rfl rfl) rfl rfl rfl ?_
    refine J.y (op_assign rfl rfl) rfl rfl rfl ?_
    refine J.nil ?_
    refine J.then_n (J.k hK10 ?_)
    refine J.keepE [(6, _)] ⟨rfl, trivial⟩ ?_
    refine J.ret ?_
    exact J.done hw0 (fun _ _ h => h) (res1 rfl rfl) (retOk () (by rw [← hc]; rfl) trivial [0] rfl (by decide))

end Go.Proofs.YtnkfapecbmmpeaaDoor

namespace Go.Proofs.YtnkfapecbmmpeaaDoor
open Go Go.Fw
set_option maxRecDepth 100000
set_option maxHeartbeats 1000000

attribute [local irreducible] Mk.node
namespace Mk
theorem xor_val (m : Nat) : m ^^^ 1 = if m % 2 = 0 then m + 1 else m - 1 := by
  have e1 : (m ^^^ 1) / 2 = m / 2 := by rw [Nat.xor_div_two]; simp
  have e2 : (m ^^^ 1) % 2 = (m % 2) ^^^ 1 := Nat.xor_mod_two_pow (n := 1)
  rcases Nat.mod_two_eq_zero_or_one m with h | h
  · rw [h, show (0 : Nat) ^^^ 1 = 1 from rfl] at e2; rw [if_pos h]; omega
  · rw [h, show (1 : Nat) ^^^ 1 = 0 from rfl] at e2; rw [if_neg (by omega)]; omega
theorem above_get (l : List (List UInt8)) (k : Nat) : (above l)[k]? = if k < l.length / 2 then some (node (l.getD (2 * k) []) (l.getD (2 * k + 1) [])) else none := by
  unfold above
  rw [List.getElem?_map]
  by_cases h : k < l.length / 2
  · rw [if_pos h, List.getElem?_range h]; rfl
  · rw [if_neg h, List.getElem?_eq_none (by simpa using Nat.le_of_not_lt h)]; rfl
theorem getD_left {a b : List (List UInt8)} {k : Nat} (h : k < a.length) : (a ++ b).getD k [] = a.getD k [] := by
  rw [List.getD_eq_getElem?_getD, List.getElem?_append_left h, ← List.getD_eq_getElem?_getD]
theorem getD_right {a b : List (List UInt8)} {k : Nat} (h : a.length ≤ k) : (a ++ b).getD k [] = b.getD (k - a.length) [] := by
  rw [List.getD_eq_getElem?_getD, List.getElem?_append_right h, ← List.getD_eq_getElem?_getD]
theorem above_app (a b : List (List UInt8)) (h : a.length % 2 = 0) : above (a ++ b) = above a ++ above b := by
  apply List.ext_getElem?
  intro k
  rw [above_get, List.length_append]
  by_cases hk : k < (above a).length
  · rw [List.getElem?_append_left hk, above_get]
    rw [above_length] at hk
    rw [if_pos (by omega), if_pos hk, getD_left (by omega), getD_left (by omega)]
  · rw [List.getElem?_append_right (by omega), above_get]
    rw [above_length] at hk ⊢
    by_cases h2 : k - a.length / 2 < b.length / 2
    · rw [if_pos (by omega), if_pos h2, getD_right (by omega), getD_right (by omega), show 2 * k - a.length = 2 * (k - a.length / 2) by omega, show 2 * k + 1 - a.length = 2 * (k - a.length / 2) + 1 by omega]
    · rw [if_neg (by omega), if_neg h2]
theorem two_pow_even {k : Nat} (h : 0 < k) : 2 ^ k % 2 = 0 := by
  rw [show k = (k - 1) + 1 by omega, Nat.pow_succ]; omega
theorem lvl_app (X Y : List (List UInt8)) (H : Nat) (hX : X.length = 2 ^ H) : ∀ j, j ≤ H → lvl (X ++ Y) j = lvl X j ++ lvl Y j
  | 0, _ => rfl
  | j + 1, hj => by
    have hl := lvl_length X H hX j (by omega)
    show above (lvl (X ++ Y) j) = above (lvl X j) ++ above (lvl Y j)
    rw [lvl_app X Y H hX j (by omega), above_app _ _ (by rw [hl]; exact two_pow_even (by omega))]
def tx (ls : List (List UInt8)) (k : Nat) : List UInt8 := [UInt8.ofNat k] ++ (ls.getD k []).take 20
def txs (ls : List (List UInt8)) (k : Nat) : List (List UInt8) := (List.range k).map (tx ls)
theorem take_min (s : List UInt8) (k : Nat) : (s.take (min s.length k)).drop 0 = s.take k := by
  rw [List.drop_zero]
  by_cases h : s.length ≤ k
  · rw [List.take_of_length_le (by omega), List.take_of_length_le h]
  · rw [Nat.min_eq_right (by omega)]
end Mk
attribute [local irreducible] Mk.root Mk.path Mk.tx Mk.txs

end Go.Proofs.YtnkfapecbmmpeaaDoor

namespace Go.Proofs.YtnkfapecbmmpeaaDoor
open Go Go.Fw
set_option maxRecDepth 100000
set_option maxHeartbeats 1000000
abbrev NW (x : UInt32) : Value := N64 x.toNat
def numsV (l : List Nat) : List (List Value) := l.map fun x => [N64 x]
section
variable {P : Program} {env : Env} {rs : List Hp} {o : Oper} {t t' : TypeId} {x y : Operand} {a b : UInt32}
end
abbrev nws (l : List UInt32) : List Nat := l.map UInt32.toNat
attribute [local irreducible] Sha.rnds Sha.sched Sha.mix Sha.rotr R3.roots Sha.exts

end Go.Proofs.YtnkfapecbmmpeaaDoor
