/- A part of the proof: contracts of functions of the program, each for every state of the heaps that it names. -/
import Derived.Test.YtpcffgkmpmcobaaDoorSmt9
import Derived.Test.YtpcffgkmpmcobaaDoorFwX
set_option linter.unusedSimpArgs false
set_option linter.unusedVariables false
namespace Go.Proofs.YtpcffgkmpmcobaaDoor
open Go Go.Fw
set_option maxRecDepth 100000
set_option maxHeartbeats 1000000
theorem ent66 : Enters Tryd.prog 66 := Enters.of Tryd.func66 rfl (by kernel_rfl)
theorem ent114 : Enters Tryd.prog 114 := Enters.of Tryd.func114 rfl (by kernel_rfl)
theorem ent151 : Enters Tryd.prog 151 := Enters.of Tryd.func151 rfl (by kernel_rfl)
attribute [local irreducible] Sha.tagged Sb.join Sb.lvl Sb.lvls Sb.root

theorem chunk_ct (F : Hp) (A : Option Addr) (n c : Nat) : Ct Tryd.prog 114 [.slice A n c, I 2] [F] (fun x : Nat × Nat => .func (.func 151) #[] #[Ptr x.1, Ptr x.2]) (fun _ => True) (fun x => [F, blk x.1 [.slice A n c] 36, blk x.2 [I 2] 3]) := by
  refine Ct.walk Tryd.func114 rfl Tryd.ntmps114 rfl (fun w0 hw0 => ?_)
  change J _ [(0, _), (1, _)] _ _ _
  refine J.seq (fun K1 hK1 => ?_)
  refine J.region ?_
  refine J.e (op_box rfl rfl (l := [.slice A n c]) rfl) rfl rfl rfl ?_
  intro g2 _
  change J _ _ _ [F, blk g2 [.slice A n c] 36] _
  refine J.e (op_box rfl rfl (l := [I 2]) rfl) rfl rfl rfl ?_
  intro g3 _
  change J _ _ _ [F, blk g2 [.slice A n c] 36, blk g3 [I 2] 3] _
  refine J.y (op_assign rfl rfl) rfl rfl rfl ?_
  refine J.nil ?_
  refine J.then_n (J.k hK1 ?_)
  refine J.keepE [(2, _), (3, _)] ⟨rfl, rfl, trivial⟩ ?_
  refine J.seq (fun K2 hK2 => ?_)
  refine J.seq (fun K3 hK3 => ?_)
  refine J.region ?_
  refine J.y (op_loadB 2 rfl rfl rfl Tryd.isAgg3 rfl) rfl rfl rfl ?_
  refine J.y ((op_lss rfl rfl rfl).as (v' := .bool false) (congrArg Value.bool (decide_eq_false (by omega)))) rfl rfl rfl ?_
  refine J.nil ?_
  refine J.then_n (J.k hK3 ?_)
  refine J.keepE [(2, _), (3, _), (6, _)] ⟨rfl, rfl, rfl, trivial⟩ ?_
  refine J.condF rfl rfl ?_
  refine J.skip ?_
  refine J.then_n (J.k hK2 ?_)
  refine J.keepE [(2, _), (3, _)] ⟨rfl, rfl, trivial⟩ ?_
  refine J.seq (fun K4 hK4 => ?_)
  refine J.region ?_
  refine J.y (op_makeFunc rfl rfl) rfl rfl rfl ?_
  refine J.y (op_assign rfl rfl) rfl rfl rfl ?_
  refine J.nil ?_
  refine J.then_n (J.k hK4 ?_)
  refine J.keepE [(4, _)] ⟨rfl, trivial⟩ ?_
  refine J.ret ?_
  exact J.done hw0 (fun _ _ h => h) (res1 rfl rfl) (retOk (g2, g3) rfl trivial [0, 1, 2] rfl (by decide))

theorem chunk_seq (Fr : Hp) (gA gB : Nat) (A : Option Addr) (N n c : Nat) (hn : n = 2 * N) (hnc : n ≤ c) (hn2 : n ≤ 1073741824) (ha : Cells Fr ⟨gA, 0, none⟩ [.slice A n c]) (hb : Cells Fr ⟨gB, 0, none⟩ [I 2]) :
    SeqCt Tryd.prog 151 [Ptr gA, Ptr gB] Fr (fun i => [.slice (A.map (·.add (2 * i * 1))) 2 2]) N := by
  refine SeqCt.walk Tryd.func151 rfl Tryd.ntmps151 rfl (fun {X} M IY S l x0 w0 hw0 h0 hY => ?_)
  change J _ [(0, _), (1, _), (2, _)] _ _ _
  refine J.seq (fun K1 hK1 => ?_)
  refine J.region ?_
  refine J.y (op_assign rfl rfl) rfl rfl rfl ?_
  refine J.nil ?_
  refine J.then_n (J.k hK1 ?_)
  refine J.keepE [(0, _), (1, _), (2, _), (4, _)] ⟨rfl, rfl, rfl, rfl, trivial⟩ ?_
  refine J.block ?_
  refine J.loop (X := Nat × X) (fun y => [(0, .func (.yield l) #[] #[]), (1, Ptr gA), (2, Ptr gB), (4, I ((2 * y.1 : Nat) : Int))]) (fun y => [Fr, M y.2]) (fun y => y.1 ≤ N ∧ IY y.1 y.2) (fun y => N - y.1) (0, x0) (⟨Nat.zero_le _, h0⟩) ⟨rfl, rfl, rfl, rfl, trivial⟩ (fun _ h => h) ?_
  rintro ⟨i, x⟩ ⟨hi, hI⟩ I0 hI0
  dsimp only at hi hI ⊢
  refine J.seq (fun K2 hK2 => ?_)
  refine J.seq (fun K3 hK3 => ?_)
  refine J.region ?_
  refine J.y (op_move rfl rfl) rfl rfl rfl ?_
  refine J.y (op_load rfl rfl Tryd.isAgg36 (m := Fr) (by simp) (ha)) rfl rfl rfl ?_
  refine J.y (op_len Tryd.underlying36 rfl rfl) rfl rfl rfl ?_
  refine J.y (op_lss rfl rfl rfl) rfl rfl rfl ?_
  refine J.nil ?_
  refine J.then_n (J.k hK3 ?_)
  refine J.keepE [(0, _), (1, _), (2, _), (4, _), (9, _)] ⟨rfl, rfl, rfl, rfl, rfl, trivial⟩ ?_
  refine J.ite rfl (fun h9 => ?_) (fun h9 => ?_)
  ·
    refine J.skip ?_
    refine J.then_n (J.k hK2 ?_)
    refine J.keepE [(0, _), (1, _), (2, _), (4, _)] ⟨rfl, rfl, rfl, rfl, trivial⟩ ?_
    refine J.seq (fun K4 hK4 => ?_)
    refine J.block ?_
    refine J.seq (fun K5 hK5 => ?_)
    refine J.draw [Fr, M x] [] (.y 0 (.y 1 (.y 2 (.y 3 (.y 4 (.y 5 (.y 6 .nil))))))) Tryd.wide (by decide +kernel) (by simp) ?_
    refine J.dy rfl (op_load rfl rfl Tryd.isAgg3 (m := Fr) (by simp) (hb)) rfl rfl rfl rfl ?_
    refine J.dy rfl (op_load rfl rfl Tryd.isAgg36 (m := Fr) (by simp) (ha)) rfl rfl rfl rfl ?_
    refine J.dy rfl (op_move rfl rfl) rfl rfl rfl rfl ?_
    refine J.dy rfl (op_slice (l := 2 * i) (h := n) rfl rfl Tryd.underlying36 Tryd.sizeOf9 rfl rfl (by omega)) rfl rfl rfl rfl ?_
    refine J.dy rfl (op_len Tryd.underlying36 rfl rfl) rfl rfl rfl rfl ?_
    refine J.dy rfl ((op_min rfl rfl rfl).as (v' := I ((2 : Nat) : Int)) (congrArg I (by omega))) rfl rfl rfl rfl ?_
    refine J.dy rfl (op_assign rfl rfl) rfl rfl rfl rfl ?_
    refine J.dnil ?_
    refine J.then_n (J.k hK5 ?_)
    refine J.keepE [(0, _), (1, _), (2, _), (4, _), (5, _)] ⟨rfl, rfl, rfl, rfl, rfl, trivial⟩ ?_
    refine J.seq (fun K6 hK6 => ?_)
    refine J.regionI ?_
    refine J.yI (op_move rfl rfl) rfl rfl rfl ?_
    refine J.yI (op_load rfl rfl Tryd.isAgg36 (m := Fr) (by simp) (ha)) rfl rfl rfl ?_
    refine J.yI (op_move rfl rfl) rfl rfl rfl ?_
    refine J.yI (op_move rfl rfl) rfl rfl rfl ?_
    refine J.yI (op_move rfl rfl) rfl rfl rfl ?_
    refine J.yI ((op_add rfl rfl rfl (by first | omega | (refine ⟨?_, ?_⟩ <;> omega))).as (v' := I ((2 * i + 2 : Nat) : Int)) (congrArg I (by omega))) rfl rfl rfl ?_
    refine J.yI (op_move rfl rfl) rfl rfl rfl ?_
    refine J.yI (op_move rfl rfl) rfl rfl rfl ?_
    refine J.yI ((op_add rfl rfl rfl (by first | omega | (refine ⟨?_, ?_⟩ <;> omega))).as (v' := I ((2 * i + 2 : Nat) : Int)) (congrArg I (by omega))) rfl rfl rfl ?_
    refine J.yI ((op_slice3L (l := 2 * i) (h := 2 * i + 2) (m := 2 * i + 2) rfl rfl Tryd.underlying36 Tryd.sizeOf9 rfl rfl rfl (by omega)).as (v' := .slice (A.map (·.add (2 * i * 1))) 2 2) (by rw [if_neg (by omega), show 2 * i + 2 - 2 * i = 2 by omega])) rfl rfl rfl ?_
    refine J.yieldI (ex := []) rfl rfl rfl rfl rfl rfl (hY i x (by omega) hI) ?_
    rintro x' b hb1 hb2
    cases b
    ·
      have hyb := hb2 rfl
      change J _ _ _ [Fr, M x'] _
      refine J.yI (op_not rfl rfl) rfl rfl rfl ?_
      refine J.nilI ?_
      refine J.then_n (J.k hK6 ?_)
      refine J.keepE [(0, _), (1, _), (2, _), (4, _), (30, _)] ⟨rfl, rfl, rfl, rfl, rfl, trivial⟩ ?_
      refine J.condT rfl rfl ?_
      refine J.ret ?_
      refine J.blk_r ?_
      refine J.then_r ?_
      refine J.then_r ?_
      refine J.blk_r ?_
      exact J.done hw0 (fun _ _ h => h) (res0 rfl) (fun w hs => ⟨x', ⟨_, rfl⟩, .inr hyb, hs⟩)
    ·
      have hyb := hb1 rfl
      change J _ _ _ [Fr, M x'] _
      refine J.yI (op_not rfl rfl) rfl rfl rfl ?_
      refine J.nilI ?_
      refine J.then_n (J.k hK6 ?_)
      refine J.keepE [(0, _), (1, _), (2, _), (4, _), (30, _)] ⟨rfl, rfl, rfl, rfl, rfl, trivial⟩ ?_
      refine J.condF rfl rfl ?_
      refine J.skip ?_
      refine J.blk_n ?_
      refine J.then_n (J.k hK4 ?_)
      refine J.keepE [(0, _), (1, _), (2, _), (4, _)] ⟨rfl, rfl, rfl, rfl, trivial⟩ ?_
      refine J.region ?_
      refine J.y (op_move rfl rfl) rfl rfl rfl ?_
      refine J.y (op_load rfl rfl Tryd.isAgg3 (m := Fr) (by simp) (hb)) rfl rfl rfl ?_
      refine J.y ((op_add rfl rfl rfl (by first | omega | (refine ⟨?_, ?_⟩ <;> omega))).as (v' := I ((2 * (i + 1) : Nat) : Int)) (congrArg I (by omega))) rfl rfl rfl ?_
      refine J.y (op_assign rfl rfl) rfl rfl rfl ?_
      refine J.nil ?_
      refine J.then_n ?_
      exact J.kk (i + 1, x') (fun y (hy : _ ∧ N - y.1 < N - i) => hI0 y hy.1 hy.2) ⟨⟨by dsimp only; omega, hyb⟩, by dsimp only; omega⟩ ⟨rfl, rfl, rfl, rfl, trivial⟩ (fun _ h => h)
  ·
    refine J.exit ?_
    refine J.then_x ?_
    refine J.then_x ?_
    refine J.blk_eq ?_
    exact J.fin hw0 (fun _ _ h => h) (res0 rfl) (fun w hs => ⟨x, ⟨_, rfl⟩, .inl (by rw [show N = i by omega]; exact hI), hs⟩)

theorem bcount_ct (F : Hp) (d : Int) : Ct Tryd.prog 66 [I d] [F] (fun _ : Unit => I (cnt d)) (fun _ => True) (fun _ => [F]) := by
  refine Ct.walk Tryd.func66 rfl Tryd.ntmps66 rfl (fun w0 hw0 => ?_)
  change J _ [(0, _)] _ _ _
  refine J.seq (fun K1 hK1 => ?_)
  refine J.region ?_
  refine J.y (op_assign rfl rfl) rfl rfl rfl ?_
  refine J.nil ?_
  refine J.then_n (J.k hK1 ?_)
  refine J.keepE [(0, _)] ⟨rfl, trivial⟩ ?_
  refine J.seq (fun K2 hK2 => ?_)
  refine J.seq (fun K3 hK3 => ?_)
  refine J.region ?_
  refine J.y (op_move rfl rfl) rfl rfl rfl ?_
  refine J.y (op_lss rfl rfl rfl) rfl rfl rfl ?_
  refine J.y (op_move rfl rfl) rfl rfl rfl ?_
  refine J.split (d := 5) rfl (fun h5 => ?_) (fun h5 => ?_)
  ·
    refine J.no (Wan.is rfl rfl rfl rfl rfl) rfl rfl ?_
    refine J.no (Wan.is rfl rfl rfl rfl rfl) rfl rfl ?_
    refine J.y (op_pickT rfl rfl rfl) rfl rfl rfl ?_
    refine J.nil ?_
    refine J.then_n (J.k hK3 ?_)
    refine J.keepE [(0, _), (8, _)] ⟨rfl, rfl, trivial⟩ ?_
    refine J.condT rfl rfl ?_
    refine J.seq (fun K4 hK4 => ?_)
    refine J.region ?_
    refine J.y (op_assign rfl rfl) rfl rfl rfl ?_
    refine J.nil ?_
    refine J.then_n (J.k hK4 ?_)
    refine J.keepE [(2, _)] ⟨rfl, trivial⟩ ?_
    refine J.ret ?_
    refine J.then_r ?_
    exact J.done hw0 (fun _ _ h => h) (res1 rfl rfl) (retOk () (by rw [cnt_zero.2 (by omega)]; rfl) trivial [0] rfl (by decide))
  ·
    refine J.yg (Wan.is rfl rfl rfl rfl rfl) (op_move rfl rfl) rfl rfl ?_
    refine J.yg (Wan.is rfl rfl rfl rfl rfl) (op_gtr rfl rfl rfl) rfl rfl ?_
    refine J.y (op_pickF rfl rfl rfl) rfl rfl rfl ?_
    refine J.nil ?_
    refine J.then_n (J.k hK3 ?_)
    refine J.keepE [(0, _), (8, _)] ⟨rfl, rfl, trivial⟩ ?_
    refine J.ite rfl (fun h8 => ?_) (fun h8 => ?_)
    ·
      refine J.seq (fun K5 hK5 => ?_)
      refine J.region ?_
      refine J.y (op_assign rfl rfl) rfl rfl rfl ?_
      refine J.nil ?_
      refine J.then_n (J.k hK5 ?_)
      refine J.keepE [(2, _)] ⟨rfl, trivial⟩ ?_
      refine J.ret ?_
      refine J.then_r ?_
      exact J.done hw0 (fun _ _ h => h) (res1 rfl rfl) (retOk () (by rw [cnt_zero.2 (by omega)]; rfl) trivial [0] rfl (by decide))
    ·
      refine J.skip ?_
      refine J.then_n (J.k hK2 ?_)
      refine J.keepE [(0, _)] ⟨rfl, trivial⟩ ?_
      refine J.seq (fun K6 hK6 => ?_)
      refine J.region ?_
      refine J.y (op_move rfl rfl) rfl rfl rfl ?_
      refine J.y ((op_shlI (a := 1) (m := d.toNat) rfl rfl (by show some (I d) = _; rw [show ((d.toNat : Nat) : Int) = d by omega]) ⟨by omega, by have := Int.pow_pos (n := 2) (m := d.toNat) (by decide); omega, by rw [Int.one_mul]; have h1 := Nat.pow_le_pow_right (n := 2) (by decide) (show d.toNat ≤ 4 by omega); have h2 : ((2 ^ d.toNat : Nat) : Int) ≤ ((2 ^ 4 : Nat) : Int) := Int.ofNat_le.2 h1; simp only [Int.natCast_pow] at h2; exact Int.le_trans h2 (by decide)⟩).as (v' := I (cnt d)) (congrArg I (by unfold cnt; rw [if_neg (by omega)]; simp))) rfl rfl rfl ?_
      refine J.y (op_assign rfl rfl) rfl rfl rfl ?_
      refine J.nil ?_
      refine J.then_n (J.k hK6 ?_)
      refine J.keepE [(2, _)] ⟨rfl, trivial⟩ ?_
      refine J.ret ?_
      exact J.done hw0 (fun _ _ h => h) (res1 rfl rfl) (retOk () rfl trivial [0] rfl (by decide))

theorem broot_ct (F : Hp) (hK : Cells F ⟨4, 0, none⟩ (Sha.K.map W32)) (d : Int) (l : List (List UInt8)) (A : Option Addr) (c : Nat) (hsl : Sl F 1 A l.length c (strsV l)) (hsm : ∀ s ∈ l, s.length ≤ 1048576) :
    Ct Tryd.prog 67 [.slice A l.length c, I d] [F] (fun _ : Unit => .tuple #[Str (brVal l d), I (brErr l d)]) (fun _ => True) (fun _ => [F]) := by
  refine Ct.walk Tryd.func67 rfl Tryd.ntmps67 rfl (fun w0 hw0 => ?_)
  change J _ [(0, _), (1, _)] _ _ _
  refine J.seq (fun K1 hK1 => ?_)
  refine J.region ?_
  refine J.y (op_assign rfl rfl) rfl rfl rfl ?_
  refine J.y (op_assign rfl rfl) rfl rfl rfl ?_
  refine J.nil ?_
  refine J.then_n (J.k hK1 ?_)
  refine J.keepE [(0, _), (1, _)] ⟨rfl, rfl, trivial⟩ ?_
  refine J.seq (fun K2 hK2 => ?_)
  refine J.seq (fun K3 hK3 => ?_)
  refine J.region ?_
  refine J.y (op_move rfl rfl) rfl rfl rfl ?_
  refine J.e (op_call rfl rfl ent66 (Ct.use0 (fun F' hF => bcount_ct F' d))) rfl rfl rfl ?_
  intro g10 _
  refine J.y (op_assign rfl rfl) rfl rfl rfl ?_
  refine J.nil ?_
  refine J.then_n (J.k hK3 ?_)
  refine J.keepE [(0, _), (6, _)] ⟨rfl, rfl, trivial⟩ ?_
  refine J.block ?_
  refine J.seq (fun K4 hK4 => ?_)
  refine J.region ?_
  refine J.y (op_move rfl rfl) rfl rfl rfl ?_
  refine J.y (op_eql rfl rfl rfl) rfl rfl rfl ?_
  refine J.y (op_assign rfl rfl) rfl rfl rfl ?_
  refine J.nil ?_
  refine J.then_n (J.k hK4 ?_)
  refine J.keepE [(0, _), (6, _), (11, _)] ⟨rfl, rfl, rfl, trivial⟩ ?_
  refine J.ite rfl (fun h11 => ?_) (fun h11 => ?_)
  ·
    refine J.seq (fun K5 hK5 => ?_)
    refine J.region ?_
    refine J.y (op_assign rfl rfl) rfl rfl rfl ?_
    refine J.y (op_assign rfl rfl) rfl rfl rfl ?_
    refine J.nil ?_
    refine J.then_n (J.k hK5 ?_)
    refine J.keepE [(4, _), (5, _)] ⟨rfl, rfl, trivial⟩ ?_
    refine J.ret ?_
    refine J.blk_r ?_
    refine J.then_r ?_
    exact J.done hw0 (fun _ _ h => h) (res2 rfl rfl rfl) (retOk () (by unfold brVal brErr; rw [if_pos (show cnt d = 0 by omega)]; rfl) trivial [0] rfl (by decide))
  ·
    refine J.seq (fun K6 hK6 => ?_)
    refine J.region ?_
    refine J.y (op_move rfl rfl) rfl rfl rfl ?_
    refine J.y (op_move rfl rfl) rfl rfl rfl ?_
    refine J.y (op_len Tryd.underlying36 rfl rfl) rfl rfl rfl ?_
    refine J.y (op_neq rfl rfl rfl) rfl rfl rfl ?_
    refine J.y (op_assign rfl rfl) rfl rfl rfl ?_
    refine J.addEmpty [0, 1] [F, (fun _ => none)] rfl (by decide) ?_
    refine J.nil ?_
    refine J.then_n (J.k hK6 ?_)
    refine J.keepE [(0, _), (14, _)] ⟨rfl, rfl, trivial⟩ ?_
    refine J.ite rfl (fun h14 => ?_) (fun h14 => ?_)
    ·
      refine J.seq (fun K7 hK7 => ?_)
      refine J.region ?_
      refine J.y (op_assign rfl rfl) rfl rfl rfl ?_
      refine J.y (op_assign rfl rfl) rfl rfl rfl ?_
      refine J.nil ?_
      refine J.then_n (J.k hK7 ?_)
      refine J.keepE [(4, _), (5, _)] ⟨rfl, rfl, trivial⟩ ?_
      refine J.ret ?_
      refine J.blk_r ?_
      refine J.then_r ?_
      exact J.done hw0 (fun _ _ h => h) (res2 rfl rfl rfl) (retOk () (by unfold brVal brErr; rw [if_neg (show ¬ cnt d = 0 by omega), if_pos (show l.length ≠ cnt d by omega)]; rfl) trivial [0] rfl (by decide))
    ·
      refine J.skip ?_
      refine J.blk_n ?_
      refine J.then_n (J.k hK2 ?_)
      refine J.keepE [(0, _)] ⟨rfl, trivial⟩ ?_
      refine J.seq (fun K8 hK8 => ?_)
      refine J.block ?_
      have hd0 : cnt d ≠ 0 := by omega
      have hld : l.length = 2 ^ d.toNat := by rw [← cnt_pow hd0]; omega
      have hd4 : ¬ (d < 0 ∨ 4 < d) := fun e => hd0 (cnt_zero.2 e)
      refine J.loopW (X := Nat × Option Addr × Nat × Hp) (fun x => [(0, .slice x.2.1 (Sb.lvls l x.1).length x.2.2.1)]) (fun x => [F, x.2.2.2]) (fun x => x.1 ≤ d.toNat ∧ ∃ m, (m = F ∨ m = x.2.2.2) ∧ Sl m 1 x.2.1 (Sb.lvls l x.1).length x.2.2.1 (strsV (Sb.lvls l x.1))) (fun x => d.toNat - x.1) (0, A, c, fun _ => none) (⟨Nat.zero_le _, F, .inl rfl, by rw [Sb.lvls_zero]; exact hsl⟩) ⟨by rw [Sb.lvls_zero]; rfl, trivial⟩ (fun _ h => h) ?_
      rintro ⟨k, A', c', mm⟩ wL ⟨hk, m, hm, hsl'⟩ hxL I0 hI0
      dsimp only at hk hm hsl' ⊢
      obtain ⟨L, hL⟩ : ∃ L, L = Sb.lvls l k := ⟨_, rfl⟩
      have hlen := Sb.lvls_length hld k hk
      have hLs := Sb.lvls_small hsm k
      have hp16 : 2 ^ (d.toNat - k) ≤ 16 := Nat.le_trans (Nat.pow_le_pow_right (by decide) (show d.toNat - k ≤ 4 by omega)) (by decide)
      have hp1 := Nat.two_pow_pos (d.toNat - k)
      refine J.seq (fun K9 hK9 => ?_)
      refine J.seq (fun K10 hK10 => ?_)
      refine J.region ?_
      refine J.y (op_move rfl rfl) rfl rfl rfl ?_
      refine J.y (op_len Tryd.underlying36 rfl rfl) rfl rfl rfl ?_
      refine J.y (op_gtr rfl rfl rfl) rfl rfl rfl ?_
      refine J.nil ?_
      refine J.then_n (J.k hK10 ?_)
      refine J.keepE [(0, _), (21, _)] ⟨rfl, rfl, trivial⟩ ?_
      refine J.ite rfl (fun h21 => ?_) (fun h21 => ?_)
      ·
        refine J.skip ?_
        refine J.then_n (J.k hK9 ?_)
        refine J.keepE [(0, _)] ⟨rfl, trivial⟩ ?_
        refine J.block ?_
        refine J.seq (fun K11 hK11 => ?_)
        refine J.region ?_
        refine J.e (op_alloc rfl Tryd.zeroValue36 rfl) rfl rfl rfl ?_
        intro g7 _
        change J _ _ _ [F, mm, blk g7 _ 36] _
        refine J.nil ?_
        refine J.then_n (J.k hK11 ?_)
        refine J.keepE [(0, _), (7, _)] ⟨rfl, rfl, trivial⟩ ?_
        refine J.seq (fun K12 hK12 => ?_)
        refine J.seq (fun K13 hK13 => ?_)
        rw [← hL]
        refine J.region ?_
        refine J.y (op_move rfl rfl) rfl rfl rfl ?_
        refine J.e (op_call rfl rfl ent114 (Ct.use (new := fun x : Nat × Nat => [blk x.1 [.slice A' L.length c'] 36, blk x.2 [I 2] 3]) (fun F' _ => chunk_ct F' A' L.length c'))) rfl rfl rfl ?_
        rintro ⟨gA, gB⟩ _
        change J _ _ _ [F, mm, blk g7 _ 36, blk gA [.slice A' L.length c'] 36, blk gB [I 2] 3] _
        refine J.nil ?_
        refine J.then_n (J.k hK13 ?_)
        refine J.keepE [(7, _), (23, _)] ⟨rfl, rfl, trivial⟩ ?_
        refine J.block ?_
        refine J.addEmpty [2, 5, 0, 1, 3, 4] [blk g7 [.slice none 0 0] 36, (fun _ => none), F, mm, blk gA [.slice A' L.length c'] 36, blk gB [I 2] 3] rfl (by decide) ?_
        rw [← hL] at hlen hsl' hLs h21
        obtain ⟨q, hq⟩ : ∃ q, d.toNat - k = q + 1 := Nat.exists_eq_succ_of_ne_zero (fun e => by rw [e, Nat.pow_zero] at hlen; omega)
        have hev : L.length = 2 * (L.length / 2) := by rw [hlen, hq, Nat.pow_succ]; omega
        have hLn : L.length ≤ 1073741824 := by omega
        have hlc := hsl'.2.1
        refine J.range (fun x : Option Addr × Nat × Nat × Hp => [blk g7 [.slice x.1 x.2.1 x.2.2.1] 36, x.2.2.2]) [F, mm, blk gA [.slice A' L.length c'] 36, blk gB [I 2] 3] (fun i x => x.2.1 = i ∧ Row x.2.2.2 9 1 x.1 i x.2.2.1 (strsV ((Sb.lvl L).take i))) (fun _ _ => False) (none, 0, 0, fun _ => none) rfl ent151 (fun Fr hF => chunk_seq Fr gA gB A' (L.length / 2) L.length c' hev hlc hLn (Cells.blk0.mono (hF (blk gA [.slice A' L.length c'] 36) (by simp))) (Cells.blk0.mono (hF (blk gB [I 2] 3) (by simp)))) (fun _ _ => rfl) rfl (⟨rfl, by rw [List.take_zero]; exact RowQ.nil⟩) ?_ ?_ ?_
        ·
          intro i x l wa wb hi hI K14 Post14 hK14 hN14 hR14 hE14
          obtain ⟨Ax, nx, cx, mx⟩ := x
          obtain ⟨hnx, hr⟩ := hI
          dsimp only at hnx hr
          subst hnx
          have hc := hsl'.cut (lo := 2 * nx) (hi := 2 * nx + 2) (mx := 2 * nx + 2) (by omega) (by omega) (by omega)
          rw [if_neg (by omega), show 2 * nx + 2 - 2 * nx = 2 by omega, strsV_take, strsV_drop] at hc
          have hcl : ((L.take (2 * nx + 2)).drop (2 * nx)).length = 2 := by rw [List.length_drop, List.length_take]; omega
          have hc0 : ((L.take (2 * nx + 2)).drop (2 * nx)).getD 0 [] = L.getD (2 * nx) [] := by simp [List.getD_eq_getElem?_getD, List.getElem?_drop, List.getElem?_take]
          have hc1 : ((L.take (2 * nx + 2)).drop (2 * nx)).getD 1 [] = L.getD (2 * nx + 1) [] := by simp [List.getD_eq_getElem?_getD, List.getElem?_drop, List.getElem?_take]
          change J _ ((24, _) :: _) _ [blk g7 [.slice Ax nx cx] 36, mx, F, mm, blk gA [.slice A' L.length c'] 36, blk gB [I 2] 3] _
          refine J.regionR ?_
          refine J.y (op_assign rfl rfl) rfl rfl rfl ?_
          refine J.nilR ?_
          refine J.then_n (hK14 _ _ ?_)
          refine J.keepE [(7, _), (8, _)] ⟨rfl, rfl, trivial⟩ ?_
          refine J.blockR ?_
          refine J.drawR [blk g7 [.slice Ax nx cx] 36, F, mm, blk gA [.slice A' L.length c'] 36, blk gB [I 2] 3] [10] (.y 0 (.y 1 (.y 2 (.y 3 (.y 4 (.y 5 (.y 6 (.e 7 (.e 8 (.e 9 (.e 10 .nil))))))))))) Tryd.wide (by decide +kernel) (by simp) ?_
          refine J.dy rfl (op_loadB 0 rfl rfl rfl Tryd.isAgg36 rfl) rfl rfl rfl rfl ?_
          refine J.dy rfl (op_move rfl rfl) rfl rfl rfl rfl ?_
          refine J.dy rfl (op_indexAddr (i := 0) rfl rfl rfl Tryd.underlying36 Tryd.sizeOf9 hc (by omega)) rfl rfl rfl rfl ?_
          refine J.dy rfl (op_load rfl rfl Tryd.isAgg9 (m := m) (by rcases hm with rfl | rfl <;> simp) (v := Str (L.getD (2 * nx) [])) (hc.elem (strsV_get (getSome [] (show 0 < ((L.take (2 * nx + 2)).drop (2 * nx)).length by rw [hcl]; omega)) |>.trans (by rw [hc0])))) rfl rfl rfl rfl ?_
          refine J.dy rfl (op_move rfl rfl) rfl rfl rfl rfl ?_
          refine J.dy rfl (op_indexAddr (i := 1) rfl rfl rfl Tryd.underlying36 Tryd.sizeOf9 hc (by omega)) rfl rfl rfl rfl ?_
          refine J.dy rfl (op_load rfl rfl Tryd.isAgg9 (m := m) (by rcases hm with rfl | rfl <;> simp) (v := Str (L.getD (2 * nx + 1) [])) (hc.elem (strsV_get (getSome [] (show 1 < ((L.take (2 * nx + 2)).drop (2 * nx)).length by rw [hcl]; omega)) |>.trans (by rw [hc1])))) rfl rfl rfl rfl ?_
          refine J.de rfl (op_call rfl rfl ent57 (Ct.use0 (fun F' hF => sjoin_ct F' (hK.mono (hF F (by simp))) (L.getD (2 * nx) []) (L.getD (2 * nx + 1) []) (Sb.getD_small hLs _) (Sb.getD_small hLs _)))) rfl rfl rfl (by simp) ?_
          intro g32 _
          refine J.de rfl (op_buildSlice (l := [.tmp 32]) (xs := [[Str (Sb.join (L.getD (2 * nx) []) (L.getD (2 * nx + 1) []))]]) rfl rfl rfl rfl Tryd.underlying36 el9 rfl (by decide) (by decide) (by simp)) rfl rfl rfl (by simp) ?_
          intro g33 _
          change J _ _ _ [blk g7 [.slice Ax nx cx] 36, mx, F, mm, blk gA [.slice A' L.length c'] 36, blk gB [I 2] 3, blk g33 [Str (Sb.join (L.getD (2 * nx) []) (L.getD (2 * nx + 1) []))] 9] _
          refine J.de rfl (op_append (i := 1) (m2 := blk g33 [Str (Sb.join (L.getD (2 * nx) []) (L.getD (2 * nx + 1) []))] 9) (ys := strsV [Sb.join (L.getD (2 * nx) []) (L.getD (2 * nx + 1) [])]) rfl rfl rfl Tryd.underlying36 Tryd.underlying36 el9 rfl hr (by simp) (slS [Sb.join (L.getD (2 * nx) []) (L.getD (2 * nx + 1) [])] rfl) (one_strs _) (by omega) (by omega)) rfl rfl rfl (by simp) ?_
          rintro ⟨A34, c34, m34⟩ h34
          try dsimp only at h34
          change J _ ((34, .slice A34 (nx + 1) c34) :: _) _ [blk g7 [.slice Ax nx cx] 36, m34, F, mm, blk gA [.slice A' L.length c'] 36, blk gB [I 2] 3, blk g33 [Str (Sb.join (L.getD (2 * nx) []) (L.getD (2 * nx + 1) []))] 9] _
          refine J.ds rfl (op_store (i := 0) (vs := [.slice A34 (nx + 1) c34]) rfl rfl rfl rfl rfl Tryd.sizeOf36 rfl (by simp)) rfl rfl rfl (fun _ _ => ?_)
          change J _ _ _ [blk g7 [.slice A34 (nx + 1) c34] 36, m34, F, mm, blk gA [.slice A' L.length c'] 36, blk gB [I 2] 3, blk g33 [Str (Sb.join (L.getD (2 * nx) []) (L.getD (2 * nx + 1) []))] 9] _
          refine J.perm [0, 1, 2, 3, 4, 5] [blk g7 [.slice A34 (nx + 1) c34] 36, m34, F, mm, blk gA [.slice A' L.length c'] 36, blk gB [I 2] 3] rfl (by decide) ?_
          refine J.dnilR ?_
          refine J.blk_n ?_
          exact hN14 _ (A34, nx + 1, c34, m34) ⟨rfl, by rw [Sb.lvl_take (by omega)]; rw [show ∀ a b, strsV (a ++ b) = strsV a ++ strsV b from fun a b => by simp [strsV]]; exact h34⟩
        ·
          intro w14 x hx14 hI
          obtain ⟨Ax, nx, cx, mx⟩ := x
          obtain ⟨hnx, hr⟩ := hI
          dsimp only at hnx hr
          subst hnx
          have hlen1 : (Sb.lvls l (k + 1)).length = L.length / 2 := by rw [Sb.lvls_succ, Sb.lvl_length, hL]
          have hfin : Sl mx 1 Ax (Sb.lvls l (k + 1)).length cx (strsV (Sb.lvls l (k + 1))) := by
            rw [hlen1, Sb.lvls_succ, ← hL]
            rw [List.take_of_length_le (by rw [Sb.lvl_length]; exact Nat.le_refl _)] at hr
            exact hr.sl
          change J _ _ _ [blk g7 [.slice Ax (L.length / 2) cx] 36, mx, F, mm, blk gA [.slice A' L.length c'] 36, blk gB [I 2] 3] _
          refine J.blk_n ?_
          refine J.then_n (J.k hK12 ?_)
          refine J.keepE [(7, _)] ⟨rfl, trivial⟩ ?_
          refine J.region ?_
          refine J.y (op_loadB 0 rfl rfl rfl Tryd.isAgg36 rfl) rfl rfl rfl ?_
          refine J.perm [2, 1] [F, mx] rfl (by decide) ?_
          refine J.y (op_assign rfl rfl) rfl rfl rfl ?_
          refine J.nil ?_
          refine J.blk_n ?_
          refine J.then_n ?_
          rw [show Ax = Ax from rfl]
          exact J.kk (k + 1, Ax, cx, mx) (fun x (hx : _ ∧ d.toNat - x.1 < d.toNat - k) => hI0 x _ hx.1 hx.2 hx14) ⟨⟨by dsimp only; omega, mx, .inr rfl, hfin⟩, by dsimp only; omega⟩ ⟨by dsimp only; rw [hlen1]; rfl, trivial⟩ (fun _ h => h)
        ·
          intro w14 x c hx14 hS
          exact hS.elim
      ·
        refine J.exit ?_
        refine J.then_x ?_
        refine J.then_x ?_
        refine J.blk_eq ?_
        refine J.then_n (J.k hK8 ?_)
        refine J.keepE [(0, _)] ⟨rfl, trivial⟩ ?_
        refine J.seq (fun K15 hK15 => ?_)
        have hkd : k = d.toNat := by
          by_cases e : k = d.toNat
          · exact e
          · have := Nat.pow_le_pow_right (n := 2) (by decide) (show 1 ≤ d.toNat - k by omega)
            omega
        refine J.region ?_
        refine J.y (op_move rfl rfl) rfl rfl rfl ?_
        refine J.y (op_indexAddr (i := 0) rfl rfl rfl Tryd.underlying36 Tryd.sizeOf9 hsl' (by omega)) rfl rfl rfl ?_
        refine J.y (op_load rfl rfl Tryd.isAgg9 (m := m) (by rcases hm with rfl | rfl <;> simp) (v := Str ((Sb.lvls l k).getD 0 [])) (hsl'.elem (strsV_get (getSome [] (by omega))))) rfl rfl rfl ?_
        refine J.y (op_assign rfl rfl) rfl rfl rfl ?_
        refine J.y (op_assign rfl rfl) rfl rfl rfl ?_
        refine J.nil ?_
        refine J.then_n (J.k hK15 ?_)
        refine J.keepE [(4, _), (5, _)] ⟨rfl, rfl, trivial⟩ ?_
        refine J.ret ?_
        exact J.doneM hw0 hxL (fun _ _ h => h) (res2 rfl rfl rfl) (retOk () (by unfold brVal brErr; rw [if_neg hd0, if_neg (show ¬ l.length ≠ cnt d by omega), if_pos rfl, Sb.root, ← hkd]) trivial [0] rfl (by decide))

end Go.Proofs.YtpcffgkmpmcobaaDoor
