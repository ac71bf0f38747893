/- A part of the proof: contracts of functions of the program, each for every state of the heaps that it names. -/
import Derived.Test.YtlopnfgacopkbaaDoorHdr
set_option linter.unusedSimpArgs false
set_option linter.unusedVariables false
namespace Go.Proofs.YtlopnfgacopkbaaDoor
open Go Go.Fw
set_option maxRecDepth 100000
set_option maxHeartbeats 1000000
theorem ent31 : Enters Tryd.prog 31 := Enters.of Tryd.func31 rfl (by kernel_rfl)
theorem ent32 : Enters Tryd.prog 32 := Enters.of Tryd.func32 rfl (by kernel_rfl)
theorem ent33 : Enters Tryd.prog 33 := Enters.of Tryd.func33 rfl (by kernel_rfl)
theorem ent38 : Enters Tryd.prog 38 := Enters.of Tryd.func38 rfl (by kernel_rfl)
theorem ent50 : Enters Tryd.prog 50 := Enters.of Tryd.func50 rfl (by kernel_rfl)
theorem ent70 : Enters Tryd.prog 70 := Enters.of Tryd.func70 rfl (by kernel_rfl)
theorem ent71 : Enters Tryd.prog 71 := Enters.of Tryd.func71 rfl (by kernel_rfl)

theorem num2_ct (F : Hp) (n size : Nat) (hs : size ≤ 8) (hn : n < 256 ^ size) :
    Ct Tryd.prog 71 [N64 n, I size] [F] (fun _ : Unit => Str (Sha.numB (UInt64.ofNat n) size)) (fun _ => True) (fun _ => [F]) := by
  have hn64 : n < 18446744073709551616 := Nat.lt_of_lt_of_le hn (pow_le8 size hs)
  refine Ct.walk Tryd.func71 rfl Tryd.ntmps71 rfl (fun w0 hw0 => ?_)
  change J _ [(0, _), (1, _)] _ _ _
  refine J.seq (fun K1 hK1 => ?_)
  refine J.region ?_
  refine J.y (op_assign rfl rfl) rfl rfl rfl ?_
  refine J.nil ?_
  refine J.then_n (J.k hK1 ?_)
  refine J.keepE [(0, _), (1, _)] ⟨rfl, rfl, trivial⟩ ?_
  refine J.seq (fun K2 hK2 => ?_)
  refine J.region ?_
  refine J.y (op_assign rfl rfl) rfl rfl rfl ?_
  refine J.nil ?_
  refine J.then_n (J.k hK2 ?_)
  refine J.keepE [(0, _), (1, _), (5, _)] ⟨rfl, rfl, rfl, trivial⟩ ?_
  refine J.seq (fun K3 hK3 => ?_)
  refine J.seq (fun K4 hK4 => ?_)
  refine J.region ?_
  refine J.y (op_assign rfl rfl) rfl rfl rfl ?_
  refine J.nil ?_
  refine J.then_n (J.k hK4 ?_)
  refine J.keepE [(0, _), (1, _), (5, _), (6, _)] ⟨rfl, rfl, rfl, rfl, trivial⟩ ?_
  refine J.block ?_
  refine J.loop (X := Nat) (fun t => [(0, N64 (n / 256 ^ t)), (1, I size), (5, Str (Sha.numB (UInt64.ofNat n) t)), (6, I t)]) (fun _ => [F]) (fun t => t ≤ size) (fun t => size - t) 0 (Nat.zero_le _) ⟨by rw [Nat.pow_zero, Nat.div_one]; rfl, rfl, rfl, rfl, trivial⟩ (fun _ h => h) ?_
  intro t ht I0 hI0
  have hq : n / 256 ^ t < 18446744073709551616 := Nat.lt_of_le_of_lt (Nat.div_le_self _ _) hn64
  refine J.seq (fun K5 hK5 => ?_)
  refine J.seq (fun K6 hK6 => ?_)
  refine J.region ?_
  refine J.y (op_move rfl rfl) rfl rfl rfl ?_
  refine J.y (op_move rfl rfl) rfl rfl rfl ?_
  refine J.y (op_lss rfl rfl rfl) rfl rfl rfl ?_
  refine J.y (op_move rfl rfl) rfl rfl rfl ?_
  refine J.split (d := 10) rfl (fun h10 => ?_) (fun h10 => ?_)
  ·
    refine J.yg (Wan.is rfl rfl rfl rfl rfl) (op_move rfl rfl) rfl rfl ?_
    refine J.yg (Wan.is rfl rfl rfl rfl rfl) ((op_leq rfl rfl rfl).as (v' := .bool true) (congrArg Value.bool (decide_eq_true (by omega)))) rfl rfl ?_
    refine J.y (op_pickT rfl rfl rfl) rfl rfl rfl ?_
    refine J.nil ?_
    refine J.then_n (J.k hK6 ?_)
    refine J.keepE [(0, _), (1, _), (5, _), (6, _), (13, _)] ⟨rfl, rfl, rfl, rfl, rfl, trivial⟩ ?_
    refine J.condT rfl rfl ?_
    refine J.skip ?_
    refine J.then_n (J.k hK5 ?_)
    refine J.keepE [(0, _), (1, _), (5, _), (6, _)] ⟨rfl, rfl, rfl, rfl, trivial⟩ ?_
    refine J.seq (fun K7 hK7 => ?_)
    refine J.block ?_
    refine J.seq (fun K8 hK8 => ?_)
    refine J.region ?_
    refine J.y (op_move rfl rfl) rfl rfl rfl ?_
    refine J.y ((op_remU (b := 256) rfl rfl rfl (by omega))) rfl rfl rfl ?_
    refine J.y (op_cvU_to8 rfl rfl Tryd.underlying47 Tryd.underlying5 (by omega)) rfl rfl rfl ?_
    refine J.e (op_buildSlice (l := [.tmp 18]) (xs := [[B8 (UInt8.ofNat ((n / 256 ^ t) % 256))]]) rfl rfl rfl rfl Tryd.underlying99 el5 rfl (by decide) (by decide) (by simp)) rfl rfl rfl ?_
    intro g19 _
    change J _ _ _ [F, blk g19 [B8 (UInt8.ofNat ((n / 256 ^ t) % 256))] 5] _
    refine J.y (op_toStr (l := [UInt8.ofNat ((n / 256 ^ t) % 256)]) rfl rfl Tryd.underlying99 Tryd.underlying5 Tryd.underlying9 (m := blk g19 [B8 (UInt8.ofNat ((n / 256 ^ t) % 256))] 5) (by simp) (slB [UInt8.ofNat ((n / 256 ^ t) % 256)] rfl)) rfl rfl rfl ?_
    refine J.y (op_move rfl rfl) rfl rfl rfl ?_
    refine J.y ((op_sadd rfl rfl rfl (by simp [Sha.numB_length]; omega)).as (v' := Str (Sha.numB (UInt64.ofNat n) (t + 1))) (by rw [numB_cons n t hn64 (by omega)]; rfl)) rfl rfl rfl ?_
    refine J.y (op_assign rfl rfl) rfl rfl rfl ?_
    refine J.nil ?_
    refine J.then_n (J.k hK8 ?_)
    refine J.keepE [(0, _), (1, _), (5, _), (6, _)] ⟨rfl, rfl, rfl, rfl, trivial⟩ ?_
    refine J.region ?_
    refine J.y (op_move rfl rfl) rfl rfl rfl ?_
    refine J.y ((op_quoU (b := 256) rfl rfl rfl (by omega)).as (v' := N64 (n / 256 ^ (t + 1))) (congrArg N64 (by rw [Nat.div_div_eq_div_mul, Nat.pow_succ]))) rfl rfl rfl ?_
    refine J.y (op_assign rfl rfl) rfl rfl rfl ?_
    refine J.nil ?_
    refine J.blk_n ?_
    refine J.then_n (J.k hK7 ?_)
    refine J.keepE [(0, _), (1, _), (5, _), (6, _)] ⟨rfl, rfl, rfl, rfl, trivial⟩ ?_
    refine J.perm [0] [F] rfl (by decide) ?_
    refine J.region ?_
    refine J.y (op_move rfl rfl) rfl rfl rfl ?_
    refine J.y ((op_add rfl rfl rfl (by first | omega | (refine ⟨?_, ?_⟩ <;> omega))).as (v' := I ((t + 1 : Nat) : Int)) (congrArg I (by omega))) rfl rfl rfl ?_
    refine J.y (op_assign rfl rfl) rfl rfl rfl ?_
    refine J.nil ?_
    refine J.then_n ?_
    exact J.kk (t + 1) (fun x (hx : _ ∧ size - x < size - t) => hI0 x hx.1 hx.2) ⟨by omega, by omega⟩ ⟨rfl, rfl, rfl, rfl, trivial⟩ (fun _ h => h)
  ·
    refine J.no (Wan.is rfl rfl rfl rfl rfl) rfl rfl ?_
    refine J.no (Wan.is rfl rfl rfl rfl rfl) rfl rfl ?_
    refine J.y (op_pickF rfl rfl rfl) rfl rfl rfl ?_
    refine J.nil ?_
    refine J.then_n (J.k hK6 ?_)
    refine J.keepE [(0, _), (1, _), (5, _), (6, _), (13, _)] ⟨rfl, rfl, rfl, rfl, rfl, trivial⟩ ?_
    refine J.condF rfl rfl ?_
    refine J.exit ?_
    refine J.then_x ?_
    refine J.then_x ?_
    refine J.blk_eq ?_
    refine J.then_n (J.k hK3 ?_)
    refine J.keepE [(0, _), (5, _)] ⟨rfl, rfl, trivial⟩ ?_
    refine J.seq (fun K9 hK9 => ?_)
    refine J.seq (fun K10 hK10 => ?_)
    have hte : t = size := by omega
    subst hte
    have hz : n / 256 ^ t = 0 := Nat.div_eq_of_lt hn
    refine J.region ?_
    refine J.y (op_move rfl rfl) rfl rfl rfl ?_
    refine J.y ((op_gtr rfl rfl rfl).as (v' := .bool false) (congrArg Value.bool (decide_eq_false (by rw [hz]; decide)))) rfl rfl rfl ?_
    refine J.nil ?_
    refine J.then_n (J.k hK10 ?_)
    refine J.keepE [(5, _), (26, _)] ⟨rfl, rfl, trivial⟩ ?_
    refine J.condF rfl rfl ?_
    refine J.skip ?_
    refine J.then_n (J.k hK9 ?_)
    refine J.keepE [(5, _)] ⟨rfl, trivial⟩ ?_
    refine J.seq (fun K11 hK11 => ?_)
    refine J.region ?_
    refine J.y (op_move rfl rfl) rfl rfl rfl ?_
    refine J.y (op_assign rfl rfl) rfl rfl rfl ?_
    refine J.nil ?_
    refine J.then_n (J.k hK11 ?_)
    refine J.keepE [(4, _)] ⟨rfl, trivial⟩ ?_
    refine J.ret ?_
    exact J.done hw0 (fun _ _ h => h) (res1 rfl rfl) (retOk () rfl trivial [0] rfl (by decide))

theorem encode19_ct (F : Hp) (x : Hd) (A : Option Addr) (c : Nat) (hg : x.good) (hsl : Sl F 1 A x.nodes.length c (strsV x.nodes)) :
    Ct Tryd.prog 31 [.agg #[N64 x.ep, Str x.par, I x.dep, I x.aud, .slice A x.nodes.length c]] [F] (fun _ : Unit => .tuple #[Str x.enc, I x.err]) (fun _ => True) (fun _ => [F]) := by
  obtain ⟨hg1, hg2, hg3⟩ := hg
  refine Ct.walk Tryd.func31 rfl Tryd.ntmps31 rfl (fun w0 hw0 => ?_)
  change J _ [(0, _)] _ _ _
  refine J.seq (fun K1 hK1 => ?_)
  refine J.region ?_
  refine J.e (op_box rfl rfl (l := [N64 x.ep, Str x.par, I x.dep, I x.aud, .slice A x.nodes.length c]) rfl) rfl rfl rfl ?_
  intro g1 _
  change J _ _ _ [F, blk g1 [N64 x.ep, Str x.par, I x.dep, I x.aud, .slice A x.nodes.length c] 60] _
  refine J.y (op_assign rfl rfl) rfl rfl rfl ?_
  refine J.y (op_assign rfl rfl) rfl rfl rfl ?_
  refine J.nil ?_
  refine J.then_n (J.k hK1 ?_)
  refine J.keepE [(1, _)] ⟨rfl, trivial⟩ ?_
  refine J.seq (fun K2 hK2 => ?_)
  refine J.seq (fun K3 hK3 => ?_)
  refine J.region ?_
  refine J.y (op_fieldAddr (j := 0) rfl rfl Tryd.underlying60 rfl Tryd.sizeOf47 rfl) rfl rfl rfl ?_
  refine J.y (op_loadB 1 rfl rfl rfl Tryd.isAgg47 rfl) rfl rfl rfl ?_
  refine J.y (op_gtr rfl rfl rfl) rfl rfl rfl ?_
  refine J.y (op_move rfl rfl) rfl rfl rfl ?_
  refine J.split (d := 12) rfl (fun h12 => ?_) (fun h12 => ?_)
  ·
    refine J.no (Wan.is rfl rfl rfl rfl rfl) rfl rfl ?_
    refine J.no (Wan.is rfl rfl rfl rfl rfl) rfl rfl ?_
    refine J.no (Wan.is rfl rfl rfl rfl rfl) rfl rfl ?_
    refine J.no (Wan.is rfl rfl rfl rfl rfl) rfl rfl ?_
    refine J.y (op_pickT rfl rfl rfl) rfl rfl rfl ?_
    refine J.y (op_move rfl rfl) rfl rfl rfl ?_
    refine J.no (Wan.is rfl rfl rfl rfl rfl) rfl rfl ?_
    refine J.no (Wan.is rfl rfl rfl rfl rfl) rfl rfl ?_
    refine J.no (Wan.is rfl rfl rfl rfl rfl) rfl rfl ?_
    refine J.y (op_pickT rfl rfl rfl) rfl rfl rfl ?_
    refine J.y (op_move rfl rfl) rfl rfl rfl ?_
    refine J.no (Wan.is rfl rfl rfl rfl rfl) rfl rfl ?_
    refine J.no (Wan.is rfl rfl rfl rfl rfl) rfl rfl ?_
    refine J.no (Wan.is rfl rfl rfl rfl rfl) rfl rfl ?_
    refine J.y (op_pickT rfl rfl rfl) rfl rfl rfl ?_
    refine J.y (op_move rfl rfl) rfl rfl rfl ?_
    refine J.no (Wan.is rfl rfl rfl rfl rfl) rfl rfl ?_
    refine J.no (Wan.is rfl rfl rfl rfl rfl) rfl rfl ?_
    refine J.no (Wan.is rfl rfl rfl rfl rfl) rfl rfl ?_
    refine J.y (op_pickT rfl rfl rfl) rfl rfl rfl ?_
    refine J.y (op_move rfl rfl) rfl rfl rfl ?_
    refine J.no (Wan.is rfl rfl rfl rfl rfl) rfl rfl ?_
    refine J.no (Wan.is rfl rfl rfl rfl rfl) rfl rfl ?_
    refine J.no (Wan.is rfl rfl rfl rfl rfl) rfl rfl ?_
    refine J.y (op_pickT rfl rfl rfl) rfl rfl rfl ?_
    refine J.nil ?_
    refine J.then_n (J.k hK3 ?_)
    refine J.keepE [(1, _), (37, _)] ⟨rfl, rfl, trivial⟩ ?_
    refine J.condT rfl rfl ?_
    refine J.seq (fun K4 hK4 => ?_)
    refine J.region ?_
    refine J.y (op_assign rfl rfl) rfl rfl rfl ?_
    refine J.y (op_assign rfl rfl) rfl rfl rfl ?_
    refine J.nil ?_
    refine J.then_n (J.k hK4 ?_)
    refine J.keepE [(2, _), (3, _)] ⟨rfl, rfl, trivial⟩ ?_
    refine J.ret ?_
    refine J.then_r ?_
    exact J.done hw0 (fun _ _ h => h) (res2 rfl rfl rfl) (retOk () (by rw [show x.enc = [] from if_neg (by rw [err_10 (show x.out by unfold Hd.out; rw [cnt_zero]; omega)]; decide), err_10 (show x.out by unfold Hd.out; rw [cnt_zero]; omega)]) trivial [0] rfl (by decide))
  ·
    refine J.yg (Wan.is rfl rfl rfl rfl rfl) (op_fieldAddr (j := 1) rfl rfl Tryd.underlying60 rfl Tryd.sizeOf9 rfl) rfl rfl ?_
    refine J.yg (Wan.is rfl rfl rfl rfl rfl) (op_loadB 1 rfl rfl rfl Tryd.isAgg9 rfl) rfl rfl ?_
    refine J.yg (Wan.is rfl rfl rfl rfl rfl) (op_slen Tryd.underlying9 rfl rfl) rfl rfl ?_
    refine J.yg (Wan.is rfl rfl rfl rfl rfl) (op_neq rfl rfl rfl) rfl rfl ?_
    refine J.y (op_pickF rfl rfl rfl) rfl rfl rfl ?_
    refine J.y (op_move rfl rfl) rfl rfl rfl ?_
    refine J.split (d := 18) rfl (fun h18 => ?_) (fun h18 => ?_)
    ·
      refine J.no (Wan.is rfl rfl rfl rfl rfl) rfl rfl ?_
      refine J.no (Wan.is rfl rfl rfl rfl rfl) rfl rfl ?_
      refine J.no (Wan.is rfl rfl rfl rfl rfl) rfl rfl ?_
      refine J.y (op_pickT rfl rfl rfl) rfl rfl rfl ?_
      refine J.y (op_move rfl rfl) rfl rfl rfl ?_
      refine J.no (Wan.is rfl rfl rfl rfl rfl) rfl rfl ?_
      refine J.no (Wan.is rfl rfl rfl rfl rfl) rfl rfl ?_
      refine J.no (Wan.is rfl rfl rfl rfl rfl) rfl rfl ?_
      refine J.y (op_pickT rfl rfl rfl) rfl rfl rfl ?_
      refine J.y (op_move rfl rfl) rfl rfl rfl ?_
      refine J.no (Wan.is rfl rfl rfl rfl rfl) rfl rfl ?_
      refine J.no (Wan.is rfl rfl rfl rfl rfl) rfl rfl ?_
      refine J.no (Wan.is rfl rfl rfl rfl rfl) rfl rfl ?_
      refine J.y (op_pickT rfl rfl rfl) rfl rfl rfl ?_
      refine J.y (op_move rfl rfl) rfl rfl rfl ?_
      refine J.no (Wan.is rfl rfl rfl rfl rfl) rfl rfl ?_
      refine J.no (Wan.is rfl rfl rfl rfl rfl) rfl rfl ?_
      refine J.no (Wan.is rfl rfl rfl rfl rfl) rfl rfl ?_
      refine J.y (op_pickT rfl rfl rfl) rfl rfl rfl ?_
      refine J.nil ?_
      refine J.then_n (J.k hK3 ?_)
      refine J.keepE [(1, _), (37, _)] ⟨rfl, rfl, trivial⟩ ?_
      refine J.condT rfl rfl ?_
      refine J.seq (fun K5 hK5 => ?_)
      refine J.region ?_
      refine J.y (op_assign rfl rfl) rfl rfl rfl ?_
      refine J.y (op_assign rfl rfl) rfl rfl rfl ?_
      refine J.nil ?_
      refine J.then_n (J.k hK5 ?_)
      refine J.keepE [(2, _), (3, _)] ⟨rfl, rfl, trivial⟩ ?_
      refine J.ret ?_
      refine J.then_r ?_
      exact J.done hw0 (fun _ _ h => h) (res2 rfl rfl rfl) (retOk () (by rw [show x.enc = [] from if_neg (by rw [err_10 (show x.out by unfold Hd.out; rw [cnt_zero]; omega)]; decide), err_10 (show x.out by unfold Hd.out; rw [cnt_zero]; omega)]) trivial [0] rfl (by decide))
    ·
      refine J.yg (Wan.is rfl rfl rfl rfl rfl) (op_fieldAddr (j := 2) rfl rfl Tryd.underlying60 rfl Tryd.sizeOf3 rfl) rfl rfl ?_
      refine J.yg (Wan.is rfl rfl rfl rfl rfl) (op_loadB 1 rfl rfl rfl Tryd.isAgg3 rfl) rfl rfl ?_
      refine J.yg (Wan.is rfl rfl rfl rfl rfl) (op_lss rfl rfl rfl) rfl rfl ?_
      refine J.y (op_pickF rfl rfl rfl) rfl rfl rfl ?_
      refine J.y (op_move rfl rfl) rfl rfl rfl ?_
      refine J.split (d := 23) rfl (fun h23 => ?_) (fun h23 => ?_)
      ·
        refine J.no (Wan.is rfl rfl rfl rfl rfl) rfl rfl ?_
        refine J.no (Wan.is rfl rfl rfl rfl rfl) rfl rfl ?_
        refine J.no (Wan.is rfl rfl rfl rfl rfl) rfl rfl ?_
        refine J.y (op_pickT rfl rfl rfl) rfl rfl rfl ?_
        refine J.y (op_move rfl rfl) rfl rfl rfl ?_
        refine J.no (Wan.is rfl rfl rfl rfl rfl) rfl rfl ?_
        refine J.no (Wan.is rfl rfl rfl rfl rfl) rfl rfl ?_
        refine J.no (Wan.is rfl rfl rfl rfl rfl) rfl rfl ?_
        refine J.y (op_pickT rfl rfl rfl) rfl rfl rfl ?_
        refine J.y (op_move rfl rfl) rfl rfl rfl ?_
        refine J.no (Wan.is rfl rfl rfl rfl rfl) rfl rfl ?_
        refine J.no (Wan.is rfl rfl rfl rfl rfl) rfl rfl ?_
        refine J.no (Wan.is rfl rfl rfl rfl rfl) rfl rfl ?_
        refine J.y (op_pickT rfl rfl rfl) rfl rfl rfl ?_
        refine J.nil ?_
        refine J.then_n (J.k hK3 ?_)
        refine J.keepE [(1, _), (37, _)] ⟨rfl, rfl, trivial⟩ ?_
        refine J.condT rfl rfl ?_
        refine J.seq (fun K6 hK6 => ?_)
        refine J.region ?_
        refine J.y (op_assign rfl rfl) rfl rfl rfl ?_
        refine J.y (op_assign rfl rfl) rfl rfl rfl ?_
        refine J.nil ?_
        refine J.then_n (J.k hK6 ?_)
        refine J.keepE [(2, _), (3, _)] ⟨rfl, rfl, trivial⟩ ?_
        refine J.ret ?_
        refine J.then_r ?_
        exact J.done hw0 (fun _ _ h => h) (res2 rfl rfl rfl) (retOk () (by rw [show x.enc = [] from if_neg (by rw [err_10 (show x.out by unfold Hd.out; rw [cnt_zero]; omega)]; decide), err_10 (show x.out by unfold Hd.out; rw [cnt_zero]; omega)]) trivial [0] rfl (by decide))
      ·
        refine J.yg (Wan.is rfl rfl rfl rfl rfl) (op_fieldAddr (j := 2) rfl rfl Tryd.underlying60 rfl Tryd.sizeOf3 rfl) rfl rfl ?_
        refine J.yg (Wan.is rfl rfl rfl rfl rfl) (op_loadB 1 rfl rfl rfl Tryd.isAgg3 rfl) rfl rfl ?_
        refine J.yg (Wan.is rfl rfl rfl rfl rfl) (op_gtr rfl rfl rfl) rfl rfl ?_
        refine J.y (op_pickF rfl rfl rfl) rfl rfl rfl ?_
        refine J.y (op_move rfl rfl) rfl rfl rfl ?_
        refine J.split (d := 28) rfl (fun h28 => ?_) (fun h28 => ?_)
        ·
          refine J.no (Wan.is rfl rfl rfl rfl rfl) rfl rfl ?_
          refine J.no (Wan.is rfl rfl rfl rfl rfl) rfl rfl ?_
          refine J.no (Wan.is rfl rfl rfl rfl rfl) rfl rfl ?_
          refine J.y (op_pickT rfl rfl rfl) rfl rfl rfl ?_
          refine J.y (op_move rfl rfl) rfl rfl rfl ?_
          refine J.no (Wan.is rfl rfl rfl rfl rfl) rfl rfl ?_
          refine J.no (Wan.is rfl rfl rfl rfl rfl) rfl rfl ?_
          refine J.no (Wan.is rfl rfl rfl rfl rfl) rfl rfl ?_
          refine J.y (op_pickT rfl rfl rfl) rfl rfl rfl ?_
          refine J.nil ?_
          refine J.then_n (J.k hK3 ?_)
          refine J.keepE [(1, _), (37, _)] ⟨rfl, rfl, trivial⟩ ?_
          refine J.condT rfl rfl ?_
          refine J.seq (fun K7 hK7 => ?_)
          refine J.region ?_
          refine J.y (op_assign rfl rfl) rfl rfl rfl ?_
          refine J.y (op_assign rfl rfl) rfl rfl rfl ?_
          refine J.nil ?_
          refine J.then_n (J.k hK7 ?_)
          refine J.keepE [(2, _), (3, _)] ⟨rfl, rfl, trivial⟩ ?_
          refine J.ret ?_
          refine J.then_r ?_
          exact J.done hw0 (fun _ _ h => h) (res2 rfl rfl rfl) (retOk () (by rw [show x.enc = [] from if_neg (by rw [err_10 (show x.out by unfold Hd.out; rw [cnt_zero]; omega)]; decide), err_10 (show x.out by unfold Hd.out; rw [cnt_zero]; omega)]) trivial [0] rfl (by decide))
        ·
          refine J.yg (Wan.is rfl rfl rfl rfl rfl) (op_fieldAddr (j := 3) rfl rfl Tryd.underlying60 rfl Tryd.sizeOf3 rfl) rfl rfl ?_
          refine J.yg (Wan.is rfl rfl rfl rfl rfl) (op_loadB 1 rfl rfl rfl Tryd.isAgg3 rfl) rfl rfl ?_
          refine J.yg (Wan.is rfl rfl rfl rfl rfl) (op_lss rfl rfl rfl) rfl rfl ?_
          refine J.y (op_pickF rfl rfl rfl) rfl rfl rfl ?_
          refine J.y (op_move rfl rfl) rfl rfl rfl ?_
          refine J.split (d := 33) rfl (fun h33 => ?_) (fun h33 => ?_)
          ·
            refine J.no (Wan.is rfl rfl rfl rfl rfl) rfl rfl ?_
            refine J.no (Wan.is rfl rfl rfl rfl rfl) rfl rfl ?_
            refine J.no (Wan.is rfl rfl rfl rfl rfl) rfl rfl ?_
            refine J.y (op_pickT rfl rfl rfl) rfl rfl rfl ?_
            refine J.nil ?_
            refine J.then_n (J.k hK3 ?_)
            refine J.keepE [(1, _), (37, _)] ⟨rfl, rfl, trivial⟩ ?_
            refine J.condT rfl rfl ?_
            refine J.seq (fun K8 hK8 => ?_)
            refine J.region ?_
            refine J.y (op_assign rfl rfl) rfl rfl rfl ?_
            refine J.y (op_assign rfl rfl) rfl rfl rfl ?_
            refine J.nil ?_
            refine J.then_n (J.k hK8 ?_)
            refine J.keepE [(2, _), (3, _)] ⟨rfl, rfl, trivial⟩ ?_
            refine J.ret ?_
            refine J.then_r ?_
            exact J.done hw0 (fun _ _ h => h) (res2 rfl rfl rfl) (retOk () (by rw [show x.enc = [] from if_neg (by rw [err_10 (show x.out by unfold Hd.out; rw [cnt_zero]; omega)]; decide), err_10 (show x.out by unfold Hd.out; rw [cnt_zero]; omega)]) trivial [0] rfl (by decide))
          ·
            refine J.yg (Wan.is rfl rfl rfl rfl rfl) (op_fieldAddr (j := 3) rfl rfl Tryd.underlying60 rfl Tryd.sizeOf3 rfl) rfl rfl ?_
            refine J.yg (Wan.is rfl rfl rfl rfl rfl) (op_loadB 1 rfl rfl rfl Tryd.isAgg3 rfl) rfl rfl ?_
            refine J.yg (Wan.is rfl rfl rfl rfl rfl) (op_gtr rfl rfl rfl) rfl rfl ?_
            refine J.y (op_pickF rfl rfl rfl) rfl rfl rfl ?_
            refine J.nil ?_
            refine J.then_n (J.k hK3 ?_)
            refine J.keepE [(1, _), (37, _)] ⟨rfl, rfl, trivial⟩ ?_
            refine J.ite rfl (fun h37 => ?_) (fun h37 => ?_)
            ·
              refine J.seq (fun K9 hK9 => ?_)
              refine J.region ?_
              refine J.y (op_assign rfl rfl) rfl rfl rfl ?_
              refine J.y (op_assign rfl rfl) rfl rfl rfl ?_
              refine J.nil ?_
              refine J.then_n (J.k hK9 ?_)
              refine J.keepE [(2, _), (3, _)] ⟨rfl, rfl, trivial⟩ ?_
              refine J.ret ?_
              refine J.then_r ?_
              exact J.done hw0 (fun _ _ h => h) (res2 rfl rfl rfl) (retOk () (by rw [show x.enc = [] from if_neg (by rw [err_10 (show x.out by unfold Hd.out; rw [cnt_zero]; omega)]; decide), err_10 (show x.out by unfold Hd.out; rw [cnt_zero]; omega)]) trivial [0] rfl (by decide))
            ·
              refine J.skip ?_
              refine J.then_n (J.k hK2 ?_)
              refine J.keepE [(1, _)] ⟨rfl, trivial⟩ ?_
              refine J.seq (fun K10 hK10 => ?_)
              refine J.region ?_
              refine J.y (op_assign rfl rfl) rfl rfl rfl ?_
              refine J.nil ?_
              refine J.then_n (J.k hK10 ?_)
              refine J.keepE [(1, _), (4, _)] ⟨rfl, rfl, trivial⟩ ?_
              refine J.seq (fun K11 hK11 => ?_)
              refine J.seq (fun K12 hK12 => ?_)
              refine J.region ?_
              refine J.y (op_assign rfl rfl) rfl rfl rfl ?_
              refine J.nil ?_
              refine J.then_n (J.k hK12 ?_)
              refine J.keepE [(1, _), (4, _), (5, _)] ⟨rfl, rfl, rfl, trivial⟩ ?_
              refine J.block ?_
              have hdep : 0 ≤ x.dep ∧ x.dep ≤ 4 := ⟨by omega, by omega⟩
              refine J.loop (X := Nat) (fun i => [(1, Ptr g1), (4, I ((2 ^ i : Nat) : Int)), (5, I i)]) (fun _ => [F, blk g1 [N64 x.ep, Str x.par, I x.dep, I x.aud, .slice A x.nodes.length c] 60]) (fun i => i ≤ x.dep.toNat) (fun i => x.dep.toNat - i) 0 (Nat.zero_le _) ⟨rfl, rfl, rfl, trivial⟩ (fun _ h => h) ?_
              intro i hi I0 hI0
              have hp2 : 2 ^ (i + 1) = 2 ^ i * 2 := Nat.pow_succ ..
              have hp3 : 2 ^ i ≤ 16 := Nat.le_trans (Nat.pow_le_pow_right (by decide) (show i ≤ 4 by omega)) (by decide)
              refine J.seq (fun K13 hK13 => ?_)
              refine J.seq (fun K14 hK14 => ?_)
              refine J.region ?_
              refine J.y (op_move rfl rfl) rfl rfl rfl ?_
              refine J.y (op_fieldAddr (j := 2) rfl rfl Tryd.underlying60 rfl Tryd.sizeOf3 rfl) rfl rfl rfl ?_
              refine J.y (op_loadB 1 rfl rfl rfl Tryd.isAgg3 rfl) rfl rfl rfl ?_
              refine J.y (op_lss rfl rfl rfl) rfl rfl rfl ?_
              refine J.nil ?_
              refine J.then_n (J.k hK14 ?_)
              refine J.keepE [(1, _), (4, _), (5, _), (41, _)] ⟨rfl, rfl, rfl, rfl, trivial⟩ ?_
              refine J.ite rfl (fun h41 => ?_) (fun h41 => ?_)
              ·
                refine J.skip ?_
                refine J.then_n (J.k hK13 ?_)
                refine J.keepE [(1, _), (4, _), (5, _)] ⟨rfl, rfl, rfl, trivial⟩ ?_
                refine J.seq (fun K15 hK15 => ?_)
                refine J.block ?_
                refine J.region ?_
                refine J.y (op_move rfl rfl) rfl rfl rfl ?_
                refine J.y ((op_mul rfl rfl rfl (by first | omega | (refine ⟨?_, ?_⟩ <;> omega))).as (v' := I ((2 ^ (i + 1) : Nat) : Int)) (congrArg I (by omega))) rfl rfl rfl ?_
                refine J.y (op_assign rfl rfl) rfl rfl rfl ?_
                refine J.nil ?_
                refine J.blk_n ?_
                refine J.then_n (J.k hK15 ?_)
                refine J.keepE [(1, _), (4, _), (5, _)] ⟨rfl, rfl, rfl, trivial⟩ ?_
                refine J.region ?_
                refine J.y (op_move rfl rfl) rfl rfl rfl ?_
                refine J.y ((op_add rfl rfl rfl (by first | omega | (refine ⟨?_, ?_⟩ <;> omega))).as (v' := I ((i + 1 : Nat) : Int)) (congrArg I (by omega))) rfl rfl rfl ?_
                refine J.y (op_assign rfl rfl) rfl rfl rfl ?_
                refine J.nil ?_
                refine J.then_n ?_
                exact J.kk (i + 1) (fun y (hy : _ ∧ x.dep.toNat - y < x.dep.toNat - i) => hI0 y hy.1 hy.2) ⟨by omega, by omega⟩ ⟨rfl, rfl, rfl, trivial⟩ (fun _ h => h)
              ·
                refine J.exit ?_
                refine J.then_x ?_
                refine J.then_x ?_
                refine J.blk_eq ?_
                refine J.then_n (J.k hK11 ?_)
                refine J.keepE [(1, _), (4, _)] ⟨rfl, rfl, trivial⟩ ?_
                refine J.seq (fun K16 hK16 => ?_)
                refine J.seq (fun K17 hK17 => ?_)
                have hno : ¬ x.out := by unfold Hd.out; rw [cnt_zero]; omega
                have hie : i = x.dep.toNat := by omega
                have hci : cnt x.dep = 2 ^ i := by unfold cnt; rw [if_neg (by omega), hie]
                refine J.region ?_
                refine J.y (op_fieldAddr (j := 4) rfl rfl Tryd.underlying60 rfl Tryd.sizeOf30 rfl) rfl rfl rfl ?_
                refine J.y (op_loadB 1 rfl rfl rfl Tryd.isAgg30 rfl) rfl rfl rfl ?_
                refine J.y (op_len Tryd.underlying30 rfl rfl) rfl rfl rfl ?_
                refine J.y (op_move rfl rfl) rfl rfl rfl ?_
                refine J.y (op_neq rfl rfl rfl) rfl rfl rfl ?_
                refine J.nil ?_
                refine J.then_n (J.k hK17 ?_)
                refine J.keepE [(1, _), (4, _), (50, _)] ⟨rfl, rfl, rfl, trivial⟩ ?_
                refine J.ite rfl (fun h50 => ?_) (fun h50 => ?_)
                ·
                  refine J.seq (fun K18 hK18 => ?_)
                  refine J.region ?_
                  refine J.y (op_assign rfl rfl) rfl rfl rfl ?_
                  refine J.y (op_assign rfl rfl) rfl rfl rfl ?_
                  refine J.nil ?_
                  refine J.then_n (J.k hK18 ?_)
                  refine J.keepE [(2, _), (3, _)] ⟨rfl, rfl, trivial⟩ ?_
                  refine J.ret ?_
                  refine J.then_r ?_
                  exact J.done hw0 (fun _ _ h => h) (res2 rfl rfl rfl) (retOk () (by have e22 := err_22 hno (show x.nodes.length ≠ cnt x.dep by omega); rw [show x.enc = [] from if_neg (by rw [e22]; decide), e22]) trivial [0] rfl (by decide))
                ·
                  refine J.skip ?_
                  refine J.then_n (J.k hK16 ?_)
                  refine J.keepE [(1, _), (4, _)] ⟨rfl, rfl, trivial⟩ ?_
                  refine J.cut (fun _ : Unit => [(1, Ptr g1), (4, I ((2 ^ i : Nat) : Int)), (6, Str (x.base ++ ((x.nodes.take 0).map ndB).flatten))]) (fun _ => [F, blk g1 [N64 x.ep, Str x.par, I x.dep, I x.aud, .slice A x.nodes.length c] 60]) (fun _ => True) (fun K19 hK19 => ?_) ?_
                  ·
                    have hcn : ¬ x.nodes.length ≠ cnt x.dep := by omega
                    have hbl := base_len hno
                    obtain ⟨o1, o2, o3, o4, o5⟩ := out_inv hno
                    have hc16 := cnt_le x.dep
                    refine J.draw [blk g1 [N64 x.ep, Str x.par, I x.dep, I x.aud, .slice A x.nodes.length c] 60] [] (.y 0 (.y 1 (.y 3 (.y 4 (.y 6 (.y 7 (.y 8 (.y 9 (.y 10 (.y 11 (.br (.e 2 (.y 5 (.e 12 (.y 13 (.y 14 (.y 15 .nil)))))) (.e 12 (.y 13 (.e 2 (.y 5 (.y 14 (.y 15 .nil))))))))))))))))) Tryd.wide (by decide +kernel) (by simp) ?_
                    refine J.dy rfl (op_fieldAddr (j := 0) rfl rfl Tryd.underlying60 rfl Tryd.sizeOf47 rfl) rfl rfl rfl rfl ?_
                    refine J.dy rfl (op_loadB 0 rfl rfl rfl Tryd.isAgg47 rfl) rfl rfl rfl rfl ?_
                    refine J.dy rfl (op_fieldAddr (j := 1) rfl rfl Tryd.underlying60 rfl Tryd.sizeOf9 rfl) rfl rfl rfl rfl ?_
                    refine J.dy rfl (op_loadB 0 rfl rfl rfl Tryd.isAgg9 rfl) rfl rfl rfl rfl ?_
                    refine J.dy rfl (op_fieldAddr (j := 2) rfl rfl Tryd.underlying60 rfl Tryd.sizeOf3 rfl) rfl rfl rfl rfl ?_
                    refine J.dy rfl (op_loadB 0 rfl rfl rfl Tryd.isAgg3 rfl) rfl rfl rfl rfl ?_
                    refine J.dy rfl ((op_cvZ_i64_u8 rfl rfl Tryd.underlying3 Tryd.underlying5).as (v' := B8 (UInt8.ofNat x.dep.toNat)) (by rw [show (x.dep % 256).toNat = x.dep.toNat by omega])) rfl rfl rfl rfl ?_
                    refine J.dy rfl (op_fieldAddr (j := 3) rfl rfl Tryd.underlying60 rfl Tryd.sizeOf3 rfl) rfl rfl rfl rfl ?_
                    refine J.dy rfl (op_loadB 0 rfl rfl rfl Tryd.isAgg3 rfl) rfl rfl rfl rfl ?_
                    refine J.dy rfl ((op_cvZ_i64_u8 rfl rfl Tryd.underlying3 Tryd.underlying5).as (v' := B8 (UInt8.ofNat x.aud.toNat)) (by rw [show (x.aud % 256).toNat = x.aud.toNat by omega])) rfl rfl rfl rfl ?_
                    refine J.dbr ?_ ?_
                    ·
                      refine J.de rfl (op_call rfl rfl ent71 (Ct.use0 (fun F' hF => num2_ct F' x.ep 4 (by omega) (by omega)))) rfl rfl rfl (by simp) ?_
                      intro g53 _
                      refine J.dy rfl ((op_sadd rfl rfl rfl (by simp only [List.length_append, Sha.numB_length, List.length_cons, List.length_nil]; omega))) rfl rfl rfl rfl ?_
                      refine J.deN (fun g => [blk g1 [N64 x.ep, Str x.par, I x.dep, I x.aud, .slice A x.nodes.length c] 60] ++ [blk g [B8 (UInt8.ofNat x.dep.toNat), B8 (UInt8.ofNat x.aud.toNat)] 5]) rfl (op_buildSlice (l := [.tmp 59, .tmp 62]) (xs := [[B8 (UInt8.ofNat x.dep.toNat)], [B8 (UInt8.ofNat x.aud.toNat)]]) rfl rfl rfl rfl Tryd.underlying99 el5 rfl (by decide) (by decide) (by simp)) rfl rfl rfl (fun _ _ h => List.mem_append_left _ h) (by simp) ?_
                      intro g63 _
                      change J _ _ _ [F, blk g1 [N64 x.ep, Str x.par, I x.dep, I x.aud, .slice A x.nodes.length c] 60, blk g63 [B8 (UInt8.ofNat x.dep.toNat), B8 (UInt8.ofNat x.aud.toNat)] 5] _
                      refine J.dy rfl (op_toStr (l := [(UInt8.ofNat x.dep.toNat), (UInt8.ofNat x.aud.toNat)]) rfl rfl Tryd.underlying99 Tryd.underlying5 Tryd.underlying9 (m := blk g63 [B8 (UInt8.ofNat x.dep.toNat), B8 (UInt8.ofNat x.aud.toNat)] 5) (by simp) (slB [(UInt8.ofNat x.dep.toNat), (UInt8.ofNat x.aud.toNat)] rfl)) rfl rfl rfl rfl ?_
                      refine J.dy rfl ((op_sadd rfl rfl rfl (by simp only [List.length_append, Sha.numB_length, List.length_cons, List.length_nil]; omega)).as (v' := Str (x.base ++ ((x.nodes.take 0).map ndB).flatten)) (by rw [List.take_zero]; unfold Hd.base; simp)) rfl rfl rfl rfl ?_
                      refine J.perm [0, 1] [F, blk g1 [N64 x.ep, Str x.par, I x.dep, I x.aud, .slice A x.nodes.length c] 60] rfl (by decide) ?_
                      refine J.dy rfl (op_assign rfl rfl) rfl rfl rfl rfl ?_
                      refine J.dnil ?_
                      refine J.then_n ?_
                      exact J.kk () hK19 trivial ⟨rfl, rfl, rfl, trivial⟩ (fun _ h => h)
                    ·
                      refine J.deN (fun g => [blk g1 [N64 x.ep, Str x.par, I x.dep, I x.aud, .slice A x.nodes.length c] 60] ++ [blk g [B8 (UInt8.ofNat x.dep.toNat), B8 (UInt8.ofNat x.aud.toNat)] 5]) rfl (op_buildSlice (l := [.tmp 59, .tmp 62]) (xs := [[B8 (UInt8.ofNat x.dep.toNat)], [B8 (UInt8.ofNat x.aud.toNat)]]) rfl rfl rfl rfl Tryd.underlying99 el5 rfl (by decide) (by decide) (by simp)) rfl rfl rfl (fun _ _ h => List.mem_append_left _ h) (by simp) ?_
                      intro g63 _
                      change J _ _ _ [F, blk g1 [N64 x.ep, Str x.par, I x.dep, I x.aud, .slice A x.nodes.length c] 60, blk g63 [B8 (UInt8.ofNat x.dep.toNat), B8 (UInt8.ofNat x.aud.toNat)] 5] _
                      refine J.dy rfl (op_toStr (l := [(UInt8.ofNat x.dep.toNat), (UInt8.ofNat x.aud.toNat)]) rfl rfl Tryd.underlying99 Tryd.underlying5 Tryd.underlying9 (m := blk g63 [B8 (UInt8.ofNat x.dep.toNat), B8 (UInt8.ofNat x.aud.toNat)] 5) (by simp) (slB [(UInt8.ofNat x.dep.toNat), (UInt8.ofNat x.aud.toNat)] rfl)) rfl rfl rfl rfl ?_
                      refine J.de rfl (op_call rfl rfl ent71 (Ct.use0 (fun F' hF => num2_ct F' x.ep 4 (by omega) (by omega)))) rfl rfl rfl (by simp) ?_
                      intro g53 _
                      refine J.dy rfl ((op_sadd rfl rfl rfl (by simp only [List.length_append, Sha.numB_length, List.length_cons, List.length_nil]; omega))) rfl rfl rfl rfl ?_
                      refine J.dy rfl ((op_sadd rfl rfl rfl (by simp only [List.length_append, Sha.numB_length, List.length_cons, List.length_nil]; omega)).as (v' := Str (x.base ++ ((x.nodes.take 0).map ndB).flatten)) (by rw [List.take_zero]; unfold Hd.base; simp)) rfl rfl rfl rfl ?_
                      refine J.perm [0, 1] [F, blk g1 [N64 x.ep, Str x.par, I x.dep, I x.aud, .slice A x.nodes.length c] 60] rfl (by decide) ?_
                      refine J.dy rfl (op_assign rfl rfl) rfl rfl rfl rfl ?_
                      refine J.dnil ?_
                      refine J.then_n ?_
                      exact J.kk () hK19 trivial ⟨rfl, rfl, rfl, trivial⟩ (fun _ h => h)
                  rintro _ _
                  have hcn : ¬ x.nodes.length ≠ cnt x.dep := by omega
                  have hbl := base_len hno
                  obtain ⟨o1, o2, o3, o4, o5⟩ := out_inv hno
                  have hc16 := cnt_le x.dep
                  refine J.seq (fun K20 hK20 => ?_)
                  refine J.seq (fun K21 hK21 => ?_)
                  refine J.region ?_
                  refine J.y (op_assign rfl rfl) rfl rfl rfl ?_
                  refine J.nil ?_
                  refine J.then_n (J.k hK21 ?_)
                  refine J.keepE [(1, _), (4, _), (6, _), (7, _)] ⟨rfl, rfl, rfl, rfl, trivial⟩ ?_
                  refine J.block ?_
                  refine J.loop (X := Nat) (fun k => [(1, Ptr g1), (4, I x.nodes.length), (6, Str (x.base ++ ((x.nodes.take k).map ndB).flatten)), (7, I k)]) (fun _ => [F, blk g1 [N64 x.ep, Str x.par, I x.dep, I x.aud, .slice A x.nodes.length c] 60]) (fun k => k ≤ x.nodes.length ∧ ∀ s ∈ x.nodes.take k, nodeP s) (fun k => x.nodes.length - k) 0 (⟨Nat.zero_le _, fun s hs => by simp at hs⟩) ⟨rfl, by rw [show x.nodes.length = 2 ^ i by omega]; rfl, rfl, rfl, trivial⟩ (fun _ h => h) ?_
                  intro k ⟨hk, node_all⟩ I0 hI0
                  refine J.seq (fun K22 hK22 => ?_)
                  refine J.seq (fun K23 hK23 => ?_)
                  refine J.region ?_
                  refine J.y (op_move rfl rfl) rfl rfl rfl ?_
                  refine J.y (op_move rfl rfl) rfl rfl rfl ?_
                  refine J.y (op_lss rfl rfl rfl) rfl rfl rfl ?_
                  refine J.nil ?_
                  refine J.then_n (J.k hK23 ?_)
                  refine J.keepE [(1, _), (4, _), (6, _), (7, _), (68, _)] ⟨rfl, rfl, rfl, rfl, rfl, trivial⟩ ?_
                  refine J.ite rfl (fun h68 => ?_) (fun h68 => ?_)
                  ·
                    refine J.skip ?_
                    refine J.then_n (J.k hK22 ?_)
                    refine J.keepE [(1, _), (4, _), (6, _), (7, _)] ⟨rfl, rfl, rfl, rfl, trivial⟩ ?_
                    refine J.seq (fun K24 hK24 => ?_)
                    refine J.block ?_
                    refine J.seq (fun K25 hK25 => ?_)
                    refine J.region ?_
                    refine J.y (op_fieldAddr (j := 4) rfl rfl Tryd.underlying60 rfl Tryd.sizeOf30 rfl) rfl rfl rfl ?_
                    refine J.y (op_loadB 1 rfl rfl rfl Tryd.isAgg30 rfl) rfl rfl rfl ?_
                    refine J.y (op_move rfl rfl) rfl rfl rfl ?_
                    refine J.y (op_indexAddr (i := k) rfl rfl rfl Tryd.underlying30 Tryd.sizeOf9 hsl (by omega)) rfl rfl rfl ?_
                    refine J.y (op_load rfl rfl Tryd.isAgg9 (m := F) (by simp) (hsl.elem (strsV_get (getSome [] (show k < x.nodes.length by omega))))) rfl rfl rfl ?_
                    refine J.y (op_assign rfl rfl) rfl rfl rfl ?_
                    refine J.nil ?_
                    refine J.then_n (J.k hK25 ?_)
                    refine J.keepE [(1, _), (4, _), (6, _), (7, _), (8, _)] ⟨rfl, rfl, rfl, rfl, rfl, trivial⟩ ?_
                    refine J.seq (fun K26 hK26 => ?_)
                    refine J.seq (fun K27 hK27 => ?_)
                    refine J.region ?_
                    refine J.y (op_move rfl rfl) rfl rfl rfl ?_
                    refine J.y (op_sne rfl rfl rfl) rfl rfl rfl ?_
                    refine J.y (op_move rfl rfl) rfl rfl rfl ?_
                    refine J.split (d := 78) rfl (fun h78 => ?_) (fun h78 => ?_)
                    ·
                      refine J.yg (Wan.is rfl rfl rfl rfl rfl) (op_move rfl rfl) rfl rfl ?_
                      refine J.yg (Wan.is rfl rfl rfl rfl rfl) (op_slen Tryd.underlying9 rfl rfl) rfl rfl ?_
                      refine J.yg (Wan.is rfl rfl rfl rfl rfl) (op_neq rfl rfl rfl) rfl rfl ?_
                      refine J.yg (Wan.is rfl rfl rfl rfl rfl) (op_move rfl rfl) rfl rfl ?_
                      refine J.split (d := 82) rfl (fun h82 => ?_) (fun h82 => ?_)
                      ·
                        refine J.no (Wan.is rfl rfl rfl rfl rfl) rfl rfl ?_
                        refine J.no (Wan.is rfl rfl rfl rfl rfl) rfl rfl ?_
                        refine J.no (Wan.is rfl rfl rfl rfl rfl) rfl rfl ?_
                        refine J.no (Wan.is rfl rfl rfl rfl rfl) rfl rfl ?_
                        refine J.no (Wan.un rfl rfl rfl rfl) rfl rfl ?_
                        refine J.no (Wan.un rfl rfl rfl rfl) rfl rfl ?_
                        refine J.no (Wan.un rfl rfl rfl rfl) rfl rfl ?_
                        refine J.no (Wan.is rfl rfl rfl rfl rfl) rfl rfl ?_
                        refine J.yg (Wan.is rfl rfl rfl rfl rfl) (op_pickT rfl rfl rfl) rfl rfl ?_
                        refine J.y (op_pickT rfl rfl rfl) rfl rfl rfl ?_
                        refine J.nil ?_
                        refine J.then_n (J.k hK27 ?_)
                        refine J.keepE [(1, _), (4, _), (6, _), (7, _), (8, _), (92, _)] ⟨rfl, rfl, rfl, rfl, rfl, rfl, trivial⟩ ?_
                        refine J.condT rfl rfl ?_
                        refine J.seq (fun K28 hK28 => ?_)
                        refine J.region ?_
                        refine J.y (op_assign rfl rfl) rfl rfl rfl ?_
                        refine J.y (op_assign rfl rfl) rfl rfl rfl ?_
                        refine J.nil ?_
                        refine J.then_n (J.k hK28 ?_)
                        refine J.keepE [(2, _), (3, _)] ⟨rfl, rfl, trivial⟩ ?_
                        refine J.ret ?_
                        refine J.then_r ?_
                        refine J.blk_r ?_
                        refine J.then_r ?_
                        refine J.then_r ?_
                        refine J.blk_r ?_
                        refine J.then_r ?_
                        exact J.done hw0 (fun _ _ h => h) (res2 rfl rfl rfl) (retOk () (by have e4 := err_4 hno hcn (getD_in (show k < x.nodes.length by omega)) (fun h => by rcases h with h | ⟨h, _⟩; exact h78 h; omega); rw [show x.enc = [] from if_neg (by rw [e4]; decide), e4]) trivial [0] rfl (by decide))
                      ·
                        refine J.yg (Wan.is rfl rfl rfl rfl rfl) (op_move rfl rfl) rfl rfl ?_
                        refine J.yg (Wan.is rfl rfl rfl rfl rfl) (op_sindex (i := 0) (c := (x.nodes.getD k []).getD 0 0) Tryd.underlying9 rfl rfl rfl (by rw [List.getD_eq_getElem?_getD (l := (x.nodes.getD k [])), List.getElem?_eq_getElem (show 0 < (x.nodes.getD k []).length by omega)]; rfl)) rfl rfl ?_
                        refine J.yg (Wan.is rfl rfl rfl rfl rfl) (op_neq rfl rfl rfl) rfl rfl ?_
                        refine J.yg (Wan.is rfl rfl rfl rfl rfl) (op_move rfl rfl) rfl rfl ?_
                        refine J.split (d := 86) rfl (fun h86 => ?_) (fun h86 => ?_)
                        ·
                          refine J.yg (Wan.is rfl rfl rfl rfl rfl) (op_move rfl rfl) rfl rfl ?_
                          refine J.yg (Wan.is rfl rfl rfl rfl rfl) (op_sindex (i := 0) (c := (x.nodes.getD k []).getD 0 0) Tryd.underlying9 rfl rfl rfl (by rw [List.getD_eq_getElem?_getD (l := (x.nodes.getD k [])), List.getElem?_eq_getElem (show 0 < (x.nodes.getD k []).length by omega)]; rfl)) rfl rfl ?_
                          refine J.yg (Wan.is rfl rfl rfl rfl rfl) (op_neq rfl rfl rfl) rfl rfl ?_
                          refine J.yg (Wan.is rfl rfl rfl rfl rfl) (op_pickT rfl rfl rfl) rfl rfl ?_
                          refine J.yg (Wan.is rfl rfl rfl rfl rfl) (op_pickF rfl rfl rfl) rfl rfl ?_
                          refine J.y (op_pickT rfl rfl rfl) rfl rfl rfl ?_
                          refine J.nil ?_
                          refine J.then_n (J.k hK27 ?_)
                          refine J.keepE [(1, _), (4, _), (6, _), (7, _), (8, _), (92, _)] ⟨rfl, rfl, rfl, rfl, rfl, rfl, trivial⟩ ?_
                          refine J.ite rfl (fun h92 => ?_) (fun h92 => ?_)
                          ·
                            refine J.seq (fun K29 hK29 => ?_)
                            refine J.region ?_
                            refine J.y (op_assign rfl rfl) rfl rfl rfl ?_
                            refine J.y (op_assign rfl rfl) rfl rfl rfl ?_
                            refine J.nil ?_
                            refine J.then_n (J.k hK29 ?_)
                            refine J.keepE [(2, _), (3, _)] ⟨rfl, rfl, trivial⟩ ?_
                            refine J.ret ?_
                            refine J.then_r ?_
                            refine J.blk_r ?_
                            refine J.then_r ?_
                            refine J.then_r ?_
                            refine J.blk_r ?_
                            refine J.then_r ?_
                            exact J.done hw0 (fun _ _ h => h) (res2 rfl rfl rfl) (retOk () (by have e4 := err_4 hno hcn (getD_in (show k < x.nodes.length by omega)) (fun h => by rcases h with h | ⟨_, h | h⟩; exact h78 h; exact h86 ((u8eq 1).2 h); exact h92 ((u8eq 2).2 h)); rw [show x.enc = [] from if_neg (by rw [e4]; decide), e4]) trivial [0] rfl (by decide))
                          ·
                            refine J.skip ?_
                            refine J.then_n (J.k hK26 ?_)
                            refine J.keepE [(1, _), (4, _), (6, _), (7, _), (8, _)] ⟨rfl, rfl, rfl, rfl, rfl, trivial⟩ ?_
                            have hnk := (show nodeP (x.nodes.getD k []) from by first | exact .inl (Decidable.not_not.1 h78) | exact .inr ⟨by omega, .inl ((u8eq 1).1 (Decidable.not_not.1 h86))⟩ | exact .inr ⟨by omega, .inr ((u8eq 2).1 (Decidable.not_not.1 h92))⟩)
                            have hn17 := node_len hnk
                            refine J.region ?_
                            refine J.y (op_move rfl rfl) rfl rfl rfl ?_
                            refine J.y (op_move rfl rfl) rfl rfl rfl ?_
                            refine J.y (op_slen Tryd.underlying9 rfl rfl) rfl rfl rfl ?_
                            refine J.y ((op_cv_i64_u64 rfl rfl Tryd.underlying3 Tryd.underlying47 (m := (x.nodes.getD k []).length) (by omega)).as (v' := N64 (x.nodes.getD k []).length) (N_W (by omega)).symm) rfl rfl rfl ?_
                            refine J.e (op_call rfl rfl ent71 (Ct.use0 (fun F' hF => num2_ct F' (x.nodes.getD k []).length 2 (by omega) (by omega)))) rfl rfl rfl ?_
                            intro g97 _
                            refine J.y (op_move rfl rfl) rfl rfl rfl ?_
                            refine J.y ((op_sadd rfl rfl rfl (by simp only [List.length_append, Sha.numB_length]; omega)).as (v' := Str (ndB (x.nodes.getD k []))) rfl) rfl rfl rfl ?_
                            refine J.y ((op_sadd rfl rfl rfl (by have h1 := nd_small (fun s hs => node_all s hs : ∀ s ∈ x.nodes.take k, nodeP s); rw [List.length_take] at h1; unfold ndB at h1 ⊢; simp only [List.length_append, Sha.numB_length]; omega)).as (v' := Str (x.base ++ ((x.nodes.take (k + 1)).map ndB).flatten)) (by rw [nd_take (by omega), List.append_assoc])) rfl rfl rfl ?_
                            refine J.y (op_assign rfl rfl) rfl rfl rfl ?_
                            refine J.nil ?_
                            refine J.blk_n ?_
                            refine J.then_n (J.k hK24 ?_)
                            refine J.keepE [(1, _), (4, _), (6, _), (7, _)] ⟨rfl, rfl, rfl, rfl, trivial⟩ ?_
                            refine J.region ?_
                            refine J.y (op_move rfl rfl) rfl rfl rfl ?_
                            refine J.y ((op_add rfl rfl rfl (by first | omega | (refine ⟨?_, ?_⟩ <;> omega))).as (v' := I ((k + 1 : Nat) : Int)) (congrArg I (by omega))) rfl rfl rfl ?_
                            refine J.y (op_assign rfl rfl) rfl rfl rfl ?_
                            refine J.nil ?_
                            refine J.then_n ?_
                            exact J.kk (k + 1) (fun y (hy : _ ∧ x.nodes.length - y < x.nodes.length - k) => hI0 y hy.1 hy.2) ⟨⟨by omega, allTake (by omega) node_all hnk⟩, by omega⟩ ⟨rfl, rfl, rfl, rfl, trivial⟩ (fun _ h => h)
                        ·
                          refine J.no (Wan.is rfl rfl rfl rfl rfl) rfl rfl ?_
                          refine J.no (Wan.is rfl rfl rfl rfl rfl) rfl rfl ?_
                          refine J.no (Wan.is rfl rfl rfl rfl rfl) rfl rfl ?_
                          refine J.yg (Wan.is rfl rfl rfl rfl rfl) (op_pickF rfl rfl rfl) rfl rfl ?_
                          refine J.yg (Wan.is rfl rfl rfl rfl rfl) (op_pickF rfl rfl rfl) rfl rfl ?_
                          refine J.y (op_pickT rfl rfl rfl) rfl rfl rfl ?_
                          refine J.nil ?_
                          refine J.then_n (J.k hK27 ?_)
                          refine J.keepE [(1, _), (4, _), (6, _), (7, _), (8, _), (92, _)] ⟨rfl, rfl, rfl, rfl, rfl, rfl, trivial⟩ ?_
                          refine J.condF rfl rfl ?_
                          refine J.skip ?_
                          refine J.then_n (J.k hK26 ?_)
                          refine J.keepE [(1, _), (4, _), (6, _), (7, _), (8, _)] ⟨rfl, rfl, rfl, rfl, rfl, trivial⟩ ?_
                          have hnk := (show nodeP (x.nodes.getD k []) from by first | exact .inl (Decidable.not_not.1 h78) | exact .inr ⟨by omega, .inl ((u8eq 1).1 (Decidable.not_not.1 h86))⟩ | exact .inr ⟨by omega, .inr ((u8eq 2).1 (Decidable.not_not.1 h92))⟩)
                          have hn17 := node_len hnk
                          refine J.region ?_
                          refine J.y (op_move rfl rfl) rfl rfl rfl ?_
                          refine J.y (op_move rfl rfl) rfl rfl rfl ?_
                          refine J.y (op_slen Tryd.underlying9 rfl rfl) rfl rfl rfl ?_
                          refine J.y ((op_cv_i64_u64 rfl rfl Tryd.underlying3 Tryd.underlying47 (m := (x.nodes.getD k []).length) (by omega)).as (v' := N64 (x.nodes.getD k []).length) (N_W (by omega)).symm) rfl rfl rfl ?_
                          refine J.e (op_call rfl rfl ent71 (Ct.use0 (fun F' hF => num2_ct F' (x.nodes.getD k []).length 2 (by omega) (by omega)))) rfl rfl rfl ?_
                          intro g97 _
                          refine J.y (op_move rfl rfl) rfl rfl rfl ?_
                          refine J.y ((op_sadd rfl rfl rfl (by simp only [List.length_append, Sha.numB_length]; omega)).as (v' := Str (ndB (x.nodes.getD k []))) rfl) rfl rfl rfl ?_
                          refine J.y ((op_sadd rfl rfl rfl (by have h1 := nd_small (fun s hs => node_all s hs : ∀ s ∈ x.nodes.take k, nodeP s); rw [List.length_take] at h1; unfold ndB at h1 ⊢; simp only [List.length_append, Sha.numB_length]; omega)).as (v' := Str (x.base ++ ((x.nodes.take (k + 1)).map ndB).flatten)) (by rw [nd_take (by omega), List.append_assoc])) rfl rfl rfl ?_
                          refine J.y (op_assign rfl rfl) rfl rfl rfl ?_
                          refine J.nil ?_
                          refine J.blk_n ?_
                          refine J.then_n (J.k hK24 ?_)
                          refine J.keepE [(1, _), (4, _), (6, _), (7, _)] ⟨rfl, rfl, rfl, rfl, trivial⟩ ?_
                          refine J.region ?_
                          refine J.y (op_move rfl rfl) rfl rfl rfl ?_
                          refine J.y ((op_add rfl rfl rfl (by first | omega | (refine ⟨?_, ?_⟩ <;> omega))).as (v' := I ((k + 1 : Nat) : Int)) (congrArg I (by omega))) rfl rfl rfl ?_
                          refine J.y (op_assign rfl rfl) rfl rfl rfl ?_
                          refine J.nil ?_
                          refine J.then_n ?_
                          exact J.kk (k + 1) (fun y (hy : _ ∧ x.nodes.length - y < x.nodes.length - k) => hI0 y hy.1 hy.2) ⟨⟨by omega, allTake (by omega) node_all hnk⟩, by omega⟩ ⟨rfl, rfl, rfl, rfl, trivial⟩ (fun _ h => h)
                    ·
                      refine J.no (Wan.is rfl rfl rfl rfl rfl) rfl rfl ?_
                      refine J.no (Wan.is rfl rfl rfl rfl rfl) rfl rfl ?_
                      refine J.no (Wan.is rfl rfl rfl rfl rfl) rfl rfl ?_
                      refine J.no (Wan.is rfl rfl rfl rfl rfl) rfl rfl ?_
                      refine J.no (Wan.un rfl rfl rfl rfl) rfl rfl ?_
                      refine J.no (Wan.un rfl rfl rfl rfl) rfl rfl ?_
                      refine J.no (Wan.un rfl rfl rfl rfl) rfl rfl ?_
                      refine J.no (Wan.un rfl rfl rfl rfl) rfl rfl ?_
                      refine J.no (Wan.un rfl rfl rfl rfl) rfl rfl ?_
                      refine J.no (Wan.un rfl rfl rfl rfl) rfl rfl ?_
                      refine J.no (Wan.un rfl rfl rfl rfl) rfl rfl ?_
                      refine J.no (Wan.un rfl rfl rfl rfl) rfl rfl ?_
                      refine J.no (Wan.is rfl rfl rfl rfl rfl) rfl rfl ?_
                      refine J.y (op_pickF rfl rfl rfl) rfl rfl rfl ?_
                      refine J.nil ?_
                      refine J.then_n (J.k hK27 ?_)
                      refine J.keepE [(1, _), (4, _), (6, _), (7, _), (8, _), (92, _)] ⟨rfl, rfl, rfl, rfl, rfl, rfl, trivial⟩ ?_
                      refine J.condF rfl rfl ?_
                      refine J.skip ?_
                      refine J.then_n (J.k hK26 ?_)
                      refine J.keepE [(1, _), (4, _), (6, _), (7, _), (8, _)] ⟨rfl, rfl, rfl, rfl, rfl, trivial⟩ ?_
                      have hnk := (show nodeP (x.nodes.getD k []) from by first | exact .inl (Decidable.not_not.1 h78) | exact .inr ⟨by omega, .inl ((u8eq 1).1 (Decidable.not_not.1 h86))⟩ | exact .inr ⟨by omega, .inr ((u8eq 2).1 (Decidable.not_not.1 h92))⟩)
                      have hn17 := node_len hnk
                      refine J.region ?_
                      refine J.y (op_move rfl rfl) rfl rfl rfl ?_
                      refine J.y (op_move rfl rfl) rfl rfl rfl ?_
                      refine J.y (op_slen Tryd.underlying9 rfl rfl) rfl rfl rfl ?_
                      refine J.y ((op_cv_i64_u64 rfl rfl Tryd.underlying3 Tryd.underlying47 (m := (x.nodes.getD k []).length) (by omega)).as (v' := N64 (x.nodes.getD k []).length) (N_W (by omega)).symm) rfl rfl rfl ?_
                      refine J.e (op_call rfl rfl ent71 (Ct.use0 (fun F' hF => num2_ct F' (x.nodes.getD k []).length 2 (by omega) (by omega)))) rfl rfl rfl ?_
                      intro g97 _
                      refine J.y (op_move rfl rfl) rfl rfl rfl ?_
                      refine J.y ((op_sadd rfl rfl rfl (by simp only [List.length_append, Sha.numB_length]; omega)).as (v' := Str (ndB (x.nodes.getD k []))) rfl) rfl rfl rfl ?_
                      refine J.y ((op_sadd rfl rfl rfl (by have h1 := nd_small (fun s hs => node_all s hs : ∀ s ∈ x.nodes.take k, nodeP s); rw [List.length_take] at h1; unfold ndB at h1 ⊢; simp only [List.length_append, Sha.numB_length]; omega)).as (v' := Str (x.base ++ ((x.nodes.take (k + 1)).map ndB).flatten)) (by rw [nd_take (by omega), List.append_assoc])) rfl rfl rfl ?_
                      refine J.y (op_assign rfl rfl) rfl rfl rfl ?_
                      refine J.nil ?_
                      refine J.blk_n ?_
                      refine J.then_n (J.k hK24 ?_)
                      refine J.keepE [(1, _), (4, _), (6, _), (7, _)] ⟨rfl, rfl, rfl, rfl, trivial⟩ ?_
                      refine J.region ?_
                      refine J.y (op_move rfl rfl) rfl rfl rfl ?_
                      refine J.y ((op_add rfl rfl rfl (by first | omega | (refine ⟨?_, ?_⟩ <;> omega))).as (v' := I ((k + 1 : Nat) : Int)) (congrArg I (by omega))) rfl rfl rfl ?_
                      refine J.y (op_assign rfl rfl) rfl rfl rfl ?_
                      refine J.nil ?_
                      refine J.then_n ?_
                      exact J.kk (k + 1) (fun y (hy : _ ∧ x.nodes.length - y < x.nodes.length - k) => hI0 y hy.1 hy.2) ⟨⟨by omega, allTake (by omega) node_all hnk⟩, by omega⟩ ⟨rfl, rfl, rfl, rfl, trivial⟩ (fun _ h => h)
                  ·
                    refine J.exit ?_
                    refine J.then_x ?_
                    refine J.then_x ?_
                    refine J.blk_eq ?_
                    refine J.then_n (J.k hK20 ?_)
                    refine J.keepE [(6, _)] ⟨rfl, trivial⟩ ?_
                    refine J.seq (fun K30 hK30 => ?_)
                    rw [List.take_of_length_le (by omega)] at node_all
                    have e0 := err_0 hno hcn node_all
                    refine J.region ?_
                    refine J.y (op_move rfl rfl) rfl rfl rfl ?_
                    refine J.y (op_assign rfl rfl) rfl rfl rfl ?_
                    refine J.y (op_assign rfl rfl) rfl rfl rfl ?_
                    refine J.nil ?_
                    refine J.then_n (J.k hK30 ?_)
                    refine J.keepE [(2, _), (3, _)] ⟨rfl, rfl, trivial⟩ ?_
                    refine J.ret ?_
                    exact J.done hw0 (fun _ _ h => h) (res2 rfl rfl rfl) (retOk () (by rw [show x.enc = x.bytes from if_pos e0, e0, List.take_of_length_le (by omega)]; rfl) trivial [0] rfl (by decide))

theorem digest19_ct (F : Hp) (x : Hd) (A : Option Addr) (c : Nat) (hg : x.good) (hsl : Sl F 1 A x.nodes.length c (strsV x.nodes)) :
    Ct Tryd.prog 29 [.agg #[N64 x.ep, Str x.par, I x.dep, I x.aud, .slice A x.nodes.length c]] [F] (fun _ : Unit => Str x.dig) (fun _ => True) (fun _ => [F]) := by
  refine Ct.walk Tryd.func29 rfl Tryd.ntmps29 rfl (fun w0 hw0 => ?_)
  change J _ [(0, _)] _ _ _
  refine J.seq (fun K1 hK1 => ?_)
  refine J.region ?_
  refine J.e (op_box rfl rfl (l := [N64 x.ep, Str x.par, I x.dep, I x.aud, .slice A x.nodes.length c]) rfl) rfl rfl rfl ?_
  intro g1 _
  change J _ _ _ [F, blk g1 [N64 x.ep, Str x.par, I x.dep, I x.aud, .slice A x.nodes.length c] 60] _
  refine J.y (op_assign rfl rfl) rfl rfl rfl ?_
  refine J.nil ?_
  refine J.then_n (J.k hK1 ?_)
  refine J.keepE [(1, _)] ⟨rfl, trivial⟩ ?_
  refine J.seq (fun K2 hK2 => ?_)
  refine J.region ?_
  refine J.y (op_loadBA 1 rfl rfl rfl Tryd.isAgg60 Tryd.sizeOf60 rfl) rfl rfl rfl ?_
  refine J.e (op_call rfl rfl ent31 (Ct.use0 (fun F' hF => encode19_ct F' x A c hg (hsl.mono (hF F (by simp)))))) rfl rfl rfl ?_
  intro g7 _
  refine J.y (op_move rfl rfl) rfl rfl rfl ?_
  refine J.y (op_extract (v := Str x.enc) rfl rfl rfl) rfl rfl rfl ?_
  refine J.y (op_extract (v := I x.err) rfl rfl rfl) rfl rfl rfl ?_
  refine J.y (op_assign rfl rfl) rfl rfl rfl ?_
  refine J.y (op_assign rfl rfl) rfl rfl rfl ?_
  refine J.nil ?_
  refine J.then_n (J.k hK2 ?_)
  refine J.keepE [(3, _), (4, _)] ⟨rfl, rfl, trivial⟩ ?_
  refine J.seq (fun K3 hK3 => ?_)
  refine J.seq (fun K4 hK4 => ?_)
  refine J.region ?_
  refine J.y (op_move rfl rfl) rfl rfl rfl ?_
  refine J.y (op_neq rfl rfl rfl) rfl rfl rfl ?_
  refine J.nil ?_
  refine J.then_n (J.k hK4 ?_)
  refine J.keepE [(3, _), (11, _)] ⟨rfl, rfl, trivial⟩ ?_
  refine J.ite rfl (fun h11 => ?_) (fun h11 => ?_)
  ·
    refine J.seq (fun K5 hK5 => ?_)
    refine J.region ?_
    refine J.y (op_assign rfl rfl) rfl rfl rfl ?_
    refine J.nil ?_
    refine J.then_n (J.k hK5 ?_)
    refine J.keepE [(2, _)] ⟨rfl, trivial⟩ ?_
    refine J.ret ?_
    refine J.then_r ?_
    exact J.done hw0 (fun _ _ h => h) (res1 rfl rfl) (retOk () (by unfold Hd.dig; rw [if_neg (by omega)]) trivial [0] rfl (by decide))
  ·
    refine J.skip ?_
    refine J.then_n (J.k hK3 ?_)
    refine J.keepE [(3, _)] ⟨rfl, trivial⟩ ?_
    refine J.seq (fun K6 hK6 => ?_)
    have e0 : x.err = 0 := by omega
    refine J.region ?_
    refine J.y ((op_move rfl rfl).as (v' := Str x.bytes) (congrArg Str (enc_0 e0))) rfl rfl rfl ?_
    refine J.e (op_buildSlice (l := [.tmp 12]) (xs := [[Str (x.bytes)]]) rfl rfl rfl rfl Tryd.underlying30 el9 rfl (by decide) (by decide) (by simp)) rfl rfl rfl ?_
    intro g13 _
    change J _ _ _ [F, blk g1 [N64 x.ep, Str x.par, I x.dep, I x.aud, .slice A x.nodes.length c] 60, blk g13 [Str (x.bytes)] 9] _
    refine J.e (op_call rfl rfl ent38 (Ct.use0 (fun F' hF => tagged6_ct F' 14 (some ⟨g13, 0, none⟩) 1 1 [x.bytes] ((slS [x.bytes] rfl).mono (hF (blk g13 (([x.bytes] : List (List UInt8)).map fun s => Str s) 9) (by simp))) (by have := bytes_len e0; simp; omega) (by decide)))) rfl rfl rfl ?_
    intro g14 _
    refine J.y (op_assign rfl rfl) rfl rfl rfl ?_
    refine J.nil ?_
    refine J.then_n (J.k hK6 ?_)
    refine J.keepE [(2, _)] ⟨rfl, trivial⟩ ?_
    refine J.ret ?_
    exact J.done hw0 (fun _ _ h => h) (res1 rfl rfl) (retOk () (by unfold Hd.dig; rw [if_pos e0]) trivial [0] rfl (by decide))

def tnode (c : UInt8) : List UInt8 := if c &&& 7 = 0 then [0] else [c &&& 7] ++ (noughts.take 16).drop 1 ++ [c]
def told (ep : Nat) (p : List UInt8) (d a : Int) (ns : List UInt8) : Hd := ⟨ep, p.take 20, d, a, (ns.take 20).map tnode⟩
theorem tnode_len (c : UInt8) : (tnode c).length ≤ 17 := by
  unfold tnode
  split
  · decide
  · simp only [List.length_append, List.length_drop, List.length_take, List.length_singleton]; rw [show noughts.length = 16 from List.length_replicate]; decide
theorem told_small (ep : Nat) (p : List UInt8) (d a : Int) (ns : List UInt8) : ∀ s ∈ (told ep p d a ns).nodes, s.length ≤ 17 := fun s hs => by
  obtain ⟨c, _, rfl⟩ := List.mem_map.1 hs
  exact tnode_len c
theorem told_good {ep : Nat} (p : List UInt8) (d a : Int) (ns : List UInt8) (h : ep < 18446744073709551616) : (told ep p d a ns).good := ⟨h, by show (p.take 20).length ≤ _; rw [List.length_take]; omega, by show ((ns.take 20).map tnode).length ≤ _; rw [List.length_map, List.length_take]; omega⟩
theorem told_take {ns : List UInt8} {i : Nat} (h : i < ns.length) (h2 : i < 20) : ((ns.take 20).map tnode).take (i + 1) = ((ns.take 20).map tnode).take i ++ [tnode (ns.getD i 0)] := by
  rw [List.take_succ_eq_append_getElem (by rw [List.length_map, List.length_take]; omega)]
  congr 1
  rw [List.getElem_map, List.getElem_take, List.getD_eq_getElem?_getD, List.getElem?_eq_getElem h]; rfl
theorem and7_0 {c : UInt8} : ((c &&& 7).toNat : Int) = 0 ↔ c &&& 7 = 0 := ⟨fun h => UInt8.toNat_inj.1 (by rw [show (0 : UInt8).toNat = 0 from rfl]; omega), fun h => by rw [h]; rfl⟩

theorem told_ct (F : Hp) (ep : Nat) (hep : ep < 18446744073709551616) (p : List UInt8) (d a : Int) (ns : List UInt8) :
    Ct Tryd.prog 28 [.agg #[N64 ep, Str p, I d, I a, Str ns]] [F] (fun x : Option Addr × Nat × Hp => .agg (Hd.cells (told ep p d a ns) x.1 x.2.1).toArray) (fun x => Sl x.2.2 1 x.1 (told ep p d a ns).nodes.length x.2.1 (strsV (told ep p d a ns).nodes)) (fun x => [F, x.2.2]) := by
  refine Ct.walk Tryd.func28 rfl Tryd.ntmps28 rfl (fun w0 hw0 => ?_)
  change J _ [(0, _)] _ _ _
  refine J.seq (fun K1 hK1 => ?_)
  refine J.region ?_
  refine J.e (op_box rfl rfl (l := [N64 ep, Str p, I d, I a, Str ns]) rfl) rfl rfl rfl ?_
  intro g1 _
  change J _ _ _ [F, blk g1 [N64 ep, Str p, I d, I a, Str ns] 55] _
  refine J.e (op_alloc rfl Tryd.zeroValue57 rfl) rfl rfl rfl ?_
  intro g2 _
  change J _ _ _ [F, blk g1 [N64 ep, Str p, I d, I a, Str ns] 55, blk g2 _ 57] _
  refine J.nil ?_
  refine J.then_n (J.k hK1 ?_)
  refine J.keepE [(1, _), (2, _)] ⟨rfl, rfl, trivial⟩ ?_
  refine J.seq (fun K2 hK2 => ?_)
  refine J.draw [blk g1 [N64 ep, Str p, I d, I a, Str ns] 55] [15] (.y 0 (.y 1 (.y 2 (.y 3 (.y 4 (.y 5 (.y 6 (.y 7 (.y 8 (.y 9 (.y 10 (.y 11 (.y 12 (.y 13 (.e 14 (.e 15 .nil)))))))))))))))) Tryd.wide (by decide +kernel) (by simp) ?_
  refine J.dy rfl (op_fieldAddr (j := 0) rfl rfl Tryd.underlying55 rfl Tryd.sizeOf47 rfl) rfl rfl rfl rfl ?_
  refine J.dy rfl (op_loadB 0 rfl rfl rfl Tryd.isAgg47 rfl) rfl rfl rfl rfl ?_
  refine J.dy rfl (op_fieldAddr (j := 1) rfl rfl Tryd.underlying55 rfl Tryd.sizeOf9 rfl) rfl rfl rfl rfl ?_
  refine J.dy rfl (op_loadB 0 rfl rfl rfl Tryd.isAgg9 rfl) rfl rfl rfl rfl ?_
  refine J.dy rfl (op_fieldAddr (j := 1) rfl rfl Tryd.underlying55 rfl Tryd.sizeOf9 rfl) rfl rfl rfl rfl ?_
  refine J.dy rfl (op_loadB 0 rfl rfl rfl Tryd.isAgg9 rfl) rfl rfl rfl rfl ?_
  refine J.dy rfl (op_slen Tryd.underlying9 rfl rfl) rfl rfl rfl rfl ?_
  refine J.dy rfl ((op_min rfl rfl rfl).as (v' := I ((min p.length 20 : Nat) : Int)) (congrArg I (by omega))) rfl rfl rfl rfl ?_
  refine J.dy rfl ((op_sslice (l := 0) (h := min p.length 20) Tryd.underlying9 rfl rfl rfl rfl ⟨by omega, by omega⟩).as (v' := Str (p.take 20)) (congrArg Str (Sha.take_min _ _))) rfl rfl rfl rfl ?_
  refine J.dy rfl (op_fieldAddr (j := 2) rfl rfl Tryd.underlying55 rfl Tryd.sizeOf3 rfl) rfl rfl rfl rfl ?_
  refine J.dy rfl (op_loadB 0 rfl rfl rfl Tryd.isAgg3 rfl) rfl rfl rfl rfl ?_
  refine J.dy rfl (op_fieldAddr (j := 3) rfl rfl Tryd.underlying55 rfl Tryd.sizeOf3 rfl) rfl rfl rfl rfl ?_
  refine J.dy rfl (op_loadB 0 rfl rfl rfl Tryd.isAgg3 rfl) rfl rfl rfl rfl ?_
  refine J.dy rfl (op_buildStruct (l := [(0, .tmp 8), (1, .tmp 15), (2, .tmp 17), (3, .tmp 19)]) (vs := [N64 ep, Str (p.take 20), I d, I a]) (places := [(0, 1), (1, 1), (2, 1), (3, 1), (4, 1)]) (r := [N64 ep, Str (p.take 20), I d, I a, .slice none 0 0]) rfl rfl rfl Tryd.underlying57 Tryd.zeroValue57 (fun _ => by kernel_rfl) rfl) rfl rfl rfl rfl ?_
  refine J.de rfl (op_alloc rfl Tryd.zeroValue57 rfl) rfl rfl rfl (by simp) ?_
  intro g3 _
  change J _ _ _ [F, blk g1 [N64 ep, Str p, I d, I a, Str ns] 55, blk g2 _ 57, blk g3 _ 57] _
  refine J.ds rfl (op_storeAll (l := [N64 0, Str [], I 0, I 0, .slice none 0 0]) (i := 3) (vs := [N64 ep, Str (p.take 20), I d, I a, .slice none 0 0]) rfl rfl rfl rfl rfl Tryd.sizeOf57 rfl rfl) rfl rfl rfl (fun _ _ => ?_)
  change J _ _ _ [F, blk g1 [N64 ep, Str p, I d, I a, Str ns] 55, blk g2 _ 57, blk g3 [N64 ep, Str (p.take 20), I d, I a, .slice none 0 0] 57] _
  refine J.addEmpty [0, 1, 2, 3, 4] [F, blk g1 [N64 ep, Str p, I d, I a, Str ns] 55, blk g2 _ 57, blk g3 [N64 ep, Str (p.take 20), I d, I a, .slice none 0 0] 57, (fun _ => none)] rfl (by decide) ?_
  refine J.dnil ?_
  refine J.then_n (J.k hK2 ?_)
  refine J.keepE [(1, _), (2, _), (3, _)] ⟨rfl, rfl, rfl, trivial⟩ ?_
  refine J.seq (fun K3 hK3 => ?_)
  refine J.seq (fun K4 hK4 => ?_)
  refine J.region ?_
  refine J.y (op_assign rfl rfl) rfl rfl rfl ?_
  refine J.nil ?_
  refine J.then_n (J.k hK4 ?_)
  refine J.keepE [(1, _), (2, _), (3, _), (4, _)] ⟨rfl, rfl, rfl, rfl, trivial⟩ ?_
  refine J.block ?_
  refine J.loop (X := Nat × Option Addr × Nat × Hp) (fun x => [(1, Ptr g1), (2, Ptr g2), (3, Ptr g3), (4, I x.1)]) (fun x => [F, blk g1 [N64 ep, Str p, I d, I a, Str ns] 55, blk g2 [N64 0, Str [], I 0, I 0, .slice none 0 0] 57, blk g3 [N64 ep, Str (p.take 20), I d, I a, .slice x.2.1 x.1 x.2.2.1] 57, x.2.2.2]) (fun x => (x.1 ≤ ns.length ∧ x.1 ≤ 20) ∧ Row x.2.2.2 9 1 x.2.1 x.1 x.2.2.1 (strsV (((ns.take 20).map tnode).take x.1))) (fun x => 20 - x.1) (0, none, 0, fun _ => none) (⟨⟨Nat.zero_le _, Nat.zero_le _⟩, by rw [List.take_zero]; exact RowQ.nil⟩) ⟨rfl, rfl, rfl, rfl, trivial⟩ (fun _ h => h) ?_
  rintro ⟨i, A, c, m⟩ ⟨hi, hr⟩ I0 hI0
  dsimp only at hi hr ⊢
  refine J.seq (fun K5 hK5 => ?_)
  refine J.seq (fun K6 hK6 => ?_)
  refine J.region ?_
  refine J.y (op_move rfl rfl) rfl rfl rfl ?_
  refine J.y (op_fieldAddr (j := 4) rfl rfl Tryd.underlying55 rfl Tryd.sizeOf9 rfl) rfl rfl rfl ?_
  refine J.y (op_loadB 1 rfl rfl rfl Tryd.isAgg9 rfl) rfl rfl rfl ?_
  refine J.y (op_slen Tryd.underlying9 rfl rfl) rfl rfl rfl ?_
  refine J.y (op_lss rfl rfl rfl) rfl rfl rfl ?_
  refine J.y (op_move rfl rfl) rfl rfl rfl ?_
  refine J.split (d := 26) rfl (fun h26 => ?_) (fun h26 => ?_)
  ·
    refine J.yg (Wan.is rfl rfl rfl rfl rfl) (op_move rfl rfl) rfl rfl ?_
    refine J.yg (Wan.is rfl rfl rfl rfl rfl) (op_lss rfl rfl rfl) rfl rfl ?_
    refine J.y (op_pickT rfl rfl rfl) rfl rfl rfl ?_
    refine J.nil ?_
    refine J.then_n (J.k hK6 ?_)
    refine J.keepE [(1, _), (2, _), (3, _), (4, _), (29, _)] ⟨rfl, rfl, rfl, rfl, rfl, trivial⟩ ?_
    refine J.ite rfl (fun h29 => ?_) (fun h29 => ?_)
    ·
      refine J.skip ?_
      refine J.then_n (J.k hK5 ?_)
      refine J.keepE [(1, _), (2, _), (3, _), (4, _)] ⟨rfl, rfl, rfl, rfl, trivial⟩ ?_
      refine J.seq (fun K7 hK7 => ?_)
      refine J.block ?_
      refine J.seq (fun K8 hK8 => ?_)
      refine J.region ?_
      refine J.y (op_fieldAddr (j := 4) rfl rfl Tryd.underlying55 rfl Tryd.sizeOf9 rfl) rfl rfl rfl ?_
      refine J.y (op_loadB 1 rfl rfl rfl Tryd.isAgg9 rfl) rfl rfl rfl ?_
      refine J.y (op_move rfl rfl) rfl rfl rfl ?_
      refine J.y (op_sindex (i := i) (c := (ns.getD i 0)) Tryd.underlying9 rfl rfl rfl (by rw [List.getD_eq_getElem?_getD, List.getElem?_eq_getElem (show i < ns.length by omega)]; rfl)) rfl rfl rfl ?_
      refine J.y (op_assign rfl rfl) rfl rfl rfl ?_
      refine J.nil ?_
      refine J.then_n (J.k hK8 ?_)
      refine J.keepE [(1, _), (2, _), (3, _), (4, _), (5, _)] ⟨rfl, rfl, rfl, rfl, rfl, trivial⟩ ?_
      refine J.cut (fun _ : Unit => [(1, Ptr g1), (2, Ptr g2), (3, Ptr g3), (4, I i), (5, B8 (ns.getD i 0)), (6, Str ([(ns.getD i 0) &&& 7] ++ (noughts.take 16).drop 1 ++ [(ns.getD i 0)]))]) (fun _ => [F, blk g1 [N64 ep, Str p, I d, I a, Str ns] 55, blk g2 [N64 0, Str [], I 0, I 0, .slice none 0 0] 57, blk g3 [N64 ep, Str (p.take 20), I d, I a, .slice A i c] 57, m]) (fun _ => True) (fun K9 hK9 => ?_) ?_
      ·
        refine J.draw [] [] (.y 0 (.y 1 (.y 4 (.y 6 (.br (.e 2 (.y 3 (.y 5 (.e 7 (.y 8 (.y 9 (.y 10 .nil))))))) (.e 7 (.y 8 (.e 2 (.y 3 (.y 5 (.y 9 (.y 10 .nil)))))))))))) Tryd.wide (by decide +kernel) (by simp) ?_
        refine J.dy rfl (op_move rfl rfl) rfl rfl rfl rfl ?_
        refine J.dy rfl (op_and8 (b := 7) rfl rfl rfl) rfl rfl rfl rfl ?_
        refine J.dy rfl (op_sslice (a := noughts) (l := 1) (h := 16) Tryd.underlying9 rfl rfl rfl rfl ⟨by omega, by decide⟩) rfl rfl rfl rfl ?_
        refine J.dy rfl (op_move rfl rfl) rfl rfl rfl rfl ?_
        refine J.dbr ?_ ?_
        ·
          refine J.deN (fun g => _ ++ [blk g [B8 ((ns.getD i 0) &&& 7)] 5]) rfl (op_buildSlice (l := [.tmp 37]) (xs := [[B8 ((ns.getD i 0) &&& 7)]]) rfl rfl rfl rfl Tryd.underlying99 el5 rfl (by decide) (by decide) (by simp)) rfl rfl rfl (fun _ _ h => List.mem_append_left _ h) (by simp) ?_
          intro g38 _
          change J _ _ _ [F, blk g1 [N64 ep, Str p, I d, I a, Str ns] 55, blk g2 [N64 0, Str [], I 0, I 0, .slice none 0 0] 57, blk g3 [N64 ep, Str (p.take 20), I d, I a, .slice A i c] 57, m, blk g38 [B8 ((ns.getD i 0) &&& 7)] 5] _
          refine J.dy rfl (op_toStr (l := [(ns.getD i 0) &&& 7]) rfl rfl Tryd.underlying99 Tryd.underlying5 Tryd.underlying9 (m := blk g38 [B8 ((ns.getD i 0) &&& 7)] 5) (by simp) (slB [(ns.getD i 0) &&& 7] rfl)) rfl rfl rfl rfl ?_
          refine J.dy rfl ((op_sadd rfl rfl rfl (by simp [noughts]))) rfl rfl rfl rfl ?_
          refine J.deN (fun g => _ ++ [blk g [B8 (ns.getD i 0)] 5]) rfl (op_buildSlice (l := [.tmp 42]) (xs := [[B8 (ns.getD i 0)]]) rfl rfl rfl rfl Tryd.underlying99 el5 rfl (by decide) (by decide) (by simp)) rfl rfl rfl (fun _ _ h => List.mem_append_left _ h) (by simp) ?_
          intro g43 _
          change J _ _ _ [F, blk g1 [N64 ep, Str p, I d, I a, Str ns] 55, blk g2 [N64 0, Str [], I 0, I 0, .slice none 0 0] 57, blk g3 [N64 ep, Str (p.take 20), I d, I a, .slice A i c] 57, m, blk g38 [B8 ((ns.getD i 0) &&& 7)] 5, blk g43 [B8 (ns.getD i 0)] 5] _
          refine J.dy rfl (op_toStr (l := [(ns.getD i 0)]) rfl rfl Tryd.underlying99 Tryd.underlying5 Tryd.underlying9 (m := blk g43 [B8 (ns.getD i 0)] 5) (by simp) (slB [(ns.getD i 0)] rfl)) rfl rfl rfl rfl ?_
          refine J.dy rfl ((op_sadd rfl rfl rfl (by simp [noughts]))) rfl rfl rfl rfl ?_
          refine J.perm [0, 1, 2, 3, 4] [F, blk g1 [N64 ep, Str p, I d, I a, Str ns] 55, blk g2 [N64 0, Str [], I 0, I 0, .slice none 0 0] 57, blk g3 [N64 ep, Str (p.take 20), I d, I a, .slice A i c] 57, m] rfl (by decide) ?_
          refine J.dy rfl (op_assign rfl rfl) rfl rfl rfl rfl ?_
          refine J.dnil ?_
          refine J.then_n ?_
          exact J.kk () hK9 trivial ⟨rfl, rfl, rfl, rfl, rfl, rfl, trivial⟩ (fun _ h => h)
        ·
          refine J.deN (fun g => _ ++ [blk g [B8 (ns.getD i 0)] 5]) rfl (op_buildSlice (l := [.tmp 42]) (xs := [[B8 (ns.getD i 0)]]) rfl rfl rfl rfl Tryd.underlying99 el5 rfl (by decide) (by decide) (by simp)) rfl rfl rfl (fun _ _ h => List.mem_append_left _ h) (by simp) ?_
          intro g43 _
          change J _ _ _ [F, blk g1 [N64 ep, Str p, I d, I a, Str ns] 55, blk g2 [N64 0, Str [], I 0, I 0, .slice none 0 0] 57, blk g3 [N64 ep, Str (p.take 20), I d, I a, .slice A i c] 57, m, blk g43 [B8 (ns.getD i 0)] 5] _
          refine J.dy rfl (op_toStr (l := [(ns.getD i 0)]) rfl rfl Tryd.underlying99 Tryd.underlying5 Tryd.underlying9 (m := blk g43 [B8 (ns.getD i 0)] 5) (by simp) (slB [(ns.getD i 0)] rfl)) rfl rfl rfl rfl ?_
          refine J.deN (fun g => _ ++ [blk g [B8 ((ns.getD i 0) &&& 7)] 5]) rfl (op_buildSlice (l := [.tmp 37]) (xs := [[B8 ((ns.getD i 0) &&& 7)]]) rfl rfl rfl rfl Tryd.underlying99 el5 rfl (by decide) (by decide) (by simp)) rfl rfl rfl (fun _ _ h => List.mem_append_left _ h) (by simp) ?_
          intro g38 _
          change J _ _ _ [F, blk g1 [N64 ep, Str p, I d, I a, Str ns] 55, blk g2 [N64 0, Str [], I 0, I 0, .slice none 0 0] 57, blk g3 [N64 ep, Str (p.take 20), I d, I a, .slice A i c] 57, m, blk g43 [B8 (ns.getD i 0)] 5, blk g38 [B8 ((ns.getD i 0) &&& 7)] 5] _
          refine J.dy rfl (op_toStr (l := [(ns.getD i 0) &&& 7]) rfl rfl Tryd.underlying99 Tryd.underlying5 Tryd.underlying9 (m := blk g38 [B8 ((ns.getD i 0) &&& 7)] 5) (by simp) (slB [(ns.getD i 0) &&& 7] rfl)) rfl rfl rfl rfl ?_
          refine J.dy rfl ((op_sadd rfl rfl rfl (by simp [noughts]))) rfl rfl rfl rfl ?_
          refine J.dy rfl ((op_sadd rfl rfl rfl (by simp [noughts]))) rfl rfl rfl rfl ?_
          refine J.perm [0, 1, 2, 3, 4] [F, blk g1 [N64 ep, Str p, I d, I a, Str ns] 55, blk g2 [N64 0, Str [], I 0, I 0, .slice none 0 0] 57, blk g3 [N64 ep, Str (p.take 20), I d, I a, .slice A i c] 57, m] rfl (by decide) ?_
          refine J.dy rfl (op_assign rfl rfl) rfl rfl rfl rfl ?_
          refine J.dnil ?_
          refine J.then_n ?_
          exact J.kk () hK9 trivial ⟨rfl, rfl, rfl, rfl, rfl, rfl, trivial⟩ (fun _ h => h)
      rintro _ _
      refine J.cut (fun _ : Unit => [(1, Ptr g1), (2, Ptr g2), (3, Ptr g3), (4, I i), (6, Str (tnode (ns.getD i 0)))]) (fun _ => [F, blk g1 [N64 ep, Str p, I d, I a, Str ns] 55, blk g2 [N64 0, Str [], I 0, I 0, .slice none 0 0] 57, blk g3 [N64 ep, Str (p.take 20), I d, I a, .slice A i c] 57, m]) (fun _ => True) (fun K10 hK10 => ?_) ?_
      ·
        refine J.seq (fun K11 hK11 => ?_)
        refine J.region ?_
        refine J.y (op_move rfl rfl) rfl rfl rfl ?_
        refine J.y (op_and8 (b := 7) rfl rfl rfl) rfl rfl rfl ?_
        refine J.y (op_eql rfl rfl rfl) rfl rfl rfl ?_
        refine J.nil ?_
        refine J.then_n (J.k hK11 ?_)
        refine J.keepE [(1, _), (2, _), (3, _), (4, _), (6, _), (48, _)] ⟨rfl, rfl, rfl, rfl, rfl, rfl, trivial⟩ ?_
        refine J.ite rfl (fun h48 => ?_) (fun h48 => ?_)
        ·
          refine J.region ?_
          refine J.y (op_assign rfl rfl) rfl rfl rfl ?_
          refine J.nil ?_
          refine J.then_n ?_
          exact J.kk () hK10 trivial ⟨rfl, rfl, rfl, rfl, by rw [show tnode (ns.getD i 0) = [0] from if_pos (and7_0.1 h48)]; rfl, trivial⟩ (fun _ h => h)
        ·
          refine J.skip ?_
          refine J.then_n ?_
          exact J.kk () hK10 trivial ⟨rfl, rfl, rfl, rfl, by rw [show tnode (ns.getD i 0) = ([(ns.getD i 0) &&& 7] ++ (noughts.take 16).drop 1 ++ [(ns.getD i 0)]) from if_neg (fun e => h48 (and7_0.2 e))]; rfl, trivial⟩ (fun _ h => h)
      rintro _ _
      refine J.region ?_
      refine J.y (op_fieldAddr (j := 4) rfl rfl Tryd.underlying57 rfl Tryd.sizeOf30 rfl) rfl rfl rfl ?_
      refine J.y (op_loadB 3 rfl rfl rfl Tryd.isAgg30 rfl) rfl rfl rfl ?_
      refine J.y (op_move rfl rfl) rfl rfl rfl ?_
      refine J.e (op_buildSlice (l := [.tmp 51]) (xs := [[Str (tnode (ns.getD i 0))]]) rfl rfl rfl rfl Tryd.underlying30 el9 rfl (by decide) (by decide) (by simp)) rfl rfl rfl ?_
      intro g52 _
      change J _ _ _ [F, blk g1 [N64 ep, Str p, I d, I a, Str ns] 55, blk g2 [N64 0, Str [], I 0, I 0, .slice none 0 0] 57, blk g3 [N64 ep, Str (p.take 20), I d, I a, .slice A i c] 57, m, blk g52 [Str (tnode (ns.getD i 0))] 9] _
      refine J.e (op_append (i := 4) (m2 := blk g52 [Str (tnode (ns.getD i 0))] 9) (ys := strsV [tnode (ns.getD i 0)]) rfl rfl rfl Tryd.underlying30 Tryd.underlying30 el9 rfl hr (by simp) (slS [tnode (ns.getD i 0)] rfl) (one_strs _) (by omega) (by omega)) rfl rfl rfl ?_
      rintro ⟨A53, c53, m53⟩ h53
      try dsimp only at h53
      change J _ ((53, .slice A53 (i + 1) c53) :: _) _ [F, blk g1 [N64 ep, Str p, I d, I a, Str ns] 55, blk g2 [N64 0, Str [], I 0, I 0, .slice none 0 0] 57, blk g3 [N64 ep, Str (p.take 20), I d, I a, .slice A i c] 57, m53, blk g52 [Str (tnode (ns.getD i 0))] 9] _
      refine J.y (op_fieldAddr (j := 4) rfl rfl Tryd.underlying57 rfl Tryd.sizeOf30 rfl) rfl rfl rfl ?_
      refine J.s (op_store (i := 3) (vs := [.slice A53 (i + 1) c53]) rfl rfl rfl rfl rfl Tryd.sizeOf30 rfl (by simp)) rfl rfl (fun _ _ => ?_)
      change J _ _ _ [F, blk g1 [N64 ep, Str p, I d, I a, Str ns] 55, blk g2 [N64 0, Str [], I 0, I 0, .slice none 0 0] 57, blk g3 [N64 ep, Str (p.take 20), I d, I a, .slice A53 (i + 1) c53] 57, m53, blk g52 [Str (tnode (ns.getD i 0))] 9] _
      refine J.perm [0, 1, 2, 3, 4] [F, blk g1 [N64 ep, Str p, I d, I a, Str ns] 55, blk g2 [N64 0, Str [], I 0, I 0, .slice none 0 0] 57, blk g3 [N64 ep, Str (p.take 20), I d, I a, .slice A53 (i + 1) c53] 57, m53] rfl (by decide) ?_
      refine J.nil ?_
      refine J.blk_n ?_
      refine J.then_n (J.k hK7 ?_)
      refine J.keepE [(1, _), (2, _), (3, _), (4, _)] ⟨rfl, rfl, rfl, rfl, trivial⟩ ?_
      refine J.region ?_
      refine J.y (op_move rfl rfl) rfl rfl rfl ?_
      refine J.y ((op_add rfl rfl rfl (by first | omega | (refine ⟨?_, ?_⟩ <;> omega))).as (v' := I ((i + 1 : Nat) : Int)) (congrArg I (by omega))) rfl rfl rfl ?_
      refine J.y (op_assign rfl rfl) rfl rfl rfl ?_
      refine J.nil ?_
      refine J.then_n ?_
      exact J.kk (i + 1, A53, c53, m53) (fun x (hx : _ ∧ 20 - x.1 < 20 - i) => hI0 x hx.1 hx.2) ⟨⟨⟨by dsimp only; omega, by dsimp only; omega⟩, by dsimp only; rw [told_take (by omega) (by omega)]; rw [show ∀ a b, strsV (a ++ b) = strsV a ++ strsV b from fun a b => by simp [strsV]]; exact h53⟩, by dsimp only; omega⟩ ⟨rfl, rfl, rfl, rfl, trivial⟩ (fun _ h => h)
    ·
      refine J.exit ?_
      refine J.then_x ?_
      refine J.then_x ?_
      refine J.blk_eq ?_
      refine J.then_n (J.k hK3 ?_)
      refine J.keepE [(2, _), (3, _)] ⟨rfl, rfl, trivial⟩ ?_
      refine J.seq (fun K12 hK12 => ?_)
      have hil : ((ns.take 20).map tnode).length = i := by rw [List.length_map, List.length_take]; omega
      refine J.region ?_
      refine J.y (op_loadBA 3 rfl rfl rfl Tryd.isAgg57 Tryd.sizeOf57 rfl) rfl rfl rfl ?_
      refine J.s (op_storeAll (l := [N64 0, Str [], I 0, I 0, .slice none 0 0]) (i := 2) (vs := [N64 ep, Str (p.take 20), I d, I a, .slice A i c]) rfl rfl rfl rfl rfl Tryd.sizeOf57 rfl rfl) rfl rfl (fun _ _ => ?_)
      change J _ _ _ [F, blk g1 [N64 ep, Str p, I d, I a, Str ns] 55, blk g2 [N64 ep, Str (p.take 20), I d, I a, .slice A i c] 57, blk g3 [N64 ep, Str (p.take 20), I d, I a, .slice A i c] 57, m] _
      refine J.nil ?_
      refine J.then_n (J.k hK12 ?_)
      refine J.keepE [(2, _)] ⟨rfl, trivial⟩ ?_
      refine J.ret ?_
      exact J.done hw0 (fun _ _ h => h) (rv1 rfl (RV.blkA 2 rfl rfl Tryd.isAgg57 Tryd.sizeOf57)) (retOk (A, c, m) (by show Value.agg #[N64 ep, Str (p.take 20), I d, I a, .slice A i c] = .agg #[N64 ep, Str (p.take 20), I d, I a, .slice A ((ns.take 20).map tnode).length c]; rw [hil]) (by show Sl m 1 A ((ns.take 20).map tnode).length c (strsV ((ns.take 20).map tnode)); rw [hil]; rw [List.take_of_length_le (by omega)] at hr; exact hr.sl) [0, 4] rfl (by decide))
  ·
    refine J.no (Wan.is rfl rfl rfl rfl rfl) rfl rfl ?_
    refine J.no (Wan.is rfl rfl rfl rfl rfl) rfl rfl ?_
    refine J.y (op_pickF rfl rfl rfl) rfl rfl rfl ?_
    refine J.nil ?_
    refine J.then_n (J.k hK6 ?_)
    refine J.keepE [(1, _), (2, _), (3, _), (4, _), (29, _)] ⟨rfl, rfl, rfl, rfl, rfl, trivial⟩ ?_
    refine J.condF rfl rfl ?_
    refine J.exit ?_
    refine J.then_x ?_
    refine J.then_x ?_
    refine J.blk_eq ?_
    refine J.then_n (J.k hK3 ?_)
    refine J.keepE [(2, _), (3, _)] ⟨rfl, rfl, trivial⟩ ?_
    refine J.seq (fun K13 hK13 => ?_)
    have hil : ((ns.take 20).map tnode).length = i := by rw [List.length_map, List.length_take]; omega
    refine J.region ?_
    refine J.y (op_loadBA 3 rfl rfl rfl Tryd.isAgg57 Tryd.sizeOf57 rfl) rfl rfl rfl ?_
    refine J.s (op_storeAll (l := [N64 0, Str [], I 0, I 0, .slice none 0 0]) (i := 2) (vs := [N64 ep, Str (p.take 20), I d, I a, .slice A i c]) rfl rfl rfl rfl rfl Tryd.sizeOf57 rfl rfl) rfl rfl (fun _ _ => ?_)
    change J _ _ _ [F, blk g1 [N64 ep, Str p, I d, I a, Str ns] 55, blk g2 [N64 ep, Str (p.take 20), I d, I a, .slice A i c] 57, blk g3 [N64 ep, Str (p.take 20), I d, I a, .slice A i c] 57, m] _
    refine J.nil ?_
    refine J.then_n (J.k hK13 ?_)
    refine J.keepE [(2, _)] ⟨rfl, trivial⟩ ?_
    refine J.ret ?_
    exact J.done hw0 (fun _ _ h => h) (rv1 rfl (RV.blkA 2 rfl rfl Tryd.isAgg57 Tryd.sizeOf57)) (retOk (A, c, m) (by show Value.agg #[N64 ep, Str (p.take 20), I d, I a, .slice A i c] = .agg #[N64 ep, Str (p.take 20), I d, I a, .slice A ((ns.take 20).map tnode).length c]; rw [hil]) (by show Sl m 1 A ((ns.take 20).map tnode).length c (strsV ((ns.take 20).map tnode)); rw [hil]; rw [List.take_of_length_le (by omega)] at hr; exact hr.sl) [0, 4] rfl (by decide))

theorem plain_ct (F : Hp) (x : Hd) (A : Option Addr) (c : Nat) :
    Ct Tryd.prog 30 [.agg #[N64 x.ep, Str x.par, I x.dep, I x.aud, .slice A x.nodes.length c]] [F] (fun _ : Unit => .agg #[N64 x.ep, Str x.par, I x.dep, I x.aud, .slice A x.nodes.length c]) (fun _ => True) (fun _ => [F]) := by
  refine Ct.walk Tryd.func30 rfl Tryd.ntmps30 rfl (fun w0 hw0 => ?_)
  change J _ [(0, _)] _ _ _
  refine J.seq (fun K1 hK1 => ?_)
  refine J.region ?_
  refine J.e (op_box rfl rfl (l := [N64 x.ep, Str x.par, I x.dep, I x.aud, .slice A x.nodes.length c]) rfl) rfl rfl rfl ?_
  intro g1 _
  change J _ _ _ [F, blk g1 [N64 x.ep, Str x.par, I x.dep, I x.aud, .slice A x.nodes.length c] 57] _
  refine J.e (op_alloc rfl Tryd.zeroValue60 rfl) rfl rfl rfl ?_
  intro g2 _
  change J _ _ _ [F, blk g1 [N64 x.ep, Str x.par, I x.dep, I x.aud, .slice A x.nodes.length c] 57, blk g2 _ 60] _
  refine J.nil ?_
  refine J.then_n (J.k hK1 ?_)
  refine J.keepE [(1, _), (2, _)] ⟨rfl, rfl, trivial⟩ ?_
  refine J.seq (fun K2 hK2 => ?_)
  refine J.region ?_
  refine J.y (op_fieldAddr (j := 0) rfl rfl Tryd.underlying57 rfl Tryd.sizeOf47 rfl) rfl rfl rfl ?_
  refine J.y (op_loadB 1 rfl rfl rfl Tryd.isAgg47 rfl) rfl rfl rfl ?_
  refine J.y (op_fieldAddr (j := 1) rfl rfl Tryd.underlying57 rfl Tryd.sizeOf9 rfl) rfl rfl rfl ?_
  refine J.y (op_loadB 1 rfl rfl rfl Tryd.isAgg9 rfl) rfl rfl rfl ?_
  refine J.y (op_fieldAddr (j := 2) rfl rfl Tryd.underlying57 rfl Tryd.sizeOf3 rfl) rfl rfl rfl ?_
  refine J.y (op_loadB 1 rfl rfl rfl Tryd.isAgg3 rfl) rfl rfl rfl ?_
  refine J.y (op_fieldAddr (j := 3) rfl rfl Tryd.underlying57 rfl Tryd.sizeOf3 rfl) rfl rfl rfl ?_
  refine J.y (op_loadB 1 rfl rfl rfl Tryd.isAgg3 rfl) rfl rfl rfl ?_
  refine J.y (op_fieldAddr (j := 4) rfl rfl Tryd.underlying57 rfl Tryd.sizeOf30 rfl) rfl rfl rfl ?_
  refine J.y (op_loadB 1 rfl rfl rfl Tryd.isAgg30 rfl) rfl rfl rfl ?_
  refine J.y (op_buildStruct (l := [(0, .tmp 4), (1, .tmp 6), (2, .tmp 8), (3, .tmp 10), (4, .tmp 12)]) (vs := [N64 x.ep, Str x.par, I x.dep, I x.aud, .slice A x.nodes.length c]) (places := [(0, 1), (1, 1), (2, 1), (3, 1), (4, 1)]) (r := [N64 x.ep, Str x.par, I x.dep, I x.aud, .slice A x.nodes.length c]) rfl rfl rfl Tryd.underlying60 Tryd.zeroValue60 (fun _ => by kernel_rfl) rfl) rfl rfl rfl ?_
  refine J.s (op_storeAll (l := [N64 0, Str [], I 0, I 0, .slice none 0 0]) (i := 2) (vs := [N64 x.ep, Str x.par, I x.dep, I x.aud, .slice A x.nodes.length c]) rfl rfl rfl rfl rfl Tryd.sizeOf60 rfl rfl) rfl rfl (fun _ _ => ?_)
  change J _ _ _ [F, blk g1 [N64 x.ep, Str x.par, I x.dep, I x.aud, .slice A x.nodes.length c] 57, blk g2 [N64 x.ep, Str x.par, I x.dep, I x.aud, .slice A x.nodes.length c] 60] _
  refine J.nil ?_
  refine J.then_n (J.k hK2 ?_)
  refine J.keepE [(2, _)] ⟨rfl, trivial⟩ ?_
  refine J.ret ?_
  exact J.done hw0 (fun _ _ h => h) (rv1 rfl (RV.blkA 2 rfl rfl Tryd.isAgg60 Tryd.sizeOf60)) (retOk () rfl trivial [0] rfl (by decide))

def gX : Hd := ⟨0, noughts, 0, 0, [[0]]⟩
def hX : Hd := ⟨1, gX.dig, 0, 0, [Sb.leafN noughts [118]]⟩
theorem gX_good : gX.good := ⟨by decide, by decide, by decide⟩
theorem noughts_16 : noughts.length = 16 := List.length_replicate
theorem gX_err : gX.err = 0 := err_0 (by unfold Hd.out gX; rw [cnt_zero, noughts_16]; simp) (by decide) (fun s hs => by simp only [gX, List.mem_singleton] at hs; subst hs; exact .inl rfl)
theorem gX_dig : gX.dig.length = 16 := dig_len gX_err
theorem leaf_17 (k v : List UInt8) : (Sb.leafN k v).length = 17 := by unfold Sb.leafN; rw [List.length_cons, Sha.tagged_length]
theorem leaf_node (k v : List UInt8) : nodeP (Sb.leafN k v) := .inr ⟨leaf_17 k v, .inl rfl⟩
theorem hX_good : hX.good := ⟨by decide, by show gX.dig.length ≤ _; rw [gX_dig]; decide, by decide⟩
theorem hX_err : hX.err = 0 := err_0 (by unfold Hd.out hX; rw [cnt_zero, gX_dig]; simp) (by show ¬ [Sb.leafN noughts [118]].length ≠ cnt 0; decide) (fun s hs => by simp only [hX, List.mem_singleton] at hs; subst hs; exact leaf_node _ _)
theorem gX_gen : gX.gen = 0 := gen_4 (by rw [gX_err]; decide) (by decide) (by intro h; exact h rfl)
theorem gX_next : gX.next hX = 0 := next_5 (by rw [hX_err]; decide) (by unfold hX gX; simp) (by rintro (h | h); exact absurd gX_dig (by rw [h]; decide); exact h rfl) (by unfold hX gX; simp)
theorem br_one (s : List UInt8) : brVal [s] 0 = s := by
  have h1 : cnt 0 = 1 := by decide
  have h2 : brErr [s] 0 = 0 := by unfold brErr; rw [h1, if_neg (by decide), if_neg (by simp)]
  unfold brVal
  rw [h2, if_pos rfl, Sb.root]; exact congrArg (fun l : List (List UInt8) => l.getD 0 []) (Sb.lvls_zero [s])
theorem gX_small : ∀ s ∈ gX.nodes, s.length ≤ 1048576 := fun s hs => by simp only [gX, List.mem_singleton] at hs; subst hs; decide
theorem hX_small : ∀ s ∈ hX.nodes, s.length ≤ 1048576 := fun s hs => by simp only [hX, List.mem_singleton] at hs; subst hs; rw [leaf_17]; decide

theorem speaks19_ct (F : Hp) (hK : Cells F ⟨0, 0, none⟩ (Sha.K.map W32)) : Ct Tryd.prog 27 [] [F] (fun _ : Unit => .bool true) (fun _ => True) (fun _ => [F]) := by
  refine Ct.walk Tryd.func27 rfl Tryd.ntmps27 rfl (fun w0 hw0 => ?_)
  change J _ [] _ _ _
  refine J.seq (fun K1 hK1 => ?_)
  refine J.region ?_
  refine J.y (op_assign rfl rfl) rfl rfl rfl ?_
  refine J.nil ?_
  refine J.then_n (J.k hK1 ?_)
  refine J.keepE [] trivial ?_
  refine J.seq (fun K2 hK2 => ?_)
  refine J.region ?_
  refine J.e (op_buildSlice (l := [.const ((Value.string (ByteArray.mk #[0])))]) (xs := [[Str [0]]]) rfl rfl rfl rfl Tryd.underlying30 el9 rfl (by decide) (by decide) (by simp)) rfl rfl rfl ?_
  intro g3 _
  change J _ _ _ [F, blk g3 [Str [0]] 9] _
  refine J.y (op_buildStruct (l := [(1, .const (.string (ByteArray.mk #[0, 0, 0, 0, 0, 0, 0, 0, 0, 0, 0, 0, 0, 0, 0, 0]))), (4, .tmp 3)]) (vs := [Str noughts, .slice (some ⟨g3, 0, none⟩) 1 1]) (places := [(0, 1), (1, 1), (2, 1), (3, 1), (4, 1)]) (r := [N64 0, Str noughts, I 0, I 0, .slice (some ⟨g3, 0, none⟩) 1 1]) rfl rfl rfl Tryd.underlying57 Tryd.zeroValue57 (fun _ => by kernel_rfl) rfl) rfl rfl rfl ?_
  refine J.e (op_alloc rfl Tryd.zeroValue57 rfl) rfl rfl rfl ?_
  intro g1 _
  change J _ _ _ [F, blk g3 [Str [0]] 9, blk g1 _ 57] _
  refine J.s (op_storeAll (l := [N64 0, Str [], I 0, I 0, .slice none 0 0]) (i := 2) (vs := [N64 0, Str noughts, I 0, I 0, .slice (some ⟨g3, 0, none⟩) 1 1]) rfl rfl rfl rfl rfl Tryd.sizeOf57 rfl rfl) rfl rfl (fun _ _ => ?_)
  change J _ _ _ [F, blk g3 [Str [0]] 9, blk g1 [N64 0, Str noughts, I 0, I 0, .slice (some ⟨g3, 0, none⟩) 1 1] 57] _
  refine J.nil ?_
  refine J.then_n (J.k hK2 ?_)
  refine J.keepE [(1, _)] ⟨rfl, trivial⟩ ?_
  refine J.seq (fun K3 hK3 => ?_)
  refine J.region ?_
  refine J.y (op_loadBA 2 rfl rfl rfl Tryd.isAgg57 Tryd.sizeOf57 rfl) rfl rfl rfl ?_
  refine J.e (op_call rfl rfl ent47 (Ct.use0 (fun F' hF => hdigest_ct F' (hK.mono (hF F (by simp))) gX (some ⟨g3, 0, none⟩) 1 gX_good ((slS (e := 9) [[0]] rfl).mono (hF (blk g3 [Str [0]] 9) (by simp)))))) rfl rfl rfl ?_
  intro g6 _
  refine J.e (op_call rfl rfl ent70 (Ct.use0 (fun F' hF => sLeaf_ct F' (hK.mono (hF F (by simp))) noughts [118] (by decide) (by decide)))) rfl rfl rfl ?_
  intro g7 _
  refine J.e (op_buildSlice (l := [.tmp 7]) (xs := [[Str (Sb.leafN noughts [118])]]) rfl rfl rfl rfl Tryd.underlying30 el9 rfl (by decide) (by decide) (by simp)) rfl rfl rfl ?_
  intro g8 _
  change J _ _ _ [F, blk g3 [Str [0]] 9, blk g1 [N64 0, Str noughts, I 0, I 0, .slice (some ⟨g3, 0, none⟩) 1 1] 57, blk g8 [Str (Sb.leafN noughts [118])] 9] _
  refine J.y (op_buildStruct (l := [(0, .const (.int .u64 1)), (1, .tmp 6), (4, .tmp 8)]) (vs := [N64 1, Str gX.dig, .slice (some ⟨g8, 0, none⟩) 1 1]) (places := [(0, 1), (1, 1), (2, 1), (3, 1), (4, 1)]) (r := [N64 1, Str gX.dig, I 0, I 0, .slice (some ⟨g8, 0, none⟩) 1 1]) rfl rfl rfl Tryd.underlying57 Tryd.zeroValue57 (fun _ => by kernel_rfl) rfl) rfl rfl rfl ?_
  refine J.e (op_alloc rfl Tryd.zeroValue57 rfl) rfl rfl rfl ?_
  intro g2 _
  change J _ _ _ [F, blk g3 [Str [0]] 9, blk g1 [N64 0, Str noughts, I 0, I 0, .slice (some ⟨g3, 0, none⟩) 1 1] 57, blk g8 [Str (Sb.leafN noughts [118])] 9, blk g2 _ 57] _
  refine J.s (op_storeAll (l := [N64 0, Str [], I 0, I 0, .slice none 0 0]) (i := 4) (vs := [N64 1, Str gX.dig, I 0, I 0, .slice (some ⟨g8, 0, none⟩) 1 1]) rfl rfl rfl rfl rfl Tryd.sizeOf57 rfl rfl) rfl rfl (fun _ _ => ?_)
  change J _ _ _ [F, blk g3 [Str [0]] 9, blk g1 [N64 0, Str noughts, I 0, I 0, .slice (some ⟨g3, 0, none⟩) 1 1] 57, blk g8 [Str (Sb.leafN noughts [118])] 9, blk g2 [N64 1, Str gX.dig, I 0, I 0, .slice (some ⟨g8, 0, none⟩) 1 1] 57] _
  refine J.nil ?_
  refine J.then_n (J.k hK3 ?_)
  refine J.keepE [(1, _), (2, _)] ⟨rfl, rfl, trivial⟩ ?_
  refine J.seq (fun K4 hK4 => ?_)
  refine J.draw [F, blk g3 [Str [0]] 9, blk g1 [N64 0, Str noughts, I 0, I 0, .slice (some ⟨g3, 0, none⟩) 1 1] 57, blk g8 [Str (Sb.leafN noughts [118])] 9, blk g2 [N64 1, Str gX.dig, I 0, I 0, .slice (some ⟨g8, 0, none⟩) 1 1] 57] [] (.y 0 (.e 1 (.y 2 (.y 3 (.y 4 (.y 5 (.e 6 (.y 7 (.y 8 (.y 9 (.y 10 (.e 11 (.y 12 (.y 13 (.y 14 (.y 15 (.y 16 (.y 18 (.y 19 (.y 20 (.y 21 (.e 17 (.y 22 (.y 23 (.y 24 (.y 25 (.e 26 (.y 27 (.y 28 (.y 29 .nil)))))))))))))))))))))))))))))) Tryd.wide (by decide +kernel) (by simp) ?_
  refine J.dy rfl (op_loadBA 2 rfl rfl rfl Tryd.isAgg57 Tryd.sizeOf57 rfl) rfl rfl rfl rfl ?_
  refine J.de rfl (op_call rfl rfl ent33 (Ct.use0 (fun F' hF => hgenesis_ct F' gX (some ⟨g3, 0, none⟩) 1 gX_good ((slS (e := 9) [[0]] rfl).mono (hF (blk g3 [Str [0]] 9) (by simp)))))) rfl rfl rfl (by simp) ?_
  intro g11 _
  refine J.dy rfl ((op_eql rfl rfl rfl).as (v' := .bool true) (congrArg Value.bool (decide_eq_true (gX_gen)))) rfl rfl rfl rfl ?_
  refine J.dy rfl (op_move rfl rfl) rfl rfl rfl rfl ?_
  refine J.dyg rfl (op_loadBA 2 rfl rfl rfl Tryd.isAgg57 Tryd.sizeOf57 rfl) (Wan.is rfl rfl rfl rfl rfl) rfl rfl rfl ?_
  refine J.dyg rfl (op_loadBA 4 rfl rfl rfl Tryd.isAgg57 Tryd.sizeOf57 rfl) (Wan.is rfl rfl rfl rfl rfl) rfl rfl rfl ?_
  refine J.deg rfl (op_call rfl rfl ent32 (Ct.use0 (fun F' hF => hnext_ct F' (hK.mono (hF F (by simp))) gX (some ⟨g3, 0, none⟩) 1 gX_good ((slS (e := 9) [[0]] rfl).mono (hF (blk g3 [Str [0]] 9) (by simp))) hX (some ⟨g8, 0, none⟩) 1 hX_good ((slS (e := 9) [Sb.leafN noughts [118]] rfl).mono (hF (blk g8 [Str (Sb.leafN noughts [118])] 9) (by simp)))))) (Wan.is rfl rfl rfl rfl rfl) rfl rfl (by simp) ?_
  intro g16 _
  refine J.dyg rfl ((op_eql rfl rfl rfl).as (v' := .bool true) (congrArg Value.bool (decide_eq_true (gX_next)))) (Wan.is rfl rfl rfl rfl rfl) rfl rfl rfl ?_
  refine J.dy rfl (op_pickT rfl rfl rfl) rfl rfl rfl rfl ?_
  refine J.dy rfl (op_move rfl rfl) rfl rfl rfl rfl ?_
  refine J.dyg rfl (op_loadBA 2 rfl rfl rfl Tryd.isAgg57 Tryd.sizeOf57 rfl) (Wan.is rfl rfl rfl rfl rfl) rfl rfl rfl ?_
  refine J.deg rfl (op_call rfl rfl ent47 (Ct.use0 (fun F' hF => hdigest_ct F' (hK.mono (hF F (by simp))) gX (some ⟨g3, 0, none⟩) 1 gX_good ((slS (e := 9) [[0]] rfl).mono (hF (blk g3 [Str [0]] 9) (by simp)))))) (Wan.is rfl rfl rfl rfl rfl) rfl rfl (by simp) ?_
  intro g21 _
  refine J.dyg rfl (op_slen Tryd.underlying9 rfl rfl) (Wan.is rfl rfl rfl rfl rfl) rfl rfl rfl ?_
  refine J.dyg rfl ((op_eql rfl rfl rfl).as (v' := .bool true) (congrArg Value.bool (decide_eq_true (congrArg Int.ofNat gX_dig)))) (Wan.is rfl rfl rfl rfl rfl) rfl rfl rfl ?_
  refine J.dy rfl (op_pickT rfl rfl rfl) rfl rfl rfl rfl ?_
  refine J.dy rfl (op_move rfl rfl) rfl rfl rfl rfl ?_
  refine J.dyg rfl (op_loadBA 4 rfl rfl rfl Tryd.isAgg57 Tryd.sizeOf57 rfl) (Wan.is rfl rfl rfl rfl rfl) rfl rfl rfl ?_
  refine J.dyg rfl (op_fieldAddr (j := 4) rfl rfl Tryd.underlying57 rfl Tryd.sizeOf30 rfl) (Wan.is rfl rfl rfl rfl rfl) rfl rfl rfl ?_
  refine J.dyg rfl (op_loadB 4 rfl rfl rfl Tryd.isAgg30 rfl) (Wan.is rfl rfl rfl rfl rfl) rfl rfl rfl ?_
  refine J.dyg rfl (op_indexAddr (i := 0) rfl rfl rfl Tryd.underlying30 Tryd.sizeOf9 (slS (e := 9) (g := g8) [Sb.leafN noughts [118]] rfl) (by decide)) (Wan.is rfl rfl rfl rfl rfl) rfl rfl rfl ?_
  refine J.dyg rfl (op_load rfl rfl Tryd.isAgg9 (m := blk g8 [Str (Sb.leafN noughts [118])] 9) (by simp) (v := Str (Sb.leafN noughts [118])) ((slS (e := 9) (g := g8) [Sb.leafN noughts [118]] rfl).elem (strsV_get rfl))) (Wan.is rfl rfl rfl rfl rfl) rfl rfl rfl ?_
  refine J.deg rfl (op_call rfl rfl ent50 (Ct.use0 (fun F' hF => hroot_ct F' (hK.mono (hF F (by simp))) hX (some ⟨g8, 0, none⟩) 1 hX_good ((slS (e := 9) [Sb.leafN noughts [118]] rfl).mono (hF (blk g8 [Str (Sb.leafN noughts [118])] 9) (by simp))) hX_small))) (Wan.is rfl rfl rfl rfl rfl) rfl rfl (by simp) ?_
  intro g27 _
  refine J.dyg rfl ((op_seq rfl rfl rfl).as (v' := .bool true) (congrArg Value.bool (decide_eq_true (br_one _)))) (Wan.is rfl rfl rfl rfl rfl) rfl rfl rfl ?_
  refine J.dy rfl (op_pickT rfl rfl rfl) rfl rfl rfl rfl ?_
  refine J.dy rfl (op_move rfl rfl) rfl rfl rfl rfl ?_
  refine J.dyg rfl (op_loadBA 2 rfl rfl rfl Tryd.isAgg57 Tryd.sizeOf57 rfl) (Wan.is rfl rfl rfl rfl rfl) rfl rfl rfl ?_
  refine J.deg rfl (op_call rfl rfl ent50 (Ct.use0 (fun F' hF => hroot_ct F' (hK.mono (hF F (by simp))) gX (some ⟨g3, 0, none⟩) 1 gX_good ((slS (e := 9) [[0]] rfl).mono (hF (blk g3 [Str [0]] 9) (by simp))) gX_small))) (Wan.is rfl rfl rfl rfl rfl) rfl rfl (by simp) ?_
  intro g36 _
  refine J.dyg rfl ((op_seq rfl rfl rfl).as (v' := .bool true) (congrArg Value.bool (decide_eq_true (br_one _)))) (Wan.is rfl rfl rfl rfl rfl) rfl rfl rfl ?_
  refine J.dy rfl (op_pickT rfl rfl rfl) rfl rfl rfl rfl ?_
  refine J.dy rfl (op_assign rfl rfl) rfl rfl rfl rfl ?_
  refine J.dnil ?_
  refine J.then_n (J.k hK4 ?_)
  refine J.keepE [(0, _)] ⟨rfl, trivial⟩ ?_
  refine J.ret ?_
  exact J.done hw0 (fun _ _ h => h) (res1 rfl rfl) (retOk () rfl trivial [0] rfl (by decide))

theorem told_ct2 (F : Hp) (ep : Nat) (hep : ep < 18446744073709551616) (p : List UInt8) (d a : Int) (ns : List UInt8) (x : Hd) (hx : x = told ep p d a ns) :
    Ct Tryd.prog 28 [.agg #[N64 ep, Str p, I d, I a, Str ns]] [F] (fun y : Option Addr × Nat × Hp => .agg (Hd.cells x y.1 y.2.1).toArray) (fun y => Sl y.2.2 1 y.1 x.nodes.length y.2.1 (strsV x.nodes)) (fun y => [F, y.2.2]) := by
  subst hx; exact told_ct F ep hep p d a ns
theorem hdecode_back (F : Hp) (x : Hd) (h : x.err = 0) :
    Ct Tryd.prog 46 [Str x.enc] [F] (fun y : Option Addr × Nat × Hp => .tuple #[.agg (Hd.cells x y.1 y.2.1).toArray, I 0]) (fun y => Sl y.2.2 1 y.1 x.nodes.length y.2.1 (strsV x.nodes)) (fun y => [F, y.2.2]) := by
  obtain ⟨b1, b2⟩ := hd_back h
  have h1 := hdecode_ct F x.enc
  have hY : hdY x.enc = x := by rw [enc_0 h]; unfold hdY; rw [if_pos b1, b2]
  have hE : hdE x.enc = 0 := by rw [enc_0 h]; exact b1
  rw [hY, hE] at h1
  exact h1
theorem brVal_nil {l : List (List UInt8)} {d : Int} (h : ¬ brErr l d = 0) : brVal l d = [] := if_neg h
theorem same_self (x : Hd) : x.same x ↔ x.err = 0 := ⟨fun h => h.1, fun h => ⟨h, h, rfl⟩⟩
theorem hdY_zero {s : List UInt8} (h : ¬ hdE s = 0) : hdY s = Hd.zero := if_neg h
theorem zero_dig : Hd.zero.dig = [] := dig_nil.2 (by rw [zero_err]; decide)
theorem hdY_x {s : List UInt8} (h : hdE s = 0) : (hdY s).err = 0 ∧ (hdY s).enc = s := by
  have h1 := hdE_zero h
  rw [show hdY s = hdX s from if_pos h]
  exact ⟨h1.1, by rw [enc_0 h1.1]; exact h1.2⟩
theorem enc_le (x : Hd) : x.enc.length ≤ 326 := by
  by_cases h : x.err = 0
  · rw [enc_0 h]; exact bytes_len h
  · rw [show x.enc = [] from if_neg h]; exact Nat.zero_le _
theorem op_addW {P : Program} {env : Env} {rs : List Hp} {o : Oper} {t t' : TypeId} {x y : Operand} {a b : Nat} (ho : o.op = .binOp .add t x y t') (hx : ev env x = some (N64 a)) (hy : ev env y = some (N64 b)) (ha : a < 18446744073709551616) (hb : b < 18446744073709551616) : YOp P env rs o (N64 ((a + b) % 18446744073709551616)) := by
  rw [N_W ha] at hx
  rw [N_W hb] at hy
  exact (op_add64 ho hx hy).as (by show Value.int .u64 _ = Value.int .u64 _; rw [UInt64.toNat_add, ofNat64 ha, ofNat64 hb])

end Go.Proofs.YtlopnfgacopkbaaDoor
