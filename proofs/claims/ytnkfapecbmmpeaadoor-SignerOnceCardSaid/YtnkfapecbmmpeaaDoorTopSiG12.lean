/- A part of the proof: contracts of functions of the program, each for every state of the heaps that it names. -/
import Derived.Test.YtnkfapecbmmpeaaDoorTopSiG10
import Derived.Test.YtnkfapecbmmpeaaDoorTopSiG11
set_option linter.unusedSimpArgs false
set_option linter.unusedVariables false
namespace Go.Proofs.YtnkfapecbmmpeaaDoor
open Go Go.Fw
set_option maxRecDepth 100000
set_option maxHeartbeats 1000000
theorem ent116 : Enters Tryd.prog 116 := Enters.of Tryd.func116 rfl (by kernel_rfl)
theorem ent119 : Enters Tryd.prog 119 := Enters.of Tryd.func119 rfl (by kernel_rfl)
theorem ent158 : Enters Tryd.prog 158 := Enters.of Tryd.func158 rfl (by kernel_rfl)

theorem op_shrU {P : Program} {env : Env} {rs : List Hp} {o : Oper} {t t' : TypeId} {x y : Operand} {a m : Nat} {yk : IntKind} (ho : o.op = .binOp .shr t x y t') (hx : ev env x = some (N64 a)) (hy : ev env y = some (.int yk (m : Nat))) (hr : m ≤ 64 ∧ a < 18446744073709551616) : YOp P env rs o (N64 (a / 2 ^ m)) := by
  rw [N_W hr.2] at hx
  exact (op_shr64 ho hx hy).as (by show Value.int .u64 _ = Value.int .u64 _; rw [ofNat64 hr.2, Nat.min_eq_left hr.1, ofNat64 (Nat.lt_of_le_of_lt (Nat.div_le_self _ _) hr.2)])
theorem op_min3 {P : Program} {env : Env} {rs : List Hp} {o : Oper} {t u v x y z k a b c} (ho : o.op = .call { callee := .builtin .min, args := #[x, y, z], argTypes := #[t, u, v] }) (hx : ev env x = some (.int k a)) (hy : ev env y = some (.int k b)) (hz : ev env z = some (.int k c)) : YOp P env rs o (.int k (min (min a b) c)) := fun n ac w hk _ => by
  by_cases h : b < a <;> by_cases h2 : c < (if b < a then b else a) <;> simp [execOp, ho, hk.ev hx, hk.ev hy, hk.ev hz, resolve, invoke, builtin, Builtin.min_, Builtin.min2, h] at h2 ⊢
  all_goals first | rw [if_pos (by omega)] | rw [if_neg (by omega)]
  all_goals omega
theorem and32 {n : Nat} (h : n < 4294967296) : n &&& 4294967295 = n := by
  have := Nat.and_two_pow_sub_one_eq_mod n 32
  rw [show (2 ^ 32 - 1 : Nat) = 4294967295 from rfl] at this
  rw [this]; exact Nat.mod_eq_of_lt h

theorem mul64_ct (F : Hp) (n : Nat) (hn : n < 4294967296) :
    Ct Tryd.prog 158 [N64 1, N64 n] [F] (fun _ : Unit => .tuple #[N64 0, N64 n]) (fun _ => True) (fun _ => [F]) := by
  refine Ct.walk Tryd.func158 rfl Tryd.ntmps158 rfl (fun w0 hw0 => ?_)
  change J _ [(0, _), (1, _)] _ _ _
  refine J.seq (fun K1 hK1 => ?_)
  refine J.region ?_
  refine J.y (op_assign rfl rfl) rfl rfl rfl ?_
  refine J.y (op_assign rfl rfl) rfl rfl rfl ?_
  refine J.nil ?_
  refine J.then_n (J.k hK1 ?_)
  refine J.keepE [(0, _), (1, _)] ⟨rfl, rfl, trivial⟩ ?_
  refine J.seq (fun K2 hK2 => ?_)
  refine J.region ?_
  refine J.y (op_move rfl rfl) rfl rfl rfl ?_
  refine J.y ((op_andU (a := 1) (b := 4294967295) rfl rfl rfl (by omega)).as (v' := N64 1) rfl) rfl rfl rfl ?_
  refine J.y (op_assign rfl rfl) rfl rfl rfl ?_
  refine J.nil ?_
  refine J.then_n (J.k hK2 ?_)
  refine J.keepE [(0, _), (1, _), (6, _)] ⟨rfl, rfl, rfl, trivial⟩ ?_
  refine J.seq (fun K3 hK3 => ?_)
  refine J.region ?_
  refine J.y (op_move rfl rfl) rfl rfl rfl ?_
  refine J.y ((op_shrU (a := 1) (m := 32) rfl rfl rfl (by omega)).as (v' := N64 0) rfl) rfl rfl rfl ?_
  refine J.y (op_assign rfl rfl) rfl rfl rfl ?_
  refine J.nil ?_
  refine J.then_n (J.k hK3 ?_)
  refine J.keepE [(0, _), (1, _), (6, _), (7, _)] ⟨rfl, rfl, rfl, rfl, trivial⟩ ?_
  refine J.seq (fun K4 hK4 => ?_)
  refine J.region ?_
  refine J.y (op_move rfl rfl) rfl rfl rfl ?_
  refine J.y ((op_andU (a := n) (b := 4294967295) rfl rfl rfl (by omega)).as (v' := N64 n) (congrArg N64 (and32 hn))) rfl rfl rfl ?_
  refine J.y (op_assign rfl rfl) rfl rfl rfl ?_
  refine J.nil ?_
  refine J.then_n (J.k hK4 ?_)
  refine J.keepE [(0, _), (1, _), (6, _), (7, _), (8, _)] ⟨rfl, rfl, rfl, rfl, rfl, trivial⟩ ?_
  refine J.seq (fun K5 hK5 => ?_)
  refine J.region ?_
  refine J.y (op_move rfl rfl) rfl rfl rfl ?_
  refine J.y ((op_shrU (a := n) (m := 32) rfl rfl rfl (by omega)).as (v' := N64 0) (congrArg N64 (Nat.div_eq_of_lt (by omega)))) rfl rfl rfl ?_
  refine J.y (op_assign rfl rfl) rfl rfl rfl ?_
  refine J.nil ?_
  refine J.then_n (J.k hK5 ?_)
  refine J.keepE [(0, _), (1, _), (6, _), (7, _), (8, _), (9, _)] ⟨rfl, rfl, rfl, rfl, rfl, rfl, trivial⟩ ?_
  refine J.seq (fun K6 hK6 => ?_)
  refine J.region ?_
  refine J.y (op_move rfl rfl) rfl rfl rfl ?_
  refine J.y (op_move rfl rfl) rfl rfl rfl ?_
  refine J.y ((op_mulU (a := 1) (b := n) rfl rfl rfl (by omega)).as (v' := N64 n) (congrArg N64 (Nat.one_mul n))) rfl rfl rfl ?_
  refine J.y (op_assign rfl rfl) rfl rfl rfl ?_
  refine J.nil ?_
  refine J.then_n (J.k hK6 ?_)
  refine J.keepE [(0, _), (1, _), (6, _), (7, _), (8, _), (9, _), (10, _)] ⟨rfl, rfl, rfl, rfl, rfl, rfl, rfl, trivial⟩ ?_
  refine J.seq (fun K7 hK7 => ?_)
  refine J.region ?_
  refine J.y (op_move rfl rfl) rfl rfl rfl ?_
  refine J.y (op_move rfl rfl) rfl rfl rfl ?_
  refine J.y ((op_mulU (a := 0) (b := n) rfl rfl rfl (by omega)).as (v' := N64 0) (congrArg N64 (Nat.zero_mul n))) rfl rfl rfl ?_
  refine J.y (op_move rfl rfl) rfl rfl rfl ?_
  refine J.y ((op_shrU (a := n) (m := 32) rfl rfl rfl (by omega)).as (v' := N64 0) (congrArg N64 (Nat.div_eq_of_lt (by omega)))) rfl rfl rfl ?_
  refine J.y ((op_addU (a := 0) (b := 0) rfl rfl rfl (by omega)).as (v' := N64 0) rfl) rfl rfl rfl ?_
  refine J.y (op_assign rfl rfl) rfl rfl rfl ?_
  refine J.nil ?_
  refine J.then_n (J.k hK7 ?_)
  refine J.keepE [(0, _), (1, _), (6, _), (7, _), (9, _), (11, _)] ⟨rfl, rfl, rfl, rfl, rfl, rfl, trivial⟩ ?_
  refine J.seq (fun K8 hK8 => ?_)
  refine J.region ?_
  refine J.y (op_move rfl rfl) rfl rfl rfl ?_
  refine J.y ((op_andU (a := 0) (b := 4294967295) rfl rfl rfl (by omega)).as (v' := N64 0) rfl) rfl rfl rfl ?_
  refine J.y (op_assign rfl rfl) rfl rfl rfl ?_
  refine J.nil ?_
  refine J.then_n (J.k hK8 ?_)
  refine J.keepE [(0, _), (1, _), (6, _), (7, _), (9, _), (11, _), (12, _)] ⟨rfl, rfl, rfl, rfl, rfl, rfl, rfl, trivial⟩ ?_
  refine J.seq (fun K9 hK9 => ?_)
  refine J.region ?_
  refine J.y (op_move rfl rfl) rfl rfl rfl ?_
  refine J.y ((op_shrU (a := 0) (m := 32) rfl rfl rfl (by omega)).as (v' := N64 0) rfl) rfl rfl rfl ?_
  refine J.y (op_assign rfl rfl) rfl rfl rfl ?_
  refine J.nil ?_
  refine J.then_n (J.k hK9 ?_)
  refine J.keepE [(0, _), (1, _), (6, _), (7, _), (9, _), (12, _), (13, _)] ⟨rfl, rfl, rfl, rfl, rfl, rfl, rfl, trivial⟩ ?_
  refine J.seq (fun K10 hK10 => ?_)
  refine J.region ?_
  refine J.y (op_move rfl rfl) rfl rfl rfl ?_
  refine J.y (op_move rfl rfl) rfl rfl rfl ?_
  refine J.y (op_move rfl rfl) rfl rfl rfl ?_
  refine J.y ((op_mulU (a := 1) (b := 0) rfl rfl rfl (by omega)).as (v' := N64 0) rfl) rfl rfl rfl ?_
  refine J.y ((op_addU (a := 0) (b := 0) rfl rfl rfl (by omega)).as (v' := N64 0) rfl) rfl rfl rfl ?_
  refine J.y (op_assign rfl rfl) rfl rfl rfl ?_
  refine J.nil ?_
  refine J.then_n (J.k hK10 ?_)
  refine J.keepE [(0, _), (1, _), (7, _), (9, _), (12, _), (13, _)] ⟨rfl, rfl, rfl, rfl, rfl, rfl, trivial⟩ ?_
  refine J.seq (fun K11 hK11 => ?_)
  refine J.region ?_
  refine J.y (op_move rfl rfl) rfl rfl rfl ?_
  refine J.y (op_move rfl rfl) rfl rfl rfl ?_
  refine J.y ((op_mulU (a := 0) (b := 0) rfl rfl rfl (by omega)).as (v' := N64 0) rfl) rfl rfl rfl ?_
  refine J.y (op_move rfl rfl) rfl rfl rfl ?_
  refine J.y ((op_addU (a := 0) (b := 0) rfl rfl rfl (by omega)).as (v' := N64 0) rfl) rfl rfl rfl ?_
  refine J.y (op_move rfl rfl) rfl rfl rfl ?_
  refine J.y ((op_shrU (a := 0) (m := 32) rfl rfl rfl (by omega)).as (v' := N64 0) rfl) rfl rfl rfl ?_
  refine J.y ((op_addU (a := 0) (b := 0) rfl rfl rfl (by omega)).as (v' := N64 0) rfl) rfl rfl rfl ?_
  refine J.y (op_assign rfl rfl) rfl rfl rfl ?_
  refine J.nil ?_
  refine J.then_n (J.k hK11 ?_)
  refine J.keepE [(0, _), (1, _), (4, _)] ⟨rfl, rfl, rfl, trivial⟩ ?_
  refine J.seq (fun K12 hK12 => ?_)
  refine J.region ?_
  refine J.y (op_move rfl rfl) rfl rfl rfl ?_
  refine J.y (op_move rfl rfl) rfl rfl rfl ?_
  refine J.y ((op_mulU (a := 1) (b := n) rfl rfl rfl (by omega)).as (v' := N64 n) (congrArg N64 (Nat.one_mul n))) rfl rfl rfl ?_
  refine J.y (op_assign rfl rfl) rfl rfl rfl ?_
  refine J.nil ?_
  refine J.then_n (J.k hK12 ?_)
  refine J.keepE [(4, _), (5, _)] ⟨rfl, rfl, trivial⟩ ?_
  refine J.ret ?_
  exact J.done hw0 (fun _ _ h => h) (res2 rfl rfl rfl) (retOk () rfl trivial [0] rfl (by decide))

theorem bmul_ct (F : Hp) (n : Nat) (hn : n < 4294967296) :
    Ct Tryd.prog 116 [N64 1, N64 n] [F] (fun _ : Unit => .tuple #[N64 0, N64 n]) (fun _ => True) (fun _ => [F]) := by
  refine Ct.walk Tryd.func116 rfl Tryd.ntmps116 rfl (fun w0 hw0 => ?_)
  change J _ [(0, _), (1, _)] _ _ _
  refine J.seq (fun K1 hK1 => ?_)
  refine J.region ?_
  refine J.y (op_assign rfl rfl) rfl rfl rfl ?_
  refine J.y (op_assign rfl rfl) rfl rfl rfl ?_
  refine J.nil ?_
  refine J.then_n (J.k hK1 ?_)
  refine J.keepE [(0, _), (1, _)] ⟨rfl, rfl, trivial⟩ ?_
  refine J.seq (fun K2 hK2 => ?_)
  refine J.condF rfl rfl ?_
  refine J.skip ?_
  refine J.then_n (J.k hK2 ?_)
  refine J.keepE [(0, _), (1, _)] ⟨rfl, rfl, trivial⟩ ?_
  refine J.seq (fun K3 hK3 => ?_)
  refine J.region ?_
  refine J.y (op_move rfl rfl) rfl rfl rfl ?_
  refine J.y (op_move rfl rfl) rfl rfl rfl ?_
  refine J.e (op_call rfl rfl ent158 (Ct.use0 (fun F' hF => mul64_ct F' n hn))) rfl rfl rfl ?_
  intro g25 _
  refine J.y (op_move rfl rfl) rfl rfl rfl ?_
  refine J.y (op_extract (v := N64 0) rfl rfl rfl) rfl rfl rfl ?_
  refine J.y (op_extract (v := N64 n) rfl rfl rfl) rfl rfl rfl ?_
  refine J.y (op_assign rfl rfl) rfl rfl rfl ?_
  refine J.y (op_assign rfl rfl) rfl rfl rfl ?_
  refine J.nil ?_
  refine J.then_n (J.k hK3 ?_)
  refine J.keepE [(8, _), (9, _)] ⟨rfl, rfl, trivial⟩ ?_
  refine J.seq (fun K4 hK4 => ?_)
  refine J.region ?_
  refine J.y (op_move rfl rfl) rfl rfl rfl ?_
  refine J.y (op_move rfl rfl) rfl rfl rfl ?_
  refine J.y (op_assign rfl rfl) rfl rfl rfl ?_
  refine J.y (op_assign rfl rfl) rfl rfl rfl ?_
  refine J.nil ?_
  refine J.then_n (J.k hK4 ?_)
  refine J.keepE [(4, _), (5, _)] ⟨rfl, rfl, trivial⟩ ?_
  refine J.ret ?_
  exact J.done hw0 (fun _ _ h => h) (res2 rfl rfl rfl) (retOk () rfl trivial [0] rfl (by decide))

theorem bLen_ct (F mr : Hp) (g : Nat) (l : List Value) (bs : List UInt8) (A : Option Addr) (c : Nat) (p : Option Addr) (hb : Bld g 0 l mr bs A c p) :
    Ct Tryd.prog 119 [Ptr g] [blk g l 102, F] (fun _ : Unit => I bs.length) (fun _ => True) (fun _ => [blk g l 102, F]) := by
  refine Ct.walk Tryd.func119 rfl Tryd.ntmps119 rfl (fun w0 hw0 => ?_)
  change J _ [(0, _)] _ _ _
  refine J.seq (fun K1 hK1 => ?_)
  refine J.region ?_
  refine J.y (op_assign rfl rfl) rfl rfl rfl ?_
  refine J.nil ?_
  refine J.then_n (J.k hK1 ?_)
  refine J.keepE [(0, _)] ⟨rfl, trivial⟩ ?_
  refine J.seq (fun K2 hK2 => ?_)
  refine J.region ?_
  refine J.y (op_move rfl rfl) rfl rfl rfl ?_
  refine J.y (op_nilCheck rfl rfl) rfl rfl rfl ?_
  refine J.y (op_fieldAddr (j := 1) rfl rfl Tryd.underlying102 rfl Tryd.sizeOf30 rfl) rfl rfl rfl ?_
  refine J.y (op_loadB 0 rfl rfl rfl Tryd.isAgg30 hb.a1) rfl rfl rfl ?_
  refine J.y (op_len Tryd.underlying30 rfl rfl) rfl rfl rfl ?_
  refine J.y (op_assign rfl rfl) rfl rfl rfl ?_
  refine J.nil ?_
  refine J.then_n (J.k hK2 ?_)
  refine J.keepE [(2, _)] ⟨rfl, trivial⟩ ?_
  refine J.ret ?_
  exact J.done hw0 (fun _ _ h => h) (res1 rfl rfl) (retOk () rfl trivial [0, 1] rfl (by decide))

theorem repeat_ct (F : Hp) (n : Nat) (h2 : 2 ≤ n) (h3 : n ≤ 8192) :
    Ct Tryd.prog 75 [Str [0], I n] [F] (fun _ : Unit => Str (List.replicate n 0)) (fun _ => True) (fun _ => [F]) := by
  refine Ct.walk Tryd.func75 rfl Tryd.ntmps75 rfl (fun w0 hw0 => ?_)
  change J _ [(0, _), (1, _)] _ _ _
  refine J.seq (fun K1 hK1 => ?_)
  refine J.region ?_
  refine J.y (op_assign rfl rfl) rfl rfl rfl ?_
  refine J.nil ?_
  refine J.then_n (J.k hK1 ?_)
  refine J.keepE [(0, _), (1, _)] ⟨rfl, rfl, trivial⟩ ?_
  refine J.seq (fun K2 hK2 => ?_)
  refine J.seq (fun K3 hK3 => ?_)
  refine J.region ?_
  refine J.y (op_move rfl rfl) rfl rfl rfl ?_
  refine J.nil ?_
  refine J.then_n (J.k hK3 ?_)
  refine J.keepE [(0, _), (1, _), (11, _)] ⟨rfl, rfl, rfl, trivial⟩ ?_
  refine J.block ?_
  refine J.seq (fun K4 hK4 => ?_)
  refine J.region ?_
  refine J.y ((op_eql rfl rfl rfl).as (v' := .bool false) (congrArg Value.bool (decide_eq_false (by omega)))) rfl rfl rfl ?_
  refine J.y (op_assign rfl rfl) rfl rfl rfl ?_
  refine J.nil ?_
  refine J.then_n (J.k hK4 ?_)
  refine J.keepE [(0, _), (1, _), (11, _), (12, _)] ⟨rfl, rfl, rfl, rfl, trivial⟩ ?_
  refine J.condF rfl rfl ?_
  refine J.seq (fun K5 hK5 => ?_)
  refine J.region ?_
  refine J.y ((op_eql rfl rfl rfl).as (v' := .bool false) (congrArg Value.bool (decide_eq_false (by omega)))) rfl rfl rfl ?_
  refine J.y (op_assign rfl rfl) rfl rfl rfl ?_
  refine J.nil ?_
  refine J.then_n (J.k hK5 ?_)
  refine J.keepE [(0, _), (1, _), (14, _)] ⟨rfl, rfl, rfl, trivial⟩ ?_
  refine J.condF rfl rfl ?_
  refine J.skip ?_
  refine J.blk_n ?_
  refine J.then_n (J.k hK2 ?_)
  refine J.keepE [(0, _), (1, _)] ⟨rfl, rfl, trivial⟩ ?_
  refine J.seq (fun K6 hK6 => ?_)
  refine J.seq (fun K7 hK7 => ?_)
  refine J.region ?_
  refine J.y (op_move rfl rfl) rfl rfl rfl ?_
  refine J.y ((op_lss rfl rfl rfl).as (v' := .bool false) (congrArg Value.bool (decide_eq_false (by omega)))) rfl rfl rfl ?_
  refine J.nil ?_
  refine J.then_n (J.k hK7 ?_)
  refine J.keepE [(0, _), (1, _), (18, _)] ⟨rfl, rfl, rfl, trivial⟩ ?_
  refine J.condF rfl rfl ?_
  refine J.skip ?_
  refine J.then_n (J.k hK6 ?_)
  refine J.keepE [(0, _), (1, _)] ⟨rfl, rfl, trivial⟩ ?_
  refine J.seq (fun K8 hK8 => ?_)
  refine J.region ?_
  refine J.y (op_move rfl rfl) rfl rfl rfl ?_
  refine J.y (op_slen Tryd.underlying9 rfl rfl) rfl rfl rfl ?_
  refine J.y ((op_cv_i64_u64 rfl rfl Tryd.underlying3 Tryd.underlying82 (m := 1) (by omega)).as (v' := N64 1) (N_W (by omega)).symm) rfl rfl rfl ?_
  refine J.y (op_move rfl rfl) rfl rfl rfl ?_
  refine J.y ((op_cv_i64_u64 rfl rfl Tryd.underlying3 Tryd.underlying82 (m := n) (by omega)).as (v' := N64 n) (N_W (by omega)).symm) rfl rfl rfl ?_
  refine J.e (op_call rfl rfl ent116 (Ct.use0 (fun F' hF => bmul_ct F' n (by omega)))) rfl rfl rfl ?_
  intro g26 _
  refine J.y (op_move rfl rfl) rfl rfl rfl ?_
  refine J.y (op_extract (v := N64 0) rfl rfl rfl) rfl rfl rfl ?_
  refine J.y (op_extract (v := N64 n) rfl rfl rfl) rfl rfl rfl ?_
  refine J.y (op_assign rfl rfl) rfl rfl rfl ?_
  refine J.y (op_assign rfl rfl) rfl rfl rfl ?_
  refine J.nil ?_
  refine J.then_n (J.k hK8 ?_)
  refine J.keepE [(0, _), (5, _), (6, _)] ⟨rfl, rfl, rfl, trivial⟩ ?_
  refine J.seq (fun K9 hK9 => ?_)
  refine J.seq (fun K10 hK10 => ?_)
  refine J.region ?_
  refine J.y (op_move rfl rfl) rfl rfl rfl ?_
  refine J.y ((op_gtr rfl rfl rfl).as (v' := .bool false) (congrArg Value.bool (decide_eq_false (by decide)))) rfl rfl rfl ?_
  refine J.y (op_move rfl rfl) rfl rfl rfl ?_
  refine J.yg (Wan.is rfl rfl rfl rfl rfl) (op_move rfl rfl) rfl rfl ?_
  refine J.yg (Wan.is rfl rfl rfl rfl rfl) ((op_gtr rfl rfl rfl).as (v' := .bool false) (congrArg Value.bool (decide_eq_false (by omega)))) rfl rfl ?_
  refine J.y (op_pickF rfl rfl rfl) rfl rfl rfl ?_
  refine J.nil ?_
  refine J.then_n (J.k hK10 ?_)
  refine J.keepE [(0, _), (6, _), (34, _)] ⟨rfl, rfl, rfl, trivial⟩ ?_
  refine J.condF rfl rfl ?_
  refine J.skip ?_
  refine J.then_n (J.k hK9 ?_)
  refine J.keepE [(0, _), (6, _)] ⟨rfl, rfl, trivial⟩ ?_
  refine J.seq (fun K11 hK11 => ?_)
  refine J.region ?_
  refine J.y (op_move rfl rfl) rfl rfl rfl ?_
  refine J.y (op_cvU_toI rfl rfl Tryd.underlying82 Tryd.underlying3 (by omega)) rfl rfl rfl ?_
  refine J.y (op_assign rfl rfl) rfl rfl rfl ?_
  refine J.nil ?_
  refine J.then_n (J.k hK11 ?_)
  refine J.keepE [(0, _), (7, _)] ⟨rfl, rfl, trivial⟩ ?_
  refine J.seq (fun K12 hK12 => ?_)
  refine J.seq (fun K13 hK13 => ?_)
  refine J.region ?_
  refine J.y (op_move rfl rfl) rfl rfl rfl ?_
  refine J.y (op_slen Tryd.underlying9 rfl rfl) rfl rfl rfl ?_
  refine J.y ((op_eql rfl rfl rfl).as (v' := .bool false) (congrArg Value.bool (decide_eq_false (by decide)))) rfl rfl rfl ?_
  refine J.nil ?_
  refine J.then_n (J.k hK13 ?_)
  refine J.keepE [(0, _), (7, _), (40, _)] ⟨rfl, rfl, rfl, trivial⟩ ?_
  refine J.condF rfl rfl ?_
  refine J.skip ?_
  refine J.then_n (J.k hK12 ?_)
  refine J.keepE [(0, _), (7, _)] ⟨rfl, rfl, trivial⟩ ?_
  refine J.seq (fun K14 hK14 => ?_)
  refine J.seq (fun K15 hK15 => ?_)
  refine J.region ?_
  refine J.y (op_move rfl rfl) rfl rfl rfl ?_
  refine J.y (op_sindex (i := 0) (c := 0) Tryd.underlying9 rfl rfl rfl rfl) rfl rfl rfl ?_
  refine J.nil ?_
  refine J.then_n (J.k hK15 ?_)
  refine J.keepE [(0, _), (7, _), (42, _)] ⟨rfl, rfl, rfl, trivial⟩ ?_
  refine J.block ?_
  refine J.seq (fun K16 hK16 => ?_)
  refine J.seq (fun K17 hK17 => ?_)
  refine J.region ?_
  refine J.y ((op_eql rfl rfl rfl).as (v' := .bool false) (congrArg Value.bool (decide_eq_false (by decide)))) rfl rfl rfl ?_
  refine J.y (op_assign rfl rfl) rfl rfl rfl ?_
  refine J.nil ?_
  refine J.then_n (J.k hK17 ?_)
  refine J.keepE [(0, _), (7, _), (42, _), (43, _)] ⟨rfl, rfl, rfl, rfl, trivial⟩ ?_
  refine J.condF rfl rfl ?_
  refine J.seq (fun K18 hK18 => ?_)
  refine J.region ?_
  refine J.y ((op_eql rfl rfl rfl).as (v' := .bool false) (congrArg Value.bool (decide_eq_false (by decide)))) rfl rfl rfl ?_
  refine J.y (op_assign rfl rfl) rfl rfl rfl ?_
  refine J.nil ?_
  refine J.then_n (J.k hK18 ?_)
  refine J.keepE [(0, _), (7, _), (42, _), (43, _)] ⟨rfl, rfl, rfl, rfl, trivial⟩ ?_
  refine J.condF rfl rfl ?_
  refine J.seq (fun K19 hK19 => ?_)
  refine J.region ?_
  refine J.y ((op_eql rfl rfl rfl).as (v' := .bool false) (congrArg Value.bool (decide_eq_false (by decide)))) rfl rfl rfl ?_
  refine J.y (op_assign rfl rfl) rfl rfl rfl ?_
  refine J.nil ?_
  refine J.then_n (J.k hK19 ?_)
  refine J.keepE [(0, _), (7, _), (42, _), (43, _)] ⟨rfl, rfl, rfl, rfl, trivial⟩ ?_
  refine J.condF rfl rfl ?_
  refine J.seq (fun K20 hK20 => ?_)
  refine J.region ?_
  refine J.y ((op_eql rfl rfl rfl).as (v' := .bool false) (congrArg Value.bool (decide_eq_false (by decide)))) rfl rfl rfl ?_
  refine J.y (op_assign rfl rfl) rfl rfl rfl ?_
  refine J.nil ?_
  refine J.then_n (J.k hK20 ?_)
  refine J.keepE [(0, _), (7, _), (42, _), (43, _)] ⟨rfl, rfl, rfl, rfl, trivial⟩ ?_
  refine J.condF rfl rfl ?_
  refine J.region ?_
  refine J.y ((op_eql rfl rfl rfl).as (v' := .bool false) (congrArg Value.bool (decide_eq_false (by decide)))) rfl rfl rfl ?_
  refine J.y (op_assign rfl rfl) rfl rfl rfl ?_
  refine J.nil ?_
  refine J.then_n (J.k hK16 ?_)
  refine J.keepE [(0, _), (7, _), (43, _)] ⟨rfl, rfl, rfl, trivial⟩ ?_
  refine J.condF rfl rfl ?_
  refine J.skip ?_
  refine J.blk_n ?_
  refine J.then_n (J.k hK14 ?_)
  refine J.keepE [(0, _), (7, _)] ⟨rfl, rfl, trivial⟩ ?_
  refine J.seq (fun K21 hK21 => ?_)
  refine J.region ?_
  refine J.y (op_move rfl rfl) rfl rfl rfl ?_
  refine J.y (op_assign rfl rfl) rfl rfl rfl ?_
  refine J.nil ?_
  refine J.then_n (J.k hK21 ?_)
  refine J.keepE [(0, _), (7, _), (8, _)] ⟨rfl, rfl, rfl, trivial⟩ ?_
  refine J.seq (fun K22 hK22 => ?_)
  refine J.seq (fun K23 hK23 => ?_)
  refine J.region ?_
  refine J.y (op_move rfl rfl) rfl rfl rfl ?_
  refine J.y ((op_gtr rfl rfl rfl).as (v' := .bool false) (congrArg Value.bool (decide_eq_false (by omega)))) rfl rfl rfl ?_
  refine J.nil ?_
  refine J.then_n (J.k hK23 ?_)
  refine J.keepE [(0, _), (7, _), (8, _), (96, _)] ⟨rfl, rfl, rfl, rfl, trivial⟩ ?_
  refine J.condF rfl rfl ?_
  refine J.skip ?_
  refine J.then_n (J.k hK22 ?_)
  refine J.keepE [(0, _), (7, _), (8, _)] ⟨rfl, rfl, rfl, trivial⟩ ?_
  refine J.seq (fun K24 hK24 => ?_)
  refine J.region ?_
  refine J.e (op_alloc rfl Tryd.zeroValue102 rfl) rfl rfl rfl ?_
  intro g9 _
  change J _ _ _ [F, blk g9 _ 102] _
  refine J.addEmpty [1, 2, 0] [blk g9 [.pointer none, .slice none 0 0] 102, fun _ => none, F] rfl (by decide) ?_
  refine J.nil ?_
  refine J.then_n (J.k hK24 ?_)
  refine J.keepE [(0, _), (7, _), (8, _), (9, _)] ⟨rfl, rfl, rfl, rfl, trivial⟩ ?_
  refine J.seq (fun K25 hK25 => ?_)
  refine J.region ?_
  refine J.y (op_move rfl rfl) rfl rfl rfl ?_
  refine J.e (op_call rfl rfl ent118 (bGrow_ct F g9 102 0 [.pointer none, .slice none 0 0] none ⟨rfl, .inl rfl, rfl, RowQ.nil, .inl rfl⟩ lies0 n (by omega))) rfl rfl rfl ?_
  rintro ⟨l57, m57⟩ ⟨A57, c57, hb57, hu57⟩
  change J _ _ _ [blk g9 l57 102, m57, F] _
  dsimp only at hb57 hu57
  refine J.nil ?_
  refine J.then_n (J.k hK25 ?_)
  refine J.keepE [(0, _), (7, _), (8, _), (9, _)] ⟨rfl, rfl, rfl, rfl, trivial⟩ ?_
  refine J.seq (fun K26 hK26 => ?_)
  refine J.region ?_
  refine J.y (op_move rfl rfl) rfl rfl rfl ?_
  refine J.e (op_call rfl rfl ent102 (writeString_ct F m57 g9 102 0 l57 [] A57 c57 _ hb57 (by rw [hu57.1]; exact lies0) [0] (by decide))) rfl rfl rfl ?_
  rintro ⟨l61, m61⟩ ⟨A61, c61, hb61, hu61⟩
  change J _ _ _ [blk g9 l61 102, m61, F] _
  dsimp only at hb61 hu61
  refine J.nil ?_
  refine J.then_n (J.k hK26 ?_)
  refine J.keepE [(7, _), (8, _), (9, _)] ⟨rfl, rfl, rfl, trivial⟩ ?_
  refine J.seq (fun K27 hK27 => ?_)
  refine J.block ?_
  refine J.loop (X := Nat × List Value × Hp × Option Addr × Nat) (fun x => [(7, I n), (8, I n), (9, Ptr g9)]) (fun x => [blk g9 x.2.1 102, x.2.2.1, F]) (fun x => 1 ≤ x.1 ∧ x.1 ≤ n ∧ x.2.1.length = 2 ∧ Bld g9 0 x.2.1 x.2.2.1 (List.replicate x.1 (0 : UInt8)) x.2.2.2.1 x.2.2.2.2 (some ⟨g9, 0, none⟩)) (fun x => n - x.1) (1, l61, m61, A61, c61) (⟨by omega, by omega, by rw [hu61.1, hu57.1]; rfl, hb61⟩) ⟨rfl, rfl, rfl, trivial⟩ (fun _ h => h) ?_
  rintro ⟨k, l, m, A1, c1⟩ ⟨hk1, hkn, hll, hb⟩ I3 hI3
  dsimp only at hk1 hkn hll hb ⊢
  refine J.seq (fun K28 hK28 => ?_)
  refine J.seq (fun K29 hK29 => ?_)
  refine J.region ?_
  refine J.e (op_call rfl rfl ent119 (Ct.use1 0 (m' := fun _ : Unit => blk g9 l 102) (new := fun _ => []) rfl (fun F' _ => bLen_ct F' m g9 l (List.replicate k (0 : UInt8)) A1 c1 _ hb))) rfl rfl rfl ?_
  intro g111 _
  change J _ _ _ [blk g9 l 102, m, F] _
  refine J.y (op_move rfl rfl) rfl rfl rfl ?_
  refine J.y ((op_lss rfl rfl rfl).as (v' := .bool (decide (k < n))) (congrArg Value.bool (decide_eq_decide.2 (by rw [List.length_replicate]; omega)))) rfl rfl rfl ?_
  refine J.nil ?_
  refine J.then_n (J.k hK29 ?_)
  refine J.keepE [(7, _), (8, _), (9, _), (113, _)] ⟨rfl, rfl, rfl, rfl, trivial⟩ ?_
  refine J.ite rfl (fun h113 => ?_) (fun h113 => ?_)
  ·
    refine J.skip ?_
    refine J.then_n (J.k hK28 ?_)
    refine J.keepE [(7, _), (8, _), (9, _)] ⟨rfl, rfl, rfl, trivial⟩ ?_
    refine J.block ?_
    refine J.seq (fun K30 hK30 => ?_)
    refine J.region ?_
    refine J.y (op_move rfl rfl) rfl rfl rfl ?_
    refine J.e (op_call rfl rfl ent119 (Ct.use1 0 (m' := fun _ : Unit => blk g9 l 102) (new := fun _ => []) rfl (fun F' _ => bLen_ct F' m g9 l (List.replicate k (0 : UInt8)) A1 c1 _ hb))) rfl rfl rfl ?_
    intro g115 _
    change J _ _ _ [blk g9 l 102, m, F] _
    refine J.y ((op_sub rfl rfl rfl (by rw [List.length_replicate]; omega)).as (v' := I (n - k : Nat)) (congrArg I (by rw [List.length_replicate]; omega))) rfl rfl rfl ?_
    refine J.e (op_call rfl rfl ent119 (Ct.use1 0 (m' := fun _ : Unit => blk g9 l 102) (new := fun _ => []) rfl (fun F' _ => bLen_ct F' m g9 l (List.replicate k (0 : UInt8)) A1 c1 _ hb))) rfl rfl rfl ?_
    intro g117 _
    change J _ _ _ [blk g9 l 102, m, F] _
    refine J.y (op_move rfl rfl) rfl rfl rfl ?_
    refine J.y ((op_min3 rfl rfl rfl rfl).as (v' := I (min (n - k) k : Nat)) (congrArg I (by rw [List.length_replicate]; omega))) rfl rfl rfl ?_
    refine J.y (op_assign rfl rfl) rfl rfl rfl ?_
    refine J.nil ?_
    refine J.then_n (J.k hK30 ?_)
    refine J.keepE [(7, _), (8, _), (9, _), (10, _)] ⟨rfl, rfl, rfl, rfl, trivial⟩ ?_
    refine J.region ?_
    refine J.e (op_call rfl rfl ent104 (bString_ct F m g9 102 0 l (List.replicate k (0 : UInt8)) A1 c1 _ hb (by rw [List.length_replicate]; omega))) rfl rfl rfl ?_
    rintro m20 hb20
    change J _ _ _ [blk g9 l 102, m20, F] _
    refine J.y (op_move rfl rfl) rfl rfl rfl ?_
    refine J.y ((op_sslice (l := 0) (h := min (n - k) k) Tryd.underlying9 rfl rfl rfl rfl ⟨by omega, by rw [List.length_replicate]; omega⟩).as (v' := Str (List.replicate (min (n - k) k) (0 : UInt8))) (by rw [List.drop_zero, List.take_replicate]; congr 2; omega)) rfl rfl rfl ?_
    refine J.e (op_call rfl rfl ent102 (writeString_ct F m20 g9 102 0 l (List.replicate k (0 : UInt8)) A1 c1 _ hb20 (by rw [hll]; exact lies0) (List.replicate (min (n - k) k) (0 : UInt8)) (by simp only [List.length_replicate]; omega))) rfl rfl rfl ?_
    rintro ⟨l23, m23⟩ ⟨A23, c23, hb23, hu23⟩
    change J _ _ _ [blk g9 l23 102, m23, F] _
    dsimp only at hb23 hu23
    rw [List.replicate_append_replicate] at hb23
    refine J.nil ?_
    refine J.blk_n ?_
    refine J.then_n ?_
    exact J.kk (k + min (n - k) k, l23, m23, A23, c23) (fun x (hx : _ ∧ n - x.1 < n - k) => hI3 x hx.1 hx.2) ⟨⟨by dsimp only; omega, by dsimp only; omega, by rw [hu23.1]; exact hll, hb23⟩, by dsimp only; omega⟩ ⟨rfl, rfl, rfl, trivial⟩ (fun _ h => h)
  ·
    refine J.exit ?_
    refine J.then_x ?_
    refine J.then_x ?_
    refine J.blk_eq ?_
    refine J.then_n (J.k hK27 ?_)
    refine J.keepE [(9, _)] ⟨rfl, trivial⟩ ?_
    refine J.seq (fun K31 hK31 => ?_)
    have hkn2 : k = n := by omega
    subst hkn2
    refine J.region ?_
    refine J.e (op_call rfl rfl ent104 (bString_ct F m g9 102 0 l (List.replicate k (0 : UInt8)) A1 c1 _ hb (by rw [List.length_replicate]; omega))) rfl rfl rfl ?_
    rintro m24 _
    change J _ _ _ [blk g9 l 102, m24, F] _
    refine J.y (op_assign rfl rfl) rfl rfl rfl ?_
    refine J.nil ?_
    refine J.then_n (J.k hK31 ?_)
    refine J.keepE [(4, _)] ⟨rfl, trivial⟩ ?_
    refine J.ret ?_
    exact J.done hw0 (fun _ _ h => h) (res1 rfl rfl) (retOk () rfl trivial [2] rfl (by decide))

theorem repeat_0 (F : Hp) : Ct Tryd.prog 75 [Str [0], I 0] [F] (fun _ : Unit => Str []) (fun _ => True) (fun _ => [F]) := by
  refine Ct.walk Tryd.func75 rfl Tryd.ntmps75 rfl (fun w0 hw0 => ?_)
  change J _ [(0, _), (1, _)] _ _ _
  refine J.seq (fun K1 hK1 => ?_)
  refine J.region ?_
  refine J.y (op_assign rfl rfl) rfl rfl rfl ?_
  refine J.nil ?_
  refine J.then_n (J.k hK1 ?_)
  refine J.keepE [(0, _), (1, _)] ⟨rfl, rfl, trivial⟩ ?_
  refine J.seq (fun K2 hK2 => ?_)
  refine J.seq (fun K3 hK3 => ?_)
  refine J.region ?_
  refine J.y (op_move rfl rfl) rfl rfl rfl ?_
  refine J.nil ?_
  refine J.then_n (J.k hK3 ?_)
  refine J.keepE [(0, _), (1, _), (11, _)] ⟨rfl, rfl, rfl, trivial⟩ ?_
  refine J.block ?_
  refine J.seq (fun K4 hK4 => ?_)
  refine J.region ?_
  refine J.y ((op_eql rfl rfl rfl).as (v' := .bool true) (congrArg Value.bool (decide_eq_true (by omega)))) rfl rfl rfl ?_
  refine J.y (op_assign rfl rfl) rfl rfl rfl ?_
  refine J.nil ?_
  refine J.then_n (J.k hK4 ?_)
  refine J.keepE [(0, _), (1, _), (11, _), (12, _)] ⟨rfl, rfl, rfl, rfl, trivial⟩ ?_
  refine J.condT rfl rfl ?_
  refine J.seq (fun K5 hK5 => ?_)
  refine J.region ?_
  refine J.y (op_assign rfl rfl) rfl rfl rfl ?_
  refine J.nil ?_
  refine J.then_n (J.k hK5 ?_)
  refine J.keepE [(4, _)] ⟨rfl, trivial⟩ ?_
  refine J.ret ?_
  refine J.blk_r ?_
  refine J.then_r ?_
  exact J.done hw0 (fun _ _ h => h) (res1 rfl rfl) (retOk () rfl trivial [0] rfl (by decide))

theorem repeat_1 (F : Hp) : Ct Tryd.prog 75 [Str [0], I 1] [F] (fun _ : Unit => Str [0]) (fun _ => True) (fun _ => [F]) := by
  refine Ct.walk Tryd.func75 rfl Tryd.ntmps75 rfl (fun w0 hw0 => ?_)
  change J _ [(0, _), (1, _)] _ _ _
  refine J.seq (fun K1 hK1 => ?_)
  refine J.region ?_
  refine J.y (op_assign rfl rfl) rfl rfl rfl ?_
  refine J.nil ?_
  refine J.then_n (J.k hK1 ?_)
  refine J.keepE [(0, _), (1, _)] ⟨rfl, rfl, trivial⟩ ?_
  refine J.seq (fun K2 hK2 => ?_)
  refine J.seq (fun K3 hK3 => ?_)
  refine J.region ?_
  refine J.y (op_move rfl rfl) rfl rfl rfl ?_
  refine J.nil ?_
  refine J.then_n (J.k hK3 ?_)
  refine J.keepE [(0, _), (1, _), (11, _)] ⟨rfl, rfl, rfl, trivial⟩ ?_
  refine J.block ?_
  refine J.seq (fun K4 hK4 => ?_)
  refine J.region ?_
  refine J.y ((op_eql rfl rfl rfl).as (v' := .bool false) (congrArg Value.bool (decide_eq_false (by omega)))) rfl rfl rfl ?_
  refine J.y (op_assign rfl rfl) rfl rfl rfl ?_
  refine J.nil ?_
  refine J.then_n (J.k hK4 ?_)
  refine J.keepE [(0, _), (1, _), (11, _), (12, _)] ⟨rfl, rfl, rfl, rfl, trivial⟩ ?_
  refine J.condF rfl rfl ?_
  refine J.seq (fun K5 hK5 => ?_)
  refine J.region ?_
  refine J.y ((op_eql rfl rfl rfl).as (v' := .bool true) (congrArg Value.bool (decide_eq_true (by omega)))) rfl rfl rfl ?_
  refine J.y (op_assign rfl rfl) rfl rfl rfl ?_
  refine J.nil ?_
  refine J.then_n (J.k hK5 ?_)
  refine J.keepE [(0, _), (1, _), (14, _)] ⟨rfl, rfl, rfl, trivial⟩ ?_
  refine J.condT rfl rfl ?_
  refine J.seq (fun K6 hK6 => ?_)
  refine J.region ?_
  refine J.y (op_move rfl rfl) rfl rfl rfl ?_
  refine J.y (op_assign rfl rfl) rfl rfl rfl ?_
  refine J.nil ?_
  refine J.then_n (J.k hK6 ?_)
  refine J.keepE [(4, _)] ⟨rfl, trivial⟩ ?_
  refine J.ret ?_
  refine J.blk_r ?_
  refine J.then_r ?_
  exact J.done hw0 (fun _ _ h => h) (res1 rfl rfl) (retOk () rfl trivial [0] rfl (by decide))

theorem repeat_any (F : Hp) (n : Nat) (h3 : n ≤ 8192) :
    Ct Tryd.prog 75 [Str [0], I n] [F] (fun _ : Unit => Str (List.replicate n 0)) (fun _ => True) (fun _ => [F]) := by
  match n, h3 with
  | 0, _ => exact repeat_0 F
  | 1, _ => exact repeat_1 F
  | n + 2, h3 => exact repeat_ct F (n + 2) (by omega) h3

end Go.Proofs.YtnkfapecbmmpeaaDoor
