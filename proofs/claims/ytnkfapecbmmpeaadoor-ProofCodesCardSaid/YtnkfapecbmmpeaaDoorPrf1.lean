/- A part of the proof: contracts of functions of the program, each for every state of the heaps that it names. -/
import Derived.Test.YtnkfapecbmmpeaaDoorPrf0
import Derived.Test.YtnkfapecbmmpeaaDoorFwX
set_option linter.unusedSimpArgs false
set_option linter.unusedVariables false
namespace Go.Proofs.YtnkfapecbmmpeaaDoor
open Go Go.Fw
set_option maxRecDepth 100000
set_option maxHeartbeats 1000000
theorem ent62 : Enters Tryd.prog 62 := Enters.of Tryd.func62 rfl (by kernel_rfl)
theorem ent98 : Enters Tryd.prog 98 := Enters.of Tryd.func98 rfl (by kernel_rfl)
theorem ent115 : Enters Tryd.prog 115 := Enters.of Tryd.func115 rfl (by kernel_rfl)
theorem ent156 : Enters Tryd.prog 156 := Enters.of Tryd.func156 rfl (by kernel_rfl)

theorem pright_ct (F : Hp) (k : List UInt8) (z : Int) : Ct Tryd.prog 62 [Str (k), I (z)] [F] (fun _ : Unit => .bool (decide (k.length = 16 ∧ 0 ≤ z ∧ z ≤ 128))) (fun _ => True) (fun _ => [F]) := by
  refine Ct.walk Tryd.func62 rfl Tryd.ntmps62 rfl (fun w0 hw0 => ?_)
  change J _ [(0, _), (1, _)] _ _ _
  refine J.seq (fun K1 hK1 => ?_)
  refine J.region ?_
  refine J.y (op_assign rfl rfl) rfl rfl rfl ?_
  refine J.nil ?_
  refine J.then_n (J.k hK1 ?_)
  refine J.keepE [(0, _), (1, _)] ⟨rfl, rfl, trivial⟩ ?_
  refine J.seq (fun K2 hK2 => ?_)
  refine J.region ?_
  refine J.y (op_move rfl rfl) rfl rfl rfl ?_
  refine J.y (op_slen Tryd.underlying9 rfl rfl) rfl rfl rfl ?_
  refine J.y (op_eql rfl rfl rfl) rfl rfl rfl ?_
  refine J.y (op_move rfl rfl) rfl rfl rfl ?_
  refine J.split (d := 8) rfl (fun h8 => ?_) (fun h8 => ?_)
  ·
    refine J.yg (Wan.is rfl rfl rfl rfl rfl) (op_move rfl rfl) rfl rfl ?_
    refine J.yg (Wan.is rfl rfl rfl rfl rfl) (op_geq rfl rfl rfl) rfl rfl ?_
    refine J.y (op_pickT rfl rfl rfl) rfl rfl rfl ?_
    refine J.y (op_move rfl rfl) rfl rfl rfl ?_
    refine J.split (d := 12) rfl (fun h12 => ?_) (fun h12 => ?_)
    ·
      refine J.yg (Wan.is rfl rfl rfl rfl rfl) (op_move rfl rfl) rfl rfl ?_
      refine J.yg (Wan.is rfl rfl rfl rfl rfl) (op_leq rfl rfl rfl) rfl rfl ?_
      refine J.y (op_pickT rfl rfl rfl) rfl rfl rfl ?_
      refine J.y (op_assign rfl rfl) rfl rfl rfl ?_
      refine J.nil ?_
      refine J.then_n (J.k hK2 ?_)
      refine J.keepE [(4, _)] ⟨rfl, trivial⟩ ?_
      refine J.ret ?_
      exact J.done hw0 (fun _ _ h => h) (res1 rfl rfl) (retOk () (by first | rw [decide_eq_false (by omega)] | rw [decide_eq_true (by omega)] | exact congrArg Value.bool (decide_eq_decide.2 (by omega))) trivial [0] rfl (by decide))
    ·
      refine J.no (Wan.is rfl rfl rfl rfl rfl) rfl rfl ?_
      refine J.no (Wan.is rfl rfl rfl rfl rfl) rfl rfl ?_
      refine J.y (op_pickF rfl rfl rfl) rfl rfl rfl ?_
      refine J.y (op_assign rfl rfl) rfl rfl rfl ?_
      refine J.nil ?_
      refine J.then_n (J.k hK2 ?_)
      refine J.keepE [(4, _)] ⟨rfl, trivial⟩ ?_
      refine J.ret ?_
      exact J.done hw0 (fun _ _ h => h) (res1 rfl rfl) (retOk () (by first | rw [decide_eq_false (by omega)] | rw [decide_eq_true (by omega)] | exact congrArg Value.bool (decide_eq_decide.2 (by omega))) trivial [0] rfl (by decide))
  ·
    refine J.no (Wan.is rfl rfl rfl rfl rfl) rfl rfl ?_
    refine J.no (Wan.is rfl rfl rfl rfl rfl) rfl rfl ?_
    refine J.y (op_pickF rfl rfl rfl) rfl rfl rfl ?_
    refine J.y (op_move rfl rfl) rfl rfl rfl ?_
    refine J.no (Wan.is rfl rfl rfl rfl rfl) rfl rfl ?_
    refine J.no (Wan.is rfl rfl rfl rfl rfl) rfl rfl ?_
    refine J.y (op_pickF rfl rfl rfl) rfl rfl rfl ?_
    refine J.y (op_assign rfl rfl) rfl rfl rfl ?_
    refine J.nil ?_
    refine J.then_n (J.k hK2 ?_)
    refine J.keepE [(4, _)] ⟨rfl, trivial⟩ ?_
    refine J.ret ?_
    exact J.done hw0 (fun _ _ h => h) (res1 rfl rfl) (retOk () (by first | rw [decide_eq_false (by omega)] | rw [decide_eq_true (by omega)] | exact congrArg Value.bool (decide_eq_decide.2 (by omega))) trivial [0] rfl (by decide))

theorem turned_ct (F : Hp) (k : List UInt8) (hk : k.length = 16) (d : Nat) (hd : d < 128) : Ct Tryd.prog 69 [Str (k), I ((d : Nat) : Int)] [F] (fun _ : Unit => Str (turn k d)) (fun _ => True) (fun _ => [F]) := by
  refine Ct.walk Tryd.func69 rfl Tryd.ntmps69 rfl (fun w0 hw0 => ?_)
  change J _ [(0, _), (1, _)] _ _ _
  refine J.seq (fun K1 hK1 => ?_)
  refine J.region ?_
  refine J.y (op_assign rfl rfl) rfl rfl rfl ?_
  refine J.nil ?_
  refine J.then_n (J.k hK1 ?_)
  refine J.keepE [(0, _), (1, _)] ⟨rfl, rfl, trivial⟩ ?_
  refine J.seq (fun K2 hK2 => ?_)
  refine J.region ?_
  refine J.y (op_move rfl rfl) rfl rfl rfl ?_
  refine J.e (op_toBytes rfl rfl Tryd.underlying9 Tryd.underlying30 Tryd.underlying5) rfl rfl rfl ?_
  rintro ⟨g7, c7, m7⟩ h7
  try dsimp only at h7
  change J _ ((7, .slice (some ⟨g7, 0, none⟩) k.length c7) :: _) _ [F, m7] _
  refine J.y (op_assign rfl rfl) rfl rfl rfl ?_
  refine J.nil ?_
  refine J.then_n (J.k hK2 ?_)
  refine J.keepE [(1, _), (5, _)] ⟨rfl, rfl, trivial⟩ ?_
  refine J.seq (fun K3 hK3 => ?_)
  refine J.draw [F, m7] [11] (.y 0 (.y 1 (.y 2 (.y 3 (.y 4 (.y 5 (.y 6 (.y 7 (.y 8 (.y 9 (.y 10 (.e 11 .nil)))))))))))) Tryd.wide (by decide +kernel) (by simp) ?_
  refine J.dy rfl (op_move rfl rfl) rfl rfl rfl rfl ?_
  refine J.dy rfl (op_move rfl rfl) rfl rfl rfl rfl ?_
  refine J.dy rfl ((op_quo rfl rfl rfl (by first | omega | (simp only [List.length_append, List.length_cons, List.length_nil, List.length_take, List.length_drop] at *; omega))).as (v' := I ((d / 8 : Nat) : Int)) (congrArg I (by omega))) rfl rfl rfl rfl ?_
  refine J.dy rfl (op_indexAddrS (i := d / 8) (j := 0 + (d / 8) * 1) rfl rfl rfl Tryd.underlying30 Tryd.sizeOf5 (by first | omega | (simp only [List.length_append, List.length_cons, List.length_nil, List.length_take, List.length_drop] at *; omega)) (by omega)) rfl rfl rfl rfl ?_
  refine J.dy rfl (op_load rfl rfl Tryd.isAgg5 (m := m7) (by simp) (h7.sl.cells (bytesV_get (getSome 0 (by first | omega | (simp only [List.length_append, List.length_cons, List.length_nil, List.length_take, List.length_drop] at *; omega)))))) rfl rfl rfl rfl ?_
  refine J.dy rfl (op_move rfl rfl) rfl rfl rfl rfl ?_
  refine J.dy rfl ((op_rem rfl rfl rfl (by first | omega | (simp only [List.length_append, List.length_cons, List.length_nil, List.length_take, List.length_drop] at *; omega))).as (v' := I ((d % 8 : Nat) : Int)) (congrArg I (by omega))) rfl rfl rfl rfl ?_
  refine J.dy rfl ((op_sub rfl rfl rfl (by first | omega | (refine ⟨?_, ?_⟩ <;> omega))).as (v' := I ((7 - d % 8 : Nat) : Int)) (congrArg I (by omega))) rfl rfl rfl rfl ?_
  refine J.dy rfl ((op_shl8 (a := 1) (m := 7 - d % 8) rfl rfl rfl).as (v' := B8 (UInt8.ofNat (1 * 2 ^ (7 - d % 8)))) (by rw [Nat.min_eq_left (by omega)]; rfl)) rfl rfl rfl rfl ?_
  refine J.dy rfl (op_xor8 rfl rfl rfl) rfl rfl rfl rfl ?_
  refine J.dy rfl (op_indexAddrS (i := d / 8) (j := 0 + (d / 8) * 1) rfl rfl rfl Tryd.underlying30 Tryd.sizeOf5 (by first | omega | (simp only [List.length_append, List.length_cons, List.length_nil, List.length_take, List.length_drop] at *; omega)) (by omega)) rfl rfl rfl rfl ?_
  refine J.ds rfl (op_storeRow (i := 1) (k := d / 8) (off := 0) (b := [B8 (k.getD (d / 8) 0 ^^^ UInt8.ofNat (1 * 2 ^ (7 - d % 8)))]) rfl rfl rfl rfl h7 (vs := [B8 (k.getD (d / 8) 0 ^^^ UInt8.ofNat (1 * 2 ^ (7 - d % 8)))]) rfl Tryd.sizeOf5 rfl (by omega) (bytesV_get (getSome 0 (by first | omega | (simp only [List.length_append, List.length_cons, List.length_nil, List.length_take, List.length_drop] at *; omega)))) rfl (Nat.le_refl _)) rfl rfl rfl ?_
  rintro m2_1 hm2_1
  change J _ _ _ [F, m2_1] _
  rw [bytesV_set] at hm2_1
  refine J.dnil ?_
  refine J.then_n (J.k hK3 ?_)
  refine J.keepE [(5, _)] ⟨rfl, trivial⟩ ?_
  refine J.seq (fun K4 hK4 => ?_)
  refine J.region ?_
  refine J.y (op_move rfl rfl) rfl rfl rfl ?_
  refine J.y (op_toStr (l := k.set (d / 8) (k.getD (d / 8) 0 ^^^ UInt8.ofNat (1 * 2 ^ (7 - d % 8)))) rfl rfl Tryd.underlying30 Tryd.underlying5 Tryd.underlying9 (m := m2_1) (by simp) hm2_1.sl) rfl rfl rfl ?_
  refine J.y (op_assign rfl rfl) rfl rfl rfl ?_
  refine J.nil ?_
  refine J.then_n (J.k hK4 ?_)
  refine J.keepE [(4, _)] ⟨rfl, trivial⟩ ?_
  refine J.ret ?_
  exact J.done hw0 (fun _ _ h => h) (res1 rfl rfl) (retOk () (by unfold turn; rfl) trivial [0] rfl (by decide))

theorem pnode_ct (F : Hp) (s : List UInt8) : Ct Tryd.prog 98 [Str (s)] [F] (fun _ : Unit => .bool (nodeB s)) (fun _ => True) (fun _ => [F]) := by
  refine Ct.walk Tryd.func98 rfl Tryd.ntmps98 rfl (fun w0 hw0 => ?_)
  change J _ [(0, _)] _ _ _
  refine J.seq (fun K1 hK1 => ?_)
  refine J.region ?_
  refine J.y (op_assign rfl rfl) rfl rfl rfl ?_
  refine J.nil ?_
  refine J.then_n (J.k hK1 ?_)
  refine J.keepE [(0, _)] ⟨rfl, trivial⟩ ?_
  refine J.seq (fun K2 hK2 => ?_)
  refine J.region ?_
  refine J.y (op_move rfl rfl) rfl rfl rfl ?_
  refine J.y (op_seq rfl rfl rfl) rfl rfl rfl ?_
  refine J.y (op_move rfl rfl) rfl rfl rfl ?_
  refine J.split (d := 5) rfl (fun h5 => ?_) (fun h5 => ?_)
  ·
    refine J.no (Wan.is rfl rfl rfl rfl rfl) rfl rfl ?_
    refine J.no (Wan.is rfl rfl rfl rfl rfl) rfl rfl ?_
    refine J.no (Wan.is rfl rfl rfl rfl rfl) rfl rfl ?_
    refine J.no (Wan.is rfl rfl rfl rfl rfl) rfl rfl ?_
    refine J.no (Wan.un rfl rfl rfl rfl) rfl rfl ?_
    refine J.no (Wan.un rfl rfl rfl rfl) rfl rfl ?_
    refine J.no (Wan.un rfl rfl rfl rfl) rfl rfl ?_
    refine J.no (Wan.un rfl rfl rfl rfl) rfl rfl ?_
    refine J.no (Wan.un rfl rfl rfl rfl) rfl rfl ?_
    refine J.no (Wan.un rfl rfl rfl rfl) rfl rfl ?_
    refine J.no (Wan.un rfl rfl rfl rfl) rfl rfl ?_
    refine J.no (Wan.un rfl rfl rfl rfl) rfl rfl ?_
    refine J.no (Wan.is rfl rfl rfl rfl rfl) rfl rfl ?_
    refine J.y (op_pickT rfl rfl rfl) rfl rfl rfl ?_
    refine J.y (op_assign rfl rfl) rfl rfl rfl ?_
    refine J.nil ?_
    refine J.then_n (J.k hK2 ?_)
    refine J.keepE [(2, _)] ⟨rfl, trivial⟩ ?_
    refine J.ret ?_
    exact J.done hw0 (fun _ _ h => h) (res1 rfl rfl) (retOk () (by first | rw [node_1 (by assumption)] | rw [node_2 (by omega) (by omega)] | rw [node_no (by assumption) (by omega)] | (by_cases q : (s.getD 0 0).toNat = 2; rw [node_2 (by omega) (.inr q), decide_eq_true (by omega)]; rw [node_no (by assumption) (by omega), decide_eq_false (by omega)])) trivial [0] rfl (by decide))
  ·
    refine J.yg (Wan.is rfl rfl rfl rfl rfl) (op_move rfl rfl) rfl rfl ?_
    refine J.yg (Wan.is rfl rfl rfl rfl rfl) (op_slen Tryd.underlying9 rfl rfl) rfl rfl ?_
    refine J.yg (Wan.is rfl rfl rfl rfl rfl) (op_eql rfl rfl rfl) rfl rfl ?_
    refine J.yg (Wan.is rfl rfl rfl rfl rfl) (op_move rfl rfl) rfl rfl ?_
    refine J.split (d := 9) rfl (fun h9 => ?_) (fun h9 => ?_)
    ·
      refine J.yg (Wan.is rfl rfl rfl rfl rfl) (op_move rfl rfl) rfl rfl ?_
      refine J.yg (Wan.is rfl rfl rfl rfl rfl) (op_sindex (c := s.getD 0 0) Tryd.underlying9 rfl rfl rfl (getSome 0 (by first | omega | (simp only [List.length_append, List.length_cons, List.length_nil, List.length_take, List.length_drop] at *; omega)))) rfl rfl ?_
      refine J.yg (Wan.is rfl rfl rfl rfl rfl) (op_eql rfl rfl rfl) rfl rfl ?_
      refine J.yg (Wan.is rfl rfl rfl rfl rfl) (op_move rfl rfl) rfl rfl ?_
      refine J.split (d := 13) rfl (fun h13 => ?_) (fun h13 => ?_)
      ·
        refine J.no (Wan.is rfl rfl rfl rfl rfl) rfl rfl ?_
        refine J.no (Wan.is rfl rfl rfl rfl rfl) rfl rfl ?_
        refine J.no (Wan.is rfl rfl rfl rfl rfl) rfl rfl ?_
        refine J.yg (Wan.is rfl rfl rfl rfl rfl) (op_pickT rfl rfl rfl) rfl rfl ?_
        refine J.yg (Wan.is rfl rfl rfl rfl rfl) (op_pickT rfl rfl rfl) rfl rfl ?_
        refine J.y (op_pickF rfl rfl rfl) rfl rfl rfl ?_
        refine J.y (op_assign rfl rfl) rfl rfl rfl ?_
        refine J.nil ?_
        refine J.then_n (J.k hK2 ?_)
        refine J.keepE [(2, _)] ⟨rfl, trivial⟩ ?_
        refine J.ret ?_
        exact J.done hw0 (fun _ _ h => h) (res1 rfl rfl) (retOk () (by first | rw [node_1 (by assumption)] | rw [node_2 (by omega) (by omega)] | rw [node_no (by assumption) (by omega)] | (by_cases q : (s.getD 0 0).toNat = 2; rw [node_2 (by omega) (.inr q), decide_eq_true (by omega)]; rw [node_no (by assumption) (by omega), decide_eq_false (by omega)])) trivial [0] rfl (by decide))
      ·
        refine J.yg (Wan.is rfl rfl rfl rfl rfl) (op_move rfl rfl) rfl rfl ?_
        refine J.yg (Wan.is rfl rfl rfl rfl rfl) (op_sindex (c := s.getD 0 0) Tryd.underlying9 rfl rfl rfl (getSome 0 (by first | omega | (simp only [List.length_append, List.length_cons, List.length_nil, List.length_take, List.length_drop] at *; omega)))) rfl rfl ?_
        refine J.yg (Wan.is rfl rfl rfl rfl rfl) (op_eql rfl rfl rfl) rfl rfl ?_
        refine J.yg (Wan.is rfl rfl rfl rfl rfl) (op_pickF rfl rfl rfl) rfl rfl ?_
        refine J.yg (Wan.is rfl rfl rfl rfl rfl) (op_pickT rfl rfl rfl) rfl rfl ?_
        refine J.y (op_pickF rfl rfl rfl) rfl rfl rfl ?_
        refine J.y (op_assign rfl rfl) rfl rfl rfl ?_
        refine J.nil ?_
        refine J.then_n (J.k hK2 ?_)
        refine J.keepE [(2, _)] ⟨rfl, trivial⟩ ?_
        refine J.ret ?_
        exact J.done hw0 (fun _ _ h => h) (res1 rfl rfl) (retOk () (by first | rw [node_1 (by assumption)] | rw [node_2 (by omega) (by omega)] | rw [node_no (by assumption) (by omega)] | (by_cases q : (s.getD 0 0).toNat = 2; rw [node_2 (by omega) (.inr q), decide_eq_true (by omega)]; rw [node_no (by assumption) (by omega), decide_eq_false (by omega)])) trivial [0] rfl (by decide))
    ·
      refine J.no (Wan.is rfl rfl rfl rfl rfl) rfl rfl ?_
      refine J.no (Wan.is rfl rfl rfl rfl rfl) rfl rfl ?_
      refine J.no (Wan.is rfl rfl rfl rfl rfl) rfl rfl ?_
      refine J.no (Wan.is rfl rfl rfl rfl rfl) rfl rfl ?_
      refine J.no (Wan.un rfl rfl rfl rfl) rfl rfl ?_
      refine J.no (Wan.un rfl rfl rfl rfl) rfl rfl ?_
      refine J.no (Wan.un rfl rfl rfl rfl) rfl rfl ?_
      refine J.no (Wan.is rfl rfl rfl rfl rfl) rfl rfl ?_
      refine J.yg (Wan.is rfl rfl rfl rfl rfl) (op_pickF rfl rfl rfl) rfl rfl ?_
      refine J.y (op_pickF rfl rfl rfl) rfl rfl rfl ?_
      refine J.y (op_assign rfl rfl) rfl rfl rfl ?_
      refine J.nil ?_
      refine J.then_n (J.k hK2 ?_)
      refine J.keepE [(2, _)] ⟨rfl, trivial⟩ ?_
      refine J.ret ?_
      exact J.done hw0 (fun _ _ h => h) (res1 rfl rfl) (retOk () (by first | rw [node_1 (by assumption)] | rw [node_2 (by omega) (by omega)] | rw [node_no (by assumption) (by omega)] | (by_cases q : (s.getD 0 0).toNat = 2; rw [node_2 (by omega) (.inr q), decide_eq_true (by omega)]; rw [node_no (by assumption) (by omega), decide_eq_false (by omega)])) trivial [0] rfl (by decide))

theorem good_ct (F : Hp) (A : Option Addr) (c : Nat) (bs : List (List UInt8)) (hs : Sl F 1 A bs.length c (strsV bs)) (th : Bool) (pk pv k : List UInt8) (d : Nat) (hg : GoodP bs th pk pv k d) : Ct Tryd.prog 49 [.agg #[.slice A bs.length c, .bool (th), Str (pk), Str (pv)], Str (k), I ((d : Nat) : Int)] [F] (fun _ : Unit => .bool true) (fun _ => True) (fun _ => [F]) := by
  have hle := hg.le
  have hk16 := hg.k16
  refine Ct.walk Tryd.func49 rfl Tryd.ntmps49 rfl (fun w0 hw0 => ?_)
  change J _ [(0, _), (1, _), (2, _)] _ _ _
  refine J.seq (fun K1 hK1 => ?_)
  refine J.region ?_
  refine J.e (op_box (l := [.slice A bs.length c, .bool (th), Str (pk), Str (pv)]) rfl rfl rfl) rfl rfl rfl ?_
  intro g3 _
  change J _ _ _ [F, blk g3 [.slice A bs.length c, .bool (th), Str (pk), Str (pv)] 57] _
  refine J.y (op_assign rfl rfl) rfl rfl rfl ?_
  refine J.nil ?_
  refine J.then_n (J.k hK1 ?_)
  refine J.keepE [(1, _), (2, _), (3, _)] ⟨rfl, rfl, rfl, trivial⟩ ?_
  refine J.seq (fun K2 hK2 => ?_)
  refine J.region ?_
  refine J.y (op_fieldAddr (j := 0) rfl rfl Tryd.underlying57 rfl Tryd.sizeOf55 rfl) rfl rfl rfl ?_
  refine J.y (op_loadB 1 (v := .slice A bs.length c) rfl rfl rfl Tryd.isAgg55 rfl) rfl rfl rfl ?_
  refine J.y (op_len Tryd.underlying55 rfl rfl) rfl rfl rfl ?_
  refine J.y (op_assign rfl rfl) rfl rfl rfl ?_
  refine J.nil ?_
  refine J.then_n (J.k hK2 ?_)
  refine J.keepE [(1, _), (2, _), (3, _), (7, _)] ⟨rfl, rfl, rfl, rfl, trivial⟩ ?_
  refine J.seq (fun K3 hK3 => ?_)
  refine J.seq (fun K4 hK4 => ?_)
  refine J.region ?_
  refine J.y (op_move rfl rfl) rfl rfl rfl ?_
  refine J.y (op_move rfl rfl) rfl rfl rfl ?_
  refine J.e (op_call rfl rfl ent62 (Ct.use0 (fun F' hF => pright_ct F' k ((d : Nat) : Int)))) rfl rfl rfl ?_
  intro g16 _
  refine J.y ((op_not rfl rfl).as (v' := .bool false) (by rw [decide_eq_true (show k.length = 16 ∧ (0 : Int) ≤ ((d : Nat) : Int) ∧ ((d : Nat) : Int) ≤ 128 from ⟨hk16, by omega, by omega⟩)]; rfl)) rfl rfl rfl ?_
  refine J.y (op_move rfl rfl) rfl rfl rfl ?_
  refine J.yg (Wan.is rfl rfl rfl rfl rfl) (op_move rfl rfl) rfl rfl ?_
  refine J.yg (Wan.is rfl rfl rfl rfl rfl) (op_move rfl rfl) rfl rfl ?_
  refine J.yg (Wan.is rfl rfl rfl rfl rfl) (op_sub rfl rfl rfl (by first | omega | (simp only [List.length_append, List.length_cons, List.length_nil, List.length_take, List.length_drop] at *; omega))) rfl rfl ?_
  refine J.yg (Wan.is rfl rfl rfl rfl rfl) ((op_gtr rfl rfl rfl).as (v' := .bool false) (congrArg Value.bool (decide_eq_false (by omega)))) rfl rfl ?_
  refine J.y (op_pickF rfl rfl rfl) rfl rfl rfl ?_
  refine J.nil ?_
  refine J.then_n (J.k hK4 ?_)
  refine J.keepE [(1, _), (2, _), (3, _), (7, _), (23, _)] ⟨rfl, rfl, rfl, rfl, rfl, trivial⟩ ?_
  refine J.condF rfl rfl ?_
  refine J.skip ?_
  refine J.then_n (J.k hK3 ?_)
  refine J.keepE [(1, _), (2, _), (3, _), (7, _)] ⟨rfl, rfl, rfl, rfl, trivial⟩ ?_
  refine J.seq (fun K5 hK5 => ?_)
  refine J.seq (fun K6 hK6 => ?_)
  refine J.region ?_
  refine J.y (op_fieldAddr (j := 0) rfl rfl Tryd.underlying57 rfl Tryd.sizeOf55 rfl) rfl rfl rfl ?_
  refine J.y (op_loadB 1 (v := .slice A bs.length c) rfl rfl rfl Tryd.isAgg55 rfl) rfl rfl rfl ?_
  refine J.y (op_len Tryd.underlying55 rfl rfl) rfl rfl rfl ?_
  refine J.y (op_move rfl rfl) rfl rfl rfl ?_
  refine J.nil ?_
  refine J.then_n (J.k hK6 ?_)
  refine J.keepE [(1, _), (2, _), (3, _), (7, _), (25, _), (26, _), (27, _)] ⟨rfl, rfl, rfl, rfl, rfl, rfl, rfl, trivial⟩ ?_
  refine J.block ?_
  refine J.loop (X := Nat) (fun ζ => [(1, Str (k)), (2, I ((d : Nat) : Int)), (3, Ptr g3), (7, I ((bs.length : Nat) : Int)), (25, .slice A bs.length c), (26, I ((bs.length : Nat) : Int)), (27, I ((ζ : Nat) : Int))]) (fun ζ => [F, blk g3 [.slice A bs.length c, .bool (th), Str (pk), Str (pv)] 57]) (fun ζ => ζ ≤ bs.length) (fun ζ => bs.length - ζ) 0 (Nat.zero_le _) ⟨rfl, rfl, rfl, rfl, rfl, rfl, rfl, trivial⟩ (fun _ h => h) ?_
  rintro i hi I0 hI0
  refine J.seq (fun K7 hK7 => ?_)
  refine J.region ?_
  refine J.y (op_lss rfl rfl rfl) rfl rfl rfl ?_
  refine J.nil ?_
  refine J.then_n (J.k hK7 ?_)
  refine J.keepE [(1, _), (2, _), (3, _), (7, _), (25, _), (26, _), (27, _), (28, _)] ⟨rfl, rfl, rfl, rfl, rfl, rfl, rfl, rfl, trivial⟩ ?_
  refine J.seq (fun K8 hK8 => ?_)
  refine J.ite rfl (fun h28 => ?_) (fun h28 => ?_)
  ·
    refine J.skip ?_
    refine J.then_n (J.k hK8 ?_)
    refine J.keepE [(1, _), (2, _), (3, _), (7, _), (25, _), (26, _), (27, _)] ⟨rfl, rfl, rfl, rfl, rfl, rfl, rfl, trivial⟩ ?_
    refine J.seq (fun K9 hK9 => ?_)
    refine J.block ?_
    refine J.seq (fun K10 hK10 => ?_)
    refine J.region ?_
    refine J.y (op_indexAddr (i := i) rfl rfl rfl Tryd.underlying55 Tryd.sizeOf9 hs (by first | omega | (simp only [List.length_append, List.length_cons, List.length_nil, List.length_take, List.length_drop] at *; omega))) rfl rfl rfl ?_
    refine J.y (op_load rfl rfl Tryd.isAgg9 (m := F) (by simp) (hs.elem (strsV_get (getSome [] (by first | omega | (simp only [List.length_append, List.length_cons, List.length_nil, List.length_take, List.length_drop] at *; omega)))))) rfl rfl rfl ?_
    refine J.y (op_assign rfl rfl) rfl rfl rfl ?_
    refine J.nil ?_
    refine J.then_n (J.k hK10 ?_)
    refine J.keepE [(1, _), (2, _), (3, _), (7, _), (9, _), (25, _), (26, _), (27, _)] ⟨rfl, rfl, rfl, rfl, rfl, rfl, rfl, rfl, trivial⟩ ?_
    refine J.seq (fun K11 hK11 => ?_)
    refine J.region ?_
    refine J.y (op_move rfl rfl) rfl rfl rfl ?_
    refine J.e (op_call rfl rfl ent98 (Ct.use0 (fun F' hF => pnode_ct F' (bs.getD i [])))) rfl rfl rfl ?_
    intro g32 _
    refine J.y ((op_not rfl rfl).as (v' := .bool false) (by rw [hg.nodes i (by omega)]; rfl)) rfl rfl rfl ?_
    refine J.nil ?_
    refine J.then_n (J.k hK11 ?_)
    refine J.keepE [(1, _), (2, _), (3, _), (7, _), (25, _), (26, _), (27, _), (33, _)] ⟨rfl, rfl, rfl, rfl, rfl, rfl, rfl, rfl, trivial⟩ ?_
    refine J.condF rfl rfl ?_
    refine J.skip ?_
    refine J.blk_n ?_
    refine J.then_n (J.k hK9 ?_)
    refine J.keepE [(1, _), (2, _), (3, _), (7, _), (25, _), (26, _), (27, _)] ⟨rfl, rfl, rfl, rfl, rfl, rfl, rfl, trivial⟩ ?_
    refine J.region ?_
    refine J.y ((op_add rfl rfl rfl (by first | omega | (simp only [List.length_append, List.length_cons, List.length_nil, List.length_take, List.length_drop] at *; omega))).as (v' := I ((i + 1 : Nat) : Int)) (congrArg I (by omega))) rfl rfl rfl ?_
    refine J.y (op_move rfl rfl) rfl rfl rfl ?_
    refine J.nil ?_
    refine J.then_n ?_
    exact J.kk (i + 1) (fun η (hη : _ ∧ bs.length - η < bs.length - i) => hI0 η hη.1 hη.2) ⟨(by omega), by first | omega | (dsimp only; omega)⟩ ⟨rfl, rfl, rfl, rfl, rfl, rfl, rfl, trivial⟩ (fun _ h => h)
  ·
    refine J.exit ?_
    refine J.then_x ?_
    refine J.then_x ?_
    refine J.blk_eq ?_
    refine J.then_n (J.k hK5 ?_)
    refine J.keepE [(1, _), (2, _), (3, _), (7, _)] ⟨rfl, rfl, rfl, rfl, trivial⟩ ?_
    refine J.seq (fun K12 hK12 => ?_)
    refine J.seq (fun K13 hK13 => ?_)
    refine J.region ?_
    refine J.y (op_move rfl rfl) rfl rfl rfl ?_
    refine J.y (op_gtr rfl rfl rfl) rfl rfl rfl ?_
    refine J.nil ?_
    refine J.then_n (J.k hK13 ?_)
    refine J.keepE [(1, _), (2, _), (3, _), (7, _), (36, _)] ⟨rfl, rfl, rfl, rfl, rfl, trivial⟩ ?_
    refine J.ite rfl (fun h36 => ?_) (fun h36 => ?_)
    ·
      obtain ⟨hl1, hl2⟩ := hg.last (by omega)
      refine J.seq (fun K14 hK14 => ?_)
      refine J.region ?_
      refine J.y (op_fieldAddr (j := 0) rfl rfl Tryd.underlying57 rfl Tryd.sizeOf55 rfl) rfl rfl rfl ?_
      refine J.y (op_loadB 1 (v := .slice A bs.length c) rfl rfl rfl Tryd.isAgg55 rfl) rfl rfl rfl ?_
      refine J.y (op_move rfl rfl) rfl rfl rfl ?_
      refine J.y ((op_sub rfl rfl rfl (by first | omega | (refine ⟨?_, ?_⟩ <;> omega))).as (v' := I ((bs.length - 1 : Nat) : Int)) (congrArg I (by omega))) rfl rfl rfl ?_
      refine J.y (op_indexAddr (i := bs.length - 1) rfl rfl rfl Tryd.underlying55 Tryd.sizeOf9 hs (by first | omega | (simp only [List.length_append, List.length_cons, List.length_nil, List.length_take, List.length_drop] at *; omega))) rfl rfl rfl ?_
      refine J.y (op_load rfl rfl Tryd.isAgg9 (m := F) (by simp) (hs.elem (strsV_get (getSome [] (by first | omega | (simp only [List.length_append, List.length_cons, List.length_nil, List.length_take, List.length_drop] at *; omega)))))) rfl rfl rfl ?_
      refine J.y (op_assign rfl rfl) rfl rfl rfl ?_
      refine J.nil ?_
      refine J.then_n (J.k hK14 ?_)
      refine J.keepE [(1, _), (2, _), (3, _), (7, _), (10, _)] ⟨rfl, rfl, rfl, rfl, rfl, trivial⟩ ?_
      refine J.seq (fun K15 hK15 => ?_)
      refine J.region ?_
      refine J.y (op_move rfl rfl) rfl rfl rfl ?_
      refine J.y ((op_seq rfl rfl rfl).as (v' := .bool false) (congrArg Value.bool (decide_eq_false (hl1)))) rfl rfl rfl ?_
      refine J.y (op_move rfl rfl) rfl rfl rfl ?_
      refine J.yg (Wan.is rfl rfl rfl rfl rfl) (op_fieldAddr (j := 1) rfl rfl Tryd.underlying57 rfl Tryd.sizeOf4 rfl) rfl rfl ?_
      refine J.yg (Wan.is rfl rfl rfl rfl rfl) (op_loadB 1 (v := .bool (th)) rfl rfl rfl Tryd.isAgg4 rfl) rfl rfl ?_
      refine J.yg (Wan.is rfl rfl rfl rfl rfl) (op_not rfl rfl) rfl rfl ?_
      refine J.yg (Wan.is rfl rfl rfl rfl rfl) (op_move rfl rfl) rfl rfl ?_
      refine J.splitB (d := 49) rfl (fun h49 => ?_) (fun h49 => ?_)
      ·
        refine J.yg (Wan.is rfl rfl rfl rfl rfl) (op_move rfl rfl) rfl rfl ?_
        have hl3 := last_pos (hl2 (by simpa using h49))
        refine J.yg (Wan.is rfl rfl rfl rfl rfl) (op_sindex (c := (bs.getD (bs.length - 1) []).getD 0 0) Tryd.underlying9 rfl rfl rfl (getSome 0 (by first | omega | (simp only [List.length_append, List.length_cons, List.length_nil, List.length_take, List.length_drop] at *; omega)))) rfl rfl ?_
        refine J.yg (Wan.is rfl rfl rfl rfl rfl) ((op_neq rfl rfl rfl).as (v' := .bool false) (congrArg Value.bool (decide_eq_false (by have := hl2 (by simpa using h49); omega)))) rfl rfl ?_
        refine J.yg (Wan.is rfl rfl rfl rfl rfl) (op_pickT rfl rfl rfl) rfl rfl ?_
        refine J.y (op_pickF rfl rfl rfl) rfl rfl rfl ?_
        refine J.nil ?_
        refine J.then_n (J.k hK15 ?_)
        refine J.keepE [(1, _), (2, _), (3, _), (7, _), (54, _)] ⟨rfl, rfl, rfl, rfl, rfl, trivial⟩ ?_
        refine J.condF rfl rfl ?_
        refine J.skip ?_
        refine J.then_n (J.k hK12 ?_)
        refine J.keepE [(1, _), (2, _), (3, _), (7, _)] ⟨rfl, rfl, rfl, rfl, trivial⟩ ?_
        refine J.seq (fun K16 hK16 => ?_)
        refine J.seq (fun K17 hK17 => ?_)
        refine J.region ?_
        refine J.y (op_fieldAddr (j := 1) rfl rfl Tryd.underlying57 rfl Tryd.sizeOf4 rfl) rfl rfl rfl ?_
        refine J.y (op_loadB 1 (v := .bool (th)) rfl rfl rfl Tryd.isAgg4 rfl) rfl rfl rfl ?_
        refine J.y (op_not rfl rfl) rfl rfl rfl ?_
        refine J.nil ?_
        refine J.then_n (J.k hK17 ?_)
        refine J.keepE [(1, _), (2, _), (3, _), (7, _), (57, _)] ⟨rfl, rfl, rfl, rfl, rfl, trivial⟩ ?_
        refine J.cond rfl (fun h57 => ?_) (fun h57 => ?_)
        ·
          refine J.seq (fun K18 hK18 => ?_)
          refine J.region ?_
          refine J.y (op_fieldAddr (j := 2) rfl rfl Tryd.underlying57 rfl Tryd.sizeOf9 rfl) rfl rfl rfl ?_
          refine J.y (op_loadB 1 (v := Str (pk)) rfl rfl rfl Tryd.isAgg9 rfl) rfl rfl rfl ?_
          refine J.y ((op_seq rfl rfl rfl).as (v' := .bool true) (congrArg Value.bool (decide_eq_true ((hg.no (by simpa using h57)).1)))) rfl rfl rfl ?_
          refine J.y (op_move rfl rfl) rfl rfl rfl ?_
          refine J.yg (Wan.is rfl rfl rfl rfl rfl) (op_fieldAddr (j := 3) rfl rfl Tryd.underlying57 rfl Tryd.sizeOf9 rfl) rfl rfl ?_
          refine J.yg (Wan.is rfl rfl rfl rfl rfl) (op_loadB 1 (v := Str (pv)) rfl rfl rfl Tryd.isAgg9 rfl) rfl rfl ?_
          refine J.yg (Wan.is rfl rfl rfl rfl rfl) ((op_seq rfl rfl rfl).as (v' := .bool true) (congrArg Value.bool (decide_eq_true ((hg.no (by simpa using h57)).2)))) rfl rfl ?_
          refine J.y (op_pickT rfl rfl rfl) rfl rfl rfl ?_
          refine J.y (op_assign rfl rfl) rfl rfl rfl ?_
          refine J.nil ?_
          refine J.then_n (J.k hK18 ?_)
          refine J.keepE [(6, _)] ⟨rfl, trivial⟩ ?_
          refine J.ret ?_
          refine J.then_r ?_
          exact J.done hw0 (fun _ _ h => h) (res1 rfl rfl) (retOk () (by first | rfl | (rw [Int.toNat_natCast, Nat.min_eq_left (by omega), (hg.yes (by simpa using h57)).2])) trivial [0] rfl (by decide))
        ·
          refine J.skip ?_
          refine J.then_n (J.k hK16 ?_)
          refine J.keepE [(1, _), (2, _), (3, _), (7, _)] ⟨rfl, rfl, rfl, rfl, trivial⟩ ?_
          refine J.seq (fun K19 hK19 => ?_)
          refine J.region ?_
          refine J.y (op_fieldAddr (j := 2) rfl rfl Tryd.underlying57 rfl Tryd.sizeOf9 rfl) rfl rfl rfl ?_
          refine J.y (op_loadB 1 (v := Str (pk)) rfl rfl rfl Tryd.isAgg9 rfl) rfl rfl rfl ?_
          refine J.y (op_slen Tryd.underlying9 rfl rfl) rfl rfl rfl ?_
          refine J.y ((op_eql rfl rfl rfl).as (v' := .bool true) (congrArg Value.bool (decide_eq_true (by have := (hg.yes (by simpa using h57)).1; omega)))) rfl rfl rfl ?_
          refine J.y (op_move rfl rfl) rfl rfl rfl ?_
          refine J.yg (Wan.is rfl rfl rfl rfl rfl) (op_fieldAddr (j := 2) rfl rfl Tryd.underlying57 rfl Tryd.sizeOf9 rfl) rfl rfl ?_
          refine J.yg (Wan.is rfl rfl rfl rfl rfl) (op_loadB 1 (v := Str (pk)) rfl rfl rfl Tryd.isAgg9 rfl) rfl rfl ?_
          refine J.yg (Wan.is rfl rfl rfl rfl rfl) (op_move rfl rfl) rfl rfl ?_
          refine J.yg (Wan.is rfl rfl rfl rfl rfl) (op_move rfl rfl) rfl rfl ?_
          refine J.yg (Wan.is rfl rfl rfl rfl rfl) (op_move rfl rfl) rfl rfl ?_
          refine J.yg (Wan.is rfl rfl rfl rfl rfl) ((op_add rfl rfl rfl (by first | omega | (simp only [List.length_append, List.length_cons, List.length_nil, List.length_take, List.length_drop] at *; omega))).as (v' := I ((d + bs.length : Nat) : Int)) (congrArg I (by omega))) rfl rfl ?_
          have hpl := (hg.yes (by simpa using h57)).1
          refine J.eg (Wan.is rfl rfl rfl rfl rfl) (op_call rfl rfl ent68 (Ct.use0 (fun F' hF => below_ct F' pk (by omega) k (by omega) ((d + bs.length : Nat) : Int)))) rfl rfl ?_
          intro g77 _
          refine J.y (op_pickT rfl rfl rfl) rfl rfl rfl ?_
          refine J.y (op_assign rfl rfl) rfl rfl rfl ?_
          refine J.nil ?_
          refine J.then_n (J.k hK19 ?_)
          refine J.keepE [(6, _)] ⟨rfl, trivial⟩ ?_
          refine J.ret ?_
          exact J.done hw0 (fun _ _ h => h) (res1 rfl rfl) (retOk () (by first | rfl | (rw [Int.toNat_natCast, Nat.min_eq_left (by omega), (hg.yes (by simpa using h57)).2])) trivial [0] rfl (by decide))
      ·
        refine J.no (Wan.is rfl rfl rfl rfl rfl) rfl rfl ?_
        refine J.no (Wan.is rfl rfl rfl rfl rfl) rfl rfl ?_
        refine J.no (Wan.is rfl rfl rfl rfl rfl) rfl rfl ?_
        refine J.yg (Wan.is rfl rfl rfl rfl rfl) (op_pickF rfl rfl rfl) rfl rfl ?_
        refine J.y (op_pickF rfl rfl rfl) rfl rfl rfl ?_
        refine J.nil ?_
        refine J.then_n (J.k hK15 ?_)
        refine J.keepE [(1, _), (2, _), (3, _), (7, _), (54, _)] ⟨rfl, rfl, rfl, rfl, rfl, trivial⟩ ?_
        refine J.condF rfl rfl ?_
        refine J.skip ?_
        refine J.then_n (J.k hK12 ?_)
        refine J.keepE [(1, _), (2, _), (3, _), (7, _)] ⟨rfl, rfl, rfl, rfl, trivial⟩ ?_
        refine J.seq (fun K20 hK20 => ?_)
        refine J.seq (fun K21 hK21 => ?_)
        refine J.region ?_
        refine J.y (op_fieldAddr (j := 1) rfl rfl Tryd.underlying57 rfl Tryd.sizeOf4 rfl) rfl rfl rfl ?_
        refine J.y (op_loadB 1 (v := .bool (th)) rfl rfl rfl Tryd.isAgg4 rfl) rfl rfl rfl ?_
        refine J.y (op_not rfl rfl) rfl rfl rfl ?_
        refine J.nil ?_
        refine J.then_n (J.k hK21 ?_)
        refine J.keepE [(1, _), (2, _), (3, _), (7, _), (57, _)] ⟨rfl, rfl, rfl, rfl, rfl, trivial⟩ ?_
        refine J.cond rfl (fun h57 => ?_) (fun h57 => ?_)
        ·
          refine J.seq (fun K22 hK22 => ?_)
          refine J.region ?_
          refine J.y (op_fieldAddr (j := 2) rfl rfl Tryd.underlying57 rfl Tryd.sizeOf9 rfl) rfl rfl rfl ?_
          refine J.y (op_loadB 1 (v := Str (pk)) rfl rfl rfl Tryd.isAgg9 rfl) rfl rfl rfl ?_
          refine J.y ((op_seq rfl rfl rfl).as (v' := .bool true) (congrArg Value.bool (decide_eq_true ((hg.no (by simpa using h57)).1)))) rfl rfl rfl ?_
          refine J.y (op_move rfl rfl) rfl rfl rfl ?_
          refine J.yg (Wan.is rfl rfl rfl rfl rfl) (op_fieldAddr (j := 3) rfl rfl Tryd.underlying57 rfl Tryd.sizeOf9 rfl) rfl rfl ?_
          refine J.yg (Wan.is rfl rfl rfl rfl rfl) (op_loadB 1 (v := Str (pv)) rfl rfl rfl Tryd.isAgg9 rfl) rfl rfl ?_
          refine J.yg (Wan.is rfl rfl rfl rfl rfl) ((op_seq rfl rfl rfl).as (v' := .bool true) (congrArg Value.bool (decide_eq_true ((hg.no (by simpa using h57)).2)))) rfl rfl ?_
          refine J.y (op_pickT rfl rfl rfl) rfl rfl rfl ?_
          refine J.y (op_assign rfl rfl) rfl rfl rfl ?_
          refine J.nil ?_
          refine J.then_n (J.k hK22 ?_)
          refine J.keepE [(6, _)] ⟨rfl, trivial⟩ ?_
          refine J.ret ?_
          refine J.then_r ?_
          exact J.done hw0 (fun _ _ h => h) (res1 rfl rfl) (retOk () (by first | rfl | (rw [Int.toNat_natCast, Nat.min_eq_left (by omega), (hg.yes (by simpa using h57)).2])) trivial [0] rfl (by decide))
        ·
          refine J.skip ?_
          refine J.then_n (J.k hK20 ?_)
          refine J.keepE [(1, _), (2, _), (3, _), (7, _)] ⟨rfl, rfl, rfl, rfl, trivial⟩ ?_
          refine J.seq (fun K23 hK23 => ?_)
          refine J.region ?_
          refine J.y (op_fieldAddr (j := 2) rfl rfl Tryd.underlying57 rfl Tryd.sizeOf9 rfl) rfl rfl rfl ?_
          refine J.y (op_loadB 1 (v := Str (pk)) rfl rfl rfl Tryd.isAgg9 rfl) rfl rfl rfl ?_
          refine J.y (op_slen Tryd.underlying9 rfl rfl) rfl rfl rfl ?_
          refine J.y ((op_eql rfl rfl rfl).as (v' := .bool true) (congrArg Value.bool (decide_eq_true (by have := (hg.yes (by simpa using h57)).1; omega)))) rfl rfl rfl ?_
          refine J.y (op_move rfl rfl) rfl rfl rfl ?_
          refine J.yg (Wan.is rfl rfl rfl rfl rfl) (op_fieldAddr (j := 2) rfl rfl Tryd.underlying57 rfl Tryd.sizeOf9 rfl) rfl rfl ?_
          refine J.yg (Wan.is rfl rfl rfl rfl rfl) (op_loadB 1 (v := Str (pk)) rfl rfl rfl Tryd.isAgg9 rfl) rfl rfl ?_
          refine J.yg (Wan.is rfl rfl rfl rfl rfl) (op_move rfl rfl) rfl rfl ?_
          refine J.yg (Wan.is rfl rfl rfl rfl rfl) (op_move rfl rfl) rfl rfl ?_
          refine J.yg (Wan.is rfl rfl rfl rfl rfl) (op_move rfl rfl) rfl rfl ?_
          refine J.yg (Wan.is rfl rfl rfl rfl rfl) ((op_add rfl rfl rfl (by first | omega | (simp only [List.length_append, List.length_cons, List.length_nil, List.length_take, List.length_drop] at *; omega))).as (v' := I ((d + bs.length : Nat) : Int)) (congrArg I (by omega))) rfl rfl ?_
          have hpl := (hg.yes (by simpa using h57)).1
          refine J.eg (Wan.is rfl rfl rfl rfl rfl) (op_call rfl rfl ent68 (Ct.use0 (fun F' hF => below_ct F' pk (by omega) k (by omega) ((d + bs.length : Nat) : Int)))) rfl rfl ?_
          intro g77 _
          refine J.y (op_pickT rfl rfl rfl) rfl rfl rfl ?_
          refine J.y (op_assign rfl rfl) rfl rfl rfl ?_
          refine J.nil ?_
          refine J.then_n (J.k hK23 ?_)
          refine J.keepE [(6, _)] ⟨rfl, trivial⟩ ?_
          refine J.ret ?_
          exact J.done hw0 (fun _ _ h => h) (res1 rfl rfl) (retOk () (by first | rfl | (rw [Int.toNat_natCast, Nat.min_eq_left (by omega), (hg.yes (by simpa using h57)).2])) trivial [0] rfl (by decide))
    ·
      refine J.skip ?_
      refine J.then_n (J.k hK12 ?_)
      refine J.keepE [(1, _), (2, _), (3, _), (7, _)] ⟨rfl, rfl, rfl, rfl, trivial⟩ ?_
      refine J.seq (fun K24 hK24 => ?_)
      refine J.seq (fun K25 hK25 => ?_)
      refine J.region ?_
      refine J.y (op_fieldAddr (j := 1) rfl rfl Tryd.underlying57 rfl Tryd.sizeOf4 rfl) rfl rfl rfl ?_
      refine J.y (op_loadB 1 (v := .bool (th)) rfl rfl rfl Tryd.isAgg4 rfl) rfl rfl rfl ?_
      refine J.y (op_not rfl rfl) rfl rfl rfl ?_
      refine J.nil ?_
      refine J.then_n (J.k hK25 ?_)
      refine J.keepE [(1, _), (2, _), (3, _), (7, _), (57, _)] ⟨rfl, rfl, rfl, rfl, rfl, trivial⟩ ?_
      refine J.cond rfl (fun h57 => ?_) (fun h57 => ?_)
      ·
        refine J.seq (fun K26 hK26 => ?_)
        refine J.region ?_
        refine J.y (op_fieldAddr (j := 2) rfl rfl Tryd.underlying57 rfl Tryd.sizeOf9 rfl) rfl rfl rfl ?_
        refine J.y (op_loadB 1 (v := Str (pk)) rfl rfl rfl Tryd.isAgg9 rfl) rfl rfl rfl ?_
        refine J.y ((op_seq rfl rfl rfl).as (v' := .bool true) (congrArg Value.bool (decide_eq_true ((hg.no (by simpa using h57)).1)))) rfl rfl rfl ?_
        refine J.y (op_move rfl rfl) rfl rfl rfl ?_
        refine J.yg (Wan.is rfl rfl rfl rfl rfl) (op_fieldAddr (j := 3) rfl rfl Tryd.underlying57 rfl Tryd.sizeOf9 rfl) rfl rfl ?_
        refine J.yg (Wan.is rfl rfl rfl rfl rfl) (op_loadB 1 (v := Str (pv)) rfl rfl rfl Tryd.isAgg9 rfl) rfl rfl ?_
        refine J.yg (Wan.is rfl rfl rfl rfl rfl) ((op_seq rfl rfl rfl).as (v' := .bool true) (congrArg Value.bool (decide_eq_true ((hg.no (by simpa using h57)).2)))) rfl rfl ?_
        refine J.y (op_pickT rfl rfl rfl) rfl rfl rfl ?_
        refine J.y (op_assign rfl rfl) rfl rfl rfl ?_
        refine J.nil ?_
        refine J.then_n (J.k hK26 ?_)
        refine J.keepE [(6, _)] ⟨rfl, trivial⟩ ?_
        refine J.ret ?_
        refine J.then_r ?_
        exact J.done hw0 (fun _ _ h => h) (res1 rfl rfl) (retOk () (by first | rfl | (rw [Int.toNat_natCast, Nat.min_eq_left (by omega), (hg.yes (by simpa using h57)).2])) trivial [0] rfl (by decide))
      ·
        refine J.skip ?_
        refine J.then_n (J.k hK24 ?_)
        refine J.keepE [(1, _), (2, _), (3, _), (7, _)] ⟨rfl, rfl, rfl, rfl, trivial⟩ ?_
        refine J.seq (fun K27 hK27 => ?_)
        refine J.region ?_
        refine J.y (op_fieldAddr (j := 2) rfl rfl Tryd.underlying57 rfl Tryd.sizeOf9 rfl) rfl rfl rfl ?_
        refine J.y (op_loadB 1 (v := Str (pk)) rfl rfl rfl Tryd.isAgg9 rfl) rfl rfl rfl ?_
        refine J.y (op_slen Tryd.underlying9 rfl rfl) rfl rfl rfl ?_
        refine J.y ((op_eql rfl rfl rfl).as (v' := .bool true) (congrArg Value.bool (decide_eq_true (by have := (hg.yes (by simpa using h57)).1; omega)))) rfl rfl rfl ?_
        refine J.y (op_move rfl rfl) rfl rfl rfl ?_
        refine J.yg (Wan.is rfl rfl rfl rfl rfl) (op_fieldAddr (j := 2) rfl rfl Tryd.underlying57 rfl Tryd.sizeOf9 rfl) rfl rfl ?_
        refine J.yg (Wan.is rfl rfl rfl rfl rfl) (op_loadB 1 (v := Str (pk)) rfl rfl rfl Tryd.isAgg9 rfl) rfl rfl ?_
        refine J.yg (Wan.is rfl rfl rfl rfl rfl) (op_move rfl rfl) rfl rfl ?_
        refine J.yg (Wan.is rfl rfl rfl rfl rfl) (op_move rfl rfl) rfl rfl ?_
        refine J.yg (Wan.is rfl rfl rfl rfl rfl) (op_move rfl rfl) rfl rfl ?_
        refine J.yg (Wan.is rfl rfl rfl rfl rfl) ((op_add rfl rfl rfl (by first | omega | (simp only [List.length_append, List.length_cons, List.length_nil, List.length_take, List.length_drop] at *; omega))).as (v' := I ((d + bs.length : Nat) : Int)) (congrArg I (by omega))) rfl rfl ?_
        have hpl := (hg.yes (by simpa using h57)).1
        refine J.eg (Wan.is rfl rfl rfl rfl rfl) (op_call rfl rfl ent68 (Ct.use0 (fun F' hF => below_ct F' pk (by omega) k (by omega) ((d + bs.length : Nat) : Int)))) rfl rfl ?_
        intro g77 _
        refine J.y (op_pickT rfl rfl rfl) rfl rfl rfl ?_
        refine J.y (op_assign rfl rfl) rfl rfl rfl ?_
        refine J.nil ?_
        refine J.then_n (J.k hK27 ?_)
        refine J.keepE [(6, _)] ⟨rfl, trivial⟩ ?_
        refine J.ret ?_
        exact J.done hw0 (fun _ _ h => h) (res1 rfl rfl) (retOk () (by first | rfl | (rw [Int.toNat_natCast, Nat.min_eq_left (by omega), (hg.yes (by simpa using h57)).2])) trivial [0] rfl (by decide))

theorem backS_ct (F : Hp) (B : Option Addr) (n e : Nat) : Ct Tryd.prog 115 [.slice B n e] [F] (fun x : Nat => .func (.func 156) #[] #[Ptr x]) (fun _ => True) (fun x => [F, blk x [.slice B n e] 55]) := by
  refine Ct.walk Tryd.func115 rfl Tryd.ntmps115 rfl (fun w0 hw0 => ?_)
  change J _ [(0, _)] _ _ _
  refine J.seq (fun K1 hK1 => ?_)
  refine J.region ?_
  refine J.e (op_box (l := [.slice B n e]) rfl rfl rfl) rfl rfl rfl ?_
  intro g1 _
  change J _ _ _ [F, blk g1 [.slice B n e] 55] _
  refine J.y (op_assign rfl rfl) rfl rfl rfl ?_
  refine J.nil ?_
  refine J.then_n (J.k hK1 ?_)
  refine J.keepE [(1, _)] ⟨rfl, trivial⟩ ?_
  refine J.seq (fun K2 hK2 => ?_)
  refine J.region ?_
  refine J.y (op_makeFunc rfl rfl) rfl rfl rfl ?_
  refine J.y (op_assign rfl rfl) rfl rfl rfl ?_
  refine J.nil ?_
  refine J.then_n (J.k hK2 ?_)
  refine J.keepE [(2, _)] ⟨rfl, trivial⟩ ?_
  refine J.ret ?_
  exact J.done hw0 (fun _ _ h => h) (res1 rfl rfl) (retOk g1 rfl trivial [0, 1] rfl (by decide))

theorem backS_seq (Fr : Hp) (gB : Nat) (B : Option Addr) (W : List (List UInt8)) (e : Nat) (hn2 : W.length ≤ 1073741824) (ha : Cells Fr ⟨gB, 0, none⟩ [.slice B W.length e]) (hs : Sl Fr 1 B W.length e (strsV W)) :
    SeqCt Tryd.prog 156 [Ptr gB] Fr (fun i => [I ((W.length - 1 - i : Nat) : Int), Str (W.getD (W.length - 1 - i) [])]) W.length := by
  refine SeqCt.walk Tryd.func156 rfl Tryd.ntmps156 rfl (fun {X} M IY S l x0 w0 hw0 h0 hY => ?_)
  change J _ [(0, _), (1, _)] _ _ _
  refine J.seq (fun K1 hK1 => ?_)
  refine J.region ?_
  refine J.y (op_load (v := .slice B W.length e) rfl rfl Tryd.isAgg55 (m := Fr) (by simp) (ha)) rfl rfl rfl ?_
  refine J.y (op_len Tryd.underlying55 rfl rfl) rfl rfl rfl ?_
  refine J.y ((op_sub rfl rfl rfl (by omega)).as (v' := I ((W.length : Int) - 1 - ((0 : Nat) : Int))) (congrArg I (by omega))) rfl rfl rfl ?_
  refine J.y (op_assign rfl rfl) rfl rfl rfl ?_
  refine J.nil ?_
  refine J.then_n (J.k hK1 ?_)
  refine J.keepE [(0, _), (1, _), (3, _)] ⟨rfl, rfl, rfl, trivial⟩ ?_
  refine J.block ?_
  refine J.loop (X := Nat × X) (fun y => [(0, .func (.yield l) #[] #[]), (1, Ptr gB), (3, I ((W.length : Int) - 1 - (y.1 : Int)))]) (fun y => [Fr, M y.2]) (fun y => y.1 ≤ W.length ∧ IY y.1 y.2) (fun y => W.length - y.1) (0, x0) (⟨Nat.zero_le _, h0⟩) ⟨rfl, rfl, rfl, trivial⟩ (fun _ h => h) ?_
  rintro ⟨i, x⟩ ⟨hi, hI⟩ I0 hI0
  dsimp only at hi hI ⊢
  refine J.seq (fun K2 hK2 => ?_)
  refine J.seq (fun K3 hK3 => ?_)
  refine J.region ?_
  refine J.y (op_move rfl rfl) rfl rfl rfl ?_
  refine J.y (op_geq rfl rfl rfl) rfl rfl rfl ?_
  refine J.nil ?_
  refine J.then_n (J.k hK3 ?_)
  refine J.keepE [(0, _), (1, _), (3, _), (8, _)] ⟨rfl, rfl, rfl, rfl, trivial⟩ ?_
  refine J.ite rfl (fun h8 => ?_) (fun h8 => ?_)
  ·
    refine J.skip ?_
    refine J.then_n (J.k hK2 ?_)
    refine J.keepE [(0, _), (1, _), (3, _)] ⟨rfl, rfl, rfl, trivial⟩ ?_
    refine J.seq (fun K4 hK4 => ?_)
    refine J.block ?_
    refine J.seq (fun K5 hK5 => ?_)
    refine J.regionI ?_
    refine J.yI (op_move rfl rfl) rfl rfl rfl ?_
    refine J.yI ((op_move rfl rfl).as (v' := I ((W.length - 1 - i : Nat) : Int)) (congrArg I (by omega))) rfl rfl rfl ?_
    refine J.yI (op_load (v := .slice B W.length e) rfl rfl Tryd.isAgg55 (m := Fr) (by simp) (ha)) rfl rfl rfl ?_
    refine J.yI ((op_move rfl rfl).as (v' := I ((W.length - 1 - i : Nat) : Int)) (congrArg I (by omega))) rfl rfl rfl ?_
    refine J.yI (op_indexAddr (i := W.length - 1 - i) rfl rfl rfl Tryd.underlying55 Tryd.sizeOf9 hs (by first | omega | (simp only [List.length_append, List.length_cons, List.length_nil, List.length_take, List.length_drop] at *; omega))) rfl rfl rfl ?_
    refine J.yI (op_load rfl rfl Tryd.isAgg9 (m := Fr) (by simp) (hs.elem (strsV_get (getSome [] (by first | omega | (simp only [List.length_append, List.length_cons, List.length_nil, List.length_take, List.length_drop] at *; omega)))))) rfl rfl rfl ?_
    refine J.yieldI (ex := []) rfl rfl rfl rfl rfl rfl (hY i x (by omega) hI) ?_
    rintro x' b hb1 hb2
    cases b
    ·
      have hyb := hb2 rfl
      change J _ _ _ [Fr, M x'] _
      refine J.yI (op_not rfl rfl) rfl rfl rfl ?_
      refine J.nilI ?_
      refine J.then_n (J.k hK5 ?_)
      refine J.keepE [(0, _), (1, _), (3, _), (18, _)] ⟨rfl, rfl, rfl, rfl, trivial⟩ ?_
      refine J.condT rfl rfl ?_
      refine J.ret ?_
      refine J.blk_r ?_
      refine J.then_r ?_
      refine J.then_r ?_
      refine J.blk_r ?_
      exact J.done hw0 (fun _ _ h => h) (res0 rfl) (fun w hs => ⟨x', ⟨_, rfl⟩, .inr hyb, hs⟩)
    ·
      have hyb := hb1 rfl
      change J _ _ _ [Fr, M x'] _
      refine J.yI (op_not rfl rfl) rfl rfl rfl ?_
      refine J.nilI ?_
      refine J.then_n (J.k hK5 ?_)
      refine J.keepE [(0, _), (1, _), (3, _), (18, _)] ⟨rfl, rfl, rfl, rfl, trivial⟩ ?_
      refine J.condF rfl rfl ?_
      refine J.skip ?_
      refine J.blk_n ?_
      refine J.then_n (J.k hK4 ?_)
      refine J.keepE [(0, _), (1, _), (3, _)] ⟨rfl, rfl, rfl, trivial⟩ ?_
      refine J.region ?_
      refine J.y (op_move rfl rfl) rfl rfl rfl ?_
      refine J.y ((op_sub rfl rfl rfl (by omega)).as (v' := I ((W.length : Int) - 1 - ((i + 1 : Nat) : Int))) (congrArg I (by omega))) rfl rfl rfl ?_
      refine J.y (op_assign rfl rfl) rfl rfl rfl ?_
      refine J.nil ?_
      refine J.then_n ?_
      exact J.kk (i + 1, x') (fun y (hy : _ ∧ W.length - y.1 < W.length - i) => hI0 y hy.1 hy.2) ⟨⟨by dsimp only; omega, hyb⟩, by dsimp only; omega⟩ ⟨rfl, rfl, rfl, trivial⟩ (fun _ h => h)
  ·
    refine J.exit ?_
    refine J.then_x ?_
    refine J.then_x ?_
    refine J.blk_eq ?_
    exact J.fin hw0 (fun _ _ h => h) (res0 rfl) (fun w hs => ⟨x, ⟨_, rfl⟩, .inl (by rw [show W.length = i by omega]; exact hI), hs⟩)

theorem climb_ct (F : Hp) (hK : Cells F ⟨1, 0, none⟩ (Sha.K.map W32)) (A : Option Addr) (c : Nat) (bs : List (List UInt8)) (hs : Sl F 1 A bs.length c (strsV bs)) (th : Bool) (pk pv xx k : List UInt8) (d : Nat) (hle : d + bs.length ≤ 128) (hk16 : k.length = 16) (hsm : ∀ s ∈ bs, s.length ≤ 17) (hx : xx.length ≤ 17) :
    Ct Tryd.prog 72 [.agg #[.slice A bs.length c, .bool (th), Str (pk), Str (pv)], Str xx, Str k, I ((d : Nat) : Int)] [F] (fun _ : Unit => Str (clm k d bs xx bs.length)) (fun _ => True) (fun _ => [F]) := by
  refine Ct.walk Tryd.func72 rfl Tryd.ntmps72 rfl (fun w0 hw0 => ?_)
  change J _ [(0, _), (1, _), (2, _), (3, _)] _ _ _
  refine J.seq (fun K1 hK1 => ?_)
  refine J.region ?_
  refine J.e (op_box (l := [.slice A bs.length c, .bool (th), Str (pk), Str (pv)]) rfl rfl rfl) rfl rfl rfl ?_
  intro g4 _
  change J _ _ _ [F, blk g4 [.slice A bs.length c, .bool (th), Str (pk), Str (pv)] 57] _
  refine J.e (op_box (l := [Str (xx)]) rfl rfl rfl) rfl rfl rfl ?_
  intro g5 _
  change J _ _ _ [F, blk g4 [.slice A bs.length c, .bool (th), Str (pk), Str (pv)] 57, blk g5 [Str (xx)] 9] _
  refine J.e (op_box (l := [Str (k)]) rfl rfl rfl) rfl rfl rfl ?_
  intro g6 _
  change J _ _ _ [F, blk g4 [.slice A bs.length c, .bool (th), Str (pk), Str (pv)] 57, blk g5 [Str (xx)] 9, blk g6 [Str (k)] 9] _
  refine J.e (op_box (l := [I ((d : Nat) : Int)]) rfl rfl rfl) rfl rfl rfl ?_
  intro g7 _
  change J _ _ _ [F, blk g4 [.slice A bs.length c, .bool (th), Str (pk), Str (pv)] 57, blk g5 [Str (xx)] 9, blk g6 [Str (k)] 9, blk g7 [I ((d : Nat) : Int)] 3] _
  refine J.y (op_assign rfl rfl) rfl rfl rfl ?_
  refine J.nil ?_
  refine J.then_n (J.k hK1 ?_)
  refine J.keepE [(4, _), (5, _), (6, _), (7, _)] ⟨rfl, rfl, rfl, rfl, trivial⟩ ?_
  refine J.seq (fun K2 hK2 => ?_)
  refine J.seq (fun K3 hK3 => ?_)
  refine J.region ?_
  refine J.y (op_fieldAddr (j := 0) rfl rfl Tryd.underlying57 rfl Tryd.sizeOf55 rfl) rfl rfl rfl ?_
  refine J.y (op_loadB 1 (v := .slice A bs.length c) rfl rfl rfl Tryd.isAgg55 rfl) rfl rfl rfl ?_
  refine J.e (op_call rfl rfl ent115 (Ct.use (new := fun x : Nat => [blk x [.slice A bs.length c] 55]) (fun F' _ => backS_ct F' A bs.length c))) rfl rfl rfl ?_
  rintro gB _
  change J _ ((13, .func (.func 156) #[] #[Ptr gB]) :: _) _ [F, blk g4 [.slice A bs.length c, .bool (th), Str (pk), Str (pv)] 57, blk g5 [Str (xx)] 9, blk g6 [Str (k)] 9, blk g7 [I ((d : Nat) : Int)] 3, blk gB [.slice A bs.length c] 55] _
  refine J.nil ?_
  refine J.then_n (J.k hK3 ?_)
  refine J.keepE [(5, _), (6, _), (7, _), (13, _)] ⟨rfl, rfl, rfl, rfl, trivial⟩ ?_
  refine J.block ?_
  refine J.perm [2, 0, 1, 3, 4, 5] [blk g5 [Str (xx)] 9, F, blk g4 [.slice A bs.length c, .bool (th), Str (pk), Str (pv)] 57, blk g6 [Str (k)] 9, blk g7 [I ((d : Nat) : Int)] 3, blk gB [.slice A bs.length c] 55] rfl (by decide) ?_
  refine J.range (fun x : List UInt8 => [blk g5 [Str (x)] 9]) [F, blk g4 [.slice A bs.length c, .bool (th), Str (pk), Str (pv)] 57, blk g6 [Str (k)] 9, blk g7 [I ((d : Nat) : Int)] 3, blk gB [.slice A bs.length c] 55] (fun i x => x = clm k d bs xx i) (fun _ _ => False) xx rfl ent156 (fun Fr hF => backS_seq Fr gB A bs c (by omega) (Cells.blk0.mono (hF (blk gB [.slice A bs.length c] 55) (by simp))) (hs.mono (hF F (by simp)))) (fun _ _ => rfl) rfl (rfl) ?_ ?_ ?_
  ·
    intro i x l wa wb hi hI K4 Post4 hK4 hN4 hR4 hE4
    subst hI
    obtain ⟨y, hy⟩ : ∃ y, y = clm k d bs xx i := ⟨_, rfl⟩
    obtain ⟨s, hsd⟩ : ∃ s, s = bs.getD (bs.length - 1 - i) [] := ⟨_, rfl⟩
    have hyl : y.length ≤ 17 := by rw [hy]; exact clm_small hsm hx i
    have hsl : s.length ≤ 17 := by rw [hsd, List.getD_eq_getElem?_getD, List.getElem?_eq_getElem (show bs.length - 1 - i < bs.length by omega)]; exact hsm _ (List.getElem_mem _)
    rw [← hy, ← hsd]
    change J _ ((15, Str s) :: (14, I ((bs.length - 1 - i : Nat) : Int)) :: _) _ [blk g5 [Str (y)] 9, F, blk g4 [.slice A bs.length c, .bool (th), Str (pk), Str (pv)] 57, blk g6 [Str (k)] 9, blk g7 [I ((d : Nat) : Int)] 3, blk gB [.slice A bs.length c] 55] _
    refine J.seqR (fun K5 hK5 => ?_)
    refine J.regionR ?_
    refine J.y (op_assign rfl rfl) rfl rfl rfl ?_
    refine J.nilR ?_
    refine J.then_n (J.k hK5 ?_)
    refine J.keepE [(5, _), (6, _), (7, _), (9, _), (15, _)] ⟨rfl, rfl, rfl, rfl, rfl, trivial⟩ ?_
    refine J.regionR ?_
    refine J.y (op_assign rfl rfl) rfl rfl rfl ?_
    refine J.nilR ?_
    refine J.then_n (hK4 _ _ ?_)
    refine J.keepE [(5, _), (6, _), (7, _), (9, _), (10, _)] ⟨rfl, rfl, rfl, rfl, rfl, trivial⟩ ?_
    refine J.blockR ?_
    refine J.seqR (fun K6 hK6 => ?_)
    refine J.regionR ?_
    refine J.y (op_loadB 3 rfl rfl rfl Tryd.isAgg9 rfl) rfl rfl rfl ?_
    refine J.y (op_loadB 4 rfl rfl rfl Tryd.isAgg3 rfl) rfl rfl rfl ?_
    refine J.y (op_move rfl rfl) rfl rfl rfl ?_
    refine J.y ((op_add rfl rfl rfl (by omega)).as (v' := I ((d + (bs.length - 1 - i) : Nat) : Int)) (congrArg I (by omega))) rfl rfl rfl ?_
    refine J.e (op_call rfl rfl ent112 (Ct.use0 (fun F' hF => bit_ct F' k (by omega) (d + (bs.length - 1 - i)) (by omega)))) rfl rfl rfl ?_
    intro g20 _
    refine J.y (op_eql rfl rfl rfl) rfl rfl rfl ?_
    refine J.nilR ?_
    refine J.then_n (J.k hK6 ?_)
    refine J.keepE [(5, _), (10, _), (21, _)] ⟨rfl, rfl, rfl, trivial⟩ ?_
    refine J.iteR rfl (fun h21 => ?_) (fun h21 => ?_)
    ·
      refine J.regionR ?_
      refine J.y (op_loadB 0 rfl rfl rfl Tryd.isAgg9 rfl) rfl rfl rfl ?_
      refine J.y (op_move rfl rfl) rfl rfl rfl ?_
      refine J.e (op_call rfl rfl ent114 (Ct.use0 (fun F' hF => sjoin_ct F' (hK.mono (hF F (by simp))) y s (by omega) (by omega)))) rfl rfl rfl ?_
      intro g24 _
      refine J.s (op_storeAll (l := [Str (y)]) (i := 0) (vs := [Str (Sb.join y s)]) rfl rfl rfl rfl rfl Tryd.sizeOf9 rfl rfl) rfl rfl (fun _ _ => ?_)
      change J _ _ _ [blk g5 [Str (Sb.join y s)] 9, F, blk g4 [.slice A bs.length c, .bool (th), Str (pk), Str (pv)] 57, blk g6 [Str (k)] 9, blk g7 [I ((d : Nat) : Int)] 3, blk gB [.slice A bs.length c] 55] _
      refine J.nilR ?_
      refine J.blk_n ?_
      exact hN4 _ (Sb.join y s) (by rw [clm, up, if_pos (by omega), ← hy, ← hsd])
    ·
      refine J.regionR ?_
      refine J.y (op_move rfl rfl) rfl rfl rfl ?_
      refine J.y (op_loadB 0 rfl rfl rfl Tryd.isAgg9 rfl) rfl rfl rfl ?_
      refine J.e (op_call rfl rfl ent114 (Ct.use0 (fun F' hF => sjoin_ct F' (hK.mono (hF F (by simp))) s y (by omega) (by omega)))) rfl rfl rfl ?_
      intro g27 _
      refine J.s (op_storeAll (l := [Str (y)]) (i := 0) (vs := [Str (Sb.join s y)]) rfl rfl rfl rfl rfl Tryd.sizeOf9 rfl rfl) rfl rfl (fun _ _ => ?_)
      change J _ _ _ [blk g5 [Str (Sb.join s y)] 9, F, blk g4 [.slice A bs.length c, .bool (th), Str (pk), Str (pv)] 57, blk g6 [Str (k)] 9, blk g7 [I ((d : Nat) : Int)] 3, blk gB [.slice A bs.length c] 55] _
      refine J.nilR ?_
      refine J.blk_n ?_
      exact hN4 _ (Sb.join s y) (by rw [clm, up, if_neg (by omega), ← hy, ← hsd])
  ·
    intro w4 x hx4 hI
    subst hI
    change J _ _ _ [blk g5 [Str (clm k d bs xx bs.length)] 9, F, blk g4 [.slice A bs.length c, .bool (th), Str (pk), Str (pv)] 57, blk g6 [Str (k)] 9, blk g7 [I ((d : Nat) : Int)] 3, blk gB [.slice A bs.length c] 55] _
    refine J.blk_n ?_
    refine J.then_n (J.k hK2 ?_)
    refine J.keepE [(5, _)] ⟨rfl, trivial⟩ ?_
    refine J.seq (fun K7 hK7 => ?_)
    refine J.region ?_
    refine J.y (op_loadB 0 rfl rfl rfl Tryd.isAgg9 rfl) rfl rfl rfl ?_
    refine J.y (op_assign rfl rfl) rfl rfl rfl ?_
    refine J.nil ?_
    refine J.then_n (J.k hK7 ?_)
    refine J.keepE [(8, _)] ⟨rfl, trivial⟩ ?_
    refine J.ret ?_
    exact J.doneM hw0 hx4 (fun _ _ h => h) (res1 rfl rfl) (retOk () rfl trivial [1] rfl (by decide))
  ·
    intro w4 x c hx4 hS
    exact hS.elim

end Go.Proofs.YtnkfapecbmmpeaaDoor
