/- A part of the proof: contracts of functions of the program, each for every state of the heaps that it names. -/
import Derived.Test.YtpcffgkmpmcobaaDoorBnd1
set_option linter.unusedSimpArgs false
set_option linter.unusedVariables false
namespace Go.Proofs.YtpcffgkmpmcobaaDoor
open Go Go.Fw
set_option maxRecDepth 100000
set_option maxHeartbeats 1000000
theorem ent62 : Enters Tryd.prog 62 := Enters.of Tryd.func62 rfl (by kernel_rfl)
theorem ent64 : Enters Tryd.prog 64 := Enters.of Tryd.func64 rfl (by kernel_rfl)
theorem ent69 : Enters Tryd.prog 69 := Enters.of Tryd.func69 rfl (by kernel_rfl)

theorem sp15 : Sm.putP [] (keyB 160 1) [118] = [(keyB 160 1, [118])] := rfl
theorem sp15v : ofV (keyB 160 1) 3 = 5 := by decide
theorem sp15y : Sm.belowB (keyB 160 1) (kF 5 3) 3 = true := by decide
theorem sp15n : Sm.belowB (keyB 160 1) (kF 4 3) 3 = false := by decide
theorem sp15a : (nodesL [(keyB 160 1, [118])] 3).getD 5 [] = Sm.nd 128 [(keyB 160 1, [118])] := by
  rw [nodesK_get _ _ (by decide)]
  unfold Sm.ndB Sm.bel
  rw [List.filter_cons, if_pos sp15y, List.filter_nil, Sm.nd_one, Sm.nd_one]
theorem sp15b : (nodesL [(keyB 160 1, [118])] 3).getD 4 [] = [0] := by
  rw [nodesK_get _ _ (by decide)]
  unfold Sm.ndB Sm.bel
  rw [List.filter_cons, if_neg (by rw [sp15n]; decide), List.filter_nil, Sm.nd_nil]
theorem sp15l : (nodesL [(keyB 160 1, [118])] 3).length = 8 := nodesK_len _ _ _
theorem bandN_succ (k : List UInt8) (i : Nat) : bandN k (i + 1) = 2 * bandN k i + Sm.bit k i := by
  have hb := Sm.bit_le k i
  have e := Nat.two_pow_add_eq_or_of_lt (i := 1) (b := Sm.bit k i) (by omega) (bandN k i)
  rw [bandN, Nat.mul_comm, ← e]
theorem Pairs.klen16 {m : List Pr} {kv : List Sm.PR} (h : Pairs m kv) {j : Nat} (hj : j < m.length) : (m.getD j noPr).k.length = 16 := by
  rw [List.getD_eq_getElem?_getD, List.getElem?_eq_getElem hj]
  exact h.k16 (toP m[j]) (List.mem_map.2 ⟨_, List.getElem_mem hj, rfl⟩)

theorem speaks15_ct (F : Hp) (hK : Cells F ⟨4, 0, none⟩ (Sha.K.map W32)) : Ct Tryd.prog 59 [] [F] (fun _ : Unit => .bool true) (fun _ => True) (fun _ => [F]) := by
  refine Ct.walk Tryd.func59 rfl Tryd.ntmps59 rfl (fun w0 hw0 => ?_)
  change J _ [] _ _ _
  refine J.seq (fun K1 hK1 => ?_)
  refine J.region ?_
  refine J.y (op_assign rfl rfl) rfl rfl rfl ?_
  refine J.nil ?_
  refine J.then_n (J.k hK1 ?_)
  refine J.keepE [] trivial ?_
  refine J.seq (fun K2 hK2 => ?_)
  refine J.region ?_
  refine J.e (op_call rfl rfl ent60 (Ct.use (new := fun x : Nat × Hp => [x.2]) (fun F' hF => Ct.swap2 (tnew_ct F' )))) rfl rfl rfl ?_
  rintro ⟨g6, m6⟩ h6
  try dsimp only at h6
  change J _ ((6, Ptr g6) :: _) _ [F, m6] _
  refine J.y (op_assign rfl rfl) rfl rfl rfl ?_
  refine J.nil ?_
  refine J.then_n (J.k hK2 ?_)
  refine J.keepE [(1, _)] ⟨rfl, trivial⟩ ?_
  refine J.seq (fun K3 hK3 => ?_)
  refine J.region ?_
  refine J.y (op_move rfl rfl) rfl rfl rfl ?_
  refine J.e (op_call rfl rfl ent62 (Ct.use0 (fun F' hF => key15_ct F' 160 1))) rfl rfl rfl ?_
  intro g8 _
  refine J.e (op_call rfl rfl ent61 (Ct.use1 1 (m' := fun x : Hp => x) (new := fun _ => []) rfl (fun F' hF => tput_ct F' m6 g6 ([]) h6 (keyB 160 1) ([118]) (by first | omega | rfl | assumption)))) rfl rfl rfl ?_
  rintro m9 h9
  change J _ ((9, I ((0 : Nat) : Int)) :: _) _ [F, m9] _
  refine J.nil ?_
  refine J.then_n (J.k hK3 ?_)
  refine J.keepE [(1, _)] ⟨rfl, trivial⟩ ?_
  refine J.seq (fun K4 hK4 => ?_)
  rw [sp15] at h9
  have hfi := fine_one (keyB 160 1) [118] rfl (by decide)
  have hnl := sp15l
  refine J.region ?_
  refine J.y (op_move rfl rfl) rfl rfl rfl ?_
  refine J.e (op_call rfl rfl ent64 (Ct.use (new := fun x : Option Addr × Nat × Hp => [x.2.2]) (fun F' hF => bnodes_ct F' (hK.mono (hF F (by simp))) g6 ([(keyB 160 1, [118])]) (h9.at.mono (hF m9 (by simp))) (by assumption) 3 (by omega)))) rfl rfl rfl ?_
  rintro ⟨A12, c12, m12⟩ h12
  try dsimp only at h12
  change J _ ((12, .tuple #[.slice A12 (nodesL ([(keyB 160 1, [118])]) 3).length c12, I ((0 : Nat) : Int)]) :: _) _ [F, m9, m12] _
  refine J.y (op_move rfl rfl) rfl rfl rfl ?_
  refine J.y (op_extract (v := .slice A12 ((nodesL ([(keyB 160 1, [118])]) 3).length) c12) rfl rfl rfl) rfl rfl rfl ?_
  refine J.y (op_extract (v := I ((0 : Nat) : Int)) rfl rfl rfl) rfl rfl rfl ?_
  refine J.y (op_assign rfl rfl) rfl rfl rfl ?_
  refine J.y (op_assign rfl rfl) rfl rfl rfl ?_
  refine J.nil ?_
  refine J.then_n (J.k hK4 ?_)
  refine J.keepE [(1, _), (2, _), (3, _)] ⟨rfl, rfl, rfl, trivial⟩ ?_
  refine J.seq (fun K5 hK5 => ?_)
  refine J.region ?_
  refine J.e (op_call rfl rfl ent62 (Ct.use0 (fun F' hF => key15_ct F' 160 1))) rfl rfl rfl ?_
  intro g16 _
  refine J.e (op_call rfl rfl ent69 (Ct.use0 (fun F' hF => bof_ct F' (keyB 160 1) (by first | omega | exact hsm _ | exact Nat.le_of_ble_eq_true rfl) 3 (by omega)))) rfl rfl rfl ?_
  intro g17 _
  refine J.y (op_move rfl rfl) rfl rfl rfl ?_
  refine J.y (op_extract (v := I ((ofV (keyB 160 1) 3 : Nat) : Int)) rfl rfl rfl) rfl rfl rfl ?_
  refine J.y (op_extract (v := I ((ofE (keyB 160 1) : Nat) : Int)) rfl rfl rfl) rfl rfl rfl ?_
  refine J.y (op_assign rfl rfl) rfl rfl rfl ?_
  refine J.y (op_assign rfl rfl) rfl rfl rfl ?_
  refine J.nil ?_
  refine J.then_n (J.k hK5 ?_)
  refine J.keepE [(1, _), (2, _), (3, _), (4, _), (5, _)] ⟨rfl, rfl, rfl, rfl, rfl, trivial⟩ ?_
  refine J.seq (fun K6 hK6 => ?_)
  refine J.draw [F, m9, m12] [] (.y 0 (.y 1 (.y 2 (.y 3 (.y 4 (.y 5 (.y 6 (.y 7 (.y 8 (.y 9 (.y 10 (.y 11 (.y 12 (.y 13 (.y 14 (.y 15 (.y 16 (.y 17 (.y 18 (.y 19 (.e 20 (.y 21 (.y 22 (.y 23 (.y 24 (.y 25 (.y 26 (.y 27 (.y 28 (.y 29 .nil)))))))))))))))))))))))))))))) Tryd.wide (by decide +kernel) (by simp) ?_
  refine J.dy rfl (op_move rfl rfl) rfl rfl rfl rfl ?_
  refine J.dy rfl ((op_eql rfl rfl rfl).as (v' := .bool true) (congrArg Value.bool (decide_eq_true (by decide)))) rfl rfl rfl rfl ?_
  refine J.dy rfl (op_move rfl rfl) rfl rfl rfl rfl ?_
  refine J.dyg rfl (op_move rfl rfl) (Wan.is rfl rfl rfl rfl rfl) rfl rfl rfl ?_
  refine J.dyg rfl ((op_eql rfl rfl rfl).as (v' := .bool true) (congrArg Value.bool (decide_eq_true (rfl)))) (Wan.is rfl rfl rfl rfl rfl) rfl rfl rfl ?_
  refine J.dy rfl (op_pickT rfl rfl rfl) rfl rfl rfl rfl ?_
  refine J.dy rfl (op_move rfl rfl) rfl rfl rfl rfl ?_
  refine J.dyg rfl (op_move rfl rfl) (Wan.is rfl rfl rfl rfl rfl) rfl rfl rfl ?_
  refine J.dyg rfl ((op_eql rfl rfl rfl).as (v' := .bool true) (congrArg Value.bool (decide_eq_true (by rw [sp15v]; rfl)))) (Wan.is rfl rfl rfl rfl rfl) rfl rfl rfl ?_
  refine J.dy rfl (op_pickT rfl rfl rfl) rfl rfl rfl rfl ?_
  refine J.dy rfl (op_move rfl rfl) rfl rfl rfl rfl ?_
  refine J.dyg rfl (op_move rfl rfl) (Wan.is rfl rfl rfl rfl rfl) rfl rfl rfl ?_
  refine J.dyg rfl (op_len Tryd.underlying36 rfl rfl) (Wan.is rfl rfl rfl rfl rfl) rfl rfl rfl ?_
  refine J.dyg rfl ((op_eql rfl rfl rfl).as (v' := .bool true) (congrArg Value.bool (decide_eq_true (by rw [sp15l]; rfl)))) (Wan.is rfl rfl rfl rfl rfl) rfl rfl rfl ?_
  refine J.dy rfl (op_pickT rfl rfl rfl) rfl rfl rfl rfl ?_
  refine J.dy rfl (op_move rfl rfl) rfl rfl rfl rfl ?_
  refine J.dyg rfl (op_move rfl rfl) (Wan.is rfl rfl rfl rfl rfl) rfl rfl rfl ?_
  refine J.dyg rfl (op_indexAddr (i := 5) rfl rfl rfl Tryd.underlying36 Tryd.sizeOf9 h12.sl (by first | omega | (simp only [List.length_append, List.length_cons, List.length_nil, List.length_take, List.length_drop] at *; omega))) (Wan.is rfl rfl rfl rfl rfl) rfl rfl rfl ?_
  refine J.dyg rfl (op_load rfl rfl Tryd.isAgg9 (m := m12) (by simp) (h12.sl.elem (strsV_get (getSome [] (by first | omega | (simp only [List.length_append, List.length_cons, List.length_nil, List.length_take, List.length_drop] at *; omega)))))) (Wan.is rfl rfl rfl rfl rfl) rfl rfl rfl ?_
  refine J.dyg rfl (op_move rfl rfl) (Wan.is rfl rfl rfl rfl rfl) rfl rfl rfl ?_
  refine J.deg rfl (op_call rfl rfl ent48 (Ct.use0 (fun F' hF => troot_ct F' (hK.mono (hF F (by simp))) g6 ([(keyB 160 1, [118])]) (h9.at.mono (hF m9 (by simp))) (by assumption)))) (Wan.is rfl rfl rfl rfl rfl) rfl rfl (by simp) ?_
  intro g40 _
  refine J.dyg rfl ((op_seq rfl rfl rfl).as (v' := .bool true) (congrArg Value.bool (decide_eq_true (sp15a)))) (Wan.is rfl rfl rfl rfl rfl) rfl rfl rfl ?_
  refine J.dy rfl (op_pickT rfl rfl rfl) rfl rfl rfl rfl ?_
  refine J.dy rfl (op_move rfl rfl) rfl rfl rfl rfl ?_
  refine J.dyg rfl (op_move rfl rfl) (Wan.is rfl rfl rfl rfl rfl) rfl rfl rfl ?_
  refine J.dyg rfl (op_indexAddr (i := 4) rfl rfl rfl Tryd.underlying36 Tryd.sizeOf9 h12.sl (by first | omega | (simp only [List.length_append, List.length_cons, List.length_nil, List.length_take, List.length_drop] at *; omega))) (Wan.is rfl rfl rfl rfl rfl) rfl rfl rfl ?_
  refine J.dyg rfl (op_load rfl rfl Tryd.isAgg9 (m := m12) (by simp) (h12.sl.elem (strsV_get (getSome [] (by first | omega | (simp only [List.length_append, List.length_cons, List.length_nil, List.length_take, List.length_drop] at *; omega)))))) (Wan.is rfl rfl rfl rfl rfl) rfl rfl rfl ?_
  refine J.dyg rfl ((op_seq rfl rfl rfl).as (v' := .bool true) (congrArg Value.bool (decide_eq_true (sp15b)))) (Wan.is rfl rfl rfl rfl rfl) rfl rfl rfl ?_
  refine J.dy rfl (op_pickT rfl rfl rfl) rfl rfl rfl rfl ?_
  refine J.dy rfl (op_assign rfl rfl) rfl rfl rfl rfl ?_
  refine J.dnil ?_
  refine J.then_n (J.k hK6 ?_)
  refine J.keepE [(0, _)] ⟨rfl, trivial⟩ ?_
  refine J.ret ?_
  exact J.done hw0 (fun _ _ h => h) (res1 rfl rfl) (retOk () rfl trivial [0] rfl (by decide))

end Go.Proofs.YtpcffgkmpmcobaaDoor
