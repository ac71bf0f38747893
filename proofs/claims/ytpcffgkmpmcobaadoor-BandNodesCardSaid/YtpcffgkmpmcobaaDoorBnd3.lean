/- A part of the proof: contracts of functions of the program, each for every state of the heaps that it names. -/
import Derived.Test.YtpcffgkmpmcobaaDoorBnd2
import Derived.Test.YtpcffgkmpmcobaaDoorFwR
set_option linter.unusedSimpArgs false
set_option linter.unusedVariables false
namespace Go.Proofs.YtpcffgkmpmcobaaDoor
open Go Go.Fw
set_option maxRecDepth 100000
set_option maxHeartbeats 1000000
theorem ent59 : Enters Tryd.prog 59 := Enters.of Tryd.func59 rfl (by kernel_rfl)
theorem ent65 : Enters Tryd.prog 65 := Enters.of Tryd.func65 rfl (by kernel_rfl)
theorem ent67 : Enters Tryd.prog 67 := Enters.of Tryd.func67 rfl (by kernel_rfl)
theorem ent68 : Enters Tryd.prog 68 := Enters.of Tryd.func68 rfl (by kernel_rfl)

theorem bandNodes_no (F : Hp) (hK : Cells F ⟨4, 0, none⟩ (Sha.K.map W32)) (A0 : Option Addr) (n0 c0 : Nat) (l0 : List Tw) (sl0 : Sl F 2 A0 n0 c0 (twosV l0)) (z : Int) (hd : cnt z = 0) : Ct Tryd.prog 12 [.slice A0 n0 c0, I (z)] [F] (fun _ : Unit => .bool true) (fun _ => True) (fun _ => [F]) := by
  have hn0 : l0.length = n0 := by have := sl0.1; simpa [twosV] using this
  refine Ct.walk Tryd.func12 rfl Tryd.ntmps12 rfl (fun w0 hw0 => ?_)
  change J _ [(0, _), (1, _)] _ _ _
  refine J.seq (fun K1 hK1 => ?_)
  refine J.region ?_
  refine J.y (op_assign rfl rfl) rfl rfl rfl ?_
  refine J.nil ?_
  refine J.then_n (J.k hK1 ?_)
  refine J.keepE [(0, _), (1, _)] ⟨rfl, rfl, trivial⟩ ?_
  refine J.seq (fun K2 hK2 => ?_)
  refine J.seq (fun K3 hK3 => ?_)
  refine J.region ?_
  refine J.e (op_call rfl rfl ent59 (Ct.use0 (fun F' hF => speaks15_ct F' (hK.mono (hF F (by simp)))))) rfl rfl rfl ?_
  intro g32 _
  refine J.y (op_not rfl rfl) rfl rfl rfl ?_
  refine J.nil ?_
  refine J.then_n (J.k hK3 ?_)
  refine J.keepE [(0, _), (1, _), (33, _)] ⟨rfl, rfl, rfl, trivial⟩ ?_
  refine J.condF rfl rfl ?_
  refine J.skip ?_
  refine J.then_n (J.k hK2 ?_)
  refine J.keepE [(0, _), (1, _)] ⟨rfl, rfl, trivial⟩ ?_
  refine J.seq (fun K4 hK4 => ?_)
  refine J.region ?_
  refine J.y (op_assign rfl rfl) rfl rfl rfl ?_
  refine J.nil ?_
  refine J.then_n (J.k hK4 ?_)
  refine J.keepE [(0, _), (1, _), (5, _)] ⟨rfl, rfl, rfl, trivial⟩ ?_
  refine J.seq (fun K5 hK5 => ?_)
  refine J.region ?_
  refine J.e (op_call rfl rfl ent60 (Ct.use (new := fun x : Nat × Hp => [x.2]) (fun F' hF => Ct.swap2 (tnew_ct F' )))) rfl rfl rfl ?_
  rintro ⟨g34, m34⟩ h34
  try dsimp only at h34
  change J _ ((34, Ptr g34) :: _) _ [F, m34] _
  refine J.y (op_assign rfl rfl) rfl rfl rfl ?_
  refine J.nil ?_
  refine J.then_n (J.k hK5 ?_)
  refine J.keepE [(0, _), (1, _), (5, _), (6, _)] ⟨rfl, rfl, rfl, rfl, trivial⟩ ?_
  refine J.cut (X := List Pr × List Sm.PR × Option Addr × Nat × Hp × Hp) (fun ζ => [(1, I (z)), (5, .slice ζ.2.2.1 ζ.1.length ζ.2.2.2.1), (6, Ptr g34)]) (fun ζ => [F, ζ.2.2.2.2.1, ζ.2.2.2.2.2]) (fun ζ => Pairs ζ.1 ζ.2.1 ∧ ζ.1.length ≤ 14 ∧ Row ζ.2.2.2.2.1 84 2 ζ.2.2.1 ζ.1.length ζ.2.2.2.1 (prsV ζ.1) ∧ TreeS ζ.2.2.2.2.2 g34 ζ.2.1) (fun K6 hK6 => ?_) ?_
  ·
    refine J.seq (fun K7 hK7 => ?_)
    refine J.region ?_
    refine J.y (op_assign rfl rfl) rfl rfl rfl ?_
    refine J.nil ?_
    refine J.then_n (J.k hK7 ?_)
    refine J.keepE [(0, _), (1, _), (5, _), (6, _), (7, _)] ⟨rfl, rfl, rfl, rfl, rfl, trivial⟩ ?_
    refine J.block ?_
    refine J.loop (X := Nat × List Pr × List Sm.PR × Option Addr × Nat × Hp × Hp) (fun ζ => [(0, .slice A0 n0 c0), (1, I (z)), (5, .slice ζ.2.2.2.1 ζ.2.1.length ζ.2.2.2.2.1), (6, Ptr g34), (7, I ((ζ.1 : Nat) : Int))]) (fun ζ => [F, ζ.2.2.2.2.2.1, ζ.2.2.2.2.2.2]) (fun ζ => Pairs ζ.2.1 ζ.2.2.1 ∧ ζ.1 ≤ 14 ∧ ζ.2.1.length ≤ ζ.1 ∧ Row ζ.2.2.2.2.2.1 84 2 ζ.2.2.2.1 ζ.2.1.length ζ.2.2.2.2.1 (prsV ζ.2.1) ∧ TreeS ζ.2.2.2.2.2.2 g34 ζ.2.2.1) (fun ζ => 14 - ζ.1) (0, [], [], none, 0, (fun _ => none), m34) (⟨Pairs.nil, Nat.zero_le _, Nat.zero_le _, RowQ.nil, h34⟩) ⟨rfl, rfl, rfl, rfl, rfl, trivial⟩ (fun _ h => h.empty.pick [0, 2, 1] (by decide)) ?_
    rintro ⟨i, m, kv, A, c, mr, mo⟩ ⟨hp, hi, hm, hr, ht⟩ I0 hI0
    dsimp only at hp hi hm hr ht ⊢
    have hln := hp.len
    refine J.seq (fun K8 hK8 => ?_)
    refine J.seq (fun K9 hK9 => ?_)
    refine J.region ?_
    refine J.y (op_move rfl rfl) rfl rfl rfl ?_
    refine J.y (op_move rfl rfl) rfl rfl rfl ?_
    refine J.y (op_len Tryd.underlying93 rfl rfl) rfl rfl rfl ?_
    refine J.y (op_lss rfl rfl rfl) rfl rfl rfl ?_
    refine J.y (op_move rfl rfl) rfl rfl rfl ?_
    refine J.split (d := 39) rfl (fun h39 => ?_) (fun h39 => ?_)
    ·
      refine J.yg (Wan.is rfl rfl rfl rfl rfl) (op_move rfl rfl) rfl rfl ?_
      refine J.yg (Wan.is rfl rfl rfl rfl rfl) (op_lss rfl rfl rfl) rfl rfl ?_
      refine J.y (op_pickT rfl rfl rfl) rfl rfl rfl ?_
      refine J.nil ?_
      refine J.then_n (J.k hK9 ?_)
      refine J.keepE [(0, _), (1, _), (5, _), (6, _), (7, _), (42, _)] ⟨rfl, rfl, rfl, rfl, rfl, rfl, trivial⟩ ?_
      refine J.ite rfl (fun h42 => ?_) (fun h42 => ?_)
      ·
        refine J.skip ?_
        refine J.then_n (J.k hK8 ?_)
        refine J.keepE [(0, _), (1, _), (5, _), (6, _), (7, _)] ⟨rfl, rfl, rfl, rfl, rfl, trivial⟩ ?_
        refine J.seq (fun K10 hK10 => ?_)
        refine J.block ?_
        refine J.seq (fun K11 hK11 => ?_)
        refine J.draw [F] [] (.y 0 (.y 1 (.y 2 (.y 3 (.y 4 (.y 5 (.y 6 (.y 7 (.y 8 (.y 9 (.y 10 (.e 11 (.e 12 .nil))))))))))))) Tryd.wide (by decide +kernel) (by simp) ?_
        refine J.dy rfl (op_move rfl rfl) rfl rfl rfl rfl ?_
        refine J.dy rfl (op_move rfl rfl) rfl rfl rfl rfl ?_
        refine J.dy rfl (op_move rfl rfl) rfl rfl rfl rfl ?_
        refine J.dy rfl (op_indexAddr (i := i) rfl rfl rfl Tryd.underlying93 Tryd.sizeOf96 sl0 (by first | omega | (simp only [List.length_append, List.length_cons, List.length_nil, List.length_take, List.length_drop] at *; omega))) rfl rfl rfl rfl ?_
        refine J.dy rfl (op_indexAddrAE (i := 0) rfl rfl rfl Tryd.underlying96 Tryd.sizeOf5 (by omega) sl0 (by first | omega | (simp only [List.length_append, List.length_cons, List.length_nil, List.length_take, List.length_drop] at *; omega))) rfl rfl rfl rfl ?_
        refine J.dy rfl (op_load (v := B8 ((l0.getD i noTw).a)) rfl rfl Tryd.isAgg5 (m := F) (by simp) (sl0.part (twosV_get (by first | omega | (simp only [List.length_append, List.length_cons, List.length_nil, List.length_take, List.length_drop] at *; omega))) 0 1)) rfl rfl rfl rfl ?_
        refine J.dy rfl (op_move rfl rfl) rfl rfl rfl rfl ?_
        refine J.dy rfl (op_move rfl rfl) rfl rfl rfl rfl ?_
        refine J.dy rfl (op_indexAddr (i := i) rfl rfl rfl Tryd.underlying93 Tryd.sizeOf96 sl0 (by first | omega | (simp only [List.length_append, List.length_cons, List.length_nil, List.length_take, List.length_drop] at *; omega))) rfl rfl rfl rfl ?_
        refine J.dy rfl (op_indexAddrAE (i := 1) rfl rfl rfl Tryd.underlying96 Tryd.sizeOf5 (by omega) sl0 (by first | omega | (simp only [List.length_append, List.length_cons, List.length_nil, List.length_take, List.length_drop] at *; omega))) rfl rfl rfl rfl ?_
        refine J.dy rfl (op_load (v := B8 ((l0.getD i noTw).b)) rfl rfl Tryd.isAgg5 (m := F) (by simp) (sl0.part (twosV_get (by first | omega | (simp only [List.length_append, List.length_cons, List.length_nil, List.length_take, List.length_drop] at *; omega))) 1 1)) rfl rfl rfl rfl ?_
        refine J.de rfl (op_call rfl rfl ent62 (Ct.use0 (fun F' hF => key15_ct F' ((l0.getD i noTw).a) ((l0.getD i noTw).b)))) rfl rfl rfl (by simp) ?_
        intro g56 _
        refine J.de rfl (op_call rfl rfl ent61 (Ct.use1 2 (m' := fun x : Hp => x) (new := fun _ => []) rfl (fun F' hF => tput_ct F' mo g34 kv ht (keyB ((l0.getD i noTw).a) ((l0.getD i noTw).b)) ([118]) (by first | omega | rfl | assumption)))) rfl rfl rfl (by simp) ?_
        rintro m57 h57
        change J _ ((57, I ((0 : Nat) : Int)) :: _) _ [F, mr, m57] _
        refine J.dnil ?_
        refine J.then_n (J.k hK11 ?_)
        refine J.keepE [(0, _), (1, _), (5, _), (6, _), (7, _)] ⟨rfl, rfl, rfl, rfl, rfl, trivial⟩ ?_
        refine J.draw [F] [] (.y 0 (.y 1 (.y 2 (.y 3 (.y 4 (.y 5 (.y 6 (.y 7 (.y 8 (.y 9 (.y 10 (.e 11 (.y 12 (.e 13 (.y 14 .nil))))))))))))))) Tryd.wide (by decide +kernel) (by simp) ?_
        refine J.dy rfl (op_move rfl rfl) rfl rfl rfl rfl ?_
        refine J.dy rfl (op_move rfl rfl) rfl rfl rfl rfl ?_
        refine J.dy rfl (op_move rfl rfl) rfl rfl rfl rfl ?_
        refine J.dy rfl (op_indexAddr (i := i) rfl rfl rfl Tryd.underlying93 Tryd.sizeOf96 sl0 (by first | omega | (simp only [List.length_append, List.length_cons, List.length_nil, List.length_take, List.length_drop] at *; omega))) rfl rfl rfl rfl ?_
        refine J.dy rfl (op_indexAddrAE (i := 0) rfl rfl rfl Tryd.underlying96 Tryd.sizeOf5 (by omega) sl0 (by first | omega | (simp only [List.length_append, List.length_cons, List.length_nil, List.length_take, List.length_drop] at *; omega))) rfl rfl rfl rfl ?_
        refine J.dy rfl (op_load (v := B8 ((l0.getD i noTw).a)) rfl rfl Tryd.isAgg5 (m := F) (by simp) (sl0.part (twosV_get (by first | omega | (simp only [List.length_append, List.length_cons, List.length_nil, List.length_take, List.length_drop] at *; omega))) 0 1)) rfl rfl rfl rfl ?_
        refine J.dy rfl (op_move rfl rfl) rfl rfl rfl rfl ?_
        refine J.dy rfl (op_move rfl rfl) rfl rfl rfl rfl ?_
        refine J.dy rfl (op_indexAddr (i := i) rfl rfl rfl Tryd.underlying93 Tryd.sizeOf96 sl0 (by first | omega | (simp only [List.length_append, List.length_cons, List.length_nil, List.length_take, List.length_drop] at *; omega))) rfl rfl rfl rfl ?_
        refine J.dy rfl (op_indexAddrAE (i := 1) rfl rfl rfl Tryd.underlying96 Tryd.sizeOf5 (by omega) sl0 (by first | omega | (simp only [List.length_append, List.length_cons, List.length_nil, List.length_take, List.length_drop] at *; omega))) rfl rfl rfl rfl ?_
        refine J.dy rfl (op_load (v := B8 ((l0.getD i noTw).b)) rfl rfl Tryd.isAgg5 (m := F) (by simp) (sl0.part (twosV_get (by first | omega | (simp only [List.length_append, List.length_cons, List.length_nil, List.length_take, List.length_drop] at *; omega))) 1 1)) rfl rfl rfl rfl ?_
        refine J.de rfl (op_call rfl rfl ent62 (Ct.use0 (fun F' hF => key15_ct F' ((l0.getD i noTw).a) ((l0.getD i noTw).b)))) rfl rfl rfl (by simp) ?_
        intro g69 _
        refine J.dy rfl (op_buildStruct (l := [(0, .tmp 69), (1, .const ((Value.string (ByteArray.mk #[118]))))]) (vs := [Str (keyB ((l0.getD i noTw).a) ((l0.getD i noTw).b)), Str ([118])]) (places := [(0, 1), (1, 1)]) (r := [Str (keyB ((l0.getD i noTw).a) ((l0.getD i noTw).b)), Str ([118])]) rfl rfl rfl Tryd.underlying84 Tryd.zeroValue84 (fun _ => by kernel_rfl) rfl) rfl rfl rfl rfl ?_
        refine J.de rfl (op_call rfl rfl ent63 (Ct.use (new := fun x : Option Addr × Nat × Hp => [x.2.2]) (fun F' hF => rset_ct F' A m.length c m (hr.sl.mono (hF mr (by simp))) (by omega) (keyB ((l0.getD i noTw).a) ((l0.getD i noTw).b)) ([118])))) rfl rfl rfl (by simp) ?_
        rintro ⟨A71, c71, m71⟩ h71
        try dsimp only at h71
        change J _ ((71, .slice A71 (setR m ⟨(keyB ((l0.getD i noTw).a) ((l0.getD i noTw).b)), ([118])⟩).length c71) :: _) _ [F, mr, m57, m71] _
        refine J.dy rfl (op_assign rfl rfl) rfl rfl rfl rfl ?_
        refine J.dnil ?_
        refine J.blk_n ?_
        refine J.then_n (J.k hK10 ?_)
        refine J.keepE [(0, _), (1, _), (5, _), (6, _), (7, _)] ⟨rfl, rfl, rfl, rfl, rfl, trivial⟩ ?_
        refine J.region ?_
        refine J.y (op_move rfl rfl) rfl rfl rfl ?_
        refine J.y ((op_add rfl rfl rfl (by first | omega | (simp only [List.length_append, List.length_cons, List.length_nil, List.length_take, List.length_drop] at *; omega))).as (v' := I ((i + 1 : Nat) : Int)) (congrArg I (by omega))) rfl rfl rfl ?_
        refine J.y (op_assign rfl rfl) rfl rfl rfl ?_
        refine J.nil ?_
        refine J.then_n ?_
        exact J.kk (i + 1, setR m ⟨(keyB ((l0.getD i noTw).a) ((l0.getD i noTw).b)), ([118])⟩, Sm.putP kv (keyB (l0.getD i noTw).a (l0.getD i noTw).b) [118], A71, c71, m71, m57) (fun η (hη : _ ∧ 14 - η.1 < 14 - i) => hI0 η hη.1 hη.2) ⟨⟨hp.set (keyB_len _ _) (by decide) (by omega), by dsimp only; omega, by have h1 := setR_len m ⟨(keyB (l0.getD i noTw).a (l0.getD i noTw).b), [118]⟩; have h2 := filtR_len (keyB (l0.getD i noTw).a (l0.getD i noTw).b) m; dsimp only at h1 ⊢; omega, h71, h57⟩, by first | omega | (dsimp only; omega)⟩ ⟨rfl, rfl, rfl, rfl, rfl, trivial⟩ (fun _ h => h.pick [0, 3, 2] (by decide))
      ·
        refine J.exit ?_
        refine J.then_x ?_
        refine J.then_x ?_
        refine J.blk_eq ?_
        refine J.then_n ?_
        exact J.kk (m, kv, A, c, mr, mo) hK6 (⟨hp, by dsimp only; omega, hr, ht⟩) ⟨rfl, rfl, rfl, trivial⟩ (fun _ h => h)
    ·
      refine J.no (Wan.is rfl rfl rfl rfl rfl) rfl rfl ?_
      refine J.no (Wan.is rfl rfl rfl rfl rfl) rfl rfl ?_
      refine J.y (op_pickF rfl rfl rfl) rfl rfl rfl ?_
      refine J.nil ?_
      refine J.then_n (J.k hK9 ?_)
      refine J.keepE [(0, _), (1, _), (5, _), (6, _), (7, _), (42, _)] ⟨rfl, rfl, rfl, rfl, rfl, rfl, trivial⟩ ?_
      refine J.condF rfl rfl ?_
      refine J.exit ?_
      refine J.then_x ?_
      refine J.then_x ?_
      refine J.blk_eq ?_
      refine J.then_n ?_
      exact J.kk (m, kv, A, c, mr, mo) hK6 (⟨hp, by dsimp only; omega, hr, ht⟩) ⟨rfl, rfl, rfl, trivial⟩ (fun _ h => h)
  rintro ⟨m, kv, A, c, mr, mo⟩ ⟨hp, hm, hr, ht⟩
  dsimp only at hp hm hr ht ⊢
  have hfi := hp.fine
  have hln := hp.len
  have hkl := Sm.keysS_len kv
  refine J.seq (fun K12 hK12 => ?_)
  refine J.region ?_
  refine J.y (op_move rfl rfl) rfl rfl rfl ?_
  refine J.y (op_move rfl rfl) rfl rfl rfl ?_
  refine J.e (op_call rfl rfl ent64 (Ct.use0 (fun F' hF => bnodesB_ct F' g34 z (by assumption)))) rfl rfl rfl ?_
  intro g75 _
  refine J.y (op_move rfl rfl) rfl rfl rfl ?_
  refine J.y (op_extract (v := .slice none 0 0) rfl rfl rfl) rfl rfl rfl ?_
  refine J.y (op_extract (v := I ((1 : Nat) : Int)) rfl rfl rfl) rfl rfl rfl ?_
  refine J.y (op_assign rfl rfl) rfl rfl rfl ?_
  refine J.y (op_assign rfl rfl) rfl rfl rfl ?_
  refine J.nil ?_
  refine J.then_n (J.k hK12 ?_)
  refine J.keepE [(1, _), (5, _), (6, _), (8, _), (9, _)] ⟨rfl, rfl, rfl, rfl, rfl, trivial⟩ ?_
  refine J.seq (fun K13 hK13 => ?_)
  refine J.region ?_
  refine J.y (op_move rfl rfl) rfl rfl rfl ?_
  refine J.e (op_call rfl rfl ent65 (Ct.use0 (fun F' hF => c15_ct F' z))) rfl rfl rfl ?_
  intro g79 _
  refine J.y (op_assign rfl rfl) rfl rfl rfl ?_
  refine J.nil ?_
  refine J.then_n (J.k hK13 ?_)
  refine J.keepE [(1, _), (5, _), (6, _), (8, _), (9, _), (10, _)] ⟨rfl, rfl, rfl, rfl, rfl, rfl, trivial⟩ ?_
  refine J.seq (fun K14 hK14 => ?_)
  refine J.seq (fun K15 hK15 => ?_)
  refine J.region ?_
  refine J.y (op_move rfl rfl) rfl rfl rfl ?_
  refine J.e (op_call rfl rfl ent66 (Ct.use0 (fun F' hF => bcount_ct F' z))) rfl rfl rfl ?_
  intro g81 _
  refine J.y (op_move rfl rfl) rfl rfl rfl ?_
  refine J.y ((op_neq rfl rfl rfl).as (v' := .bool false) (congrArg Value.bool (decide_eq_false (fun h => h rfl)))) rfl rfl rfl ?_
  refine J.nil ?_
  refine J.then_n (J.k hK15 ?_)
  refine J.keepE [(1, _), (5, _), (6, _), (8, _), (9, _), (10, _), (83, _)] ⟨rfl, rfl, rfl, rfl, rfl, rfl, rfl, trivial⟩ ?_
  refine J.condF rfl rfl ?_
  refine J.skip ?_
  refine J.then_n (J.k hK14 ?_)
  refine J.keepE [(1, _), (5, _), (6, _), (8, _), (9, _), (10, _)] ⟨rfl, rfl, rfl, rfl, rfl, rfl, trivial⟩ ?_
  refine J.seq (fun K16 hK16 => ?_)
  refine J.seq (fun K17 hK17 => ?_)
  refine J.region ?_
  refine J.y (op_move rfl rfl) rfl rfl rfl ?_
  refine J.y ((op_eql rfl rfl rfl).as (v' := .bool true) (congrArg Value.bool (decide_eq_true (by omega)))) rfl rfl rfl ?_
  refine J.nil ?_
  refine J.then_n (J.k hK17 ?_)
  refine J.keepE [(1, _), (5, _), (6, _), (8, _), (9, _), (10, _), (85, _)] ⟨rfl, rfl, rfl, rfl, rfl, rfl, rfl, trivial⟩ ?_
  refine J.condT rfl rfl ?_
  refine J.seq (fun K18 hK18 => ?_)
  refine J.region ?_
  refine J.y (op_move rfl rfl) rfl rfl rfl ?_
  refine J.e (op_call rfl rfl ent67 (Ct.use0 (fun F' hF => broot_ct F' (hK.mono (hF F (by simp))) z ([]) none 0 Sl.nil (by first | assumption | simp)))) rfl rfl rfl ?_
  intro g88 _
  refine J.y (op_move rfl rfl) rfl rfl rfl ?_
  refine J.y (op_extract (v := Str (brVal ([]) z)) rfl rfl rfl) rfl rfl rfl ?_
  refine J.y (op_extract (v := I (brErr ([]) z)) rfl rfl rfl) rfl rfl rfl ?_
  refine J.y (op_assign rfl rfl) rfl rfl rfl ?_
  refine J.y (op_assign rfl rfl) rfl rfl rfl ?_
  refine J.nil ?_
  refine J.then_n (J.k hK18 ?_)
  refine J.keepE [(1, _), (6, _), (8, _), (9, _), (12, _)] ⟨rfl, rfl, rfl, rfl, rfl, trivial⟩ ?_
  refine J.seq (fun K19 hK19 => ?_)
  refine J.region ?_
  refine J.y (op_move rfl rfl) rfl rfl rfl ?_
  refine J.y (op_move rfl rfl) rfl rfl rfl ?_
  refine J.e (op_call rfl rfl ent68 (Ct.use0 (fun F' hF => bkeysB_ct F' g34 ((0 : Nat) : Int) z (by assumption)))) rfl rfl rfl ?_
  intro g94 _
  refine J.y (op_move rfl rfl) rfl rfl rfl ?_
  refine J.y (op_extract (v := .slice none 0 0) rfl rfl rfl) rfl rfl rfl ?_
  refine J.y (op_extract (v := I ((1 : Nat) : Int)) rfl rfl rfl) rfl rfl rfl ?_
  refine J.y (op_assign rfl rfl) rfl rfl rfl ?_
  refine J.y (op_assign rfl rfl) rfl rfl rfl ?_
  refine J.nil ?_
  refine J.then_n (J.k hK19 ?_)
  refine J.keepE [(1, _), (8, _), (9, _), (12, _), (14, _)] ⟨rfl, rfl, rfl, rfl, rfl, trivial⟩ ?_
  refine J.seq (fun K20 hK20 => ?_)
  refine J.region ?_
  refine J.e (op_call rfl rfl ent62 (Ct.use0 (fun F' hF => key15_ct F' 1 1))) rfl rfl rfl ?_
  intro g98 _
  refine J.y (op_move rfl rfl) rfl rfl rfl ?_
  refine J.e (op_call rfl rfl ent69 (Ct.use0 (fun F' hF => bofB_ct F' (keyB 1 1) z (by assumption)))) rfl rfl rfl ?_
  intro g100 _
  refine J.y (op_move rfl rfl) rfl rfl rfl ?_
  refine J.y (op_extract (v := I ((0 : Nat) : Int)) rfl rfl rfl) rfl rfl rfl ?_
  refine J.y (op_extract (v := I ((1 : Nat) : Int)) rfl rfl rfl) rfl rfl rfl ?_
  refine J.y (op_assign rfl rfl) rfl rfl rfl ?_
  refine J.y (op_assign rfl rfl) rfl rfl rfl ?_
  refine J.nil ?_
  refine J.then_n (J.k hK20 ?_)
  refine J.keepE [(8, _), (9, _), (12, _), (14, _), (16, _)] ⟨rfl, rfl, rfl, rfl, rfl, trivial⟩ ?_
  refine J.seq (fun K21 hK21 => ?_)
  refine J.region ?_
  refine J.y (op_move rfl rfl) rfl rfl rfl ?_
  refine J.y ((op_eql rfl rfl rfl).as (v' := .bool true) (congrArg Value.bool (decide_eq_true (by decide)))) rfl rfl rfl ?_
  refine J.y (op_move rfl rfl) rfl rfl rfl ?_
  refine J.yg (Wan.is rfl rfl rfl rfl rfl) (op_move rfl rfl) rfl rfl ?_
  refine J.yg (Wan.is rfl rfl rfl rfl rfl) ((op_eql rfl rfl rfl).as (v' := .bool true) (congrArg Value.bool (decide_eq_true (by unfold brErr; rw [if_pos hd])))) rfl rfl ?_
  refine J.y (op_pickT rfl rfl rfl) rfl rfl rfl ?_
  refine J.y (op_move rfl rfl) rfl rfl rfl ?_
  refine J.yg (Wan.is rfl rfl rfl rfl rfl) (op_move rfl rfl) rfl rfl ?_
  refine J.yg (Wan.is rfl rfl rfl rfl rfl) ((op_eql rfl rfl rfl).as (v' := .bool true) (congrArg Value.bool (decide_eq_true (by decide)))) rfl rfl ?_
  refine J.y (op_pickT rfl rfl rfl) rfl rfl rfl ?_
  refine J.y (op_move rfl rfl) rfl rfl rfl ?_
  refine J.yg (Wan.is rfl rfl rfl rfl rfl) (op_move rfl rfl) rfl rfl ?_
  refine J.yg (Wan.is rfl rfl rfl rfl rfl) ((op_eql rfl rfl rfl).as (v' := .bool true) (congrArg Value.bool (decide_eq_true (by decide)))) rfl rfl ?_
  refine J.y (op_pickT rfl rfl rfl) rfl rfl rfl ?_
  refine J.y (op_move rfl rfl) rfl rfl rfl ?_
  refine J.yg (Wan.is rfl rfl rfl rfl rfl) (op_move rfl rfl) rfl rfl ?_
  refine J.yg (Wan.is rfl rfl rfl rfl rfl) (op_len Tryd.underlying36 rfl rfl) rfl rfl ?_
  refine J.yg (Wan.is rfl rfl rfl rfl rfl) ((op_eql rfl rfl rfl).as (v' := .bool true) (congrArg Value.bool (decide_eq_true (by decide)))) rfl rfl ?_
  refine J.y (op_pickT rfl rfl rfl) rfl rfl rfl ?_
  refine J.y (op_assign rfl rfl) rfl rfl rfl ?_
  refine J.nil ?_
  refine J.then_n (J.k hK21 ?_)
  refine J.keepE [(4, _)] ⟨rfl, trivial⟩ ?_
  refine J.ret ?_
  refine J.then_r ?_
  exact J.done hw0 (fun _ _ h => h) (res1 rfl rfl) (retOk () rfl trivial [0] rfl (by decide))

theorem bandNodes_ok (F : Hp) (hK : Cells F ⟨4, 0, none⟩ (Sha.K.map W32)) (A0 : Option Addr) (n0 c0 : Nat) (l0 : List Tw) (sl0 : Sl F 2 A0 n0 c0 (twosV l0)) (d : Nat) (hd : d ≤ 4) : Ct Tryd.prog 12 [.slice A0 n0 c0, I ((d : Nat) : Int)] [F] (fun _ : Unit => .bool true) (fun _ => True) (fun _ => [F]) := by
  have hn0 : l0.length = n0 := by have := sl0.1; simpa [twosV] using this
  have hpw := pow4 hd
  have hcn := cnt_nat hd
  refine Ct.walk Tryd.func12 rfl Tryd.ntmps12 rfl (fun w0 hw0 => ?_)
  change J _ [(0, _), (1, _)] _ _ _
  refine J.seq (fun K1 hK1 => ?_)
  refine J.region ?_
  refine J.y (op_assign rfl rfl) rfl rfl rfl ?_
  refine J.nil ?_
  refine J.then_n (J.k hK1 ?_)
  refine J.keepE [(0, _), (1, _)] ⟨rfl, rfl, trivial⟩ ?_
  refine J.seq (fun K2 hK2 => ?_)
  refine J.seq (fun K3 hK3 => ?_)
  refine J.region ?_
  refine J.e (op_call rfl rfl ent59 (Ct.use0 (fun F' hF => speaks15_ct F' (hK.mono (hF F (by simp)))))) rfl rfl rfl ?_
  intro g32 _
  refine J.y (op_not rfl rfl) rfl rfl rfl ?_
  refine J.nil ?_
  refine J.then_n (J.k hK3 ?_)
  refine J.keepE [(0, _), (1, _), (33, _)] ⟨rfl, rfl, rfl, trivial⟩ ?_
  refine J.condF rfl rfl ?_
  refine J.skip ?_
  refine J.then_n (J.k hK2 ?_)
  refine J.keepE [(0, _), (1, _)] ⟨rfl, rfl, trivial⟩ ?_
  refine J.seq (fun K4 hK4 => ?_)
  refine J.region ?_
  refine J.y (op_assign rfl rfl) rfl rfl rfl ?_
  refine J.nil ?_
  refine J.then_n (J.k hK4 ?_)
  refine J.keepE [(0, _), (1, _), (5, _)] ⟨rfl, rfl, rfl, trivial⟩ ?_
  refine J.seq (fun K5 hK5 => ?_)
  refine J.region ?_
  refine J.e (op_call rfl rfl ent60 (Ct.use (new := fun x : Nat × Hp => [x.2]) (fun F' hF => Ct.swap2 (tnew_ct F' )))) rfl rfl rfl ?_
  rintro ⟨g34, m34⟩ h34
  try dsimp only at h34
  change J _ ((34, Ptr g34) :: _) _ [F, m34] _
  refine J.y (op_assign rfl rfl) rfl rfl rfl ?_
  refine J.nil ?_
  refine J.then_n (J.k hK5 ?_)
  refine J.keepE [(0, _), (1, _), (5, _), (6, _)] ⟨rfl, rfl, rfl, rfl, trivial⟩ ?_
  refine J.cut (X := List Pr × List Sm.PR × Option Addr × Nat × Hp × Hp) (fun ζ => [(1, I ((d : Nat) : Int)), (5, .slice ζ.2.2.1 ζ.1.length ζ.2.2.2.1), (6, Ptr g34)]) (fun ζ => [F, ζ.2.2.2.2.1, ζ.2.2.2.2.2]) (fun ζ => Pairs ζ.1 ζ.2.1 ∧ ζ.1.length ≤ 14 ∧ Row ζ.2.2.2.2.1 84 2 ζ.2.2.1 ζ.1.length ζ.2.2.2.1 (prsV ζ.1) ∧ TreeS ζ.2.2.2.2.2 g34 ζ.2.1) (fun K6 hK6 => ?_) ?_
  ·
    refine J.seq (fun K7 hK7 => ?_)
    refine J.region ?_
    refine J.y (op_assign rfl rfl) rfl rfl rfl ?_
    refine J.nil ?_
    refine J.then_n (J.k hK7 ?_)
    refine J.keepE [(0, _), (1, _), (5, _), (6, _), (7, _)] ⟨rfl, rfl, rfl, rfl, rfl, trivial⟩ ?_
    refine J.block ?_
    refine J.loop (X := Nat × List Pr × List Sm.PR × Option Addr × Nat × Hp × Hp) (fun ζ => [(0, .slice A0 n0 c0), (1, I ((d : Nat) : Int)), (5, .slice ζ.2.2.2.1 ζ.2.1.length ζ.2.2.2.2.1), (6, Ptr g34), (7, I ((ζ.1 : Nat) : Int))]) (fun ζ => [F, ζ.2.2.2.2.2.1, ζ.2.2.2.2.2.2]) (fun ζ => Pairs ζ.2.1 ζ.2.2.1 ∧ ζ.1 ≤ 14 ∧ ζ.2.1.length ≤ ζ.1 ∧ Row ζ.2.2.2.2.2.1 84 2 ζ.2.2.2.1 ζ.2.1.length ζ.2.2.2.2.1 (prsV ζ.2.1) ∧ TreeS ζ.2.2.2.2.2.2 g34 ζ.2.2.1) (fun ζ => 14 - ζ.1) (0, [], [], none, 0, (fun _ => none), m34) (⟨Pairs.nil, Nat.zero_le _, Nat.zero_le _, RowQ.nil, h34⟩) ⟨rfl, rfl, rfl, rfl, rfl, trivial⟩ (fun _ h => h.empty.pick [0, 2, 1] (by decide)) ?_
    rintro ⟨i, m, kv, A, c, mr, mo⟩ ⟨hp, hi, hm, hr, ht⟩ I0 hI0
    dsimp only at hp hi hm hr ht ⊢
    have hln := hp.len
    refine J.seq (fun K8 hK8 => ?_)
    refine J.seq (fun K9 hK9 => ?_)
    refine J.region ?_
    refine J.y (op_move rfl rfl) rfl rfl rfl ?_
    refine J.y (op_move rfl rfl) rfl rfl rfl ?_
    refine J.y (op_len Tryd.underlying93 rfl rfl) rfl rfl rfl ?_
    refine J.y (op_lss rfl rfl rfl) rfl rfl rfl ?_
    refine J.y (op_move rfl rfl) rfl rfl rfl ?_
    refine J.split (d := 39) rfl (fun h39 => ?_) (fun h39 => ?_)
    ·
      refine J.yg (Wan.is rfl rfl rfl rfl rfl) (op_move rfl rfl) rfl rfl ?_
      refine J.yg (Wan.is rfl rfl rfl rfl rfl) (op_lss rfl rfl rfl) rfl rfl ?_
      refine J.y (op_pickT rfl rfl rfl) rfl rfl rfl ?_
      refine J.nil ?_
      refine J.then_n (J.k hK9 ?_)
      refine J.keepE [(0, _), (1, _), (5, _), (6, _), (7, _), (42, _)] ⟨rfl, rfl, rfl, rfl, rfl, rfl, trivial⟩ ?_
      refine J.ite rfl (fun h42 => ?_) (fun h42 => ?_)
      ·
        refine J.skip ?_
        refine J.then_n (J.k hK8 ?_)
        refine J.keepE [(0, _), (1, _), (5, _), (6, _), (7, _)] ⟨rfl, rfl, rfl, rfl, rfl, trivial⟩ ?_
        refine J.seq (fun K10 hK10 => ?_)
        refine J.block ?_
        refine J.seq (fun K11 hK11 => ?_)
        refine J.draw [F] [] (.y 0 (.y 1 (.y 2 (.y 3 (.y 4 (.y 5 (.y 6 (.y 7 (.y 8 (.y 9 (.y 10 (.e 11 (.e 12 .nil))))))))))))) Tryd.wide (by decide +kernel) (by simp) ?_
        refine J.dy rfl (op_move rfl rfl) rfl rfl rfl rfl ?_
        refine J.dy rfl (op_move rfl rfl) rfl rfl rfl rfl ?_
        refine J.dy rfl (op_move rfl rfl) rfl rfl rfl rfl ?_
        refine J.dy rfl (op_indexAddr (i := i) rfl rfl rfl Tryd.underlying93 Tryd.sizeOf96 sl0 (by first | omega | (simp only [List.length_append, List.length_cons, List.length_nil, List.length_take, List.length_drop] at *; omega))) rfl rfl rfl rfl ?_
        refine J.dy rfl (op_indexAddrAE (i := 0) rfl rfl rfl Tryd.underlying96 Tryd.sizeOf5 (by omega) sl0 (by first | omega | (simp only [List.length_append, List.length_cons, List.length_nil, List.length_take, List.length_drop] at *; omega))) rfl rfl rfl rfl ?_
        refine J.dy rfl (op_load (v := B8 ((l0.getD i noTw).a)) rfl rfl Tryd.isAgg5 (m := F) (by simp) (sl0.part (twosV_get (by first | omega | (simp only [List.length_append, List.length_cons, List.length_nil, List.length_take, List.length_drop] at *; omega))) 0 1)) rfl rfl rfl rfl ?_
        refine J.dy rfl (op_move rfl rfl) rfl rfl rfl rfl ?_
        refine J.dy rfl (op_move rfl rfl) rfl rfl rfl rfl ?_
        refine J.dy rfl (op_indexAddr (i := i) rfl rfl rfl Tryd.underlying93 Tryd.sizeOf96 sl0 (by first | omega | (simp only [List.length_append, List.length_cons, List.length_nil, List.length_take, List.length_drop] at *; omega))) rfl rfl rfl rfl ?_
        refine J.dy rfl (op_indexAddrAE (i := 1) rfl rfl rfl Tryd.underlying96 Tryd.sizeOf5 (by omega) sl0 (by first | omega | (simp only [List.length_append, List.length_cons, List.length_nil, List.length_take, List.length_drop] at *; omega))) rfl rfl rfl rfl ?_
        refine J.dy rfl (op_load (v := B8 ((l0.getD i noTw).b)) rfl rfl Tryd.isAgg5 (m := F) (by simp) (sl0.part (twosV_get (by first | omega | (simp only [List.length_append, List.length_cons, List.length_nil, List.length_take, List.length_drop] at *; omega))) 1 1)) rfl rfl rfl rfl ?_
        refine J.de rfl (op_call rfl rfl ent62 (Ct.use0 (fun F' hF => key15_ct F' ((l0.getD i noTw).a) ((l0.getD i noTw).b)))) rfl rfl rfl (by simp) ?_
        intro g56 _
        refine J.de rfl (op_call rfl rfl ent61 (Ct.use1 2 (m' := fun x : Hp => x) (new := fun _ => []) rfl (fun F' hF => tput_ct F' mo g34 kv ht (keyB ((l0.getD i noTw).a) ((l0.getD i noTw).b)) ([118]) (by first | omega | rfl | assumption)))) rfl rfl rfl (by simp) ?_
        rintro m57 h57
        change J _ ((57, I ((0 : Nat) : Int)) :: _) _ [F, mr, m57] _
        refine J.dnil ?_
        refine J.then_n (J.k hK11 ?_)
        refine J.keepE [(0, _), (1, _), (5, _), (6, _), (7, _)] ⟨rfl, rfl, rfl, rfl, rfl, trivial⟩ ?_
        refine J.draw [F] [] (.y 0 (.y 1 (.y 2 (.y 3 (.y 4 (.y 5 (.y 6 (.y 7 (.y 8 (.y 9 (.y 10 (.e 11 (.y 12 (.e 13 (.y 14 .nil))))))))))))))) Tryd.wide (by decide +kernel) (by simp) ?_
        refine J.dy rfl (op_move rfl rfl) rfl rfl rfl rfl ?_
        refine J.dy rfl (op_move rfl rfl) rfl rfl rfl rfl ?_
        refine J.dy rfl (op_move rfl rfl) rfl rfl rfl rfl ?_
        refine J.dy rfl (op_indexAddr (i := i) rfl rfl rfl Tryd.underlying93 Tryd.sizeOf96 sl0 (by first | omega | (simp only [List.length_append, List.length_cons, List.length_nil, List.length_take, List.length_drop] at *; omega))) rfl rfl rfl rfl ?_
        refine J.dy rfl (op_indexAddrAE (i := 0) rfl rfl rfl Tryd.underlying96 Tryd.sizeOf5 (by omega) sl0 (by first | omega | (simp only [List.length_append, List.length_cons, List.length_nil, List.length_take, List.length_drop] at *; omega))) rfl rfl rfl rfl ?_
        refine J.dy rfl (op_load (v := B8 ((l0.getD i noTw).a)) rfl rfl Tryd.isAgg5 (m := F) (by simp) (sl0.part (twosV_get (by first | omega | (simp only [List.length_append, List.length_cons, List.length_nil, List.length_take, List.length_drop] at *; omega))) 0 1)) rfl rfl rfl rfl ?_
        refine J.dy rfl (op_move rfl rfl) rfl rfl rfl rfl ?_
        refine J.dy rfl (op_move rfl rfl) rfl rfl rfl rfl ?_
        refine J.dy rfl (op_indexAddr (i := i) rfl rfl rfl Tryd.underlying93 Tryd.sizeOf96 sl0 (by first | omega | (simp only [List.length_append, List.length_cons, List.length_nil, List.length_take, List.length_drop] at *; omega))) rfl rfl rfl rfl ?_
        refine J.dy rfl (op_indexAddrAE (i := 1) rfl rfl rfl Tryd.underlying96 Tryd.sizeOf5 (by omega) sl0 (by first | omega | (simp only [List.length_append, List.length_cons, List.length_nil, List.length_take, List.length_drop] at *; omega))) rfl rfl rfl rfl ?_
        refine J.dy rfl (op_load (v := B8 ((l0.getD i noTw).b)) rfl rfl Tryd.isAgg5 (m := F) (by simp) (sl0.part (twosV_get (by first | omega | (simp only [List.length_append, List.length_cons, List.length_nil, List.length_take, List.length_drop] at *; omega))) 1 1)) rfl rfl rfl rfl ?_
        refine J.de rfl (op_call rfl rfl ent62 (Ct.use0 (fun F' hF => key15_ct F' ((l0.getD i noTw).a) ((l0.getD i noTw).b)))) rfl rfl rfl (by simp) ?_
        intro g69 _
        refine J.dy rfl (op_buildStruct (l := [(0, .tmp 69), (1, .const ((Value.string (ByteArray.mk #[118]))))]) (vs := [Str (keyB ((l0.getD i noTw).a) ((l0.getD i noTw).b)), Str ([118])]) (places := [(0, 1), (1, 1)]) (r := [Str (keyB ((l0.getD i noTw).a) ((l0.getD i noTw).b)), Str ([118])]) rfl rfl rfl Tryd.underlying84 Tryd.zeroValue84 (fun _ => by kernel_rfl) rfl) rfl rfl rfl rfl ?_
        refine J.de rfl (op_call rfl rfl ent63 (Ct.use (new := fun x : Option Addr × Nat × Hp => [x.2.2]) (fun F' hF => rset_ct F' A m.length c m (hr.sl.mono (hF mr (by simp))) (by omega) (keyB ((l0.getD i noTw).a) ((l0.getD i noTw).b)) ([118])))) rfl rfl rfl (by simp) ?_
        rintro ⟨A71, c71, m71⟩ h71
        try dsimp only at h71
        change J _ ((71, .slice A71 (setR m ⟨(keyB ((l0.getD i noTw).a) ((l0.getD i noTw).b)), ([118])⟩).length c71) :: _) _ [F, mr, m57, m71] _
        refine J.dy rfl (op_assign rfl rfl) rfl rfl rfl rfl ?_
        refine J.dnil ?_
        refine J.blk_n ?_
        refine J.then_n (J.k hK10 ?_)
        refine J.keepE [(0, _), (1, _), (5, _), (6, _), (7, _)] ⟨rfl, rfl, rfl, rfl, rfl, trivial⟩ ?_
        refine J.region ?_
        refine J.y (op_move rfl rfl) rfl rfl rfl ?_
        refine J.y ((op_add rfl rfl rfl (by first | omega | (simp only [List.length_append, List.length_cons, List.length_nil, List.length_take, List.length_drop] at *; omega))).as (v' := I ((i + 1 : Nat) : Int)) (congrArg I (by omega))) rfl rfl rfl ?_
        refine J.y (op_assign rfl rfl) rfl rfl rfl ?_
        refine J.nil ?_
        refine J.then_n ?_
        exact J.kk (i + 1, setR m ⟨(keyB ((l0.getD i noTw).a) ((l0.getD i noTw).b)), ([118])⟩, Sm.putP kv (keyB (l0.getD i noTw).a (l0.getD i noTw).b) [118], A71, c71, m71, m57) (fun η (hη : _ ∧ 14 - η.1 < 14 - i) => hI0 η hη.1 hη.2) ⟨⟨hp.set (keyB_len _ _) (by decide) (by omega), by dsimp only; omega, by have h1 := setR_len m ⟨(keyB (l0.getD i noTw).a (l0.getD i noTw).b), [118]⟩; have h2 := filtR_len (keyB (l0.getD i noTw).a (l0.getD i noTw).b) m; dsimp only at h1 ⊢; omega, h71, h57⟩, by first | omega | (dsimp only; omega)⟩ ⟨rfl, rfl, rfl, rfl, rfl, trivial⟩ (fun _ h => h.pick [0, 3, 2] (by decide))
      ·
        refine J.exit ?_
        refine J.then_x ?_
        refine J.then_x ?_
        refine J.blk_eq ?_
        refine J.then_n ?_
        exact J.kk (m, kv, A, c, mr, mo) hK6 (⟨hp, by dsimp only; omega, hr, ht⟩) ⟨rfl, rfl, rfl, trivial⟩ (fun _ h => h)
    ·
      refine J.no (Wan.is rfl rfl rfl rfl rfl) rfl rfl ?_
      refine J.no (Wan.is rfl rfl rfl rfl rfl) rfl rfl ?_
      refine J.y (op_pickF rfl rfl rfl) rfl rfl rfl ?_
      refine J.nil ?_
      refine J.then_n (J.k hK9 ?_)
      refine J.keepE [(0, _), (1, _), (5, _), (6, _), (7, _), (42, _)] ⟨rfl, rfl, rfl, rfl, rfl, rfl, trivial⟩ ?_
      refine J.condF rfl rfl ?_
      refine J.exit ?_
      refine J.then_x ?_
      refine J.then_x ?_
      refine J.blk_eq ?_
      refine J.then_n ?_
      exact J.kk (m, kv, A, c, mr, mo) hK6 (⟨hp, by dsimp only; omega, hr, ht⟩) ⟨rfl, rfl, rfl, trivial⟩ (fun _ h => h)
  rintro ⟨m, kv, A, c, mr, mo⟩ ⟨hp, hm, hr, ht⟩
  dsimp only at hp hm hr ht ⊢
  have hfi := hp.fine
  have hln := hp.len
  have hkl := Sm.keysS_len kv
  refine J.seq (fun K12 hK12 => ?_)
  refine J.region ?_
  refine J.y (op_move rfl rfl) rfl rfl rfl ?_
  refine J.y (op_move rfl rfl) rfl rfl rfl ?_
  refine J.e (op_call rfl rfl ent64 (Ct.use (new := fun x : Option Addr × Nat × Hp => [x.2.2]) (fun F' hF => bnodes_ct F' (hK.mono (hF F (by simp))) g34 kv (ht.at.mono (hF mo (by simp))) (by assumption) d (by omega)))) rfl rfl rfl ?_
  rintro ⟨A75, c75, m75⟩ h75
  try dsimp only at h75
  change J _ ((75, .tuple #[.slice A75 (nodesL kv d).length c75, I ((0 : Nat) : Int)]) :: _) _ [F, mr, mo, m75] _
  refine J.y (op_move rfl rfl) rfl rfl rfl ?_
  refine J.y (op_extract (v := .slice A75 ((nodesL kv d).length) c75) rfl rfl rfl) rfl rfl rfl ?_
  refine J.y (op_extract (v := I ((0 : Nat) : Int)) rfl rfl rfl) rfl rfl rfl ?_
  refine J.y (op_assign rfl rfl) rfl rfl rfl ?_
  refine J.y (op_assign rfl rfl) rfl rfl rfl ?_
  refine J.nil ?_
  refine J.then_n (J.k hK12 ?_)
  refine J.keepE [(1, _), (5, _), (6, _), (8, _), (9, _)] ⟨rfl, rfl, rfl, rfl, rfl, trivial⟩ ?_
  refine J.seq (fun K13 hK13 => ?_)
  refine J.region ?_
  refine J.y (op_move rfl rfl) rfl rfl rfl ?_
  refine J.e (op_call rfl rfl ent65 (Ct.use0 (fun F' hF => c15_ct F' ((d : Nat) : Int)))) rfl rfl rfl ?_
  intro g79 _
  refine J.y (op_assign rfl rfl) rfl rfl rfl ?_
  refine J.nil ?_
  refine J.then_n (J.k hK13 ?_)
  refine J.keepE [(1, _), (5, _), (6, _), (8, _), (9, _), (10, _)] ⟨rfl, rfl, rfl, rfl, rfl, rfl, trivial⟩ ?_
  refine J.seq (fun K14 hK14 => ?_)
  refine J.seq (fun K15 hK15 => ?_)
  rw [hcn]
  have hnl : (nodesL kv d).length = 2 ^ d := nodesK_len _ _ _
  have hns := nodesK_small kv d (2 ^ d)
  refine J.region ?_
  refine J.y (op_move rfl rfl) rfl rfl rfl ?_
  refine J.e (op_call rfl rfl ent66 (Ct.use0 (fun F' hF => bcount_ct F' ((d : Nat) : Int)))) rfl rfl rfl ?_
  intro g81 _
  refine J.y (op_move rfl rfl) rfl rfl rfl ?_
  refine J.y ((op_neq rfl rfl rfl).as (v' := .bool false) (congrArg Value.bool (decide_eq_false (by rw [hcn]; exact fun h => h rfl)))) rfl rfl rfl ?_
  refine J.nil ?_
  refine J.then_n (J.k hK15 ?_)
  refine J.keepE [(1, _), (5, _), (6, _), (8, _), (9, _), (10, _), (83, _)] ⟨rfl, rfl, rfl, rfl, rfl, rfl, rfl, trivial⟩ ?_
  refine J.condF rfl rfl ?_
  refine J.skip ?_
  refine J.then_n (J.k hK14 ?_)
  refine J.keepE [(1, _), (5, _), (6, _), (8, _), (9, _), (10, _)] ⟨rfl, rfl, rfl, rfl, rfl, rfl, trivial⟩ ?_
  refine J.seq (fun K16 hK16 => ?_)
  refine J.seq (fun K17 hK17 => ?_)
  refine J.region ?_
  refine J.y (op_move rfl rfl) rfl rfl rfl ?_
  refine J.y ((op_eql rfl rfl rfl).as (v' := .bool false) (congrArg Value.bool (decide_eq_false (by omega)))) rfl rfl rfl ?_
  refine J.nil ?_
  refine J.then_n (J.k hK17 ?_)
  refine J.keepE [(1, _), (5, _), (6, _), (8, _), (9, _), (10, _), (85, _)] ⟨rfl, rfl, rfl, rfl, rfl, rfl, rfl, trivial⟩ ?_
  refine J.condF rfl rfl ?_
  refine J.skip ?_
  refine J.then_n (J.k hK16 ?_)
  refine J.keepE [(1, _), (5, _), (6, _), (8, _), (9, _), (10, _)] ⟨rfl, rfl, rfl, rfl, rfl, rfl, trivial⟩ ?_
  refine J.seq (fun K18 hK18 => ?_)
  refine J.seq (fun K19 hK19 => ?_)
  refine J.region ?_
  refine J.y (op_move rfl rfl) rfl rfl rfl ?_
  refine J.y ((op_neq rfl rfl rfl).as (v' := .bool false) (congrArg Value.bool (decide_eq_false (by decide)))) rfl rfl rfl ?_
  refine J.y (op_move rfl rfl) rfl rfl rfl ?_
  refine J.yg (Wan.is rfl rfl rfl rfl rfl) (op_move rfl rfl) rfl rfl ?_
  refine J.yg (Wan.is rfl rfl rfl rfl rfl) (op_len Tryd.underlying36 rfl rfl) rfl rfl ?_
  refine J.yg (Wan.is rfl rfl rfl rfl rfl) (op_move rfl rfl) rfl rfl ?_
  refine J.yg (Wan.is rfl rfl rfl rfl rfl) ((op_neq rfl rfl rfl).as (v' := .bool false) (congrArg Value.bool (decide_eq_false (by omega)))) rfl rfl ?_
  refine J.y (op_pickF rfl rfl rfl) rfl rfl rfl ?_
  refine J.nil ?_
  refine J.then_n (J.k hK19 ?_)
  refine J.keepE [(1, _), (5, _), (6, _), (8, _), (10, _), (129, _)] ⟨rfl, rfl, rfl, rfl, rfl, rfl, trivial⟩ ?_
  refine J.condF rfl rfl ?_
  refine J.skip ?_
  refine J.then_n (J.k hK18 ?_)
  refine J.keepE [(1, _), (5, _), (6, _), (8, _), (10, _)] ⟨rfl, rfl, rfl, rfl, rfl, trivial⟩ ?_
  refine J.seq (fun K20 hK20 => ?_)
  refine J.seq (fun K21 hK21 => ?_)
  refine J.region ?_
  refine J.y (op_assign rfl rfl) rfl rfl rfl ?_
  refine J.nil ?_
  refine J.then_n (J.k hK21 ?_)
  refine J.keepE [(1, _), (5, _), (6, _), (8, _), (10, _), (17, _)] ⟨rfl, rfl, rfl, rfl, rfl, rfl, trivial⟩ ?_
  refine J.block ?_
  refine J.loop (X := Nat) (fun ζ => [(1, I ((d : Nat) : Int)), (5, .slice A m.length c), (6, Ptr g34), (8, .slice A75 ((nodesL kv d).length) c75), (10, I ((2 ^ d : Nat) : Int)), (17, I ((ζ : Nat) : Int))]) (fun ζ => [F, mr, mo, m75]) (fun ζ => ζ ≤ 2 ^ d) (fun ζ => 2 ^ d - ζ) 0 (Nat.zero_le _) ⟨rfl, rfl, rfl, rfl, rfl, rfl, trivial⟩ (fun _ h => h) ?_
  rintro i hi I2 hI2
  refine J.seq (fun K22 hK22 => ?_)
  refine J.seq (fun K23 hK23 => ?_)
  refine J.region ?_
  refine J.y (op_move rfl rfl) rfl rfl rfl ?_
  refine J.y (op_move rfl rfl) rfl rfl rfl ?_
  refine J.y (op_lss rfl rfl rfl) rfl rfl rfl ?_
  refine J.nil ?_
  refine J.then_n (J.k hK23 ?_)
  refine J.keepE [(1, _), (5, _), (6, _), (8, _), (10, _), (17, _), (132, _)] ⟨rfl, rfl, rfl, rfl, rfl, rfl, rfl, trivial⟩ ?_
  refine J.ite rfl (fun h132 => ?_) (fun h132 => ?_)
  ·
    have hi2 : i < 2 ^ d := by omega
    refine J.skip ?_
    refine J.then_n (J.k hK22 ?_)
    refine J.keepE [(1, _), (5, _), (6, _), (8, _), (10, _), (17, _)] ⟨rfl, rfl, rfl, rfl, rfl, rfl, trivial⟩ ?_
    refine J.seq (fun K24 hK24 => ?_)
    refine J.block ?_
    refine J.seq (fun K25 hK25 => ?_)
    refine J.region ?_
    refine J.y (op_assign rfl rfl) rfl rfl rfl ?_
    refine J.nil ?_
    refine J.then_n (J.k hK25 ?_)
    refine J.keepE [(1, _), (5, _), (6, _), (8, _), (10, _), (17, _), (18, _)] ⟨rfl, rfl, rfl, rfl, rfl, rfl, rfl, trivial⟩ ?_
    refine J.seq (fun K26 hK26 => ?_)
    refine J.seq (fun K27 hK27 => ?_)
    refine J.region ?_
    refine J.y (op_assign rfl rfl) rfl rfl rfl ?_
    refine J.nil ?_
    refine J.then_n (J.k hK27 ?_)
    refine J.keepE [(1, _), (5, _), (6, _), (8, _), (10, _), (17, _), (18, _), (19, _)] ⟨rfl, rfl, rfl, rfl, rfl, rfl, rfl, rfl, trivial⟩ ?_
    refine J.block ?_
    refine J.loop (X := Nat × Option Addr × Nat × Hp) (fun ζ => [(1, I ((d : Nat) : Int)), (5, .slice A m.length c), (6, Ptr g34), (8, .slice A75 ((nodesL kv d).length) c75), (10, I ((2 ^ d : Nat) : Int)), (17, I ((i : Nat) : Int)), (18, .slice ζ.2.1 ((bandR (m.take ζ.1) i d).length) ζ.2.2.1), (19, I ((ζ.1 : Nat) : Int))]) (fun ζ => [F, mr, mo, m75, ζ.2.2.2]) (fun ζ => ζ.1 ≤ m.length ∧ Row ζ.2.2.2 84 2 ζ.2.1 (bandR (m.take ζ.1) i d).length ζ.2.2.1 (prsV (bandR (m.take ζ.1) i d))) (fun ζ => m.length - ζ.1) (0, none, 0, (fun _ => none)) (⟨Nat.zero_le _, RowQ.nil⟩) ⟨rfl, rfl, rfl, rfl, rfl, rfl, rfl, rfl, trivial⟩ (fun _ h => h.empty.pick [0, 1, 2, 3, 4] (by decide)) ?_
    rintro ⟨k, A18, c18, mq⟩ ⟨hk, hq⟩ I4 hI4
    dsimp only at hk hq ⊢
    have hki := hp.klen k
    have hla := bandR_len (m.take k) i d
    rw [List.length_take] at hla
    refine J.seq (fun K28 hK28 => ?_)
    refine J.seq (fun K29 hK29 => ?_)
    refine J.region ?_
    refine J.y (op_move rfl rfl) rfl rfl rfl ?_
    refine J.y (op_move rfl rfl) rfl rfl rfl ?_
    refine J.y (op_len Tryd.underlying75 rfl rfl) rfl rfl rfl ?_
    refine J.y (op_lss rfl rfl rfl) rfl rfl rfl ?_
    refine J.nil ?_
    refine J.then_n (J.k hK29 ?_)
    refine J.keepE [(1, _), (5, _), (6, _), (8, _), (10, _), (17, _), (18, _), (19, _), (138, _)] ⟨rfl, rfl, rfl, rfl, rfl, rfl, rfl, rfl, rfl, trivial⟩ ?_
    refine J.ite rfl (fun h138 => ?_) (fun h138 => ?_)
    ·
      refine J.skip ?_
      refine J.then_n (J.k hK28 ?_)
      refine J.keepE [(1, _), (5, _), (6, _), (8, _), (10, _), (17, _), (18, _), (19, _)] ⟨rfl, rfl, rfl, rfl, rfl, rfl, rfl, rfl, trivial⟩ ?_
      refine J.seq (fun K30 hK30 => ?_)
      refine J.block ?_
      refine J.seq (fun K31 hK31 => ?_)
      refine J.region ?_
      refine J.y (op_assign rfl rfl) rfl rfl rfl ?_
      refine J.nil ?_
      refine J.then_n (J.k hK31 ?_)
      refine J.keepE [(1, _), (5, _), (6, _), (8, _), (10, _), (17, _), (18, _), (19, _), (20, _)] ⟨rfl, rfl, rfl, rfl, rfl, rfl, rfl, rfl, rfl, trivial⟩ ?_
      refine J.seq (fun K32 hK32 => ?_)
      refine J.seq (fun K33 hK33 => ?_)
      refine J.region ?_
      refine J.y (op_assign rfl rfl) rfl rfl rfl ?_
      refine J.nil ?_
      refine J.then_n (J.k hK33 ?_)
      refine J.keepE [(1, _), (5, _), (6, _), (8, _), (10, _), (17, _), (18, _), (19, _), (20, _), (21, _)] ⟨rfl, rfl, rfl, rfl, rfl, rfl, rfl, rfl, rfl, rfl, trivial⟩ ?_
      refine J.block ?_
      refine J.loop (X := Nat) (fun ζ => [(1, I ((d : Nat) : Int)), (5, .slice A m.length c), (6, Ptr g34), (8, .slice A75 ((nodesL kv d).length) c75), (10, I ((2 ^ d : Nat) : Int)), (17, I ((i : Nat) : Int)), (18, .slice A18 ((bandR (m.take k) i d).length) c18), (19, I ((k : Nat) : Int)), (20, I ((bandN (m.getD k noPr).k ζ : Nat) : Int)), (21, I ((ζ : Nat) : Int))]) (fun ζ => [F, mr, mo, m75, mq]) (fun ζ => ζ ≤ d) (fun ζ => d - ζ) 0 (Nat.zero_le _) ⟨rfl, rfl, rfl, rfl, rfl, rfl, rfl, rfl, rfl, rfl, trivial⟩ (fun _ h => h) ?_
      rintro j hj I6 hI6
      have hbl2 := bandN_lt (m.getD k noPr).k j
      have hp16 := pow16 (i := j) (by omega)
      have hbj := Sm.bit_le (m.getD k noPr).k j
      refine J.seq (fun K34 hK34 => ?_)
      refine J.seq (fun K35 hK35 => ?_)
      refine J.region ?_
      refine J.y (op_move rfl rfl) rfl rfl rfl ?_
      refine J.y (op_move rfl rfl) rfl rfl rfl ?_
      refine J.y (op_lss rfl rfl rfl) rfl rfl rfl ?_
      refine J.nil ?_
      refine J.then_n (J.k hK35 ?_)
      refine J.keepE [(1, _), (5, _), (6, _), (8, _), (10, _), (17, _), (18, _), (19, _), (20, _), (21, _), (143, _)] ⟨rfl, rfl, rfl, rfl, rfl, rfl, rfl, rfl, rfl, rfl, rfl, trivial⟩ ?_
      refine J.ite rfl (fun h143 => ?_) (fun h143 => ?_)
      ·
        refine J.skip ?_
        refine J.then_n (J.k hK34 ?_)
        refine J.keepE [(1, _), (5, _), (6, _), (8, _), (10, _), (17, _), (18, _), (19, _), (20, _), (21, _)] ⟨rfl, rfl, rfl, rfl, rfl, rfl, rfl, rfl, rfl, rfl, trivial⟩ ?_
        refine J.seq (fun K36 hK36 => ?_)
        refine J.block ?_
        refine J.region ?_
        refine J.y (op_move rfl rfl) rfl rfl rfl ?_
        refine J.y ((op_mul rfl rfl rfl (by first | omega | (simp only [List.length_append, List.length_cons, List.length_nil, List.length_take, List.length_drop] at *; omega))).as (v' := I ((2 * (bandN (m.getD k noPr).k j) : Nat) : Int)) (congrArg I (by omega))) rfl rfl rfl ?_
        refine J.y (op_move rfl rfl) rfl rfl rfl ?_
        refine J.y (op_move rfl rfl) rfl rfl rfl ?_
        refine J.y (op_indexAddr (i := k) rfl rfl rfl Tryd.underlying75 Tryd.sizeOf84 hr.sl (by first | omega | (simp only [List.length_append, List.length_cons, List.length_nil, List.length_take, List.length_drop] at *; omega))) rfl rfl rfl ?_
        refine J.y (op_fieldAddrE (off := 0) rfl rfl Tryd.underlying84 rfl Tryd.sizeOf9 hr.sl (by first | omega | (simp only [List.length_append, List.length_cons, List.length_nil, List.length_take, List.length_drop] at *; omega)) rfl) rfl rfl rfl ?_
        refine J.y (op_load (v := Str ((m.getD k noPr).k)) rfl rfl Tryd.isAgg9 (m := mr) (by simp) (hr.sl.part (prsV_get (by first | omega | (simp only [List.length_append, List.length_cons, List.length_nil, List.length_take, List.length_drop] at *; omega))) 0 1)) rfl rfl rfl ?_
        refine J.y (op_move rfl rfl) rfl rfl rfl ?_
        refine J.e (op_call rfl rfl ent70 (Ct.use0 (fun F' hF => bitr_ct F' ((m.getD k noPr).k) (by omega) j (by omega)))) rfl rfl rfl ?_
        intro g154 _
        refine J.y ((op_add rfl rfl rfl (by first | omega | (simp only [List.length_append, List.length_cons, List.length_nil, List.length_take, List.length_drop] at *; omega))).as (v' := I ((2 * (bandN (m.getD k noPr).k j) + (Sm.bit ((m.getD k noPr).k) j) : Nat) : Int)) (congrArg I (by omega))) rfl rfl rfl ?_
        refine J.y (op_assign rfl rfl) rfl rfl rfl ?_
        refine J.nil ?_
        refine J.blk_n ?_
        refine J.then_n (J.k hK36 ?_)
        refine J.keepE [(1, _), (5, _), (6, _), (8, _), (10, _), (17, _), (18, _), (19, _), (20, _), (21, _)] ⟨rfl, rfl, rfl, rfl, rfl, rfl, rfl, rfl, rfl, rfl, trivial⟩ ?_
        refine J.region ?_
        refine J.y (op_move rfl rfl) rfl rfl rfl ?_
        refine J.y ((op_add rfl rfl rfl (by first | omega | (simp only [List.length_append, List.length_cons, List.length_nil, List.length_take, List.length_drop] at *; omega))).as (v' := I ((j + 1 : Nat) : Int)) (congrArg I (by omega))) rfl rfl rfl ?_
        refine J.y (op_assign rfl rfl) rfl rfl rfl ?_
        refine J.nil ?_
        refine J.then_n ?_
        exact J.kk (j + 1) (fun η (hη : _ ∧ d - η < d - j) => hI6 η hη.1 hη.2) ⟨(by omega), by first | omega | (dsimp only; omega)⟩ ⟨rfl, rfl, rfl, rfl, rfl, rfl, rfl, rfl, by show some (I _) = some (I _); rw [bandN_succ], rfl, trivial⟩ (fun _ h => h)
      ·
        refine J.exit ?_
        refine J.then_x ?_
        refine J.then_x ?_
        refine J.blk_eq ?_
        refine J.then_n (J.k hK32 ?_)
        refine J.keepE [(1, _), (5, _), (6, _), (8, _), (10, _), (17, _), (18, _), (19, _), (20, _)] ⟨rfl, rfl, rfl, rfl, rfl, rfl, rfl, rfl, rfl, trivial⟩ ?_
        refine J.seq (fun K37 hK37 => ?_)
        refine J.seq (fun K38 hK38 => ?_)
        obtain rfl : d = j := by omega
        have hk6 := hp.klen16 (j := k) (by omega)
        have hko : ofE (m.getD k noPr).k = 0 := if_pos hk6
        have hkb : ofV (m.getD k noPr).k d = bandN (m.getD k noPr).k d := if_pos hk6
        refine J.region ?_
        refine J.y (op_move rfl rfl) rfl rfl rfl ?_
        refine J.y (op_move rfl rfl) rfl rfl rfl ?_
        refine J.y (op_indexAddr (i := k) rfl rfl rfl Tryd.underlying75 Tryd.sizeOf84 hr.sl (by first | omega | (simp only [List.length_append, List.length_cons, List.length_nil, List.length_take, List.length_drop] at *; omega))) rfl rfl rfl ?_
        refine J.y (op_fieldAddrE (off := 0) rfl rfl Tryd.underlying84 rfl Tryd.sizeOf9 hr.sl (by first | omega | (simp only [List.length_append, List.length_cons, List.length_nil, List.length_take, List.length_drop] at *; omega)) rfl) rfl rfl rfl ?_
        refine J.y (op_load (v := Str ((m.getD k noPr).k)) rfl rfl Tryd.isAgg9 (m := mr) (by simp) (hr.sl.part (prsV_get (by first | omega | (simp only [List.length_append, List.length_cons, List.length_nil, List.length_take, List.length_drop] at *; omega))) 0 1)) rfl rfl rfl ?_
        refine J.y (op_move rfl rfl) rfl rfl rfl ?_
        refine J.e (op_call rfl rfl ent69 (Ct.use0 (fun F' hF => bof_ct F' ((m.getD k noPr).k) (by first | omega | exact hsm _ | exact Nat.le_of_ble_eq_true rfl) d (by omega)))) rfl rfl rfl ?_
        intro g163 _
        refine J.y (op_move rfl rfl) rfl rfl rfl ?_
        refine J.y (op_extract (v := I ((ofV ((m.getD k noPr).k) d : Nat) : Int)) rfl rfl rfl) rfl rfl rfl ?_
        refine J.y (op_extract (v := I ((ofE ((m.getD k noPr).k) : Nat) : Int)) rfl rfl rfl) rfl rfl rfl ?_
        refine J.y (op_assign rfl rfl) rfl rfl rfl ?_
        refine J.y (op_assign rfl rfl) rfl rfl rfl ?_
        refine J.nil ?_
        refine J.then_n (J.k hK38 ?_)
        refine J.keepE [(1, _), (5, _), (6, _), (8, _), (10, _), (17, _), (18, _), (19, _), (20, _), (22, _), (23, _)] ⟨rfl, rfl, rfl, rfl, rfl, rfl, rfl, rfl, rfl, rfl, rfl, trivial⟩ ?_
        refine J.seq (fun K39 hK39 => ?_)
        refine J.region ?_
        refine J.y (op_move rfl rfl) rfl rfl rfl ?_
        refine J.y ((op_neq rfl rfl rfl).as (v' := .bool false) (congrArg Value.bool (decide_eq_false (by rw [hko]; exact fun h => h rfl)))) rfl rfl rfl ?_
        refine J.y (op_move rfl rfl) rfl rfl rfl ?_
        refine J.yg (Wan.is rfl rfl rfl rfl rfl) (op_move rfl rfl) rfl rfl ?_
        refine J.yg (Wan.is rfl rfl rfl rfl rfl) (op_move rfl rfl) rfl rfl ?_
        refine J.yg (Wan.is rfl rfl rfl rfl rfl) ((op_neq rfl rfl rfl).as (v' := .bool false) (congrArg Value.bool (decide_eq_false (by rw [hkb]; exact fun h => h rfl)))) rfl rfl ?_
        refine J.y (op_pickF rfl rfl rfl) rfl rfl rfl ?_
        refine J.nil ?_
        refine J.then_n (J.k hK39 ?_)
        refine J.keepE [(1, _), (5, _), (6, _), (8, _), (10, _), (17, _), (18, _), (19, _), (20, _), (172, _)] ⟨rfl, rfl, rfl, rfl, rfl, rfl, rfl, rfl, rfl, rfl, trivial⟩ ?_
        refine J.condF rfl rfl ?_
        refine J.skip ?_
        refine J.then_n (J.k hK37 ?_)
        refine J.keepE [(1, _), (5, _), (6, _), (8, _), (10, _), (17, _), (18, _), (19, _), (20, _)] ⟨rfl, rfl, rfl, rfl, rfl, rfl, rfl, rfl, rfl, trivial⟩ ?_
        refine J.seq (fun K40 hK40 => ?_)
        refine J.region ?_
        refine J.y (op_move rfl rfl) rfl rfl rfl ?_
        refine J.y (op_move rfl rfl) rfl rfl rfl ?_
        refine J.y (op_eql rfl rfl rfl) rfl rfl rfl ?_
        refine J.nil ?_
        refine J.then_n (J.k hK40 ?_)
        refine J.keepE [(1, _), (5, _), (6, _), (8, _), (10, _), (17, _), (18, _), (19, _), (175, _)] ⟨rfl, rfl, rfl, rfl, rfl, rfl, rfl, rfl, rfl, trivial⟩ ?_
        refine J.ite rfl (fun h175 => ?_) (fun h175 => ?_)
        ·
          have hy : bandR (m.take (k + 1)) i d = bandR (m.take k) i d ++ [m.getD k noPr] := by rw [bandR_take (by omega), if_pos (by omega)]
          refine J.region ?_
          refine J.y (op_move rfl rfl) rfl rfl rfl ?_
          refine J.y (op_move rfl rfl) rfl rfl rfl ?_
          refine J.y (op_move rfl rfl) rfl rfl rfl ?_
          refine J.y (op_indexAddr (i := k) rfl rfl rfl Tryd.underlying75 Tryd.sizeOf84 hr.sl (by first | omega | (simp only [List.length_append, List.length_cons, List.length_nil, List.length_take, List.length_drop] at *; omega))) rfl rfl rfl ?_
          refine J.y (op_loadA (vs := [Str ((m.getD k noPr).k), Str ((m.getD k noPr).v)]) rfl rfl Tryd.isAgg84 Tryd.sizeOf84 (m := mr) (by simp) (hr.sl.elem (prsV_get (by first | omega | (simp only [List.length_append, List.length_cons, List.length_nil, List.length_take, List.length_drop] at *; omega)))) rfl) rfl rfl rfl ?_
          refine J.e (op_buildSlice (l := [.tmp 180]) (xs := [[Str ((m.getD k noPr).k), Str ((m.getD k noPr).v)]]) rfl rfl rfl rfl Tryd.underlying75 el84 rfl (by decide) (by decide) (by simp)) rfl rfl rfl ?_
          intro g181 _
          change J _ _ _ [F, mr, mo, m75, mq, blk g181 [Str ((m.getD k noPr).k), Str ((m.getD k noPr).v)] 84] _
          refine J.e (op_append (i := 4) (xs := prsV (bandR (m.take k) i d)) (m2 := blk g181 [Str ((m.getD k noPr).k), Str ((m.getD k noPr).v)] 84) (ys := [[Str ((m.getD k noPr).k), Str ((m.getD k noPr).v)]]) rfl rfl rfl Tryd.underlying75 Tryd.underlying75 el84 rfl hq (by simp) ((row_blk (q := True) (xs := prsV [(m.getD k noPr)]) rfl (by intro x hx; rw [List.mem_singleton.1 hx]; rfl)).sl) rfl (by first | omega | (simp only [List.length_append, List.length_cons, List.length_nil, List.length_take, List.length_drop] at *; omega)) (by first | omega | (simp only [List.length_append, List.length_cons, List.length_nil, List.length_take, List.length_drop] at *; omega))) rfl rfl rfl ?_
          rintro ⟨A182, c182, m182⟩ h182
          try dsimp only at h182
          change J _ ((182, .slice A182 (((bandR (m.take k) i d).length) + 1) c182) :: _) _ [F, mr, mo, m75, m182, blk g181 [Str ((m.getD k noPr).k), Str ((m.getD k noPr).v)] 84] _
          replace h182 : Row m182 84 2 A182 (((bandR (m.take k) i d).length) + 1) c182 (prsV ((bandR (m.take k) i d) ++ ([(m.getD k noPr)]))) := by rw [prsV_snoc]; exact h182
          refine J.y (op_assign rfl rfl) rfl rfl rfl ?_
          refine J.nil ?_
          refine J.blk_n ?_
          refine J.then_n (J.k hK30 ?_)
          refine J.keepE [(1, _), (5, _), (6, _), (8, _), (10, _), (17, _), (18, _), (19, _)] ⟨rfl, rfl, rfl, rfl, rfl, rfl, rfl, rfl, trivial⟩ ?_
          refine J.region ?_
          refine J.y (op_move rfl rfl) rfl rfl rfl ?_
          refine J.y ((op_add rfl rfl rfl (by first | omega | (simp only [List.length_append, List.length_cons, List.length_nil, List.length_take, List.length_drop] at *; omega))).as (v' := I ((k + 1 : Nat) : Int)) (congrArg I (by omega))) rfl rfl rfl ?_
          refine J.y (op_assign rfl rfl) rfl rfl rfl ?_
          refine J.nil ?_
          refine J.then_n ?_
          exact J.kk (k + 1, A182, c182, m182) (fun η (hη : _ ∧ m.length - η.1 < m.length - k) => hI4 η hη.1 hη.2) ⟨⟨by dsimp only; omega, by dsimp only; rw [hy, List.length_append]; exact h182⟩, by first | omega | (dsimp only; omega)⟩ ⟨rfl, rfl, rfl, rfl, rfl, rfl, by dsimp only; first | rfl | (rw [hy, List.length_append]; rfl) | (rw [hy]; rfl), rfl, trivial⟩ (fun _ h => h.pick [0, 1, 2, 3, 4] (by decide))
        ·
          have hy : bandR (m.take (k + 1)) i d = bandR (m.take k) i d := by rw [bandR_take (by omega), if_neg (by omega), List.append_nil]
          refine J.skip ?_
          refine J.blk_n ?_
          refine J.then_n (J.k hK30 ?_)
          refine J.keepE [(1, _), (5, _), (6, _), (8, _), (10, _), (17, _), (18, _), (19, _)] ⟨rfl, rfl, rfl, rfl, rfl, rfl, rfl, rfl, trivial⟩ ?_
          refine J.region ?_
          refine J.y (op_move rfl rfl) rfl rfl rfl ?_
          refine J.y ((op_add rfl rfl rfl (by first | omega | (simp only [List.length_append, List.length_cons, List.length_nil, List.length_take, List.length_drop] at *; omega))).as (v' := I ((k + 1 : Nat) : Int)) (congrArg I (by omega))) rfl rfl rfl ?_
          refine J.y (op_assign rfl rfl) rfl rfl rfl ?_
          refine J.nil ?_
          refine J.then_n ?_
          exact J.kk (k + 1, A18, c18, mq) (fun η (hη : _ ∧ m.length - η.1 < m.length - k) => hI4 η hη.1 hη.2) ⟨⟨by dsimp only; omega, by dsimp only; rw [hy]; exact hq⟩, by first | omega | (dsimp only; omega)⟩ ⟨rfl, rfl, rfl, rfl, rfl, rfl, by dsimp only; first | rfl | (rw [hy, List.length_append]; rfl) | (rw [hy]; rfl), rfl, trivial⟩ (fun _ h => h)
    ·
      refine J.exit ?_
      refine J.then_x ?_
      refine J.then_x ?_
      refine J.blk_eq ?_
      refine J.then_n (J.k hK26 ?_)
      refine J.keepE [(1, _), (5, _), (6, _), (8, _), (10, _), (17, _), (18, _)] ⟨rfl, rfl, rfl, rfl, rfl, rfl, rfl, trivial⟩ ?_
      refine J.seq (fun K41 hK41 => ?_)
      obtain rfl : k = m.length := by omega
      rw [List.take_length] at hq ⊢
      have hbl := bandR_len m i d
      have hbb := bandR_bel hp hd hi2
      have hwm : Sm.WF (128 - d) ((bandR m i d).map toP) := by rw [hbb]; exact hp.wfB (kF_len i d) (by omega)
      have hvm : ∀ p ∈ bandR m i d, p.v.length ≤ 1000000 := by rw [hbb]; exact hp.smallB _ _
      refine J.region ?_
      refine J.y (op_move rfl rfl) rfl rfl rfl ?_
      refine J.y (op_move rfl rfl) rfl rfl rfl ?_
      refine J.y (op_move rfl rfl) rfl rfl rfl ?_
      refine J.e (op_call rfl rfl ent68 (Ct.use (new := fun x : Option Addr × Nat × Hp => [x.2.2]) (fun F' hF => bkeys_ct F' g34 kv (ht.at.mono (hF mo (by simp))) (by assumption) i d (by omega) (by assumption)))) rfl rfl rfl ?_
      rintro ⟨A187, c187, m187⟩ h187
      try dsimp only at h187
      change J _ ((187, .tuple #[.slice A187 (bkeysL kv i d).length c187, I ((0 : Nat) : Int)]) :: _) _ [F, mr, mo, m75, mq, m187] _
      refine J.y (op_move rfl rfl) rfl rfl rfl ?_
      refine J.y (op_extract (v := .slice A187 ((bkeysL kv i d).length) c187) rfl rfl rfl) rfl rfl rfl ?_
      refine J.y (op_extract (v := I ((0 : Nat) : Int)) rfl rfl rfl) rfl rfl rfl ?_
      refine J.y (op_assign rfl rfl) rfl rfl rfl ?_
      refine J.y (op_assign rfl rfl) rfl rfl rfl ?_
      refine J.nil ?_
      refine J.then_n (J.k hK41 ?_)
      refine J.keepE [(1, _), (5, _), (6, _), (8, _), (10, _), (17, _), (18, _), (24, _), (25, _)] ⟨rfl, rfl, rfl, rfl, rfl, rfl, rfl, rfl, rfl, trivial⟩ ?_
      refine J.seq (fun K42 hK42 => ?_)
      refine J.draw [F, mr, mo, m75, mq, m187] [] (.y 0 (.y 1 (.y 2 (.y 3 (.y 4 (.y 5 (.y 6 (.y 7 (.y 8 (.y 9 (.y 10 (.y 11 (.y 12 (.y 13 (.y 14 (.y 15 (.e 16 (.y 17 (.y 18 .nil))))))))))))))))))) Tryd.wide (by decide +kernel) (by simp) ?_
      refine J.dy rfl (op_move rfl rfl) rfl rfl rfl rfl ?_
      refine J.dy rfl ((op_neq rfl rfl rfl).as (v' := .bool false) (congrArg Value.bool (decide_eq_false (by decide)))) rfl rfl rfl rfl ?_
      refine J.dy rfl (op_move rfl rfl) rfl rfl rfl rfl ?_
      refine J.dyg rfl (op_move rfl rfl) (Wan.is rfl rfl rfl rfl rfl) rfl rfl rfl ?_
      refine J.dyg rfl (op_len Tryd.underlying36 rfl rfl) (Wan.is rfl rfl rfl rfl rfl) rfl rfl rfl ?_
      refine J.dyg rfl (op_move rfl rfl) (Wan.is rfl rfl rfl rfl rfl) rfl rfl rfl ?_
      refine J.dyg rfl (op_len Tryd.underlying75 rfl rfl) (Wan.is rfl rfl rfl rfl rfl) rfl rfl rfl ?_
      refine J.dyg rfl ((op_neq rfl rfl rfl).as (v' := .bool false) (congrArg Value.bool (decide_eq_false (by rw [bkeys_len hp]; exact fun h => h rfl)))) (Wan.is rfl rfl rfl rfl rfl) rfl rfl rfl ?_
      refine J.dy rfl (op_pickF rfl rfl rfl) rfl rfl rfl rfl ?_
      refine J.dy rfl (op_move rfl rfl) rfl rfl rfl rfl ?_
      refine J.dyg rfl (op_move rfl rfl) (Wan.is rfl rfl rfl rfl rfl) rfl rfl rfl ?_
      refine J.dyg rfl (op_move rfl rfl) (Wan.is rfl rfl rfl rfl rfl) rfl rfl rfl ?_
      refine J.dyg rfl (op_indexAddr (i := i) rfl rfl rfl Tryd.underlying36 Tryd.sizeOf9 h75.sl (by first | omega | (simp only [List.length_append, List.length_cons, List.length_nil, List.length_take, List.length_drop] at *; omega))) (Wan.is rfl rfl rfl rfl rfl) rfl rfl rfl ?_
      refine J.dyg rfl (op_load rfl rfl Tryd.isAgg9 (m := m75) (by simp) (h75.sl.elem (strsV_get (getSome [] (by first | omega | (simp only [List.length_append, List.length_cons, List.length_nil, List.length_take, List.length_drop] at *; omega)))))) (Wan.is rfl rfl rfl rfl rfl) rfl rfl rfl ?_
      refine J.dyg rfl (op_move rfl rfl) (Wan.is rfl rfl rfl rfl rfl) rfl rfl rfl ?_
      refine J.dyg rfl (op_move rfl rfl) (Wan.is rfl rfl rfl rfl rfl) rfl rfl rfl ?_
      refine J.deg rfl (op_call rfl rfl ent49 (Ct.use0 (fun F' hF => rnode_ct F' A18 ((bandR m i d).length) c18 (bandR m i d) (hq.sl.mono (hF mq (by simp))) (by omega) d (by omega) (by assumption) (by assumption)))) (Wan.is rfl rfl rfl rfl rfl) rfl rfl (by simp) ?_
      intro g206 _
      refine J.dyg rfl ((op_sne rfl rfl rfl).as (v' := .bool false) (congrArg Value.bool (decide_eq_false (by rw [nodesK_get _ _ hi2, hp.ndB (kF_len i d) (by omega), hbb]; exact fun h => h rfl)))) (Wan.is rfl rfl rfl rfl rfl) rfl rfl rfl ?_
      refine J.dy rfl (op_pickF rfl rfl rfl) rfl rfl rfl rfl ?_
      refine J.dnil ?_
      refine J.then_n (J.k hK42 ?_)
      refine J.keepE [(1, _), (5, _), (6, _), (8, _), (10, _), (17, _), (208, _)] ⟨rfl, rfl, rfl, rfl, rfl, rfl, rfl, trivial⟩ ?_
      refine J.condF rfl rfl ?_
      refine J.skip ?_
      refine J.blk_n ?_
      refine J.then_n (J.k hK24 ?_)
      refine J.keepE [(1, _), (5, _), (6, _), (8, _), (10, _), (17, _)] ⟨rfl, rfl, rfl, rfl, rfl, rfl, trivial⟩ ?_
      refine J.region ?_
      refine J.y (op_move rfl rfl) rfl rfl rfl ?_
      refine J.y ((op_add rfl rfl rfl (by first | omega | (simp only [List.length_append, List.length_cons, List.length_nil, List.length_take, List.length_drop] at *; omega))).as (v' := I ((i + 1 : Nat) : Int)) (congrArg I (by omega))) rfl rfl rfl ?_
      refine J.y (op_assign rfl rfl) rfl rfl rfl ?_
      refine J.nil ?_
      refine J.then_n ?_
      exact J.kk (i + 1) (fun η (hη : _ ∧ 2 ^ d - η < 2 ^ d - i) => hI2 η hη.1 hη.2) ⟨(by omega), by first | omega | (dsimp only; omega)⟩ ⟨rfl, rfl, rfl, rfl, rfl, rfl, trivial⟩ (fun _ h => h.pick [0, 1, 2, 3] (by decide))
  ·
    refine J.exit ?_
    refine J.then_x ?_
    refine J.then_x ?_
    refine J.blk_eq ?_
    refine J.then_n (J.k hK20 ?_)
    refine J.keepE [(1, _), (6, _), (8, _), (10, _)] ⟨rfl, rfl, rfl, rfl, trivial⟩ ?_
    refine J.seq (fun K43 hK43 => ?_)
    refine J.region ?_
    refine J.y (op_move rfl rfl) rfl rfl rfl ?_
    refine J.y (op_move rfl rfl) rfl rfl rfl ?_
    refine J.e (op_call rfl rfl ent67 (Ct.use0 (fun F' hF => broot_ct F' (hK.mono (hF F (by simp))) ((d : Nat) : Int) (nodesL kv d) A75 c75 (h75.sl.mono (hF m75 (by simp))) (by first | assumption | simp)))) rfl rfl rfl ?_
    intro g212 _
    refine J.y (op_move rfl rfl) rfl rfl rfl ?_
    refine J.y (op_extract (v := Str (brVal (nodesL kv d) ((d : Nat) : Int))) rfl rfl rfl) rfl rfl rfl ?_
    refine J.y (op_extract (v := I (brErr (nodesL kv d) ((d : Nat) : Int))) rfl rfl rfl) rfl rfl rfl ?_
    refine J.y (op_assign rfl rfl) rfl rfl rfl ?_
    refine J.y (op_assign rfl rfl) rfl rfl rfl ?_
    refine J.nil ?_
    refine J.then_n (J.k hK43 ?_)
    refine J.keepE [(1, _), (6, _), (10, _), (26, _), (27, _)] ⟨rfl, rfl, rfl, rfl, rfl, trivial⟩ ?_
    refine J.seq (fun K44 hK44 => ?_)
    refine J.region ?_
    refine J.y (op_move rfl rfl) rfl rfl rfl ?_
    refine J.y (op_move rfl rfl) rfl rfl rfl ?_
    refine J.y (op_move rfl rfl) rfl rfl rfl ?_
    refine J.e (op_call rfl rfl ent68 (Ct.use0 (fun F' hF => bkeysN_ct F' g34 (2 ^ d) d hd (Nat.le_refl _)))) rfl rfl rfl ?_
    intro g219 _
    refine J.y (op_move rfl rfl) rfl rfl rfl ?_
    refine J.y (op_extract (v := .slice none 0 0) rfl rfl rfl) rfl rfl rfl ?_
    refine J.y (op_extract (v := I ((10 : Nat) : Int)) rfl rfl rfl) rfl rfl rfl ?_
    refine J.y (op_assign rfl rfl) rfl rfl rfl ?_
    refine J.y (op_assign rfl rfl) rfl rfl rfl ?_
    refine J.nil ?_
    refine J.then_n (J.k hK44 ?_)
    refine J.keepE [(1, _), (6, _), (26, _), (27, _), (29, _)] ⟨rfl, rfl, rfl, rfl, rfl, trivial⟩ ?_
    refine J.seq (fun K45 hK45 => ?_)
    refine J.region ?_
    refine J.y (op_move rfl rfl) rfl rfl rfl ?_
    refine J.e (op_call rfl rfl ent69 (Ct.use0 (fun F' hF => bof_ct F' ([115, 104, 111, 114, 116]) (by first | omega | exact hsm _ | exact Nat.le_of_ble_eq_true rfl) d (by omega)))) rfl rfl rfl ?_
    intro g224 _
    refine J.y (op_move rfl rfl) rfl rfl rfl ?_
    refine J.y (op_extract (v := I ((ofV ([115, 104, 111, 114, 116]) d : Nat) : Int)) rfl rfl rfl) rfl rfl rfl ?_
    refine J.y (op_extract (v := I ((ofE ([115, 104, 111, 114, 116]) : Nat) : Int)) rfl rfl rfl) rfl rfl rfl ?_
    refine J.y (op_assign rfl rfl) rfl rfl rfl ?_
    refine J.y (op_assign rfl rfl) rfl rfl rfl ?_
    refine J.nil ?_
    refine J.then_n (J.k hK45 ?_)
    refine J.keepE [(6, _), (26, _), (27, _), (29, _), (31, _)] ⟨rfl, rfl, rfl, rfl, rfl, trivial⟩ ?_
    refine J.seq (fun K46 hK46 => ?_)
    refine J.region ?_
    refine J.y (op_move rfl rfl) rfl rfl rfl ?_
    refine J.y ((op_eql rfl rfl rfl).as (v' := .bool true) (congrArg Value.bool (decide_eq_true ((nodes_br hfi hd).1)))) rfl rfl rfl ?_
    refine J.y (op_move rfl rfl) rfl rfl rfl ?_
    refine J.yg (Wan.is rfl rfl rfl rfl rfl) (op_move rfl rfl) rfl rfl ?_
    refine J.yg (Wan.is rfl rfl rfl rfl rfl) (op_move rfl rfl) rfl rfl ?_
    refine J.eg (Wan.is rfl rfl rfl rfl rfl) (op_call rfl rfl ent48 (Ct.use0 (fun F' hF => troot_ct F' (hK.mono (hF F (by simp))) g34 kv (ht.at.mono (hF mo (by simp))) (by assumption)))) rfl rfl ?_
    intro g232 _
    refine J.yg (Wan.is rfl rfl rfl rfl rfl) ((op_seq rfl rfl rfl).as (v' := .bool true) (congrArg Value.bool (decide_eq_true ((nodes_br hfi hd).2)))) rfl rfl ?_
    refine J.y (op_pickT rfl rfl rfl) rfl rfl rfl ?_
    refine J.y (op_move rfl rfl) rfl rfl rfl ?_
    refine J.yg (Wan.is rfl rfl rfl rfl rfl) (op_move rfl rfl) rfl rfl ?_
    refine J.yg (Wan.is rfl rfl rfl rfl rfl) ((op_eql rfl rfl rfl).as (v' := .bool true) (congrArg Value.bool (decide_eq_true (by decide)))) rfl rfl ?_
    refine J.y (op_pickT rfl rfl rfl) rfl rfl rfl ?_
    refine J.y (op_move rfl rfl) rfl rfl rfl ?_
    refine J.yg (Wan.is rfl rfl rfl rfl rfl) (op_move rfl rfl) rfl rfl ?_
    refine J.yg (Wan.is rfl rfl rfl rfl rfl) ((op_eql rfl rfl rfl).as (v' := .bool true) (congrArg Value.bool (decide_eq_true (rfl)))) rfl rfl ?_
    refine J.y (op_pickT rfl rfl rfl) rfl rfl rfl ?_
    refine J.y (op_assign rfl rfl) rfl rfl rfl ?_
    refine J.nil ?_
    refine J.then_n (J.k hK46 ?_)
    refine J.keepE [(4, _)] ⟨rfl, trivial⟩ ?_
    refine J.ret ?_
    exact J.done hw0 (fun _ _ h => h) (res1 rfl rfl) (retOk () rfl trivial [0] rfl (by decide))

theorem bandNodes_ct (F : Hp) (hK : Cells F ⟨4, 0, none⟩ (Sha.K.map W32)) (A0 : Option Addr) (n0 c0 : Nat) (l0 : List Tw) (sl0 : Sl F 2 A0 n0 c0 (twosV l0)) (z : Int) : Ct Tryd.prog 12 [.slice A0 n0 c0, I z] [F] (fun _ : Unit => .bool true) (fun _ => True) (fun _ => [F]) := by
  by_cases h : cnt z = 0
  · exact bandNodes_no F hK A0 n0 c0 l0 sl0 z h
  · have h2 : ¬ (z < 0 ∨ 4 < z) := fun e => h (cnt_zero.2 e)
    obtain ⟨d, rfl⟩ := Int.eq_ofNat_of_zero_le (show 0 ≤ z by omega)
    exact bandNodes_ok F hK A0 n0 c0 l0 sl0 d (by omega)

/-- an array's elements, one by one -/
theorem array_of {P : Program} {H : Type} {enc : TypeId × Value → H} {t e : TypeId} {n : Nat} {W : World} {x : List Value} {fuel : Nat} {y : DataW H × List MemPlace} (ht : P.underlying t = some (.array n e)) (hc : P.cellsOf e = 1) (h : DataW.trod enc P W 0 (fun _ => true) true fuel t x = some y) :
    x.length = P.cellsOf t ∧ ∀ (i : Nat), i < n → ∃ fuel y, DataW.trod enc P W 0 (fun _ => true) true fuel e ((x.drop i).take 1) = some y := by
  cases fuel with
  | zero => simp [DataW.trod] at h
  | succ fuel =>
    unfold DataW.trod at h
    rw [ht] at h
    have h' : (if x.length = P.cellsOf t then ((List.range n).mapM fun i => DataW.trod enc P W 0 (fun _ => true) true fuel e ((x.drop (i * P.cellsOf e)).take (P.cellsOf e))).map (fun xs => (DataW.agg (xs.map (·.1)), xs.flatMap (·.2))) else none) = some y := h
    clear h
    split at h'
    · rename_i hl
      obtain ⟨xs, hm, _⟩ := Option.map_eq_some_iff.1 h'
      refine ⟨hl, fun i hi => ?_⟩
      obtain ⟨z, _, hz⟩ := mapM_get hm i i (by rw [List.getElem?_range]; exact hi)
      rw [hc, Nat.mul_one] at hz
      exact ⟨fuel, z, hz⟩
    · cases h'
theorem twos_of {H : Type} {enc : TypeId × Value → H} {W : World} {xs : List (List Value)} (h : ∀ x ∈ xs, ∃ fuel y, DataW.trod enc Tryd.prog W 0 (fun _ => true) true fuel 96 x = some y) : ∃ l : List Tw, xs = twosV l ∧ ∀ a ∈ l, True :=
  rows_of (f := Tw.cells) (Q := fun _ => True) fun x hx => by
    obtain ⟨fuel, y, h1⟩ := h x hx
    obtain ⟨hl, hf⟩ := array_of Tryd.underlying96 (show Tryd.prog.cellsOf 5 = 1 by kernel_rfl) h1
    have hc : Tryd.prog.cellsOf 96 = 2 := by kernel_rfl
    rw [hc] at hl
    match x, hl, hf with
    | [v0, v1], _, hf =>
      obtain ⟨_, _, q0⟩ := hf 0 (by decide)
      obtain ⟨_, _, q1⟩ := hf 1 (by decide)
      rw [show ([v0, v1].drop 0).take 1 = [v0] from rfl] at q0
      rw [show ([v0, v1].drop 1).take 1 = [v1] from rfl] at q1
      obtain ⟨w0, rfl⟩ := u8_of Tryd.underlying5 q0
      obtain ⟨w1, rfl⟩ := u8_of Tryd.underlying5 q1
      exact ⟨⟨w0, w1⟩, rfl, trivial⟩

end Go.Proofs.YtpcffgkmpmcobaaDoor
