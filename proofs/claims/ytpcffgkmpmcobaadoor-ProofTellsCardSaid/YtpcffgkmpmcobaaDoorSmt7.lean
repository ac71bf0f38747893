/- A part of the proof: contracts of functions of the program, each for every state of the heaps that it names. -/
import Derived.Test.YtpcffgkmpmcobaaDoorSmt6
set_option linter.unusedSimpArgs false
set_option linter.unusedVariables false
namespace Go.Proofs.YtpcffgkmpmcobaaDoor
open Go Go.Fw
set_option maxRecDepth 100000
set_option maxHeartbeats 1000000
theorem ent48 : Enters Tryd.prog 48 := Enters.of Tryd.func48 rfl (by kernel_rfl)
theorem ent50 : Enters Tryd.prog 50 := Enters.of Tryd.func50 rfl (by kernel_rfl)
theorem ent52 : Enters Tryd.prog 52 := Enters.of Tryd.func52 rfl (by kernel_rfl)
theorem ent53 : Enters Tryd.prog 53 := Enters.of Tryd.func53 rfl (by kernel_rfl)
theorem ent60 : Enters Tryd.prog 60 := Enters.of Tryd.func60 rfl (by kernel_rfl)
theorem ent61 : Enters Tryd.prog 61 := Enters.of Tryd.func61 rfl (by kernel_rfl)
theorem ent63 : Enters Tryd.prog 63 := Enters.of Tryd.func63 rfl (by kernel_rfl)
structure Pu where
  a : UInt8
  b : UInt8
  v : List UInt8
  deriving DecidableEq
def Pu.cells (x : Pu) : List Value := [B8 (x.a), B8 (x.b), Str (x.v)]
def noPu : Pu := ⟨0, 0, []⟩
def putsV (l : List Pu) : List (List Value) := l.map Pu.cells
theorem putsV_get {l : List Pu} {k : Nat} (h : k < l.length) : (putsV l)[k]? = some (l.getD k noPu).cells := by
  unfold putsV
  rw [List.getElem?_map, getSome noPu h]; rfl
theorem putsV_len (l : List Pu) : (putsV l).length = l.length := by simp [putsV]
theorem putsV_app (a b : List Pu) : putsV (a ++ b) = putsV a ++ putsV b := by simp [putsV]
theorem putsV_snoc (a : List Pu) (x : Pu) : putsV (a ++ [x]) = putsV a ++ [x.cells] := by simp [putsV]
theorem one_puts (a : List Pu) : (putsV a).all (fun x => x.all Value.oneCell') = true := one_map Pu.cells (fun _ => rfl) a
theorem putsV_take (l : List Pu) (k : Nat) : (putsV l).take k = putsV (l.take k) := by simp [putsV]
theorem putsV_drop (l : List Pu) (k : Nat) : (putsV l).drop k = putsV (l.drop k) := by simp [putsV]
theorem putsV_set (l : List Pu) (k : Nat) (x : Pu) : (putsV l).set k x.cells = putsV (l.set k x) := by simp [putsV, List.map_set]

theorem both_ct (F : Hp) (A0 : Option Addr) (n0 c0 : Nat) (l0 : List Pu) (sl0 : Sl F 3 A0 n0 c0 (putsV l0)) : Ct Tryd.prog 47 [.slice A0 n0 c0] [F] (fun x : List Pr × List Sm.PR × Option Addr × Nat × Hp × Nat × Hp => .tuple #[.slice x.2.2.1 x.1.length x.2.2.2.1, Ptr x.2.2.2.2.2.1]) (fun x => Pairs x.1 x.2.1 ∧ x.1.length ≤ 12 ∧ Row x.2.2.2.2.1 84 2 x.2.2.1 x.1.length x.2.2.2.1 (prsV x.1) ∧ TreeS x.2.2.2.2.2.2 x.2.2.2.2.2.1 x.2.1) (fun x => [F, x.2.2.2.2.1, x.2.2.2.2.2.2]) := by
  have hn0 : l0.length = n0 := by have := sl0.1; simpa [putsV] using this
  refine Ct.walk Tryd.func47 rfl Tryd.ntmps47 rfl (fun w0 hw0 => ?_)
  change J _ [(0, _)] _ _ _
  refine J.seq (fun K1 hK1 => ?_)
  refine J.region ?_
  refine J.y (op_assign rfl rfl) rfl rfl rfl ?_
  refine J.y (op_assign rfl rfl) rfl rfl rfl ?_
  refine J.nil ?_
  refine J.then_n (J.k hK1 ?_)
  refine J.keepE [(0, _)] ⟨rfl, trivial⟩ ?_
  refine J.seq (fun K2 hK2 => ?_)
  refine J.region ?_
  refine J.y (op_assign rfl rfl) rfl rfl rfl ?_
  refine J.nil ?_
  refine J.then_n (J.k hK2 ?_)
  refine J.keepE [(0, _), (4, _)] ⟨rfl, rfl, trivial⟩ ?_
  refine J.seq (fun K3 hK3 => ?_)
  refine J.region ?_
  refine J.e (op_call rfl rfl ent60 (Ct.use (new := fun x : Nat × Hp => [x.2]) (fun F' hF => Ct.swap2 (tnew_ct F' )))) rfl rfl rfl ?_
  rintro ⟨g8, m8⟩ h8
  try dsimp only at h8
  change J _ ((8, Ptr g8) :: _) _ [F, m8] _
  refine J.y (op_assign rfl rfl) rfl rfl rfl ?_
  refine J.nil ?_
  refine J.then_n (J.k hK3 ?_)
  refine J.keepE [(0, _), (4, _), (5, _)] ⟨rfl, rfl, rfl, trivial⟩ ?_
  refine J.cut (X := List Pr × List Sm.PR × Option Addr × Nat × Hp × Hp) (fun ζ => [(4, .slice ζ.2.2.1 ζ.1.length ζ.2.2.2.1), (5, Ptr g8)]) (fun ζ => [F, ζ.2.2.2.2.1, ζ.2.2.2.2.2]) (fun ζ => Pairs ζ.1 ζ.2.1 ∧ ζ.1.length ≤ 12 ∧ Row ζ.2.2.2.2.1 84 2 ζ.2.2.1 ζ.1.length ζ.2.2.2.1 (prsV ζ.1) ∧ TreeS ζ.2.2.2.2.2 g8 ζ.2.1) (fun K4 hK4 => ?_) ?_
  ·
    refine J.seq (fun K5 hK5 => ?_)
    refine J.region ?_
    refine J.y (op_assign rfl rfl) rfl rfl rfl ?_
    refine J.nil ?_
    refine J.then_n (J.k hK5 ?_)
    refine J.keepE [(0, _), (4, _), (5, _), (6, _)] ⟨rfl, rfl, rfl, rfl, trivial⟩ ?_
    refine J.block ?_
    refine J.loop (X := Nat × List Pr × List Sm.PR × Option Addr × Nat × Hp × Hp) (fun ζ => [(0, .slice A0 n0 c0), (4, .slice ζ.2.2.2.1 ζ.2.1.length ζ.2.2.2.2.1), (5, Ptr g8), (6, I ((ζ.1 : Nat) : Int))]) (fun ζ => [F, ζ.2.2.2.2.2.1, ζ.2.2.2.2.2.2]) (fun ζ => Pairs ζ.2.1 ζ.2.2.1 ∧ ζ.1 ≤ 12 ∧ ζ.2.1.length ≤ ζ.1 ∧ Row ζ.2.2.2.2.2.1 84 2 ζ.2.2.2.1 ζ.2.1.length ζ.2.2.2.2.1 (prsV ζ.2.1) ∧ TreeS ζ.2.2.2.2.2.2 g8 ζ.2.2.1) (fun ζ => 12 - ζ.1) (0, [], [], none, 0, (fun _ => none), m8) (⟨Pairs.nil, Nat.zero_le _, Nat.zero_le _, RowQ.nil, h8⟩) ⟨rfl, rfl, rfl, rfl, trivial⟩ (fun _ h => h.empty.pick [0, 2, 1] (by decide)) ?_
    rintro ⟨i, m, kv, A, c, mr, mo⟩ ⟨hp, hi, hm, hr, ht⟩ I0 hI0
    dsimp only at hp hi hm hr ht ⊢
    have hln := hp.len
    refine J.seq (fun K6 hK6 => ?_)
    refine J.seq (fun K7 hK7 => ?_)
    refine J.region ?_
    refine J.y (op_move rfl rfl) rfl rfl rfl ?_
    refine J.y (op_move rfl rfl) rfl rfl rfl ?_
    refine J.y (op_len Tryd.underlying74 rfl rfl) rfl rfl rfl ?_
    refine J.y (op_lss rfl rfl rfl) rfl rfl rfl ?_
    refine J.y (op_move rfl rfl) rfl rfl rfl ?_
    refine J.split (d := 13) rfl (fun h13 => ?_) (fun h13 => ?_)
    ·
      refine J.yg (Wan.is rfl rfl rfl rfl rfl) (op_move rfl rfl) rfl rfl ?_
      refine J.yg (Wan.is rfl rfl rfl rfl rfl) (op_lss rfl rfl rfl) rfl rfl ?_
      refine J.y (op_pickT rfl rfl rfl) rfl rfl rfl ?_
      refine J.nil ?_
      refine J.then_n (J.k hK7 ?_)
      refine J.keepE [(0, _), (4, _), (5, _), (6, _), (16, _)] ⟨rfl, rfl, rfl, rfl, rfl, trivial⟩ ?_
      refine J.ite rfl (fun h16 => ?_) (fun h16 => ?_)
      ·
        refine J.skip ?_
        refine J.then_n (J.k hK6 ?_)
        refine J.keepE [(0, _), (4, _), (5, _), (6, _)] ⟨rfl, rfl, rfl, rfl, trivial⟩ ?_
        refine J.seq (fun K8 hK8 => ?_)
        refine J.block ?_
        refine J.seq (fun K9 hK9 => ?_)
        refine J.draw [F, mr, mo] [] (.y 0 (.y 1 (.y 2 (.y 3 (.y 4 (.y 5 (.y 6 (.y 7 (.y 8 (.y 9 (.y 10 (.y 11 (.y 12 (.y 13 .nil)))))))))))))) Tryd.wide (by decide +kernel) (by simp) ?_
        refine J.dy rfl (op_move rfl rfl) rfl rfl rfl rfl ?_
        refine J.dy rfl (op_move rfl rfl) rfl rfl rfl rfl ?_
        refine J.dy rfl (op_indexAddr (i := i) rfl rfl rfl Tryd.underlying74 Tryd.sizeOf149 sl0 (by first | omega | (simp only [List.length_append, List.length_cons, List.length_nil, List.length_take, List.length_drop] at *; omega))) rfl rfl rfl rfl ?_
        refine J.dy rfl (op_fieldAddrE (off := 2) rfl rfl Tryd.underlying149 rfl Tryd.sizeOf9 sl0 (by first | omega | (simp only [List.length_append, List.length_cons, List.length_nil, List.length_take, List.length_drop] at *; omega)) rfl) rfl rfl rfl rfl ?_
        refine J.dy rfl (op_load (v := Str ((l0.getD i noPu).v)) rfl rfl Tryd.isAgg9 (m := F) (by simp) (sl0.part (putsV_get (by first | omega | (simp only [List.length_append, List.length_cons, List.length_nil, List.length_take, List.length_drop] at *; omega))) 2 1)) rfl rfl rfl rfl ?_
        refine J.dy rfl (op_move rfl rfl) rfl rfl rfl rfl ?_
        refine J.dy rfl (op_move rfl rfl) rfl rfl rfl rfl ?_
        refine J.dy rfl (op_indexAddr (i := i) rfl rfl rfl Tryd.underlying74 Tryd.sizeOf149 sl0 (by first | omega | (simp only [List.length_append, List.length_cons, List.length_nil, List.length_take, List.length_drop] at *; omega))) rfl rfl rfl rfl ?_
        refine J.dy rfl (op_fieldAddrE (off := 2) rfl rfl Tryd.underlying149 rfl Tryd.sizeOf9 sl0 (by first | omega | (simp only [List.length_append, List.length_cons, List.length_nil, List.length_take, List.length_drop] at *; omega)) rfl) rfl rfl rfl rfl ?_
        refine J.dy rfl (op_load (v := Str ((l0.getD i noPu).v)) rfl rfl Tryd.isAgg9 (m := F) (by simp) (sl0.part (putsV_get (by first | omega | (simp only [List.length_append, List.length_cons, List.length_nil, List.length_take, List.length_drop] at *; omega))) 2 1)) rfl rfl rfl rfl ?_
        refine J.dy rfl (op_slen Tryd.underlying9 rfl rfl) rfl rfl rfl rfl ?_
        refine J.dy rfl ((op_min rfl rfl rfl).as (v' := I ((min (((l0.getD i noPu).v).length) 20 : Nat) : Int)) (congrArg I (by omega))) rfl rfl rfl rfl ?_
        refine J.dy rfl ((op_sslice (a := (l0.getD i noPu).v) (l := 0) (h := (min (((l0.getD i noPu).v).length) 20)) Tryd.underlying9 rfl rfl rfl rfl ⟨by first | omega | (simp only [List.length_append, List.length_cons, List.length_nil, List.length_take, List.length_drop] at *; omega), by first | omega | (simp only [List.length_append, List.length_cons, List.length_nil, List.length_take, List.length_drop] at *; omega)⟩).as (v' := Str (((l0.getD i noPu).v).take (min (((l0.getD i noPu).v).length) 20))) (congrArg Str List.drop_zero)) rfl rfl rfl rfl ?_
        refine J.dy rfl (op_assign rfl rfl) rfl rfl rfl rfl ?_
        refine J.dnil ?_
        refine J.then_n (J.k hK9 ?_)
        refine J.keepE [(0, _), (4, _), (5, _), (6, _), (7, _)] ⟨rfl, rfl, rfl, rfl, rfl, trivial⟩ ?_
        refine J.seq (fun K10 hK10 => ?_)
        obtain ⟨v, hv⟩ : ∃ v, v = ((l0.getD i noPu).v.take (min (l0.getD i noPu).v.length 20)) := ⟨_, rfl⟩
        rw [← hv]
        have hvl : v.length ≤ 20 := by rw [hv, List.length_take]; omega
        refine J.draw [F] [] (.y 0 (.y 1 (.y 2 (.y 3 (.y 4 (.y 5 (.y 6 (.y 7 (.y 8 (.y 9 (.y 10 (.y 12 (.e 11 (.e 13 .nil)))))))))))))) Tryd.wide (by decide +kernel) (by simp) ?_
        refine J.dy rfl (op_move rfl rfl) rfl rfl rfl rfl ?_
        refine J.dy rfl (op_move rfl rfl) rfl rfl rfl rfl ?_
        refine J.dy rfl (op_move rfl rfl) rfl rfl rfl rfl ?_
        refine J.dy rfl (op_indexAddr (i := i) rfl rfl rfl Tryd.underlying74 Tryd.sizeOf149 sl0 (by first | omega | (simp only [List.length_append, List.length_cons, List.length_nil, List.length_take, List.length_drop] at *; omega))) rfl rfl rfl rfl ?_
        refine J.dy rfl (op_fieldAddrE (off := 0) rfl rfl Tryd.underlying149 rfl Tryd.sizeOf5 sl0 (by first | omega | (simp only [List.length_append, List.length_cons, List.length_nil, List.length_take, List.length_drop] at *; omega)) rfl) rfl rfl rfl rfl ?_
        refine J.dy rfl (op_load (v := B8 ((l0.getD i noPu).a)) rfl rfl Tryd.isAgg5 (m := F) (by simp) (sl0.part (putsV_get (by first | omega | (simp only [List.length_append, List.length_cons, List.length_nil, List.length_take, List.length_drop] at *; omega))) 0 1)) rfl rfl rfl rfl ?_
        refine J.dy rfl (op_move rfl rfl) rfl rfl rfl rfl ?_
        refine J.dy rfl (op_move rfl rfl) rfl rfl rfl rfl ?_
        refine J.dy rfl (op_indexAddr (i := i) rfl rfl rfl Tryd.underlying74 Tryd.sizeOf149 sl0 (by first | omega | (simp only [List.length_append, List.length_cons, List.length_nil, List.length_take, List.length_drop] at *; omega))) rfl rfl rfl rfl ?_
        refine J.dy rfl (op_fieldAddrE (off := 1) rfl rfl Tryd.underlying149 rfl Tryd.sizeOf5 sl0 (by first | omega | (simp only [List.length_append, List.length_cons, List.length_nil, List.length_take, List.length_drop] at *; omega)) rfl) rfl rfl rfl rfl ?_
        refine J.dy rfl (op_load (v := B8 ((l0.getD i noPu).b)) rfl rfl Tryd.isAgg5 (m := F) (by simp) (sl0.part (putsV_get (by first | omega | (simp only [List.length_append, List.length_cons, List.length_nil, List.length_take, List.length_drop] at *; omega))) 1 1)) rfl rfl rfl rfl ?_
        refine J.dy rfl (op_move rfl rfl) rfl rfl rfl rfl ?_
        refine J.de rfl (op_call rfl rfl ent53 (Ct.use0 (fun F' hF => key13_ct F' ((l0.getD i noPu).a) ((l0.getD i noPu).b)))) rfl rfl rfl (by simp) ?_
        intro g43 _
        refine J.de rfl (op_call rfl rfl ent61 (Ct.use1 2 (m' := fun x : Hp => x) (new := fun _ => []) rfl (fun F' hF => tput_ct F' mo g8 kv ht (keyK ((l0.getD i noPu).a) ((l0.getD i noPu).b)) v (by first | omega | rfl | assumption)))) rfl rfl rfl (by simp) ?_
        rintro m45 h45
        change J _ ((45, I ((0 : Nat) : Int)) :: _) _ [F, mr, m45] _
        refine J.dnil ?_
        refine J.then_n (J.k hK10 ?_)
        refine J.keepE [(0, _), (4, _), (5, _), (6, _), (7, _)] ⟨rfl, rfl, rfl, rfl, rfl, trivial⟩ ?_
        refine J.draw [F] [] (.y 0 (.y 1 (.y 2 (.y 3 (.y 4 (.y 5 (.y 6 (.y 7 (.y 8 (.y 9 (.y 10 (.y 12 (.e 11 (.y 13 (.e 14 (.y 15 .nil)))))))))))))))) Tryd.wide (by decide +kernel) (by simp) ?_
        refine J.dy rfl (op_move rfl rfl) rfl rfl rfl rfl ?_
        refine J.dy rfl (op_move rfl rfl) rfl rfl rfl rfl ?_
        refine J.dy rfl (op_move rfl rfl) rfl rfl rfl rfl ?_
        refine J.dy rfl (op_indexAddr (i := i) rfl rfl rfl Tryd.underlying74 Tryd.sizeOf149 sl0 (by first | omega | (simp only [List.length_append, List.length_cons, List.length_nil, List.length_take, List.length_drop] at *; omega))) rfl rfl rfl rfl ?_
        refine J.dy rfl (op_fieldAddrE (off := 0) rfl rfl Tryd.underlying149 rfl Tryd.sizeOf5 sl0 (by first | omega | (simp only [List.length_append, List.length_cons, List.length_nil, List.length_take, List.length_drop] at *; omega)) rfl) rfl rfl rfl rfl ?_
        refine J.dy rfl (op_load (v := B8 ((l0.getD i noPu).a)) rfl rfl Tryd.isAgg5 (m := F) (by simp) (sl0.part (putsV_get (by first | omega | (simp only [List.length_append, List.length_cons, List.length_nil, List.length_take, List.length_drop] at *; omega))) 0 1)) rfl rfl rfl rfl ?_
        refine J.dy rfl (op_move rfl rfl) rfl rfl rfl rfl ?_
        refine J.dy rfl (op_move rfl rfl) rfl rfl rfl rfl ?_
        refine J.dy rfl (op_indexAddr (i := i) rfl rfl rfl Tryd.underlying74 Tryd.sizeOf149 sl0 (by first | omega | (simp only [List.length_append, List.length_cons, List.length_nil, List.length_take, List.length_drop] at *; omega))) rfl rfl rfl rfl ?_
        refine J.dy rfl (op_fieldAddrE (off := 1) rfl rfl Tryd.underlying149 rfl Tryd.sizeOf5 sl0 (by first | omega | (simp only [List.length_append, List.length_cons, List.length_nil, List.length_take, List.length_drop] at *; omega)) rfl) rfl rfl rfl rfl ?_
        refine J.dy rfl (op_load (v := B8 ((l0.getD i noPu).b)) rfl rfl Tryd.isAgg5 (m := F) (by simp) (sl0.part (putsV_get (by first | omega | (simp only [List.length_append, List.length_cons, List.length_nil, List.length_take, List.length_drop] at *; omega))) 1 1)) rfl rfl rfl rfl ?_
        refine J.dy rfl (op_move rfl rfl) rfl rfl rfl rfl ?_
        refine J.de rfl (op_call rfl rfl ent53 (Ct.use0 (fun F' hF => key13_ct F' ((l0.getD i noPu).a) ((l0.getD i noPu).b)))) rfl rfl rfl (by simp) ?_
        intro g57 _
        refine J.dy rfl (op_buildStruct (l := [(0, .tmp 57), (1, .tmp 58)]) (vs := [Str (keyK ((l0.getD i noPu).a) ((l0.getD i noPu).b)), Str (v)]) (places := [(0, 1), (1, 1)]) (r := [Str (keyK ((l0.getD i noPu).a) ((l0.getD i noPu).b)), Str (v)]) rfl rfl rfl Tryd.underlying84 Tryd.zeroValue84 (fun _ => by kernel_rfl) rfl) rfl rfl rfl rfl ?_
        refine J.de rfl (op_call rfl rfl ent63 (Ct.use (new := fun x : Option Addr × Nat × Hp => [x.2.2]) (fun F' hF => rset_ct F' A m.length c m (hr.sl.mono (hF mr (by simp))) (by omega) (keyK ((l0.getD i noPu).a) ((l0.getD i noPu).b)) v))) rfl rfl rfl (by simp) ?_
        rintro ⟨A60, c60, m60⟩ h60
        try dsimp only at h60
        change J _ ((60, .slice A60 (setR m ⟨(keyK ((l0.getD i noPu).a) ((l0.getD i noPu).b)), v⟩).length c60) :: _) _ [F, mr, m45, m60] _
        refine J.dy rfl (op_assign rfl rfl) rfl rfl rfl rfl ?_
        refine J.dnil ?_
        refine J.blk_n ?_
        refine J.then_n (J.k hK8 ?_)
        refine J.keepE [(0, _), (4, _), (5, _), (6, _)] ⟨rfl, rfl, rfl, rfl, trivial⟩ ?_
        refine J.region ?_
        refine J.y (op_move rfl rfl) rfl rfl rfl ?_
        refine J.y ((op_add rfl rfl rfl (by first | omega | (simp only [List.length_append, List.length_cons, List.length_nil, List.length_take, List.length_drop] at *; omega))).as (v' := I ((i + 1 : Nat) : Int)) (congrArg I (by omega))) rfl rfl rfl ?_
        refine J.y (op_assign rfl rfl) rfl rfl rfl ?_
        refine J.nil ?_
        refine J.then_n ?_
        exact J.kk (i + 1, setR m ⟨(keyK ((l0.getD i noPu).a) ((l0.getD i noPu).b)), v⟩, Sm.putP kv (keyK (l0.getD i noPu).a (l0.getD i noPu).b) v, A60, c60, m60, m45) (fun η (hη : _ ∧ 12 - η.1 < 12 - i) => hI0 η hη.1 hη.2) ⟨⟨hp.set (keyK_len _ _) (by omega) (by omega), by dsimp only; omega, by have h1 := setR_len m ⟨(keyK (l0.getD i noPu).a (l0.getD i noPu).b), v⟩; have h2 := filtR_len (keyK (l0.getD i noPu).a (l0.getD i noPu).b) m; dsimp only at h1 ⊢; omega, h60, h45⟩, by first | omega | (dsimp only; omega)⟩ ⟨rfl, rfl, rfl, rfl, trivial⟩ (fun _ h => h.pick [0, 3, 2] (by decide))
      ·
        refine J.exit ?_
        refine J.then_x ?_
        refine J.then_x ?_
        refine J.blk_eq ?_
        refine J.then_n ?_
        exact J.kk (m, kv, A, c, mr, mo) hK4 (⟨hp, by dsimp only; omega, hr, ht⟩) ⟨rfl, rfl, trivial⟩ (fun _ h => h)
    ·
      refine J.no (Wan.is rfl rfl rfl rfl rfl) rfl rfl ?_
      refine J.no (Wan.is rfl rfl rfl rfl rfl) rfl rfl ?_
      refine J.y (op_pickF rfl rfl rfl) rfl rfl rfl ?_
      refine J.nil ?_
      refine J.then_n (J.k hK7 ?_)
      refine J.keepE [(0, _), (4, _), (5, _), (6, _), (16, _)] ⟨rfl, rfl, rfl, rfl, rfl, trivial⟩ ?_
      refine J.condF rfl rfl ?_
      refine J.exit ?_
      refine J.then_x ?_
      refine J.then_x ?_
      refine J.blk_eq ?_
      refine J.then_n ?_
      exact J.kk (m, kv, A, c, mr, mo) hK4 (⟨hp, by dsimp only; omega, hr, ht⟩) ⟨rfl, rfl, trivial⟩ (fun _ h => h)
  rintro ⟨m, kv, A, c, mr, mo⟩ ⟨hp, hm, hr, ht⟩
  dsimp only at hp hm hr ht ⊢
  refine J.seq (fun K11 hK11 => ?_)
  refine J.region ?_
  refine J.y (op_move rfl rfl) rfl rfl rfl ?_
  refine J.y (op_move rfl rfl) rfl rfl rfl ?_
  refine J.y (op_assign rfl rfl) rfl rfl rfl ?_
  refine J.y (op_assign rfl rfl) rfl rfl rfl ?_
  refine J.nil ?_
  refine J.then_n (J.k hK11 ?_)
  refine J.keepE [(2, _), (3, _)] ⟨rfl, rfl, trivial⟩ ?_
  refine J.ret ?_
  exact J.done hw0 (fun _ _ h => h) (res2 rfl rfl rfl) (retOk (m, kv, A, c, mr, g8, mo) rfl ⟨hp, hm, hr, ht⟩ [0, 1, 2] rfl (by decide))

theorem fine_one (k v : List UInt8) (hk : k.length = 16) (hv : v.length ≤ 1000000) : Fine [(k, v)] := ⟨by unfold Sm.Once; simp, by simpa using hk, by simpa using hv, by simp⟩
theorem sp13 : Sm.putP [] (keyK 1 2) [118] = [(keyK 1 2, [118])] := rfl
theorem sp13g : Sm.getP [(keyK 1 2, [118])] (keyK 1 2) = some [118] := by rw [Sm.getP, if_pos rfl]

theorem speaks13_ct (F : Hp) (hK : Cells F ⟨4, 0, none⟩ (Sha.K.map W32)) : Ct Tryd.prog 46 [] [F] (fun _ : Unit => .bool true) (fun _ => True) (fun _ => [F]) := by
  refine Ct.walk Tryd.func46 rfl Tryd.ntmps46 rfl (fun w0 hw0 => ?_)
  change J _ [] _ _ _
  refine J.seq (fun K1 hK1 => ?_)
  refine J.region ?_
  refine J.y (op_assign rfl rfl) rfl rfl rfl ?_
  refine J.nil ?_
  refine J.then_n (J.k hK1 ?_)
  refine J.keepE [] trivial ?_
  refine J.seq (fun K2 hK2 => ?_)
  refine J.region ?_
  refine J.e (op_call rfl rfl ent60 (Ct.use (new := fun x : Nat × Hp => [x.2]) (fun F' hF => Ct.swap2 (tnew_ct F' )))) rfl rfl rfl ?_
  rintro ⟨g5, m5⟩ h5
  try dsimp only at h5
  change J _ ((5, Ptr g5) :: _) _ [F, m5] _
  refine J.y (op_assign rfl rfl) rfl rfl rfl ?_
  refine J.nil ?_
  refine J.then_n (J.k hK2 ?_)
  refine J.keepE [(1, _)] ⟨rfl, trivial⟩ ?_
  refine J.seq (fun K3 hK3 => ?_)
  refine J.region ?_
  refine J.y (op_move rfl rfl) rfl rfl rfl ?_
  refine J.e (op_call rfl rfl ent53 (Ct.use0 (fun F' hF => key13_ct F' 1 2))) rfl rfl rfl ?_
  intro g7 _
  refine J.e (op_call rfl rfl ent61 (Ct.use1 1 (m' := fun x : Hp => x) (new := fun _ => []) rfl (fun F' hF => tput_ct F' m5 g5 ([]) h5 (keyK 1 2) ([118]) (by first | omega | rfl | assumption)))) rfl rfl rfl ?_
  rintro m8 h8
  change J _ ((8, I ((0 : Nat) : Int)) :: _) _ [F, m8] _
  refine J.y (op_assign rfl rfl) rfl rfl rfl ?_
  refine J.nil ?_
  refine J.then_n (J.k hK3 ?_)
  refine J.keepE [(1, _), (2, _)] ⟨rfl, rfl, trivial⟩ ?_
  refine J.seq (fun K4 hK4 => ?_)
  rw [sp13] at h8
  have hfi := fine_one (keyK 1 2) [118] rfl (by decide)
  refine J.region ?_
  refine J.y (op_move rfl rfl) rfl rfl rfl ?_
  refine J.e (op_call rfl rfl ent53 (Ct.use0 (fun F' hF => key13_ct F' 1 2))) rfl rfl rfl ?_
  intro g11 _
  refine J.e (op_call rfl rfl ent52 (Ct.use0 (fun F' hF => tget_ct F' g5 ([(keyK 1 2, [118])]) (h8.at.mono (hF m8 (by simp))) (keyK 1 2)))) rfl rfl rfl ?_
  intro g12 _
  refine J.y (op_move rfl rfl) rfl rfl rfl ?_
  refine J.y (op_extract (v := Str ((Sm.getP ([(keyK 1 2, [118])]) (keyK 1 2)).getD [])) rfl rfl rfl) rfl rfl rfl ?_
  refine J.y (op_extract (v := .bool ((Sm.getP ([(keyK 1 2, [118])]) (keyK 1 2)).isSome)) rfl rfl rfl) rfl rfl rfl ?_
  refine J.y (op_assign rfl rfl) rfl rfl rfl ?_
  refine J.y (op_assign rfl rfl) rfl rfl rfl ?_
  refine J.nil ?_
  refine J.then_n (J.k hK4 ?_)
  refine J.keepE [(1, _), (2, _), (3, _), (4, _)] ⟨rfl, rfl, rfl, rfl, trivial⟩ ?_
  refine J.seq (fun K5 hK5 => ?_)
  refine J.region ?_
  refine J.y (op_move rfl rfl) rfl rfl rfl ?_
  refine J.y ((op_eql rfl rfl rfl).as (v' := .bool true) (congrArg Value.bool (decide_eq_true (rfl)))) rfl rfl rfl ?_
  refine J.y (op_move rfl rfl) rfl rfl rfl ?_
  refine J.yg (Wan.is rfl rfl rfl rfl rfl) ((op_move rfl rfl).as (v' := .bool true) (by rw [sp13g]; rfl)) rfl rfl ?_
  refine J.y (op_pickT rfl rfl rfl) rfl rfl rfl ?_
  refine J.y (op_move rfl rfl) rfl rfl rfl ?_
  refine J.yg (Wan.is rfl rfl rfl rfl rfl) (op_move rfl rfl) rfl rfl ?_
  refine J.yg (Wan.is rfl rfl rfl rfl rfl) ((op_seq rfl rfl rfl).as (v' := .bool true) (congrArg Value.bool (decide_eq_true (by rw [sp13g]; rfl)))) rfl rfl ?_
  refine J.y (op_pickT rfl rfl rfl) rfl rfl rfl ?_
  refine J.y (op_move rfl rfl) rfl rfl rfl ?_
  refine J.yg (Wan.is rfl rfl rfl rfl rfl) (op_move rfl rfl) rfl rfl ?_
  refine J.eg (Wan.is rfl rfl rfl rfl rfl) (op_call rfl rfl ent48 (Ct.use0 (fun F' hF => troot_ct F' (hK.mono (hF F (by simp))) g5 ([(keyK 1 2, [118])]) (h8.at.mono (hF m8 (by simp))) (by assumption)))) rfl rfl ?_
  intro g26 _
  refine J.eg (Wan.is rfl rfl rfl rfl rfl) (op_call rfl rfl ent53 (Ct.use0 (fun F' hF => key13_ct F' 1 2))) rfl rfl ?_
  intro g27 _
  refine J.eg (Wan.is rfl rfl rfl rfl rfl) (op_call rfl rfl ent103 (Ct.use0 (fun F' hF => sLeaf_ct F' (hK.mono (hF F (by simp))) (keyK 1 2) ([118]) (by first | omega | exact Nat.le_of_ble_eq_true rfl) (by first | omega | exact Nat.le_of_ble_eq_true rfl)))) rfl rfl ?_
  intro g28 _
  refine J.yg (Wan.is rfl rfl rfl rfl rfl) ((op_seq rfl rfl rfl).as (v' := .bool true) (congrArg Value.bool (decide_eq_true (Sm.nd_one 128 _)))) rfl rfl ?_
  refine J.y (op_pickT rfl rfl rfl) rfl rfl rfl ?_
  refine J.y (op_move rfl rfl) rfl rfl rfl ?_
  refine J.yg (Wan.is rfl rfl rfl rfl rfl) (op_move rfl rfl) rfl rfl ?_
  refine J.eg (Wan.is rfl rfl rfl rfl rfl) (op_call rfl rfl ent50 (Ct.use0 (fun F' hF => tlen_ct F' g5 ([(keyK 1 2, [118])]) (h8.at.mono (hF m8 (by simp)))))) rfl rfl ?_
  intro g33 _
  refine J.yg (Wan.is rfl rfl rfl rfl rfl) ((op_eql rfl rfl rfl).as (v' := .bool true) (congrArg Value.bool (decide_eq_true (rfl)))) rfl rfl ?_
  refine J.y (op_pickT rfl rfl rfl) rfl rfl rfl ?_
  refine J.y (op_assign rfl rfl) rfl rfl rfl ?_
  refine J.nil ?_
  refine J.then_n (J.k hK5 ?_)
  refine J.keepE [(0, _)] ⟨rfl, trivial⟩ ?_
  refine J.ret ?_
  exact J.done hw0 (fun _ _ h => h) (res1 rfl rfl) (retOk () rfl trivial [0] rfl (by decide))

end Go.Proofs.YtpcffgkmpmcobaaDoor
