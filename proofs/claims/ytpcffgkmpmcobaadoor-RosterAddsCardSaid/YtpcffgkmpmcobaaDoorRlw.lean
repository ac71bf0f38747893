/- A part of the proof: contracts of functions of the program, each for every state of the heaps that it names. -/
import Derived.Test.YtpcffgkmpmcobaaDoorRsp
import Derived.Test.YtpcffgkmpmcobaaDoorFwR
set_option linter.unusedSimpArgs false
set_option linter.unusedVariables false
namespace Go.Proofs.YtpcffgkmpmcobaaDoor
open Go Go.Fw
set_option maxRecDepth 100000
set_option maxHeartbeats 1000000
theorem ent25 : Enters Tryd.prog 25 := Enters.of Tryd.func25 rfl (by kernel_rfl)
theorem ent29 : Enters Tryd.prog 29 := Enters.of Tryd.func29 rfl (by kernel_rfl)
theorem ent31 : Enters Tryd.prog 31 := Enters.of Tryd.func31 rfl (by kernel_rfl)
theorem el43 : Elem Tryd.prog 43 [Str [], .int .u8 0, .int .i64 0] 32 := Elem.of (by kernel_rfl) rfl

theorem rosterAdds_ct (F : Hp) (hA : Cells F ⟨0, 0, none⟩ alphaV) (hT : TabsF F) (A0 : Option Addr) (n0 c0 : Nat) (l0 : List Lau) (sl0 : Sl F 3 A0 n0 c0 (lausV l0)) (at1 : Int) : Ct Tryd.prog 7 [.slice A0 n0 c0, I (at1)] [F] (fun _ : Unit => .bool true) (fun _ => True) (fun _ => [F]) := by
  have hn0 : l0.length = n0 := by have := sl0.1; simpa [lausV] using this
  refine Ct.walk Tryd.func7 rfl Tryd.ntmps7 rfl (fun w0 hw0 => ?_)
  change J _ [(0, _), (1, _)] _ _ _
  refine J.seq (fun K1 hK1 => ?_)
  refine J.region ?_
  refine J.y (op_assign rfl rfl) rfl rfl rfl ?_
  refine J.nil ?_
  refine J.then_n (J.k hK1 ?_)
  refine J.keepE [(0, _), (1, _)] ⟨rfl, rfl, trivial⟩ ?_
  refine J.seq (fun K2 hK2 => ?_)
  refine J.seq (fun K3 hK3 => ?_)
  refine J.region ?_
  refine J.e (op_call rfl rfl ent25 (Ct.use0 (fun F' hF => speaks20_ct F' (hA.mono (hF F (by simp))) (hT.mono (hF F (by simp)))))) rfl rfl rfl ?_
  intro g15 _
  refine J.y (op_not rfl rfl) rfl rfl rfl ?_
  refine J.nil ?_
  refine J.then_n (J.k hK3 ?_)
  refine J.keepE [(0, _), (1, _), (16, _)] ⟨rfl, rfl, rfl, trivial⟩ ?_
  refine J.condF rfl rfl ?_
  refine J.skip ?_
  refine J.then_n (J.k hK2 ?_)
  refine J.keepE [(0, _), (1, _)] ⟨rfl, rfl, trivial⟩ ?_
  refine J.seq (fun K4 hK4 => ?_)
  refine J.region ?_
  refine J.e (op_call rfl rfl ent26 (Ct.use (new := fun x : Nat × Hp => [x.2]) (fun F' hF => Ct.swap2 (rnew_ct F' )))) rfl rfl rfl ?_
  rintro ⟨g17, m17⟩ h17
  try dsimp only at h17
  change J _ ((17, Ptr g17) :: _) _ [F, m17] _
  refine J.y (op_assign rfl rfl) rfl rfl rfl ?_
  refine J.nil ?_
  refine J.then_n (J.k hK4 ?_)
  refine J.keepE [(0, _), (1, _), (5, _)] ⟨rfl, rfl, rfl, trivial⟩ ?_
  refine J.seq (fun K5 hK5 => ?_)
  refine J.region ?_
  refine J.y (op_assign rfl rfl) rfl rfl rfl ?_
  refine J.nil ?_
  refine J.then_n (J.k hK5 ?_)
  refine J.keepE [(0, _), (1, _), (5, _), (6, _)] ⟨rfl, rfl, rfl, rfl, trivial⟩ ?_
  refine J.cut (X := List Lau × Option Addr × Nat × Hp × Hp) (fun ζ => [(1, I (at1)), (5, Ptr g17), (6, .slice ζ.2.1 ζ.1.length ζ.2.2.1)]) (fun ζ => [F, ζ.2.2.2.1, ζ.2.2.2.2]) (fun ζ => ζ.1.length ≤ 64 ∧ Row ζ.2.2.2.1 43 3 ζ.2.1 ζ.1.length ζ.2.2.1 (lausV ζ.1) ∧ Rost ζ.2.2.2.2 g17 (ζ.1.map toA)) (fun K6 hK6 => ?_) ?_
  ·
    refine J.seq (fun K7 hK7 => ?_)
    refine J.region ?_
    refine J.y (op_assign rfl rfl) rfl rfl rfl ?_
    refine J.nil ?_
    refine J.then_n (J.k hK7 ?_)
    refine J.keepE [(0, _), (1, _), (5, _), (6, _), (7, _)] ⟨rfl, rfl, rfl, rfl, rfl, trivial⟩ ?_
    refine J.block ?_
    refine J.loop (X := Nat × List Lau × Option Addr × Nat × Hp × Hp) (fun ζ => [(0, .slice A0 n0 c0), (1, I (at1)), (5, Ptr g17), (6, .slice ζ.2.2.1 ζ.2.1.length ζ.2.2.2.1), (7, I ((ζ.1 : Nat) : Int))]) (fun ζ => [F, ζ.2.2.2.2.1, ζ.2.2.2.2.2]) (fun ζ => ζ.1 ≤ 80 ∧ ζ.2.1.length ≤ 64 ∧ Row ζ.2.2.2.2.1 43 3 ζ.2.2.1 ζ.2.1.length ζ.2.2.2.1 (lausV ζ.2.1) ∧ Rost ζ.2.2.2.2.2 g17 (ζ.2.1.map toA)) (fun ζ => 80 - ζ.1) (0, [], none, 0, (fun _ => none), m17) (⟨Nat.zero_le _, Nat.zero_le _, RowQ.nil, h17⟩) ⟨rfl, rfl, rfl, rfl, rfl, trivial⟩ (fun _ h => h.empty.pick [0, 2, 1] (by decide)) ?_
    rintro ⟨i, m, A, c, mr, mo⟩ ⟨hi, hm, hr, hb⟩ I0 hI0
    dsimp only at hi hm hr hb ⊢
    refine J.seq (fun K8 hK8 => ?_)
    refine J.seq (fun K9 hK9 => ?_)
    refine J.region ?_
    refine J.y (op_move rfl rfl) rfl rfl rfl ?_
    refine J.y (op_move rfl rfl) rfl rfl rfl ?_
    refine J.y (op_len Tryd.underlying39 rfl rfl) rfl rfl rfl ?_
    refine J.y (op_lss rfl rfl rfl) rfl rfl rfl ?_
    refine J.y (op_move rfl rfl) rfl rfl rfl ?_
    refine J.split (d := 22) rfl (fun h22 => ?_) (fun h22 => ?_)
    ·
      refine J.yg (Wan.is rfl rfl rfl rfl rfl) (op_move rfl rfl) rfl rfl ?_
      refine J.yg (Wan.is rfl rfl rfl rfl rfl) (op_lss rfl rfl rfl) rfl rfl ?_
      refine J.y (op_pickT rfl rfl rfl) rfl rfl rfl ?_
      refine J.nil ?_
      refine J.then_n (J.k hK9 ?_)
      refine J.keepE [(0, _), (1, _), (5, _), (6, _), (7, _), (25, _)] ⟨rfl, rfl, rfl, rfl, rfl, rfl, trivial⟩ ?_
      refine J.ite rfl (fun h25 => ?_) (fun h25 => ?_)
      ·
        refine J.skip ?_
        refine J.then_n (J.k hK8 ?_)
        refine J.keepE [(0, _), (1, _), (5, _), (6, _), (7, _)] ⟨rfl, rfl, rfl, rfl, rfl, trivial⟩ ?_
        refine J.seq (fun K10 hK10 => ?_)
        refine J.block ?_
        refine J.seq (fun K11 hK11 => ?_)
        refine J.region ?_
        refine J.y (op_move rfl rfl) rfl rfl rfl ?_
        refine J.y (op_move rfl rfl) rfl rfl rfl ?_
        refine J.y (op_indexAddr (i := i) rfl rfl rfl Tryd.underlying39 Tryd.sizeOf43 sl0 (by first | omega | (simp only [List.length_append, List.length_cons, List.length_nil, List.length_take, List.length_drop] at *; omega))) rfl rfl rfl ?_
        refine J.y (op_loadA (vs := [Str ((l0.getD i noLau).nm), B8 ((l0.getD i noLau).key), I ((l0.getD i noLau).ht)]) rfl rfl Tryd.isAgg43 Tryd.sizeOf43 (m := F) (by simp) (sl0.elem (lausV_get (by first | omega | (simp only [List.length_append, List.length_cons, List.length_nil, List.length_take, List.length_drop] at *; omega)))) rfl) rfl rfl rfl ?_
        refine J.e (op_alloc (l := [Str [], .int .u8 0, I 0]) rfl Tryd.zeroValue43 rfl) rfl rfl rfl ?_
        intro g8 _
        change J _ _ _ [F, mr, mo, blk g8 [Str [], .int .u8 0, I 0] 43] _
        refine J.s (op_storeAll (i := 3) (l := [Str [], .int .u8 0, I 0]) (vs := [Str ((l0.getD i noLau).nm), B8 ((l0.getD i noLau).key), I ((l0.getD i noLau).ht)]) rfl rfl rfl rfl rfl Tryd.sizeOf43 rfl rfl) rfl rfl (fun _ _ => ?_)
        change J _ _ _ [F, mr, mo, blk g8 [Str ((l0.getD i noLau).nm), B8 ((l0.getD i noLau).key), I ((l0.getD i noLau).ht)] 43] _
        refine J.nil ?_
        refine J.then_n (J.k hK11 ?_)
        refine J.keepE [(0, _), (1, _), (5, _), (6, _), (7, _), (8, _)] ⟨rfl, rfl, rfl, rfl, rfl, rfl, trivial⟩ ?_
        refine J.seq (fun K12 hK12 => ?_)
        refine J.region ?_
        refine J.y (op_fieldAddr (j := 0) rfl rfl Tryd.underlying43 rfl Tryd.sizeOf9 rfl) rfl rfl rfl ?_
        refine J.y (op_loadB 3 (v := Str ((l0.getD i noLau).nm)) rfl rfl rfl Tryd.isAgg9 rfl) rfl rfl rfl ?_
        refine J.y (op_fieldAddr (j := 0) rfl rfl Tryd.underlying43 rfl Tryd.sizeOf9 rfl) rfl rfl rfl ?_
        refine J.y (op_loadB 3 (v := Str ((l0.getD i noLau).nm)) rfl rfl rfl Tryd.isAgg9 rfl) rfl rfl rfl ?_
        refine J.y (op_slen Tryd.underlying9 rfl rfl) rfl rfl rfl ?_
        refine J.y ((op_min rfl rfl rfl).as (v' := I ((min (((l0.getD i noLau).nm).length) 70 : Nat) : Int)) (congrArg I (by omega))) rfl rfl rfl ?_
        refine J.y ((op_sslice (a := (l0.getD i noLau).nm) (l := 0) (h := (min (((l0.getD i noLau).nm).length) 70)) Tryd.underlying9 rfl rfl rfl rfl ⟨by first | omega | (simp only [List.length_append, List.length_cons, List.length_nil, List.length_take, List.length_drop] at *; omega), by first | omega | (simp only [List.length_append, List.length_cons, List.length_nil, List.length_take, List.length_drop] at *; omega)⟩).as (v' := Str (((l0.getD i noLau).nm).take (min (((l0.getD i noLau).nm).length) 70))) (congrArg Str List.drop_zero)) rfl rfl rfl ?_
        refine J.y (op_fieldAddr (j := 0) rfl rfl Tryd.underlying43 rfl Tryd.sizeOf9 rfl) rfl rfl rfl ?_
        refine J.s (op_store (i := 3) (l := [Str ((l0.getD i noLau).nm), B8 ((l0.getD i noLau).key), I ((l0.getD i noLau).ht)]) (vs := [Str (((l0.getD i noLau).nm).take (min (((l0.getD i noLau).nm).length) 70))]) rfl rfl rfl rfl rfl Tryd.sizeOf9 rfl (by simp)) rfl rfl (fun _ _ => ?_)
        change J _ _ _ [F, mr, mo, blk g8 [Str (((l0.getD i noLau).nm).take (min (((l0.getD i noLau).nm).length) 70)), B8 ((l0.getD i noLau).key), I ((l0.getD i noLau).ht)] 43] _
        refine J.nil ?_
        refine J.then_n (J.k hK12 ?_)
        refine J.keepE [(0, _), (1, _), (5, _), (6, _), (7, _), (8, _)] ⟨rfl, rfl, rfl, rfl, rfl, rfl, trivial⟩ ?_
        refine J.seq (fun K13 hK13 => ?_)
        obtain ⟨x, hx1, hx2, hx3⟩ : ∃ x : Lau, x.nm = (l0.getD i noLau).nm.take (min (l0.getD i noLau).nm.length 70) ∧ x.key = (l0.getD i noLau).key ∧ x.ht = (l0.getD i noLau).ht := ⟨⟨_, _, _⟩, rfl, rfl, rfl⟩
        rw [← hx1, ← hx2, ← hx3]
        have hxl : x.nm.length ≤ 70 := by rw [hx1, List.length_take]; omega
        refine J.draw [blk g8 [Str (x.nm), B8 (x.key), I (x.ht)] 43] [] (.y 0 (.y 1 (.y 2 (.y 3 (.y 4 (.y 5 (.y 6 (.e 7 (.y 8 (.e 9 (.y 10 (.y 11 (.y 12 (.y 13 (.y 14 .nil))))))))))))))) Tryd.wide (by decide +kernel) (by simp) ?_
        refine J.dy rfl (op_move rfl rfl) rfl rfl rfl rfl ?_
        refine J.dy rfl (op_fieldAddr (j := 0) rfl rfl Tryd.underlying43 rfl Tryd.sizeOf9 rfl) rfl rfl rfl rfl ?_
        refine J.dy rfl (op_loadB 0 (v := Str (x.nm)) rfl rfl rfl Tryd.isAgg9 rfl) rfl rfl rfl rfl ?_
        refine J.dy rfl (op_fieldAddr (j := 1) rfl rfl Tryd.underlying43 rfl Tryd.sizeOf5 rfl) rfl rfl rfl rfl ?_
        refine J.dy rfl (op_loadB 0 (v := B8 (x.key)) rfl rfl rfl Tryd.isAgg5 rfl) rfl rfl rfl rfl ?_
        refine J.dy rfl (op_fieldAddr (j := 2) rfl rfl Tryd.underlying43 rfl Tryd.sizeOf3 rfl) rfl rfl rfl rfl ?_
        refine J.dy rfl (op_loadB 0 (v := I (x.ht)) rfl rfl rfl Tryd.isAgg3 rfl) rfl rfl rfl rfl ?_
        refine J.de rfl (op_call rfl rfl ent28 (Ct.use0 (fun F' hF => key20_ct F' x.key x.ht))) rfl rfl rfl (by simp) ?_
        intro g48 _
        refine J.dy rfl (op_buildStruct (l := [(0, .tmp 43), (1, .tmp 48)]) (vs := [Str (x.nm), .agg #[Str (keyO x.key), Str (z16), I (x.ht)]]) (places := [(0, 1), (1, 3)]) (r := [Str (x.nm), Str (keyO x.key), Str (z16), I (x.ht)]) rfl rfl rfl Tryd.underlying50 Tryd.zeroValue50 (fun _ => by kernel_rfl) rfl) rfl rfl rfl rfl ?_
        refine J.de rfl (op_call rfl rfl ent27 (Ct.use1 2 (m' := fun x : Hp => x) (new := fun _ => []) rfl (fun F' hF => radd_ct F' mo g17 (m.map toA) hb (hA.mono (hF F (by simp))) (hT.mono (hF F (by simp))) x.nm (keyO x.key) z16 x.ht (by first | omega | exact Nat.le_of_ble_eq_true rfl | (rw [List.length_map]; omega)) (by first | omega | exact Nat.le_of_ble_eq_true rfl | (rw [List.length_map]; omega)) (by first | omega | exact Nat.le_of_ble_eq_true rfl | (rw [List.length_map]; omega)) (by first | omega | exact Nat.le_of_ble_eq_true rfl | (rw [List.length_map]; omega))))) rfl rfl rfl (by simp) ?_
        rintro m50 h50
        change J _ ((50, .tuple #[I (addNo (m.map toA) x.nm (keyO x.key) z16 x.ht), I (addE (m.map toA) x.nm (keyO x.key) z16 x.ht)]) :: _) _ [F, mr, m50, blk g8 [Str (x.nm), B8 (x.key), I (x.ht)] 43] _
        refine J.dy rfl (op_move rfl rfl) rfl rfl rfl rfl ?_
        refine J.dy rfl (op_extract (v := I (addNo (m.map toA) x.nm (keyO x.key) z16 x.ht)) rfl rfl rfl) rfl rfl rfl rfl ?_
        refine J.dy rfl (op_extract (v := I (addE (m.map toA) x.nm (keyO x.key) z16 x.ht)) rfl rfl rfl) rfl rfl rfl rfl ?_
        refine J.dy rfl (op_assign rfl rfl) rfl rfl rfl rfl ?_
        refine J.dy rfl (op_assign rfl rfl) rfl rfl rfl rfl ?_
        refine J.dnil ?_
        refine J.then_n (J.k hK13 ?_)
        refine J.keepE [(0, _), (1, _), (5, _), (6, _), (7, _), (8, _), (9, _), (10, _)] ⟨rfl, rfl, rfl, rfl, rfl, rfl, rfl, rfl, trivial⟩ ?_
        refine J.seq (fun K14 hK14 => ?_)
        refine J.region ?_
        refine J.y (op_fieldAddr (j := 0) rfl rfl Tryd.underlying43 rfl Tryd.sizeOf9 rfl) rfl rfl rfl ?_
        refine J.y (op_loadB 3 (v := Str (x.nm)) rfl rfl rfl Tryd.isAgg9 rfl) rfl rfl rfl ?_
        refine J.e (op_call rfl rfl ent29 (Ct.use0 (fun F' hF => normal18_ct F' x.nm (by omega)))) rfl rfl rfl ?_
        intro g55 _
        refine J.y (op_assign rfl rfl) rfl rfl rfl ?_
        refine J.nil ?_
        refine J.then_n (J.k hK14 ?_)
        refine J.keepE [(0, _), (1, _), (5, _), (6, _), (7, _), (8, _), (9, _), (10, _), (11, _)] ⟨rfl, rfl, rfl, rfl, rfl, rfl, rfl, rfl, rfl, trivial⟩ ?_
        refine J.cut (X := Nat) (fun ζ => [(0, .slice A0 n0 c0), (1, I (at1)), (5, Ptr g17), (6, .slice A m.length c), (7, I ((i : Nat) : Int)), (8, Ptr g8), (9, I (addNo (m.map toA) x.nm (keyO x.key) z16 x.ht)), (10, I (addE (m.map toA) x.nm (keyO x.key) z16 x.ht)), (11, I ((ζ : Nat) : Int))]) (fun ζ => [F, mr, m50, blk g8 [Str (x.nm), B8 (x.key), I (x.ht)] 43]) (fun ζ => ζ = wa1 x m 0) (fun K15 hK15 => ?_) ?_
        ·
          refine J.seq (fun K16 hK16 => ?_)
          refine J.region ?_
          refine J.y (op_move rfl rfl) rfl rfl rfl ?_
          refine J.y (op_eql rfl rfl rfl) rfl rfl rfl ?_
          refine J.y (op_move rfl rfl) rfl rfl rfl ?_
          refine J.split (d := 58) rfl (fun h58 => ?_) (fun h58 => ?_)
          ·
            refine J.yg (Wan.is rfl rfl rfl rfl rfl) (op_fieldAddr (j := 2) rfl rfl Tryd.underlying43 rfl Tryd.sizeOf3 rfl) rfl rfl ?_
            refine J.yg (Wan.is rfl rfl rfl rfl rfl) (op_loadB 3 (v := I (x.ht)) rfl rfl rfl Tryd.isAgg3 rfl) rfl rfl ?_
            refine J.yg (Wan.is rfl rfl rfl rfl rfl) (op_lss rfl rfl rfl) rfl rfl ?_
            refine J.yg (Wan.is rfl rfl rfl rfl rfl) (op_move rfl rfl) rfl rfl ?_
            refine J.split (d := 62) rfl (fun h62 => ?_) (fun h62 => ?_)
            ·
              refine J.no (Wan.is rfl rfl rfl rfl rfl) rfl rfl ?_
              refine J.no (Wan.is rfl rfl rfl rfl rfl) rfl rfl ?_
              refine J.no (Wan.is rfl rfl rfl rfl rfl) rfl rfl ?_
              refine J.yg (Wan.is rfl rfl rfl rfl rfl) (op_pickT rfl rfl rfl) rfl rfl ?_
              refine J.y (op_pickT rfl rfl rfl) rfl rfl rfl ?_
              refine J.nil ?_
              refine J.then_n (J.k hK16 ?_)
              refine J.keepE [(0, _), (1, _), (5, _), (6, _), (7, _), (8, _), (9, _), (10, _), (11, _), (67, _)] ⟨rfl, rfl, rfl, rfl, rfl, rfl, rfl, rfl, rfl, rfl, trivial⟩ ?_
              refine J.condT rfl rfl ?_
              refine J.region ?_
              refine J.y (op_assign rfl rfl) rfl rfl rfl ?_
              refine J.nil ?_
              refine J.then_n ?_
              exact J.kk (10) hK15 ((by rw [wa1_zero]; unfold wa0; first | rw [if_pos (by omega)] | rw [if_neg (by omega)])) ⟨rfl, rfl, rfl, rfl, rfl, rfl, rfl, rfl, rfl, trivial⟩ (fun _ h => h)
            ·
              refine J.yg (Wan.is rfl rfl rfl rfl rfl) (op_fieldAddr (j := 2) rfl rfl Tryd.underlying43 rfl Tryd.sizeOf3 rfl) rfl rfl ?_
              refine J.yg (Wan.is rfl rfl rfl rfl rfl) (op_loadB 3 (v := I (x.ht)) rfl rfl rfl Tryd.isAgg3 rfl) rfl rfl ?_
              refine J.yg (Wan.is rfl rfl rfl rfl rfl) (op_gtr rfl rfl rfl) rfl rfl ?_
              refine J.yg (Wan.is rfl rfl rfl rfl rfl) (op_pickF rfl rfl rfl) rfl rfl ?_
              refine J.y (op_pickT rfl rfl rfl) rfl rfl rfl ?_
              refine J.nil ?_
              refine J.then_n (J.k hK16 ?_)
              refine J.keepE [(0, _), (1, _), (5, _), (6, _), (7, _), (8, _), (9, _), (10, _), (11, _), (67, _)] ⟨rfl, rfl, rfl, rfl, rfl, rfl, rfl, rfl, rfl, rfl, trivial⟩ ?_
              refine J.ite rfl (fun h67 => ?_) (fun h67 => ?_)
              ·
                refine J.region ?_
                refine J.y (op_assign rfl rfl) rfl rfl rfl ?_
                refine J.nil ?_
                refine J.then_n ?_
                exact J.kk (10) hK15 ((by rw [wa1_zero]; unfold wa0; first | rw [if_pos (by omega)] | rw [if_neg (by omega)])) ⟨rfl, rfl, rfl, rfl, rfl, rfl, rfl, rfl, rfl, trivial⟩ (fun _ h => h)
              ·
                refine J.skip ?_
                refine J.then_n ?_
                exact J.kk (ownN x.nm) hK15 ((by rw [wa1_zero]; unfold wa0; first | rw [if_pos (by omega)] | rw [if_neg (by omega)])) ⟨rfl, rfl, rfl, rfl, rfl, rfl, rfl, rfl, rfl, trivial⟩ (fun _ h => h)
          ·
            refine J.no (Wan.is rfl rfl rfl rfl rfl) rfl rfl ?_
            refine J.no (Wan.is rfl rfl rfl rfl rfl) rfl rfl ?_
            refine J.no (Wan.is rfl rfl rfl rfl rfl) rfl rfl ?_
            refine J.no (Wan.is rfl rfl rfl rfl rfl) rfl rfl ?_
            refine J.no (Wan.un rfl rfl rfl rfl) rfl rfl ?_
            refine J.no (Wan.un rfl rfl rfl rfl) rfl rfl ?_
            refine J.no (Wan.un rfl rfl rfl rfl) rfl rfl ?_
            refine J.no (Wan.is rfl rfl rfl rfl rfl) rfl rfl ?_
            refine J.y (op_pickF rfl rfl rfl) rfl rfl rfl ?_
            refine J.nil ?_
            refine J.then_n (J.k hK16 ?_)
            refine J.keepE [(0, _), (1, _), (5, _), (6, _), (7, _), (8, _), (9, _), (10, _), (11, _), (67, _)] ⟨rfl, rfl, rfl, rfl, rfl, rfl, rfl, rfl, rfl, rfl, trivial⟩ ?_
            refine J.condF rfl rfl ?_
            refine J.skip ?_
            refine J.then_n ?_
            exact J.kk (ownN x.nm) hK15 ((by rw [wa1_zero]; unfold wa0; first | rw [if_pos (by omega)] | rw [if_neg (by omega)])) ⟨rfl, rfl, rfl, rfl, rfl, rfl, rfl, rfl, rfl, trivial⟩ (fun _ h => h)
        rintro w hw
        refine J.cut (X := Nat × Nat) (fun ζ => [(0, .slice A0 n0 c0), (1, I (at1)), (5, Ptr g17), (6, .slice A m.length c), (7, I ((i : Nat) : Int)), (8, Ptr g8), (9, I (addNo (m.map toA) x.nm (keyO x.key) z16 x.ht)), (10, I (addE (m.map toA) x.nm (keyO x.key) z16 x.ht)), (11, I ((ζ.2 : Nat) : Int))]) (fun ζ => [F, mr, m50, blk g8 [Str (x.nm), B8 (x.key), I (x.ht)] 43]) (fun ζ => ζ.1 ≤ m.length ∧ ζ.2 = wa1 x m ζ.1 ∧ (ζ.2 = 0 → ζ.1 = m.length)) (fun K17 hK17 => ?_) ?_
        ·
          refine J.seq (fun K18 hK18 => ?_)
          refine J.region ?_
          refine J.y (op_assign rfl rfl) rfl rfl rfl ?_
          refine J.nil ?_
          refine J.then_n (J.k hK18 ?_)
          refine J.keepE [(0, _), (1, _), (5, _), (6, _), (7, _), (8, _), (9, _), (10, _), (11, _), (12, _)] ⟨rfl, rfl, rfl, rfl, rfl, rfl, rfl, rfl, rfl, rfl, trivial⟩ ?_
          refine J.block ?_
          refine J.loop (X := Nat × Nat) (fun ζ => [(0, .slice A0 n0 c0), (1, I (at1)), (5, Ptr g17), (6, .slice A m.length c), (7, I ((i : Nat) : Int)), (8, Ptr g8), (9, I (addNo (m.map toA) x.nm (keyO x.key) z16 x.ht)), (10, I (addE (m.map toA) x.nm (keyO x.key) z16 x.ht)), (11, I ((ζ.2 : Nat) : Int)), (12, I ((ζ.1 : Nat) : Int))]) (fun ζ => [F, mr, m50, blk g8 [Str (x.nm), B8 (x.key), I (x.ht)] 43]) (fun ζ => ζ.1 ≤ m.length ∧ ζ.2 = wa1 x m ζ.1) (fun ζ => m.length - ζ.1) (0, w) (⟨Nat.zero_le _, hw⟩) ⟨rfl, rfl, rfl, rfl, rfl, rfl, rfl, rfl, rfl, rfl, trivial⟩ (fun _ h => h) ?_
          rintro ⟨k, u⟩ ⟨hk, hu⟩ I2 hI2
          dsimp only at hk hu ⊢
          refine J.seq (fun K19 hK19 => ?_)
          refine J.seq (fun K20 hK20 => ?_)
          refine J.region ?_
          refine J.y (op_move rfl rfl) rfl rfl rfl ?_
          refine J.y (op_move rfl rfl) rfl rfl rfl ?_
          refine J.y (op_len Tryd.underlying39 rfl rfl) rfl rfl rfl ?_
          refine J.y (op_lss rfl rfl rfl) rfl rfl rfl ?_
          refine J.y (op_move rfl rfl) rfl rfl rfl ?_
          refine J.split (d := 72) rfl (fun h72 => ?_) (fun h72 => ?_)
          ·
            refine J.yg (Wan.is rfl rfl rfl rfl rfl) (op_move rfl rfl) rfl rfl ?_
            refine J.yg (Wan.is rfl rfl rfl rfl rfl) (op_eql rfl rfl rfl) rfl rfl ?_
            refine J.y (op_pickT rfl rfl rfl) rfl rfl rfl ?_
            refine J.nil ?_
            refine J.then_n (J.k hK20 ?_)
            refine J.keepE [(0, _), (1, _), (5, _), (6, _), (7, _), (8, _), (9, _), (10, _), (11, _), (12, _), (75, _)] ⟨rfl, rfl, rfl, rfl, rfl, rfl, rfl, rfl, rfl, rfl, rfl, trivial⟩ ?_
            refine J.ite rfl (fun h75 => ?_) (fun h75 => ?_)
            ·
              refine J.skip ?_
              refine J.then_n (J.k hK19 ?_)
              refine J.keepE [(0, _), (1, _), (5, _), (6, _), (7, _), (8, _), (9, _), (10, _), (11, _), (12, _)] ⟨rfl, rfl, rfl, rfl, rfl, rfl, rfl, rfl, rfl, rfl, trivial⟩ ?_
              refine J.seq (fun K21 hK21 => ?_)
              refine J.block ?_
              refine J.seq (fun K22 hK22 => ?_)
              refine J.draw [F, mr, m50, blk g8 [Str (x.nm), B8 (x.key), I (x.ht)] 43] [] (.y 0 (.y 1 (.y 2 (.y 3 (.y 4 (.y 5 (.y 6 (.y 7 (.y 8 (.y 9 (.y 10 (.y 11 (.y 12 (.y 13 (.y 14 (.y 15 (.y 16 (.y 17 (.y 18 (.y 19 (.y 20 (.y 21 (.y 22 (.y 23 (.y 24 (.y 25 (.y 26 (.y 27 .nil)))))))))))))))))))))))))))) Tryd.wide (by decide +kernel) (by simp) ?_
              refine J.dy rfl (op_move rfl rfl) rfl rfl rfl rfl ?_
              refine J.dy rfl (op_move rfl rfl) rfl rfl rfl rfl ?_
              refine J.dy rfl (op_indexAddr (i := k) rfl rfl rfl Tryd.underlying39 Tryd.sizeOf43 hr.sl (by first | omega | (simp only [List.length_append, List.length_cons, List.length_nil, List.length_take, List.length_drop] at *; omega))) rfl rfl rfl rfl ?_
              refine J.dy rfl (op_fieldAddrE (off := 0) rfl rfl Tryd.underlying43 rfl Tryd.sizeOf9 hr.sl (by first | omega | (simp only [List.length_append, List.length_cons, List.length_nil, List.length_take, List.length_drop] at *; omega)) rfl) rfl rfl rfl rfl ?_
              refine J.dy rfl (op_load (v := Str ((m.getD k noLau).nm)) rfl rfl Tryd.isAgg9 (m := mr) (by simp) (hr.sl.part (lausV_get (by first | omega | (simp only [List.length_append, List.length_cons, List.length_nil, List.length_take, List.length_drop] at *; omega))) 0 1)) rfl rfl rfl rfl ?_
              refine J.dy rfl (op_fieldAddr (j := 0) rfl rfl Tryd.underlying43 rfl Tryd.sizeOf9 rfl) rfl rfl rfl rfl ?_
              refine J.dy rfl (op_loadB 3 (v := Str (x.nm)) rfl rfl rfl Tryd.isAgg9 rfl) rfl rfl rfl rfl ?_
              refine J.dy rfl (op_seq rfl rfl rfl) rfl rfl rfl rfl ?_
              refine J.dy rfl (op_move rfl rfl) rfl rfl rfl rfl ?_
              refine J.split (d := 86) rfl (fun h86 => ?_) (fun h86 => ?_)
              ·
                refine J.dno rfl (Wan.is rfl rfl rfl rfl rfl) rfl rfl ?_
                refine J.dno rfl (Wan.is rfl rfl rfl rfl rfl) rfl rfl ?_
                refine J.dno rfl (Wan.is rfl rfl rfl rfl rfl) rfl rfl ?_
                refine J.dno rfl (Wan.is rfl rfl rfl rfl rfl) rfl rfl ?_
                refine J.dno rfl (Wan.is rfl rfl rfl rfl rfl) rfl rfl ?_
                refine J.dno rfl (Wan.is rfl rfl rfl rfl rfl) rfl rfl ?_
                refine J.dno rfl (Wan.is rfl rfl rfl rfl rfl) rfl rfl ?_
                refine J.dno rfl (Wan.is rfl rfl rfl rfl rfl) rfl rfl ?_
                refine J.dno rfl (Wan.is rfl rfl rfl rfl rfl) rfl rfl ?_
                refine J.dno rfl (Wan.un rfl rfl rfl rfl) rfl rfl ?_
                refine J.dno rfl (Wan.un rfl rfl rfl rfl) rfl rfl ?_
                refine J.dno rfl (Wan.un rfl rfl rfl rfl) rfl rfl ?_
                refine J.dno rfl (Wan.un rfl rfl rfl rfl) rfl rfl ?_
                refine J.dno rfl (Wan.un rfl rfl rfl rfl) rfl rfl ?_
                refine J.dno rfl (Wan.un rfl rfl rfl rfl) rfl rfl ?_
                refine J.dno rfl (Wan.un rfl rfl rfl rfl) rfl rfl ?_
                refine J.dno rfl (Wan.un rfl rfl rfl rfl) rfl rfl ?_
                refine J.dno rfl (Wan.is rfl rfl rfl rfl rfl) rfl rfl ?_
                refine J.dy rfl (op_pickT rfl rfl rfl) rfl rfl rfl rfl ?_
                refine J.dnil ?_
                refine J.then_n (J.k hK22 ?_)
                refine J.keepE [(0, _), (1, _), (5, _), (6, _), (7, _), (8, _), (9, _), (10, _), (11, _), (12, _), (105, _)] ⟨rfl, rfl, rfl, rfl, rfl, rfl, rfl, rfl, rfl, rfl, rfl, trivial⟩ ?_
                refine J.condT rfl rfl ?_
                refine J.region ?_
                refine J.y (op_assign rfl rfl) rfl rfl rfl ?_
                refine J.nil ?_
                refine J.blk_n ?_
                refine J.then_n (J.k hK21 ?_)
                refine J.keepE [(0, _), (1, _), (5, _), (6, _), (7, _), (8, _), (9, _), (10, _), (11, _), (12, _)] ⟨rfl, rfl, rfl, rfl, rfl, rfl, rfl, rfl, rfl, rfl, trivial⟩ ?_
                refine J.region ?_
                refine J.y (op_move rfl rfl) rfl rfl rfl ?_
                refine J.y ((op_add rfl rfl rfl (by first | omega | (simp only [List.length_append, List.length_cons, List.length_nil, List.length_take, List.length_drop] at *; omega))).as (v' := I ((k + 1 : Nat) : Int)) (congrArg I (by omega))) rfl rfl rfl ?_
                refine J.y (op_assign rfl rfl) rfl rfl rfl ?_
                refine J.nil ?_
                refine J.then_n ?_
                exact J.kk (k + 1, 19) (fun η (hη : _ ∧ m.length - η.1 < m.length - k) => hI2 η hη.1 hη.2) ⟨⟨by dsimp only; omega, by dsimp only; rw [wa1_step (by omega) (show wa1 x m k = 0 by omega)]; exact hit_step (u := u) (by omega) (by first | (refine .inl ⟨rfl, ?_⟩; first | (left; assumption) | (right; constructor <;> assumption)) | (refine .inr ⟨rfl, ?_, ?_⟩; assumption; intro q; first | assumption | (exfalso; apply h95; exact q)))⟩, by first | omega | (dsimp only; omega)⟩ ⟨rfl, rfl, rfl, rfl, rfl, rfl, rfl, rfl, rfl, rfl, trivial⟩ (fun _ h => h)
              ·
                refine J.dyg rfl (op_move rfl rfl) (Wan.is rfl rfl rfl rfl rfl) rfl rfl rfl ?_
                refine J.dyg rfl (op_move rfl rfl) (Wan.is rfl rfl rfl rfl rfl) rfl rfl rfl ?_
                refine J.dyg rfl (op_indexAddr (i := k) rfl rfl rfl Tryd.underlying39 Tryd.sizeOf43 hr.sl (by first | omega | (simp only [List.length_append, List.length_cons, List.length_nil, List.length_take, List.length_drop] at *; omega))) (Wan.is rfl rfl rfl rfl rfl) rfl rfl rfl ?_
                refine J.dyg rfl (op_fieldAddrE (off := 1) rfl rfl Tryd.underlying43 rfl Tryd.sizeOf5 hr.sl (by first | omega | (simp only [List.length_append, List.length_cons, List.length_nil, List.length_take, List.length_drop] at *; omega)) rfl) (Wan.is rfl rfl rfl rfl rfl) rfl rfl rfl ?_
                refine J.dyg rfl (op_load (v := B8 ((m.getD k noLau).key)) rfl rfl Tryd.isAgg5 (m := mr) (by simp) (hr.sl.part (lausV_get (by first | omega | (simp only [List.length_append, List.length_cons, List.length_nil, List.length_take, List.length_drop] at *; omega))) 1 1)) (Wan.is rfl rfl rfl rfl rfl) rfl rfl rfl ?_
                refine J.dyg rfl (op_fieldAddr (j := 1) rfl rfl Tryd.underlying43 rfl Tryd.sizeOf5 rfl) (Wan.is rfl rfl rfl rfl rfl) rfl rfl rfl ?_
                refine J.dyg rfl (op_loadB 3 (v := B8 (x.key)) rfl rfl rfl Tryd.isAgg5 rfl) (Wan.is rfl rfl rfl rfl rfl) rfl rfl rfl ?_
                refine J.dyg rfl (op_eql rfl rfl rfl) (Wan.is rfl rfl rfl rfl rfl) rfl rfl rfl ?_
                refine J.dyg rfl (op_move rfl rfl) (Wan.is rfl rfl rfl rfl rfl) rfl rfl rfl ?_
                refine J.split (d := 95) rfl (fun h95 => ?_) (fun h95 => ?_)
                ·
                  refine J.dyg rfl (op_move rfl rfl) (Wan.is rfl rfl rfl rfl rfl) rfl rfl rfl ?_
                  refine J.dyg rfl (op_move rfl rfl) (Wan.is rfl rfl rfl rfl rfl) rfl rfl rfl ?_
                  refine J.dyg rfl (op_indexAddr (i := k) rfl rfl rfl Tryd.underlying39 Tryd.sizeOf43 hr.sl (by first | omega | (simp only [List.length_append, List.length_cons, List.length_nil, List.length_take, List.length_drop] at *; omega))) (Wan.is rfl rfl rfl rfl rfl) rfl rfl rfl ?_
                  refine J.dyg rfl (op_fieldAddrE (off := 2) rfl rfl Tryd.underlying43 rfl Tryd.sizeOf3 hr.sl (by first | omega | (simp only [List.length_append, List.length_cons, List.length_nil, List.length_take, List.length_drop] at *; omega)) rfl) (Wan.is rfl rfl rfl rfl rfl) rfl rfl rfl ?_
                  refine J.dyg rfl (op_load (v := I ((m.getD k noLau).ht)) rfl rfl Tryd.isAgg3 (m := mr) (by simp) (hr.sl.part (lausV_get (by first | omega | (simp only [List.length_append, List.length_cons, List.length_nil, List.length_take, List.length_drop] at *; omega))) 2 1)) (Wan.is rfl rfl rfl rfl rfl) rfl rfl rfl ?_
                  refine J.dyg rfl (op_fieldAddr (j := 2) rfl rfl Tryd.underlying43 rfl Tryd.sizeOf3 rfl) (Wan.is rfl rfl rfl rfl rfl) rfl rfl rfl ?_
                  refine J.dyg rfl (op_loadB 3 (v := I (x.ht)) rfl rfl rfl Tryd.isAgg3 rfl) (Wan.is rfl rfl rfl rfl rfl) rfl rfl rfl ?_
                  refine J.dyg rfl (op_eql rfl rfl rfl) (Wan.is rfl rfl rfl rfl rfl) rfl rfl rfl ?_
                  refine J.dyg rfl (op_pickT rfl rfl rfl) (Wan.is rfl rfl rfl rfl rfl) rfl rfl rfl ?_
                  refine J.dy rfl (op_pickF rfl rfl rfl) rfl rfl rfl rfl ?_
                  refine J.dnil ?_
                  refine J.then_n (J.k hK22 ?_)
                  refine J.keepE [(0, _), (1, _), (5, _), (6, _), (7, _), (8, _), (9, _), (10, _), (11, _), (12, _), (105, _)] ⟨rfl, rfl, rfl, rfl, rfl, rfl, rfl, rfl, rfl, rfl, rfl, trivial⟩ ?_
                  refine J.ite rfl (fun h105 => ?_) (fun h105 => ?_)
                  ·
                    refine J.region ?_
                    refine J.y (op_assign rfl rfl) rfl rfl rfl ?_
                    refine J.nil ?_
                    refine J.blk_n ?_
                    refine J.then_n (J.k hK21 ?_)
                    refine J.keepE [(0, _), (1, _), (5, _), (6, _), (7, _), (8, _), (9, _), (10, _), (11, _), (12, _)] ⟨rfl, rfl, rfl, rfl, rfl, rfl, rfl, rfl, rfl, rfl, trivial⟩ ?_
                    refine J.region ?_
                    refine J.y (op_move rfl rfl) rfl rfl rfl ?_
                    refine J.y ((op_add rfl rfl rfl (by first | omega | (simp only [List.length_append, List.length_cons, List.length_nil, List.length_take, List.length_drop] at *; omega))).as (v' := I ((k + 1 : Nat) : Int)) (congrArg I (by omega))) rfl rfl rfl ?_
                    refine J.y (op_assign rfl rfl) rfl rfl rfl ?_
                    refine J.nil ?_
                    refine J.then_n ?_
                    exact J.kk (k + 1, 19) (fun η (hη : _ ∧ m.length - η.1 < m.length - k) => hI2 η hη.1 hη.2) ⟨⟨by dsimp only; omega, by dsimp only; rw [wa1_step (by omega) (show wa1 x m k = 0 by omega)]; exact hit_step (u := u) (by omega) (by first | (refine .inl ⟨rfl, ?_⟩; first | (left; assumption) | (right; constructor <;> assumption)) | (refine .inr ⟨rfl, ?_, ?_⟩; assumption; intro q; first | assumption | (exfalso; apply h95; exact q)))⟩, by first | omega | (dsimp only; omega)⟩ ⟨rfl, rfl, rfl, rfl, rfl, rfl, rfl, rfl, rfl, rfl, trivial⟩ (fun _ h => h)
                  ·
                    refine J.skip ?_
                    refine J.blk_n ?_
                    refine J.then_n (J.k hK21 ?_)
                    refine J.keepE [(0, _), (1, _), (5, _), (6, _), (7, _), (8, _), (9, _), (10, _), (11, _), (12, _)] ⟨rfl, rfl, rfl, rfl, rfl, rfl, rfl, rfl, rfl, rfl, trivial⟩ ?_
                    refine J.region ?_
                    refine J.y (op_move rfl rfl) rfl rfl rfl ?_
                    refine J.y ((op_add rfl rfl rfl (by first | omega | (simp only [List.length_append, List.length_cons, List.length_nil, List.length_take, List.length_drop] at *; omega))).as (v' := I ((k + 1 : Nat) : Int)) (congrArg I (by omega))) rfl rfl rfl ?_
                    refine J.y (op_assign rfl rfl) rfl rfl rfl ?_
                    refine J.nil ?_
                    refine J.then_n ?_
                    exact J.kk (k + 1, u) (fun η (hη : _ ∧ m.length - η.1 < m.length - k) => hI2 η hη.1 hη.2) ⟨⟨by dsimp only; omega, by dsimp only; rw [wa1_step (by omega) (show wa1 x m k = 0 by omega)]; exact hit_step (u := u) (by omega) (by first | (refine .inl ⟨rfl, ?_⟩; first | (left; assumption) | (right; constructor <;> assumption)) | (refine .inr ⟨rfl, ?_, ?_⟩; assumption; intro q; first | assumption | (exfalso; apply h95; exact q)))⟩, by first | omega | (dsimp only; omega)⟩ ⟨rfl, rfl, rfl, rfl, rfl, rfl, rfl, rfl, rfl, rfl, trivial⟩ (fun _ h => h)
                ·
                  refine J.dno rfl (Wan.is rfl rfl rfl rfl rfl) rfl rfl ?_
                  refine J.dno rfl (Wan.is rfl rfl rfl rfl rfl) rfl rfl ?_
                  refine J.dno rfl (Wan.is rfl rfl rfl rfl rfl) rfl rfl ?_
                  refine J.dno rfl (Wan.is rfl rfl rfl rfl rfl) rfl rfl ?_
                  refine J.dno rfl (Wan.is rfl rfl rfl rfl rfl) rfl rfl ?_
                  refine J.dno rfl (Wan.is rfl rfl rfl rfl rfl) rfl rfl ?_
                  refine J.dno rfl (Wan.is rfl rfl rfl rfl rfl) rfl rfl ?_
                  refine J.dno rfl (Wan.is rfl rfl rfl rfl rfl) rfl rfl ?_
                  refine J.dyg rfl (op_pickF rfl rfl rfl) (Wan.is rfl rfl rfl rfl rfl) rfl rfl rfl ?_
                  refine J.dy rfl (op_pickF rfl rfl rfl) rfl rfl rfl rfl ?_
                  refine J.dnil ?_
                  refine J.then_n (J.k hK22 ?_)
                  refine J.keepE [(0, _), (1, _), (5, _), (6, _), (7, _), (8, _), (9, _), (10, _), (11, _), (12, _), (105, _)] ⟨rfl, rfl, rfl, rfl, rfl, rfl, rfl, rfl, rfl, rfl, rfl, trivial⟩ ?_
                  refine J.condF rfl rfl ?_
                  refine J.skip ?_
                  refine J.blk_n ?_
                  refine J.then_n (J.k hK21 ?_)
                  refine J.keepE [(0, _), (1, _), (5, _), (6, _), (7, _), (8, _), (9, _), (10, _), (11, _), (12, _)] ⟨rfl, rfl, rfl, rfl, rfl, rfl, rfl, rfl, rfl, rfl, trivial⟩ ?_
                  refine J.region ?_
                  refine J.y (op_move rfl rfl) rfl rfl rfl ?_
                  refine J.y ((op_add rfl rfl rfl (by first | omega | (simp only [List.length_append, List.length_cons, List.length_nil, List.length_take, List.length_drop] at *; omega))).as (v' := I ((k + 1 : Nat) : Int)) (congrArg I (by omega))) rfl rfl rfl ?_
                  refine J.y (op_assign rfl rfl) rfl rfl rfl ?_
                  refine J.nil ?_
                  refine J.then_n ?_
                  exact J.kk (k + 1, u) (fun η (hη : _ ∧ m.length - η.1 < m.length - k) => hI2 η hη.1 hη.2) ⟨⟨by dsimp only; omega, by dsimp only; rw [wa1_step (by omega) (show wa1 x m k = 0 by omega)]; exact hit_step (u := u) (by omega) (by first | (refine .inl ⟨rfl, ?_⟩; first | (left; assumption) | (right; constructor <;> assumption)) | (refine .inr ⟨rfl, ?_, ?_⟩; assumption; intro q; first | assumption | (exfalso; apply h95; exact q)))⟩, by first | omega | (dsimp only; omega)⟩ ⟨rfl, rfl, rfl, rfl, rfl, rfl, rfl, rfl, rfl, rfl, trivial⟩ (fun _ h => h)
            ·
              refine J.exit ?_
              refine J.then_x ?_
              refine J.then_x ?_
              refine J.blk_eq ?_
              refine J.then_n ?_
              exact J.kk (k, u) hK17 (⟨by dsimp only; omega, hu, fun h => by dsimp only at h ⊢; omega⟩) ⟨rfl, rfl, rfl, rfl, rfl, rfl, rfl, rfl, rfl, trivial⟩ (fun _ h => h)
          ·
            refine J.no (Wan.is rfl rfl rfl rfl rfl) rfl rfl ?_
            refine J.no (Wan.is rfl rfl rfl rfl rfl) rfl rfl ?_
            refine J.y (op_pickF rfl rfl rfl) rfl rfl rfl ?_
            refine J.nil ?_
            refine J.then_n (J.k hK20 ?_)
            refine J.keepE [(0, _), (1, _), (5, _), (6, _), (7, _), (8, _), (9, _), (10, _), (11, _), (12, _), (75, _)] ⟨rfl, rfl, rfl, rfl, rfl, rfl, rfl, rfl, rfl, rfl, rfl, trivial⟩ ?_
            refine J.condF rfl rfl ?_
            refine J.exit ?_
            refine J.then_x ?_
            refine J.then_x ?_
            refine J.blk_eq ?_
            refine J.then_n ?_
            exact J.kk (k, u) hK17 (⟨by dsimp only; omega, hu, fun h => by dsimp only at h ⊢; omega⟩) ⟨rfl, rfl, rfl, rfl, rfl, rfl, rfl, rfl, rfl, trivial⟩ (fun _ h => h)
        rintro ⟨k, v⟩ ⟨hk, hv1, hv2⟩
        dsimp only at hk hv1 hv2 ⊢
        refine J.cut (X := Nat) (fun ζ => [(0, .slice A0 n0 c0), (1, I (at1)), (5, Ptr g17), (6, .slice A m.length c), (7, I ((i : Nat) : Int)), (8, Ptr g8), (9, I (addNo (m.map toA) x.nm (keyO x.key) z16 x.ht)), (10, I (addE (m.map toA) x.nm (keyO x.key) z16 x.ht)), (11, I ((ζ : Nat) : Int))]) (fun ζ => [F, mr, m50, blk g8 [Str (x.nm), B8 (x.key), I (x.ht)] 43]) (fun ζ => addE (m.map toA) x.nm (keyO x.key) z16 x.ht = ((ζ : Nat) : Int)) (fun K23 hK23 => ?_) ?_
        ·
          refine J.seq (fun K24 hK24 => ?_)
          refine J.region ?_
          refine J.y (op_move rfl rfl) rfl rfl rfl ?_
          refine J.y (op_eql rfl rfl rfl) rfl rfl rfl ?_
          refine J.y (op_move rfl rfl) rfl rfl rfl ?_
          refine J.split (d := 108) rfl (fun h108 => ?_) (fun h108 => ?_)
          ·
            refine J.yg (Wan.is rfl rfl rfl rfl rfl) (op_move rfl rfl) rfl rfl ?_
            refine J.yg (Wan.is rfl rfl rfl rfl rfl) (op_len Tryd.underlying39 rfl rfl) rfl rfl ?_
            refine J.yg (Wan.is rfl rfl rfl rfl rfl) (op_eql rfl rfl rfl) rfl rfl ?_
            refine J.y (op_pickT rfl rfl rfl) rfl rfl rfl ?_
            refine J.nil ?_
            refine J.then_n (J.k hK24 ?_)
            refine J.keepE [(0, _), (1, _), (5, _), (6, _), (7, _), (8, _), (9, _), (10, _), (11, _), (112, _)] ⟨rfl, rfl, rfl, rfl, rfl, rfl, rfl, rfl, rfl, rfl, trivial⟩ ?_
            refine J.ite rfl (fun h112 => ?_) (fun h112 => ?_)
            ·
              refine J.region ?_
              refine J.y (op_assign rfl rfl) rfl rfl rfl ?_
              refine J.nil ?_
              refine J.then_n ?_
              exact J.kk (9) hK23 ((by rw [wa1_fin hk (by rw [← hv1]; exact hv2) hm, ← hv1]; first | rw [if_pos (by omega)] | rw [if_neg (by omega)])) ⟨rfl, rfl, rfl, rfl, rfl, rfl, rfl, rfl, rfl, trivial⟩ (fun _ h => h)
            ·
              refine J.skip ?_
              refine J.then_n ?_
              exact J.kk (v) hK23 ((by rw [wa1_fin hk (by rw [← hv1]; exact hv2) hm, ← hv1]; first | rw [if_pos (by omega)] | rw [if_neg (by omega)])) ⟨rfl, rfl, rfl, rfl, rfl, rfl, rfl, rfl, rfl, trivial⟩ (fun _ h => h)
          ·
            refine J.no (Wan.is rfl rfl rfl rfl rfl) rfl rfl ?_
            refine J.no (Wan.is rfl rfl rfl rfl rfl) rfl rfl ?_
            refine J.no (Wan.is rfl rfl rfl rfl rfl) rfl rfl ?_
            refine J.y (op_pickF rfl rfl rfl) rfl rfl rfl ?_
            refine J.nil ?_
            refine J.then_n (J.k hK24 ?_)
            refine J.keepE [(0, _), (1, _), (5, _), (6, _), (7, _), (8, _), (9, _), (10, _), (11, _), (112, _)] ⟨rfl, rfl, rfl, rfl, rfl, rfl, rfl, rfl, rfl, rfl, trivial⟩ ?_
            refine J.condF rfl rfl ?_
            refine J.skip ?_
            refine J.then_n ?_
            exact J.kk (v) hK23 ((by rw [wa1_fin hk (by rw [← hv1]; exact hv2) hm, ← hv1]; first | rw [if_pos (by omega)] | rw [if_neg (by omega)])) ⟨rfl, rfl, rfl, rfl, rfl, rfl, rfl, rfl, rfl, trivial⟩ (fun _ h => h)
        rintro y hv
        refine J.cut (X := Unit) (fun ζ => [(0, .slice A0 n0 c0), (1, I (at1)), (5, Ptr g17), (6, .slice A m.length c), (7, I ((i : Nat) : Int)), (8, Ptr g8), (10, I (addE (m.map toA) x.nm (keyO x.key) z16 x.ht))]) (fun ζ => [F, mr, m50, blk g8 [Str (x.nm), B8 (x.key), I (x.ht)] 43]) (fun ζ => True) (fun K25 hK25 => ?_) ?_
        ·
          refine J.seq (fun K26 hK26 => ?_)
          refine J.region ?_
          refine J.y (op_move rfl rfl) rfl rfl rfl ?_
          refine J.y (op_move rfl rfl) rfl rfl rfl ?_
          refine J.y ((op_neq rfl rfl rfl).as (v' := .bool false) (congrArg Value.bool (decide_eq_false (fun h => h hv)))) rfl rfl rfl ?_
          refine J.y (op_move rfl rfl) rfl rfl rfl ?_
          refine J.yg (Wan.is rfl rfl rfl rfl rfl) (op_move rfl rfl) rfl rfl ?_
          refine J.yg (Wan.is rfl rfl rfl rfl rfl) (op_eql rfl rfl rfl) rfl rfl ?_
          refine J.yg (Wan.is rfl rfl rfl rfl rfl) (op_move rfl rfl) rfl rfl ?_
          refine J.split (d := 119) rfl (fun h119 => ?_) (fun h119 => ?_)
          ·
            refine J.yg (Wan.is rfl rfl rfl rfl rfl) (op_move rfl rfl) rfl rfl ?_
            refine J.yg (Wan.is rfl rfl rfl rfl rfl) (op_move rfl rfl) rfl rfl ?_
            refine J.yg (Wan.is rfl rfl rfl rfl rfl) (op_len Tryd.underlying39 rfl rfl) rfl rfl ?_
            refine J.yg (Wan.is rfl rfl rfl rfl rfl) ((op_neq rfl rfl rfl).as (v' := .bool false) (congrArg Value.bool (decide_eq_false (by unfold addNo; rw [if_pos h119, List.length_map]; exact fun h => h rfl)))) rfl rfl ?_
            refine J.yg (Wan.is rfl rfl rfl rfl rfl) (op_pickT rfl rfl rfl) rfl rfl ?_
            refine J.y (op_pickF rfl rfl rfl) rfl rfl rfl ?_
            refine J.y (op_move rfl rfl) rfl rfl rfl ?_
            refine J.yg (Wan.is rfl rfl rfl rfl rfl) (op_move rfl rfl) rfl rfl ?_
            refine J.yg (Wan.is rfl rfl rfl rfl rfl) (op_neq rfl rfl rfl) rfl rfl ?_
            refine J.yg (Wan.is rfl rfl rfl rfl rfl) (op_move rfl rfl) rfl rfl ?_
            refine J.split (d := 129) rfl (fun h129 => ?_) (fun h129 => ?_)
            ·
              refine J.yg (Wan.is rfl rfl rfl rfl rfl) (op_move rfl rfl) rfl rfl ?_
              refine J.yg (Wan.is rfl rfl rfl rfl rfl) ((op_neq rfl rfl rfl).as (v' := .bool false) (congrArg Value.bool (decide_eq_false (by first | exact absurd h119 h129 | (unfold addNo; rw [if_neg h119]; exact fun h => h rfl))))) rfl rfl ?_
              refine J.yg (Wan.is rfl rfl rfl rfl rfl) (op_pickT rfl rfl rfl) rfl rfl ?_
              refine J.y (op_pickF rfl rfl rfl) rfl rfl rfl ?_
              refine J.nil ?_
              refine J.then_n (J.k hK26 ?_)
              refine J.keepE [(0, _), (1, _), (5, _), (6, _), (7, _), (8, _), (10, _), (133, _)] ⟨rfl, rfl, rfl, rfl, rfl, rfl, rfl, rfl, trivial⟩ ?_
              refine J.condF rfl rfl ?_
              refine J.skip ?_
              refine J.then_n ?_
              exact J.kk () hK25 (trivial) ⟨rfl, rfl, rfl, rfl, rfl, rfl, rfl, trivial⟩ (fun _ h => h)
            ·
              refine J.no (Wan.is rfl rfl rfl rfl rfl) rfl rfl ?_
              refine J.no (Wan.is rfl rfl rfl rfl rfl) rfl rfl ?_
              refine J.yg (Wan.is rfl rfl rfl rfl rfl) (op_pickF rfl rfl rfl) rfl rfl ?_
              refine J.y (op_pickF rfl rfl rfl) rfl rfl rfl ?_
              refine J.nil ?_
              refine J.then_n (J.k hK26 ?_)
              refine J.keepE [(0, _), (1, _), (5, _), (6, _), (7, _), (8, _), (10, _), (133, _)] ⟨rfl, rfl, rfl, rfl, rfl, rfl, rfl, rfl, trivial⟩ ?_
              refine J.condF rfl rfl ?_
              refine J.skip ?_
              refine J.then_n ?_
              exact J.kk () hK25 (trivial) ⟨rfl, rfl, rfl, rfl, rfl, rfl, rfl, trivial⟩ (fun _ h => h)
          ·
            refine J.no (Wan.is rfl rfl rfl rfl rfl) rfl rfl ?_
            refine J.no (Wan.is rfl rfl rfl rfl rfl) rfl rfl ?_
            refine J.no (Wan.is rfl rfl rfl rfl rfl) rfl rfl ?_
            refine J.no (Wan.is rfl rfl rfl rfl rfl) rfl rfl ?_
            refine J.yg (Wan.is rfl rfl rfl rfl rfl) (op_pickF rfl rfl rfl) rfl rfl ?_
            refine J.y (op_pickF rfl rfl rfl) rfl rfl rfl ?_
            refine J.y (op_move rfl rfl) rfl rfl rfl ?_
            refine J.yg (Wan.is rfl rfl rfl rfl rfl) (op_move rfl rfl) rfl rfl ?_
            refine J.yg (Wan.is rfl rfl rfl rfl rfl) (op_neq rfl rfl rfl) rfl rfl ?_
            refine J.yg (Wan.is rfl rfl rfl rfl rfl) (op_move rfl rfl) rfl rfl ?_
            refine J.split (d := 129) rfl (fun h129 => ?_) (fun h129 => ?_)
            ·
              refine J.yg (Wan.is rfl rfl rfl rfl rfl) (op_move rfl rfl) rfl rfl ?_
              refine J.yg (Wan.is rfl rfl rfl rfl rfl) ((op_neq rfl rfl rfl).as (v' := .bool false) (congrArg Value.bool (decide_eq_false (by first | exact absurd h119 h129 | (unfold addNo; rw [if_neg h119]; exact fun h => h rfl))))) rfl rfl ?_
              refine J.yg (Wan.is rfl rfl rfl rfl rfl) (op_pickT rfl rfl rfl) rfl rfl ?_
              refine J.y (op_pickF rfl rfl rfl) rfl rfl rfl ?_
              refine J.nil ?_
              refine J.then_n (J.k hK26 ?_)
              refine J.keepE [(0, _), (1, _), (5, _), (6, _), (7, _), (8, _), (10, _), (133, _)] ⟨rfl, rfl, rfl, rfl, rfl, rfl, rfl, rfl, trivial⟩ ?_
              refine J.condF rfl rfl ?_
              refine J.skip ?_
              refine J.then_n ?_
              exact J.kk () hK25 (trivial) ⟨rfl, rfl, rfl, rfl, rfl, rfl, rfl, trivial⟩ (fun _ h => h)
            ·
              refine J.no (Wan.is rfl rfl rfl rfl rfl) rfl rfl ?_
              refine J.no (Wan.is rfl rfl rfl rfl rfl) rfl rfl ?_
              refine J.yg (Wan.is rfl rfl rfl rfl rfl) (op_pickF rfl rfl rfl) rfl rfl ?_
              refine J.y (op_pickF rfl rfl rfl) rfl rfl rfl ?_
              refine J.nil ?_
              refine J.then_n (J.k hK26 ?_)
              refine J.keepE [(0, _), (1, _), (5, _), (6, _), (7, _), (8, _), (10, _), (133, _)] ⟨rfl, rfl, rfl, rfl, rfl, rfl, rfl, rfl, trivial⟩ ?_
              refine J.condF rfl rfl ?_
              refine J.skip ?_
              refine J.then_n ?_
              exact J.kk () hK25 (trivial) ⟨rfl, rfl, rfl, rfl, rfl, rfl, rfl, trivial⟩ (fun _ h => h)
        rintro _ _
        refine J.cut (X := List Lau × Option Addr × Nat × Hp) (fun ζ => [(0, .slice A0 n0 c0), (1, I (at1)), (5, Ptr g17), (6, .slice ζ.2.1 ζ.1.length ζ.2.2.1), (7, I ((i : Nat) : Int))]) (fun ζ => [F, ζ.2.2.2, m50]) (fun ζ => ζ.1.length ≤ 64 ∧ Row ζ.2.2.2 43 3 ζ.2.1 ζ.1.length ζ.2.2.1 (lausV ζ.1) ∧ Rost m50 g17 (ζ.1.map toA)) (fun K27 hK27 => ?_) ?_
        ·
          refine J.seq (fun K28 hK28 => ?_)
          refine J.region ?_
          refine J.y (op_move rfl rfl) rfl rfl rfl ?_
          refine J.y (op_eql rfl rfl rfl) rfl rfl rfl ?_
          refine J.nil ?_
          refine J.then_n (J.k hK28 ?_)
          refine J.keepE [(0, _), (1, _), (5, _), (6, _), (7, _), (8, _), (135, _)] ⟨rfl, rfl, rfl, rfl, rfl, rfl, rfl, trivial⟩ ?_
          refine J.ite rfl (fun h135 => ?_) (fun h135 => ?_)
          ·
            refine J.draw [F, mr, m50, blk g8 [Str (x.nm), B8 (x.key), I (x.ht)] 43] [] (.y 1 (.y 3 (.br (.e 0 (.br (.e 2 (.e 4 (.e 5 (.y 6 .nil)))) (.e 4 (.e 2 (.e 5 (.y 6 .nil)))))) (.e 4 (.e 0 (.e 2 (.e 5 (.y 6 .nil)))))))) Tryd.wide (by decide +kernel) (by simp) ?_
            refine J.dy rfl (op_move rfl rfl) rfl rfl rfl rfl ?_
            refine J.dy rfl (op_loadBA 3 rfl rfl rfl Tryd.isAgg43 Tryd.sizeOf43 rfl) rfl rfl rfl rfl ?_
            refine J.dbr ?_ ?_
            ·
              refine J.de rfl (op_buildSlice0 rfl Tryd.underlying39 el43) rfl rfl rfl (by simp) ?_
              intro g136 _
              change J _ _ _ [F, mr, m50, blk g8 [Str (x.nm), B8 (x.key), I (x.ht)] 43, blk g136 [] 43] _
              refine J.dbr ?_ ?_
              ·
                refine J.de rfl (op_append (i := 4) (xs := lausV ([])) (m2 := mr) (ys := lausV m) rfl rfl rfl Tryd.underlying39 Tryd.underlying39 el43 rfl (row_blk (q := True) (xs := lausV ([])) rfl (by intro x hx; first | exact absurd hx (List.not_mem_nil) | (rw [List.mem_singleton.1 hx]; rfl))) (by simp) (hr.sl) (one_laus _) (by first | omega | (simp only [List.length_append, List.length_cons, List.length_nil, List.length_take, List.length_drop] at *; omega)) (by first | omega | (simp only [List.length_append, List.length_cons, List.length_nil, List.length_take, List.length_drop] at *; omega))) rfl rfl rfl (by simp) ?_
                rintro ⟨A138, c138, m138⟩ h138
                try dsimp only at h138
                change J _ ((138, .slice A138 (0 + m.length) c138) :: _) _ [F, mr, m50, blk g8 [Str (x.nm), B8 (x.key), I (x.ht)] 43, m138] _
                replace h138 : Row m138 43 3 A138 (0 + m.length) c138 (lausV (m)) := h138
                refine J.de rfl (op_buildSlice (l := [.tmp 139]) (xs := [[Str (x.nm), B8 (x.key), I (x.ht)]]) rfl rfl rfl rfl Tryd.underlying39 el43 rfl (by decide) (by decide) (by simp)) rfl rfl rfl (by simp) ?_
                intro g140 _
                change J _ _ _ [F, mr, m50, blk g8 [Str (x.nm), B8 (x.key), I (x.ht)] 43, m138, blk g140 [Str (x.nm), B8 (x.key), I (x.ht)] 43] _
                refine J.de rfl (op_append (i := 4) (xs := lausV m) (m2 := blk g140 [Str (x.nm), B8 (x.key), I (x.ht)] 43) (ys := [[Str (x.nm), B8 (x.key), I (x.ht)]]) rfl rfl rfl Tryd.underlying39 Tryd.underlying39 el43 rfl h138 (by simp) ((row_blk (q := True) (xs := lausV [x]) rfl (by intro x hx; rw [List.mem_singleton.1 hx]; rfl)).sl) rfl (by first | omega | (simp only [List.length_append, List.length_cons, List.length_nil, List.length_take, List.length_drop] at *; omega)) (by first | omega | (simp only [List.length_append, List.length_cons, List.length_nil, List.length_take, List.length_drop] at *; omega))) rfl rfl rfl (by simp) ?_
                rintro ⟨A141, c141, m141⟩ h141
                try dsimp only at h141
                change J _ ((141, .slice A141 ((0 + m.length) + 1) c141) :: _) _ [F, mr, m50, blk g8 [Str (x.nm), B8 (x.key), I (x.ht)] 43, m141, blk g140 [Str (x.nm), B8 (x.key), I (x.ht)] 43] _
                replace h141 : Row m141 43 3 A141 ((0 + m.length) + 1) c141 (lausV (m ++ ([x]))) := by rw [lausV_snoc]; exact h141
                refine J.dy rfl (op_assign rfl rfl) rfl rfl rfl rfl ?_
                refine J.dnil ?_
                refine J.then_n ?_
                exact J.kk (m ++ ([x]), A141, c141, m141) hK27 ((by first | exact ⟨hm, hr, (congrArg (Rost m50 g17) (addL_no h135)).mp h50⟩ | exact ⟨by rw [List.length_append]; have := add_room h135; simp; omega, by dsimp only; rw [show (m ++ [x]).length = 0 + m.length + 1 by rw [List.length_append, Nat.zero_add]; rfl]; exact h141, (congrArg (Rost m50 g17) (addL_yes h135)).mp h50⟩)) ⟨rfl, rfl, rfl, (by first | rfl | (dsimp only; rw [show (m ++ [x]).length = 0 + m.length + 1 by rw [List.length_append, Nat.zero_add]; rfl]; rfl)), rfl, trivial⟩ (fun _ h => h.pick [0, 4, 2] (by decide))
              ·
                refine J.de rfl (op_buildSlice (l := [.tmp 139]) (xs := [[Str (x.nm), B8 (x.key), I (x.ht)]]) rfl rfl rfl rfl Tryd.underlying39 el43 rfl (by decide) (by decide) (by simp)) rfl rfl rfl (by simp) ?_
                intro g140 _
                change J _ _ _ [F, mr, m50, blk g8 [Str (x.nm), B8 (x.key), I (x.ht)] 43, blk g136 [] 43, blk g140 [Str (x.nm), B8 (x.key), I (x.ht)] 43] _
                refine J.de rfl (op_append (i := 4) (xs := lausV ([])) (m2 := mr) (ys := lausV m) rfl rfl rfl Tryd.underlying39 Tryd.underlying39 el43 rfl (row_blk (q := True) (xs := lausV ([])) rfl (by intro x hx; first | exact absurd hx (List.not_mem_nil) | (rw [List.mem_singleton.1 hx]; rfl))) (by simp) (hr.sl) (one_laus _) (by first | omega | (simp only [List.length_append, List.length_cons, List.length_nil, List.length_take, List.length_drop] at *; omega)) (by first | omega | (simp only [List.length_append, List.length_cons, List.length_nil, List.length_take, List.length_drop] at *; omega))) rfl rfl rfl (by simp) ?_
                rintro ⟨A138, c138, m138⟩ h138
                try dsimp only at h138
                change J _ ((138, .slice A138 (0 + m.length) c138) :: _) _ [F, mr, m50, blk g8 [Str (x.nm), B8 (x.key), I (x.ht)] 43, m138, blk g140 [Str (x.nm), B8 (x.key), I (x.ht)] 43] _
                replace h138 : Row m138 43 3 A138 (0 + m.length) c138 (lausV (m)) := h138
                refine J.de rfl (op_append (i := 4) (xs := lausV m) (m2 := blk g140 [Str (x.nm), B8 (x.key), I (x.ht)] 43) (ys := [[Str (x.nm), B8 (x.key), I (x.ht)]]) rfl rfl rfl Tryd.underlying39 Tryd.underlying39 el43 rfl h138 (by simp) ((row_blk (q := True) (xs := lausV [x]) rfl (by intro x hx; rw [List.mem_singleton.1 hx]; rfl)).sl) rfl (by first | omega | (simp only [List.length_append, List.length_cons, List.length_nil, List.length_take, List.length_drop] at *; omega)) (by first | omega | (simp only [List.length_append, List.length_cons, List.length_nil, List.length_take, List.length_drop] at *; omega))) rfl rfl rfl (by simp) ?_
                rintro ⟨A141, c141, m141⟩ h141
                try dsimp only at h141
                change J _ ((141, .slice A141 ((0 + m.length) + 1) c141) :: _) _ [F, mr, m50, blk g8 [Str (x.nm), B8 (x.key), I (x.ht)] 43, m141, blk g140 [Str (x.nm), B8 (x.key), I (x.ht)] 43] _
                replace h141 : Row m141 43 3 A141 ((0 + m.length) + 1) c141 (lausV (m ++ ([x]))) := by rw [lausV_snoc]; exact h141
                refine J.dy rfl (op_assign rfl rfl) rfl rfl rfl rfl ?_
                refine J.dnil ?_
                refine J.then_n ?_
                exact J.kk (m ++ ([x]), A141, c141, m141) hK27 ((by first | exact ⟨hm, hr, (congrArg (Rost m50 g17) (addL_no h135)).mp h50⟩ | exact ⟨by rw [List.length_append]; have := add_room h135; simp; omega, by dsimp only; rw [show (m ++ [x]).length = 0 + m.length + 1 by rw [List.length_append, Nat.zero_add]; rfl]; exact h141, (congrArg (Rost m50 g17) (addL_yes h135)).mp h50⟩)) ⟨rfl, rfl, rfl, (by first | rfl | (dsimp only; rw [show (m ++ [x]).length = 0 + m.length + 1 by rw [List.length_append, Nat.zero_add]; rfl]; rfl)), rfl, trivial⟩ (fun _ h => h.pick [0, 4, 2] (by decide))
            ·
              refine J.de rfl (op_buildSlice (l := [.tmp 139]) (xs := [[Str (x.nm), B8 (x.key), I (x.ht)]]) rfl rfl rfl rfl Tryd.underlying39 el43 rfl (by decide) (by decide) (by simp)) rfl rfl rfl (by simp) ?_
              intro g140 _
              change J _ _ _ [F, mr, m50, blk g8 [Str (x.nm), B8 (x.key), I (x.ht)] 43, blk g140 [Str (x.nm), B8 (x.key), I (x.ht)] 43] _
              refine J.de rfl (op_buildSlice0 rfl Tryd.underlying39 el43) rfl rfl rfl (by simp) ?_
              intro g136 _
              change J _ _ _ [F, mr, m50, blk g8 [Str (x.nm), B8 (x.key), I (x.ht)] 43, blk g140 [Str (x.nm), B8 (x.key), I (x.ht)] 43, blk g136 [] 43] _
              refine J.de rfl (op_append (i := 5) (xs := lausV ([])) (m2 := mr) (ys := lausV m) rfl rfl rfl Tryd.underlying39 Tryd.underlying39 el43 rfl (row_blk (q := True) (xs := lausV ([])) rfl (by intro x hx; first | exact absurd hx (List.not_mem_nil) | (rw [List.mem_singleton.1 hx]; rfl))) (by simp) (hr.sl) (one_laus _) (by first | omega | (simp only [List.length_append, List.length_cons, List.length_nil, List.length_take, List.length_drop] at *; omega)) (by first | omega | (simp only [List.length_append, List.length_cons, List.length_nil, List.length_take, List.length_drop] at *; omega))) rfl rfl rfl (by simp) ?_
              rintro ⟨A138, c138, m138⟩ h138
              try dsimp only at h138
              change J _ ((138, .slice A138 (0 + m.length) c138) :: _) _ [F, mr, m50, blk g8 [Str (x.nm), B8 (x.key), I (x.ht)] 43, blk g140 [Str (x.nm), B8 (x.key), I (x.ht)] 43, m138] _
              replace h138 : Row m138 43 3 A138 (0 + m.length) c138 (lausV (m)) := h138
              refine J.de rfl (op_append (i := 5) (xs := lausV m) (m2 := blk g140 [Str (x.nm), B8 (x.key), I (x.ht)] 43) (ys := [[Str (x.nm), B8 (x.key), I (x.ht)]]) rfl rfl rfl Tryd.underlying39 Tryd.underlying39 el43 rfl h138 (by simp) ((row_blk (q := True) (xs := lausV [x]) rfl (by intro x hx; rw [List.mem_singleton.1 hx]; rfl)).sl) rfl (by first | omega | (simp only [List.length_append, List.length_cons, List.length_nil, List.length_take, List.length_drop] at *; omega)) (by first | omega | (simp only [List.length_append, List.length_cons, List.length_nil, List.length_take, List.length_drop] at *; omega))) rfl rfl rfl (by simp) ?_
              rintro ⟨A141, c141, m141⟩ h141
              try dsimp only at h141
              change J _ ((141, .slice A141 ((0 + m.length) + 1) c141) :: _) _ [F, mr, m50, blk g8 [Str (x.nm), B8 (x.key), I (x.ht)] 43, blk g140 [Str (x.nm), B8 (x.key), I (x.ht)] 43, m141] _
              replace h141 : Row m141 43 3 A141 ((0 + m.length) + 1) c141 (lausV (m ++ ([x]))) := by rw [lausV_snoc]; exact h141
              refine J.dy rfl (op_assign rfl rfl) rfl rfl rfl rfl ?_
              refine J.dnil ?_
              refine J.then_n ?_
              exact J.kk (m ++ ([x]), A141, c141, m141) hK27 ((by first | exact ⟨hm, hr, (congrArg (Rost m50 g17) (addL_no h135)).mp h50⟩ | exact ⟨by rw [List.length_append]; have := add_room h135; simp; omega, by dsimp only; rw [show (m ++ [x]).length = 0 + m.length + 1 by rw [List.length_append, Nat.zero_add]; rfl]; exact h141, (congrArg (Rost m50 g17) (addL_yes h135)).mp h50⟩)) ⟨rfl, rfl, rfl, (by first | rfl | (dsimp only; rw [show (m ++ [x]).length = 0 + m.length + 1 by rw [List.length_append, Nat.zero_add]; rfl]; rfl)), rfl, trivial⟩ (fun _ h => h.pick [0, 5, 2] (by decide))
          ·
            refine J.skip ?_
            refine J.then_n ?_
            exact J.kk (m, A, c, mr) hK27 ((by first | exact ⟨hm, hr, (congrArg (Rost m50 g17) (addL_no h135)).mp h50⟩ | exact ⟨by rw [List.length_append]; have := add_room h135; simp; omega, by dsimp only; rw [show (m ++ [x]).length = 0 + m.length + 1 by rw [List.length_append, Nat.zero_add]; rfl]; exact h141, (congrArg (Rost m50 g17) (addL_yes h135)).mp h50⟩)) ⟨rfl, rfl, rfl, (by first | rfl | (dsimp only; rw [show (m ++ [x]).length = 0 + m.length + 1 by rw [List.length_append, Nat.zero_add]; rfl]; rfl)), rfl, trivial⟩ (fun _ h => h.pick [0, 1, 2] (by decide))
        rintro ⟨q, A2, c2, mq⟩ ⟨hq1, hq, hb2⟩
        dsimp only at hq1 hq hb2 ⊢
        refine J.seq (fun K29 hK29 => ?_)
        refine J.region ?_
        refine J.y (op_move rfl rfl) rfl rfl rfl ?_
        refine J.e (op_call rfl rfl ent30 (Ct.use1 2 (m' := fun _ : Unit => m50) (new := fun _ => []) rfl (fun F' hF => rlen20_ct F' m50 g17 (q.map toA) hb2 ))) rfl rfl rfl ?_
        rintro _ _
        change J _ _ _ [F, mq, m50] _
        refine J.y (op_move rfl rfl) rfl rfl rfl ?_
        refine J.y (op_len Tryd.underlying39 rfl rfl) rfl rfl rfl ?_
        refine J.y ((op_neq rfl rfl rfl).as (v' := .bool false) (congrArg Value.bool (decide_eq_false (by rw [List.length_map]; exact fun h => h rfl)))) rfl rfl rfl ?_
        refine J.nil ?_
        refine J.then_n (J.k hK29 ?_)
        refine J.keepE [(0, _), (1, _), (5, _), (6, _), (7, _), (146, _)] ⟨rfl, rfl, rfl, rfl, rfl, rfl, trivial⟩ ?_
        refine J.condF rfl rfl ?_
        refine J.skip ?_
        refine J.blk_n ?_
        refine J.then_n (J.k hK10 ?_)
        refine J.keepE [(0, _), (1, _), (5, _), (6, _), (7, _)] ⟨rfl, rfl, rfl, rfl, rfl, trivial⟩ ?_
        refine J.region ?_
        refine J.y (op_move rfl rfl) rfl rfl rfl ?_
        refine J.y ((op_add rfl rfl rfl (by first | omega | (simp only [List.length_append, List.length_cons, List.length_nil, List.length_take, List.length_drop] at *; omega))).as (v' := I ((i + 1 : Nat) : Int)) (congrArg I (by omega))) rfl rfl rfl ?_
        refine J.y (op_assign rfl rfl) rfl rfl rfl ?_
        refine J.nil ?_
        refine J.then_n ?_
        exact J.kk (i + 1, q, A2, c2, mq, m50) (fun η (hη : _ ∧ 80 - η.1 < 80 - i) => hI0 η hη.1 hη.2) ⟨⟨by dsimp only; omega, hq1, hq, hb2⟩, by first | omega | (dsimp only; omega)⟩ ⟨rfl, rfl, rfl, rfl, rfl, trivial⟩ (fun _ h => h)
      ·
        refine J.exit ?_
        refine J.then_x ?_
        refine J.then_x ?_
        refine J.blk_eq ?_
        refine J.then_n ?_
        exact J.kk (m, A, c, mr, mo) hK6 (⟨hm, hr, hb⟩) ⟨rfl, rfl, rfl, trivial⟩ (fun _ h => h)
    ·
      refine J.no (Wan.is rfl rfl rfl rfl rfl) rfl rfl ?_
      refine J.no (Wan.is rfl rfl rfl rfl rfl) rfl rfl ?_
      refine J.y (op_pickF rfl rfl rfl) rfl rfl rfl ?_
      refine J.nil ?_
      refine J.then_n (J.k hK9 ?_)
      refine J.keepE [(0, _), (1, _), (5, _), (6, _), (7, _), (25, _)] ⟨rfl, rfl, rfl, rfl, rfl, rfl, trivial⟩ ?_
      refine J.condF rfl rfl ?_
      refine J.exit ?_
      refine J.then_x ?_
      refine J.then_x ?_
      refine J.blk_eq ?_
      refine J.then_n ?_
      exact J.kk (m, A, c, mr, mo) hK6 (⟨hm, hr, hb⟩) ⟨rfl, rfl, rfl, trivial⟩ (fun _ h => h)
  rintro ⟨m, A, c, mr, mo⟩ ⟨hm, hr, hb⟩
  dsimp only at hm hr hb ⊢
  refine J.seq (fun K30 hK30 => ?_)
  refine J.region ?_
  refine J.y (op_move rfl rfl) rfl rfl rfl ?_
  refine J.y (op_move rfl rfl) rfl rfl rfl ?_
  refine J.e (op_call rfl rfl ent31 (Ct.use1 2 (m' := fun _ : Unit => mo) (new := fun _ => []) rfl (fun F' hF => rat_ct F' mo g17 (m.map toA) hb at1))) rfl rfl rfl ?_
  rintro _ _
  change J _ _ _ [F, mr, mo] _
  refine J.y (op_move rfl rfl) rfl rfl rfl ?_
  refine J.y (op_extract (v := .agg #[Str ((atA (m.map toA) at1).nm), Str ((atA (m.map toA) at1).op), Str ((atA (m.map toA) at1).rt), I ((atA (m.map toA) at1).ht)]) rfl rfl rfl) rfl rfl rfl ?_
  refine J.y (op_extract (v := I (if 0 ≤ at1 ∧ at1 < (m.map toA).length then 0 else 20)) rfl rfl rfl) rfl rfl rfl ?_
  refine J.e (op_alloc (l := [Str [], Str [], Str [], I 0]) rfl Tryd.zeroValue50 rfl) rfl rfl rfl ?_
  intro g13 _
  change J _ _ _ [F, mr, mo, blk g13 [Str [], Str [], Str [], I 0] 50] _
  refine J.s (op_storeAll (i := 3) (l := [Str [], Str [], Str [], I 0]) (vs := [Str ((atA (m.map toA) at1).nm), Str ((atA (m.map toA) at1).op), Str ((atA (m.map toA) at1).rt), I ((atA (m.map toA) at1).ht)]) rfl rfl rfl rfl rfl Tryd.sizeOf50 rfl rfl) rfl rfl (fun _ _ => ?_)
  change J _ _ _ [F, mr, mo, blk g13 [Str ((atA (m.map toA) at1).nm), Str ((atA (m.map toA) at1).op), Str ((atA (m.map toA) at1).rt), I ((atA (m.map toA) at1).ht)] 50] _
  refine J.y (op_assign rfl rfl) rfl rfl rfl ?_
  refine J.nil ?_
  refine J.then_n (J.k hK30 ?_)
  refine J.keepE [(1, _), (6, _), (13, _), (14, _)] ⟨rfl, rfl, rfl, rfl, trivial⟩ ?_
  refine J.seq (fun K31 hK31 => ?_)
  refine J.seq (fun K32 hK32 => ?_)
  refine J.region ?_
  refine J.y (op_move rfl rfl) rfl rfl rfl ?_
  refine J.y (op_lss rfl rfl rfl) rfl rfl rfl ?_
  refine J.y (op_move rfl rfl) rfl rfl rfl ?_
  refine J.split (d := 155) rfl (fun h155 => ?_) (fun h155 => ?_)
  ·
    refine J.no (Wan.is rfl rfl rfl rfl rfl) rfl rfl ?_
    refine J.no (Wan.is rfl rfl rfl rfl rfl) rfl rfl ?_
    refine J.no (Wan.is rfl rfl rfl rfl rfl) rfl rfl ?_
    refine J.no (Wan.is rfl rfl rfl rfl rfl) rfl rfl ?_
    refine J.y (op_pickT rfl rfl rfl) rfl rfl rfl ?_
    refine J.nil ?_
    refine J.then_n (J.k hK32 ?_)
    refine J.keepE [(1, _), (6, _), (13, _), (14, _), (160, _)] ⟨rfl, rfl, rfl, rfl, rfl, trivial⟩ ?_
    refine J.condT rfl rfl ?_
    refine J.seq (fun K33 hK33 => ?_)
    refine J.region ?_
    refine J.y (op_move rfl rfl) rfl rfl rfl ?_
    refine J.y ((op_eql rfl rfl rfl).as (v' := .bool true) (congrArg Value.bool (decide_eq_true (by rw [if_neg (by rw [List.length_map]; omega)])))) rfl rfl rfl ?_
    refine J.y (op_assign rfl rfl) rfl rfl rfl ?_
    refine J.nil ?_
    refine J.then_n (J.k hK33 ?_)
    refine J.keepE [(4, _)] ⟨rfl, trivial⟩ ?_
    refine J.ret ?_
    refine J.then_r ?_
    exact J.done hw0 (fun _ _ h => h) (res1 rfl rfl) (retOk () rfl trivial [0] rfl (by decide))
  ·
    refine J.yg (Wan.is rfl rfl rfl rfl rfl) (op_move rfl rfl) rfl rfl ?_
    refine J.yg (Wan.is rfl rfl rfl rfl rfl) (op_move rfl rfl) rfl rfl ?_
    refine J.yg (Wan.is rfl rfl rfl rfl rfl) (op_len Tryd.underlying39 rfl rfl) rfl rfl ?_
    refine J.yg (Wan.is rfl rfl rfl rfl rfl) (op_geq rfl rfl rfl) rfl rfl ?_
    refine J.y (op_pickF rfl rfl rfl) rfl rfl rfl ?_
    refine J.nil ?_
    refine J.then_n (J.k hK32 ?_)
    refine J.keepE [(1, _), (6, _), (13, _), (14, _), (160, _)] ⟨rfl, rfl, rfl, rfl, rfl, trivial⟩ ?_
    refine J.ite rfl (fun h160 => ?_) (fun h160 => ?_)
    ·
      refine J.seq (fun K34 hK34 => ?_)
      refine J.region ?_
      refine J.y (op_move rfl rfl) rfl rfl rfl ?_
      refine J.y ((op_eql rfl rfl rfl).as (v' := .bool true) (congrArg Value.bool (decide_eq_true (by rw [if_neg (by rw [List.length_map]; omega)])))) rfl rfl rfl ?_
      refine J.y (op_assign rfl rfl) rfl rfl rfl ?_
      refine J.nil ?_
      refine J.then_n (J.k hK34 ?_)
      refine J.keepE [(4, _)] ⟨rfl, trivial⟩ ?_
      refine J.ret ?_
      refine J.then_r ?_
      exact J.done hw0 (fun _ _ h => h) (res1 rfl rfl) (retOk () rfl trivial [0] rfl (by decide))
    ·
      refine J.skip ?_
      refine J.then_n (J.k hK31 ?_)
      refine J.keepE [(1, _), (6, _), (13, _), (14, _)] ⟨rfl, rfl, rfl, rfl, trivial⟩ ?_
      refine J.seq (fun K35 hK35 => ?_)
      obtain ⟨k, rfl⟩ := Int.eq_ofNat_of_zero_le (show 0 ≤ at1 by omega)
      have hk : atA (m.map toA) ((k : Nat) : Int) = (toA (m.getD k noLau)) := by unfold atA; rw [if_pos (by rw [List.length_map]; omega), Int.toNat_natCast, List.getD_eq_getElem?_getD, List.getElem?_map, List.getElem?_eq_getElem (show k < m.length by omega), List.getD_eq_getElem?_getD, List.getElem?_eq_getElem (show k < m.length by omega)]; rfl
      rw [hk]
      refine J.draw [F, mr, mo, blk g13 [Str ((toA (m.getD k noLau)).nm), Str ((toA (m.getD k noLau)).op), Str ((toA (m.getD k noLau)).rt), I ((toA (m.getD k noLau)).ht)] 50] [] (.y 0 (.y 1 (.y 2 (.y 3 (.y 4 (.y 5 (.y 6 (.y 7 (.y 8 (.y 9 (.y 10 (.y 11 (.y 12 (.y 13 (.y 14 (.y 15 (.y 16 (.y 17 (.y 18 (.y 19 (.y 20 (.y 21 (.y 22 (.y 23 (.y 24 (.e 25 (.y 26 (.y 27 (.y 28 .nil))))))))))))))))))))))))))))) Tryd.wide (by decide +kernel) (by simp) ?_
      refine J.dy rfl (op_move rfl rfl) rfl rfl rfl rfl ?_
      refine J.dy rfl ((op_eql rfl rfl rfl).as (v' := .bool true) (congrArg Value.bool (decide_eq_true (by rw [if_pos (by rw [List.length_map]; omega)])))) rfl rfl rfl rfl ?_
      refine J.dy rfl (op_move rfl rfl) rfl rfl rfl rfl ?_
      refine J.dyg rfl (op_fieldAddr (j := 0) rfl rfl Tryd.underlying50 rfl Tryd.sizeOf9 rfl) (Wan.is rfl rfl rfl rfl rfl) rfl rfl rfl ?_
      refine J.dyg rfl (op_loadB 3 (v := Str ((toA (m.getD k noLau)).nm)) rfl rfl rfl Tryd.isAgg9 rfl) (Wan.is rfl rfl rfl rfl rfl) rfl rfl rfl ?_
      refine J.dyg rfl (op_move rfl rfl) (Wan.is rfl rfl rfl rfl rfl) rfl rfl rfl ?_
      refine J.dyg rfl (op_move rfl rfl) (Wan.is rfl rfl rfl rfl rfl) rfl rfl rfl ?_
      refine J.dyg rfl (op_indexAddr (i := k) rfl rfl rfl Tryd.underlying39 Tryd.sizeOf43 hr.sl (by first | omega | (simp only [List.length_append, List.length_cons, List.length_nil, List.length_take, List.length_drop] at *; omega))) (Wan.is rfl rfl rfl rfl rfl) rfl rfl rfl ?_
      refine J.dyg rfl (op_fieldAddrE (off := 0) rfl rfl Tryd.underlying43 rfl Tryd.sizeOf9 hr.sl (by first | omega | (simp only [List.length_append, List.length_cons, List.length_nil, List.length_take, List.length_drop] at *; omega)) rfl) (Wan.is rfl rfl rfl rfl rfl) rfl rfl rfl ?_
      refine J.dyg rfl (op_load (v := Str ((m.getD k noLau).nm)) rfl rfl Tryd.isAgg9 (m := mr) (by simp) (hr.sl.part (lausV_get (by first | omega | (simp only [List.length_append, List.length_cons, List.length_nil, List.length_take, List.length_drop] at *; omega))) 0 1)) (Wan.is rfl rfl rfl rfl rfl) rfl rfl rfl ?_
      refine J.dyg rfl ((op_seq rfl rfl rfl).as (v' := .bool true) (congrArg Value.bool (decide_eq_true (rfl)))) (Wan.is rfl rfl rfl rfl rfl) rfl rfl rfl ?_
      refine J.dy rfl (op_pickT rfl rfl rfl) rfl rfl rfl rfl ?_
      refine J.dy rfl (op_move rfl rfl) rfl rfl rfl rfl ?_
      refine J.dyg rfl (op_fieldAddr (j := 1) rfl rfl Tryd.underlying50 rfl Tryd.sizeOf47 rfl) (Wan.is rfl rfl rfl rfl rfl) rfl rfl rfl ?_
      refine J.dyg rfl (op_loadA (vs := [Str ((toA (m.getD k noLau)).op), Str ((toA (m.getD k noLau)).rt), I ((toA (m.getD k noLau)).ht)]) rfl rfl Tryd.isAgg47 Tryd.sizeOf47 (m := blk g13 [Str ((toA (m.getD k noLau)).nm), Str ((toA (m.getD k noLau)).op), Str ((toA (m.getD k noLau)).rt), I ((toA (m.getD k noLau)).ht)] 50) (by simp) (Cells.blk0.sub 1 3) rfl) (Wan.is rfl rfl rfl rfl rfl) rfl rfl rfl ?_
      refine J.dyg rfl (op_move rfl rfl) (Wan.is rfl rfl rfl rfl rfl) rfl rfl rfl ?_
      refine J.dyg rfl (op_move rfl rfl) (Wan.is rfl rfl rfl rfl rfl) rfl rfl rfl ?_
      refine J.dyg rfl (op_indexAddr (i := k) rfl rfl rfl Tryd.underlying39 Tryd.sizeOf43 hr.sl (by first | omega | (simp only [List.length_append, List.length_cons, List.length_nil, List.length_take, List.length_drop] at *; omega))) (Wan.is rfl rfl rfl rfl rfl) rfl rfl rfl ?_
      refine J.dyg rfl (op_fieldAddrE (off := 1) rfl rfl Tryd.underlying43 rfl Tryd.sizeOf5 hr.sl (by first | omega | (simp only [List.length_append, List.length_cons, List.length_nil, List.length_take, List.length_drop] at *; omega)) rfl) (Wan.is rfl rfl rfl rfl rfl) rfl rfl rfl ?_
      refine J.dyg rfl (op_load (v := B8 ((m.getD k noLau).key)) rfl rfl Tryd.isAgg5 (m := mr) (by simp) (hr.sl.part (lausV_get (by first | omega | (simp only [List.length_append, List.length_cons, List.length_nil, List.length_take, List.length_drop] at *; omega))) 1 1)) (Wan.is rfl rfl rfl rfl rfl) rfl rfl rfl ?_
      refine J.dyg rfl (op_move rfl rfl) (Wan.is rfl rfl rfl rfl rfl) rfl rfl rfl ?_
      refine J.dyg rfl (op_move rfl rfl) (Wan.is rfl rfl rfl rfl rfl) rfl rfl rfl ?_
      refine J.dyg rfl (op_indexAddr (i := k) rfl rfl rfl Tryd.underlying39 Tryd.sizeOf43 hr.sl (by first | omega | (simp only [List.length_append, List.length_cons, List.length_nil, List.length_take, List.length_drop] at *; omega))) (Wan.is rfl rfl rfl rfl rfl) rfl rfl rfl ?_
      refine J.dyg rfl (op_fieldAddrE (off := 2) rfl rfl Tryd.underlying43 rfl Tryd.sizeOf3 hr.sl (by first | omega | (simp only [List.length_append, List.length_cons, List.length_nil, List.length_take, List.length_drop] at *; omega)) rfl) (Wan.is rfl rfl rfl rfl rfl) rfl rfl rfl ?_
      refine J.dyg rfl (op_load (v := I ((m.getD k noLau).ht)) rfl rfl Tryd.isAgg3 (m := mr) (by simp) (hr.sl.part (lausV_get (by first | omega | (simp only [List.length_append, List.length_cons, List.length_nil, List.length_take, List.length_drop] at *; omega))) 2 1)) (Wan.is rfl rfl rfl rfl rfl) rfl rfl rfl ?_
      refine J.deg rfl (op_call rfl rfl ent28 (Ct.use0 (fun F' hF => key20_ct F' ((m.getD k noLau).key) ((m.getD k noLau).ht)))) (Wan.is rfl rfl rfl rfl rfl) rfl rfl (by simp) ?_
      intro g188 _
      refine J.dyg rfl ((op_eqS rfl rfl rfl (by kernel_rfl) (fun w => eqPub3 9998 ((toA (m.getD k noLau)).op) ((toA (m.getD k noLau)).rt) ((toA (m.getD k noLau)).ht) (keyO ((m.getD k noLau).key)) z16 ((m.getD k noLau).ht) w)).as (v' := .bool true) (congrArg Value.bool (decide_eq_true ⟨rfl, rfl, rfl⟩))) (Wan.is rfl rfl rfl rfl rfl) rfl rfl rfl ?_
      refine J.dy rfl (op_pickT rfl rfl rfl) rfl rfl rfl rfl ?_
      refine J.dy rfl (op_assign rfl rfl) rfl rfl rfl rfl ?_
      refine J.dnil ?_
      refine J.then_n (J.k hK35 ?_)
      refine J.keepE [(4, _)] ⟨rfl, trivial⟩ ?_
      refine J.ret ?_
      exact J.done hw0 (fun _ _ h => h) (res1 rfl rfl) (retOk () rfl trivial [0] rfl (by decide))

theorem laus_of {H : Type} {enc : TypeId × Value → H} {W : World} {xs : List (List Value)} (h : ∀ x ∈ xs, ∃ fuel y, DataW.trod enc Tryd.prog W 0 (fun _ => true) true fuel 43 x = some y) : ∃ l : List Lau, xs = lausV l ∧ ∀ a ∈ l, True :=
  rows_of (f := Lau.cells) (Q := fun _ => True) fun x hx => by
    obtain ⟨fuel, y, h1⟩ := h x hx
    obtain ⟨hl, hf⟩ := struct_of Tryd.underlying43 h1
    have hc : Tryd.prog.cellsOf 43 = 3 := by kernel_rfl
    have c3 : Tryd.prog.cellsOf 3 = 1 := by kernel_rfl
    have c8 : Tryd.prog.cellsOf 5 = 1 := by kernel_rfl
    have c9 : Tryd.prog.cellsOf 9 = 1 := by kernel_rfl
    rw [hc] at hl
    match x, hl, hf with
    | [a, b, c], _, hf =>
      obtain ⟨_, _, h0⟩ := hf 0 _ rfl
      obtain ⟨_, _, h1⟩ := hf 1 _ rfl
      obtain ⟨_, _, h2⟩ := hf 2 _ rfl
      dsimp only at h0 h1 h2
      rw [c9] at h0
      rw [c8] at h1
      rw [c3] at h2
      obtain ⟨s, rfl⟩ := str_of Tryd.underlying9 h0
      obtain ⟨k, rfl⟩ := u8_of Tryd.underlying5 h1
      obtain ⟨z, rfl, b0⟩ := i64_of Tryd.underlying3 h2
      exact ⟨⟨s, k, z⟩, rfl, trivial⟩

end Go.Proofs.YtpcffgkmpmcobaaDoor
