/- A part of the proof: contracts of functions of the program, each for every state of the heaps that it names. -/
import Derived.Test.YtnkfapecbmmpeaaDoorTopSiG27
import Derived.Test.YtnkfapecbmmpeaaDoorTopSiG24
set_option linter.unusedSimpArgs false
set_option linter.unusedVariables false
namespace Go.Proofs.YtnkfapecbmmpeaaDoor
open Go Go.Fw
set_option maxRecDepth 100000
set_option maxHeartbeats 1000000
theorem ent31 : Enters Tryd.prog 31 := Enters.of Tryd.func31 rfl (by kernel_rfl)
theorem ent37 : Enters Tryd.prog 37 := Enters.of Tryd.func37 rfl (by kernel_rfl)
theorem ent39 : Enters Tryd.prog 39 := Enters.of Tryd.func39 rfl (by kernel_rfl)
theorem ent41 : Enters Tryd.prog 41 := Enters.of Tryd.func41 rfl (by kernel_rfl)
theorem ent43 : Enters Tryd.prog 43 := Enters.of Tryd.func43 rfl (by kernel_rfl)
theorem ent44 : Enters Tryd.prog 44 := Enters.of Tryd.func44 rfl (by kernel_rfl)
attribute [local irreducible] Sha.tagged Wo.pub Wo.publicOf Wo.signs Wo.ends Wo.digs Wo.walk Wo.opn Mk.root Mk.path Mk.climb Xm.root sgC sgP prt

theorem signerOnce_ct (F : Hp) (hK : Cells F ⟨1, 0, none⟩ (Sha.K.map W32)) (A0 : Option Addr) (n0 c0 : Nat) (acts : List UInt8) (hs0 : Sl F 1 A0 n0 c0 (bytesV acts)) (A1 : Option Addr) (n1 c1 : Nat) (msgs : List (List UInt8)) (hs1 : Sl F 1 A1 n1 c1 (strsV msgs)) (A2 : Option Addr) (n2 c2 : Nat) (ks : List UInt8) (hs2 : Sl F 1 A2 n2 c2 (bytesV ks)) (hn1 : n1 ≤ 9223372036854775807) (hn0 : n0 ≤ 9223372036854775807) (hn2 : n2 ≤ 140737488351232) : Ct Tryd.prog 6 [.slice A0 n0 c0, .slice A1 n1 c1, .slice A2 n2 c2] [F] (fun _ : Unit => .bool true) (fun _ => True) (fun _ => [F]) := by
  have hl0 : acts.length = n0 := by have := hs0.1; simpa [bytesV] using this
  have hl1 : msgs.length = n1 := by have := hs1.1; simpa [strsV] using this
  have hl2 : ks.length = n2 := by have := hs2.1; simpa [bytesV] using this
  have hDV0 := DV.new
  refine Ct.walk Tryd.func6 rfl Tryd.ntmps6 rfl (fun w0 hw0 => ?_)
  change J _ [(0, _), (1, _), (2, _)] _ _ _
  refine J.seq (fun K1 hK1 => ?_)
  refine J.region ?_
  refine J.y (op_assign rfl rfl) rfl rfl rfl ?_
  refine J.nil ?_
  refine J.then_n (J.k hK1 ?_)
  refine J.keepE [(0, _), (1, _), (2, _)] ⟨rfl, rfl, rfl, trivial⟩ ?_
  refine J.seq (fun K2 hK2 => ?_)
  refine J.seq (fun K3 hK3 => ?_)
  refine J.region ?_
  refine J.e (op_call rfl rfl ent31 (Ct.use0 (fun F' hF => speaks11_ct F' (hK.mono (hF F (by simp)))))) rfl rfl rfl ?_
  intro g20 _
  refine J.y (op_not rfl rfl) rfl rfl rfl ?_
  refine J.nil ?_
  refine J.then_n (J.k hK3 ?_)
  refine J.keepE [(0, _), (1, _), (2, _), (21, _)] ⟨rfl, rfl, rfl, rfl, trivial⟩ ?_
  refine J.condF rfl rfl ?_
  refine J.skip ?_
  refine J.then_n (J.k hK2 ?_)
  refine J.keepE [(0, _), (1, _), (2, _)] ⟨rfl, rfl, rfl, trivial⟩ ?_
  refine J.seq (fun K4 hK4 => ?_)
  refine J.region ?_
  refine J.e (op_call rfl rfl ent32 (Ct.use (new := fun x : Nat × Hp => [x.2]) (fun F' _ => new_ok_ct F' 10 (by decide) (by decide)))) rfl rfl rfl ?_
  rintro ⟨g23, m23⟩ h23
  try dsimp only at h23
  change J _ ((23, .tuple #[Ptr g23, I 0]) :: _) _ [F, m23] _
  obtain ⟨A3, c3, B3, e3, hc3, hL3, hW3⟩ := h23.see
  refine J.y (op_move rfl rfl) rfl rfl rfl ?_
  refine J.y (op_extract (v := Ptr g23) rfl rfl rfl) rfl rfl rfl ?_
  refine J.y (op_extract (v := I ((0 : Nat) : Int)) rfl rfl rfl) rfl rfl rfl ?_
  refine J.y (op_assign rfl rfl) rfl rfl rfl ?_
  refine J.y (op_assign rfl rfl) rfl rfl rfl ?_
  refine J.nil ?_
  refine J.then_n (J.k hK4 ?_)
  refine J.keepE [(0, _), (1, _), (2, _), (7, _)] ⟨rfl, rfl, rfl, rfl, trivial⟩ ?_
  refine J.seq (fun K5 hK5 => ?_)
  refine J.region ?_
  refine J.y (op_move rfl rfl) rfl rfl rfl ?_
  refine J.e (op_call rfl rfl ent35 (Ct.use (new := fun x : (Nat × Hp) × (Nat × Option Addr × Nat × Hp) × Nat => [x.1.2, blk x.2.1.1 (bkC g23 1 (8 / 2) (XV 0) x.2.1.2.1 x.2.1.2.2.1 false) 130, x.2.1.2.2.2, blk x.2.2 [Ptr x.1.1, Ptr x.2.1.1, I ((0 : Nat) : Int)] 139]) (fun F' hF => sopenV F' (hK.mono (hF F (by simp))) g23 (Dk.new 10) 0 hDV0 (by decide) rfl A3 c3 B3 e3 none 0 (hc3.mono (hF m23 (by simp))) (hL3.mono (hF m23 (by simp))) (hW3.mono (hF m23 (by simp)))))) rfl rfl rfl ?_
  rintro ⟨⟨gk, mk⟩, ⟨gb, Ab, cb, mb⟩, gs⟩ ⟨hk, hb0⟩
  change J _ ((28, .tuple #[Ptr gs, I ((0 : Nat) : Int)]) :: _) _ [F, m23, mk, blk gb (bkC g23 1 (8 / 2) (XV 0) Ab cb false) 130, mb, blk gs [Ptr gk, Ptr gb, I ((0 : Nat) : Int)] 139] _
  refine J.y (op_move rfl rfl) rfl rfl rfl ?_
  refine J.y (op_extract (v := Ptr gs) rfl rfl rfl) rfl rfl rfl ?_
  refine J.y (op_extract (v := I ((0 : Nat) : Int)) rfl rfl rfl) rfl rfl rfl ?_
  refine J.y (op_assign rfl rfl) rfl rfl rfl ?_
  refine J.y (op_assign rfl rfl) rfl rfl rfl ?_
  refine J.nil ?_
  refine J.then_n (J.k hK5 ?_)
  refine J.keepE [(0, _), (1, _), (2, _), (7, _), (9, _), (10, _)] ⟨rfl, rfl, rfl, rfl, rfl, rfl, trivial⟩ ?_
  refine J.seq (fun K6 hK6 => ?_)
  refine J.seq (fun K7 hK7 => ?_)
  refine J.region ?_
  refine J.y (op_move rfl rfl) rfl rfl rfl ?_
  refine J.y ((op_neq rfl rfl rfl).as (v' := .bool false) (congrArg Value.bool (decide_eq_false (by decide)))) rfl rfl rfl ?_
  refine J.nil ?_
  refine J.then_n (J.k hK7 ?_)
  refine J.keepE [(0, _), (1, _), (2, _), (7, _), (9, _), (32, _)] ⟨rfl, rfl, rfl, rfl, rfl, rfl, trivial⟩ ?_
  refine J.condF rfl rfl ?_
  refine J.skip ?_
  refine J.then_n (J.k hK6 ?_)
  refine J.keepE [(0, _), (1, _), (2, _), (7, _), (9, _)] ⟨rfl, rfl, rfl, rfl, rfl, trivial⟩ ?_
  refine J.seq (fun K8 hK8 => ?_)
  refine J.region ?_
  refine J.y (op_move rfl rfl) rfl rfl rfl ?_
  refine J.e (op_call rfl rfl ent38 (Ct.use0 (fun F' hF => spub_ct F' gs gk gb 0 (Cells.blk0.mono (hF (blk gs [Ptr gk, Ptr gb, I ((0 : Nat) : Int)] 139) (by simp))) [115, 101, 101, 100] 3 (hk.mono (hF mk (by simp))) (by decide) (by decide)))) rfl rfl rfl ?_
  intro g34 _
  refine J.e (op_alloc (l := [Str [], Str [], I 0]) rfl Tryd.zeroValue32 rfl) rfl rfl rfl ?_
  intro g11 _
  change J _ _ _ [F, m23, mk, blk gb (bkC g23 1 (8 / 2) (XV 0) Ab cb false) 130, mb, blk gs [Ptr gk, Ptr gb, I ((0 : Nat) : Int)] 139, blk g11 [Str [], Str [], I 0] 32] _
  refine J.s (op_storeAll (i := 6) (l := [Str [], Str [], I 0]) (vs := [Str (Wo.opn ([115, 101, 101, 100])), Str (Xm.root ([115, 101, 101, 100]) (3)), I ((3 : Nat) : Int)]) rfl rfl rfl rfl rfl Tryd.sizeOf32 rfl rfl) rfl rfl (fun _ _ => ?_)
  change J _ _ _ [F, m23, mk, blk gb (bkC g23 1 (8 / 2) (XV 0) Ab cb false) 130, mb, blk gs [Ptr gk, Ptr gb, I ((0 : Nat) : Int)] 139, blk g11 [Str (Wo.opn ([115, 101, 101, 100])), Str (Xm.root ([115, 101, 101, 100]) (3)), I ((3 : Nat) : Int)] 32] _
  refine J.nil ?_
  refine J.then_n (J.k hK8 ?_)
  refine J.keepE [(0, _), (1, _), (2, _), (7, _), (9, _), (11, _)] ⟨rfl, rfl, rfl, rfl, rfl, rfl, trivial⟩ ?_
  refine J.seq (fun K9 hK9 => ?_)
  refine J.region ?_
  refine J.y (op_assign rfl rfl) rfl rfl rfl ?_
  refine J.nil ?_
  refine J.then_n (J.k hK9 ?_)
  refine J.keepE [(0, _), (1, _), (2, _), (7, _), (9, _), (11, _), (12, _)] ⟨rfl, rfl, rfl, rfl, rfl, rfl, rfl, trivial⟩ ?_
  refine J.seq (fun K10 hK10 => ?_)
  refine J.seq (fun K11 hK11 => ?_)
  refine J.region ?_
  refine J.y (op_assign rfl rfl) rfl rfl rfl ?_
  refine J.nil ?_
  refine J.then_n (J.k hK11 ?_)
  refine J.keepE [(0, _), (1, _), (2, _), (7, _), (9, _), (11, _), (12, _), (13, _)] ⟨rfl, rfl, rfl, rfl, rfl, rfl, rfl, rfl, trivial⟩ ?_
  refine J.block ?_
  refine J.loop (X := Nat × Nat × Dk × Option Addr × Nat × Hp × Hp × Nat × Nat × Hp × Nat × Option Addr × Nat × Hp × List Nat × Option Addr × Nat × Hp) (fun ζ => [(0, .slice A0 n0 c0), (1, .slice A1 n1 c1), (2, .slice A2 n2 c2), (7, Ptr g23), (9, Ptr ζ.2.2.2.2.2.2.2.1), (11, Ptr g11), (12, .slice ζ.2.2.2.2.2.2.2.2.2.2.2.2.2.2.2.1 ζ.2.2.2.2.2.2.2.2.2.2.2.2.2.2.1.length ζ.2.2.2.2.2.2.2.2.2.2.2.2.2.2.2.2.1), (13, I ((ζ.1 : Nat) : Int))]) (fun ζ => [F, blk g11 [Str (Wo.opn ([115, 101, 101, 100])), Str (Xm.root ([115, 101, 101, 100]) (3)), I ((3 : Nat) : Int)] 32, ζ.2.2.2.2.2.1, ζ.2.2.2.2.2.2.1, blk ζ.2.2.2.2.2.2.2.1 [Ptr ζ.2.2.2.2.2.2.2.2.1, Ptr ζ.2.2.2.2.2.2.2.2.2.2.1, I ((ζ.2.1 : Nat) : Int)] 139, blk ζ.2.2.2.2.2.2.2.2.2.2.1 (bkC g23 1 (8 / 2) (XV ζ.2.1) ζ.2.2.2.2.2.2.2.2.2.2.2.1 ζ.2.2.2.2.2.2.2.2.2.2.2.2.1 false) 130, ζ.2.2.2.2.2.2.2.2.2.1, ζ.2.2.2.2.2.2.2.2.2.2.2.2.2.1, ζ.2.2.2.2.2.2.2.2.2.2.2.2.2.2.2.2.2]) (fun ζ => ζ.1 ≤ 24 ∧ ζ.2.1 ≤ 8 ∧ DV ζ.2.2.1 ζ.2.1 ∧ ζ.2.2.1.off = false ∧ Dsk ζ.2.2.2.2.2.1 g23 ζ.2.2.1 ζ.2.2.2.1 ζ.2.2.2.2.1 ∧ Sl ζ.2.2.2.2.2.2.1 1 ζ.2.2.2.1 ζ.2.2.1.keep.length ζ.2.2.2.2.1 (bytesV ζ.2.2.1.keep) ∧ ζ.2.2.1.keep.length ≤ 140737488351232 ∧ KeyA ζ.2.2.2.2.2.2.2.2.2.1 ζ.2.2.2.2.2.2.2.2.1 [115, 101, 101, 100] 3 ∧ Sl ζ.2.2.2.2.2.2.2.2.2.2.2.2.2.1 1 ζ.2.2.2.2.2.2.2.2.2.2.2.1 (XV ζ.2.1).R.length ζ.2.2.2.2.2.2.2.2.2.2.2.2.1 (strsV (XV ζ.2.1).R) ∧ Row ζ.2.2.2.2.2.2.2.2.2.2.2.2.2.2.2.2.2 3 1 ζ.2.2.2.2.2.2.2.2.2.2.2.2.2.2.2.1 ζ.2.2.2.2.2.2.2.2.2.2.2.2.2.2.1.length ζ.2.2.2.2.2.2.2.2.2.2.2.2.2.2.2.2.1 (natsV ζ.2.2.2.2.2.2.2.2.2.2.2.2.2.2.1) ∧ Used ζ.2.2.2.2.2.2.2.2.2.2.2.2.2.2.1 ζ.2.1) (fun ζ => 24 - ζ.1) (0, 0, (Dk.new 10), none, 0, m23, (fun _ => none), gs, gk, mk, gb, Ab, cb, mb, [], none, 0, (fun _ => none)) (⟨Nat.zero_le _, Nat.zero_le _, hDV0, rfl, h23, Sl.nil, Nat.zero_le _, hk, hb0.sl, RowQ.nil, Used.nil⟩) ⟨rfl, rfl, rfl, rfl, rfl, rfl, rfl, rfl, trivial⟩ (fun _ h => h.empty.empty.pick [0, 6, 1, 7, 5, 3, 2, 4, 8] (by decide)) ?_
  rintro ⟨i, v, D, C, f, md, mkp, gs, gk, mk, gb, A, c, mb, U, Au, cu, mu⟩ ⟨hi, hv8, hD, ho, hb, hkp, hkn, hk, hRs, hu, hU⟩ I0 hI0
  dsimp only at hi hv8 hD ho hb hkp hkn hk hRs hu hU ⊢
  have hUl := hU.1
  refine J.seq (fun K12 hK12 => ?_)
  refine J.seq (fun K13 hK13 => ?_)
  refine J.region ?_
  refine J.y (op_move rfl rfl) rfl rfl rfl ?_
  refine J.y (op_move rfl rfl) rfl rfl rfl ?_
  refine J.y (op_len Tryd.underlying30 rfl rfl) rfl rfl rfl ?_
  refine J.y (op_lss rfl rfl rfl) rfl rfl rfl ?_
  refine J.y (op_move rfl rfl) rfl rfl rfl ?_
  refine J.split (d := 39) rfl (fun h39 => ?_) (fun h39 => ?_)
  ·
    refine J.yg (Wan.is rfl rfl rfl rfl rfl) (op_move rfl rfl) rfl rfl ?_
    refine J.yg (Wan.is rfl rfl rfl rfl rfl) (op_lss rfl rfl rfl) rfl rfl ?_
    refine J.y (op_pickT rfl rfl rfl) rfl rfl rfl ?_
    refine J.nil ?_
    refine J.then_n (J.k hK13 ?_)
    refine J.keepE [(0, _), (1, _), (2, _), (7, _), (9, _), (11, _), (12, _), (13, _), (42, _)] ⟨rfl, rfl, rfl, rfl, rfl, rfl, rfl, rfl, rfl, trivial⟩ ?_
    refine J.ite rfl (fun h42 => ?_) (fun h42 => ?_)
    ·
      refine J.skip ?_
      refine J.then_n (J.k hK12 ?_)
      refine J.keepE [(0, _), (1, _), (2, _), (7, _), (9, _), (11, _), (12, _), (13, _)] ⟨rfl, rfl, rfl, rfl, rfl, rfl, rfl, rfl, trivial⟩ ?_
      refine J.seq (fun K14 hK14 => ?_)
      refine J.block ?_
      refine J.seq (fun K15 hK15 => ?_)
      refine J.region ?_
      refine J.y (op_assign rfl rfl) rfl rfl rfl ?_
      refine J.nil ?_
      refine J.then_n (J.k hK15 ?_)
      refine J.keepE [(0, _), (1, _), (2, _), (7, _), (9, _), (11, _), (12, _), (13, _), (14, _)] ⟨rfl, rfl, rfl, rfl, rfl, rfl, rfl, rfl, rfl, trivial⟩ ?_
      refine J.cut (X := List UInt8) (fun ζ => [(0, .slice A0 n0 c0), (1, .slice A1 n1 c1), (2, .slice A2 n2 c2), (7, Ptr g23), (9, Ptr gs), (11, Ptr g11), (12, .slice Au U.length cu), (13, I ((i : Nat) : Int)), (14, Str (ζ))]) (fun ζ => [F, blk g11 [Str (Wo.opn ([115, 101, 101, 100])), Str (Xm.root ([115, 101, 101, 100]) (3)), I ((3 : Nat) : Int)] 32, md, mkp, blk gs [Ptr gk, Ptr gb, I ((v : Nat) : Int)] 139, blk gb (bkC g23 1 (8 / 2) (XV v) A c false) 130, mk, mb, mu]) (fun ζ => ζ.length ≤ 20) (fun K16 hK16 => ?_) ?_
      ·
        refine J.seq (fun K17 hK17 => ?_)
        refine J.region ?_
        refine J.y (op_move rfl rfl) rfl rfl rfl ?_
        refine J.y (op_move rfl rfl) rfl rfl rfl ?_
        refine J.y (op_len Tryd.underlying55 rfl rfl) rfl rfl rfl ?_
        refine J.y (op_lss rfl rfl rfl) rfl rfl rfl ?_
        refine J.nil ?_
        refine J.then_n (J.k hK17 ?_)
        refine J.keepE [(0, _), (1, _), (2, _), (7, _), (9, _), (11, _), (12, _), (13, _), (14, _), (48, _)] ⟨rfl, rfl, rfl, rfl, rfl, rfl, rfl, rfl, rfl, rfl, trivial⟩ ?_
        refine J.ite rfl (fun h48 => ?_) (fun h48 => ?_)
        ·
          refine J.draw [F, blk g11 [Str (Wo.opn ([115, 101, 101, 100])), Str (Xm.root ([115, 101, 101, 100]) (3)), I ((3 : Nat) : Int)] 32, md, mkp, blk gs [Ptr gk, Ptr gb, I ((v : Nat) : Int)] 139, blk gb (bkC g23 1 (8 / 2) (XV v) A c false) 130, mk, mb, mu] [] (.y 0 (.y 1 (.y 2 (.y 3 (.y 4 (.y 5 (.y 6 (.y 7 (.y 8 (.y 9 (.y 10 (.y 11 .nil)))))))))))) Tryd.wide (by decide +kernel) (by simp) ?_
          refine J.dy rfl (op_move rfl rfl) rfl rfl rfl rfl ?_
          refine J.dy rfl (op_move rfl rfl) rfl rfl rfl rfl ?_
          refine J.dy rfl (op_indexAddr (i := i) rfl rfl rfl Tryd.underlying55 Tryd.sizeOf9 hs1 (by first | omega | (simp only [List.length_append, List.length_cons, List.length_nil, List.length_take, List.length_drop] at *; omega))) rfl rfl rfl rfl ?_
          refine J.dy rfl (op_load rfl rfl Tryd.isAgg9 (m := F) (by simp) (hs1.elem (strsV_get (getSome [] (by first | omega | (simp only [List.length_append, List.length_cons, List.length_nil, List.length_take, List.length_drop] at *; omega)))))) rfl rfl rfl rfl ?_
          refine J.dy rfl (op_move rfl rfl) rfl rfl rfl rfl ?_
          refine J.dy rfl (op_move rfl rfl) rfl rfl rfl rfl ?_
          refine J.dy rfl (op_indexAddr (i := i) rfl rfl rfl Tryd.underlying55 Tryd.sizeOf9 hs1 (by first | omega | (simp only [List.length_append, List.length_cons, List.length_nil, List.length_take, List.length_drop] at *; omega))) rfl rfl rfl rfl ?_
          refine J.dy rfl (op_load rfl rfl Tryd.isAgg9 (m := F) (by simp) (hs1.elem (strsV_get (getSome [] (by first | omega | (simp only [List.length_append, List.length_cons, List.length_nil, List.length_take, List.length_drop] at *; omega)))))) rfl rfl rfl rfl ?_
          refine J.dy rfl (op_slen Tryd.underlying9 rfl rfl) rfl rfl rfl rfl ?_
          refine J.dy rfl ((op_min rfl rfl rfl).as (v' := I ((min ((msgs.getD i []).length) 20 : Nat) : Int)) (congrArg I (by omega))) rfl rfl rfl rfl ?_
          refine J.dy rfl ((op_sslice (a := msgs.getD i []) (l := 0) (h := (min ((msgs.getD i []).length) 20)) Tryd.underlying9 rfl rfl rfl rfl ⟨by first | omega | (simp only [List.length_append, List.length_cons, List.length_nil, List.length_take, List.length_drop] at *; omega), by first | omega | (simp only [List.length_append, List.length_cons, List.length_nil, List.length_take, List.length_drop] at *; omega)⟩).as (v' := Str ((msgs.getD i []).take (min ((msgs.getD i []).length) 20))) (congrArg Str List.drop_zero)) rfl rfl rfl rfl ?_
          refine J.dy rfl (op_assign rfl rfl) rfl rfl rfl rfl ?_
          refine J.dnil ?_
          refine J.then_n ?_
          exact J.kk ((msgs.getD i []).take (min ((msgs.getD i []).length) 20)) hK16 ((by rw [List.length_take]; omega)) ⟨rfl, rfl, rfl, rfl, rfl, rfl, rfl, rfl, rfl, trivial⟩ (fun _ h => h)
        ·
          refine J.skip ?_
          refine J.then_n ?_
          exact J.kk ([]) hK16 ((by decide)) ⟨rfl, rfl, rfl, rfl, rfl, rfl, rfl, rfl, rfl, trivial⟩ (fun _ h => h)
      rintro mg hmg
      refine J.cut (X := Dk × Option Addr × Nat × Hp × Hp) (fun ζ => [(0, .slice A0 n0 c0), (1, .slice A1 n1 c1), (2, .slice A2 n2 c2), (7, Ptr g23), (9, Ptr gs), (11, Ptr g11), (12, .slice Au U.length cu), (13, I ((i : Nat) : Int)), (14, Str (mg))]) (fun ζ => [F, blk g11 [Str (Wo.opn ([115, 101, 101, 100])), Str (Xm.root ([115, 101, 101, 100]) (3)), I ((3 : Nat) : Int)] 32, ζ.2.2.2.1, ζ.2.2.2.2, blk gs [Ptr gk, Ptr gb, I ((v : Nat) : Int)] 139, blk gb (bkC g23 1 (8 / 2) (XV v) A c false) 130, mk, mb, mu]) (fun ζ => DV ζ.1 v ∧ ζ.1.off = false ∧ Dsk ζ.2.2.2.1 g23 ζ.1 ζ.2.1 ζ.2.2.1 ∧ Sl ζ.2.2.2.2 1 ζ.2.1 ζ.1.keep.length ζ.2.2.1 (bytesV ζ.1.keep) ∧ ζ.1.keep.length ≤ 140737488351232) (fun K18 hK18 => ?_) ?_
      ·
        refine J.seq (fun K19 hK19 => ?_)
        refine J.region ?_
        refine J.y (op_move rfl rfl) rfl rfl rfl ?_
        refine J.y (op_move rfl rfl) rfl rfl rfl ?_
        refine J.y (op_indexAddr (i := i) rfl rfl rfl Tryd.underlying30 Tryd.sizeOf5 hs0 (by first | omega | (simp only [List.length_append, List.length_cons, List.length_nil, List.length_take, List.length_drop] at *; omega))) rfl rfl rfl ?_
        refine J.y (op_load rfl rfl Tryd.isAgg5 (m := F) (by simp) (hs0.elem (bytesV_get (getSome 0 (by first | omega | (simp only [List.length_append, List.length_cons, List.length_nil, List.length_take, List.length_drop] at *; omega)))))) rfl rfl rfl ?_
        refine J.y (op_and8 (b := 7) rfl rfl rfl) rfl rfl rfl ?_
        refine J.y (op_eql rfl rfl rfl) rfl rfl rfl ?_
        refine J.nil ?_
        refine J.then_n (J.k hK19 ?_)
        refine J.keepE [(0, _), (1, _), (2, _), (7, _), (9, _), (11, _), (12, _), (13, _), (14, _), (65, _)] ⟨rfl, rfl, rfl, rfl, rfl, rfl, rfl, rfl, rfl, rfl, trivial⟩ ?_
        refine J.ite rfl (fun h65 => ?_) (fun h65 => ?_)
        ·
          obtain ⟨fz, hfz⟩ : ∃ fz, fz = (UInt8.ofNat ((acts.getD i 0).toNat / 2 ^ min 3 8) &&& 3).toNat := ⟨_, rfl⟩
          have hfz3 : fz ≤ 3 := by rw [hfz, UInt8.toNat_and]; exact Nat.and_le_right
          refine J.region ?_
          refine J.y (op_move rfl rfl) rfl rfl rfl ?_
          refine J.y (op_move rfl rfl) rfl rfl rfl ?_
          refine J.y (op_move rfl rfl) rfl rfl rfl ?_
          refine J.y (op_indexAddr (i := i) rfl rfl rfl Tryd.underlying30 Tryd.sizeOf5 hs0 (by first | omega | (simp only [List.length_append, List.length_cons, List.length_nil, List.length_take, List.length_drop] at *; omega))) rfl rfl rfl ?_
          refine J.y (op_load rfl rfl Tryd.isAgg5 (m := F) (by simp) (hs0.elem (bytesV_get (getSome 0 (by first | omega | (simp only [List.length_append, List.length_cons, List.length_nil, List.length_take, List.length_drop] at *; omega)))))) rfl rfl rfl ?_
          refine J.y (op_shr8 (m := 3) rfl rfl rfl) rfl rfl rfl ?_
          refine J.y (op_and8 (b := 3) rfl rfl rfl) rfl rfl rfl ?_
          refine J.y ((op_cv_u8_i64 rfl rfl Tryd.underlying5 Tryd.underlying3).as (v' := I ((fz : Nat) : Int)) (congrArg I (by rw [hfz]))) rfl rfl rfl ?_
          refine J.y (op_move rfl rfl) rfl rfl rfl ?_
          refine J.e (op_call rfl rfl ent39 (Ct.use1 2 (m' := fun y : Hp × Option Addr × Nat × Hp => y.1) (new := fun y => [y.2.2.2]) rfl (fun F' hF => by have := fuse_ct F' md g23 D C f hb hD.ok ((fz : Nat) : Int) ks A2 c2 (by rw [hl2]; exact hs2.mono (hF F (by simp))) (by omega); rw [hl2] at this; exact this))) rfl rfl rfl ?_
          rintro ⟨m75, C75, f75, k75⟩ ⟨h75, r75⟩
          change J _ _ _ [F, blk g11 [Str (Wo.opn ([115, 101, 101, 100])), Str (Xm.root ([115, 101, 101, 100]) (3)), I ((3 : Nat) : Int)] 32, m75, mkp, blk gs [Ptr gk, Ptr gb, I ((v : Nat) : Int)] 139, blk gb (bkC g23 1 (8 / 2) (XV v) A c false) 130, mk, mb, mu, k75] _
          refine J.nil ?_
          refine J.then_n ?_
          exact J.kk ((D.setFuse fz ks), C75, f75, m75, k75) hK18 (⟨hD.fuse _ (by omega) ks, ho, h75, by have h := r75.sl; dsimp only at h ⊢; rw [← hl2] at h; exact h, by show ks.length ≤ _; omega⟩) ⟨rfl, rfl, rfl, rfl, rfl, rfl, rfl, rfl, rfl, trivial⟩ (fun _ h => h.pick [0, 1, 2, 9, 4, 5, 6, 7, 8] (by decide))
        ·
          refine J.skip ?_
          refine J.then_n ?_
          exact J.kk (D, C, f, md, mkp) hK18 (⟨hD, ho, hb, hkp, hkn⟩) ⟨rfl, rfl, rfl, rfl, rfl, rfl, rfl, rfl, rfl, trivial⟩ (fun _ h => h)
      rintro ⟨D1, C1, f1, md1, mkp1⟩ ⟨hD1, ho1, hb1, hkp1, hkn1⟩
      dsimp only at hD1 ho1 hb1 hkp1 hkn1 ⊢
      refine J.seq (fun K20 hK20 => ?_)
      refine J.region ?_
      refine J.y (op_move rfl rfl) rfl rfl rfl ?_
      refine J.e (op_call rfl rfl ent37 (Ct.use0 (fun F' hF => snext_ct F' gs gk gb v (Cells.blk0.mono (hF (blk gs [Ptr gk, Ptr gb, I ((v : Nat) : Int)] 139) (by simp)))))) rfl rfl rfl ?_
      intro g77 _
      refine J.y (op_assign rfl rfl) rfl rfl rfl ?_
      refine J.nil ?_
      refine J.then_n (J.k hK20 ?_)
      refine J.keepE [(0, _), (1, _), (2, _), (7, _), (9, _), (11, _), (12, _), (13, _), (14, _), (15, _)] ⟨rfl, rfl, rfl, rfl, rfl, rfl, rfl, rfl, rfl, rfl, trivial⟩ ?_
      refine J.seq (fun K21 hK21 => ?_)
      refine J.perm [4, 5, 2, 0, 1, 3, 6, 7, 8] [blk gs [Ptr gk, Ptr gb, I ((v : Nat) : Int)] 139, blk gb (bkC g23 1 (8 / 2) (XV v) A c false) 130, md1, F, blk g11 [Str (Wo.opn ([115, 101, 101, 100])), Str (Xm.root ([115, 101, 101, 100]) (3)), I ((3 : Nat) : Int)] 32, mkp1, mk, mb, mu] rfl (by decide) ?_
      refine J.region ?_
      refine J.y (op_move rfl rfl) rfl rfl rfl ?_
      refine J.y (op_move rfl rfl) rfl rfl rfl ?_
      refine J.e (op_call rfl rfl ent36 (Ct.useA [blk gs [Ptr gk, Ptr gb, I ((v : Nat) : Int)] 139, blk gb (bkC g23 1 (8 / 2) (XV v) A c false) 130, md1] [F, blk g11 [Str (Wo.opn ([115, 101, 101, 100])), Str (Xm.root ([115, 101, 101, 100]) (3)), I ((3 : Nat) : Int)] 32, mkp1, mk, mb, mu] (A' := fun r : SRes => [blk gs [Ptr gk, Ptr gb, I ((r.nx : Nat) : Int)] 139, blk gb (bkC g23 1 (8 / 2) r.X r.A r.c r.bad) 130, r.md]) (new := fun r => [r.N, r.u, r.w]) (fun F' hF => signV F' md1 (hK.mono (hF F (by simp))) gs gk gb g23 v (hk.mono (hF mk (by simp))) mg (by omega) D1 hD1 ho1 C1 f1 hb1 (hkp1.mono (hF mkp1 (by simp))) (by omega) A c (hRs.mono (hF mb (by simp)))))) rfl rfl rfl ?_
      rintro r81 h81
      change J _ ((81, .tuple #[.agg #[I ((r81.idx : Nat) : Int), .slice r81.P r81.Cl.length r81.p, .slice r81.Q r81.Pl.length r81.q], I r81.e]) :: _) _ [blk gs [Ptr gk, Ptr gb, I ((r81.nx : Nat) : Int)] 139, blk gb (bkC g23 1 (8 / 2) r81.X r81.A r81.c r81.bad) 130, r81.md, F, blk g11 [Str (Wo.opn ([115, 101, 101, 100])), Str (Xm.root ([115, 101, 101, 100]) (3)), I ((3 : Nat) : Int)] 32, mkp1, mk, mb, mu, r81.N, r81.u, r81.w] _
      refine J.y (op_move rfl rfl) rfl rfl rfl ?_
      refine J.y (op_extract (v := .agg #[I ((r81.idx : Nat) : Int), .slice r81.P r81.Cl.length r81.p, .slice r81.Q r81.Pl.length r81.q]) rfl rfl rfl) rfl rfl rfl ?_
      refine J.y (op_extract (v := I (r81.e)) rfl rfl rfl) rfl rfl rfl ?_
      refine J.e (op_alloc (l := [I 0, .slice none 0 0, .slice none 0 0]) rfl Tryd.zeroValue75 rfl) rfl rfl rfl ?_
      intro g16 _
      change J _ _ _ [blk gs [Ptr gk, Ptr gb, I ((r81.nx : Nat) : Int)] 139, blk gb (bkC g23 1 (8 / 2) r81.X r81.A r81.c r81.bad) 130, r81.md, F, blk g11 [Str (Wo.opn ([115, 101, 101, 100])), Str (Xm.root ([115, 101, 101, 100]) (3)), I ((3 : Nat) : Int)] 32, mkp1, mk, mb, mu, r81.N, r81.u, r81.w, blk g16 [I 0, .slice none 0 0, .slice none 0 0] 75] _
      refine J.s (op_storeAll (i := 12) (l := [I 0, .slice none 0 0, .slice none 0 0]) (vs := [I ((r81.idx : Nat) : Int), .slice r81.P r81.Cl.length r81.p, .slice r81.Q r81.Pl.length r81.q]) rfl rfl rfl rfl rfl Tryd.sizeOf75 rfl rfl) rfl rfl (fun _ _ => ?_)
      change J _ _ _ [blk gs [Ptr gk, Ptr gb, I ((r81.nx : Nat) : Int)] 139, blk gb (bkC g23 1 (8 / 2) r81.X r81.A r81.c r81.bad) 130, r81.md, F, blk g11 [Str (Wo.opn ([115, 101, 101, 100])), Str (Xm.root ([115, 101, 101, 100]) (3)), I ((3 : Nat) : Int)] 32, mkp1, mk, mb, mu, r81.N, r81.u, r81.w, blk g16 [I ((r81.idx : Nat) : Int), .slice r81.P r81.Cl.length r81.p, .slice r81.Q r81.Pl.length r81.q] 75] _
      refine J.y (op_assign rfl rfl) rfl rfl rfl ?_
      refine J.nil ?_
      refine J.then_n (J.k hK21 ?_)
      refine J.keepE [(0, _), (1, _), (2, _), (7, _), (9, _), (11, _), (12, _), (13, _), (14, _), (15, _), (16, _), (17, _)] ⟨rfl, rfl, rfl, rfl, rfl, rfl, rfl, rfl, rfl, rfl, rfl, rfl, trivial⟩ ?_
      refine J.cut (X := Nat × Dk × Hp × Hlf × Option Addr × Nat × Bool × Nat × Hp × List Nat × Option Addr × Nat × Hp) (fun ζ => [(0, .slice A0 n0 c0), (1, .slice A1 n1 c1), (2, .slice A2 n2 c2), (7, Ptr g23), (9, Ptr gs), (11, Ptr g11), (12, .slice ζ.2.2.2.2.2.2.2.2.2.2.1 ζ.2.2.2.2.2.2.2.2.2.1.length ζ.2.2.2.2.2.2.2.2.2.2.2.1), (13, I ((i : Nat) : Int)), (15, I ((v : Nat) : Int))]) (fun ζ => [F, blk g11 [Str (Wo.opn ([115, 101, 101, 100])), Str (Xm.root ([115, 101, 101, 100]) (3)), I ((3 : Nat) : Int)] 32, ζ.2.2.1, mkp1, blk gs [Ptr gk, Ptr gb, I ((ζ.2.2.2.2.2.2.2.1 : Nat) : Int)] 139, blk gb (bkC g23 1 (8 / 2) ζ.2.2.2.1 ζ.2.2.2.2.1 ζ.2.2.2.2.2.1 ζ.2.2.2.2.2.2.1) 130, mk, ζ.2.2.2.2.2.2.2.2.1, ζ.2.2.2.2.2.2.2.2.2.2.2.2]) (fun ζ => v ≤ ζ.1 ∧ ζ.1 ≤ 8 ∧ DV ζ.2.1 ζ.1 ∧ Dsk ζ.2.2.1 g23 ζ.2.1 C1 f1 ∧ ζ.2.1.keep = D1.keep ∧ (ζ.2.1.off = false → ζ.2.2.2.2.2.2.2.1 = ζ.1 ∧ ζ.2.2.2.1 = XV ζ.1 ∧ ζ.2.2.2.2.2.2.1 = false ∧ Sl ζ.2.2.2.2.2.2.2.2.1 1 ζ.2.2.2.2.1 ζ.2.2.2.1.R.length ζ.2.2.2.2.2.1 (strsV ζ.2.2.2.1.R)) ∧ Row ζ.2.2.2.2.2.2.2.2.2.2.2.2 3 1 ζ.2.2.2.2.2.2.2.2.2.2.1 ζ.2.2.2.2.2.2.2.2.2.1.length ζ.2.2.2.2.2.2.2.2.2.2.2.1 (natsV ζ.2.2.2.2.2.2.2.2.2.1) ∧ Used ζ.2.2.2.2.2.2.2.2.2.1 ζ.1) (fun K22 hK22 => ?_) ?_
      ·
        refine J.block ?_
        refine J.seq (fun K23 hK23 => ?_)
        refine J.region ?_
        refine J.y (op_move rfl rfl) rfl rfl rfl ?_
        refine J.y (op_geq rfl rfl rfl) rfl rfl rfl ?_
        refine J.y (op_assign rfl rfl) rfl rfl rfl ?_
        refine J.nil ?_
        refine J.then_n (J.k hK23 ?_)
        refine J.keepE [(0, _), (1, _), (2, _), (7, _), (9, _), (11, _), (12, _), (13, _), (14, _), (15, _), (16, _), (17, _), (92, _)] ⟨rfl, rfl, rfl, rfl, rfl, rfl, rfl, rfl, rfl, rfl, rfl, rfl, rfl, trivial⟩ ?_
        refine J.ite rfl (fun h92 => ?_) (fun h92 => ?_)
        ·
          have hsp := h81.spent (by omega)
          refine J.seq (fun K24 hK24 => ?_)
          refine J.region ?_
          refine J.y (op_move rfl rfl) rfl rfl rfl ?_
          refine J.y ((op_neq rfl rfl rfl).as (v' := .bool false) (congrArg Value.bool (decide_eq_false (fun h => h hsp.1)))) rfl rfl rfl ?_
          refine J.y (op_move rfl rfl) rfl rfl rfl ?_
          refine J.yg (Wan.is rfl rfl rfl rfl rfl) (op_fieldAddr (j := 1) rfl rfl Tryd.underlying75 rfl Tryd.sizeOf55 rfl) rfl rfl ?_
          refine J.yg (Wan.is rfl rfl rfl rfl rfl) (op_loadB 12 (v := .slice r81.P r81.Cl.length r81.p) rfl rfl rfl Tryd.isAgg55 rfl) rfl rfl ?_
          refine J.yg (Wan.is rfl rfl rfl rfl rfl) (op_len Tryd.underlying55 rfl rfl) rfl rfl ?_
          refine J.yg (Wan.is rfl rfl rfl rfl rfl) ((op_neq rfl rfl rfl).as (v' := .bool false) (congrArg Value.bool (decide_eq_false (by rw [hsp.2.1]; decide)))) rfl rfl ?_
          refine J.y (op_pickF rfl rfl rfl) rfl rfl rfl ?_
          refine J.nil ?_
          refine J.then_n (J.k hK24 ?_)
          refine J.keepE [(0, _), (1, _), (2, _), (7, _), (9, _), (11, _), (12, _), (13, _), (15, _), (102, _)] ⟨rfl, rfl, rfl, rfl, rfl, rfl, rfl, rfl, rfl, rfl, trivial⟩ ?_
          refine J.condF rfl rfl ?_
          refine J.skip ?_
          refine J.blk_n ?_
          refine J.then_n ?_
          exact J.kk (v, r81.D, r81.md, r81.X, r81.A, r81.c, r81.bad, r81.nx, mb, U, Au, cu, mu) hK22 (⟨Nat.le_refl _, hv8, by rw [hsp.2.2.2.2.2.2.2]; exact hD1, h81.dsk, h81.keep, fun _ => ⟨hsp.2.2.1, hsp.2.2.2.1, hsp.2.2.2.2.2.2.1, by rw [hsp.2.2.2.1, hsp.2.2.2.2.1, hsp.2.2.2.2.2.1]; exact hRs⟩, hu, hU⟩) ⟨rfl, rfl, rfl, rfl, rfl, rfl, rfl, rfl, rfl, trivial⟩ (fun _ h => h.pick [3, 4, 2, 5, 0, 1, 6, 7, 8] (by decide))
        ·
          refine J.seq (fun K25 hK25 => ?_)
          refine J.region ?_
          refine J.y (op_move rfl rfl) rfl rfl rfl ?_
          refine J.y (op_eql rfl rfl rfl) rfl rfl rfl ?_
          refine J.y (op_assign rfl rfl) rfl rfl rfl ?_
          refine J.nil ?_
          refine J.then_n (J.k hK25 ?_)
          refine J.keepE [(0, _), (1, _), (2, _), (7, _), (9, _), (11, _), (12, _), (13, _), (14, _), (15, _), (16, _), (17, _), (103, _)] ⟨rfl, rfl, rfl, rfl, rfl, rfl, rfl, rfl, rfl, rfl, rfl, rfl, rfl, trivial⟩ ?_
          refine J.ite rfl (fun h103 => ?_) (fun h103 => ?_)
          ·
            have hgd := h81.good h103
            have hu81 : Row r81.u 9 1 r81.P r81.Cl.length r81.p (strsV (sgC [115, 101, 101, 100] r81.idx mg)) := by have h := h81.u; rwa [show strsV r81.Cl = strsV (sgC [115, 101, 101, 100] r81.idx mg) from congrArg strsV hgd.2.2.1] at h
            have hw81 : Row r81.w 9 1 r81.Q r81.Pl.length r81.q (strsV (sgP [115, 101, 101, 100] 3 r81.idx)) := by have h := h81.w; rwa [show strsV r81.Pl = strsV (sgP [115, 101, 101, 100] 3 r81.idx) from congrArg strsV hgd.2.2.2.1] at h
            refine J.seq (fun K26 hK26 => ?_)
            refine J.region ?_
            refine J.y (op_move rfl rfl) rfl rfl rfl ?_
            refine J.y (op_fieldAddr (j := 0) rfl rfl Tryd.underlying75 rfl Tryd.sizeOf3 rfl) rfl rfl rfl ?_
            refine J.y (op_loadB 12 (v := I ((r81.idx : Nat) : Int)) rfl rfl rfl Tryd.isAgg3 rfl) rfl rfl rfl ?_
            refine J.e (op_buildSlice (l := [.tmp 108]) (xs := [[I ((r81.idx : Nat) : Int)]]) rfl rfl rfl rfl Tryd.underlying80 el3 rfl (by decide) (by decide) (by simp)) rfl rfl rfl ?_
            intro g109 _
            change J _ _ _ [blk gs [Ptr gk, Ptr gb, I ((r81.nx : Nat) : Int)] 139, blk gb (bkC g23 1 (8 / 2) r81.X r81.A r81.c r81.bad) 130, r81.md, F, blk g11 [Str (Wo.opn ([115, 101, 101, 100])), Str (Xm.root ([115, 101, 101, 100]) (3)), I ((3 : Nat) : Int)] 32, mkp1, mk, mb, mu, r81.N, r81.u, r81.w, blk g16 [I ((r81.idx : Nat) : Int), .slice r81.P r81.Cl.length r81.p, .slice r81.Q r81.Pl.length r81.q] 75, blk g109 [I ((r81.idx : Nat) : Int)] 3] _
            refine J.e (op_append (i := 8) (xs := natsV U) (m2 := blk g109 [I ((r81.idx : Nat) : Int)] 3) (ys := [[I ((r81.idx : Nat) : Int)]]) rfl rfl rfl Tryd.underlying80 Tryd.underlying80 el3 rfl hu (by simp) ((row_lit (q := True) (natsV [r81.idx]) rfl (by simp [natsV]) rfl).sl) rfl (by first | omega | (simp only [List.length_append, List.length_cons, List.length_nil, List.length_take, List.length_drop] at *; omega)) (by first | omega | (simp only [List.length_append, List.length_cons, List.length_nil, List.length_take, List.length_drop] at *; omega))) rfl rfl rfl ?_
            rintro ⟨A110, c110, m110⟩ h110
            try dsimp only at h110
            change J _ ((110, .slice A110 (U.length + 1) c110) :: _) _ [blk gs [Ptr gk, Ptr gb, I ((r81.nx : Nat) : Int)] 139, blk gb (bkC g23 1 (8 / 2) r81.X r81.A r81.c r81.bad) 130, r81.md, F, blk g11 [Str (Wo.opn ([115, 101, 101, 100])), Str (Xm.root ([115, 101, 101, 100]) (3)), I ((3 : Nat) : Int)] 32, mkp1, mk, mb, m110, r81.N, r81.u, r81.w, blk g16 [I ((r81.idx : Nat) : Int), .slice r81.P r81.Cl.length r81.p, .slice r81.Q r81.Pl.length r81.q] 75, blk g109 [I ((r81.idx : Nat) : Int)] 3] _
            rw [show U.length + 1 = (U ++ [r81.idx]).length by rw [List.length_append]; rfl] at h110 ⊢
            rw [← natsV_snoc] at h110
            refine J.y (op_assign rfl rfl) rfl rfl rfl ?_
            refine J.nil ?_
            refine J.then_n (J.k hK26 ?_)
            refine J.keepE [(0, _), (1, _), (2, _), (7, _), (9, _), (11, _), (12, _), (13, _), (14, _), (15, _), (16, _)] ⟨rfl, rfl, rfl, rfl, rfl, rfl, rfl, rfl, rfl, rfl, rfl, trivial⟩ ?_
            refine J.seq (fun K27 hK27 => ?_)
            refine J.region ?_
            refine J.y (op_fieldAddr (j := 0) rfl rfl Tryd.underlying75 rfl Tryd.sizeOf3 rfl) rfl rfl rfl ?_
            refine J.y (op_loadB 12 (v := I ((r81.idx : Nat) : Int)) rfl rfl rfl Tryd.isAgg3 rfl) rfl rfl rfl ?_
            refine J.y (op_move rfl rfl) rfl rfl rfl ?_
            refine J.y ((op_neq rfl rfl rfl).as (v' := .bool false) (congrArg Value.bool (decide_eq_false (by rw [hgd.2.1]; exact fun h => h rfl)))) rfl rfl rfl ?_
            refine J.y (op_move rfl rfl) rfl rfl rfl ?_
            refine J.yg (Wan.is rfl rfl rfl rfl rfl) (op_move rfl rfl) rfl rfl ?_
            refine J.eg (Wan.is rfl rfl rfl rfl rfl) (op_call rfl rfl ent37 (Ct.use0 (fun F' hF => snext_ct F' gs gk gb r81.nx (Cells.blk0.mono (hF (blk gs [Ptr gk, Ptr gb, I ((r81.nx : Nat) : Int)] 139) (by simp)))))) rfl rfl ?_
            intro g117 _
            refine J.yg (Wan.is rfl rfl rfl rfl rfl) (op_move rfl rfl) rfl rfl ?_
            refine J.yg (Wan.is rfl rfl rfl rfl rfl) ((op_add rfl rfl rfl (by first | omega | (simp only [List.length_append, List.length_cons, List.length_nil, List.length_take, List.length_drop] at *; omega))).as (v' := I ((v + 1 : Nat) : Int)) (congrArg I (by omega))) rfl rfl ?_
            refine J.yg (Wan.is rfl rfl rfl rfl rfl) ((op_neq rfl rfl rfl).as (v' := .bool false) (congrArg Value.bool (decide_eq_false (by rw [hgd.2.2.2.2.1]; omega)))) rfl rfl ?_
            refine J.y (op_pickF rfl rfl rfl) rfl rfl rfl ?_
            refine J.y (op_move rfl rfl) rfl rfl rfl ?_
            refine J.yg (Wan.is rfl rfl rfl rfl rfl) (op_move rfl rfl) rfl rfl ?_
            refine J.yg (Wan.is rfl rfl rfl rfl rfl) (op_lss rfl rfl rfl) rfl rfl ?_
            refine J.yg (Wan.is rfl rfl rfl rfl rfl) (op_move rfl rfl) rfl rfl ?_
            refine J.split (d := 125) rfl (fun h125 => ?_) (fun h125 => ?_)
            ·
              refine J.yg (Wan.is rfl rfl rfl rfl rfl) (op_loadBA 4 rfl rfl rfl Tryd.isAgg32 Tryd.sizeOf32 rfl) rfl rfl ?_
              refine J.yg (Wan.is rfl rfl rfl rfl rfl) (op_move rfl rfl) rfl rfl ?_
              refine J.yg (Wan.is rfl rfl rfl rfl rfl) (op_loadBA 12 rfl rfl rfl Tryd.isAgg75 Tryd.sizeOf75 rfl) rfl rfl ?_
              refine J.eg (Wan.is rfl rfl rfl rfl rfl) (op_call rfl rfl ent40 (Ct.use0 (fun F' hF => xverK_ct F' (hK.mono (hF F (by simp))) [115, 101, 101, 100] 3 r81.idx mg r81.P r81.Cl.length r81.p (hu81.sl.mono (hF r81.u (by simp))) r81.Q r81.Pl.length r81.q (hw81.sl.mono (hF r81.w (by simp))) (by omega) (by decide) (show r81.idx < 2 ^ 3 by rw [hgd.2.1]; exact hgd.1)))) rfl rfl ?_
              intro g129 _
              refine J.yg (Wan.is rfl rfl rfl rfl rfl) (op_not rfl rfl) rfl rfl ?_
              refine J.yg (Wan.is rfl rfl rfl rfl rfl) (op_pickT rfl rfl rfl) rfl rfl ?_
              refine J.y (op_pickF rfl rfl rfl) rfl rfl rfl ?_
              refine J.nil ?_
              refine J.then_n (J.k hK27 ?_)
              refine J.keepE [(0, _), (1, _), (2, _), (7, _), (9, _), (11, _), (12, _), (13, _), (15, _), (132, _)] ⟨rfl, rfl, rfl, rfl, rfl, rfl, rfl, rfl, rfl, rfl, trivial⟩ ?_
              refine J.condF rfl rfl ?_
              refine J.skip ?_
              refine J.blk_n ?_
              refine J.then_n ?_
              exact J.kk ((v + 1), r81.D, r81.md, r81.X, r81.A, r81.c, r81.bad, r81.nx, r81.N, (U ++ [r81.idx]), A110, c110, m110) hK22 (⟨Nat.le_succ _, by have := hgd.1; omega, hgd.2.2.2.2.2.2.2.2.1, h81.dsk, h81.keep, fun _ => ⟨hgd.2.2.2.2.1, hgd.2.2.2.2.2.1, hgd.2.2.2.2.2.2.1, hgd.2.2.2.2.2.2.2.2.2.sl⟩, h110, by rw [hgd.2.1]; exact hU.snoc⟩) ⟨rfl, rfl, rfl, rfl, rfl, rfl, rfl, rfl, rfl, trivial⟩ (fun _ h => h.pick [3, 4, 2, 5, 0, 1, 6, 9, 8] (by decide))
            ·
              refine J.no (Wan.is rfl rfl rfl rfl rfl) rfl rfl ?_
              refine J.no (Wan.is rfl rfl rfl rfl rfl) rfl rfl ?_
              refine J.no (Wan.is rfl rfl rfl rfl rfl) rfl rfl ?_
              refine J.no (Wan.is rfl rfl rfl rfl rfl) rfl rfl ?_
              refine J.no (Wan.is rfl rfl rfl rfl rfl) rfl rfl ?_
              refine J.yg (Wan.is rfl rfl rfl rfl rfl) (op_pickF rfl rfl rfl) rfl rfl ?_
              refine J.y (op_pickF rfl rfl rfl) rfl rfl rfl ?_
              refine J.nil ?_
              refine J.then_n (J.k hK27 ?_)
              refine J.keepE [(0, _), (1, _), (2, _), (7, _), (9, _), (11, _), (12, _), (13, _), (15, _), (132, _)] ⟨rfl, rfl, rfl, rfl, rfl, rfl, rfl, rfl, rfl, rfl, trivial⟩ ?_
              refine J.condF rfl rfl ?_
              refine J.skip ?_
              refine J.blk_n ?_
              refine J.then_n ?_
              exact J.kk ((v + 1), r81.D, r81.md, r81.X, r81.A, r81.c, r81.bad, r81.nx, r81.N, (U ++ [r81.idx]), A110, c110, m110) hK22 (⟨Nat.le_succ _, by have := hgd.1; omega, hgd.2.2.2.2.2.2.2.2.1, h81.dsk, h81.keep, fun _ => ⟨hgd.2.2.2.2.1, hgd.2.2.2.2.2.1, hgd.2.2.2.2.2.2.1, hgd.2.2.2.2.2.2.2.2.2.sl⟩, h110, by rw [hgd.2.1]; exact hU.snoc⟩) ⟨rfl, rfl, rfl, rfl, rfl, rfl, rfl, rfl, rfl, trivial⟩ (fun _ h => h.pick [3, 4, 2, 5, 0, 1, 6, 9, 8] (by decide))
          ·
            obtain ⟨hf1, hf2, hf3, w81, hf4, hf5, hf6⟩ := h81.fail (by omega) h103
            refine J.seq (fun K28 hK28 => ?_)
            refine J.region ?_
            refine J.y (op_move rfl rfl) rfl rfl rfl ?_
            refine J.y ((op_neq rfl rfl rfl).as (v' := .bool false) (congrArg Value.bool (decide_eq_false (fun h => h hf1)))) rfl rfl rfl ?_
            refine J.y (op_move rfl rfl) rfl rfl rfl ?_
            refine J.yg (Wan.is rfl rfl rfl rfl rfl) (op_fieldAddr (j := 1) rfl rfl Tryd.underlying75 rfl Tryd.sizeOf55 rfl) rfl rfl ?_
            refine J.yg (Wan.is rfl rfl rfl rfl rfl) (op_loadB 12 (v := .slice r81.P r81.Cl.length r81.p) rfl rfl rfl Tryd.isAgg55 rfl) rfl rfl ?_
            refine J.yg (Wan.is rfl rfl rfl rfl rfl) (op_len Tryd.underlying55 rfl rfl) rfl rfl ?_
            refine J.yg (Wan.is rfl rfl rfl rfl rfl) ((op_neq rfl rfl rfl).as (v' := .bool false) (congrArg Value.bool (decide_eq_false (by rw [hf2]; decide)))) rfl rfl ?_
            refine J.y (op_pickF rfl rfl rfl) rfl rfl rfl ?_
            refine J.nil ?_
            refine J.then_n (J.k hK28 ?_)
            refine J.keepE [(0, _), (1, _), (2, _), (7, _), (9, _), (11, _), (12, _), (13, _), (15, _), (91, _)] ⟨rfl, rfl, rfl, rfl, rfl, rfl, rfl, rfl, rfl, rfl, trivial⟩ ?_
            refine J.condF rfl rfl ?_
            refine J.skip ?_
            refine J.blk_n ?_
            refine J.then_n ?_
            exact J.kk (w81, r81.D, r81.md, r81.X, r81.A, r81.c, r81.bad, r81.nx, mb, U, Au, cu, mu) hK22 (⟨hf4, hf5, hf6, h81.dsk, h81.keep, fun e => by rw [hf3] at e; exact absurd e (by decide), hu, hU.le hf4⟩) ⟨rfl, rfl, rfl, rfl, rfl, rfl, rfl, rfl, rfl, trivial⟩ (fun _ h => h.pick [3, 4, 2, 5, 0, 1, 6, 7, 8] (by decide))
      rintro ⟨w, D2, md2, X2, A2b, c2b, bd, nx2, mb2, U2, Au2, cu2, mu2⟩ ⟨hvw, hw8, hD2, hb2, hkk, hon, hu2, hU2⟩
      dsimp only at hvw hw8 hD2 hb2 hkk hon hu2 hU2 ⊢
      obtain ⟨A4, c4, B4, e4, hc4, hL4, hW4⟩ := hb2.see
      refine J.seq (fun K29 hK29 => ?_)
      refine J.region ?_
      refine J.y (op_move rfl rfl) rfl rfl rfl ?_
      refine J.e (op_call rfl rfl ent41 (Ct.use0 (fun F' hF => on_ct F' g23 D2 A4 c4 B4 e4 C1 f1 (hc4.mono (hF md2 (by simp)))))) rfl rfl rfl ?_
      intro g134 _
      refine J.y ((op_not rfl rfl).as (v' := .bool (decide (D2.off = true))) (by simp)) rfl rfl rfl ?_
      refine J.y (op_move rfl rfl) rfl rfl rfl ?_
      refine J.split (d := 136) rfl (fun h136 => ?_) (fun h136 => ?_)
      ·
        refine J.no (Wan.is rfl rfl rfl rfl rfl) rfl rfl ?_
        refine J.no (Wan.is rfl rfl rfl rfl rfl) rfl rfl ?_
        refine J.no (Wan.is rfl rfl rfl rfl rfl) rfl rfl ?_
        refine J.no (Wan.is rfl rfl rfl rfl rfl) rfl rfl ?_
        refine J.no (Wan.is rfl rfl rfl rfl rfl) rfl rfl ?_
        refine J.no (Wan.is rfl rfl rfl rfl rfl) rfl rfl ?_
        refine J.y (op_pickT rfl rfl rfl) rfl rfl rfl ?_
        refine J.nil ?_
        refine J.then_n (J.k hK29 ?_)
        refine J.keepE [(0, _), (1, _), (2, _), (7, _), (9, _), (11, _), (12, _), (13, _), (15, _), (143, _)] ⟨rfl, rfl, rfl, rfl, rfl, rfl, rfl, rfl, rfl, rfl, trivial⟩ ?_
        refine J.condT rfl rfl ?_
        refine J.seq (fun K30 hK30 => ?_)
        refine J.region ?_
        refine J.y (op_move rfl rfl) rfl rfl rfl ?_
        refine J.e (op_call rfl rfl ent42 (Ct.use1 2 (m' := fun x : Hp => x) (new := fun _ => []) rfl (fun F' hF => cutB_ct F' md2 g23 D2 C1 f1 hb2 hD2.ok.1 (by rw [hD2.wait]; exact Nat.zero_le _) [] none 0 Sl.nil (Nat.zero_le _)))) rfl rfl rfl ?_
        rintro m145 h145
        change J _ _ _ [F, blk g11 [Str (Wo.opn ([115, 101, 101, 100])), Str (Xm.root ([115, 101, 101, 100]) (3)), I ((3 : Nat) : Int)] 32, m145, mkp1, blk gs [Ptr gk, Ptr gb, I ((nx2 : Nat) : Int)] 139, blk gb (bkC g23 1 (8 / 2) X2 A2b c2b bd) 130, mk, mb2, mu2] _
        refine J.nil ?_
        refine J.then_n (J.k hK30 ?_)
        refine J.keepE [(0, _), (1, _), (2, _), (7, _), (11, _), (12, _), (13, _), (15, _)] ⟨rfl, rfl, rfl, rfl, rfl, rfl, rfl, rfl, trivial⟩ ?_
        refine J.seq (fun K31 hK31 => ?_)
        refine J.region ?_
        refine J.y (op_move rfl rfl) rfl rfl rfl ?_
        refine J.e (op_call rfl rfl ent43 (Ct.use1 2 (m' := fun x : Hp => x) (new := fun _ => []) rfl (fun F' hF => start_ct F' m145 g23 (D2.cut []) C1 f1 h145 (hD2.ok.cut [])))) rfl rfl rfl ?_
        rintro m147 h147
        change J _ _ _ [F, blk g11 [Str (Wo.opn ([115, 101, 101, 100])), Str (Xm.root ([115, 101, 101, 100]) (3)), I ((3 : Nat) : Int)] 32, m147, mkp1, blk gs [Ptr gk, Ptr gb, I ((nx2 : Nat) : Int)] 139, blk gb (bkC g23 1 (8 / 2) X2 A2b c2b bd) 130, mk, mb2, mu2] _
        obtain ⟨D3, hD3e⟩ : ∃ D3, D3 = (D2.cut []).start := ⟨_, rfl⟩
        rw [← hD3e] at h147
        have hD3 : DV D3 w := hD3e ▸ hD2.cutStart []
        have ho3 : D3.off = false := by rw [hD3e]; rfl
        have hk3e : D3.keep = D1.keep := by rw [hD3e]; exact hkk
        obtain ⟨A5, c5, B5, e5, hc5, hL5, hW5⟩ := h147.see
        refine J.nil ?_
        refine J.then_n (J.k hK31 ?_)
        refine J.keepE [(0, _), (1, _), (2, _), (7, _), (11, _), (12, _), (13, _), (15, _)] ⟨rfl, rfl, rfl, rfl, rfl, rfl, rfl, rfl, trivial⟩ ?_
        refine J.seq (fun K32 hK32 => ?_)
        refine J.region ?_
        refine J.y (op_move rfl rfl) rfl rfl rfl ?_
        refine J.e (op_call rfl rfl ent35 (Ct.use (new := fun x : (Nat × Hp) × (Nat × Option Addr × Nat × Hp) × Nat => [x.1.2, blk x.2.1.1 (bkC g23 1 (8 / 2) (XV w) x.2.1.2.1 x.2.1.2.2.1 false) 130, x.2.1.2.2.2, blk x.2.2 [Ptr x.1.1, Ptr x.2.1.1, I ((w : Nat) : Int)] 139]) (fun F' hF => sopenV F' (hK.mono (hF F (by simp))) g23 D3 w hD3 hw8 ho3 A5 c5 B5 e5 C1 f1 (hc5.mono (hF m147 (by simp))) (hL5.mono (hF m147 (by simp))) (hW5.mono (hF m147 (by simp)))))) rfl rfl rfl ?_
        rintro ⟨⟨gk3, mk3⟩, ⟨gb3, A6, c6, mb3⟩, gs3⟩ ⟨hk3, hq3⟩
        change J _ ((150, .tuple #[Ptr gs3, I ((0 : Nat) : Int)]) :: _) _ [F, blk g11 [Str (Wo.opn ([115, 101, 101, 100])), Str (Xm.root ([115, 101, 101, 100]) (3)), I ((3 : Nat) : Int)] 32, m147, mkp1, blk gs [Ptr gk, Ptr gb, I ((nx2 : Nat) : Int)] 139, blk gb (bkC g23 1 (8 / 2) X2 A2b c2b bd) 130, mk, mb2, mu2, mk3, blk gb3 (bkC g23 1 (8 / 2) (XV w) A6 c6 false) 130, mb3, blk gs3 [Ptr gk3, Ptr gb3, I ((w : Nat) : Int)] 139] _
        refine J.y (op_move rfl rfl) rfl rfl rfl ?_
        refine J.y (op_extract (v := Ptr gs3) rfl rfl rfl) rfl rfl rfl ?_
        refine J.y (op_extract (v := I ((0 : Nat) : Int)) rfl rfl rfl) rfl rfl rfl ?_
        refine J.y (op_assign rfl rfl) rfl rfl rfl ?_
        refine J.y (op_assign rfl rfl) rfl rfl rfl ?_
        refine J.nil ?_
        refine J.then_n (J.k hK32 ?_)
        refine J.keepE [(0, _), (1, _), (2, _), (7, _), (11, _), (12, _), (13, _), (15, _), (18, _), (19, _)] ⟨rfl, rfl, rfl, rfl, rfl, rfl, rfl, rfl, rfl, rfl, trivial⟩ ?_
        refine J.seq (fun K33 hK33 => ?_)
        refine J.seq (fun K34 hK34 => ?_)
        refine J.draw [F, blk g11 [Str (Wo.opn ([115, 101, 101, 100])), Str (Xm.root ([115, 101, 101, 100]) (3)), I ((3 : Nat) : Int)] 32, m147, mkp1, blk gs [Ptr gk, Ptr gb, I ((nx2 : Nat) : Int)] 139, blk gb (bkC g23 1 (8 / 2) X2 A2b c2b bd) 130, mk, mb2, mu2, mk3, blk gb3 (bkC g23 1 (8 / 2) (XV w) A6 c6 false) 130, mb3, blk gs3 [Ptr gk3, Ptr gb3, I ((w : Nat) : Int)] 139] [] (.y 0 (.y 1 (.y 2 (.y 3 (.y 5 (.e 4 (.y 6 (.y 7 (.y 8 (.y 9 (.y 11 (.e 10 (.y 12 (.y 13 .nil)))))))))))))) Tryd.wide (by decide +kernel) (by simp) ?_
        refine J.dy rfl (op_move rfl rfl) rfl rfl rfl rfl ?_
        refine J.dy rfl ((op_neq rfl rfl rfl).as (v' := .bool false) (congrArg Value.bool (decide_eq_false (by decide)))) rfl rfl rfl rfl ?_
        refine J.dy rfl (op_move rfl rfl) rfl rfl rfl rfl ?_
        refine J.dyg rfl (op_move rfl rfl) (Wan.is rfl rfl rfl rfl rfl) rfl rfl rfl ?_
        refine J.dyg rfl (op_loadBA 1 rfl rfl rfl Tryd.isAgg32 Tryd.sizeOf32 rfl) (Wan.is rfl rfl rfl rfl rfl) rfl rfl rfl ?_
        refine J.deg rfl (op_call rfl rfl ent38 (Ct.use0 (fun F' hF => spub_ct F' gs3 gk3 gb3 w (Cells.blk0.mono (hF (blk gs3 [Ptr gk3, Ptr gb3, I ((w : Nat) : Int)] 139) (by simp))) [115, 101, 101, 100] 3 (hk3.mono (hF mk3 (by simp))) (by decide) (by decide)))) (Wan.is rfl rfl rfl rfl rfl) rfl rfl (by simp) ?_
        intro g157 _
        refine J.dyg rfl ((op_neS rfl rfl rfl (by kernel_rfl) (fun w => eqPub 9998 (Wo.opn [115, 101, 101, 100]) (Xm.root [115, 101, 101, 100] 3) (Wo.opn [115, 101, 101, 100]) (Xm.root [115, 101, 101, 100] 3) ((3 : Nat) : Int) ((3 : Nat) : Int) w)).as (v' := .bool false) (by rw [decide_eq_true ⟨rfl, rfl, rfl⟩]; rfl)) (Wan.is rfl rfl rfl rfl rfl) rfl rfl rfl ?_
        refine J.dy rfl (op_pickF rfl rfl rfl) rfl rfl rfl rfl ?_
        refine J.dy rfl (op_move rfl rfl) rfl rfl rfl rfl ?_
        refine J.dyg rfl (op_move rfl rfl) (Wan.is rfl rfl rfl rfl rfl) rfl rfl rfl ?_
        refine J.dyg rfl (op_move rfl rfl) (Wan.is rfl rfl rfl rfl rfl) rfl rfl rfl ?_
        refine J.deg rfl (op_call rfl rfl ent37 (Ct.use0 (fun F' hF => snext_ct F' gs3 gk3 gb3 w (Cells.blk0.mono (hF (blk gs3 [Ptr gk3, Ptr gb3, I ((w : Nat) : Int)] 139) (by simp)))))) (Wan.is rfl rfl rfl rfl rfl) rfl rfl (by simp) ?_
        intro g163 _
        refine J.dyg rfl ((op_lss rfl rfl rfl).as (v' := .bool false) (congrArg Value.bool (decide_eq_false (by omega)))) (Wan.is rfl rfl rfl rfl rfl) rfl rfl rfl ?_
        refine J.dy rfl (op_pickF rfl rfl rfl) rfl rfl rfl rfl ?_
        refine J.dnil ?_
        refine J.then_n (J.k hK34 ?_)
        refine J.keepE [(0, _), (1, _), (2, _), (7, _), (11, _), (12, _), (13, _), (18, _), (166, _)] ⟨rfl, rfl, rfl, rfl, rfl, rfl, rfl, rfl, rfl, trivial⟩ ?_
        refine J.condF rfl rfl ?_
        refine J.skip ?_
        refine J.then_n (J.k hK33 ?_)
        refine J.keepE [(0, _), (1, _), (2, _), (7, _), (11, _), (12, _), (13, _), (18, _)] ⟨rfl, rfl, rfl, rfl, rfl, rfl, rfl, rfl, trivial⟩ ?_
        refine J.region ?_
        refine J.y (op_move rfl rfl) rfl rfl rfl ?_
        refine J.y (op_assign rfl rfl) rfl rfl rfl ?_
        refine J.nil ?_
        refine J.blk_n ?_
        refine J.then_n (J.k hK14 ?_)
        refine J.keepE [(0, _), (1, _), (2, _), (7, _), (9, _), (11, _), (12, _), (13, _)] ⟨rfl, rfl, rfl, rfl, rfl, rfl, rfl, rfl, trivial⟩ ?_
        refine J.region ?_
        refine J.y (op_move rfl rfl) rfl rfl rfl ?_
        refine J.y ((op_add rfl rfl rfl (by first | omega | (simp only [List.length_append, List.length_cons, List.length_nil, List.length_take, List.length_drop] at *; omega))).as (v' := I ((i + 1 : Nat) : Int)) (congrArg I (by omega))) rfl rfl rfl ?_
        refine J.y (op_assign rfl rfl) rfl rfl rfl ?_
        refine J.nil ?_
        refine J.then_n ?_
        exact J.kk (i + 1, w, D3, C1, f1, m147, mkp1, gs3, gk3, mk3, gb3, A6, c6, mb3, U2, Au2, cu2, mu2) (fun η (hη : _ ∧ 24 - η.1 < 24 - i) => hI0 η hη.1 hη.2) ⟨⟨by dsimp only; omega, hw8, hD3, ho3, h147, by dsimp only; rw [hk3e]; exact hkp1, by dsimp only; rw [hk3e]; exact hkn1, hk3, hq3.sl, hu2, hU2⟩, by dsimp only; omega⟩ ⟨rfl, rfl, rfl, rfl, rfl, rfl, rfl, rfl, trivial⟩ (fun _ h => h.pick [0, 1, 2, 3, 12, 10, 9, 11, 8] (by decide))
      ·
        refine J.yg (Wan.is rfl rfl rfl rfl rfl) (op_move rfl rfl) rfl rfl ?_
        refine J.yg (Wan.is rfl rfl rfl rfl rfl) (op_move rfl rfl) rfl rfl ?_
        refine J.yg (Wan.is rfl rfl rfl rfl rfl) (op_indexAddr (i := i) rfl rfl rfl Tryd.underlying30 Tryd.sizeOf5 hs0 (by first | omega | (simp only [List.length_append, List.length_cons, List.length_nil, List.length_take, List.length_drop] at *; omega))) rfl rfl ?_
        refine J.yg (Wan.is rfl rfl rfl rfl rfl) (op_load rfl rfl Tryd.isAgg5 (m := F) (by simp) (hs0.elem (bytesV_get (getSome 0 (by first | omega | (simp only [List.length_append, List.length_cons, List.length_nil, List.length_take, List.length_drop] at *; omega)))))) rfl rfl ?_
        refine J.yg (Wan.is rfl rfl rfl rfl rfl) (op_and8 (b := 7) rfl rfl rfl) rfl rfl ?_
        refine J.yg (Wan.is rfl rfl rfl rfl rfl) (op_eql rfl rfl rfl) rfl rfl ?_
        refine J.y (op_pickF rfl rfl rfl) rfl rfl rfl ?_
        refine J.nil ?_
        refine J.then_n (J.k hK29 ?_)
        refine J.keepE [(0, _), (1, _), (2, _), (7, _), (9, _), (11, _), (12, _), (13, _), (15, _), (143, _)] ⟨rfl, rfl, rfl, rfl, rfl, rfl, rfl, rfl, rfl, rfl, trivial⟩ ?_
        refine J.ite rfl (fun h143 => ?_) (fun h143 => ?_)
        ·
          refine J.seq (fun K35 hK35 => ?_)
          refine J.region ?_
          refine J.y (op_move rfl rfl) rfl rfl rfl ?_
          refine J.e (op_call rfl rfl ent42 (Ct.use1 2 (m' := fun x : Hp => x) (new := fun _ => []) rfl (fun F' hF => cutB_ct F' md2 g23 D2 C1 f1 hb2 hD2.ok.1 (by rw [hD2.wait]; exact Nat.zero_le _) [] none 0 Sl.nil (Nat.zero_le _)))) rfl rfl rfl ?_
          rintro m145 h145
          change J _ _ _ [F, blk g11 [Str (Wo.opn ([115, 101, 101, 100])), Str (Xm.root ([115, 101, 101, 100]) (3)), I ((3 : Nat) : Int)] 32, m145, mkp1, blk gs [Ptr gk, Ptr gb, I ((nx2 : Nat) : Int)] 139, blk gb (bkC g23 1 (8 / 2) X2 A2b c2b bd) 130, mk, mb2, mu2] _
          refine J.nil ?_
          refine J.then_n (J.k hK35 ?_)
          refine J.keepE [(0, _), (1, _), (2, _), (7, _), (11, _), (12, _), (13, _), (15, _)] ⟨rfl, rfl, rfl, rfl, rfl, rfl, rfl, rfl, trivial⟩ ?_
          refine J.seq (fun K36 hK36 => ?_)
          refine J.region ?_
          refine J.y (op_move rfl rfl) rfl rfl rfl ?_
          refine J.e (op_call rfl rfl ent43 (Ct.use1 2 (m' := fun x : Hp => x) (new := fun _ => []) rfl (fun F' hF => start_ct F' m145 g23 (D2.cut []) C1 f1 h145 (hD2.ok.cut [])))) rfl rfl rfl ?_
          rintro m147 h147
          change J _ _ _ [F, blk g11 [Str (Wo.opn ([115, 101, 101, 100])), Str (Xm.root ([115, 101, 101, 100]) (3)), I ((3 : Nat) : Int)] 32, m147, mkp1, blk gs [Ptr gk, Ptr gb, I ((nx2 : Nat) : Int)] 139, blk gb (bkC g23 1 (8 / 2) X2 A2b c2b bd) 130, mk, mb2, mu2] _
          obtain ⟨D3, hD3e⟩ : ∃ D3, D3 = (D2.cut []).start := ⟨_, rfl⟩
          rw [← hD3e] at h147
          have hD3 : DV D3 w := hD3e ▸ hD2.cutStart []
          have ho3 : D3.off = false := by rw [hD3e]; rfl
          have hk3e : D3.keep = D1.keep := by rw [hD3e]; exact hkk
          obtain ⟨A5, c5, B5, e5, hc5, hL5, hW5⟩ := h147.see
          refine J.nil ?_
          refine J.then_n (J.k hK36 ?_)
          refine J.keepE [(0, _), (1, _), (2, _), (7, _), (11, _), (12, _), (13, _), (15, _)] ⟨rfl, rfl, rfl, rfl, rfl, rfl, rfl, rfl, trivial⟩ ?_
          refine J.seq (fun K37 hK37 => ?_)
          refine J.region ?_
          refine J.y (op_move rfl rfl) rfl rfl rfl ?_
          refine J.e (op_call rfl rfl ent35 (Ct.use (new := fun x : (Nat × Hp) × (Nat × Option Addr × Nat × Hp) × Nat => [x.1.2, blk x.2.1.1 (bkC g23 1 (8 / 2) (XV w) x.2.1.2.1 x.2.1.2.2.1 false) 130, x.2.1.2.2.2, blk x.2.2 [Ptr x.1.1, Ptr x.2.1.1, I ((w : Nat) : Int)] 139]) (fun F' hF => sopenV F' (hK.mono (hF F (by simp))) g23 D3 w hD3 hw8 ho3 A5 c5 B5 e5 C1 f1 (hc5.mono (hF m147 (by simp))) (hL5.mono (hF m147 (by simp))) (hW5.mono (hF m147 (by simp)))))) rfl rfl rfl ?_
          rintro ⟨⟨gk3, mk3⟩, ⟨gb3, A6, c6, mb3⟩, gs3⟩ ⟨hk3, hq3⟩
          change J _ ((150, .tuple #[Ptr gs3, I ((0 : Nat) : Int)]) :: _) _ [F, blk g11 [Str (Wo.opn ([115, 101, 101, 100])), Str (Xm.root ([115, 101, 101, 100]) (3)), I ((3 : Nat) : Int)] 32, m147, mkp1, blk gs [Ptr gk, Ptr gb, I ((nx2 : Nat) : Int)] 139, blk gb (bkC g23 1 (8 / 2) X2 A2b c2b bd) 130, mk, mb2, mu2, mk3, blk gb3 (bkC g23 1 (8 / 2) (XV w) A6 c6 false) 130, mb3, blk gs3 [Ptr gk3, Ptr gb3, I ((w : Nat) : Int)] 139] _
          refine J.y (op_move rfl rfl) rfl rfl rfl ?_
          refine J.y (op_extract (v := Ptr gs3) rfl rfl rfl) rfl rfl rfl ?_
          refine J.y (op_extract (v := I ((0 : Nat) : Int)) rfl rfl rfl) rfl rfl rfl ?_
          refine J.y (op_assign rfl rfl) rfl rfl rfl ?_
          refine J.y (op_assign rfl rfl) rfl rfl rfl ?_
          refine J.nil ?_
          refine J.then_n (J.k hK37 ?_)
          refine J.keepE [(0, _), (1, _), (2, _), (7, _), (11, _), (12, _), (13, _), (15, _), (18, _), (19, _)] ⟨rfl, rfl, rfl, rfl, rfl, rfl, rfl, rfl, rfl, rfl, trivial⟩ ?_
          refine J.seq (fun K38 hK38 => ?_)
          refine J.seq (fun K39 hK39 => ?_)
          refine J.draw [F, blk g11 [Str (Wo.opn ([115, 101, 101, 100])), Str (Xm.root ([115, 101, 101, 100]) (3)), I ((3 : Nat) : Int)] 32, m147, mkp1, blk gs [Ptr gk, Ptr gb, I ((nx2 : Nat) : Int)] 139, blk gb (bkC g23 1 (8 / 2) X2 A2b c2b bd) 130, mk, mb2, mu2, mk3, blk gb3 (bkC g23 1 (8 / 2) (XV w) A6 c6 false) 130, mb3, blk gs3 [Ptr gk3, Ptr gb3, I ((w : Nat) : Int)] 139] [] (.y 0 (.y 1 (.y 2 (.y 3 (.y 5 (.e 4 (.y 6 (.y 7 (.y 8 (.y 9 (.y 11 (.e 10 (.y 12 (.y 13 .nil)))))))))))))) Tryd.wide (by decide +kernel) (by simp) ?_
          refine J.dy rfl (op_move rfl rfl) rfl rfl rfl rfl ?_
          refine J.dy rfl ((op_neq rfl rfl rfl).as (v' := .bool false) (congrArg Value.bool (decide_eq_false (by decide)))) rfl rfl rfl rfl ?_
          refine J.dy rfl (op_move rfl rfl) rfl rfl rfl rfl ?_
          refine J.dyg rfl (op_move rfl rfl) (Wan.is rfl rfl rfl rfl rfl) rfl rfl rfl ?_
          refine J.dyg rfl (op_loadBA 1 rfl rfl rfl Tryd.isAgg32 Tryd.sizeOf32 rfl) (Wan.is rfl rfl rfl rfl rfl) rfl rfl rfl ?_
          refine J.deg rfl (op_call rfl rfl ent38 (Ct.use0 (fun F' hF => spub_ct F' gs3 gk3 gb3 w (Cells.blk0.mono (hF (blk gs3 [Ptr gk3, Ptr gb3, I ((w : Nat) : Int)] 139) (by simp))) [115, 101, 101, 100] 3 (hk3.mono (hF mk3 (by simp))) (by decide) (by decide)))) (Wan.is rfl rfl rfl rfl rfl) rfl rfl (by simp) ?_
          intro g157 _
          refine J.dyg rfl ((op_neS rfl rfl rfl (by kernel_rfl) (fun w => eqPub 9998 (Wo.opn [115, 101, 101, 100]) (Xm.root [115, 101, 101, 100] 3) (Wo.opn [115, 101, 101, 100]) (Xm.root [115, 101, 101, 100] 3) ((3 : Nat) : Int) ((3 : Nat) : Int) w)).as (v' := .bool false) (by rw [decide_eq_true ⟨rfl, rfl, rfl⟩]; rfl)) (Wan.is rfl rfl rfl rfl rfl) rfl rfl rfl ?_
          refine J.dy rfl (op_pickF rfl rfl rfl) rfl rfl rfl rfl ?_
          refine J.dy rfl (op_move rfl rfl) rfl rfl rfl rfl ?_
          refine J.dyg rfl (op_move rfl rfl) (Wan.is rfl rfl rfl rfl rfl) rfl rfl rfl ?_
          refine J.dyg rfl (op_move rfl rfl) (Wan.is rfl rfl rfl rfl rfl) rfl rfl rfl ?_
          refine J.deg rfl (op_call rfl rfl ent37 (Ct.use0 (fun F' hF => snext_ct F' gs3 gk3 gb3 w (Cells.blk0.mono (hF (blk gs3 [Ptr gk3, Ptr gb3, I ((w : Nat) : Int)] 139) (by simp)))))) (Wan.is rfl rfl rfl rfl rfl) rfl rfl (by simp) ?_
          intro g163 _
          refine J.dyg rfl ((op_lss rfl rfl rfl).as (v' := .bool false) (congrArg Value.bool (decide_eq_false (by omega)))) (Wan.is rfl rfl rfl rfl rfl) rfl rfl rfl ?_
          refine J.dy rfl (op_pickF rfl rfl rfl) rfl rfl rfl rfl ?_
          refine J.dnil ?_
          refine J.then_n (J.k hK39 ?_)
          refine J.keepE [(0, _), (1, _), (2, _), (7, _), (11, _), (12, _), (13, _), (18, _), (166, _)] ⟨rfl, rfl, rfl, rfl, rfl, rfl, rfl, rfl, rfl, trivial⟩ ?_
          refine J.condF rfl rfl ?_
          refine J.skip ?_
          refine J.then_n (J.k hK38 ?_)
          refine J.keepE [(0, _), (1, _), (2, _), (7, _), (11, _), (12, _), (13, _), (18, _)] ⟨rfl, rfl, rfl, rfl, rfl, rfl, rfl, rfl, trivial⟩ ?_
          refine J.region ?_
          refine J.y (op_move rfl rfl) rfl rfl rfl ?_
          refine J.y (op_assign rfl rfl) rfl rfl rfl ?_
          refine J.nil ?_
          refine J.blk_n ?_
          refine J.then_n (J.k hK14 ?_)
          refine J.keepE [(0, _), (1, _), (2, _), (7, _), (9, _), (11, _), (12, _), (13, _)] ⟨rfl, rfl, rfl, rfl, rfl, rfl, rfl, rfl, trivial⟩ ?_
          refine J.region ?_
          refine J.y (op_move rfl rfl) rfl rfl rfl ?_
          refine J.y ((op_add rfl rfl rfl (by first | omega | (simp only [List.length_append, List.length_cons, List.length_nil, List.length_take, List.length_drop] at *; omega))).as (v' := I ((i + 1 : Nat) : Int)) (congrArg I (by omega))) rfl rfl rfl ?_
          refine J.y (op_assign rfl rfl) rfl rfl rfl ?_
          refine J.nil ?_
          refine J.then_n ?_
          exact J.kk (i + 1, w, D3, C1, f1, m147, mkp1, gs3, gk3, mk3, gb3, A6, c6, mb3, U2, Au2, cu2, mu2) (fun η (hη : _ ∧ 24 - η.1 < 24 - i) => hI0 η hη.1 hη.2) ⟨⟨by dsimp only; omega, hw8, hD3, ho3, h147, by dsimp only; rw [hk3e]; exact hkp1, by dsimp only; rw [hk3e]; exact hkn1, hk3, hq3.sl, hu2, hU2⟩, by dsimp only; omega⟩ ⟨rfl, rfl, rfl, rfl, rfl, rfl, rfl, rfl, trivial⟩ (fun _ h => h.pick [0, 1, 2, 3, 12, 10, 9, 11, 8] (by decide))
        ·
          have hoff : D2.off = false := by simpa using h136
          rw [(hon hoff).1, (hon hoff).2.1, (hon hoff).2.2.1]
          refine J.skip ?_
          refine J.blk_n ?_
          refine J.then_n (J.k hK14 ?_)
          refine J.keepE [(0, _), (1, _), (2, _), (7, _), (9, _), (11, _), (12, _), (13, _)] ⟨rfl, rfl, rfl, rfl, rfl, rfl, rfl, rfl, trivial⟩ ?_
          refine J.region ?_
          refine J.y (op_move rfl rfl) rfl rfl rfl ?_
          refine J.y ((op_add rfl rfl rfl (by first | omega | (simp only [List.length_append, List.length_cons, List.length_nil, List.length_take, List.length_drop] at *; omega))).as (v' := I ((i + 1 : Nat) : Int)) (congrArg I (by omega))) rfl rfl rfl ?_
          refine J.y (op_assign rfl rfl) rfl rfl rfl ?_
          refine J.nil ?_
          refine J.then_n ?_
          exact J.kk (i + 1, w, D2, C1, f1, md2, mkp1, gs, gk, mk, gb, A2b, c2b, mb2, U2, Au2, cu2, mu2) (fun η (hη : _ ∧ 24 - η.1 < 24 - i) => hI0 η hη.1 hη.2) ⟨⟨by dsimp only; omega, hw8, hD2, hoff, hb2, by dsimp only; rw [hkk]; exact hkp1, by dsimp only; rw [hkk]; exact hkn1, hk, by have h := (hon hoff).2.2.2; rw [(hon hoff).2.1] at h; exact h, hu2, hU2⟩, by dsimp only; omega⟩ ⟨rfl, rfl, rfl, rfl, rfl, rfl, rfl, rfl, trivial⟩ (fun _ h => h)
    ·
      refine J.exit ?_
      refine J.then_x ?_
      refine J.then_x ?_
      refine J.blk_eq ?_
      refine J.then_n (J.k hK10 ?_)
      refine J.keepE [(12, _)] ⟨rfl, trivial⟩ ?_
      refine J.seq (fun K40 hK40 => ?_)
      refine J.region ?_
      refine J.y (op_move rfl rfl) rfl rfl rfl ?_
      refine J.e (op_call rfl rfl ent44 (Ct.use0 (fun F' hF => twice_ct F' Au U.length cu U (hu.sl.mono (hF mu (by simp))) (by have := hU.1; omega) hU.2.2))) rfl rfl rfl ?_
      intro g169 _
      refine J.y (op_not rfl rfl) rfl rfl rfl ?_
      refine J.y (op_move rfl rfl) rfl rfl rfl ?_
      refine J.yg (Wan.is rfl rfl rfl rfl rfl) (op_move rfl rfl) rfl rfl ?_
      refine J.yg (Wan.is rfl rfl rfl rfl rfl) (op_len Tryd.underlying80 rfl rfl) rfl rfl ?_
      refine J.yg (Wan.is rfl rfl rfl rfl rfl) ((op_leq rfl rfl rfl).as (v' := .bool true) (congrArg Value.bool (decide_eq_true (by have := hU.1; omega)))) rfl rfl ?_
      refine J.y (op_pickT rfl rfl rfl) rfl rfl rfl ?_
      refine J.y (op_assign rfl rfl) rfl rfl rfl ?_
      refine J.nil ?_
      refine J.then_n (J.k hK40 ?_)
      refine J.keepE [(6, _)] ⟨rfl, trivial⟩ ?_
      refine J.ret ?_
      exact J.done hw0 (fun _ _ h => h) (res1 rfl rfl) (retOk () rfl trivial [0] rfl (by decide))
  ·
    refine J.no (Wan.is rfl rfl rfl rfl rfl) rfl rfl ?_
    refine J.no (Wan.is rfl rfl rfl rfl rfl) rfl rfl ?_
    refine J.y (op_pickF rfl rfl rfl) rfl rfl rfl ?_
    refine J.nil ?_
    refine J.then_n (J.k hK13 ?_)
    refine J.keepE [(0, _), (1, _), (2, _), (7, _), (9, _), (11, _), (12, _), (13, _), (42, _)] ⟨rfl, rfl, rfl, rfl, rfl, rfl, rfl, rfl, rfl, trivial⟩ ?_
    refine J.condF rfl rfl ?_
    refine J.exit ?_
    refine J.then_x ?_
    refine J.then_x ?_
    refine J.blk_eq ?_
    refine J.then_n (J.k hK10 ?_)
    refine J.keepE [(12, _)] ⟨rfl, trivial⟩ ?_
    refine J.seq (fun K41 hK41 => ?_)
    refine J.region ?_
    refine J.y (op_move rfl rfl) rfl rfl rfl ?_
    refine J.e (op_call rfl rfl ent44 (Ct.use0 (fun F' hF => twice_ct F' Au U.length cu U (hu.sl.mono (hF mu (by simp))) (by have := hU.1; omega) hU.2.2))) rfl rfl rfl ?_
    intro g169 _
    refine J.y (op_not rfl rfl) rfl rfl rfl ?_
    refine J.y (op_move rfl rfl) rfl rfl rfl ?_
    refine J.yg (Wan.is rfl rfl rfl rfl rfl) (op_move rfl rfl) rfl rfl ?_
    refine J.yg (Wan.is rfl rfl rfl rfl rfl) (op_len Tryd.underlying80 rfl rfl) rfl rfl ?_
    refine J.yg (Wan.is rfl rfl rfl rfl rfl) ((op_leq rfl rfl rfl).as (v' := .bool true) (congrArg Value.bool (decide_eq_true (by have := hU.1; omega)))) rfl rfl ?_
    refine J.y (op_pickT rfl rfl rfl) rfl rfl rfl ?_
    refine J.y (op_assign rfl rfl) rfl rfl rfl ?_
    refine J.nil ?_
    refine J.then_n (J.k hK41 ?_)
    refine J.keepE [(6, _)] ⟨rfl, trivial⟩ ?_
    refine J.ret ?_
    exact J.done hw0 (fun _ _ h => h) (res1 rfl rfl) (retOk () rfl trivial [0] rfl (by decide))

end Go.Proofs.YtnkfapecbmmpeaaDoor
