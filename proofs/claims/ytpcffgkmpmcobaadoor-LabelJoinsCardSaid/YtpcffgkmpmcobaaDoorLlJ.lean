/- A part of the proof: contracts of functions of the program, each for every state of the heaps that it names. -/
import Derived.Test.YtpcffgkmpmcobaaDoorLsp
set_option linter.unusedSimpArgs false
set_option linter.unusedVariables false
namespace Go.Proofs.YtpcffgkmpmcobaaDoor
open Go Go.Fw
set_option maxRecDepth 100000
set_option maxHeartbeats 1000000
theorem ent15 : Enters Tryd.prog 15 := Enters.of Tryd.func15 rfl (by kernel_rfl)

theorem labelJoins_ct (F : Hp) (hA : Cells F ⟨0, 0, none⟩ alphaV) (hT : TabsF F) (a b : List UInt8) (c : Bool) : Ct Tryd.prog 6 [Str (a), Str (b), .bool (c)] [F] (fun _ : Unit => .bool true) (fun _ => True) (fun _ => [F]) := by
  refine Ct.walk Tryd.func6 rfl Tryd.ntmps6 rfl (fun w0 hw0 => ?_)
  change J _ [(0, _), (1, _), (2, _)] _ _ _
  refine J.seq (fun K1 hK1 => ?_)
  refine J.region ?_
  refine J.y (op_assign rfl rfl) rfl rfl rfl ?_
  refine J.nil ?_
  refine J.then_n (J.k hK1 ?_)
  refine J.keepE [(0, _), (1, _), (2, _)] ⟨rfl, rfl, rfl, trivial⟩ ?_
  refine J.seq (fun K2 hK2 => ?_)
  refine J.seq (fun K3 hK3 => ?_)
  refine J.region ?_
  refine J.e (op_call rfl rfl ent15 (Ct.use0 (fun F' hF => speaks_ct F' (hA.mono (hF F (by simp))) (hT.mono (hF F (by simp)))))) rfl rfl rfl ?_
  intro g21 _
  refine J.y (op_not rfl rfl) rfl rfl rfl ?_
  refine J.nil ?_
  refine J.then_n (J.k hK3 ?_)
  refine J.keepE [(0, _), (1, _), (2, _), (22, _)] ⟨rfl, rfl, rfl, rfl, trivial⟩ ?_
  refine J.condF rfl rfl ?_
  refine J.skip ?_
  refine J.then_n (J.k hK2 ?_)
  refine J.keepE [(0, _), (1, _), (2, _)] ⟨rfl, rfl, rfl, trivial⟩ ?_
  refine J.seq (fun K4 hK4 => ?_)
  refine J.region ?_
  refine J.y (op_move rfl rfl) rfl rfl rfl ?_
  refine J.y (op_move rfl rfl) rfl rfl rfl ?_
  refine J.y (op_slen Tryd.underlying9 rfl rfl) rfl rfl rfl ?_
  refine J.y ((op_min rfl rfl rfl).as (v' := I ((min a.length 200 : Nat) : Int)) (congrArg I (by omega))) rfl rfl rfl ?_
  refine J.y ((op_sslice (a := a) (l := 0) (h := (min a.length 200)) Tryd.underlying9 rfl rfl rfl rfl ⟨by first | omega | (simp only [List.length_append, List.length_cons, List.length_nil, List.length_take, List.length_drop] at *; omega), by first | omega | (simp only [List.length_append, List.length_cons, List.length_nil, List.length_take, List.length_drop] at *; omega)⟩).as (v' := Str (a.take (min a.length 200))) (congrArg Str List.drop_zero)) rfl rfl rfl ?_
  obtain ⟨t, ht⟩ : ∃ t, a.take (min a.length 200) = t := ⟨_, rfl⟩
  rw [ht]
  have htl : t.length ≤ 200 := by rw [← ht, List.length_take]; omega
  refine J.e (op_call rfl rfl ent16 (Ct.use0 (fun F' hF => normal_ct F' (hA.mono (hF F (by simp))) (hT.mono (hF F (by simp))) t (by first | omega | decide)))) rfl rfl rfl ?_
  intro g29 _
  refine J.y (op_move rfl rfl) rfl rfl rfl ?_
  refine J.y (op_extract (v := Str ((normal t).1)) rfl rfl rfl) rfl rfl rfl ?_
  refine J.y (op_extract (v := I (((normal t).2 : Nat) : Int)) rfl rfl rfl) rfl rfl rfl ?_
  refine J.y (op_assign rfl rfl) rfl rfl rfl ?_
  refine J.y (op_assign rfl rfl) rfl rfl rfl ?_
  refine J.nil ?_
  refine J.then_n (J.k hK4 ?_)
  refine J.keepE [(1, _), (2, _), (7, _), (8, _)] ⟨rfl, rfl, rfl, rfl, trivial⟩ ?_
  refine J.seq (fun K5 hK5 => ?_)
  refine J.region ?_
  refine J.y (op_move rfl rfl) rfl rfl rfl ?_
  refine J.y (op_move rfl rfl) rfl rfl rfl ?_
  refine J.y (op_slen Tryd.underlying9 rfl rfl) rfl rfl rfl ?_
  refine J.y ((op_min rfl rfl rfl).as (v' := I ((min b.length 200 : Nat) : Int)) (congrArg I (by omega))) rfl rfl rfl ?_
  refine J.y ((op_sslice (a := b) (l := 0) (h := (min b.length 200)) Tryd.underlying9 rfl rfl rfl rfl ⟨by first | omega | (simp only [List.length_append, List.length_cons, List.length_nil, List.length_take, List.length_drop] at *; omega), by first | omega | (simp only [List.length_append, List.length_cons, List.length_nil, List.length_take, List.length_drop] at *; omega)⟩).as (v' := Str (b.take (min b.length 200))) (congrArg Str List.drop_zero)) rfl rfl rfl ?_
  obtain ⟨u, hu⟩ : ∃ u, b.take (min b.length 200) = u := ⟨_, rfl⟩
  rw [hu]
  have hul : u.length ≤ 200 := by rw [← hu, List.length_take]; omega
  refine J.e (op_call rfl rfl ent16 (Ct.use0 (fun F' hF => normal_ct F' (hA.mono (hF F (by simp))) (hT.mono (hF F (by simp))) u (by first | omega | decide)))) rfl rfl rfl ?_
  intro g38 _
  refine J.y (op_move rfl rfl) rfl rfl rfl ?_
  refine J.y (op_extract (v := Str ((normal u).1)) rfl rfl rfl) rfl rfl rfl ?_
  refine J.y (op_extract (v := I (((normal u).2 : Nat) : Int)) rfl rfl rfl) rfl rfl rfl ?_
  refine J.y (op_assign rfl rfl) rfl rfl rfl ?_
  refine J.y (op_assign rfl rfl) rfl rfl rfl ?_
  refine J.nil ?_
  refine J.then_n (J.k hK5 ?_)
  refine J.keepE [(2, _), (7, _), (8, _), (9, _), (10, _)] ⟨rfl, rfl, rfl, rfl, rfl, trivial⟩ ?_
  refine J.seq (fun K6 hK6 => ?_)
  refine J.seq (fun K7 hK7 => ?_)
  refine J.region ?_
  refine J.y (op_move rfl rfl) rfl rfl rfl ?_
  refine J.y (op_neq rfl rfl rfl) rfl rfl rfl ?_
  refine J.y (op_move rfl rfl) rfl rfl rfl ?_
  refine J.split (d := 43) rfl (fun h43 => ?_) (fun h43 => ?_)
  ·
    refine J.no (Wan.is rfl rfl rfl rfl rfl) rfl rfl ?_
    refine J.no (Wan.is rfl rfl rfl rfl rfl) rfl rfl ?_
    refine J.y (op_pickT rfl rfl rfl) rfl rfl rfl ?_
    refine J.nil ?_
    refine J.then_n (J.k hK7 ?_)
    refine J.keepE [(2, _), (7, _), (9, _), (46, _)] ⟨rfl, rfl, rfl, rfl, trivial⟩ ?_
    refine J.condT rfl rfl ?_
    refine J.seq (fun K8 hK8 => ?_)
    refine J.region ?_
    refine J.y (op_assign rfl rfl) rfl rfl rfl ?_
    refine J.nil ?_
    refine J.then_n (J.k hK8 ?_)
    refine J.keepE [(6, _)] ⟨rfl, trivial⟩ ?_
    refine J.ret ?_
    refine J.then_r ?_
    exact J.done hw0 (fun _ _ h => h) (res1 rfl rfl) (retOk () rfl trivial [0] rfl (by decide))
  ·
    refine J.yg (Wan.is rfl rfl rfl rfl rfl) (op_move rfl rfl) rfl rfl ?_
    refine J.yg (Wan.is rfl rfl rfl rfl rfl) (op_neq rfl rfl rfl) rfl rfl ?_
    refine J.y (op_pickF rfl rfl rfl) rfl rfl rfl ?_
    refine J.nil ?_
    refine J.then_n (J.k hK7 ?_)
    refine J.keepE [(2, _), (7, _), (9, _), (46, _)] ⟨rfl, rfl, rfl, rfl, trivial⟩ ?_
    refine J.ite rfl (fun h46 => ?_) (fun h46 => ?_)
    ·
      refine J.seq (fun K9 hK9 => ?_)
      refine J.region ?_
      refine J.y (op_assign rfl rfl) rfl rfl rfl ?_
      refine J.nil ?_
      refine J.then_n (J.k hK9 ?_)
      refine J.keepE [(6, _)] ⟨rfl, trivial⟩ ?_
      refine J.ret ?_
      refine J.then_r ?_
      exact J.done hw0 (fun _ _ h => h) (res1 rfl rfl) (retOk () rfl trivial [0] rfl (by decide))
    ·
      refine J.skip ?_
      refine J.then_n (J.k hK6 ?_)
      refine J.keepE [(2, _), (7, _), (9, _)] ⟨rfl, rfl, rfl, trivial⟩ ?_
      refine J.seq (fun K10 hK10 => ?_)
      obtain ⟨x, hx⟩ : ∃ x, normal t = (x, 0) := ⟨(normal t).1, Prod.ext rfl (by dsimp only; omega)⟩
      obtain ⟨y, hy⟩ : ∃ y, normal u = (y, 0) := ⟨(normal u).1, Prod.ext rfl (by dsimp only; omega)⟩
      rw [show (normal t).1 = x by rw [hx], show (normal u).1 = y by rw [hy]]
      have hxl := normal_len hx
      have hyl := normal_len hy
      have hvx := normal_vld hx
      have hvy := normal_vld hy
      refine J.region ?_
      refine J.y (op_move rfl rfl) rfl rfl rfl ?_
      refine J.y (op_sadd (a := x) (b := [46]) rfl rfl rfl (by first | omega | (simp only [List.length_append, List.length_cons, List.length_nil, List.length_take, List.length_drop] at *; omega))) rfl rfl rfl ?_
      refine J.y (op_move rfl rfl) rfl rfl rfl ?_
      refine J.y (op_sadd (a := x ++ ([46])) (b := y) rfl rfl rfl (by first | omega | (simp only [List.length_append, List.length_cons, List.length_nil, List.length_take, List.length_drop] at *; omega))) rfl rfl rfl ?_
      refine J.y (op_assign rfl rfl) rfl rfl rfl ?_
      refine J.nil ?_
      refine J.then_n (J.k hK10 ?_)
      refine J.keepE [(2, _), (7, _), (9, _), (11, _)] ⟨rfl, rfl, rfl, rfl, trivial⟩ ?_
      refine J.cut (X := UInt8) (fun ζ => [(7, Str (x)), (9, Str (y)), (11, Str (x ++ ζ :: y))]) (fun ζ => [F]) (fun ζ => sepB ζ = true) (fun K11 hK11 => ?_) ?_
      ·
        refine J.seq (fun K12 hK12 => ?_)
        refine J.region ?_
        refine J.y (op_move rfl rfl) rfl rfl rfl ?_
        refine J.nil ?_
        refine J.then_n (J.k hK12 ?_)
        refine J.keepE [(7, _), (9, _), (11, _), (51, _)] ⟨rfl, rfl, rfl, rfl, trivial⟩ ?_
        refine J.cond rfl (fun h51 => ?_) (fun h51 => ?_)
        ·
          refine J.region ?_
          refine J.y (op_move rfl rfl) rfl rfl rfl ?_
          refine J.y (op_sadd (a := x) (b := [64]) rfl rfl rfl (by first | omega | (simp only [List.length_append, List.length_cons, List.length_nil, List.length_take, List.length_drop] at *; omega))) rfl rfl rfl ?_
          refine J.y (op_move rfl rfl) rfl rfl rfl ?_
          refine J.y (op_sadd (a := x ++ ([64])) (b := y) rfl rfl rfl (by first | omega | (simp only [List.length_append, List.length_cons, List.length_nil, List.length_take, List.length_drop] at *; omega))) rfl rfl rfl ?_
          refine J.y (op_assign rfl rfl) rfl rfl rfl ?_
          refine J.nil ?_
          refine J.then_n ?_
          exact J.kk (64) hK11 ((by decide)) ⟨rfl, rfl, (by show some (Str _) = some (Str _); simp), trivial⟩ (fun _ h => h)
        ·
          refine J.skip ?_
          refine J.then_n ?_
          exact J.kk (46) hK11 ((by decide)) ⟨rfl, rfl, (by show some (Str _) = some (Str _); simp), trivial⟩ (fun _ h => h)
      rintro d hd
      have hsl : (x ++ d :: y).length ≤ 520 := by simp; omega
      refine J.seq (fun K13 hK13 => ?_)
      refine J.region ?_
      refine J.y (op_assign rfl rfl) rfl rfl rfl ?_
      refine J.nil ?_
      refine J.then_n (J.k hK13 ?_)
      refine J.keepE [(7, _), (9, _), (11, _), (12, _)] ⟨rfl, rfl, rfl, rfl, trivial⟩ ?_
      refine J.seq (fun K14 hK14 => ?_)
      refine J.seq (fun K15 hK15 => ?_)
      refine J.region ?_
      refine J.y (op_assign rfl rfl) rfl rfl rfl ?_
      refine J.nil ?_
      refine J.then_n (J.k hK15 ?_)
      refine J.keepE [(7, _), (9, _), (11, _), (12, _), (13, _)] ⟨rfl, rfl, rfl, rfl, rfl, trivial⟩ ?_
      refine J.block ?_
      refine J.loop (X := Nat × Nat) (fun ζ => [(7, Str (x)), (9, Str (y)), (11, Str (x ++ d :: y)), (12, I ((ζ.2 : Nat) : Int)), (13, I ((ζ.1 : Nat) : Int))]) (fun ζ => [F]) (fun ζ => ζ.1 ≤ (x ++ d :: y).length ∧ ζ.2 ≤ ζ.1 ∧ ((x ++ d :: y).take ζ.1).count 64 = ζ.2) (fun ζ => (x ++ d :: y).length - ζ.1) (0, 0) (⟨Nat.zero_le _, by decide, rfl⟩) ⟨rfl, rfl, rfl, rfl, rfl, trivial⟩ (fun _ h => h) ?_
      rintro ⟨i, n⟩ ⟨hi, hni, hca⟩ I0 hI0
      dsimp only at hi hni hca ⊢
      refine J.seq (fun K16 hK16 => ?_)
      refine J.seq (fun K17 hK17 => ?_)
      refine J.region ?_
      refine J.y (op_move rfl rfl) rfl rfl rfl ?_
      refine J.y (op_move rfl rfl) rfl rfl rfl ?_
      refine J.y (op_slen Tryd.underlying9 rfl rfl) rfl rfl rfl ?_
      refine J.y (op_lss rfl rfl rfl) rfl rfl rfl ?_
      refine J.nil ?_
      refine J.then_n (J.k hK17 ?_)
      refine J.keepE [(7, _), (9, _), (11, _), (12, _), (13, _), (59, _)] ⟨rfl, rfl, rfl, rfl, rfl, rfl, trivial⟩ ?_
      refine J.ite rfl (fun h59 => ?_) (fun h59 => ?_)
      ·
        refine J.skip ?_
        refine J.then_n (J.k hK16 ?_)
        refine J.keepE [(7, _), (9, _), (11, _), (12, _), (13, _)] ⟨rfl, rfl, rfl, rfl, rfl, trivial⟩ ?_
        refine J.seq (fun K18 hK18 => ?_)
        refine J.block ?_
        refine J.seq (fun K19 hK19 => ?_)
        refine J.region ?_
        refine J.y (op_move rfl rfl) rfl rfl rfl ?_
        refine J.y (op_move rfl rfl) rfl rfl rfl ?_
        refine J.y (op_sindex (c := (x ++ d :: y).getD i 0) Tryd.underlying9 rfl rfl rfl (getSome 0 (by first | omega | (simp only [List.length_append, List.length_cons, List.length_nil, List.length_take, List.length_drop] at *; omega)))) rfl rfl rfl ?_
        refine J.y (op_eql rfl rfl rfl) rfl rfl rfl ?_
        refine J.nil ?_
        refine J.then_n (J.k hK19 ?_)
        refine J.keepE [(7, _), (9, _), (11, _), (12, _), (13, _), (65, _)] ⟨rfl, rfl, rfl, rfl, rfl, rfl, trivial⟩ ?_
        refine J.ite rfl (fun h65 => ?_) (fun h65 => ?_)
        ·
          refine J.region ?_
          refine J.y (op_move rfl rfl) rfl rfl rfl ?_
          refine J.y ((op_add rfl rfl rfl (by first | omega | (simp only [List.length_append, List.length_cons, List.length_nil, List.length_take, List.length_drop] at *; omega))).as (v' := I ((n + 1 : Nat) : Int)) (congrArg I (by omega))) rfl rfl rfl ?_
          refine J.y (op_assign rfl rfl) rfl rfl rfl ?_
          refine J.nil ?_
          refine J.blk_n ?_
          refine J.then_n (J.k hK18 ?_)
          refine J.keepE [(7, _), (9, _), (11, _), (12, _), (13, _)] ⟨rfl, rfl, rfl, rfl, rfl, trivial⟩ ?_
          refine J.region ?_
          refine J.y (op_move rfl rfl) rfl rfl rfl ?_
          refine J.y ((op_add rfl rfl rfl (by first | omega | (simp only [List.length_append, List.length_cons, List.length_nil, List.length_take, List.length_drop] at *; omega))).as (v' := I ((i + 1 : Nat) : Int)) (congrArg I (by omega))) rfl rfl rfl ?_
          refine J.y (op_assign rfl rfl) rfl rfl rfl ?_
          refine J.nil ?_
          refine J.then_n ?_
          exact J.kk (i + 1, n + 1) (fun η (hη : _ ∧ (x ++ d :: y).length - η.1 < (x ++ d :: y).length - i) => hI0 η hη.1 hη.2) ⟨⟨by dsimp only; omega, by dsimp only; omega, by rw [count_take (by omega) hca, if_pos (by omega)]⟩, by first | omega | (dsimp only; omega)⟩ ⟨rfl, rfl, rfl, rfl, rfl, trivial⟩ (fun _ h => h)
        ·
          refine J.skip ?_
          refine J.blk_n ?_
          refine J.then_n (J.k hK18 ?_)
          refine J.keepE [(7, _), (9, _), (11, _), (12, _), (13, _)] ⟨rfl, rfl, rfl, rfl, rfl, trivial⟩ ?_
          refine J.region ?_
          refine J.y (op_move rfl rfl) rfl rfl rfl ?_
          refine J.y ((op_add rfl rfl rfl (by first | omega | (simp only [List.length_append, List.length_cons, List.length_nil, List.length_take, List.length_drop] at *; omega))).as (v' := I ((i + 1 : Nat) : Int)) (congrArg I (by omega))) rfl rfl rfl ?_
          refine J.y (op_assign rfl rfl) rfl rfl rfl ?_
          refine J.nil ?_
          refine J.then_n ?_
          exact J.kk (i + 1, n) (fun η (hη : _ ∧ (x ++ d :: y).length - η.1 < (x ++ d :: y).length - i) => hI0 η hη.1 hη.2) ⟨⟨by dsimp only; omega, by dsimp only; omega, by rw [count_take (by omega) hca, if_neg (by omega)]⟩, by first | omega | (dsimp only; omega)⟩ ⟨rfl, rfl, rfl, rfl, rfl, trivial⟩ (fun _ h => h)
      ·
        refine J.exit ?_
        refine J.then_x ?_
        refine J.then_x ?_
        refine J.blk_eq ?_
        refine J.then_n (J.k hK14 ?_)
        refine J.keepE [(7, _), (9, _), (11, _), (12, _)] ⟨rfl, rfl, rfl, rfl, trivial⟩ ?_
        refine J.seq (fun K20 hK20 => ?_)
        rw [List.take_of_length_le (by omega)] at hca
        refine J.region ?_
        refine J.y (op_move rfl rfl) rfl rfl rfl ?_
        refine J.e (op_call rfl rfl ent20 (Ct.use0 (fun F' hF => runes_ct F' (hT.mono (hF F (by simp))) x (by omega)))) rfl rfl rfl ?_
        intro g70 _
        refine J.y (op_move rfl rfl) rfl rfl rfl ?_
        refine J.y (op_extract (v := I ((if vld x = true then (rl x).length else 0 : Nat) : Int)) rfl rfl rfl) rfl rfl rfl ?_
        refine J.y (op_extract (v := .bool (vld x)) rfl rfl rfl) rfl rfl rfl ?_
        refine J.y (op_assign rfl rfl) rfl rfl rfl ?_
        refine J.y (op_assign rfl rfl) rfl rfl rfl ?_
        refine J.nil ?_
        refine J.then_n (J.k hK20 ?_)
        refine J.keepE [(7, _), (9, _), (11, _), (12, _), (14, _)] ⟨rfl, rfl, rfl, rfl, rfl, trivial⟩ ?_
        refine J.seq (fun K21 hK21 => ?_)
        refine J.region ?_
        refine J.y (op_move rfl rfl) rfl rfl rfl ?_
        refine J.e (op_call rfl rfl ent20 (Ct.use0 (fun F' hF => runes_ct F' (hT.mono (hF F (by simp))) y (by omega)))) rfl rfl rfl ?_
        intro g75 _
        refine J.y (op_move rfl rfl) rfl rfl rfl ?_
        refine J.y (op_extract (v := I ((if vld y = true then (rl y).length else 0 : Nat) : Int)) rfl rfl rfl) rfl rfl rfl ?_
        refine J.y (op_extract (v := .bool (vld y)) rfl rfl rfl) rfl rfl rfl ?_
        refine J.y (op_assign rfl rfl) rfl rfl rfl ?_
        refine J.y (op_assign rfl rfl) rfl rfl rfl ?_
        refine J.nil ?_
        refine J.then_n (J.k hK21 ?_)
        refine J.keepE [(7, _), (9, _), (11, _), (12, _), (14, _), (16, _)] ⟨rfl, rfl, rfl, rfl, rfl, rfl, trivial⟩ ?_
        refine J.seq (fun K22 hK22 => ?_)
        rw [if_pos hvx, if_pos hvy]
        have hrx := rl_le x
        have hry := rl_le y
        have hj := normal_join hx hy hd
        have hpx := spl_num x []
        have hpy := spl_num y []
        have hax := alph_le (rl x) 0 (by decide)
        have hay := alph_le (rl y) 0 (by decide)
        refine J.region ?_
        refine J.y (op_move rfl rfl) rfl rfl rfl ?_
        refine J.e (op_call rfl rfl ent16 (Ct.use0 (fun F' hF => normal_ct F' (hA.mono (hF F (by simp))) (hT.mono (hF F (by simp))) (x ++ d :: y) (by first | omega | decide)))) rfl rfl rfl ?_
        intro g80 _
        refine J.y (op_move rfl rfl) rfl rfl rfl ?_
        refine J.y (op_extract (v := Str ((normal (x ++ d :: y)).1)) rfl rfl rfl) rfl rfl rfl ?_
        refine J.y (op_extract (v := I (((normal (x ++ d :: y)).2 : Nat) : Int)) rfl rfl rfl) rfl rfl rfl ?_
        refine J.y (op_assign rfl rfl) rfl rfl rfl ?_
        refine J.y (op_assign rfl rfl) rfl rfl rfl ?_
        refine J.nil ?_
        refine J.then_n (J.k hK22 ?_)
        refine J.keepE [(7, _), (9, _), (11, _), (12, _), (14, _), (16, _), (18, _), (19, _)] ⟨rfl, rfl, rfl, rfl, rfl, rfl, rfl, rfl, trivial⟩ ?_
        refine J.seq (fun K23 hK23 => ?_)
        refine J.region ?_
        refine J.y (op_assign rfl rfl) rfl rfl rfl ?_
        refine J.nil ?_
        refine J.then_n (J.k hK23 ?_)
        refine J.keepE [(7, _), (9, _), (11, _), (12, _), (14, _), (16, _), (18, _), (19, _), (20, _)] ⟨rfl, rfl, rfl, rfl, rfl, rfl, rfl, rfl, rfl, trivial⟩ ?_
        refine J.seq (fun K24 hK24 => ?_)
        refine J.seq (fun K25 hK25 => ?_)
        refine J.region ?_
        refine J.y (op_move rfl rfl) rfl rfl rfl ?_
        refine J.y (op_move rfl rfl) rfl rfl rfl ?_
        refine J.y ((op_add rfl rfl rfl (by first | omega | (simp only [List.length_append, List.length_cons, List.length_nil, List.length_take, List.length_drop] at *; omega))).as (v' := I (((rl x).length + ((rl y).length) : Nat) : Int)) (congrArg I (by omega))) rfl rfl rfl ?_
        refine J.y ((op_add rfl rfl rfl (by first | omega | (simp only [List.length_append, List.length_cons, List.length_nil, List.length_take, List.length_drop] at *; omega))).as (v' := I (((rl x).length + ((rl y).length) + 1 : Nat) : Int)) (congrArg I (by omega))) rfl rfl rfl ?_
        refine J.y (op_gtr rfl rfl rfl) rfl rfl rfl ?_
        refine J.nil ?_
        refine J.then_n (J.k hK25 ?_)
        refine J.keepE [(7, _), (9, _), (11, _), (12, _), (18, _), (19, _), (20, _), (87, _)] ⟨rfl, rfl, rfl, rfl, rfl, rfl, rfl, rfl, trivial⟩ ?_
        refine J.ite rfl (fun h87 => ?_) (fun h87 => ?_)
        ·
          refine J.region ?_
          refine J.y (op_assign rfl rfl) rfl rfl rfl ?_
          refine J.nil ?_
          refine J.then_n (J.k hK24 ?_)
          refine J.keepE [(7, _), (9, _), (11, _), (18, _), (19, _), (20, _)] ⟨rfl, rfl, rfl, rfl, rfl, rfl, trivial⟩ ?_
          refine J.seq (fun K26 hK26 => ?_)
          refine J.seq (fun K27 hK27 => ?_)
          refine J.region ?_
          refine J.y (op_move rfl rfl) rfl rfl rfl ?_
          refine J.y (op_move rfl rfl) rfl rfl rfl ?_
          refine J.y ((op_neq rfl rfl rfl).as (v' := .bool false) (congrArg Value.bool (decide_eq_false (by rw [hj]; first | (rw [if_neg (by omega)]; exact fun h => h rfl) | (rw [if_pos (by omega), if_neg (by omega)]; exact fun h => h rfl) | (rw [if_pos (by omega), if_pos (by omega)]; exact fun h => h rfl))))) rfl rfl rfl ?_
          refine J.nil ?_
          refine J.then_n (J.k hK27 ?_)
          refine J.keepE [(7, _), (9, _), (11, _), (18, _), (20, _), (92, _)] ⟨rfl, rfl, rfl, rfl, rfl, rfl, trivial⟩ ?_
          refine J.condF rfl rfl ?_
          refine J.skip ?_
          refine J.then_n (J.k hK26 ?_)
          refine J.keepE [(7, _), (9, _), (11, _), (18, _), (20, _)] ⟨rfl, rfl, rfl, rfl, rfl, trivial⟩ ?_
          refine J.seq (fun K28 hK28 => ?_)
          refine J.region ?_
          refine J.y (op_move rfl rfl) rfl rfl rfl ?_
          refine J.y ((op_neq rfl rfl rfl).as (v' := .bool true) (congrArg Value.bool (decide_eq_true (by decide)))) rfl rfl rfl ?_
          refine J.y (op_move rfl rfl) rfl rfl rfl ?_
          refine J.no (Wan.is rfl rfl rfl rfl rfl) rfl rfl ?_
          refine J.no (Wan.is rfl rfl rfl rfl rfl) rfl rfl ?_
          refine J.no (Wan.is rfl rfl rfl rfl rfl) rfl rfl ?_
          refine J.no (Wan.is rfl rfl rfl rfl rfl) rfl rfl ?_
          refine J.no (Wan.un rfl rfl rfl rfl) rfl rfl ?_
          refine J.no (Wan.un rfl rfl rfl rfl) rfl rfl ?_
          refine J.no (Wan.un rfl rfl rfl rfl) rfl rfl ?_
          refine J.no (Wan.un rfl rfl rfl rfl) rfl rfl ?_
          refine J.no (Wan.un rfl rfl rfl rfl) rfl rfl ?_
          refine J.no (Wan.un rfl rfl rfl rfl) rfl rfl ?_
          refine J.no (Wan.un rfl rfl rfl rfl) rfl rfl ?_
          refine J.no (Wan.un rfl rfl rfl rfl) rfl rfl ?_
          refine J.no (Wan.un rfl rfl rfl rfl) rfl rfl ?_
          refine J.no (Wan.un rfl rfl rfl rfl) rfl rfl ?_
          refine J.no (Wan.un rfl rfl rfl rfl) rfl rfl ?_
          refine J.no (Wan.is rfl rfl rfl rfl rfl) rfl rfl ?_
          refine J.no (Wan.is rfl rfl rfl rfl rfl) rfl rfl ?_
          refine J.no (Wan.un rfl rfl rfl rfl) rfl rfl ?_
          refine J.no (Wan.un rfl rfl rfl rfl) rfl rfl ?_
          refine J.no (Wan.un rfl rfl rfl rfl) rfl rfl ?_
          refine J.no (Wan.un rfl rfl rfl rfl) rfl rfl ?_
          refine J.no (Wan.un rfl rfl rfl rfl) rfl rfl ?_
          refine J.no (Wan.un rfl rfl rfl rfl) rfl rfl ?_
          refine J.no (Wan.un rfl rfl rfl rfl) rfl rfl ?_
          refine J.no (Wan.un rfl rfl rfl rfl) rfl rfl ?_
          refine J.no (Wan.is rfl rfl rfl rfl rfl) rfl rfl ?_
          refine J.y (op_pickT rfl rfl rfl) rfl rfl rfl ?_
          refine J.y (op_assign rfl rfl) rfl rfl rfl ?_
          refine J.nil ?_
          refine J.then_n (J.k hK28 ?_)
          refine J.keepE [(6, _)] ⟨rfl, trivial⟩ ?_
          refine J.ret ?_
          exact J.done hw0 (fun _ _ h => h) (res1 rfl rfl) (retOk () rfl trivial [0] rfl (by decide))
        ·
          refine J.seq (fun K29 hK29 => ?_)
          refine J.region ?_
          refine J.y (op_move rfl rfl) rfl rfl rfl ?_
          refine J.y (op_gtr rfl rfl rfl) rfl rfl rfl ?_
          refine J.nil ?_
          refine J.then_n (J.k hK29 ?_)
          refine J.keepE [(7, _), (9, _), (11, _), (18, _), (19, _), (20, _), (89, _)] ⟨rfl, rfl, rfl, rfl, rfl, rfl, rfl, trivial⟩ ?_
          refine J.ite rfl (fun h89 => ?_) (fun h89 => ?_)
          ·
            refine J.region ?_
            refine J.y (op_assign rfl rfl) rfl rfl rfl ?_
            refine J.nil ?_
            refine J.then_n (J.k hK24 ?_)
            refine J.keepE [(7, _), (9, _), (11, _), (18, _), (19, _), (20, _)] ⟨rfl, rfl, rfl, rfl, rfl, rfl, trivial⟩ ?_
            refine J.seq (fun K30 hK30 => ?_)
            refine J.seq (fun K31 hK31 => ?_)
            refine J.region ?_
            refine J.y (op_move rfl rfl) rfl rfl rfl ?_
            refine J.y (op_move rfl rfl) rfl rfl rfl ?_
            refine J.y ((op_neq rfl rfl rfl).as (v' := .bool false) (congrArg Value.bool (decide_eq_false (by rw [hj]; first | (rw [if_neg (by omega)]; exact fun h => h rfl) | (rw [if_pos (by omega), if_neg (by omega)]; exact fun h => h rfl) | (rw [if_pos (by omega), if_pos (by omega)]; exact fun h => h rfl))))) rfl rfl rfl ?_
            refine J.nil ?_
            refine J.then_n (J.k hK31 ?_)
            refine J.keepE [(7, _), (9, _), (11, _), (18, _), (20, _), (92, _)] ⟨rfl, rfl, rfl, rfl, rfl, rfl, trivial⟩ ?_
            refine J.condF rfl rfl ?_
            refine J.skip ?_
            refine J.then_n (J.k hK30 ?_)
            refine J.keepE [(7, _), (9, _), (11, _), (18, _), (20, _)] ⟨rfl, rfl, rfl, rfl, rfl, trivial⟩ ?_
            refine J.seq (fun K32 hK32 => ?_)
            refine J.region ?_
            refine J.y (op_move rfl rfl) rfl rfl rfl ?_
            refine J.y ((op_neq rfl rfl rfl).as (v' := .bool true) (congrArg Value.bool (decide_eq_true (by decide)))) rfl rfl rfl ?_
            refine J.y (op_move rfl rfl) rfl rfl rfl ?_
            refine J.no (Wan.is rfl rfl rfl rfl rfl) rfl rfl ?_
            refine J.no (Wan.is rfl rfl rfl rfl rfl) rfl rfl ?_
            refine J.no (Wan.is rfl rfl rfl rfl rfl) rfl rfl ?_
            refine J.no (Wan.is rfl rfl rfl rfl rfl) rfl rfl ?_
            refine J.no (Wan.un rfl rfl rfl rfl) rfl rfl ?_
            refine J.no (Wan.un rfl rfl rfl rfl) rfl rfl ?_
            refine J.no (Wan.un rfl rfl rfl rfl) rfl rfl ?_
            refine J.no (Wan.un rfl rfl rfl rfl) rfl rfl ?_
            refine J.no (Wan.un rfl rfl rfl rfl) rfl rfl ?_
            refine J.no (Wan.un rfl rfl rfl rfl) rfl rfl ?_
            refine J.no (Wan.un rfl rfl rfl rfl) rfl rfl ?_
            refine J.no (Wan.un rfl rfl rfl rfl) rfl rfl ?_
            refine J.no (Wan.un rfl rfl rfl rfl) rfl rfl ?_
            refine J.no (Wan.un rfl rfl rfl rfl) rfl rfl ?_
            refine J.no (Wan.un rfl rfl rfl rfl) rfl rfl ?_
            refine J.no (Wan.is rfl rfl rfl rfl rfl) rfl rfl ?_
            refine J.no (Wan.is rfl rfl rfl rfl rfl) rfl rfl ?_
            refine J.no (Wan.un rfl rfl rfl rfl) rfl rfl ?_
            refine J.no (Wan.un rfl rfl rfl rfl) rfl rfl ?_
            refine J.no (Wan.un rfl rfl rfl rfl) rfl rfl ?_
            refine J.no (Wan.un rfl rfl rfl rfl) rfl rfl ?_
            refine J.no (Wan.un rfl rfl rfl rfl) rfl rfl ?_
            refine J.no (Wan.un rfl rfl rfl rfl) rfl rfl ?_
            refine J.no (Wan.un rfl rfl rfl rfl) rfl rfl ?_
            refine J.no (Wan.un rfl rfl rfl rfl) rfl rfl ?_
            refine J.no (Wan.is rfl rfl rfl rfl rfl) rfl rfl ?_
            refine J.y (op_pickT rfl rfl rfl) rfl rfl rfl ?_
            refine J.y (op_assign rfl rfl) rfl rfl rfl ?_
            refine J.nil ?_
            refine J.then_n (J.k hK32 ?_)
            refine J.keepE [(6, _)] ⟨rfl, trivial⟩ ?_
            refine J.ret ?_
            exact J.done hw0 (fun _ _ h => h) (res1 rfl rfl) (retOk () rfl trivial [0] rfl (by decide))
          ·
            refine J.skip ?_
            refine J.then_n (J.k hK24 ?_)
            refine J.keepE [(7, _), (9, _), (11, _), (18, _), (19, _), (20, _)] ⟨rfl, rfl, rfl, rfl, rfl, rfl, trivial⟩ ?_
            refine J.seq (fun K33 hK33 => ?_)
            refine J.seq (fun K34 hK34 => ?_)
            refine J.region ?_
            refine J.y (op_move rfl rfl) rfl rfl rfl ?_
            refine J.y (op_move rfl rfl) rfl rfl rfl ?_
            refine J.y ((op_neq rfl rfl rfl).as (v' := .bool false) (congrArg Value.bool (decide_eq_false (by rw [hj]; first | (rw [if_neg (by omega)]; exact fun h => h rfl) | (rw [if_pos (by omega), if_neg (by omega)]; exact fun h => h rfl) | (rw [if_pos (by omega), if_pos (by omega)]; exact fun h => h rfl))))) rfl rfl rfl ?_
            refine J.nil ?_
            refine J.then_n (J.k hK34 ?_)
            refine J.keepE [(7, _), (9, _), (11, _), (18, _), (20, _), (92, _)] ⟨rfl, rfl, rfl, rfl, rfl, rfl, trivial⟩ ?_
            refine J.condF rfl rfl ?_
            refine J.skip ?_
            refine J.then_n (J.k hK33 ?_)
            refine J.keepE [(7, _), (9, _), (11, _), (18, _), (20, _)] ⟨rfl, rfl, rfl, rfl, rfl, trivial⟩ ?_
            refine J.seq (fun K35 hK35 => ?_)
            refine J.region ?_
            refine J.y (op_move rfl rfl) rfl rfl rfl ?_
            refine J.y ((op_neq rfl rfl rfl).as (v' := .bool false) (congrArg Value.bool (decide_eq_false (by decide)))) rfl rfl rfl ?_
            refine J.y (op_move rfl rfl) rfl rfl rfl ?_
            refine J.yg (Wan.is rfl rfl rfl rfl rfl) (op_move rfl rfl) rfl rfl ?_
            refine J.yg (Wan.is rfl rfl rfl rfl rfl) (op_move rfl rfl) rfl rfl ?_
            refine J.yg (Wan.is rfl rfl rfl rfl rfl) ((op_seq rfl rfl rfl).as (v' := .bool true) (congrArg Value.bool (decide_eq_true (by rw [hj, if_pos (by omega), if_pos (by omega)])))) rfl rfl ?_
            refine J.yg (Wan.is rfl rfl rfl rfl rfl) (op_move rfl rfl) rfl rfl ?_
            refine J.yg (Wan.is rfl rfl rfl rfl rfl) (op_move rfl rfl) rfl rfl ?_
            refine J.eg (Wan.is rfl rfl rfl rfl rfl) (op_call rfl rfl ent24 (Ct.use (new := fun x : Option Addr × Nat × Hp => [x.2.2]) (fun F' hF => parts_ct F' (hT.mono (hF F (by simp))) (x ++ d :: y) (by omega)))) rfl rfl ?_
            rintro ⟨A101, c101, m101⟩ h101
            try dsimp only at h101
            change J _ ((101, .slice A101 (spl [] (x ++ d :: y)).length c101) :: _) _ [F, m101] _
            refine J.yg (Wan.is rfl rfl rfl rfl rfl) (op_len Tryd.underlying36 rfl rfl) rfl rfl ?_
            refine J.yg (Wan.is rfl rfl rfl rfl rfl) (op_move rfl rfl) rfl rfl ?_
            refine J.eg (Wan.is rfl rfl rfl rfl rfl) (op_call rfl rfl ent24 (Ct.use (new := fun x : Option Addr × Nat × Hp => [x.2.2]) (fun F' hF => parts_ct F' (hT.mono (hF F (by simp))) x (by omega)))) rfl rfl ?_
            rintro ⟨A104, c104, m104⟩ h104
            try dsimp only at h104
            change J _ ((104, .slice A104 (spl [] x).length c104) :: _) _ [F, m101, m104] _
            refine J.yg (Wan.is rfl rfl rfl rfl rfl) (op_len Tryd.underlying36 rfl rfl) rfl rfl ?_
            refine J.yg (Wan.is rfl rfl rfl rfl rfl) (op_move rfl rfl) rfl rfl ?_
            refine J.eg (Wan.is rfl rfl rfl rfl rfl) (op_call rfl rfl ent24 (Ct.use (new := fun x : Option Addr × Nat × Hp => [x.2.2]) (fun F' hF => parts_ct F' (hT.mono (hF F (by simp))) y (by omega)))) rfl rfl ?_
            rintro ⟨A107, c107, m107⟩ h107
            try dsimp only at h107
            change J _ ((107, .slice A107 (spl [] y).length c107) :: _) _ [F, m101, m104, m107] _
            refine J.yg (Wan.is rfl rfl rfl rfl rfl) (op_len Tryd.underlying36 rfl rfl) rfl rfl ?_
            refine J.yg (Wan.is rfl rfl rfl rfl rfl) ((op_add rfl rfl rfl (by first | omega | (simp only [List.length_append, List.length_cons, List.length_nil, List.length_take, List.length_drop] at *; omega))).as (v' := I (((spl [] x).length + ((spl [] y).length) : Nat) : Int)) (congrArg I (by omega))) rfl rfl ?_
            refine J.yg (Wan.is rfl rfl rfl rfl rfl) ((op_eql rfl rfl rfl).as (v' := .bool true) (congrArg Value.bool (decide_eq_true (by rw [spl_join x [] hd, List.length_append])))) rfl rfl ?_
            refine J.yg (Wan.is rfl rfl rfl rfl rfl) (op_pickT rfl rfl rfl) rfl rfl ?_
            refine J.yg (Wan.is rfl rfl rfl rfl rfl) (op_move rfl rfl) rfl rfl ?_
            refine J.yg (Wan.is rfl rfl rfl rfl rfl) (op_move rfl rfl) rfl rfl ?_
            refine J.eg (Wan.is rfl rfl rfl rfl rfl) (op_call rfl rfl ent23 (Ct.use0 (fun F' hF => alph_ct F' (hA.mono (hF F (by simp))) (x ++ d :: y) (by omega)))) rfl rfl ?_
            intro g114 _
            refine J.yg (Wan.is rfl rfl rfl rfl rfl) (op_move rfl rfl) rfl rfl ?_
            refine J.eg (Wan.is rfl rfl rfl rfl rfl) (op_call rfl rfl ent23 (Ct.use0 (fun F' hF => alph_ct F' (hA.mono (hF F (by simp))) x (by omega)))) rfl rfl ?_
            intro g116 _
            refine J.yg (Wan.is rfl rfl rfl rfl rfl) (op_move rfl rfl) rfl rfl ?_
            refine J.eg (Wan.is rfl rfl rfl rfl rfl) (op_call rfl rfl ent23 (Ct.use0 (fun F' hF => alph_ct F' (hA.mono (hF F (by simp))) y (by omega)))) rfl rfl ?_
            intro g118 _
            refine J.yg (Wan.is rfl rfl rfl rfl rfl) (op_orI (a := alph (rl x) 0) (b := alph (rl y) 0) rfl rfl rfl (by first | omega | (simp only [List.length_append, List.length_cons, List.length_nil, List.length_take, List.length_drop] at *; omega))) rfl rfl ?_
            refine J.yg (Wan.is rfl rfl rfl rfl rfl) ((op_eql rfl rfl rfl).as (v' := .bool true) (congrArg Value.bool (decide_eq_true (by rw [rl_alph_join hx hy hd])))) rfl rfl ?_
            refine J.yg (Wan.is rfl rfl rfl rfl rfl) (op_pickT rfl rfl rfl) rfl rfl ?_
            refine J.y (op_pickF rfl rfl rfl) rfl rfl rfl ?_
            refine J.y (op_assign rfl rfl) rfl rfl rfl ?_
            refine J.nil ?_
            refine J.then_n (J.k hK35 ?_)
            refine J.keepE [(6, _)] ⟨rfl, trivial⟩ ?_
            refine J.ret ?_
            exact J.done hw0 (fun _ _ h => h) (res1 rfl rfl) (retOk () rfl trivial [0] rfl (by decide))

end Go.Proofs.YtpcffgkmpmcobaaDoor
