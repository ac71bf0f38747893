/- A part of the proof: contracts of functions of the program, each for every state of the heaps that it names. -/
import Derived.Test.YtpcffgkmpmcobaaDoorRfn
import Derived.Test.YtpcffgkmpmcobaaDoorRfs
set_option linter.unusedSimpArgs false
set_option linter.unusedVariables false
namespace Go.Proofs.YtpcffgkmpmcobaaDoor
open Go Go.Fw
set_option maxRecDepth 100000
set_option maxHeartbeats 1000000
theorem ent83 : Enters Tryd.prog 83 := Enters.of Tryd.func83 rfl (by kernel_rfl)
theorem el3 : Elem Tryd.prog 3 [.int .i64 0] 8 := Elem.of (by kernel_rfl) rfl

theorem runesr_ct (F : Hp) (s : List UInt8) (hs : s.length ≤ 1000000) : Ct Tryd.prog 18 [Str (s)] [F] (fun x : Option Addr × Nat × Hp => .tuple #[.slice x.1 (rlo s).length x.2.1, .bool (vld s)]) (fun x => Row x.2.2 3 1 x.1 (rlo s).length x.2.1 (natsV (rlo s))) (fun x => [F, x.2.2]) := by
  refine Ct.walk Tryd.func18 rfl Tryd.ntmps18 rfl (fun w0 hw0 => ?_)
  change J _ [(0, _)] _ _ _
  refine J.seq (fun K1 hK1 => ?_)
  refine J.region ?_
  refine J.y (op_assign rfl rfl) rfl rfl rfl ?_
  refine J.y (op_assign rfl rfl) rfl rfl rfl ?_
  refine J.nil ?_
  refine J.then_n (J.k hK1 ?_)
  refine J.keepE [(0, _)] ⟨rfl, trivial⟩ ?_
  refine J.seq (fun K2 hK2 => ?_)
  refine J.region ?_
  refine J.y (op_assign rfl rfl) rfl rfl rfl ?_
  refine J.nil ?_
  refine J.then_n (J.k hK2 ?_)
  refine J.keepE [(0, _), (4, _)] ⟨rfl, rfl, trivial⟩ ?_
  refine J.seq (fun K3 hK3 => ?_)
  refine J.block ?_
  refine J.loop (X := List UInt8 × List Nat × Option Addr × Nat × Hp) (fun ζ => [(0, Str (ζ.1)), (4, .slice ζ.2.2.1 ζ.2.1.length ζ.2.2.2.1)]) (fun ζ => [F, ζ.2.2.2.2]) (fun ζ => Row ζ.2.2.2.2 3 1 ζ.2.2.1 ζ.2.1.length ζ.2.2.2.1 (natsV ζ.2.1) ∧ ζ.2.1 ++ rl ζ.1 = rl s ∧ vld ζ.1 = vld s ∧ ζ.2.1.length + ζ.1.length ≤ s.length) (fun ζ => ζ.1.length) (s, [], none, 0, (fun _ => none)) (⟨RowQ.nil, rfl, rfl, by simp⟩) ⟨rfl, rfl, trivial⟩ (fun _ h => h.empty.pick [0, 1] (by decide)) ?_
  rintro ⟨t, l, A, c, m⟩ ⟨hr, hl, hv, hb⟩ I0 hI0
  dsimp only at hr hl hv hb ⊢
  refine J.seq (fun K4 hK4 => ?_)
  refine J.seq (fun K5 hK5 => ?_)
  refine J.region ?_
  refine J.y (op_move rfl rfl) rfl rfl rfl ?_
  refine J.y (op_slen Tryd.underlying9 rfl rfl) rfl rfl rfl ?_
  refine J.y (op_gtr rfl rfl rfl) rfl rfl rfl ?_
  refine J.nil ?_
  refine J.then_n (J.k hK5 ?_)
  refine J.keepE [(0, _), (4, _), (9, _)] ⟨rfl, rfl, rfl, trivial⟩ ?_
  refine J.ite rfl (fun h9 => ?_) (fun h9 => ?_)
  ·
    have h0 : t ≠ [] := fun e => by rw [e] at h9; exact absurd h9 (by decide)
    refine J.skip ?_
    refine J.then_n (J.k hK4 ?_)
    refine J.keepE [(0, _), (4, _)] ⟨rfl, rfl, trivial⟩ ?_
    refine J.block ?_
    refine J.seq (fun K6 hK6 => ?_)
    refine J.region ?_
    refine J.y (op_move rfl rfl) rfl rfl rfl ?_
    refine J.e (op_call rfl rfl ent83 (Ct.use0 (fun F' hF => next_ct F' t (by omega)))) rfl rfl rfl ?_
    intro g12 _
    refine J.y (op_move rfl rfl) rfl rfl rfl ?_
    refine J.y (op_extract (v := I (((nx t).1 : Nat) : Int)) rfl rfl rfl) rfl rfl rfl ?_
    refine J.y (op_extract (v := I (((nx t).2 : Nat) : Int)) rfl rfl rfl) rfl rfl rfl ?_
    refine J.y (op_assign rfl rfl) rfl rfl rfl ?_
    refine J.y (op_assign rfl rfl) rfl rfl rfl ?_
    refine J.nil ?_
    refine J.then_n (J.k hK6 ?_)
    refine J.keepE [(0, _), (4, _), (5, _), (6, _)] ⟨rfl, rfl, rfl, rfl, trivial⟩ ?_
    refine J.seq (fun K7 hK7 => ?_)
    refine J.seq (fun K8 hK8 => ?_)
    refine J.region ?_
    refine J.y (op_move rfl rfl) rfl rfl rfl ?_
    refine J.y (op_eql rfl rfl rfl) rfl rfl rfl ?_
    refine J.nil ?_
    refine J.then_n (J.k hK8 ?_)
    refine J.keepE [(0, _), (4, _), (5, _), (6, _), (16, _)] ⟨rfl, rfl, rfl, rfl, rfl, trivial⟩ ?_
    refine J.ite rfl (fun h16 => ?_) (fun h16 => ?_)
    ·
      refine J.seq (fun K9 hK9 => ?_)
      refine J.region ?_
      refine J.y (op_assign rfl rfl) rfl rfl rfl ?_
      refine J.y (op_assign rfl rfl) rfl rfl rfl ?_
      refine J.nil ?_
      refine J.then_n (J.k hK9 ?_)
      refine J.keepE [(2, _), (3, _)] ⟨rfl, rfl, trivial⟩ ?_
      refine J.ret ?_
      refine J.then_r ?_
      refine J.blk_r ?_
      refine J.then_r ?_
      refine J.blk_r ?_
      refine J.then_r ?_
      have hf : vld s = false := by rw [← hv, vld_ne h0, decide_eq_false (fun e => by rcases nx_zero (s := t) (by omega) with h | h; exact h0 h; exact e h)]; rfl
      refine J.addEmpty [0, 2] [F, (fun _ => none)] rfl (by decide) ?_
      exact J.done hw0 (fun _ _ h => h) (res2 rfl rfl rfl) (retOk (none, 0, (fun _ => none)) (by rw [hf]; unfold rlo; rw [hf]; rfl) (by unfold rlo; rw [hf]; exact RowQ.nil) [0, 1] rfl (by decide))
    ·
      refine J.skip ?_
      refine J.then_n (J.k hK7 ?_)
      refine J.keepE [(0, _), (4, _), (5, _), (6, _)] ⟨rfl, rfl, rfl, rfl, trivial⟩ ?_
      refine J.seq (fun K10 hK10 => ?_)
      have hnx := nx_pos (s := t) (by omega)
      have hnd : (nx t).2 ≤ t.length := by rw [hnx.1]; have := dec_le t 0 (List.length_pos_iff.2 h0); omega
      have hnd1 : 1 ≤ (nx t).2 := by omega
      have hnl : (nx t).1 < 1114112 := by rw [hnx.1]; exact dec_rune t 0 (Nat.zero_le _)
      refine J.region ?_
      refine J.y (op_move rfl rfl) rfl rfl rfl ?_
      refine J.y (op_move rfl rfl) rfl rfl rfl ?_
      refine J.e (op_buildSlice (l := [.tmp 18]) (xs := [[I (((nx t).1 : Nat) : Int)]]) rfl rfl rfl rfl Tryd.underlying27 el3 rfl (by decide) (by decide) (by simp)) rfl rfl rfl ?_
      intro g19 _
      change J _ _ _ [F, m, blk g19 [I (((nx t).1 : Nat) : Int)] 3] _
      refine J.e (op_append (i := 1) (xs := natsV l) (m2 := blk g19 [I (((nx t).1 : Nat) : Int)] 3) (ys := [[I (((nx t).1 : Nat) : Int)]]) rfl rfl rfl Tryd.underlying27 Tryd.underlying27 el3 rfl hr (by simp) ((row_lit (q := True) (natsV [(nx t).1]) rfl (by simp [natsV]) rfl).sl) rfl (by first | omega | (simp only [List.length_append, List.length_cons, List.length_nil, List.length_take, List.length_drop] at *; omega)) (by first | omega | (simp only [List.length_append, List.length_cons, List.length_nil, List.length_take, List.length_drop] at *; omega))) rfl rfl rfl ?_
      rintro ⟨A20, c20, m20⟩ h20
      try dsimp only at h20
      change J _ ((20, .slice A20 (l.length + 1) c20) :: _) _ [F, m20, blk g19 [I (((nx t).1 : Nat) : Int)] 3] _
      rw [← natsV_snoc] at h20
      refine J.y (op_assign rfl rfl) rfl rfl rfl ?_
      refine J.nil ?_
      refine J.then_n (J.k hK10 ?_)
      refine J.keepE [(0, _), (4, _), (6, _)] ⟨rfl, rfl, rfl, trivial⟩ ?_
      refine J.region ?_
      refine J.y (op_move rfl rfl) rfl rfl rfl ?_
      refine J.y (op_move rfl rfl) rfl rfl rfl ?_
      refine J.y ((op_sslice (a := t) (l := (nx t).2) (h := t.length) Tryd.underlying9 rfl rfl rfl rfl ⟨by first | omega | (simp only [List.length_append, List.length_cons, List.length_nil, List.length_take, List.length_drop] at *; omega), by first | omega | (simp only [List.length_append, List.length_cons, List.length_nil, List.length_take, List.length_drop] at *; omega)⟩).as (v' := Str (t.drop ((nx t).2))) (by rw [List.take_length])) rfl rfl rfl ?_
      refine J.y (op_assign rfl rfl) rfl rfl rfl ?_
      refine J.nil ?_
      refine J.blk_n ?_
      refine J.then_n ?_
      exact J.kk (t.drop ((nx t).2), l ++ [(nx t).1], A20, c20, m20) (fun η (hη : _ ∧ η.1.length < t.length) => hI0 η hη.1 hη.2) ⟨⟨by rw [List.length_append]; exact h20, by rw [← hl, rl_ne h0, hnx.1, List.append_assoc]; rfl, by rw [← hv, vld_ne h0, decide_eq_true hnx.2.2, hnx.1]; rfl, by simp; omega⟩, by simp; omega⟩ ⟨rfl, by rw [List.length_append]; rfl, trivial⟩ (fun _ h => h.pick [0, 1] (by decide))
  ·
    refine J.exit ?_
    refine J.then_x ?_
    refine J.then_x ?_
    refine J.blk_eq ?_
    refine J.then_n (J.k hK3 ?_)
    refine J.keepE [(4, _)] ⟨rfl, trivial⟩ ?_
    refine J.seq (fun K11 hK11 => ?_)
    refine J.region ?_
    refine J.y (op_move rfl rfl) rfl rfl rfl ?_
    refine J.y (op_assign rfl rfl) rfl rfl rfl ?_
    refine J.y (op_assign rfl rfl) rfl rfl rfl ?_
    refine J.nil ?_
    refine J.then_n (J.k hK11 ?_)
    refine J.keepE [(2, _), (3, _)] ⟨rfl, rfl, trivial⟩ ?_
    refine J.ret ?_
    have ht : t = [] := List.eq_nil_of_length_eq_zero (by omega)
    subst ht
    rw [rl_nil, List.append_nil] at hl
    rw [vld_nil] at hv
    have hro : rlo s = l := by unfold rlo; rw [if_pos hv.symm, hl]
    exact J.done hw0 (fun _ _ h => h) (res2 rfl rfl rfl) (retOk (A, c, m) (by rw [← hv, hro]) (by rw [hro]; exact hr) [0, 1] rfl (by decide))

end Go.Proofs.YtpcffgkmpmcobaaDoor
