/- A part of the proof: contracts of functions of the program, each for every state of the heaps that it names. -/
import Derived.Test.YtnkfapecbmmpeaaDoorSmt2
import Derived.Test.YtnkfapecbmmpeaaDoorFwV
set_option linter.unusedSimpArgs false
set_option linter.unusedVariables false
namespace Go.Proofs.YtnkfapecbmmpeaaDoor
open Go Go.Fw
set_option maxRecDepth 100000
set_option maxHeartbeats 1000000
theorem ent68 : Enters Tryd.prog 68 := Enters.of Tryd.func68 rfl (by kernel_rfl)
theorem ent73 : Enters Tryd.prog 73 := Enters.of Tryd.func73 rfl (by kernel_rfl)
theorem ent111 : Enters Tryd.prog 111 := Enters.of Tryd.func111 rfl (by kernel_rfl)

def nbl (b : List UInt8) (d : Int) (k : List UInt8) : Bool := !Sm.belowB k b (min d.toNat 128)

theorem node1_ct (F : Hp) (k : List UInt8) (hk : k.length ≤ 1000000) (pb pd : Nat) (b : List UInt8) (d : Int) (hpb : Cells F ⟨pb, 0, none⟩ [Str b]) (hpd : Cells F ⟨pd, 0, none⟩ [I d]) (hb : b.length ≤ 1000000) : Ct Tryd.prog 73 [Str (k), Ptr pb, Ptr pd] [F] (fun _ : Unit => .bool (nbl b d k)) (fun _ => True) (fun _ => [F]) := by
  refine Ct.walk Tryd.func73 rfl Tryd.ntmps73 rfl (fun w0 hw0 => ?_)
  change J _ [(0, _), (1, _), (2, _)] _ _ _
  refine J.seq (fun K1 hK1 => ?_)
  refine J.region ?_
  refine J.y (op_assign rfl rfl) rfl rfl rfl ?_
  refine J.nil ?_
  refine J.then_n (J.k hK1 ?_)
  refine J.keepE [(0, _), (1, _), (2, _)] ⟨rfl, rfl, rfl, trivial⟩ ?_
  refine J.seq (fun K2 hK2 => ?_)
  refine J.region ?_
  refine J.y (op_move rfl rfl) rfl rfl rfl ?_
  refine J.y (op_load (v := Str (b)) rfl rfl Tryd.isAgg9 (m := F) (by simp) (hpb)) rfl rfl rfl ?_
  refine J.y (op_load (v := I (d)) rfl rfl Tryd.isAgg3 (m := F) (by simp) (hpd)) rfl rfl rfl ?_
  refine J.e (op_call rfl rfl ent68 (Ct.use0 (fun F' hF => below_ct F' k (by omega) b (by omega) d))) rfl rfl rfl ?_
  intro g8 _
  refine J.y (op_not rfl rfl) rfl rfl rfl ?_
  refine J.y (op_assign rfl rfl) rfl rfl rfl ?_
  refine J.nil ?_
  refine J.then_n (J.k hK2 ?_)
  refine J.keepE [(4, _)] ⟨rfl, trivial⟩ ?_
  refine J.ret ?_
  exact J.done hw0 (fun _ _ h => h) (res1 rfl rfl) (retOk () (by unfold nbl; rfl) trivial [0] rfl (by decide))

theorem sidx_ct (F : Hp) (A : Option Addr) (n c : Nat) (ks : List (List UInt8)) (hs : Sl F 1 A n c (strsV ks)) (hn : n ≤ 1000000) (hsm : ∀ k : Nat, (ks.getD k []).length ≤ 1000000) (pb pd : Nat) (b : List UInt8) (d : Int) (hpb : Cells F ⟨pb, 0, none⟩ [Str b]) (hpd : Cells F ⟨pd, 0, none⟩ [I d]) (hb : b.length ≤ 1000000) : Ct Tryd.prog 111 [.slice A n c, .func (.func 73) #[] #[Ptr pb, Ptr pd]] [F] (fun _ : Unit => I (ixS (nbl b d) ks)) (fun _ => True) (fun _ => [F]) := by
  have hkn : ks.length = n := by have := hs.1; simpa [strsV] using this
  refine Ct.walk Tryd.func111 rfl Tryd.ntmps111 rfl (fun w0 hw0 => ?_)
  change J _ [(0, _), (1, _)] _ _ _
  refine J.seq (fun K1 hK1 => ?_)
  refine J.region ?_
  refine J.y (op_assign rfl rfl) rfl rfl rfl ?_
  refine J.nil ?_
  refine J.then_n (J.k hK1 ?_)
  refine J.keepE [(0, _), (1, _)] ⟨rfl, rfl, trivial⟩ ?_
  refine J.seq (fun K2 hK2 => ?_)
  refine J.seq (fun K3 hK3 => ?_)
  refine J.region ?_
  refine J.y (op_move rfl rfl) rfl rfl rfl ?_
  refine J.y (op_len Tryd.underlying55 rfl rfl) rfl rfl rfl ?_
  refine J.y (op_move rfl rfl) rfl rfl rfl ?_
  refine J.nil ?_
  refine J.then_n (J.k hK3 ?_)
  refine J.keepE [(0, _), (1, _), (7, _), (8, _)] ⟨rfl, rfl, rfl, rfl, trivial⟩ ?_
  refine J.block ?_
  refine J.loop (X := Nat) (fun ζ => [(0, .slice A n c), (1, .func (.func 73) #[] #[Ptr pb, Ptr pd]), (7, I ((n : Nat) : Int)), (8, I ((ζ : Nat) : Int))]) (fun ζ => [F]) (fun ζ => ζ ≤ n ∧ ∀ j < ζ, nbl b d (ks.getD j []) = false) (fun ζ => n - ζ) 0 (⟨Nat.zero_le _, fun j h => absurd h (Nat.not_lt_zero j)⟩) ⟨rfl, rfl, rfl, rfl, trivial⟩ (fun _ h => h) ?_
  rintro k ⟨hk, hno⟩ I0 hI0
  refine J.seq (fun K4 hK4 => ?_)
  refine J.region ?_
  refine J.y (op_lss rfl rfl rfl) rfl rfl rfl ?_
  refine J.nil ?_
  refine J.then_n (J.k hK4 ?_)
  refine J.keepE [(0, _), (1, _), (7, _), (8, _), (9, _)] ⟨rfl, rfl, rfl, rfl, rfl, trivial⟩ ?_
  refine J.seq (fun K5 hK5 => ?_)
  refine J.ite rfl (fun h9 => ?_) (fun h9 => ?_)
  ·
    refine J.skip ?_
    refine J.then_n (J.k hK5 ?_)
    refine J.keepE [(0, _), (1, _), (7, _), (8, _)] ⟨rfl, rfl, rfl, rfl, trivial⟩ ?_
    refine J.seq (fun K6 hK6 => ?_)
    refine J.block ?_
    refine J.seq (fun K7 hK7 => ?_)
    refine J.region ?_
    refine J.y (op_move rfl rfl) rfl rfl rfl ?_
    refine J.y (op_assign rfl rfl) rfl rfl rfl ?_
    refine J.nil ?_
    refine J.then_n (J.k hK7 ?_)
    refine J.keepE [(0, _), (1, _), (5, _), (7, _), (8, _)] ⟨rfl, rfl, rfl, rfl, rfl, trivial⟩ ?_
    refine J.seq (fun K8 hK8 => ?_)
    refine J.region ?_
    refine J.y (op_move rfl rfl) rfl rfl rfl ?_
    refine J.y (op_move rfl rfl) rfl rfl rfl ?_
    refine J.y (op_move rfl rfl) rfl rfl rfl ?_
    refine J.y (op_indexAddr (i := k) rfl rfl rfl Tryd.underlying55 Tryd.sizeOf9 hs (by first | omega | (simp only [List.length_append, List.length_cons, List.length_nil, List.length_take, List.length_drop] at *; omega))) rfl rfl rfl ?_
    refine J.y (op_load rfl rfl Tryd.isAgg9 (m := F) (by simp) (hs.elem (strsV_get (getSome [] (by first | omega | (simp only [List.length_append, List.length_cons, List.length_nil, List.length_take, List.length_drop] at *; omega)))))) rfl rfl rfl ?_
    refine J.e (op_callV rfl rfl rfl ent73 (Ct.use0 (fun F' hF => node1_ct F' (ks.getD k []) (by first | omega | (exact hsm _)) pb pd b d (hpb.mono (hF F (by simp))) (hpd.mono (hF F (by simp))) (by omega)))) rfl rfl rfl ?_
    intro g16 _
    refine J.nil ?_
    refine J.then_n (J.k hK8 ?_)
    refine J.keepE [(0, _), (1, _), (5, _), (7, _), (8, _), (16, _)] ⟨rfl, rfl, rfl, rfl, rfl, rfl, trivial⟩ ?_
    refine J.cond rfl (fun h16 => ?_) (fun h16 => ?_)
    ·
      refine J.seq (fun K9 hK9 => ?_)
      refine J.region ?_
      refine J.y (op_move rfl rfl) rfl rfl rfl ?_
      refine J.y (op_assign rfl rfl) rfl rfl rfl ?_
      refine J.nil ?_
      refine J.then_n (J.k hK9 ?_)
      refine J.keepE [(4, _)] ⟨rfl, trivial⟩ ?_
      refine J.ret ?_
      refine J.blk_r ?_
      refine J.then_r ?_
      refine J.then_r ?_
      refine J.blk_r ?_
      refine J.then_r ?_
      exact J.done hw0 (fun _ _ h => h) (res1 rfl rfl) (retOk () (by rw [ixS_at (k := k) (by omega) (by simpa using h16) hno]) trivial [0] rfl (by decide))
    ·
      refine J.skip ?_
      refine J.blk_n ?_
      refine J.then_n (J.k hK6 ?_)
      refine J.keepE [(0, _), (1, _), (7, _), (8, _)] ⟨rfl, rfl, rfl, rfl, trivial⟩ ?_
      refine J.region ?_
      refine J.y ((op_add rfl rfl rfl (by first | omega | (simp only [List.length_append, List.length_cons, List.length_nil, List.length_take, List.length_drop] at *; omega))).as (v' := I ((k + 1 : Nat) : Int)) (congrArg I (by omega))) rfl rfl rfl ?_
      refine J.y (op_move rfl rfl) rfl rfl rfl ?_
      refine J.nil ?_
      refine J.then_n ?_
      exact J.kk (k + 1) (fun η (hη : _ ∧ n - η < n - k) => hI0 η hη.1 hη.2) ⟨⟨by omega, fun j hj => by rcases Nat.lt_succ_iff_lt_or_eq.1 hj with h | rfl; exact hno j h; simpa using h16⟩, by first | omega | (dsimp only; omega)⟩ ⟨rfl, rfl, rfl, rfl, trivial⟩ (fun _ h => h)
  ·
    refine J.exit ?_
    refine J.then_x ?_
    refine J.then_x ?_
    refine J.blk_eq ?_
    refine J.then_n (J.k hK2 ?_)
    refine J.keepE [] trivial ?_
    refine J.seq (fun K10 hK10 => ?_)
    refine J.region ?_
    refine J.y (op_assign rfl rfl) rfl rfl rfl ?_
    refine J.nil ?_
    refine J.then_n (J.k hK10 ?_)
    refine J.keepE [(4, _)] ⟨rfl, trivial⟩ ?_
    refine J.ret ?_
    exact J.done hw0 (fun _ _ h => h) (res1 rfl rfl) (retOk () (by rw [ixS_no (fun j hj => hno j (by omega))]) trivial [0] rfl (by decide))

theorem sdel_ct (F m : Hp) (A : Option Addr) (n c : Nat) (ks : List (List UInt8)) (hr : Row m 9 1 A n c (strsV ks)) (hn : n ≤ 1000000) (hsm : ∀ k : Nat, (ks.getD k []).length ≤ 1000000) (pb pd : Nat) (b : List UInt8) (d : Int) (hpb : Cells F ⟨pb, 0, none⟩ [Str b]) (hpd : Cells F ⟨pd, 0, none⟩ [I d]) (hb : b.length ≤ 1000000) :
    Ct Tryd.prog 65 [.slice A n c, .func (.func 73) #[] #[Ptr pb, Ptr pd]] [m, F] (fun _ : Hp => .slice A (ks.filter fun k => !nbl b d k).length c) (fun m' => Row m' 9 1 A (ks.filter fun k => !nbl b d k).length c (strsV (ks.filter fun k => !nbl b d k))) (fun m' => [m', F]) := by
  have hkn : ks.length = n := by have := hr.len; simpa [strsV] using this
  have hnc := hr.2.2.1
  refine Ct.walk Tryd.func65 rfl Tryd.ntmps65 rfl (fun w0 hw0 => ?_)
  change J _ [(0, _), (1, _)] _ _ _
  refine J.seq (fun K1 hK1 => ?_)
  refine J.region ?_
  refine J.y (op_assign rfl rfl) rfl rfl rfl ?_
  refine J.nil ?_
  refine J.then_n (J.k hK1 ?_)
  refine J.keepE [(0, _), (1, _)] ⟨rfl, rfl, trivial⟩ ?_
  refine J.seq (fun K2 hK2 => ?_)
  refine J.region ?_
  refine J.y (op_move rfl rfl) rfl rfl rfl ?_
  refine J.y (op_move rfl rfl) rfl rfl rfl ?_
  refine J.e (op_call rfl rfl ent111 (Ct.use0 (fun F' hF => sidx_ct F' A n c ks (hr.sl.mono (hF m (by simp))) (by omega) (hsm) pb pd b d (hpb.mono (hF F (by simp))) (hpd.mono (hF F (by simp))) (by omega)))) rfl rfl rfl ?_
  intro g10 _
  refine J.y (op_assign rfl rfl) rfl rfl rfl ?_
  refine J.nil ?_
  refine J.then_n (J.k hK2 ?_)
  refine J.keepE [(0, _), (1, _), (5, _)] ⟨rfl, rfl, rfl, trivial⟩ ?_
  refine J.seq (fun K3 hK3 => ?_)
  refine J.seq (fun K4 hK4 => ?_)
  refine J.region ?_
  refine J.y (op_move rfl rfl) rfl rfl rfl ?_
  refine J.y (op_eql rfl rfl rfl) rfl rfl rfl ?_
  refine J.nil ?_
  refine J.then_n (J.k hK4 ?_)
  refine J.keepE [(0, _), (1, _), (5, _), (12, _)] ⟨rfl, rfl, rfl, rfl, trivial⟩ ?_
  refine J.ite rfl (fun h12 => ?_) (fun h12 => ?_)
  ·
    refine J.seq (fun K5 hK5 => ?_)
    refine J.region ?_
    refine J.y (op_move rfl rfl) rfl rfl rfl ?_
    refine J.y (op_assign rfl rfl) rfl rfl rfl ?_
    refine J.nil ?_
    refine J.then_n (J.k hK5 ?_)
    refine J.keepE [(4, _)] ⟨rfl, trivial⟩ ?_
    refine J.ret ?_
    refine J.then_r ?_
    have hf : (ks.filter fun k => !nbl b d k) = ks := ixS_none h12
    exact J.done hw0 (fun _ _ h => h) (res1 rfl rfl) (retOk m (by rw [hf, hkn]) (by rw [hf, hkn]; exact hr) [0, 1] rfl (by decide))
  ·
    refine J.skip ?_
    refine J.then_n (J.k hK3 ?_)
    refine J.keepE [(0, _), (1, _), (5, _)] ⟨rfl, rfl, rfl, trivial⟩ ?_
    refine J.seq (fun K6 hK6 => ?_)
    refine J.seq (fun K7 hK7 => ?_)
    obtain ⟨i0, h5, hi0, hf0⟩ := ixS_ex h12
    obtain ⟨ga, rfl⟩ := hr.at (by omega)
    rw [h5]
    refine J.region ?_
    refine J.y (op_move rfl rfl) rfl rfl rfl ?_
    refine J.y ((op_add rfl rfl rfl (by first | omega | (simp only [List.length_append, List.length_cons, List.length_nil, List.length_take, List.length_drop] at *; omega))).as (v' := I ((i0 + 1 : Nat) : Int)) (congrArg I (by omega))) rfl rfl rfl ?_
    refine J.y (op_assign rfl rfl) rfl rfl rfl ?_
    refine J.nil ?_
    refine J.then_n (J.k hK7 ?_)
    refine J.keepE [(0, _), (1, _), (5, _), (6, _)] ⟨rfl, rfl, rfl, rfl, trivial⟩ ?_
    refine J.block ?_
    refine J.loop (X := Nat × Nat × List (List UInt8) × Hp) (fun ζ => [(0, .slice (some ⟨ga, 0, none⟩) n c), (1, .func (.func 73) #[] #[Ptr pb, Ptr pd]), (5, I ((ζ.1 : Nat) : Int)), (6, I ((ζ.2.1 : Nat) : Int))]) (fun ζ => [ζ.2.2.2, F]) (fun ζ => ζ.1 < ζ.2.1 ∧ ζ.2.1 ≤ n ∧ ζ.2.2.1.length = n ∧ ζ.2.2.1.take ζ.1 = (ks.take ζ.2.1).filter (fun k => !nbl b d k) ∧ ζ.2.2.1.drop ζ.2.1 = ks.drop ζ.2.1 ∧ Row ζ.2.2.2 9 1 (some ⟨ga, 0, none⟩) n c (strsV ζ.2.2.1)) (fun ζ => n - ζ.2.1) (i0, i0 + 1, ks, m) (⟨by dsimp only; omega, by dsimp only; omega, hkn, hf0, rfl, hr⟩) ⟨rfl, rfl, rfl, rfl, trivial⟩ (fun _ h => h) ?_
    rintro ⟨w, j, L, m⟩ ⟨hw, hj, hL, hA, hB, hr⟩ I0 hI0
    dsimp only at hw hj hL hA hB hr ⊢
    refine J.seq (fun K8 hK8 => ?_)
    refine J.seq (fun K9 hK9 => ?_)
    refine J.region ?_
    refine J.y (op_move rfl rfl) rfl rfl rfl ?_
    refine J.y (op_move rfl rfl) rfl rfl rfl ?_
    refine J.y (op_len Tryd.underlying55 rfl rfl) rfl rfl rfl ?_
    refine J.y (op_lss rfl rfl rfl) rfl rfl rfl ?_
    refine J.nil ?_
    refine J.then_n (J.k hK9 ?_)
    refine J.keepE [(0, _), (1, _), (5, _), (6, _), (19, _)] ⟨rfl, rfl, rfl, rfl, rfl, trivial⟩ ?_
    refine J.ite rfl (fun h19 => ?_) (fun h19 => ?_)
    ·
      refine J.skip ?_
      refine J.then_n (J.k hK8 ?_)
      refine J.keepE [(0, _), (1, _), (5, _), (6, _)] ⟨rfl, rfl, rfl, rfl, trivial⟩ ?_
      refine J.seq (fun K10 hK10 => ?_)
      refine J.block ?_
      refine J.seq (fun K11 hK11 => ?_)
      refine J.region ?_
      refine J.y (op_move rfl rfl) rfl rfl rfl ?_
      refine J.y (op_move rfl rfl) rfl rfl rfl ?_
      refine J.y (op_indexAddrS (i := j) (j := 0 + j * 1) rfl rfl rfl Tryd.underlying55 Tryd.sizeOf9 (by first | omega | (simp only [List.length_append, List.length_cons, List.length_nil, List.length_take, List.length_drop] at *; omega)) (by omega)) rfl rfl rfl ?_
      have hnw : w < j := hw
      refine J.y (op_load rfl rfl Tryd.isAgg9 (m := m) (by simp) (hr.sl.cells (strsV_get (getSome [] (by first | omega | (simp only [List.length_append, List.length_cons, List.length_nil, List.length_take, List.length_drop] at *; omega)))))) rfl rfl rfl ?_
      refine J.y (op_assign rfl rfl) rfl rfl rfl ?_
      refine J.nil ?_
      refine J.then_n (J.k hK11 ?_)
      refine J.keepE [(0, _), (1, _), (5, _), (6, _), (7, _)] ⟨rfl, rfl, rfl, rfl, rfl, trivial⟩ ?_
      refine J.seq (fun K12 hK12 => ?_)
      have hgj : (L.getD j []).length ≤ 1000000 := by
        have e0 := congrArg (fun z => z.getD 0 []) hB
        have e1 : L.getD j [] = ks.getD j [] := by simpa [List.getD_eq_getElem?_getD, List.getElem?_drop] using e0
        rw [e1]; exact hsm j
      refine J.region ?_
      refine J.y (op_move rfl rfl) rfl rfl rfl ?_
      refine J.y (op_move rfl rfl) rfl rfl rfl ?_
      refine J.e (op_callV rfl rfl rfl ent73 (Ct.use0 (fun F' hF => node1_ct F' (L.getD j []) (by first | omega | (exact hsm _)) pb pd b d (hpb.mono (hF F (by simp))) (hpd.mono (hF F (by simp))) (by omega)))) rfl rfl rfl ?_
      intro g28 _
      refine J.y (op_not rfl rfl) rfl rfl rfl ?_
      refine J.nil ?_
      refine J.then_n (J.k hK12 ?_)
      refine J.keepE [(0, _), (1, _), (5, _), (6, _), (7, _), (29, _)] ⟨rfl, rfl, rfl, rfl, rfl, rfl, trivial⟩ ?_
      refine J.cond rfl (fun h29 => ?_) (fun h29 => ?_)
      ·
        refine J.seq (fun K13 hK13 => ?_)
        refine J.region ?_
        refine J.y (op_move rfl rfl) rfl rfl rfl ?_
        refine J.y (op_move rfl rfl) rfl rfl rfl ?_
        refine J.y (op_move rfl rfl) rfl rfl rfl ?_
        refine J.y (op_indexAddrS (i := w) (j := 0 + w * 1) rfl rfl rfl Tryd.underlying55 Tryd.sizeOf9 (by first | omega | (simp only [List.length_append, List.length_cons, List.length_nil, List.length_take, List.length_drop] at *; omega)) (by omega)) rfl rfl rfl ?_
        refine J.s (op_storeRow (i := 0) (k := w) (off := 0) (b := [Str (L.getD j [])]) rfl rfl rfl rfl hr (vs := [Str (L.getD j [])]) rfl Tryd.sizeOf9 rfl (by omega) (strsV_get (getSome [] (by first | omega | (simp only [List.length_append, List.length_cons, List.length_nil, List.length_take, List.length_drop] at *; omega)))) rfl (Nat.le_refl _)) rfl rfl ?_
        rintro m9_1 hm9_1
        change J _ _ _ [m9_1, F] _
        rw [strsV_set] at hm9_1
        refine J.nil ?_
        refine J.then_n (J.k hK13 ?_)
        refine J.keepE [(0, _), (1, _), (5, _), (6, _)] ⟨rfl, rfl, rfl, rfl, trivial⟩ ?_
        refine J.region ?_
        refine J.y (op_move rfl rfl) rfl rfl rfl ?_
        refine J.y ((op_add rfl rfl rfl (by first | omega | (simp only [List.length_append, List.length_cons, List.length_nil, List.length_take, List.length_drop] at *; omega))).as (v' := I ((w + 1 : Nat) : Int)) (congrArg I (by omega))) rfl rfl rfl ?_
        refine J.y (op_assign rfl rfl) rfl rfl rfl ?_
        refine J.nil ?_
        refine J.blk_n ?_
        refine J.then_n (J.k hK10 ?_)
        refine J.keepE [(0, _), (1, _), (5, _), (6, _)] ⟨rfl, rfl, rfl, rfl, trivial⟩ ?_
        refine J.region ?_
        refine J.y (op_move rfl rfl) rfl rfl rfl ?_
        refine J.y ((op_add rfl rfl rfl (by first | omega | (simp only [List.length_append, List.length_cons, List.length_nil, List.length_take, List.length_drop] at *; omega))).as (v' := I ((j + 1 : Nat) : Int)) (congrArg I (by omega))) rfl rfl rfl ?_
        refine J.y (op_assign rfl rfl) rfl rfl rfl ?_
        refine J.nil ?_
        refine J.then_n ?_
        exact J.kk (w + 1, j + 1, L.set w (L.getD j []), m9_1) (fun η (hη : _ ∧ n - η.2.1 < n - j) => hI0 η hη.1 hη.2) ⟨⟨by dsimp only; omega, by dsimp only; omega, by dsimp only; rw [List.length_set]; exact hL, (del_keep hw (by omega) (by omega) hA hB (by simpa using h29)).1, (del_keep hw (by omega) (by omega) hA hB (by simpa using h29)).2, by assumption⟩, by first | omega | (dsimp only; omega)⟩ ⟨rfl, rfl, rfl, rfl, trivial⟩ (fun _ h => h)
      ·
        refine J.skip ?_
        refine J.blk_n ?_
        refine J.then_n (J.k hK10 ?_)
        refine J.keepE [(0, _), (1, _), (5, _), (6, _)] ⟨rfl, rfl, rfl, rfl, trivial⟩ ?_
        refine J.region ?_
        refine J.y (op_move rfl rfl) rfl rfl rfl ?_
        refine J.y ((op_add rfl rfl rfl (by first | omega | (simp only [List.length_append, List.length_cons, List.length_nil, List.length_take, List.length_drop] at *; omega))).as (v' := I ((j + 1 : Nat) : Int)) (congrArg I (by omega))) rfl rfl rfl ?_
        refine J.y (op_assign rfl rfl) rfl rfl rfl ?_
        refine J.nil ?_
        refine J.then_n ?_
        exact J.kk (w, j + 1, L, m) (fun η (hη : _ ∧ n - η.2.1 < n - j) => hI0 η hη.1 hη.2) ⟨⟨by dsimp only; omega, by dsimp only; omega, hL, (del_drop (by omega) hA hB (by simpa using h29)).1, (del_drop (by omega) hA hB (by simpa using h29)).2, hr⟩, by first | omega | (dsimp only; omega)⟩ ⟨rfl, rfl, rfl, rfl, trivial⟩ (fun _ h => h)
    ·
      refine J.exit ?_
      refine J.then_x ?_
      refine J.then_x ?_
      refine J.blk_eq ?_
      refine J.then_n (J.k hK6 ?_)
      refine J.keepE [(0, _), (5, _)] ⟨rfl, rfl, trivial⟩ ?_
      refine J.seq (fun K14 hK14 => ?_)
      refine J.region ?_
      refine J.y (op_move rfl rfl) rfl rfl rfl ?_
      refine J.y (op_move rfl rfl) rfl rfl rfl ?_
      refine J.y (op_slice (l := w) (h := n) rfl rfl Tryd.underlying55 Tryd.sizeOf9 rfl rfl (by omega)) rfl rfl rfl ?_
      refine J.s (op_clearSpare (i := 0) (l := w) (h := n) rfl rfl (by split <;> simp [Addr.add_lit]) Tryd.underlying55 el9 rfl rfl rfl (hr.shrink (by omega)) rfl (by omega) (by omega)) rfl rfl ?_
      rintro mc hmc
      change J _ _ _ [mc, F] _
      refine J.nil ?_
      refine J.then_n (J.k hK14 ?_)
      refine J.keepE [(0, _), (5, _)] ⟨rfl, rfl, trivial⟩ ?_
      refine J.seq (fun K15 hK15 => ?_)
      refine J.region ?_
      refine J.y (op_move rfl rfl) rfl rfl rfl ?_
      refine J.y (op_move rfl rfl) rfl rfl rfl ?_
      refine J.y (op_sliceTo (h := w) rfl rfl Tryd.underlying55 Tryd.sizeOf9 rfl (by omega)) rfl rfl rfl ?_
      refine J.y (op_assign rfl rfl) rfl rfl rfl ?_
      refine J.nil ?_
      refine J.then_n (J.k hK15 ?_)
      refine J.keepE [(4, _)] ⟨rfl, trivial⟩ ?_
      refine J.ret ?_
      have hfl : (ks.filter fun k => !nbl b d k) = L.take w := by rw [hA, List.take_of_length_le (by omega)]
      have hfw : (ks.filter fun k => !nbl b d k).length = w := by rw [hfl, List.length_take]; omega
      rw [strsV_take, ← hfl] at hmc
      exact J.done hw0 (fun _ _ h => h) (res1 rfl rfl) (retOk mc (by rw [hfw]) (by rw [hfw]; exact hmc) [0, 1] rfl (by decide))

end Go.Proofs.YtnkfapecbmmpeaaDoor
