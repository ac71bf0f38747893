/- A part of the proof: contracts of functions of the program, each for every state of the heaps that it names. -/
import Derived.Test.YtpcffgkmpmcobaaDoorRfw
import Derived.Test.YtpcffgkmpmcobaaDoorRos
set_option linter.unusedSimpArgs false
set_option linter.unusedVariables false
namespace Go.Proofs.YtpcffgkmpmcobaaDoor
open Go Go.Fw
set_option maxRecDepth 100000
set_option maxHeartbeats 1000000
theorem ent17 : Enters Tryd.prog 17 := Enters.of Tryd.func17 rfl (by kernel_rfl)

def z16 : List UInt8 := [0, 0, 0, 0, 0, 0, 0, 0, 0, 0, 0, 0, 0, 0, 0, 0]
def keyO (n : UInt8) : List UInt8 := n :: [0, 0, 0, 0, 0, 0, 0, 0, 0, 0, 0, 0, 0, 0, 0]

theorem key20_ct (F : Hp) (n : UInt8) (h : Int) : Ct Tryd.prog 28 [B8 (n), I (h)] [F] (fun _ : Unit => .agg #[Str (keyO n), Str (z16), I (h)]) (fun _ => True) (fun _ => [F]) := by
  refine Ct.walk Tryd.func28 rfl Tryd.ntmps28 rfl (fun w0 hw0 => ?_)
  change J _ [(0, _), (1, _)] _ _ _
  refine J.seq (fun K1 hK1 => ?_)
  refine J.region ?_
  refine J.e (op_alloc (l := [Str [], Str [], I 0]) rfl Tryd.zeroValue47 rfl) rfl rfl rfl ?_
  intro g4 _
  change J _ _ _ [F, blk g4 [Str [], Str [], I 0] 47] _
  refine J.nil ?_
  refine J.then_n (J.k hK1 ?_)
  refine J.keepE [(0, _), (1, _), (4, _)] ⟨rfl, rfl, rfl, trivial⟩ ?_
  refine J.seq (fun K2 hK2 => ?_)
  refine J.draw [F] [7] (.y 0 (.y 3 (.y 5 (.e 1 (.y 2 (.y 4 (.y 6 (.e 7 .nil)))))))) Tryd.wide (by decide +kernel) (by simp) ?_
  refine J.dy rfl (op_move rfl rfl) rfl rfl rfl rfl ?_
  refine J.dy rfl ((op_sslice (a := [0, 0, 0, 0, 0, 0, 0, 0, 0, 0, 0, 0, 0, 0, 0, 0]) (l := 1) (h := ([0, 0, 0, 0, 0, 0, 0, 0, 0, 0, 0, 0, 0, 0, 0, 0]).length) Tryd.underlying9 rfl rfl rfl rfl ⟨by first | omega | (simp only [List.length_append, List.length_cons, List.length_nil, List.length_take, List.length_drop] at *; omega), by first | omega | (simp only [List.length_append, List.length_cons, List.length_nil, List.length_take, List.length_drop] at *; omega)⟩).as (v' := Str (([0, 0, 0, 0, 0, 0, 0, 0, 0, 0, 0, 0, 0, 0, 0, 0]).drop 1)) (by rw [List.take_length])) rfl rfl rfl rfl ?_
  refine J.dy rfl (op_move rfl rfl) rfl rfl rfl rfl ?_
  refine J.deN (fun g => _ ++ [blk g [B8 n] 5]) rfl (op_buildSlice (l := [.tmp 5]) (xs := [[B8 (n)]]) rfl rfl rfl rfl Tryd.underlying66 el5 rfl (by decide) (by decide) (by simp)) rfl rfl rfl (fun _ _ h => List.mem_append_left _ h) (by simp) ?_
  intro g6 _
  change J _ _ _ [F, blk g4 [Str [], Str [], I 0] 47, blk g6 [B8 (n)] 5] _
  refine J.dy rfl (op_toStr (l := [n]) rfl rfl Tryd.underlying66 Tryd.underlying5 Tryd.underlying9 (m := blk g6 [B8 (n)] 5) (by simp) ((row_lit (q := True) (bytesV [n]) rfl (by simp [bytesV]) rfl).sl)) rfl rfl rfl rfl ?_
  refine J.dy rfl (op_sadd (a := [n]) (b := ([0, 0, 0, 0, 0, 0, 0, 0, 0, 0, 0, 0, 0, 0, 0, 0]).drop 1) rfl rfl rfl (by first | omega | (simp only [List.length_append, List.length_cons, List.length_nil, List.length_take, List.length_drop] at *; omega))) rfl rfl rfl rfl ?_
  refine J.dy rfl (op_buildStruct (l := [(0, .tmp 9), (1, .const ((Value.string (ByteArray.mk #[0, 0, 0, 0, 0, 0, 0, 0, 0, 0, 0, 0, 0, 0, 0, 0])))), (2, .tmp 10)]) (vs := [Str (([n]) ++ (([0, 0, 0, 0, 0, 0, 0, 0, 0, 0, 0, 0, 0, 0, 0, 0]).drop 1)), Str ([0, 0, 0, 0, 0, 0, 0, 0, 0, 0, 0, 0, 0, 0, 0, 0]), I (h)]) (places := [(0, 1), (1, 1), (2, 1)]) (r := [Str (([n]) ++ (([0, 0, 0, 0, 0, 0, 0, 0, 0, 0, 0, 0, 0, 0, 0, 0]).drop 1)), Str ([0, 0, 0, 0, 0, 0, 0, 0, 0, 0, 0, 0, 0, 0, 0, 0]), I (h)]) rfl rfl rfl Tryd.underlying47 Tryd.zeroValue47 (fun _ => by kernel_rfl) rfl) rfl rfl rfl rfl ?_
  refine J.ds rfl (op_storeAll (i := 1) (l := [Str [], Str [], I 0]) (vs := [Str (([n]) ++ (([0, 0, 0, 0, 0, 0, 0, 0, 0, 0, 0, 0, 0, 0, 0, 0]).drop 1)), Str ([0, 0, 0, 0, 0, 0, 0, 0, 0, 0, 0, 0, 0, 0, 0, 0]), I (h)]) rfl rfl rfl rfl rfl Tryd.sizeOf47 rfl rfl) rfl rfl rfl (fun _ _ => ?_)
  change J _ _ _ [F, blk g4 [Str (([n]) ++ (([0, 0, 0, 0, 0, 0, 0, 0, 0, 0, 0, 0, 0, 0, 0, 0]).drop 1)), Str ([0, 0, 0, 0, 0, 0, 0, 0, 0, 0, 0, 0, 0, 0, 0, 0]), I (h)] 47, blk g6 [B8 (n)] 5] _
  refine J.dnil ?_
  refine J.then_n (J.k hK2 ?_)
  refine J.keepE [(4, _)] ⟨rfl, trivial⟩ ?_
  refine J.ret ?_
  exact J.done hw0 (fun _ _ h => h) (rv1 rfl (RV.blkA 1 rfl rfl Tryd.isAgg47 Tryd.sizeOf47)) (retOk () rfl trivial [0] rfl (by decide))

def ownN (s : List UInt8) : Nat := if whyN s ≠ 0 then whyN s else if (rlo s).all (fun r => decide (small r = r)) = true then 0 else 4
theorem own_no {s : List UInt8} (h : whyN s = 0) {k : Nat} (hk : k < (rlo s).length) (hn : small ((rlo s).getD k 0) ≠ (rlo s).getD k 0) : ownN s = 4 := by
  unfold ownN
  rw [if_neg (by omega), if_neg]
  intro ha
  have := List.all_eq_true.1 ha (rlo s)[k] (List.getElem_mem hk)
  rw [List.getD_eq_getElem?_getD, List.getElem?_eq_getElem hk] at hn
  exact hn (of_decide_eq_true this)
theorem own_yes {s : List UInt8} (h : whyN s = 0) (hn : ∀ j < (rlo s).length, small ((rlo s).getD j 0) = (rlo s).getD j 0) : ownN s = 0 := by
  unfold ownN
  rw [if_neg (by omega), if_pos]
  refine List.all_eq_true.2 fun x hx => ?_
  obtain ⟨j, hj, rfl⟩ := List.getElem_of_mem hx
  have := hn j hj
  rw [List.getD_eq_getElem?_getD, List.getElem?_eq_getElem hj] at this
  exact decide_eq_true this

theorem normal18_ct (F : Hp) (s : List UInt8) (hs : s.length ≤ 1000000) : Ct Tryd.prog 29 [Str (s)] [F] (fun _ : Unit => I ((ownN s : Nat) : Int)) (fun _ => True) (fun _ => [F]) := by
  refine Ct.walk Tryd.func29 rfl Tryd.ntmps29 rfl (fun w0 hw0 => ?_)
  change J _ [(0, _)] _ _ _
  refine J.seq (fun K1 hK1 => ?_)
  refine J.region ?_
  refine J.y (op_assign rfl rfl) rfl rfl rfl ?_
  refine J.nil ?_
  refine J.then_n (J.k hK1 ?_)
  refine J.keepE [(0, _)] ⟨rfl, trivial⟩ ?_
  refine J.seq (fun K2 hK2 => ?_)
  refine J.seq (fun K3 hK3 => ?_)
  refine J.region ?_
  refine J.y (op_move rfl rfl) rfl rfl rfl ?_
  refine J.e (op_call rfl rfl ent17 (Ct.use0 (fun F' hF => whyr_ct F' s (by omega)))) rfl rfl rfl ?_
  intro g8 _
  refine J.y (op_assign rfl rfl) rfl rfl rfl ?_
  refine J.nil ?_
  refine J.then_n (J.k hK3 ?_)
  refine J.keepE [(0, _), (3, _)] ⟨rfl, rfl, trivial⟩ ?_
  refine J.seq (fun K4 hK4 => ?_)
  refine J.region ?_
  refine J.y (op_move rfl rfl) rfl rfl rfl ?_
  refine J.y (op_neq rfl rfl rfl) rfl rfl rfl ?_
  refine J.nil ?_
  refine J.then_n (J.k hK4 ?_)
  refine J.keepE [(0, _), (3, _), (10, _)] ⟨rfl, rfl, rfl, trivial⟩ ?_
  refine J.ite rfl (fun h10 => ?_) (fun h10 => ?_)
  ·
    refine J.seq (fun K5 hK5 => ?_)
    refine J.region ?_
    refine J.y (op_move rfl rfl) rfl rfl rfl ?_
    refine J.y (op_assign rfl rfl) rfl rfl rfl ?_
    refine J.nil ?_
    refine J.then_n (J.k hK5 ?_)
    refine J.keepE [(2, _)] ⟨rfl, trivial⟩ ?_
    refine J.ret ?_
    refine J.then_r ?_
    exact J.done hw0 (fun _ _ h => h) (res1 rfl rfl) (retOk () (by unfold ownN; rw [if_pos (by omega)]) trivial [0] rfl (by decide))
  ·
    refine J.skip ?_
    refine J.then_n (J.k hK2 ?_)
    refine J.keepE [(0, _)] ⟨rfl, trivial⟩ ?_
    refine J.seq (fun K6 hK6 => ?_)
    refine J.region ?_
    refine J.y (op_move rfl rfl) rfl rfl rfl ?_
    refine J.e (op_call rfl rfl ent18 (Ct.use (new := fun x : Option Addr × Nat × Hp => [x.2.2]) (fun F' hF => runesr_ct F' s (by omega)))) rfl rfl rfl ?_
    rintro ⟨A14, c14, m14⟩ h14
    try dsimp only at h14
    change J _ ((14, .tuple #[.slice A14 (rlo s).length c14, .bool (vld s)]) :: _) _ [F, m14] _
    refine J.y (op_move rfl rfl) rfl rfl rfl ?_
    refine J.y (op_extract (v := .slice A14 ((rlo s).length) c14) rfl rfl rfl) rfl rfl rfl ?_
    refine J.y (op_extract (v := .bool (vld s)) rfl rfl rfl) rfl rfl rfl ?_
    refine J.y (op_assign rfl rfl) rfl rfl rfl ?_
    refine J.y (op_assign rfl rfl) rfl rfl rfl ?_
    refine J.nil ?_
    refine J.then_n (J.k hK6 ?_)
    refine J.keepE [(4, _)] ⟨rfl, trivial⟩ ?_
    refine J.seq (fun K7 hK7 => ?_)
    refine J.seq (fun K8 hK8 => ?_)
    refine J.region ?_
    refine J.y (op_assign rfl rfl) rfl rfl rfl ?_
    refine J.nil ?_
    refine J.then_n (J.k hK8 ?_)
    refine J.keepE [(4, _), (6, _)] ⟨rfl, rfl, trivial⟩ ?_
    refine J.block ?_
    refine J.loop (X := Nat) (fun ζ => [(4, .slice A14 ((rlo s).length) c14), (6, I ((ζ : Nat) : Int))]) (fun ζ => [F, m14]) (fun ζ => ζ ≤ (rlo s).length ∧ ∀ j < ζ, small ((rlo s).getD j 0) = (rlo s).getD j 0) (fun ζ => (rlo s).length - ζ) 0 (⟨Nat.zero_le _, fun j h => absurd h (Nat.not_lt_zero j)⟩) ⟨rfl, rfl, trivial⟩ (fun _ h => h) ?_
    rintro i ⟨hi, hs'⟩ I0 hI0
    refine J.seq (fun K9 hK9 => ?_)
    refine J.seq (fun K10 hK10 => ?_)
    refine J.region ?_
    refine J.y (op_move rfl rfl) rfl rfl rfl ?_
    refine J.y (op_move rfl rfl) rfl rfl rfl ?_
    refine J.y (op_len Tryd.underlying27 rfl rfl) rfl rfl rfl ?_
    refine J.y (op_lss rfl rfl rfl) rfl rfl rfl ?_
    refine J.nil ?_
    refine J.then_n (J.k hK10 ?_)
    refine J.keepE [(4, _), (6, _), (20, _)] ⟨rfl, rfl, rfl, trivial⟩ ?_
    refine J.ite rfl (fun h20 => ?_) (fun h20 => ?_)
    ·
      have hlt := rlo_lt s i
      have hle := rlo_le s
      refine J.skip ?_
      refine J.then_n (J.k hK9 ?_)
      refine J.keepE [(4, _), (6, _)] ⟨rfl, rfl, trivial⟩ ?_
      refine J.seq (fun K11 hK11 => ?_)
      refine J.block ?_
      refine J.seq (fun K12 hK12 => ?_)
      refine J.draw [F, m14] [] (.y 0 (.y 1 (.y 2 (.y 3 (.y 5 (.y 6 (.y 7 (.y 8 (.e 4 (.y 9 .nil)))))))))) Tryd.wide (by decide +kernel) (by simp) ?_
      refine J.dy rfl (op_move rfl rfl) rfl rfl rfl rfl ?_
      refine J.dy rfl (op_move rfl rfl) rfl rfl rfl rfl ?_
      refine J.dy rfl (op_indexAddr (i := i) rfl rfl rfl Tryd.underlying27 Tryd.sizeOf3 h14.sl (by first | omega | (simp only [List.length_append, List.length_cons, List.length_nil, List.length_take, List.length_drop] at *; omega))) rfl rfl rfl rfl ?_
      refine J.dy rfl (op_load rfl rfl Tryd.isAgg3 (m := m14) (by simp) (h14.sl.elem (natsV_get (by first | omega | (simp only [List.length_append, List.length_cons, List.length_nil, List.length_take, List.length_drop] at *; omega))))) rfl rfl rfl rfl ?_
      refine J.dy rfl (op_move rfl rfl) rfl rfl rfl rfl ?_
      refine J.dy rfl (op_move rfl rfl) rfl rfl rfl rfl ?_
      refine J.dy rfl (op_indexAddr (i := i) rfl rfl rfl Tryd.underlying27 Tryd.sizeOf3 h14.sl (by first | omega | (simp only [List.length_append, List.length_cons, List.length_nil, List.length_take, List.length_drop] at *; omega))) rfl rfl rfl rfl ?_
      refine J.dy rfl (op_load rfl rfl Tryd.isAgg3 (m := m14) (by simp) (h14.sl.elem (natsV_get (by first | omega | (simp only [List.length_append, List.length_cons, List.length_nil, List.length_take, List.length_drop] at *; omega))))) rfl rfl rfl rfl ?_
      refine J.de rfl (op_call rfl rfl ent19 (Ct.use0 (fun F' hF => smallr_ct F' ((rlo s).getD i 0) (by omega)))) rfl rfl rfl (by simp) ?_
      intro g27 _
      refine J.dy rfl (op_neq rfl rfl rfl) rfl rfl rfl rfl ?_
      refine J.dnil ?_
      refine J.then_n (J.k hK12 ?_)
      refine J.keepE [(4, _), (6, _), (32, _)] ⟨rfl, rfl, rfl, trivial⟩ ?_
      refine J.ite rfl (fun h32 => ?_) (fun h32 => ?_)
      ·
        refine J.seq (fun K13 hK13 => ?_)
        refine J.region ?_
        refine J.y (op_assign rfl rfl) rfl rfl rfl ?_
        refine J.nil ?_
        refine J.then_n (J.k hK13 ?_)
        refine J.keepE [(2, _)] ⟨rfl, trivial⟩ ?_
        refine J.ret ?_
        refine J.blk_r ?_
        refine J.then_r ?_
        refine J.then_r ?_
        refine J.blk_r ?_
        refine J.then_r ?_
        exact J.done hw0 (fun _ _ h => h) (res1 rfl rfl) (retOk () (by rw [own_no (by omega) (k := i) (by omega) (by omega)]; rfl) trivial [0] rfl (by decide))
      ·
        refine J.skip ?_
        refine J.blk_n ?_
        refine J.then_n (J.k hK11 ?_)
        refine J.keepE [(4, _), (6, _)] ⟨rfl, rfl, trivial⟩ ?_
        refine J.region ?_
        refine J.y (op_move rfl rfl) rfl rfl rfl ?_
        refine J.y ((op_add rfl rfl rfl (by first | omega | (simp only [List.length_append, List.length_cons, List.length_nil, List.length_take, List.length_drop] at *; omega))).as (v' := I ((i + 1 : Nat) : Int)) (congrArg I (by omega))) rfl rfl rfl ?_
        refine J.y (op_assign rfl rfl) rfl rfl rfl ?_
        refine J.nil ?_
        refine J.then_n ?_
        exact J.kk (i + 1) (fun η (hη : _ ∧ (rlo s).length - η < (rlo s).length - i) => hI0 η hη.1 hη.2) ⟨⟨by omega, fun j hj => by rcases Nat.lt_succ_iff_lt_or_eq.1 hj with h | rfl; exact hs' j h; omega⟩, by first | omega | (dsimp only; omega)⟩ ⟨rfl, rfl, trivial⟩ (fun _ h => h)
    ·
      refine J.exit ?_
      refine J.then_x ?_
      refine J.then_x ?_
      refine J.blk_eq ?_
      refine J.then_n (J.k hK7 ?_)
      refine J.keepE [] trivial ?_
      refine J.seq (fun K14 hK14 => ?_)
      refine J.region ?_
      refine J.y (op_assign rfl rfl) rfl rfl rfl ?_
      refine J.nil ?_
      refine J.then_n (J.k hK14 ?_)
      refine J.keepE [(2, _)] ⟨rfl, trivial⟩ ?_
      refine J.ret ?_
      exact J.done hw0 (fun _ _ h => h) (res1 rfl rfl) (retOk () (by rw [own_yes (by omega) (fun j hj => hs' j (by omega))]; rfl) trivial [0] rfl (by decide))

end Go.Proofs.YtpcffgkmpmcobaaDoor
