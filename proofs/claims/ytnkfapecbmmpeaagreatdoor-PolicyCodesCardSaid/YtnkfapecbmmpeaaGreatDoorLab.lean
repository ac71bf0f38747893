/- A part of the proof: contracts of functions of the program, each for every state of the heaps that it names. -/
import Derived.Test.YtnkfapecbmmpeaaGreatDoorVal2
import Derived.Test.YtnkfapecbmmpeaaGreatDoorBld
set_option linter.unusedSimpArgs false
set_option linter.unusedVariables false
namespace Go.Proofs.YtnkfapecbmmpeaaGreatDoor
open Go Go.Fw
set_option maxRecDepth 100000
set_option maxHeartbeats 1000000
theorem ent69 : Enters Tryz.prog 69 := Enters.of Tryz.func69 rfl (by kernel_rfl)
theorem ent77 : Enters Tryz.prog 77 := Enters.of Tryz.func77 rfl (by kernel_rfl)
theorem ent78 : Enters Tryz.prog 78 := Enters.of Tryz.func78 rfl (by kernel_rfl)
theorem ent79 : Enters Tryz.prog 79 := Enters.of Tryz.func79 rfl (by kernel_rfl)
theorem ent80 : Enters Tryz.prog 80 := Enters.of Tryz.func80 rfl (by kernel_rfl)
theorem ent85 : Enters Tryz.prog 85 := Enters.of Tryz.func85 rfl (by kernel_rfl)
theorem ent86 : Enters Tryz.prog 86 := Enters.of Tryz.func86 rfl (by kernel_rfl)
theorem ent89 : Enters Tryz.prog 89 := Enters.of Tryz.func89 rfl (by kernel_rfl)
theorem el9 : Elem Tryz.prog 9 [Str []] 16 := Elem.of (by kernel_rfl) rfl

def alphaV : List Value := [I 1, R32 97, R32 122, I 2, R32 945, R32 969, I 4, R32 1072, R32 1103]
def bitA (k : Nat) : Nat := if k = 0 then 1 else if k = 1 then 2 else 4
def fstA (k : Nat) : Nat := if k = 0 then 97 else if k = 1 then 945 else 1072
def lstA (k : Nat) : Nat := if k = 0 then 122 else if k = 1 then 969 else 1103
theorem alphaV_at {k : Nat} (h : k < 3) : Value.agg (alphaV.toArray.extract (k * 3) (k * 3 + 3)) = .agg [I (bitA k : Nat), R32 (fstA k), R32 (lstA k)].toArray := by
  match k, h with
  | 0, _ => rfl
  | 1, _ => rfl
  | 2, _ => rfl
def hasA (k r : Nat) : Bool := decide (fstA k ≤ r ∧ r ≤ lstA k)
def capA (k r : Nat) : Bool := hasA k (r + 32) && !hasA k r && decide (r ≠ 930)
theorem small_of {k r : Nat} (hk : k < 3) (h : capA k r = true) : small r = r + 32 := by
  unfold capA hasA at h
  unfold small
  match k, hk with
  | 0, _ => simp [fstA, lstA] at h; rw [if_pos (by omega)]
  | 1, _ => simp [fstA, lstA] at h; rw [if_pos (by omega)]
  | 2, _ => simp [fstA, lstA] at h; rw [if_pos (by omega)]
theorem small_no {r : Nat} (h : ∀ k < 3, capA k r = false) : small r = r := by
  have h0 := h 0 (by decide)
  have h1 := h 1 (by decide)
  have h2 := h 2 (by decide)
  simp [capA, hasA, fstA, lstA] at h0 h1 h2
  unfold small
  rw [if_neg (by omega)]
theorem lett_of {k r : Nat} (hk : k < 3) (h : hasA k (small r) = true) : lett r = bitA k := by
  unfold hasA at h
  unfold lett
  match k, hk with
  | 0, _ => simp [fstA, lstA] at h; rw [if_pos (by omega)]; rfl
  | 1, _ => simp [fstA, lstA] at h; rw [if_neg (by omega), if_pos (by omega)]; rfl
  | 2, _ => simp [fstA, lstA] at h; rw [if_neg (by omega), if_neg (by omega), if_pos (by omega)]; rfl
theorem lett_no {r : Nat} (h : ∀ k < 3, hasA k (small r) = false) : lett r = 0 := by
  have h0 := h 0 (by decide)
  have h1 := h 1 (by decide)
  have h2 := h 2 (by decide)
  simp [hasA, fstA, lstA] at h0 h1 h2
  unfold lett
  rw [if_neg (by omega), if_neg (by omega), if_neg (by omega)]

theorem has_ct (F : Hp) (k r : Nat) : Ct Tryz.prog 89 [.agg #[I (bitA k : Nat), R32 (fstA k), R32 (lstA k)], .int .i32 ((r : Nat) : Int)] [F] (fun _ : Unit => .bool (hasA k r)) (fun _ => True) (fun _ => [F]) := by
  refine Ct.walk Tryz.func89 rfl Tryz.ntmps89 rfl (fun w0 hw0 => ?_)
  change J _ [(0, _), (1, _)] _ _ _
  refine J.seq (fun K1 hK1 => ?_)
  refine J.region ?_
  refine J.e (op_box (l := [I (bitA k : Nat), R32 (fstA k), R32 (lstA k)]) rfl rfl rfl) rfl rfl rfl ?_
  intro g2 _
  change J _ _ _ [F, blk g2 [I (bitA k : Nat), R32 (fstA k), R32 (lstA k)] 144] _
  refine J.y (op_assign rfl rfl) rfl rfl rfl ?_
  refine J.nil ?_
  refine J.then_n (J.k hK1 ?_)
  refine J.keepE [(1, _), (2, _)] ⟨rfl, rfl, trivial⟩ ?_
  refine J.seq (fun K2 hK2 => ?_)
  refine J.region ?_
  refine J.y (op_move rfl rfl) rfl rfl rfl ?_
  refine J.y (op_fieldAddr (j := 1) rfl rfl Tryz.underlying144 rfl Tryz.sizeOf21 rfl) rfl rfl rfl ?_
  refine J.y (op_loadB 1 (v := R32 (fstA k)) rfl rfl rfl Tryz.isAgg21 rfl) rfl rfl rfl ?_
  refine J.y (op_geq rfl rfl rfl) rfl rfl rfl ?_
  refine J.y (op_move rfl rfl) rfl rfl rfl ?_
  refine J.split (d := 9) rfl (fun h9 => ?_) (fun h9 => ?_)
  ·
    refine J.yg (Wan.is rfl rfl rfl rfl rfl) (op_move rfl rfl) rfl rfl ?_
    refine J.yg (Wan.is rfl rfl rfl rfl rfl) (op_fieldAddr (j := 2) rfl rfl Tryz.underlying144 rfl Tryz.sizeOf21 rfl) rfl rfl ?_
    refine J.yg (Wan.is rfl rfl rfl rfl rfl) (op_loadB 1 (v := R32 (lstA k)) rfl rfl rfl Tryz.isAgg21 rfl) rfl rfl ?_
    refine J.yg (Wan.is rfl rfl rfl rfl rfl) (op_leq rfl rfl rfl) rfl rfl ?_
    refine J.y (op_pickT rfl rfl rfl) rfl rfl rfl ?_
    refine J.y (op_assign rfl rfl) rfl rfl rfl ?_
    refine J.nil ?_
    refine J.then_n (J.k hK2 ?_)
    refine J.keepE [(4, _)] ⟨rfl, trivial⟩ ?_
    refine J.ret ?_
    exact J.done hw0 (fun _ _ h => h) (res1 rfl rfl) (retOk () (by unfold hasA; exact congrArg Value.bool (decide_eq_decide.2 (by omega))) trivial [0] rfl (by decide))
  ·
    refine J.no (Wan.is rfl rfl rfl rfl rfl) rfl rfl ?_
    refine J.no (Wan.is rfl rfl rfl rfl rfl) rfl rfl ?_
    refine J.no (Wan.is rfl rfl rfl rfl rfl) rfl rfl ?_
    refine J.no (Wan.is rfl rfl rfl rfl rfl) rfl rfl ?_
    refine J.y (op_pickF rfl rfl rfl) rfl rfl rfl ?_
    refine J.y (op_assign rfl rfl) rfl rfl rfl ?_
    refine J.nil ?_
    refine J.then_n (J.k hK2 ?_)
    refine J.keepE [(4, _)] ⟨rfl, trivial⟩ ?_
    refine J.ret ?_
    exact J.done hw0 (fun _ _ h => h) (res1 rfl rfl) (retOk () (by unfold hasA; rw [decide_eq_false (by omega : ¬ (fstA k ≤ r ∧ r ≤ lstA k))]) trivial [0] rfl (by decide))

theorem small_ct (F : Hp) (hA : Cells F ⟨1, 0, none⟩ alphaV) (r : Nat) (hr : r ≤ 1073741824) : Ct Tryz.prog 69 [.int .i32 ((r : Nat) : Int)] [F] (fun _ : Unit => .int .i32 ((small r : Nat) : Int)) (fun _ => True) (fun _ => [F]) := by
  refine Ct.walk Tryz.func69 rfl Tryz.ntmps69 rfl (fun w0 hw0 => ?_)
  change J _ [(0, _)] _ _ _
  refine J.seq (fun K1 hK1 => ?_)
  refine J.region ?_
  refine J.y (op_assign rfl rfl) rfl rfl rfl ?_
  refine J.nil ?_
  refine J.then_n (J.k hK1 ?_)
  refine J.keepE [(0, _)] ⟨rfl, trivial⟩ ?_
  refine J.seq (fun K2 hK2 => ?_)
  refine J.seq (fun K3 hK3 => ?_)
  refine J.region ?_
  refine J.y (op_loadMA 0 rfl rfl Tryz.isAgg145 Tryz.sizeOf145 rfl hA rfl) rfl rfl rfl ?_
  refine J.y (op_move rfl rfl) rfl rfl rfl ?_
  refine J.nil ?_
  refine J.then_n (J.k hK3 ?_)
  refine J.keepE [(0, _), (5, _), (6, _)] ⟨rfl, rfl, rfl, trivial⟩ ?_
  refine J.block ?_
  refine J.loop (X := Nat) (fun ζ => [(0, .int .i32 ((r : Nat) : Int)), (5, .agg alphaV.toArray), (6, I ((ζ : Nat) : Int))]) (fun ζ => [F]) (fun ζ => ζ ≤ 3 ∧ ∀ j < ζ, capA j r = false) (fun ζ => 3 - ζ) 0 (⟨by omega, fun j h => absurd h (Nat.not_lt_zero j)⟩) ⟨rfl, rfl, rfl, trivial⟩ (fun _ h => h) ?_
  rintro k ⟨hk, hn⟩ I0 hI0
  refine J.seq (fun K4 hK4 => ?_)
  refine J.region ?_
  refine J.y (op_lss rfl rfl rfl) rfl rfl rfl ?_
  refine J.nil ?_
  refine J.then_n (J.k hK4 ?_)
  refine J.keepE [(0, _), (5, _), (6, _), (7, _)] ⟨rfl, rfl, rfl, rfl, trivial⟩ ?_
  refine J.seq (fun K5 hK5 => ?_)
  refine J.ite rfl (fun h7 => ?_) (fun h7 => ?_)
  ·
    refine J.skip ?_
    refine J.then_n (J.k hK5 ?_)
    refine J.keepE [(0, _), (5, _), (6, _)] ⟨rfl, rfl, rfl, trivial⟩ ?_
    refine J.seq (fun K6 hK6 => ?_)
    refine J.block ?_
    refine J.seq (fun K7 hK7 => ?_)
    refine J.region ?_
    refine J.y ((op_indexA (i := k) rfl rfl rfl Tryz.underlying145 Tryz.sizeOf144 Tryz.isAgg144 (by omega)).as (v' := .agg #[I (bitA k : Nat), R32 (fstA k), R32 (lstA k)]) (alphaV_at (by omega))) rfl rfl rfl ?_
    refine J.e (op_alloc (l := [I 0, .int .i32 0, .int .i32 0]) rfl Tryz.zeroValue144 rfl) rfl rfl rfl ?_
    intro g4 _
    change J _ _ _ [F, blk g4 [I 0, .int .i32 0, .int .i32 0] 144] _
    refine J.s (op_storeAll (i := 1) (l := [I 0, .int .i32 0, .int .i32 0]) (vs := [I (bitA k : Nat), R32 (fstA k), R32 (lstA k)]) rfl rfl rfl rfl rfl Tryz.sizeOf144 rfl rfl) rfl rfl (fun _ _ => ?_)
    change J _ _ _ [F, blk g4 [I (bitA k : Nat), R32 (fstA k), R32 (lstA k)] 144] _
    refine J.nil ?_
    refine J.then_n (J.k hK7 ?_)
    refine J.keepE [(0, _), (4, _), (5, _), (6, _)] ⟨rfl, rfl, rfl, rfl, trivial⟩ ?_
    refine J.seq (fun K8 hK8 => ?_)
    refine J.region ?_
    refine J.y (op_loadBA 1 rfl rfl rfl Tryz.isAgg144 Tryz.sizeOf144 rfl) rfl rfl rfl ?_
    refine J.y (op_move rfl rfl) rfl rfl rfl ?_
    refine J.y (op_addR rfl rfl rfl (by first | omega | (simp only [List.length_append, List.length_cons, List.length_nil, List.length_take, List.length_drop] at *; omega))) rfl rfl rfl ?_
    refine J.e (op_call rfl rfl ent89 (Ct.use0 (fun F' hF => has_ct F' k (r + 32)))) rfl rfl rfl ?_
    intro g12 _
    refine J.y (op_move rfl rfl) rfl rfl rfl ?_
    refine J.splitB (d := 13) rfl (fun h13 => ?_) (fun h13 => ?_)
    ·
      refine J.yg (Wan.is rfl rfl rfl rfl rfl) (op_loadBA 1 rfl rfl rfl Tryz.isAgg144 Tryz.sizeOf144 rfl) rfl rfl ?_
      refine J.yg (Wan.is rfl rfl rfl rfl rfl) (op_move rfl rfl) rfl rfl ?_
      refine J.eg (Wan.is rfl rfl rfl rfl rfl) (op_call rfl rfl ent89 (Ct.use0 (fun F' hF => has_ct F' k (r)))) rfl rfl ?_
      intro g16 _
      refine J.yg (Wan.is rfl rfl rfl rfl rfl) (op_not rfl rfl) rfl rfl ?_
      refine J.y (op_pickT rfl rfl rfl) rfl rfl rfl ?_
      refine J.y (op_move rfl rfl) rfl rfl rfl ?_
      refine J.splitB (d := 19) rfl (fun h19 => ?_) (fun h19 => ?_)
      ·
        refine J.yg (Wan.is rfl rfl rfl rfl rfl) (op_move rfl rfl) rfl rfl ?_
        refine J.yg (Wan.is rfl rfl rfl rfl rfl) (op_neq rfl rfl rfl) rfl rfl ?_
        refine J.y (op_pickT rfl rfl rfl) rfl rfl rfl ?_
        refine J.nil ?_
        refine J.then_n (J.k hK8 ?_)
        refine J.keepE [(0, _), (5, _), (6, _), (22, _)] ⟨rfl, rfl, rfl, rfl, trivial⟩ ?_
        refine J.ite rfl (fun h22 => ?_) (fun h22 => ?_)
        ·
          refine J.seq (fun K9 hK9 => ?_)
          refine J.region ?_
          refine J.y (op_move rfl rfl) rfl rfl rfl ?_
          refine J.y (op_addR rfl rfl rfl (by first | omega | (simp only [List.length_append, List.length_cons, List.length_nil, List.length_take, List.length_drop] at *; omega))) rfl rfl rfl ?_
          refine J.y (op_assign rfl rfl) rfl rfl rfl ?_
          refine J.nil ?_
          refine J.then_n (J.k hK9 ?_)
          refine J.keepE [(2, _)] ⟨rfl, trivial⟩ ?_
          refine J.ret ?_
          refine J.blk_r ?_
          refine J.then_r ?_
          refine J.then_r ?_
          refine J.blk_r ?_
          refine J.then_r ?_
          exact J.done hw0 (fun _ _ h => h) (res1 rfl rfl) (retOk () (by rw [small_of (k := k) (by omega) (by unfold capA; simp [*]; omega)]) trivial [0] rfl (by decide))
        ·
          refine J.skip ?_
          refine J.blk_n ?_
          refine J.then_n (J.k hK6 ?_)
          refine J.keepE [(0, _), (5, _), (6, _)] ⟨rfl, rfl, rfl, trivial⟩ ?_
          refine J.region ?_
          refine J.y ((op_add rfl rfl rfl (by first | omega | (simp only [List.length_append, List.length_cons, List.length_nil, List.length_take, List.length_drop] at *; omega))).as (v' := I ((k + 1 : Nat) : Int)) (congrArg I (by omega))) rfl rfl rfl ?_
          refine J.y (op_move rfl rfl) rfl rfl rfl ?_
          refine J.nil ?_
          refine J.then_n ?_
          exact J.kk (k + 1) (fun η (hη : _ ∧ 3 - η < 3 - k) => hI0 η hη.1 hη.2) ⟨⟨by omega, fun j hj => by rcases Nat.lt_succ_iff_lt_or_eq.1 hj with h | rfl; exact hn j h; exact (by unfold capA; simp [*]; try omega)⟩, by first | omega | (dsimp only; omega)⟩ ⟨rfl, rfl, rfl, trivial⟩ (fun _ h => h.pick [0] (by decide))
      ·
        refine J.no (Wan.is rfl rfl rfl rfl rfl) rfl rfl ?_
        refine J.no (Wan.is rfl rfl rfl rfl rfl) rfl rfl ?_
        refine J.y (op_pickF rfl rfl rfl) rfl rfl rfl ?_
        refine J.nil ?_
        refine J.then_n (J.k hK8 ?_)
        refine J.keepE [(0, _), (5, _), (6, _), (22, _)] ⟨rfl, rfl, rfl, rfl, trivial⟩ ?_
        refine J.condF rfl rfl ?_
        refine J.skip ?_
        refine J.blk_n ?_
        refine J.then_n (J.k hK6 ?_)
        refine J.keepE [(0, _), (5, _), (6, _)] ⟨rfl, rfl, rfl, trivial⟩ ?_
        refine J.region ?_
        refine J.y ((op_add rfl rfl rfl (by first | omega | (simp only [List.length_append, List.length_cons, List.length_nil, List.length_take, List.length_drop] at *; omega))).as (v' := I ((k + 1 : Nat) : Int)) (congrArg I (by omega))) rfl rfl rfl ?_
        refine J.y (op_move rfl rfl) rfl rfl rfl ?_
        refine J.nil ?_
        refine J.then_n ?_
        exact J.kk (k + 1) (fun η (hη : _ ∧ 3 - η < 3 - k) => hI0 η hη.1 hη.2) ⟨⟨by omega, fun j hj => by rcases Nat.lt_succ_iff_lt_or_eq.1 hj with h | rfl; exact hn j h; exact (by unfold capA; simp [*]; try omega)⟩, by first | omega | (dsimp only; omega)⟩ ⟨rfl, rfl, rfl, trivial⟩ (fun _ h => h.pick [0] (by decide))
    ·
      refine J.no (Wan.is rfl rfl rfl rfl rfl) rfl rfl ?_
      refine J.no (Wan.is rfl rfl rfl rfl rfl) rfl rfl ?_
      refine J.no (Wan.is rfl rfl rfl rfl rfl) rfl rfl ?_
      refine J.no (Wan.is rfl rfl rfl rfl rfl) rfl rfl ?_
      refine J.y (op_pickF rfl rfl rfl) rfl rfl rfl ?_
      refine J.y (op_move rfl rfl) rfl rfl rfl ?_
      refine J.no (Wan.is rfl rfl rfl rfl rfl) rfl rfl ?_
      refine J.no (Wan.is rfl rfl rfl rfl rfl) rfl rfl ?_
      refine J.y (op_pickF rfl rfl rfl) rfl rfl rfl ?_
      refine J.nil ?_
      refine J.then_n (J.k hK8 ?_)
      refine J.keepE [(0, _), (5, _), (6, _), (22, _)] ⟨rfl, rfl, rfl, rfl, trivial⟩ ?_
      refine J.condF rfl rfl ?_
      refine J.skip ?_
      refine J.blk_n ?_
      refine J.then_n (J.k hK6 ?_)
      refine J.keepE [(0, _), (5, _), (6, _)] ⟨rfl, rfl, rfl, trivial⟩ ?_
      refine J.region ?_
      refine J.y ((op_add rfl rfl rfl (by first | omega | (simp only [List.length_append, List.length_cons, List.length_nil, List.length_take, List.length_drop] at *; omega))).as (v' := I ((k + 1 : Nat) : Int)) (congrArg I (by omega))) rfl rfl rfl ?_
      refine J.y (op_move rfl rfl) rfl rfl rfl ?_
      refine J.nil ?_
      refine J.then_n ?_
      exact J.kk (k + 1) (fun η (hη : _ ∧ 3 - η < 3 - k) => hI0 η hη.1 hη.2) ⟨⟨by omega, fun j hj => by rcases Nat.lt_succ_iff_lt_or_eq.1 hj with h | rfl; exact hn j h; exact (by unfold capA; simp [*]; try omega)⟩, by first | omega | (dsimp only; omega)⟩ ⟨rfl, rfl, rfl, trivial⟩ (fun _ h => h.pick [0] (by decide))
  ·
    refine J.exit ?_
    refine J.then_x ?_
    refine J.then_x ?_
    refine J.blk_eq ?_
    refine J.then_n (J.k hK2 ?_)
    refine J.keepE [(0, _)] ⟨rfl, trivial⟩ ?_
    refine J.seq (fun K10 hK10 => ?_)
    refine J.region ?_
    refine J.y (op_move rfl rfl) rfl rfl rfl ?_
    refine J.y (op_assign rfl rfl) rfl rfl rfl ?_
    refine J.nil ?_
    refine J.then_n (J.k hK10 ?_)
    refine J.keepE [(2, _)] ⟨rfl, trivial⟩ ?_
    refine J.ret ?_
    exact J.done hw0 (fun _ _ h => h) (res1 rfl rfl) (retOk () (by rw [small_no (fun j hj => hn j (by omega))]) trivial [0] rfl (by decide))

theorem letter_ct (F : Hp) (hA : Cells F ⟨1, 0, none⟩ alphaV) (r : Nat) (hr : r ≤ 1073741824) : Ct Tryz.prog 79 [.int .i32 ((r : Nat) : Int)] [F] (fun _ : Unit => I ((lett r : Nat) : Int)) (fun _ => True) (fun _ => [F]) := by
  refine Ct.walk Tryz.func79 rfl Tryz.ntmps79 rfl (fun w0 hw0 => ?_)
  change J _ [(0, _)] _ _ _
  refine J.seq (fun K1 hK1 => ?_)
  refine J.region ?_
  refine J.y (op_assign rfl rfl) rfl rfl rfl ?_
  refine J.nil ?_
  refine J.then_n (J.k hK1 ?_)
  refine J.keepE [(0, _)] ⟨rfl, trivial⟩ ?_
  refine J.seq (fun K2 hK2 => ?_)
  refine J.region ?_
  refine J.y (op_move rfl rfl) rfl rfl rfl ?_
  refine J.e (op_call rfl rfl ent69 (Ct.use0 (fun F' hF => small_ct F' (hA.mono (hF F (by simp))) r (by omega)))) rfl rfl rfl ?_
  intro g6 _
  refine J.y (op_assign rfl rfl) rfl rfl rfl ?_
  refine J.nil ?_
  refine J.then_n (J.k hK2 ?_)
  refine J.keepE [(0, _)] ⟨rfl, trivial⟩ ?_
  refine J.seq (fun K3 hK3 => ?_)
  refine J.seq (fun K4 hK4 => ?_)
  refine J.region ?_
  refine J.y (op_loadMA 0 rfl rfl Tryz.isAgg145 Tryz.sizeOf145 rfl hA rfl) rfl rfl rfl ?_
  refine J.y (op_move rfl rfl) rfl rfl rfl ?_
  refine J.nil ?_
  refine J.then_n (J.k hK4 ?_)
  refine J.keepE [(0, _), (7, _), (8, _)] ⟨rfl, rfl, rfl, trivial⟩ ?_
  refine J.block ?_
  refine J.loop (X := Nat) (fun ζ => [(0, .int .i32 ((small r : Nat) : Int)), (7, .agg alphaV.toArray), (8, I ((ζ : Nat) : Int))]) (fun ζ => [F]) (fun ζ => ζ ≤ 3 ∧ ∀ j < ζ, hasA j (small r) = false) (fun ζ => 3 - ζ) 0 (⟨by omega, fun j h => absurd h (Nat.not_lt_zero j)⟩) ⟨rfl, rfl, rfl, trivial⟩ (fun _ h => h) ?_
  rintro k ⟨hk, hn⟩ I0 hI0
  refine J.seq (fun K5 hK5 => ?_)
  refine J.region ?_
  refine J.y (op_lss rfl rfl rfl) rfl rfl rfl ?_
  refine J.nil ?_
  refine J.then_n (J.k hK5 ?_)
  refine J.keepE [(0, _), (7, _), (8, _), (9, _)] ⟨rfl, rfl, rfl, rfl, trivial⟩ ?_
  refine J.seq (fun K6 hK6 => ?_)
  refine J.ite rfl (fun h9 => ?_) (fun h9 => ?_)
  ·
    refine J.skip ?_
    refine J.then_n (J.k hK6 ?_)
    refine J.keepE [(0, _), (7, _), (8, _)] ⟨rfl, rfl, rfl, trivial⟩ ?_
    refine J.seq (fun K7 hK7 => ?_)
    refine J.block ?_
    refine J.seq (fun K8 hK8 => ?_)
    refine J.region ?_
    refine J.y ((op_indexA (i := k) rfl rfl rfl Tryz.underlying145 Tryz.sizeOf144 Tryz.isAgg144 (by omega)).as (v' := .agg #[I (bitA k : Nat), R32 (fstA k), R32 (lstA k)]) (alphaV_at (by omega))) rfl rfl rfl ?_
    refine J.e (op_alloc (l := [I 0, .int .i32 0, .int .i32 0]) rfl Tryz.zeroValue144 rfl) rfl rfl rfl ?_
    intro g4 _
    change J _ _ _ [F, blk g4 [I 0, .int .i32 0, .int .i32 0] 144] _
    refine J.s (op_storeAll (i := 1) (l := [I 0, .int .i32 0, .int .i32 0]) (vs := [I (bitA k : Nat), R32 (fstA k), R32 (lstA k)]) rfl rfl rfl rfl rfl Tryz.sizeOf144 rfl rfl) rfl rfl (fun _ _ => ?_)
    change J _ _ _ [F, blk g4 [I (bitA k : Nat), R32 (fstA k), R32 (lstA k)] 144] _
    refine J.nil ?_
    refine J.then_n (J.k hK8 ?_)
    refine J.keepE [(0, _), (4, _), (7, _), (8, _)] ⟨rfl, rfl, rfl, rfl, trivial⟩ ?_
    refine J.seq (fun K9 hK9 => ?_)
    refine J.region ?_
    refine J.y (op_loadBA 1 rfl rfl rfl Tryz.isAgg144 Tryz.sizeOf144 rfl) rfl rfl rfl ?_
    refine J.y (op_move rfl rfl) rfl rfl rfl ?_
    refine J.e (op_call rfl rfl ent89 (Ct.use0 (fun F' hF => has_ct F' k (small r)))) rfl rfl rfl ?_
    intro g13 _
    refine J.nil ?_
    refine J.then_n (J.k hK9 ?_)
    refine J.keepE [(0, _), (4, _), (7, _), (8, _), (13, _)] ⟨rfl, rfl, rfl, rfl, rfl, trivial⟩ ?_
    refine J.cond rfl (fun h13 => ?_) (fun h13 => ?_)
    ·
      refine J.seq (fun K10 hK10 => ?_)
      refine J.region ?_
      refine J.y (op_fieldAddr (j := 0) rfl rfl Tryz.underlying144 rfl Tryz.sizeOf3 rfl) rfl rfl rfl ?_
      refine J.y (op_loadB 1 (v := I (bitA k : Nat)) rfl rfl rfl Tryz.isAgg3 rfl) rfl rfl rfl ?_
      refine J.y (op_assign rfl rfl) rfl rfl rfl ?_
      refine J.nil ?_
      refine J.then_n (J.k hK10 ?_)
      refine J.keepE [(2, _)] ⟨rfl, trivial⟩ ?_
      refine J.ret ?_
      refine J.blk_r ?_
      refine J.then_r ?_
      refine J.then_r ?_
      refine J.blk_r ?_
      refine J.then_r ?_
      exact J.done hw0 (fun _ _ h => h) (res1 rfl rfl) (retOk () (by rw [lett_of (k := k) (by omega) (by assumption)]) trivial [0] rfl (by decide))
    ·
      refine J.skip ?_
      refine J.blk_n ?_
      refine J.then_n (J.k hK7 ?_)
      refine J.keepE [(0, _), (7, _), (8, _)] ⟨rfl, rfl, rfl, trivial⟩ ?_
      refine J.region ?_
      refine J.y ((op_add rfl rfl rfl (by first | omega | (simp only [List.length_append, List.length_cons, List.length_nil, List.length_take, List.length_drop] at *; omega))).as (v' := I ((k + 1 : Nat) : Int)) (congrArg I (by omega))) rfl rfl rfl ?_
      refine J.y (op_move rfl rfl) rfl rfl rfl ?_
      refine J.nil ?_
      refine J.then_n ?_
      exact J.kk (k + 1) (fun η (hη : _ ∧ 3 - η < 3 - k) => hI0 η hη.1 hη.2) ⟨⟨by omega, fun j hj => by rcases Nat.lt_succ_iff_lt_or_eq.1 hj with h | rfl; exact hn j h; assumption⟩, by first | omega | (dsimp only; omega)⟩ ⟨rfl, rfl, rfl, trivial⟩ (fun _ h => h.pick [0] (by decide))
  ·
    refine J.exit ?_
    refine J.then_x ?_
    refine J.then_x ?_
    refine J.blk_eq ?_
    refine J.then_n (J.k hK3 ?_)
    refine J.keepE [] trivial ?_
    refine J.seq (fun K11 hK11 => ?_)
    refine J.region ?_
    refine J.y (op_assign rfl rfl) rfl rfl rfl ?_
    refine J.nil ?_
    refine J.then_n (J.k hK11 ?_)
    refine J.keepE [(2, _)] ⟨rfl, trivial⟩ ?_
    refine J.ret ?_
    exact J.done hw0 (fun _ _ h => h) (res1 rfl rfl) (retOk () (by rw [lett_no (fun j hj => hn j (by omega))]; rfl) trivial [0] rfl (by decide))

theorem sep_ct (F : Hp) (r : Nat) : Ct Tryz.prog 80 [.int .i32 ((r : Nat) : Int)] [F] (fun _ : Unit => .bool (sepr r)) (fun _ => True) (fun _ => [F]) := by
  refine Ct.walk Tryz.func80 rfl Tryz.ntmps80 rfl (fun w0 hw0 => ?_)
  change J _ [(0, _)] _ _ _
  refine J.seq (fun K1 hK1 => ?_)
  refine J.region ?_
  refine J.y (op_assign rfl rfl) rfl rfl rfl ?_
  refine J.nil ?_
  refine J.then_n (J.k hK1 ?_)
  refine J.keepE [(0, _)] ⟨rfl, trivial⟩ ?_
  refine J.seq (fun K2 hK2 => ?_)
  refine J.region ?_
  refine J.y (op_move rfl rfl) rfl rfl rfl ?_
  refine J.y (op_eql rfl rfl rfl) rfl rfl rfl ?_
  refine J.y (op_move rfl rfl) rfl rfl rfl ?_
  refine J.split (d := 5) rfl (fun h5 => ?_) (fun h5 => ?_)
  ·
    refine J.no (Wan.is rfl rfl rfl rfl rfl) rfl rfl ?_
    refine J.no (Wan.is rfl rfl rfl rfl rfl) rfl rfl ?_
    refine J.y (op_pickT rfl rfl rfl) rfl rfl rfl ?_
    refine J.y (op_move rfl rfl) rfl rfl rfl ?_
    refine J.no (Wan.is rfl rfl rfl rfl rfl) rfl rfl ?_
    refine J.no (Wan.is rfl rfl rfl rfl rfl) rfl rfl ?_
    refine J.y (op_pickT rfl rfl rfl) rfl rfl rfl ?_
    refine J.y (op_move rfl rfl) rfl rfl rfl ?_
    refine J.no (Wan.is rfl rfl rfl rfl rfl) rfl rfl ?_
    refine J.no (Wan.is rfl rfl rfl rfl rfl) rfl rfl ?_
    refine J.y (op_pickT rfl rfl rfl) rfl rfl rfl ?_
    refine J.y (op_assign rfl rfl) rfl rfl rfl ?_
    refine J.nil ?_
    refine J.then_n (J.k hK2 ?_)
    refine J.keepE [(2, _)] ⟨rfl, trivial⟩ ?_
    refine J.ret ?_
    exact J.done hw0 (fun _ _ h => h) (res1 rfl rfl) (retOk () (by unfold sepr; first | rw [decide_eq_true (by omega)] | exact congrArg Value.bool (decide_eq_decide.2 (by omega))) trivial [0] rfl (by decide))
  ·
    refine J.yg (Wan.is rfl rfl rfl rfl rfl) (op_move rfl rfl) rfl rfl ?_
    refine J.yg (Wan.is rfl rfl rfl rfl rfl) (op_eql rfl rfl rfl) rfl rfl ?_
    refine J.y (op_pickF rfl rfl rfl) rfl rfl rfl ?_
    refine J.y (op_move rfl rfl) rfl rfl rfl ?_
    refine J.split (d := 9) rfl (fun h9 => ?_) (fun h9 => ?_)
    ·
      refine J.no (Wan.is rfl rfl rfl rfl rfl) rfl rfl ?_
      refine J.no (Wan.is rfl rfl rfl rfl rfl) rfl rfl ?_
      refine J.y (op_pickT rfl rfl rfl) rfl rfl rfl ?_
      refine J.y (op_move rfl rfl) rfl rfl rfl ?_
      refine J.no (Wan.is rfl rfl rfl rfl rfl) rfl rfl ?_
      refine J.no (Wan.is rfl rfl rfl rfl rfl) rfl rfl ?_
      refine J.y (op_pickT rfl rfl rfl) rfl rfl rfl ?_
      refine J.y (op_assign rfl rfl) rfl rfl rfl ?_
      refine J.nil ?_
      refine J.then_n (J.k hK2 ?_)
      refine J.keepE [(2, _)] ⟨rfl, trivial⟩ ?_
      refine J.ret ?_
      exact J.done hw0 (fun _ _ h => h) (res1 rfl rfl) (retOk () (by unfold sepr; first | rw [decide_eq_true (by omega)] | exact congrArg Value.bool (decide_eq_decide.2 (by omega))) trivial [0] rfl (by decide))
    ·
      refine J.yg (Wan.is rfl rfl rfl rfl rfl) (op_move rfl rfl) rfl rfl ?_
      refine J.yg (Wan.is rfl rfl rfl rfl rfl) (op_eql rfl rfl rfl) rfl rfl ?_
      refine J.y (op_pickF rfl rfl rfl) rfl rfl rfl ?_
      refine J.y (op_move rfl rfl) rfl rfl rfl ?_
      refine J.split (d := 13) rfl (fun h13 => ?_) (fun h13 => ?_)
      ·
        refine J.no (Wan.is rfl rfl rfl rfl rfl) rfl rfl ?_
        refine J.no (Wan.is rfl rfl rfl rfl rfl) rfl rfl ?_
        refine J.y (op_pickT rfl rfl rfl) rfl rfl rfl ?_
        refine J.y (op_assign rfl rfl) rfl rfl rfl ?_
        refine J.nil ?_
        refine J.then_n (J.k hK2 ?_)
        refine J.keepE [(2, _)] ⟨rfl, trivial⟩ ?_
        refine J.ret ?_
        exact J.done hw0 (fun _ _ h => h) (res1 rfl rfl) (retOk () (by unfold sepr; first | rw [decide_eq_true (by omega)] | exact congrArg Value.bool (decide_eq_decide.2 (by omega))) trivial [0] rfl (by decide))
      ·
        refine J.yg (Wan.is rfl rfl rfl rfl rfl) (op_move rfl rfl) rfl rfl ?_
        refine J.yg (Wan.is rfl rfl rfl rfl rfl) (op_eql rfl rfl rfl) rfl rfl ?_
        refine J.y (op_pickF rfl rfl rfl) rfl rfl rfl ?_
        refine J.y (op_assign rfl rfl) rfl rfl rfl ?_
        refine J.nil ?_
        refine J.then_n (J.k hK2 ?_)
        refine J.keepE [(2, _)] ⟨rfl, trivial⟩ ?_
        refine J.ret ?_
        exact J.done hw0 (fun _ _ h => h) (res1 rfl rfl) (retOk () (by unfold sepr; first | rw [decide_eq_true (by omega)] | exact congrArg Value.bool (decide_eq_decide.2 (by omega))) trivial [0] rfl (by decide))

theorem alph_ct (F : Hp) (hA : Cells F ⟨1, 0, none⟩ alphaV) (s : List UInt8) (hs : s.length ≤ 1000000) : Ct Tryz.prog 83 [Str (s)] [F] (fun _ : Unit => I ((alph (rl s) 0 : Nat) : Int)) (fun _ => True) (fun _ => [F]) := by
  refine Ct.walk Tryz.func83 rfl Tryz.ntmps83 rfl (fun w0 hw0 => ?_)
  change J _ [(0, _)] _ _ _
  refine J.seq (fun K1 hK1 => ?_)
  refine J.region ?_
  refine J.y (op_assign rfl rfl) rfl rfl rfl ?_
  refine J.nil ?_
  refine J.then_n (J.k hK1 ?_)
  refine J.keepE [(0, _)] ⟨rfl, trivial⟩ ?_
  refine J.seq (fun K2 hK2 => ?_)
  refine J.region ?_
  refine J.y (op_assign rfl rfl) rfl rfl rfl ?_
  refine J.nil ?_
  refine J.then_n (J.k hK2 ?_)
  refine J.keepE [(0, _), (3, _)] ⟨rfl, rfl, trivial⟩ ?_
  refine J.seq (fun K3 hK3 => ?_)
  refine J.seq (fun K4 hK4 => ?_)
  refine J.region ?_
  refine J.y (op_move rfl rfl) rfl rfl rfl ?_
  refine J.e (op_rangeS rfl rfl Tryz.underlying9) rfl rfl rfl ?_
  rintro g7 _
  change J _ _ _ [F, itr g7 s 0] _
  refine J.nil ?_
  refine J.then_n (J.k hK4 ?_)
  refine J.keepE [(3, _), (7, _)] ⟨rfl, rfl, trivial⟩ ?_
  refine J.block ?_
  refine J.loop (X := Nat × Nat) (fun ζ => [(3, I ((ζ.2 : Nat) : Int)), (7, Ptr g7)]) (fun ζ => [F, itr g7 s ζ.1]) (fun ζ => ζ.1 ≤ s.length ∧ ζ.2 < 8 ∧ alph (rl (s.drop ζ.1)) ζ.2 = alph (rl s) 0) (fun ζ => s.length - ζ.1) (0, 0) (⟨by omega, by omega, rfl⟩) ⟨rfl, rfl, trivial⟩ (fun _ h => h) ?_
  rintro ⟨p, b⟩ ⟨hp, hb, he⟩ I0 hI0
  dsimp only at hp hb he ⊢
  refine J.seq (fun K5 hK5 => ?_)
  refine J.region ?_
  refine J.e (op_nextS (i := 1) rfl rfl rfl) rfl rfl rfl ?_
  rintro _ _
  change J _ _ _ [F, itr g7 s (npos s p)] _
  refine J.y (op_extract (v := .bool (decide (p < s.length))) rfl rfl (nxt_0 _ _)) rfl rfl rfl ?_
  refine J.nil ?_
  refine J.then_n (J.k hK5 ?_)
  refine J.keepE [(3, _), (7, _), (8, _), (9, _)] ⟨rfl, rfl, rfl, rfl, trivial⟩ ?_
  refine J.seq (fun K6 hK6 => ?_)
  refine J.ite rfl (fun h9 => ?_) (fun h9 => ?_)
  ·
    have hps : p < s.length := h9
    have hnp := npos_in hps
    have hdl := dec_le s p hps
    have hdr := dec_rune s p (by omega)
    have hdp := dec_pos s p (by omega)
    have hrl := rl_at hps
    refine J.skip ?_
    refine J.then_n (J.k hK6 ?_)
    refine J.keepE [(3, _), (7, _), (8, _)] ⟨rfl, rfl, rfl, trivial⟩ ?_
    refine J.block ?_
    refine J.seq (fun K7 hK7 => ?_)
    refine J.region ?_
    refine J.y (op_extract (v := .int .i32 (((dec s p).1 : Nat) : Int)) rfl rfl (nxt_2 hps)) rfl rfl rfl ?_
    refine J.y (op_assign rfl rfl) rfl rfl rfl ?_
    refine J.nil ?_
    refine J.then_n (J.k hK7 ?_)
    refine J.keepE [(3, _), (5, _), (7, _)] ⟨rfl, rfl, rfl, trivial⟩ ?_
    refine J.region ?_
    refine J.y (op_move rfl rfl) rfl rfl rfl ?_
    refine J.y (op_move rfl rfl) rfl rfl rfl ?_
    refine J.e (op_call rfl rfl ent79 (Ct.use0 (fun F' hF => letter_ct F' (hA.mono (hF F (by simp))) ((dec s p).1) (by omega)))) rfl rfl rfl ?_
    intro g13 _
    have hll := lett_le (dec s p).1
    refine J.y (op_orI (a := b) (b := lett ((dec s p).1)) rfl rfl rfl (by first | omega | (simp only [List.length_append, List.length_cons, List.length_nil, List.length_take, List.length_drop] at *; omega))) rfl rfl rfl ?_
    refine J.y (op_assign rfl rfl) rfl rfl rfl ?_
    refine J.nil ?_
    refine J.blk_n ?_
    refine J.then_n ?_
    exact J.kk (npos s p, b ||| lett (dec s p).1) (fun η (hη : _ ∧ s.length - η.1 < s.length - p) => hI0 η hη.1 hη.2) ⟨⟨by dsimp only; omega, Nat.or_lt_two_pow (n := 3) hb (lett_le _), by rw [← he, hrl]; rfl⟩, by first | omega | (dsimp only; omega)⟩ ⟨rfl, rfl, trivial⟩ (fun _ h => h)
  ·
    refine J.exit ?_
    refine J.then_x ?_
    refine J.then_x ?_
    refine J.blk_eq ?_
    refine J.then_n (J.k hK3 ?_)
    refine J.keepE [(3, _)] ⟨rfl, trivial⟩ ?_
    refine J.seq (fun K8 hK8 => ?_)
    refine J.region ?_
    refine J.y (op_move rfl rfl) rfl rfl rfl ?_
    refine J.y (op_assign rfl rfl) rfl rfl rfl ?_
    refine J.nil ?_
    refine J.then_n (J.k hK8 ?_)
    refine J.keepE [(2, _)] ⟨rfl, trivial⟩ ?_
    refine J.ret ?_
    exact J.done hw0 (fun _ _ h => h) (res1 rfl rfl) (retOk () (by rw [← he, List.drop_of_length_le (by omega), rl_nil]; rfl) trivial [0] rfl (by decide))

theorem rcount_ct (F : Hp) (s : List UInt8) (hs : s.length ≤ 1000000) : Ct Tryz.prog 78 [Str (s)] [F] (fun _ : Unit => I (((rl s).length : Nat) : Int)) (fun _ => True) (fun _ => [F]) := by
  refine Ct.walk Tryz.func78 rfl Tryz.ntmps78 rfl (fun w0 hw0 => ?_)
  change J _ [(0, _)] _ _ _
  refine J.seq (fun K1 hK1 => ?_)
  refine J.region ?_
  refine J.y (op_assign rfl rfl) rfl rfl rfl ?_
  refine J.nil ?_
  refine J.then_n (J.k hK1 ?_)
  refine J.keepE [(0, _), (2, _)] ⟨rfl, rfl, trivial⟩ ?_
  refine J.seq (fun K2 hK2 => ?_)
  refine J.seq (fun K3 hK3 => ?_)
  refine J.region ?_
  refine J.y (op_move rfl rfl) rfl rfl rfl ?_
  refine J.e (op_rangeS rfl rfl Tryz.underlying9) rfl rfl rfl ?_
  rintro g4 _
  change J _ _ _ [F, itr g4 s 0] _
  refine J.nil ?_
  refine J.then_n (J.k hK3 ?_)
  refine J.keepE [(2, _), (4, _)] ⟨rfl, rfl, trivial⟩ ?_
  refine J.block ?_
  refine J.loop (X := Nat × Nat) (fun ζ => [(2, I ((ζ.2 : Nat) : Int)), (4, Ptr g4)]) (fun ζ => [F, itr g4 s ζ.1]) (fun ζ => ζ.1 ≤ s.length ∧ ζ.2 ≤ ζ.1 ∧ ζ.2 + (rl (s.drop ζ.1)).length = (rl s).length) (fun ζ => s.length - ζ.1) (0, 0) (⟨by omega, by omega, Nat.zero_add _⟩) ⟨rfl, rfl, trivial⟩ (fun _ h => h) ?_
  rintro ⟨p, n⟩ ⟨hp, hb, he⟩ I0 hI0
  dsimp only at hp hb he ⊢
  refine J.seq (fun K4 hK4 => ?_)
  refine J.region ?_
  refine J.e (op_nextS (i := 1) rfl rfl rfl) rfl rfl rfl ?_
  rintro _ _
  change J _ _ _ [F, itr g4 s (npos s p)] _
  refine J.y (op_extract (v := .bool (decide (p < s.length))) rfl rfl (nxt_0 _ _)) rfl rfl rfl ?_
  refine J.nil ?_
  refine J.then_n (J.k hK4 ?_)
  refine J.keepE [(2, _), (4, _), (6, _)] ⟨rfl, rfl, rfl, trivial⟩ ?_
  refine J.seq (fun K5 hK5 => ?_)
  refine J.ite rfl (fun h6 => ?_) (fun h6 => ?_)
  ·
    have hps : p < s.length := h6
    have hnp := npos_in hps
    have hdl := dec_le s p hps
    have hdr := dec_rune s p (by omega)
    have hdp := dec_pos s p (by omega)
    have hrl := rl_at hps
    refine J.skip ?_
    refine J.then_n (J.k hK5 ?_)
    refine J.keepE [(2, _), (4, _)] ⟨rfl, rfl, trivial⟩ ?_
    refine J.block ?_
    refine J.region ?_
    refine J.y (op_move rfl rfl) rfl rfl rfl ?_
    refine J.y ((op_add rfl rfl rfl (by first | omega | (simp only [List.length_append, List.length_cons, List.length_nil, List.length_take, List.length_drop] at *; omega))).as (v' := I ((n + 1 : Nat) : Int)) (congrArg I (by omega))) rfl rfl rfl ?_
    refine J.y (op_assign rfl rfl) rfl rfl rfl ?_
    refine J.nil ?_
    refine J.blk_n ?_
    refine J.then_n ?_
    exact J.kk (npos s p, n + 1) (fun η (hη : _ ∧ s.length - η.1 < s.length - p) => hI0 η hη.1 hη.2) ⟨⟨by dsimp only; omega, by dsimp only; omega, by rw [← he, hrl, List.length_cons]; dsimp only; omega⟩, by first | omega | (dsimp only; omega)⟩ ⟨rfl, rfl, trivial⟩ (fun _ h => h)
  ·
    refine J.exit ?_
    refine J.then_x ?_
    refine J.then_x ?_
    refine J.blk_eq ?_
    refine J.then_n (J.k hK2 ?_)
    refine J.keepE [(2, _)] ⟨rfl, trivial⟩ ?_
    refine J.seq (fun K6 hK6 => ?_)
    refine J.region ?_
    refine J.y (op_move rfl rfl) rfl rfl rfl ?_
    refine J.y (op_assign rfl rfl) rfl rfl rfl ?_
    refine J.nil ?_
    refine J.then_n (J.k hK6 ?_)
    refine J.keepE [(2, _)] ⟨rfl, trivial⟩ ?_
    refine J.ret ?_
    exact J.done hw0 (fun _ _ h => h) (res1 rfl rfl) (retOk () (by rw [← he, List.drop_of_length_le (by omega), rl_nil]; rfl) trivial [0] rfl (by decide))

theorem runes_ct (F : Hp) (hT : TabsF F) (s : List UInt8) (hs : s.length ≤ 1000000) : Ct Tryz.prog 66 [Str (s)] [F] (fun _ : Unit => .tuple #[I ((if vld s = true then (rl s).length else 0 : Nat) : Int), .bool (vld s)]) (fun _ => True) (fun _ => [F]) := by
  refine Ct.walk Tryz.func66 rfl Tryz.ntmps66 rfl (fun w0 hw0 => ?_)
  change J _ [(0, _)] _ _ _
  refine J.seq (fun K1 hK1 => ?_)
  refine J.region ?_
  refine J.y (op_assign rfl rfl) rfl rfl rfl ?_
  refine J.y (op_assign rfl rfl) rfl rfl rfl ?_
  refine J.nil ?_
  refine J.then_n (J.k hK1 ?_)
  refine J.keepE [(0, _)] ⟨rfl, trivial⟩ ?_
  refine J.seq (fun K2 hK2 => ?_)
  refine J.seq (fun K3 hK3 => ?_)
  refine J.region ?_
  refine J.y (op_move rfl rfl) rfl rfl rfl ?_
  refine J.e (op_call rfl rfl ent77 (Ct.use0 (fun F' hF => valid_ct F' (hT.mono (hF F (by simp))) s (by omega)))) rfl rfl rfl ?_
  intro g5 _
  refine J.y (op_not rfl rfl) rfl rfl rfl ?_
  refine J.nil ?_
  refine J.then_n (J.k hK3 ?_)
  refine J.keepE [(0, _), (6, _)] ⟨rfl, rfl, trivial⟩ ?_
  refine J.cond rfl (fun h6 => ?_) (fun h6 => ?_)
  ·
    refine J.seq (fun K4 hK4 => ?_)
    refine J.region ?_
    refine J.y (op_assign rfl rfl) rfl rfl rfl ?_
    refine J.y (op_assign rfl rfl) rfl rfl rfl ?_
    refine J.nil ?_
    refine J.then_n (J.k hK4 ?_)
    refine J.keepE [(2, _), (3, _)] ⟨rfl, rfl, trivial⟩ ?_
    refine J.ret ?_
    refine J.then_r ?_
    exact J.done hw0 (fun _ _ h => h) (res2 rfl rfl rfl) (retOk () (by rw [show vld s = false by simpa using h6]; rfl) trivial [0] rfl (by decide))
  ·
    refine J.skip ?_
    refine J.then_n (J.k hK2 ?_)
    refine J.keepE [(0, _)] ⟨rfl, trivial⟩ ?_
    refine J.seq (fun K5 hK5 => ?_)
    refine J.region ?_
    refine J.y (op_move rfl rfl) rfl rfl rfl ?_
    refine J.e (op_call rfl rfl ent78 (Ct.use0 (fun F' hF => rcount_ct F' s (by omega)))) rfl rfl rfl ?_
    intro g8 _
    refine J.y (op_assign rfl rfl) rfl rfl rfl ?_
    refine J.y (op_assign rfl rfl) rfl rfl rfl ?_
    refine J.nil ?_
    refine J.then_n (J.k hK5 ?_)
    refine J.keepE [(2, _), (3, _)] ⟨rfl, rfl, trivial⟩ ?_
    refine J.ret ?_
    exact J.done hw0 (fun _ _ h => h) (res2 rfl rfl rfl) (retOk () (by rw [show vld s = true by simpa using h6]; rfl) trivial [0] rfl (by decide))

theorem rlen_ct (F : Hp) (r : Nat) (hr : Rn r) : Ct Tryz.prog 86 [.int .i32 ((r : Nat) : Int)] [F] (fun _ : Unit => I (((enc r).length : Nat) : Int)) (fun _ => True) (fun _ => [F]) := by
  obtain ⟨hr1, hr2⟩ := hr
  refine Ct.walk Tryz.func86 rfl Tryz.ntmps86 rfl (fun w0 hw0 => ?_)
  change J _ [(0, _)] _ _ _
  refine J.seq (fun K1 hK1 => ?_)
  refine J.region ?_
  refine J.y (op_assign rfl rfl) rfl rfl rfl ?_
  refine J.nil ?_
  refine J.then_n (J.k hK1 ?_)
  refine J.keepE [(0, _)] ⟨rfl, trivial⟩ ?_
  refine J.seq (fun K2 hK2 => ?_)
  refine J.block ?_
  refine J.seq (fun K3 hK3 => ?_)
  refine J.region ?_
  refine J.y (op_move rfl rfl) rfl rfl rfl ?_
  refine J.y (op_lss rfl rfl rfl) rfl rfl rfl ?_
  refine J.y (op_assign rfl rfl) rfl rfl rfl ?_
  refine J.nil ?_
  refine J.then_n (J.k hK3 ?_)
  refine J.keepE [(0, _), (3, _)] ⟨rfl, rfl, trivial⟩ ?_
  refine J.ite rfl (fun h3 => ?_) (fun h3 => ?_)
  ·
    refine J.seq (fun K4 hK4 => ?_)
    refine J.region ?_
    refine J.y (op_assign rfl rfl) rfl rfl rfl ?_
    refine J.nil ?_
    refine J.then_n (J.k hK4 ?_)
    refine J.keepE [(2, _)] ⟨rfl, trivial⟩ ?_
    refine J.ret ?_
    refine J.blk_r ?_
    refine J.then_r ?_
    exact J.done hw0 (fun _ _ h => h) (res1 rfl rfl) (retOk () (by exfalso; omega) trivial [0] rfl (by decide))
  ·
    refine J.seq (fun K5 hK5 => ?_)
    refine J.region ?_
    refine J.y (op_move rfl rfl) rfl rfl rfl ?_
    refine J.y (op_leq rfl rfl rfl) rfl rfl rfl ?_
    refine J.y (op_assign rfl rfl) rfl rfl rfl ?_
    refine J.nil ?_
    refine J.then_n (J.k hK5 ?_)
    refine J.keepE [(0, _), (6, _)] ⟨rfl, rfl, trivial⟩ ?_
    refine J.ite rfl (fun h6 => ?_) (fun h6 => ?_)
    ·
      refine J.seq (fun K6 hK6 => ?_)
      refine J.region ?_
      refine J.y (op_assign rfl rfl) rfl rfl rfl ?_
      refine J.nil ?_
      refine J.then_n (J.k hK6 ?_)
      refine J.keepE [(2, _)] ⟨rfl, trivial⟩ ?_
      refine J.ret ?_
      refine J.blk_r ?_
      refine J.then_r ?_
      exact J.done hw0 (fun _ _ h => h) (res1 rfl rfl) (retOk () (by rw [enc_small (by omega)]; rfl) trivial [0] rfl (by decide))
    ·
      refine J.seq (fun K7 hK7 => ?_)
      refine J.region ?_
      refine J.y (op_move rfl rfl) rfl rfl rfl ?_
      refine J.y (op_leq rfl rfl rfl) rfl rfl rfl ?_
      refine J.y (op_assign rfl rfl) rfl rfl rfl ?_
      refine J.nil ?_
      refine J.then_n (J.k hK7 ?_)
      refine J.keepE [(0, _), (9, _)] ⟨rfl, rfl, trivial⟩ ?_
      refine J.ite rfl (fun h9 => ?_) (fun h9 => ?_)
      ·
        refine J.seq (fun K8 hK8 => ?_)
        refine J.region ?_
        refine J.y (op_assign rfl rfl) rfl rfl rfl ?_
        refine J.nil ?_
        refine J.then_n (J.k hK8 ?_)
        refine J.keepE [(2, _)] ⟨rfl, trivial⟩ ?_
        refine J.ret ?_
        refine J.blk_r ?_
        refine J.then_r ?_
        exact J.done hw0 (fun _ _ h => h) (res1 rfl rfl) (retOk () (by unfold enc; rw [if_neg (by omega), if_pos (by omega)]; rfl) trivial [0] rfl (by decide))
      ·
        refine J.seq (fun K9 hK9 => ?_)
        refine J.region ?_
        refine J.y (op_move rfl rfl) rfl rfl rfl ?_
        refine J.y (op_leq rfl rfl rfl) rfl rfl rfl ?_
        refine J.y (op_move rfl rfl) rfl rfl rfl ?_
        refine J.split (d := 15) rfl (fun h15 => ?_) (fun h15 => ?_)
        ·
          refine J.yg (Wan.is rfl rfl rfl rfl rfl) (op_move rfl rfl) rfl rfl ?_
          refine J.yg (Wan.is rfl rfl rfl rfl rfl) (op_leq rfl rfl rfl) rfl rfl ?_
          refine J.y (op_pickT rfl rfl rfl) rfl rfl rfl ?_
          refine J.y (op_assign rfl rfl) rfl rfl rfl ?_
          refine J.nil ?_
          refine J.then_n (J.k hK9 ?_)
          refine J.keepE [(0, _), (12, _)] ⟨rfl, rfl, trivial⟩ ?_
          refine J.ite rfl (fun h12 => ?_) (fun h12 => ?_)
          ·
            refine J.seq (fun K10 hK10 => ?_)
            refine J.region ?_
            refine J.y (op_assign rfl rfl) rfl rfl rfl ?_
            refine J.nil ?_
            refine J.then_n (J.k hK10 ?_)
            refine J.keepE [(2, _)] ⟨rfl, trivial⟩ ?_
            refine J.ret ?_
            refine J.blk_r ?_
            refine J.then_r ?_
            exact J.done hw0 (fun _ _ h => h) (res1 rfl rfl) (retOk () (by exfalso; omega) trivial [0] rfl (by decide))
          ·
            refine J.seq (fun K11 hK11 => ?_)
            refine J.region ?_
            refine J.y (op_move rfl rfl) rfl rfl rfl ?_
            refine J.y (op_leq rfl rfl rfl) rfl rfl rfl ?_
            refine J.y (op_assign rfl rfl) rfl rfl rfl ?_
            refine J.nil ?_
            refine J.then_n (J.k hK11 ?_)
            refine J.keepE [(0, _), (19, _)] ⟨rfl, rfl, trivial⟩ ?_
            refine J.ite rfl (fun h19 => ?_) (fun h19 => ?_)
            ·
              refine J.seq (fun K12 hK12 => ?_)
              refine J.region ?_
              refine J.y (op_assign rfl rfl) rfl rfl rfl ?_
              refine J.nil ?_
              refine J.then_n (J.k hK12 ?_)
              refine J.keepE [(2, _)] ⟨rfl, trivial⟩ ?_
              refine J.ret ?_
              refine J.blk_r ?_
              refine J.then_r ?_
              exact J.done hw0 (fun _ _ h => h) (res1 rfl rfl) (retOk () (by unfold enc; rw [if_neg (by omega), if_neg (by omega), if_pos (by omega)]; rfl) trivial [0] rfl (by decide))
            ·
              refine J.seq (fun K13 hK13 => ?_)
              refine J.region ?_
              refine J.y (op_move rfl rfl) rfl rfl rfl ?_
              refine J.y (op_leq rfl rfl rfl) rfl rfl rfl ?_
              refine J.y (op_assign rfl rfl) rfl rfl rfl ?_
              refine J.nil ?_
              refine J.then_n (J.k hK13 ?_)
              refine J.keepE [(22, _)] ⟨rfl, trivial⟩ ?_
              refine J.ite rfl (fun h22 => ?_) (fun h22 => ?_)
              ·
                refine J.seq (fun K14 hK14 => ?_)
                refine J.region ?_
                refine J.y (op_assign rfl rfl) rfl rfl rfl ?_
                refine J.nil ?_
                refine J.then_n (J.k hK14 ?_)
                refine J.keepE [(2, _)] ⟨rfl, trivial⟩ ?_
                refine J.ret ?_
                refine J.blk_r ?_
                refine J.then_r ?_
                exact J.done hw0 (fun _ _ h => h) (res1 rfl rfl) (retOk () (by unfold enc; rw [if_neg (by omega), if_neg (by omega), if_neg (by omega)]; rfl) trivial [0] rfl (by decide))
              ·
                refine J.skip ?_
                refine J.blk_n ?_
                refine J.then_n (J.k hK2 ?_)
                refine J.keepE [] trivial ?_
                refine J.seq (fun K15 hK15 => ?_)
                refine J.region ?_
                refine J.y (op_assign rfl rfl) rfl rfl rfl ?_
                refine J.nil ?_
                refine J.then_n (J.k hK15 ?_)
                refine J.keepE [(2, _)] ⟨rfl, trivial⟩ ?_
                refine J.ret ?_
                exact J.done hw0 (fun _ _ h => h) (res1 rfl rfl) (retOk () (by exfalso; omega) trivial [0] rfl (by decide))
        ·
          refine J.no (Wan.is rfl rfl rfl rfl rfl) rfl rfl ?_
          refine J.no (Wan.is rfl rfl rfl rfl rfl) rfl rfl ?_
          refine J.y (op_pickF rfl rfl rfl) rfl rfl rfl ?_
          refine J.y (op_assign rfl rfl) rfl rfl rfl ?_
          refine J.nil ?_
          refine J.then_n (J.k hK9 ?_)
          refine J.keepE [(0, _), (12, _)] ⟨rfl, rfl, trivial⟩ ?_
          refine J.condF rfl rfl ?_
          refine J.seq (fun K16 hK16 => ?_)
          refine J.region ?_
          refine J.y (op_move rfl rfl) rfl rfl rfl ?_
          refine J.y (op_leq rfl rfl rfl) rfl rfl rfl ?_
          refine J.y (op_assign rfl rfl) rfl rfl rfl ?_
          refine J.nil ?_
          refine J.then_n (J.k hK16 ?_)
          refine J.keepE [(0, _), (19, _)] ⟨rfl, rfl, trivial⟩ ?_
          refine J.ite rfl (fun h19 => ?_) (fun h19 => ?_)
          ·
            refine J.seq (fun K17 hK17 => ?_)
            refine J.region ?_
            refine J.y (op_assign rfl rfl) rfl rfl rfl ?_
            refine J.nil ?_
            refine J.then_n (J.k hK17 ?_)
            refine J.keepE [(2, _)] ⟨rfl, trivial⟩ ?_
            refine J.ret ?_
            refine J.blk_r ?_
            refine J.then_r ?_
            exact J.done hw0 (fun _ _ h => h) (res1 rfl rfl) (retOk () (by unfold enc; rw [if_neg (by omega), if_neg (by omega), if_pos (by omega)]; rfl) trivial [0] rfl (by decide))
          ·
            refine J.seq (fun K18 hK18 => ?_)
            refine J.region ?_
            refine J.y (op_move rfl rfl) rfl rfl rfl ?_
            refine J.y (op_leq rfl rfl rfl) rfl rfl rfl ?_
            refine J.y (op_assign rfl rfl) rfl rfl rfl ?_
            refine J.nil ?_
            refine J.then_n (J.k hK18 ?_)
            refine J.keepE [(22, _)] ⟨rfl, trivial⟩ ?_
            refine J.ite rfl (fun h22 => ?_) (fun h22 => ?_)
            ·
              refine J.seq (fun K19 hK19 => ?_)
              refine J.region ?_
              refine J.y (op_assign rfl rfl) rfl rfl rfl ?_
              refine J.nil ?_
              refine J.then_n (J.k hK19 ?_)
              refine J.keepE [(2, _)] ⟨rfl, trivial⟩ ?_
              refine J.ret ?_
              refine J.blk_r ?_
              refine J.then_r ?_
              exact J.done hw0 (fun _ _ h => h) (res1 rfl rfl) (retOk () (by unfold enc; rw [if_neg (by omega), if_neg (by omega), if_neg (by omega)]; rfl) trivial [0] rfl (by decide))
            ·
              refine J.skip ?_
              refine J.blk_n ?_
              refine J.then_n (J.k hK2 ?_)
              refine J.keepE [] trivial ?_
              refine J.seq (fun K20 hK20 => ?_)
              refine J.region ?_
              refine J.y (op_assign rfl rfl) rfl rfl rfl ?_
              refine J.nil ?_
              refine J.then_n (J.k hK20 ?_)
              refine J.keepE [(2, _)] ⟨rfl, trivial⟩ ?_
              refine J.ret ?_
              exact J.done hw0 (fun _ _ h => h) (res1 rfl rfl) (retOk () (by exfalso; omega) trivial [0] rfl (by decide))

theorem parts_ct (F : Hp) (hT : TabsF F) (s : List UInt8) (hs : s.length ≤ 1000000) : Ct Tryz.prog 81 [Str (s)] [F] (fun x : Option Addr × Nat × Hp => .slice x.1 (spl [] s).length x.2.1) (fun x => Row x.2.2 9 1 x.1 (spl [] s).length x.2.1 (strsV (spl [] s))) (fun x => [F, x.2.2]) := by
  refine Ct.walk Tryz.func81 rfl Tryz.ntmps81 rfl (fun w0 hw0 => ?_)
  change J _ [(0, _)] _ _ _
  refine J.seq (fun K1 hK1 => ?_)
  refine J.region ?_
  refine J.y (op_assign rfl rfl) rfl rfl rfl ?_
  refine J.nil ?_
  refine J.then_n (J.k hK1 ?_)
  refine J.keepE [(0, _)] ⟨rfl, trivial⟩ ?_
  refine J.seq (fun K2 hK2 => ?_)
  refine J.region ?_
  refine J.e (op_buildSlice (l := [.const ((Value.string (ByteArray.mk #[])))]) (xs := [[Str ([])]]) rfl rfl rfl rfl Tryz.underlying35 el9 rfl (by decide) (by decide) (by simp)) rfl rfl rfl ?_
  intro g7 _
  change J _ _ _ [F, blk g7 [Str ([])] 9] _
  refine J.y (op_assign rfl rfl) rfl rfl rfl ?_
  refine J.nil ?_
  refine J.then_n (J.k hK2 ?_)
  refine J.keepE [(0, _), (3, _)] ⟨rfl, rfl, trivial⟩ ?_
  refine J.seq (fun K3 hK3 => ?_)
  refine J.seq (fun K4 hK4 => ?_)
  refine J.region ?_
  refine J.y (op_move rfl rfl) rfl rfl rfl ?_
  refine J.e (op_rangeS rfl rfl Tryz.underlying9) rfl rfl rfl ?_
  rintro g9 _
  change J _ _ _ [F, blk g7 [Str ([])] 9, itr g9 s 0] _
  refine J.nil ?_
  refine J.then_n (J.k hK4 ?_)
  refine J.keepE [(0, _), (3, _), (9, _)] ⟨rfl, rfl, rfl, trivial⟩ ?_
  refine J.block ?_
  refine J.loop (X := Nat × List (List UInt8) × List UInt8 × Nat × Option Addr × Nat × Hp) (fun ζ => [(0, Str (s)), (3, .slice ζ.2.2.2.2.1 ζ.2.2.2.1 ζ.2.2.2.2.2.1), (9, Ptr g9)]) (fun ζ => [F, ζ.2.2.2.2.2.2, itr g9 s ζ.1]) (fun ζ => ζ.1 ≤ s.length ∧ ζ.2.2.2.1 = ζ.2.1.length + 1 ∧ ζ.2.1.length ≤ ζ.1 ∧ ζ.2.2.1.length ≤ ζ.1 ∧ Row ζ.2.2.2.2.2.2 9 1 ζ.2.2.2.2.1 ζ.2.2.2.1 ζ.2.2.2.2.2.1 (strsV (ζ.2.1 ++ [ζ.2.2.1])) ∧ ζ.2.1 ++ spl ζ.2.2.1 (s.drop ζ.1) = spl [] s) (fun ζ => s.length - ζ.1) (0, [], [], 1, _, _, _) (⟨by omega, rfl, by simp, by simp, row_lit (strsV [[]]) rfl (by simp [strsV]) rfl, rfl⟩) ⟨rfl, rfl, rfl, trivial⟩ (fun _ h => h) ?_
  rintro ⟨p, ds, cur, n, A, c, m⟩ ⟨hp, hn, hd, hc, hr, he⟩ I0 hI0
  dsimp only at hp hn hd hc hr he ⊢
  obtain ⟨ga, rfl⟩ := hr.at (by omega)
  have hlen := congrArg List.length he
  refine J.seq (fun K5 hK5 => ?_)
  refine J.region ?_
  refine J.e (op_nextS (i := 2) rfl rfl rfl) rfl rfl rfl ?_
  rintro _ _
  change J _ _ _ [F, m, itr g9 s (npos s p)] _
  refine J.y (op_extract (v := .bool (decide (p < s.length))) rfl rfl (nxt_0 _ _)) rfl rfl rfl ?_
  refine J.nil ?_
  refine J.then_n (J.k hK5 ?_)
  refine J.keepE [(0, _), (3, _), (9, _), (10, _), (11, _)] ⟨rfl, rfl, rfl, rfl, rfl, trivial⟩ ?_
  refine J.seq (fun K6 hK6 => ?_)
  refine J.ite rfl (fun h11 => ?_) (fun h11 => ?_)
  ·
    have hps : p < s.length := h11
    have hnp := npos_in hps
    have hdl := dec_le s p hps
    have hdr := dec_rune s p (by omega)
    have hdp := dec_pos s p (by omega)
    have hrl := rl_at hps
    have hdn := drop_ne hps
    have hdd := dec_drop (s := s) (pos := p) (by omega)
    refine J.skip ?_
    refine J.then_n (J.k hK6 ?_)
    refine J.keepE [(0, _), (3, _), (9, _), (10, _)] ⟨rfl, rfl, rfl, rfl, trivial⟩ ?_
    refine J.block ?_
    refine J.seq (fun K7 hK7 => ?_)
    refine J.region ?_
    refine J.y (op_extract (v := I ((p : Nat) : Int)) rfl rfl (nxt_1 hps)) rfl rfl rfl ?_
    refine J.y (op_extract (v := .int .i32 (((dec s p).1 : Nat) : Int)) rfl rfl (nxt_2 hps)) rfl rfl rfl ?_
    refine J.y (op_assign rfl rfl) rfl rfl rfl ?_
    refine J.y (op_assign rfl rfl) rfl rfl rfl ?_
    refine J.nil ?_
    refine J.then_n (J.k hK7 ?_)
    refine J.keepE [(0, _), (3, _), (4, _), (5, _), (9, _)] ⟨rfl, rfl, rfl, rfl, rfl, trivial⟩ ?_
    refine J.seq (fun K8 hK8 => ?_)
    refine J.region ?_
    refine J.y (op_move rfl rfl) rfl rfl rfl ?_
    refine J.e (op_call rfl rfl ent86 (Ct.use0 (fun F' hF => rlen_ct F' ((dec s p).1) (dec_rn hps)))) rfl rfl rfl ?_
    intro g15 _
    refine J.y (op_assign rfl rfl) rfl rfl rfl ?_
    refine J.nil ?_
    refine J.then_n (J.k hK8 ?_)
    refine J.keepE [(0, _), (3, _), (4, _), (5, _), (6, _), (9, _)] ⟨rfl, rfl, rfl, rfl, rfl, rfl, trivial⟩ ?_
    refine J.cut (X := Unit) (fun ζ => [(0, Str (s)), (3, .slice (some ⟨ga, 0, none⟩) n c), (4, I ((p : Nat) : Int)), (5, .int .i32 (((dec s p).1 : Nat) : Int)), (6, I (((dec s p).2 : Nat) : Int)), (9, Ptr g9)]) (fun ζ => [F, m, itr g9 s (npos s p)]) (fun ζ => True) (fun K9 hK9 => ?_) ?_
    ·
      refine J.seq (fun K10 hK10 => ?_)
      refine J.region ?_
      refine J.y (op_move rfl rfl) rfl rfl rfl ?_
      refine J.y (op_eql rfl rfl rfl) rfl rfl rfl ?_
      refine J.nil ?_
      refine J.then_n (J.k hK10 ?_)
      refine J.keepE [(0, _), (3, _), (4, _), (5, _), (6, _), (9, _), (17, _)] ⟨rfl, rfl, rfl, rfl, rfl, rfl, rfl, trivial⟩ ?_
      refine J.ite rfl (fun h17 => ?_) (fun h17 => ?_)
      ·
        refine J.region ?_
        refine J.y (op_move rfl rfl) rfl rfl rfl ?_
        refine J.y (op_move rfl rfl) rfl rfl rfl ?_
        refine J.y ((op_sslice (a := s) (l := p) (h := s.length) Tryz.underlying9 rfl rfl rfl rfl ⟨by first | omega | (simp only [List.length_append, List.length_cons, List.length_nil, List.length_take, List.length_drop] at *; omega), by first | omega | (simp only [List.length_append, List.length_cons, List.length_nil, List.length_take, List.length_drop] at *; omega)⟩).as (v' := Str (s.drop p)) (by rw [List.take_length])) rfl rfl rfl ?_
        refine J.e (op_call rfl rfl ent85 (Ct.use0 (fun F' hF => decode_ct F' (hT.mono (hF F (by simp))) (s.drop p) (by assumption)))) rfl rfl rfl ?_
        intro g22 _
        refine J.y (op_move rfl rfl) rfl rfl rfl ?_
        refine J.y (op_extract (v := .int .i32 (((dec (s.drop p) 0).1 : Nat) : Int)) rfl rfl rfl) rfl rfl rfl ?_
        refine J.y (op_extract (v := I (((dec (s.drop p) 0).2 : Nat) : Int)) rfl rfl rfl) rfl rfl rfl ?_
        refine J.y (op_assign rfl rfl) rfl rfl rfl ?_
        refine J.nil ?_
        refine J.then_n ?_
        exact J.kk () hK9 (trivial) ⟨rfl, rfl, rfl, rfl, (by show some (I (((dec (s.drop p) 0).2 : Nat) : Int)) = _; rw [← hdd]), rfl, trivial⟩ (fun _ h => h)
      ·
        refine J.skip ?_
        refine J.then_n ?_
        exact J.kk () hK9 (trivial) ⟨rfl, rfl, rfl, rfl, (by show some (I (((enc (dec s p).1).length : Nat) : Int)) = _; rw [dec_len hps (by omega)]), rfl, trivial⟩ (fun _ h => h)
    rintro _ _
    refine J.seq (fun K11 hK11 => ?_)
    refine J.region ?_
    refine J.y (op_move rfl rfl) rfl rfl rfl ?_
    refine J.e (op_call rfl rfl ent80 (Ct.use0 (fun F' hF => sep_ct F' ((dec s p).1)))) rfl rfl rfl ?_
    intro g26 _
    refine J.nil ?_
    refine J.then_n (J.k hK11 ?_)
    refine J.keepE [(0, _), (3, _), (4, _), (6, _), (9, _), (26, _)] ⟨rfl, rfl, rfl, rfl, rfl, rfl, trivial⟩ ?_
    refine J.cond rfl (fun h26 => ?_) (fun h26 => ?_)
    ·
      refine J.region ?_
      refine J.y (op_move rfl rfl) rfl rfl rfl ?_
      refine J.e (op_buildSlice (l := [.const ((Value.string (ByteArray.mk #[])))]) (xs := [[Str ([])]]) rfl rfl rfl rfl Tryz.underlying35 el9 rfl (by decide) (by decide) (by simp)) rfl rfl rfl ?_
      intro g28 _
      change J _ _ _ [F, m, itr g9 s (npos s p), blk g28 [Str ([])] 9] _
      refine J.e (op_append (i := 1) (xs := strsV (ds ++ [cur])) (m2 := blk g28 [Str ([])] 9) (ys := [[Str ([])]]) rfl rfl rfl Tryz.underlying35 Tryz.underlying35 el9 rfl hr (by simp) ((row_lit (q := True) (strsV [[]]) rfl (by simp [strsV]) rfl).sl) rfl (by first | omega | (simp only [List.length_append, List.length_cons, List.length_nil, List.length_take, List.length_drop] at *; omega)) (by first | omega | (simp only [List.length_append, List.length_cons, List.length_nil, List.length_take, List.length_drop] at *; omega))) rfl rfl rfl ?_
      rintro ⟨A29, c29, m29⟩ h29
      try dsimp only at h29
      change J _ ((29, .slice A29 (n + 1) c29) :: _) _ [F, m29, itr g9 s (npos s p), blk g28 [Str ([])] 9] _
      rw [← strsV_snoc] at h29
      refine J.y (op_assign rfl rfl) rfl rfl rfl ?_
      refine J.nil ?_
      refine J.blk_n ?_
      refine J.then_n ?_
      exact J.kk (npos s p, ds ++ [cur], [], n + 1, A29, c29, m29) (fun η (hη : _ ∧ s.length - η.1 < s.length - p) => hI0 η hη.1 hη.2) ⟨⟨by dsimp only; omega, by simp; omega, by simp; omega, by simp, h29, by rw [← he, spl_step hps _ h26, List.append_assoc]; rfl⟩, by first | omega | (dsimp only; omega)⟩ ⟨rfl, rfl, rfl, trivial⟩ (fun _ h => h.pick [0, 1, 2] (by decide))
    ·
      refine J.draw [F, m, itr g9 s (npos s p)] [14] (.y 0 (.y 1 (.y 2 (.y 3 (.y 4 (.y 5 (.y 6 (.y 7 (.y 8 (.y 9 (.y 10 (.y 11 (.y 12 (.y 13 (.e 14 .nil))))))))))))))) Tryz.wide (by decide +kernel) (by simp) ?_
      refine J.dy rfl (op_move rfl rfl) rfl rfl rfl rfl ?_
      refine J.dy rfl (op_move rfl rfl) rfl rfl rfl rfl ?_
      refine J.dy rfl (op_len Tryz.underlying35 rfl rfl) rfl rfl rfl rfl ?_
      refine J.dy rfl ((op_sub rfl rfl rfl (by first | omega | (refine ⟨?_, ?_⟩ <;> omega))).as (v' := I ((n - 1 : Nat) : Int)) (congrArg I (by omega))) rfl rfl rfl rfl ?_
      refine J.dy rfl (op_indexAddrS (i := n - 1) (j := 0 + (n - 1) * 1) rfl rfl rfl Tryz.underlying35 Tryz.sizeOf9 (by first | omega | (simp only [List.length_append, List.length_cons, List.length_nil, List.length_take, List.length_drop] at *; omega)) (by omega)) rfl rfl rfl rfl ?_
      refine J.dy rfl (op_load rfl rfl Tryz.isAgg9 (m := m) (by simp) (hr.sl.cells (strsV_get (getSome [] (by first | omega | (simp only [List.length_append, List.length_cons, List.length_nil, List.length_take, List.length_drop] at *; omega)))))) rfl rfl rfl rfl ?_
      refine J.dy rfl (op_move rfl rfl) rfl rfl rfl rfl ?_
      refine J.dy rfl (op_move rfl rfl) rfl rfl rfl rfl ?_
      refine J.dy rfl (op_move rfl rfl) rfl rfl rfl rfl ?_
      refine J.dy rfl (op_move rfl rfl) rfl rfl rfl rfl ?_
      refine J.dy rfl ((op_add rfl rfl rfl (by first | omega | (simp only [List.length_append, List.length_cons, List.length_nil, List.length_take, List.length_drop] at *; omega))).as (v' := I ((p + ((dec s p).2) : Nat) : Int)) (congrArg I (by omega))) rfl rfl rfl rfl ?_
      refine J.dy rfl (op_sslice (a := s) (l := p) (h := (p + ((dec s p).2))) Tryz.underlying9 rfl rfl rfl rfl ⟨by first | omega | (simp only [List.length_append, List.length_cons, List.length_nil, List.length_take, List.length_drop] at *; omega), by first | omega | (simp only [List.length_append, List.length_cons, List.length_nil, List.length_take, List.length_drop] at *; omega)⟩) rfl rfl rfl rfl ?_
      have hgl : ((ds ++ [cur]).getD (n - 1) []).length ≤ p := by rw [show n - 1 = ds.length by omega, last_get]; exact hc
      refine J.dy rfl (op_sadd (a := (ds ++ [cur]).getD (n - 1) []) (b := (s.take (p + ((dec s p).2))).drop p) rfl rfl rfl (by first | omega | (simp only [List.length_append, List.length_cons, List.length_nil, List.length_take, List.length_drop] at *; omega))) rfl rfl rfl rfl ?_
      refine J.dy rfl (op_indexAddrS (i := n - 1) (j := 0 + (n - 1) * 1) rfl rfl rfl Tryz.underlying35 Tryz.sizeOf9 (by first | omega | (simp only [List.length_append, List.length_cons, List.length_nil, List.length_take, List.length_drop] at *; omega)) (by omega)) rfl rfl rfl rfl ?_
      refine J.ds rfl (op_storeRow (i := 1) (k := n - 1) (off := 0) (b := [Str (((ds ++ [cur]).getD (n - 1) []) ++ ((s.take (p + ((dec s p).2))).drop p))]) rfl rfl rfl rfl hr (vs := [Str (((ds ++ [cur]).getD (n - 1) []) ++ ((s.take (p + ((dec s p).2))).drop p))]) rfl Tryz.sizeOf9 rfl (by omega) (strsV_get (getSome [] (by first | omega | (simp only [List.length_append, List.length_cons, List.length_nil, List.length_take, List.length_drop] at *; omega)))) rfl (Nat.le_refl _)) rfl rfl rfl ?_
      rintro m10_1 hm10_1
      change J _ _ _ [F, m10_1, itr g9 s (npos s p)] _
      rw [strsV_set] at hm10_1
      refine J.dnil ?_
      refine J.blk_n ?_
      refine J.then_n ?_
      exact J.kk (npos s p, ds, cur ++ (s.take (p + (dec s p).2)).drop p, n, some ⟨ga, 0, none⟩, c, m10_1) (fun η (hη : _ ∧ s.length - η.1 < s.length - p) => hI0 η hη.1 hη.2) ⟨⟨by dsimp only; omega, by simp; omega, by dsimp only; omega, by simp; omega, by rw [last_set _ _ _ (by omega)] at hm10_1; exact hm10_1, by rw [← he, spl_piece_step hps _ h26]⟩, by first | omega | (dsimp only; omega)⟩ ⟨rfl, rfl, rfl, trivial⟩ (fun _ h => h)
  ·
    refine J.exit ?_
    refine J.then_x ?_
    refine J.then_x ?_
    refine J.blk_eq ?_
    refine J.then_n (J.k hK3 ?_)
    refine J.keepE [(3, _)] ⟨rfl, trivial⟩ ?_
    refine J.seq (fun K12 hK12 => ?_)
    refine J.region ?_
    refine J.y (op_move rfl rfl) rfl rfl rfl ?_
    refine J.y (op_assign rfl rfl) rfl rfl rfl ?_
    refine J.nil ?_
    refine J.then_n (J.k hK12 ?_)
    refine J.keepE [(2, _)] ⟨rfl, trivial⟩ ?_
    refine J.ret ?_
    have he2 : ds ++ [cur] = spl [] s := by rw [← he, List.drop_of_length_le (by omega)]; rfl
    have hn2 : n = (spl [] s).length := by rw [← he2]; simp; omega
    rw [he2, hn2] at hr
    exact J.done hw0 (fun _ _ h => h) (res1 rfl rfl) (retOk (some ⟨ga, 0, none⟩, c, m) (by rw [hn2]) hr [0, 1] rfl (by decide))

theorem one_bits : ∀ b : Nat, b < 8 → IntKind.i64.wrap (((BitVec.ofInt 64 (b : Int)) &&& BitVec.ofInt 64 ((b : Int) - 1)).toNat : Int) = ((b &&& (b - 1) : Nat) : Int) := by decide

theorem one_ct (F : Hp) (b : Nat) (hb : b < 8) : Ct Tryz.prog 82 [I ((b : Nat) : Int)] [F] (fun _ : Unit => .bool (good b)) (fun _ => True) (fun _ => [F]) := by
  refine Ct.walk Tryz.func82 rfl Tryz.ntmps82 rfl (fun w0 hw0 => ?_)
  change J _ [(0, _)] _ _ _
  refine J.seq (fun K1 hK1 => ?_)
  refine J.region ?_
  refine J.y (op_assign rfl rfl) rfl rfl rfl ?_
  refine J.nil ?_
  refine J.then_n (J.k hK1 ?_)
  refine J.keepE [(0, _)] ⟨rfl, trivial⟩ ?_
  refine J.seq (fun K2 hK2 => ?_)
  refine J.region ?_
  refine J.y (op_move rfl rfl) rfl rfl rfl ?_
  refine J.y (op_move rfl rfl) rfl rfl rfl ?_
  refine J.y (op_sub rfl rfl rfl (by omega)) rfl rfl rfl ?_
  refine J.y (op_andZ rfl rfl rfl (one_bits b hb)) rfl rfl rfl ?_
  refine J.y (op_eql rfl rfl rfl) rfl rfl rfl ?_
  refine J.y (op_assign rfl rfl) rfl rfl rfl ?_
  refine J.nil ?_
  refine J.then_n (J.k hK2 ?_)
  refine J.keepE [(2, _)] ⟨rfl, trivial⟩ ?_
  refine J.ret ?_
  exact J.done hw0 (fun _ _ h => h) (res1 rfl rfl) (retOk () (congrArg Value.bool (Bool.eq_iff_iff.2 (by rw [decide_eq_true_eq, ← one_good b hb]; exact Int.natCast_eq_zero))) trivial [0] rfl (by decide))

end Go.Proofs.YtnkfapecbmmpeaaGreatDoor
