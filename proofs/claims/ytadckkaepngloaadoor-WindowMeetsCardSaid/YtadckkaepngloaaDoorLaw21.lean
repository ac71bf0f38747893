/- A part of the proof: contracts of functions of the program, each for every state of the heaps that it names. -/
import Derived.Test.YtadckkaepngloaaDoorWin
set_option linter.unusedSimpArgs false
set_option linter.unusedVariables false
namespace Go.Proofs.YtadckkaepngloaaDoor
open Go Go.Fw
set_option maxRecDepth 100000
set_option maxHeartbeats 1000000

theorem el4 : Elem Tryd.prog 4 [.bool false] 1 := Elem.of (by kernel_rfl) rfl
theorem ent29 : Enters Tryd.prog 29 := Enters.of Tryd.func29 rfl (by kernel_rfl)
theorem ent34 : Enters Tryd.prog 34 := Enters.of Tryd.func34 rfl (by kernel_rfl)
theorem spoken21 : (Wd.wins 3 5 (Sha.Strm.new (Wd.seedOf [115, 101, 101, 100] 1)) 3).isSome = true := by decide +kernel
namespace Wm
def boolsV (l : List Bool) : List (List Value) := l.map fun b => [Value.bool b]
def cnt (l : List Bool) : Nat := l.countP id
theorem cnt_rep (n : Nat) : cnt (List.replicate n false) = 0 := by
  unfold cnt
  rw [List.countP_eq_zero]
  intro x hx
  rw [List.eq_of_mem_replicate hx]; decide
theorem cnt_set : ∀ (l : List Bool) (i : Nat), l[i]? = some false → cnt (l.set i true) = cnt l + 1
  | [], i, h => by simp at h
  | a :: l, 0, h => by simp at h; subst h; simp [cnt, List.countP_cons]
  | a :: l, i + 1, h => by
    have := cnt_set l i (by simpa using h)
    unfold cnt at this ⊢
    simp only [List.set_cons_succ, List.countP_cons, this]; omega
theorem cnt_all : ∀ (l : List Bool), (∀ j, j < l.length → l[j]? = some true) → cnt l = l.length
  | [], _ => rfl
  | a :: l, h => by
    have h0 := h 0 (by simp)
    simp at h0
    subst h0
    have := cnt_all l (fun j hj => by have := h (j + 1) (by simp; omega); simpa using this)
    unfold cnt at this ⊢
    simp only [List.countP_cons, this, List.length_cons]; simp
theorem cnt_le (l : List Bool) : cnt l ≤ l.length := List.countP_le_length
def both : List Bool → List Bool → Nat
  | a :: l, b :: r => (if a = true ∧ b = true then 1 else 0) + both l r
  | _, _ => 0
theorem both_ge : ∀ (x y : List Bool), x.length = y.length → cnt x + cnt y ≤ x.length + both x y
  | [], [], _ => by decide
  | a :: l, b :: r, h => by
    have := both_ge l r (by simpa using h)
    unfold cnt at this ⊢
    simp only [List.countP_cons, both, List.length_cons]
    cases a <;> cases b <;> simp <;> omega
theorem both_snoc : ∀ (x y : List Bool) (i : Nat) (a b : Bool), x[i]? = some a → y[i]? = some b → both (x.take (i + 1)) (y.take (i + 1)) = both (x.take i) (y.take i) + if a = true ∧ b = true then 1 else 0
  | [], _, _, _, _, h, _ => by simp at h
  | _ :: _, [], _, _, _, _, h => by simp at h
  | c :: l, d :: r, 0, a, b, h1, h2 => by
    simp at h1 h2
    subst h1 h2
    simp [both]
  | c :: l, d :: r, i + 1, a, b, h1, h2 => by
    have := both_snoc l r i a b (by simpa using h1) (by simpa using h2)
    simp only [List.take_succ_cons, both] at this ⊢
    omega
theorem getB' {l : List Bool} {j : Nat} (h : j < l.length) : (l.map Value.bool)[j]? = some (.bool (l.getD j false)) := by
  rw [List.getElem?_map, List.getElem?_eq_getElem h, List.getD_eq_getElem?_getD, List.getElem?_eq_getElem h]; rfl
theorem getL {l : List Bool} {j : Nat} (h : j < l.length) : l[j]? = some (l.getD j false) := by
  rw [List.getD_eq_getElem?_getD, List.getElem?_eq_getElem h]; rfl
theorem setAt_bools (l : List Bool) (k : Nat) (x : Bool) (h : k < l.length) : setAt (l.map Value.bool) k [.bool x] = (l.set k x).map Value.bool := by
  unfold setAt
  rw [List.length_singleton, List.set_eq_take_append_cons_drop, if_pos h, List.map_append, List.map_cons, List.map_take, List.map_drop]
  simp
theorem start (n : Nat) : (List.replicate n [Value.bool false]).flatten = (List.replicate n false).map Value.bool := by
  induction n with
  | zero => rfl
  | succ n ih => simp only [List.replicate_succ, List.flatten_cons, ih]; rfl
end Wm

theorem speaks21_ct (F : Hp) (hK : Cells F ⟨0, 0, none⟩ (Sha.K.map W32)) : Ct Tryd.prog 29 [] [F] (fun _ : Unit => .bool true) (fun _ => True) (fun _ => [F]) := by
  obtain ⟨⟨l, st⟩, hw⟩ := Option.isSome_iff_exists.1 spoken21
  refine Ct.walk Tryd.func29 rfl Tryd.ntmps29 rfl (fun w0 => ?_)
  change J _ [] _ _ _
  refine J.seq (fun K1 hK1 => ?_)
  refine J.region ?_
  refine J.y (op_assign rfl rfl) rfl rfl rfl ?_
  refine J.nil ?_
  refine J.then_n (J.k hK1 ?_)
  refine J.keepE [] trivial ?_
  refine J.seq (fun K2 hK2 => ?_)
  refine J.region ?_
  refine J.e (op_call rfl rfl ent30 (of_ct F hK [115, 101, 101, 100] (by decide) 1 5 3 (by decide) (by decide) (by decide) (by decide) 3 l st hw)) rfl rfl rfl ?_
  intro g6 _
  change J _ _ _ [F, blk g6 (l.map fun x => I x) 3] _
  refine J.y (op_move rfl rfl) rfl rfl rfl ?_
  refine J.y (op_extract rfl rfl rfl) rfl rfl rfl ?_
  refine J.y (op_extract rfl rfl rfl) rfl rfl rfl ?_
  refine J.y (op_assign rfl rfl) rfl rfl rfl ?_
  refine J.y (op_assign rfl rfl) rfl rfl rfl ?_
  refine J.nil ?_
  refine J.then_n (J.k hK2 ?_)
  refine J.keepE [(1, _), (2, _)] ⟨rfl, rfl, trivial⟩ ?_
  refine J.seq (fun K3 hK3 => ?_)
  refine J.region ?_
  refine J.e (op_buildSlice (l := [.const ((Value.int IntKind.i64 7)), .const ((Value.int IntKind.i64 4))]) (xs := [[I 7], [I 4]]) rfl rfl rfl rfl Tryd.underlying50 el3 rfl (by decide) (by decide) (by simp)) rfl rfl rfl ?_
  intro g10 _
  change J _ _ _ [F, blk g6 (l.map fun x => I x) 3, blk g10 [I 7, I 4] 3] _
  refine J.e (op_call rfl rfl ent32 (Ct.use0 (fun F' hF => slot_ct F' (some ⟨g10, 0, none⟩) 2 2 [7, 4] (((row_blk (q := True) (xs := intsV [7, 4]) rfl (by simp [intsV])).sl (m := blk g10 [I 7, I 4] 3)).mono (hF _ (by simp))) 4 (by decide)))) rfl rfl rfl ?_
  intro g11 _
  refine J.y (op_move rfl rfl) rfl rfl rfl ?_
  refine J.y (op_extract rfl rfl rfl) rfl rfl rfl ?_
  refine J.y (op_extract rfl rfl rfl) rfl rfl rfl ?_
  refine J.y (op_assign rfl rfl) rfl rfl rfl ?_
  refine J.y (op_assign rfl rfl) rfl rfl rfl ?_
  refine J.nil ?_
  refine J.then_n (J.k hK3 ?_)
  refine J.keepE [(1, _), (2, _), (3, _), (4, _)] ⟨rfl, rfl, rfl, rfl, trivial⟩ ?_
  refine J.seq (fun K4 hK4 => ?_)
  refine J.region ?_
  refine J.y (op_move rfl rfl) rfl rfl rfl ?_
  refine J.y ((op_eql rfl rfl rfl).as (v' := .bool true) (congrArg Value.bool (decide_eq_true rfl))) rfl rfl rfl ?_
  refine J.y (op_move rfl rfl) rfl rfl rfl ?_
  refine J.yg (Wan.is rfl rfl rfl rfl rfl) (op_move rfl rfl) rfl rfl ?_
  refine J.yg (Wan.is rfl rfl rfl rfl rfl) (op_len Tryd.underlying50 rfl rfl) rfl rfl ?_
  refine J.yg (Wan.is rfl rfl rfl rfl rfl) ((op_eql rfl rfl rfl).as (v' := .bool true) (congrArg Value.bool (decide_eq_true rfl))) rfl rfl ?_
  refine J.y (op_pickT rfl rfl rfl) rfl rfl rfl ?_
  refine J.y (op_move rfl rfl) rfl rfl rfl ?_
  refine J.yg (Wan.is rfl rfl rfl rfl rfl) ((op_move rfl rfl).as (v' := .bool true) rfl) rfl rfl ?_
  refine J.y (op_pickT rfl rfl rfl) rfl rfl rfl ?_
  refine J.y (op_move rfl rfl) rfl rfl rfl ?_
  refine J.yg (Wan.is rfl rfl rfl rfl rfl) (op_move rfl rfl) rfl rfl ?_
  refine J.yg (Wan.is rfl rfl rfl rfl rfl) ((op_eql rfl rfl rfl).as (v' := .bool true) (congrArg Value.bool (decide_eq_true rfl))) rfl rfl ?_
  refine J.y (op_pickT rfl rfl rfl) rfl rfl rfl ?_
  refine J.y (op_move rfl rfl) rfl rfl rfl ?_
  refine J.eg (Wan.is rfl rfl rfl rfl rfl) (op_call rfl rfl ent33 (Ct.use0 (fun F' _ => needed_ct F' 4 1 (by decide) (by decide)))) rfl rfl ?_
  intro g29 _
  refine J.yg (Wan.is rfl rfl rfl rfl rfl) ((op_eql rfl rfl rfl).as (v' := .bool true) (congrArg Value.bool (decide_eq_true rfl))) rfl rfl ?_
  refine J.y (op_pickT rfl rfl rfl) rfl rfl rfl ?_
  refine J.y (op_assign rfl rfl) rfl rfl rfl ?_
  refine J.nil ?_
  refine J.then_n (J.k hK4 ?_)
  refine J.keepE [(0, _)] ⟨rfl, trivial⟩ ?_
  refine J.ret ?_
  exact J.done (fun _ _ h => h) (res1 rfl rfl) (retOk () rfl trivial [0] rfl (by decide))

theorem choose_ct (F : Hp) (w q : Nat) (hw : w ≤ 64) (hq : q ≤ w) (bits : UInt64) :
    Ct Tryd.prog 34 [I w, I q, W64 bits] [F] (fun x : Nat × List Bool => .slice (some ⟨x.1, 0, none⟩) w w) (fun x => x.2.length = w ∧ Wm.cnt x.2 = q) (fun x => [F, blk x.1 (x.2.map Value.bool) 4]) := by
  refine Ct.walk Tryd.func34 rfl Tryd.ntmps34 rfl (fun w0 => ?_)
  change J _ [(0, _), (1, _), (2, _)] _ _ _
  refine J.seq (fun K1 hK1 => ?_)
  refine J.region ?_
  refine J.y (op_assign rfl rfl) rfl rfl rfl ?_
  refine J.nil ?_
  refine J.then_n (J.k hK1 ?_)
  refine J.keepE [(0, _), (1, _), (2, _)] ⟨rfl, rfl, rfl, trivial⟩ ?_
  refine J.seq (fun K2 hK2 => ?_)
  refine J.region ?_
  refine J.y (op_move rfl rfl) rfl rfl rfl ?_
  refine J.e (op_makeSlice (n' := w) rfl rfl Tryd.underlying59 el4 (by omega) (by omega)) rfl rfl rfl ?_
  intro g12 _
  change J _ _ _ [F, blk g12 (List.replicate w [Value.bool false]).flatten 4] _
  refine J.y (op_assign rfl rfl) rfl rfl rfl ?_
  refine J.nil ?_
  refine J.then_n (J.k hK2 ?_)
  refine J.keepE [(0, _), (1, _), (2, _), (7, _)] ⟨rfl, rfl, rfl, rfl, trivial⟩ ?_
  refine J.seq (fun K3 hK3 => ?_)
  refine J.region ?_
  refine J.y (op_assign rfl rfl) rfl rfl rfl ?_
  refine J.nil ?_
  refine J.then_n (J.k hK3 ?_)
  refine J.keepE [(0, _), (1, _), (2, _), (7, _), (8, _)] ⟨rfl, rfl, rfl, rfl, rfl, trivial⟩ ?_
  refine J.seq (fun K4 hK4 => ?_)
  refine J.seq (fun K5 hK5 => ?_)
  refine J.region ?_
  refine J.y (op_assign rfl rfl) rfl rfl rfl ?_
  refine J.nil ?_
  refine J.then_n (J.k hK5 ?_)
  refine J.keepE [(0, _), (1, _), (2, _), (7, _), (8, _), (9, _)] ⟨rfl, rfl, rfl, rfl, rfl, rfl, trivial⟩ ?_
  refine J.block ?_
  refine J.loop (X := Nat × Nat × List Bool) (fun x => [(0, I w), (1, I q), (2, W64 bits), (7, .slice (some ⟨g12, 0, none⟩) w w), (8, I x.2.1), (9, I x.1)]) (fun x => [F, blk g12 (x.2.2.map Value.bool) 4]) (fun x => x.1 ≤ w ∧ x.2.2.length = w ∧ Wm.cnt x.2.2 = x.2.1 ∧ x.2.1 ≤ q ∧ ∀ j, x.1 ≤ j → j < w → x.2.2[j]? = some false) (fun x => w - x.1) (0, 0, List.replicate w false) (⟨Nat.zero_le _, by simp, Wm.cnt_rep w, Nat.zero_le _, fun j _ hj => by rw [List.getElem?_replicate, if_pos hj]⟩) ⟨rfl, rfl, rfl, rfl, rfl, rfl, trivial⟩ (fun _ h => by rw [← Wm.start]; exact h) ?_
  rintro ⟨i, n, l⟩ ⟨hi, hll, hcn, hn, hfa⟩ I0 hI0
  dsimp only at hi hll hcn hn hfa ⊢
  refine J.seq (fun K6 hK6 => ?_)
  refine J.seq (fun K7 hK7 => ?_)
  refine J.region ?_
  refine J.y (op_move rfl rfl) rfl rfl rfl ?_
  refine J.y (op_move rfl rfl) rfl rfl rfl ?_
  refine J.y (op_lss rfl rfl rfl) rfl rfl rfl ?_
  refine J.y (op_move rfl rfl) rfl rfl rfl ?_
  refine J.split (d := 16) rfl (fun h16 => ?_) (fun h16 => ?_)
  ·
    refine J.yg (Wan.is rfl rfl rfl rfl rfl) (op_move rfl rfl) rfl rfl ?_
    refine J.yg (Wan.is rfl rfl rfl rfl rfl) (op_move rfl rfl) rfl rfl ?_
    refine J.yg (Wan.is rfl rfl rfl rfl rfl) (op_lss rfl rfl rfl) rfl rfl ?_
    refine J.y (op_pickT rfl rfl rfl) rfl rfl rfl ?_
    refine J.nil ?_
    refine J.then_n (J.k hK7 ?_)
    refine J.keepE [(0, _), (1, _), (2, _), (7, _), (8, _), (9, _), (20, _)] ⟨rfl, rfl, rfl, rfl, rfl, rfl, rfl, trivial⟩ ?_
    refine J.ite rfl (fun h20 => ?_) (fun h20 => ?_)
    ·
      refine J.skip ?_
      refine J.then_n (J.k hK6 ?_)
      refine J.keepE [(0, _), (1, _), (2, _), (7, _), (8, _), (9, _)] ⟨rfl, rfl, rfl, rfl, rfl, rfl, trivial⟩ ?_
      refine J.seq (fun K8 hK8 => ?_)
      refine J.block ?_
      refine J.seq (fun K9 hK9 => ?_)
      have hiw : i < w := by omega
      have hnq : n < q := by omega
      refine J.region ?_
      refine J.y (op_move rfl rfl) rfl rfl rfl ?_
      refine J.y (op_move rfl rfl) rfl rfl rfl ?_
      refine J.y (op_shr64 (m := i) rfl rfl rfl) rfl rfl rfl ?_
      refine J.y (op_and64 (b := 1) rfl rfl rfl) rfl rfl rfl ?_
      refine J.y (op_eql rfl rfl rfl) rfl rfl rfl ?_
      refine J.nil ?_
      refine J.then_n (J.k hK9 ?_)
      refine J.keepE [(0, _), (1, _), (2, _), (7, _), (8, _), (9, _), (27, _)] ⟨rfl, rfl, rfl, rfl, rfl, rfl, rfl, trivial⟩ ?_
      refine J.ite rfl (fun h27 => ?_) (fun h27 => ?_)
      ·
        refine J.seq (fun K10 hK10 => ?_)
        refine J.region ?_
        refine J.y (op_move rfl rfl) rfl rfl rfl ?_
        refine J.y (op_move rfl rfl) rfl rfl rfl ?_
        refine J.y (op_indexAddrS (i := i) (j := i) (sz := 1) rfl rfl rfl Tryd.underlying59 Tryd.sizeOf4 (by omega) (by omega)) rfl rfl rfl ?_
        refine J.s (op_store (i := 1) (vs := [.bool true]) rfl rfl rfl rfl rfl Tryd.sizeOf4 rfl (by show i + 1 ≤ (l.map Value.bool).length; rw [List.length_map]; omega)) rfl rfl (fun _ _ => ?_)
        change J _ _ _ [F, blk g12 (setAt (l.map Value.bool) i [.bool true]) 4] _
        refine J.nil ?_
        refine J.then_n (J.k hK10 ?_)
        refine J.keepE [(0, _), (1, _), (2, _), (7, _), (8, _), (9, _)] ⟨rfl, rfl, rfl, rfl, rfl, rfl, trivial⟩ ?_
        refine J.region ?_
        refine J.y (op_move rfl rfl) rfl rfl rfl ?_
        refine J.y (op_add rfl rfl rfl (by omega)) rfl rfl rfl ?_
        refine J.y (op_assign rfl rfl) rfl rfl rfl ?_
        refine J.nil ?_
        refine J.blk_n ?_
        refine J.then_n (J.k hK8 ?_)
        refine J.keepE [(0, _), (1, _), (2, _), (7, _), (8, _), (9, _)] ⟨rfl, rfl, rfl, rfl, rfl, rfl, trivial⟩ ?_
        refine J.region ?_
        refine J.y (op_move rfl rfl) rfl rfl rfl ?_
        refine J.y (op_add rfl rfl rfl (by omega)) rfl rfl rfl ?_
        refine J.y (op_assign rfl rfl) rfl rfl rfl ?_
        refine J.nil ?_
        refine J.then_n ?_
        rw [Wm.setAt_bools l i true (by omega)]
        exact J.kk (i + 1, n + 1, l.set i true) (fun x (hx : _ ∧ w - x.1 < w - i) => hI0 x hx.1 hx.2) ⟨⟨by dsimp only; omega, by dsimp only; rw [List.length_set]; exact hll, by dsimp only; rw [Wm.cnt_set l i (hfa i (Nat.le_refl _) hiw), hcn], by dsimp only; omega, fun j hj hjw => by dsimp only at hj ⊢; rw [List.getElem?_set_ne (by omega)]; exact hfa j (by omega) hjw⟩, by dsimp only; omega⟩ ⟨rfl, rfl, rfl, rfl, rfl, rfl, trivial⟩ (fun _ h => h)
      ·
        refine J.skip ?_
        refine J.blk_n ?_
        refine J.then_n (J.k hK8 ?_)
        refine J.keepE [(0, _), (1, _), (2, _), (7, _), (8, _), (9, _)] ⟨rfl, rfl, rfl, rfl, rfl, rfl, trivial⟩ ?_
        refine J.region ?_
        refine J.y (op_move rfl rfl) rfl rfl rfl ?_
        refine J.y (op_add rfl rfl rfl (by omega)) rfl rfl rfl ?_
        refine J.y (op_assign rfl rfl) rfl rfl rfl ?_
        refine J.nil ?_
        refine J.then_n ?_
        exact J.kk (i + 1, n, l) (fun x (hx : _ ∧ w - x.1 < w - i) => hI0 x hx.1 hx.2) ⟨⟨by dsimp only; omega, hll, hcn, hn, fun j hj hjw => hfa j (by dsimp only at hj; omega) hjw⟩, by dsimp only; omega⟩ ⟨rfl, rfl, rfl, rfl, rfl, rfl, trivial⟩ (fun _ h => h)
    ·
      refine J.exit ?_
      refine J.then_x ?_
      refine J.then_x ?_
      refine J.blk_eq ?_
      refine J.then_n (J.k hK4 ?_)
      refine J.keepE [(0, _), (1, _), (7, _), (8, _)] ⟨rfl, rfl, rfl, rfl, trivial⟩ ?_
      refine J.seq (fun K11 hK11 => ?_)
      refine J.seq (fun K12 hK12 => ?_)
      refine J.region ?_
      refine J.y (op_assign rfl rfl) rfl rfl rfl ?_
      refine J.nil ?_
      refine J.then_n (J.k hK12 ?_)
      refine J.keepE [(0, _), (1, _), (7, _), (8, _), (10, _)] ⟨rfl, rfl, rfl, rfl, rfl, trivial⟩ ?_
      refine J.block ?_
      refine J.loop (X := Nat × Nat × List Bool) (fun x => [(0, I w), (1, I q), (7, .slice (some ⟨g12, 0, none⟩) w w), (8, I x.2.1), (10, I x.1)]) (fun x => [F, blk g12 (x.2.2.map Value.bool) 4]) (fun x => x.1 ≤ w ∧ x.2.2.length = w ∧ Wm.cnt x.2.2 = x.2.1 ∧ x.2.1 ≤ q ∧ ∀ j, j < x.1 → x.2.2[j]? = some true) (fun x => w - x.1) (0, n, l) (⟨Nat.zero_le _, hll, hcn, hn, fun j hj => absurd hj (Nat.not_lt_zero j)⟩) ⟨rfl, rfl, rfl, rfl, rfl, trivial⟩ (fun _ h => h) ?_
      clear hfa hi
      rintro ⟨i, n, l⟩ ⟨hi, hll, hcn, hn, hall⟩ I2 hI2
      dsimp only at hi hll hcn hn hall ⊢
      refine J.seq (fun K13 hK13 => ?_)
      refine J.seq (fun K14 hK14 => ?_)
      refine J.region ?_
      refine J.y (op_move rfl rfl) rfl rfl rfl ?_
      refine J.y (op_move rfl rfl) rfl rfl rfl ?_
      refine J.y (op_lss rfl rfl rfl) rfl rfl rfl ?_
      refine J.y (op_move rfl rfl) rfl rfl rfl ?_
      refine J.split (d := 36) rfl (fun h36 => ?_) (fun h36 => ?_)
      ·
        refine J.yg (Wan.is rfl rfl rfl rfl rfl) (op_move rfl rfl) rfl rfl ?_
        refine J.yg (Wan.is rfl rfl rfl rfl rfl) (op_move rfl rfl) rfl rfl ?_
        refine J.yg (Wan.is rfl rfl rfl rfl rfl) (op_lss rfl rfl rfl) rfl rfl ?_
        refine J.y (op_pickT rfl rfl rfl) rfl rfl rfl ?_
        refine J.nil ?_
        refine J.then_n (J.k hK14 ?_)
        refine J.keepE [(0, _), (1, _), (7, _), (8, _), (10, _), (40, _)] ⟨rfl, rfl, rfl, rfl, rfl, rfl, trivial⟩ ?_
        refine J.ite rfl (fun h40 => ?_) (fun h40 => ?_)
        ·
          refine J.skip ?_
          refine J.then_n (J.k hK13 ?_)
          refine J.keepE [(0, _), (1, _), (7, _), (8, _), (10, _)] ⟨rfl, rfl, rfl, rfl, rfl, trivial⟩ ?_
          refine J.seq (fun K15 hK15 => ?_)
          refine J.block ?_
          refine J.seq (fun K16 hK16 => ?_)
          have hiw : i < w := by omega
          have hnq : n < q := by omega
          refine J.region ?_
          refine J.y (op_move rfl rfl) rfl rfl rfl ?_
          refine J.y (op_move rfl rfl) rfl rfl rfl ?_
          refine J.y (op_indexAddrS (i := i) (j := i) (sz := 1) rfl rfl rfl Tryd.underlying59 Tryd.sizeOf4 (by omega) (by omega)) rfl rfl rfl ?_
          refine J.y ((op_loadB 1 rfl rfl rfl Tryd.isAgg4 (Wm.getB' (l := l) (j := i) (by omega))).as (v' := .bool (decide (l.getD i false = true))) (congrArg Value.bool (by simp))) rfl rfl rfl ?_
          refine J.y (op_notD rfl rfl) rfl rfl rfl ?_
          refine J.nil ?_
          refine J.then_n (J.k hK16 ?_)
          refine J.keepE [(0, _), (1, _), (7, _), (8, _), (10, _), (47, _)] ⟨rfl, rfl, rfl, rfl, rfl, rfl, trivial⟩ ?_
          refine J.ite rfl (fun h47 => ?_) (fun h47 => ?_)
          ·
            refine J.seq (fun K17 hK17 => ?_)
            refine J.region ?_
            refine J.y (op_move rfl rfl) rfl rfl rfl ?_
            refine J.y (op_move rfl rfl) rfl rfl rfl ?_
            refine J.y (op_indexAddrS (i := i) (j := i) (sz := 1) rfl rfl rfl Tryd.underlying59 Tryd.sizeOf4 (by omega) (by omega)) rfl rfl rfl ?_
            refine J.s (op_store (i := 1) (vs := [.bool true]) rfl rfl rfl rfl rfl Tryd.sizeOf4 rfl (by show i + 1 ≤ (l.map Value.bool).length; rw [List.length_map]; omega)) rfl rfl (fun _ _ => ?_)
            change J _ _ _ [F, blk g12 (setAt (l.map Value.bool) i [.bool true]) 4] _
            refine J.nil ?_
            refine J.then_n (J.k hK17 ?_)
            refine J.keepE [(0, _), (1, _), (7, _), (8, _), (10, _)] ⟨rfl, rfl, rfl, rfl, rfl, trivial⟩ ?_
            refine J.region ?_
            refine J.y (op_move rfl rfl) rfl rfl rfl ?_
            refine J.y (op_add rfl rfl rfl (by omega)) rfl rfl rfl ?_
            refine J.y (op_assign rfl rfl) rfl rfl rfl ?_
            refine J.nil ?_
            refine J.blk_n ?_
            refine J.then_n (J.k hK15 ?_)
            refine J.keepE [(0, _), (1, _), (7, _), (8, _), (10, _)] ⟨rfl, rfl, rfl, rfl, rfl, trivial⟩ ?_
            refine J.region ?_
            refine J.y (op_move rfl rfl) rfl rfl rfl ?_
            refine J.y (op_add rfl rfl rfl (by omega)) rfl rfl rfl ?_
            refine J.y (op_assign rfl rfl) rfl rfl rfl ?_
            refine J.nil ?_
            refine J.then_n ?_
            rw [Wm.setAt_bools l i true (by omega)]
            have hf : l[i]? = some false := by rw [Wm.getL (l := l) (j := i) (by omega)]; exact congrArg some (by simpa using h47)
            exact J.kk (i + 1, n + 1, l.set i true) (fun x (hx : _ ∧ w - x.1 < w - i) => hI2 x hx.1 hx.2) ⟨⟨by dsimp only; omega, by dsimp only; rw [List.length_set]; exact hll, by dsimp only; rw [Wm.cnt_set l i hf, hcn], by dsimp only; omega, fun j hj => by
              dsimp only at hj ⊢
              by_cases e : j = i
              · subst e; rw [List.getElem?_set_self (by omega)]
              · rw [List.getElem?_set_ne (by omega)]; exact hall j (by omega)⟩, by dsimp only; omega⟩ ⟨rfl, rfl, rfl, rfl, rfl, trivial⟩ (fun _ h => h)
          ·
            refine J.skip ?_
            refine J.blk_n ?_
            refine J.then_n (J.k hK15 ?_)
            refine J.keepE [(0, _), (1, _), (7, _), (8, _), (10, _)] ⟨rfl, rfl, rfl, rfl, rfl, trivial⟩ ?_
            refine J.region ?_
            refine J.y (op_move rfl rfl) rfl rfl rfl ?_
            refine J.y (op_add rfl rfl rfl (by omega)) rfl rfl rfl ?_
            refine J.y (op_assign rfl rfl) rfl rfl rfl ?_
            refine J.nil ?_
            refine J.then_n ?_
            have ht : l[i]? = some true := by rw [Wm.getL (l := l) (j := i) (by omega)]; exact congrArg some (by simpa using h47)
            exact J.kk (i + 1, n, l) (fun x (hx : _ ∧ w - x.1 < w - i) => hI2 x hx.1 hx.2) ⟨⟨by dsimp only; omega, hll, hcn, hn, fun j hj => by
              dsimp only at hj
              by_cases e : j = i
              · subst e; exact ht
              · exact hall j (by omega)⟩, by dsimp only; omega⟩ ⟨rfl, rfl, rfl, rfl, rfl, trivial⟩ (fun _ h => h)
        ·
          refine J.exit ?_
          refine J.then_x ?_
          refine J.then_x ?_
          refine J.blk_eq ?_
          refine J.then_n (J.k hK11 ?_)
          refine J.keepE [(7, _)] ⟨rfl, trivial⟩ ?_
          refine J.seq (fun K18 hK18 => ?_)
          refine J.region ?_
          refine J.y (op_move rfl rfl) rfl rfl rfl ?_
          refine J.y (op_assign rfl rfl) rfl rfl rfl ?_
          refine J.nil ?_
          refine J.then_n (J.k hK18 ?_)
          refine J.keepE [(6, _)] ⟨rfl, trivial⟩ ?_
          refine J.ret ?_
          have hfin : n = q := by
            rcases Nat.lt_or_ge n q with h | h
            · have hiw : i = w := by omega
              subst hiw
              have := Wm.cnt_all l (fun j hj => hall j (by omega))
              omega
            · omega
          exact J.done (fun _ _ h => h) (res1 rfl rfl) (retOk (g12, l) rfl ⟨hll, hcn.trans hfin⟩ [0, 1] rfl (by decide))
      ·
        refine J.no (Wan.is rfl rfl rfl rfl rfl) rfl rfl ?_
        refine J.no (Wan.is rfl rfl rfl rfl rfl) rfl rfl ?_
        refine J.no (Wan.is rfl rfl rfl rfl rfl) rfl rfl ?_
        refine J.y (op_pickF rfl rfl rfl) rfl rfl rfl ?_
        refine J.nil ?_
        refine J.then_n (J.k hK14 ?_)
        refine J.keepE [(0, _), (1, _), (7, _), (8, _), (10, _), (40, _)] ⟨rfl, rfl, rfl, rfl, rfl, rfl, trivial⟩ ?_
        refine J.condF rfl rfl ?_
        refine J.exit ?_
        refine J.then_x ?_
        refine J.then_x ?_
        refine J.blk_eq ?_
        refine J.then_n (J.k hK11 ?_)
        refine J.keepE [(7, _)] ⟨rfl, trivial⟩ ?_
        refine J.seq (fun K19 hK19 => ?_)
        refine J.region ?_
        refine J.y (op_move rfl rfl) rfl rfl rfl ?_
        refine J.y (op_assign rfl rfl) rfl rfl rfl ?_
        refine J.nil ?_
        refine J.then_n (J.k hK19 ?_)
        refine J.keepE [(6, _)] ⟨rfl, trivial⟩ ?_
        refine J.ret ?_
        have hfin : n = q := by
          rcases Nat.lt_or_ge n q with h | h
          · have hiw : i = w := by omega
            subst hiw
            have := Wm.cnt_all l (fun j hj => hall j (by omega))
            omega
          · omega
        exact J.done (fun _ _ h => h) (res1 rfl rfl) (retOk (g12, l) rfl ⟨hll, hcn.trans hfin⟩ [0, 1] rfl (by decide))
  ·
    refine J.no (Wan.is rfl rfl rfl rfl rfl) rfl rfl ?_
    refine J.no (Wan.is rfl rfl rfl rfl rfl) rfl rfl ?_
    refine J.no (Wan.is rfl rfl rfl rfl rfl) rfl rfl ?_
    refine J.y (op_pickF rfl rfl rfl) rfl rfl rfl ?_
    refine J.nil ?_
    refine J.then_n (J.k hK7 ?_)
    refine J.keepE [(0, _), (1, _), (2, _), (7, _), (8, _), (9, _), (20, _)] ⟨rfl, rfl, rfl, rfl, rfl, rfl, rfl, trivial⟩ ?_
    refine J.condF rfl rfl ?_
    refine J.exit ?_
    refine J.then_x ?_
    refine J.then_x ?_
    refine J.blk_eq ?_
    refine J.then_n (J.k hK4 ?_)
    refine J.keepE [(0, _), (1, _), (7, _), (8, _)] ⟨rfl, rfl, rfl, rfl, trivial⟩ ?_
    refine J.seq (fun K20 hK20 => ?_)
    refine J.seq (fun K21 hK21 => ?_)
    refine J.region ?_
    refine J.y (op_assign rfl rfl) rfl rfl rfl ?_
    refine J.nil ?_
    refine J.then_n (J.k hK21 ?_)
    refine J.keepE [(0, _), (1, _), (7, _), (8, _), (10, _)] ⟨rfl, rfl, rfl, rfl, rfl, trivial⟩ ?_
    refine J.block ?_
    refine J.loop (X := Nat × Nat × List Bool) (fun x => [(0, I w), (1, I q), (7, .slice (some ⟨g12, 0, none⟩) w w), (8, I x.2.1), (10, I x.1)]) (fun x => [F, blk g12 (x.2.2.map Value.bool) 4]) (fun x => x.1 ≤ w ∧ x.2.2.length = w ∧ Wm.cnt x.2.2 = x.2.1 ∧ x.2.1 ≤ q ∧ ∀ j, j < x.1 → x.2.2[j]? = some true) (fun x => w - x.1) (0, n, l) (⟨Nat.zero_le _, hll, hcn, hn, fun j hj => absurd hj (Nat.not_lt_zero j)⟩) ⟨rfl, rfl, rfl, rfl, rfl, trivial⟩ (fun _ h => h) ?_
    clear hfa hi
    rintro ⟨i, n, l⟩ ⟨hi, hll, hcn, hn, hall⟩ I2 hI2
    dsimp only at hi hll hcn hn hall ⊢
    refine J.seq (fun K22 hK22 => ?_)
    refine J.seq (fun K23 hK23 => ?_)
    refine J.region ?_
    refine J.y (op_move rfl rfl) rfl rfl rfl ?_
    refine J.y (op_move rfl rfl) rfl rfl rfl ?_
    refine J.y (op_lss rfl rfl rfl) rfl rfl rfl ?_
    refine J.y (op_move rfl rfl) rfl rfl rfl ?_
    refine J.split (d := 36) rfl (fun h36 => ?_) (fun h36 => ?_)
    ·
      refine J.yg (Wan.is rfl rfl rfl rfl rfl) (op_move rfl rfl) rfl rfl ?_
      refine J.yg (Wan.is rfl rfl rfl rfl rfl) (op_move rfl rfl) rfl rfl ?_
      refine J.yg (Wan.is rfl rfl rfl rfl rfl) (op_lss rfl rfl rfl) rfl rfl ?_
      refine J.y (op_pickT rfl rfl rfl) rfl rfl rfl ?_
      refine J.nil ?_
      refine J.then_n (J.k hK23 ?_)
      refine J.keepE [(0, _), (1, _), (7, _), (8, _), (10, _), (40, _)] ⟨rfl, rfl, rfl, rfl, rfl, rfl, trivial⟩ ?_
      refine J.ite rfl (fun h40 => ?_) (fun h40 => ?_)
      ·
        refine J.skip ?_
        refine J.then_n (J.k hK22 ?_)
        refine J.keepE [(0, _), (1, _), (7, _), (8, _), (10, _)] ⟨rfl, rfl, rfl, rfl, rfl, trivial⟩ ?_
        refine J.seq (fun K24 hK24 => ?_)
        refine J.block ?_
        refine J.seq (fun K25 hK25 => ?_)
        have hiw : i < w := by omega
        have hnq : n < q := by omega
        refine J.region ?_
        refine J.y (op_move rfl rfl) rfl rfl rfl ?_
        refine J.y (op_move rfl rfl) rfl rfl rfl ?_
        refine J.y (op_indexAddrS (i := i) (j := i) (sz := 1) rfl rfl rfl Tryd.underlying59 Tryd.sizeOf4 (by omega) (by omega)) rfl rfl rfl ?_
        refine J.y ((op_loadB 1 rfl rfl rfl Tryd.isAgg4 (Wm.getB' (l := l) (j := i) (by omega))).as (v' := .bool (decide (l.getD i false = true))) (congrArg Value.bool (by simp))) rfl rfl rfl ?_
        refine J.y (op_notD rfl rfl) rfl rfl rfl ?_
        refine J.nil ?_
        refine J.then_n (J.k hK25 ?_)
        refine J.keepE [(0, _), (1, _), (7, _), (8, _), (10, _), (47, _)] ⟨rfl, rfl, rfl, rfl, rfl, rfl, trivial⟩ ?_
        refine J.ite rfl (fun h47 => ?_) (fun h47 => ?_)
        ·
          refine J.seq (fun K26 hK26 => ?_)
          refine J.region ?_
          refine J.y (op_move rfl rfl) rfl rfl rfl ?_
          refine J.y (op_move rfl rfl) rfl rfl rfl ?_
          refine J.y (op_indexAddrS (i := i) (j := i) (sz := 1) rfl rfl rfl Tryd.underlying59 Tryd.sizeOf4 (by omega) (by omega)) rfl rfl rfl ?_
          refine J.s (op_store (i := 1) (vs := [.bool true]) rfl rfl rfl rfl rfl Tryd.sizeOf4 rfl (by show i + 1 ≤ (l.map Value.bool).length; rw [List.length_map]; omega)) rfl rfl (fun _ _ => ?_)
          change J _ _ _ [F, blk g12 (setAt (l.map Value.bool) i [.bool true]) 4] _
          refine J.nil ?_
          refine J.then_n (J.k hK26 ?_)
          refine J.keepE [(0, _), (1, _), (7, _), (8, _), (10, _)] ⟨rfl, rfl, rfl, rfl, rfl, trivial⟩ ?_
          refine J.region ?_
          refine J.y (op_move rfl rfl) rfl rfl rfl ?_
          refine J.y (op_add rfl rfl rfl (by omega)) rfl rfl rfl ?_
          refine J.y (op_assign rfl rfl) rfl rfl rfl ?_
          refine J.nil ?_
          refine J.blk_n ?_
          refine J.then_n (J.k hK24 ?_)
          refine J.keepE [(0, _), (1, _), (7, _), (8, _), (10, _)] ⟨rfl, rfl, rfl, rfl, rfl, trivial⟩ ?_
          refine J.region ?_
          refine J.y (op_move rfl rfl) rfl rfl rfl ?_
          refine J.y (op_add rfl rfl rfl (by omega)) rfl rfl rfl ?_
          refine J.y (op_assign rfl rfl) rfl rfl rfl ?_
          refine J.nil ?_
          refine J.then_n ?_
          rw [Wm.setAt_bools l i true (by omega)]
          have hf : l[i]? = some false := by rw [Wm.getL (l := l) (j := i) (by omega)]; exact congrArg some (by simpa using h47)
          exact J.kk (i + 1, n + 1, l.set i true) (fun x (hx : _ ∧ w - x.1 < w - i) => hI2 x hx.1 hx.2) ⟨⟨by dsimp only; omega, by dsimp only; rw [List.length_set]; exact hll, by dsimp only; rw [Wm.cnt_set l i hf, hcn], by dsimp only; omega, fun j hj => by
            dsimp only at hj ⊢
            by_cases e : j = i
            · subst e; rw [List.getElem?_set_self (by omega)]
            · rw [List.getElem?_set_ne (by omega)]; exact hall j (by omega)⟩, by dsimp only; omega⟩ ⟨rfl, rfl, rfl, rfl, rfl, trivial⟩ (fun _ h => h)
        ·
          refine J.skip ?_
          refine J.blk_n ?_
          refine J.then_n (J.k hK24 ?_)
          refine J.keepE [(0, _), (1, _), (7, _), (8, _), (10, _)] ⟨rfl, rfl, rfl, rfl, rfl, trivial⟩ ?_
          refine J.region ?_
          refine J.y (op_move rfl rfl) rfl rfl rfl ?_
          refine J.y (op_add rfl rfl rfl (by omega)) rfl rfl rfl ?_
          refine J.y (op_assign rfl rfl) rfl rfl rfl ?_
          refine J.nil ?_
          refine J.then_n ?_
          have ht : l[i]? = some true := by rw [Wm.getL (l := l) (j := i) (by omega)]; exact congrArg some (by simpa using h47)
          exact J.kk (i + 1, n, l) (fun x (hx : _ ∧ w - x.1 < w - i) => hI2 x hx.1 hx.2) ⟨⟨by dsimp only; omega, hll, hcn, hn, fun j hj => by
            dsimp only at hj
            by_cases e : j = i
            · subst e; exact ht
            · exact hall j (by omega)⟩, by dsimp only; omega⟩ ⟨rfl, rfl, rfl, rfl, rfl, trivial⟩ (fun _ h => h)
      ·
        refine J.exit ?_
        refine J.then_x ?_
        refine J.then_x ?_
        refine J.blk_eq ?_
        refine J.then_n (J.k hK20 ?_)
        refine J.keepE [(7, _)] ⟨rfl, trivial⟩ ?_
        refine J.seq (fun K27 hK27 => ?_)
        refine J.region ?_
        refine J.y (op_move rfl rfl) rfl rfl rfl ?_
        refine J.y (op_assign rfl rfl) rfl rfl rfl ?_
        refine J.nil ?_
        refine J.then_n (J.k hK27 ?_)
        refine J.keepE [(6, _)] ⟨rfl, trivial⟩ ?_
        refine J.ret ?_
        have hfin : n = q := by
          rcases Nat.lt_or_ge n q with h | h
          · have hiw : i = w := by omega
            subst hiw
            have := Wm.cnt_all l (fun j hj => hall j (by omega))
            omega
          · omega
        exact J.done (fun _ _ h => h) (res1 rfl rfl) (retOk (g12, l) rfl ⟨hll, hcn.trans hfin⟩ [0, 1] rfl (by decide))
    ·
      refine J.no (Wan.is rfl rfl rfl rfl rfl) rfl rfl ?_
      refine J.no (Wan.is rfl rfl rfl rfl rfl) rfl rfl ?_
      refine J.no (Wan.is rfl rfl rfl rfl rfl) rfl rfl ?_
      refine J.y (op_pickF rfl rfl rfl) rfl rfl rfl ?_
      refine J.nil ?_
      refine J.then_n (J.k hK23 ?_)
      refine J.keepE [(0, _), (1, _), (7, _), (8, _), (10, _), (40, _)] ⟨rfl, rfl, rfl, rfl, rfl, rfl, trivial⟩ ?_
      refine J.condF rfl rfl ?_
      refine J.exit ?_
      refine J.then_x ?_
      refine J.then_x ?_
      refine J.blk_eq ?_
      refine J.then_n (J.k hK20 ?_)
      refine J.keepE [(7, _)] ⟨rfl, trivial⟩ ?_
      refine J.seq (fun K28 hK28 => ?_)
      refine J.region ?_
      refine J.y (op_move rfl rfl) rfl rfl rfl ?_
      refine J.y (op_assign rfl rfl) rfl rfl rfl ?_
      refine J.nil ?_
      refine J.then_n (J.k hK28 ?_)
      refine J.keepE [(6, _)] ⟨rfl, trivial⟩ ?_
      refine J.ret ?_
      have hfin : n = q := by
        rcases Nat.lt_or_ge n q with h | h
        · have hiw : i = w := by omega
          subst hiw
          have := Wm.cnt_all l (fun j hj => hall j (by omega))
          omega
        · omega
      exact J.done (fun _ _ h => h) (res1 rfl rfl) (retOk (g12, l) rfl ⟨hll, hcn.trans hfin⟩ [0, 1] rfl (by decide))

theorem meets_ct (F : Hp) (hK : Cells F ⟨0, 0, none⟩ (Sha.K.map W32)) (slots faulty : UInt8) (sa sb : UInt64) :
    Ct Tryd.prog 10 [B8 slots, B8 faulty, .agg #[W64 sa, W64 sb]] [F] (fun _ : Unit => .bool true) (fun _ => True) (fun _ => [F]) := by
  obtain ⟨w, hw⟩ : ∃ w, w = 1 + slots.toNat % 12 := ⟨_, rfl⟩
  obtain ⟨f, hf⟩ : ∃ f, f = faulty.toNat % (w + 1) := ⟨_, rfl⟩
  obtain ⟨q, hq⟩ : ∃ q, q = (w + f) / 2 + 1 := ⟨_, rfl⟩
  have hfw : f < w + 1 := by rw [hf]; exact Nat.mod_lt _ (by omega)
  have hw12 : w ≤ 12 := by omega
  have hs8 := slots.toNat_lt
  have hf8 := faulty.toNat_lt
  refine Ct.walk Tryd.func10 rfl Tryd.ntmps10 rfl (fun w0 => ?_)
  change J _ [(0, _), (1, _), (2, _)] _ _ _
  refine J.seq (fun K1 hK1 => ?_)
  refine J.region ?_
  refine J.e (op_box rfl rfl rfl) rfl rfl rfl ?_
  intro g5 _
  change J _ _ _ [F, blk g5 [W64 sa, W64 sb] 57] _
  refine J.y (op_assign rfl rfl) rfl rfl rfl ?_
  refine J.nil ?_
  refine J.then_n (J.k hK1 ?_)
  refine J.keepE [(0, _), (1, _), (5, _)] ⟨rfl, rfl, rfl, trivial⟩ ?_
  refine J.seq (fun K2 hK2 => ?_)
  refine J.seq (fun K3 hK3 => ?_)
  refine J.region ?_
  refine J.e (op_call rfl rfl ent29 (Ct.use0 (fun F' hF => speaks21_ct F' (hK.mono (hF _ (by simp)))))) rfl rfl rfl ?_
  intro g16 _
  refine J.y ((op_not rfl rfl).as (v' := .bool false) rfl) rfl rfl rfl ?_
  refine J.nil ?_
  refine J.then_n (J.k hK3 ?_)
  refine J.keepE [(0, _), (1, _), (5, _), (17, _)] ⟨rfl, rfl, rfl, rfl, trivial⟩ ?_
  refine J.condF rfl rfl ?_
  refine J.skip ?_
  refine J.then_n (J.k hK2 ?_)
  refine J.keepE [(0, _), (1, _), (5, _)] ⟨rfl, rfl, rfl, trivial⟩ ?_
  refine J.seq (fun K4 hK4 => ?_)
  refine J.draw [F, blk g5 [W64 sa, W64 sb] 57] [] [(0, true), (1, true), (2, true), (3, true), (4, true), (5, true)] Tryd.wide (by decide +kernel) (by simp) ?_
  refine J.dy rfl (op_indexAddrJ (i := 0) (j := 0) rfl rfl rfl Tryd.underlying57 Tryd.sizeOf34 (by decide) rfl) rfl rfl rfl rfl ?_
  refine J.dy rfl (op_loadB 1 rfl rfl rfl Tryd.isAgg34 rfl) rfl rfl rfl rfl ?_
  refine J.dy rfl (op_indexAddrJ (i := 1) (j := 1) rfl rfl rfl Tryd.underlying57 Tryd.sizeOf34 (by decide) rfl) rfl rfl rfl rfl ?_
  refine J.dy rfl (op_loadB 1 rfl rfl rfl Tryd.isAgg34 rfl) rfl rfl rfl rfl ?_
  refine J.dy rfl (op_assign rfl rfl) rfl rfl rfl rfl ?_
  refine J.dy rfl (op_assign rfl rfl) rfl rfl rfl rfl ?_
  refine J.dnil ?_
  refine J.then_n (J.k hK4 ?_)
  refine J.keepE [(0, _), (1, _), (7, _), (8, _)] ⟨rfl, rfl, rfl, rfl, trivial⟩ ?_
  refine J.seq (fun K5 hK5 => ?_)
  refine J.region ?_
  refine J.y (op_move rfl rfl) rfl rfl rfl ?_
  refine J.y (op_cv_u8_i64 rfl rfl Tryd.underlying5 Tryd.underlying3) rfl rfl rfl ?_
  refine J.y (op_rem rfl rfl rfl (by omega)) rfl rfl rfl ?_
  refine J.y ((op_add rfl rfl rfl (by omega)).as (v' := I w) (congrArg I (by omega))) rfl rfl rfl ?_
  refine J.y (op_assign rfl rfl) rfl rfl rfl ?_
  refine J.nil ?_
  refine J.then_n (J.k hK5 ?_)
  refine J.keepE [(1, _), (7, _), (8, _), (9, _)] ⟨rfl, rfl, rfl, rfl, trivial⟩ ?_
  refine J.seq (fun K6 hK6 => ?_)
  refine J.region ?_
  refine J.y (op_move rfl rfl) rfl rfl rfl ?_
  refine J.y (op_cv_u8_i64 rfl rfl Tryd.underlying5 Tryd.underlying3) rfl rfl rfl ?_
  refine J.y (op_move rfl rfl) rfl rfl rfl ?_
  refine J.y (op_add rfl rfl rfl (by omega)) rfl rfl rfl ?_
  refine J.y ((op_rem rfl rfl rfl (by omega)).as (v' := I f) (congrArg I (by rw [hf, Int.natCast_emod]; rfl))) rfl rfl rfl ?_
  refine J.y (op_assign rfl rfl) rfl rfl rfl ?_
  refine J.nil ?_
  refine J.then_n (J.k hK6 ?_)
  refine J.keepE [(7, _), (8, _), (9, _), (10, _)] ⟨rfl, rfl, rfl, rfl, trivial⟩ ?_
  refine J.seq (fun K7 hK7 => ?_)
  refine J.region ?_
  refine J.y (op_move rfl rfl) rfl rfl rfl ?_
  refine J.y (op_move rfl rfl) rfl rfl rfl ?_
  refine J.e (op_call rfl rfl ent33 (Ct.use0 (fun F' _ => needed_ct F' w f (by omega) (by omega)))) rfl rfl rfl ?_
  intro g33 _
  refine J.y ((op_assign rfl rfl).as (v' := I q) (by rw [hq])) rfl rfl rfl ?_
  refine J.nil ?_
  refine J.then_n (J.k hK7 ?_)
  refine J.keepE [(7, _), (8, _), (9, _), (10, _), (11, _)] ⟨rfl, rfl, rfl, rfl, rfl, trivial⟩ ?_
  refine J.seq (fun K8 hK8 => ?_)
  refine J.seq (fun K9 hK9 => ?_)
  refine J.region ?_
  refine J.y (op_move rfl rfl) rfl rfl rfl ?_
  refine J.y ((op_mul (a := 2) rfl rfl rfl (by omega)).as (v' := I ((2 * q : Nat) : Int)) (congrArg I (by omega))) rfl rfl rfl ?_
  refine J.y (op_move rfl rfl) rfl rfl rfl ?_
  refine J.y (op_move rfl rfl) rfl rfl rfl ?_
  refine J.y (op_add rfl rfl rfl (by omega)) rfl rfl rfl ?_
  refine J.y ((op_leq rfl rfl rfl).as (v' := .bool false) (congrArg Value.bool (decide_eq_false (by omega)))) rfl rfl rfl ?_
  refine J.y (op_move rfl rfl) rfl rfl rfl ?_
  refine J.yg (Wan.is rfl rfl rfl rfl rfl) (op_move rfl rfl) rfl rfl ?_
  refine J.yg (Wan.is rfl rfl rfl rfl rfl) (op_sub rfl rfl rfl (by omega)) rfl rfl ?_
  refine J.yg (Wan.is rfl rfl rfl rfl rfl) ((op_mul (a := 2) rfl rfl rfl (by omega)).as (v' := I ((2 * (q - 1) : Nat) : Int)) (congrArg I (by omega))) rfl rfl ?_
  refine J.yg (Wan.is rfl rfl rfl rfl rfl) (op_move rfl rfl) rfl rfl ?_
  refine J.yg (Wan.is rfl rfl rfl rfl rfl) (op_move rfl rfl) rfl rfl ?_
  refine J.yg (Wan.is rfl rfl rfl rfl rfl) (op_add rfl rfl rfl (by omega)) rfl rfl ?_
  refine J.yg (Wan.is rfl rfl rfl rfl rfl) ((op_gtr rfl rfl rfl).as (v' := .bool false) (congrArg Value.bool (decide_eq_false (by omega)))) rfl rfl ?_
  refine J.y (op_pickF rfl rfl rfl) rfl rfl rfl ?_
  refine J.nil ?_
  refine J.then_n (J.k hK9 ?_)
  refine J.keepE [(7, _), (8, _), (9, _), (10, _), (11, _), (48, _)] ⟨rfl, rfl, rfl, rfl, rfl, rfl, trivial⟩ ?_
  refine J.condF rfl rfl ?_
  refine J.skip ?_
  refine J.then_n (J.k hK8 ?_)
  refine J.keepE [(7, _), (8, _), (9, _), (10, _), (11, _)] ⟨rfl, rfl, rfl, rfl, rfl, trivial⟩ ?_
  refine J.seq (fun K10 hK10 => ?_)
  refine J.seq (fun K11 hK11 => ?_)
  refine J.region ?_
  refine J.y (op_move rfl rfl) rfl rfl rfl ?_
  refine J.y (op_move rfl rfl) rfl rfl rfl ?_
  refine J.y (op_gtr rfl rfl rfl) rfl rfl rfl ?_
  refine J.nil ?_
  refine J.then_n (J.k hK11 ?_)
  refine J.keepE [(7, _), (8, _), (9, _), (10, _), (11, _), (51, _)] ⟨rfl, rfl, rfl, rfl, rfl, rfl, trivial⟩ ?_
  refine J.ite rfl (fun h51 => ?_) (fun h51 => ?_)
  ·
    refine J.seq (fun K12 hK12 => ?_)
    refine J.region ?_
    refine J.y (op_move rfl rfl) rfl rfl rfl ?_
    refine J.y (op_move rfl rfl) rfl rfl rfl ?_
    refine J.y (op_sub rfl rfl rfl (by omega)) rfl rfl rfl ?_
    refine J.y ((op_geq rfl rfl rfl).as (v' := .bool true) (congrArg Value.bool (decide_eq_true (by omega)))) rfl rfl rfl ?_
    refine J.y (op_assign rfl rfl) rfl rfl rfl ?_
    refine J.nil ?_
    refine J.then_n (J.k hK12 ?_)
    refine J.keepE [(6, _)] ⟨rfl, trivial⟩ ?_
    refine J.ret ?_
    refine J.then_r ?_
    exact J.done (fun _ _ h => h) (res1 rfl rfl) (retOk () rfl trivial [0] rfl (by decide))
  ·
    refine J.skip ?_
    refine J.then_n (J.k hK10 ?_)
    refine J.keepE [(7, _), (8, _), (9, _), (10, _), (11, _)] ⟨rfl, rfl, rfl, rfl, rfl, trivial⟩ ?_
    refine J.seq (fun K13 hK13 => ?_)
    refine J.region ?_
    refine J.y (op_move rfl rfl) rfl rfl rfl ?_
    refine J.y (op_move rfl rfl) rfl rfl rfl ?_
    refine J.y (op_move rfl rfl) rfl rfl rfl ?_
    refine J.e (op_call rfl rfl ent34 (Ct.use (fun F' _ => choose_ct F' w q (by omega) (by omega) sa))) rfl rfl rfl ?_
    rintro ⟨g59, x1⟩ ⟨hx1, hx2⟩
    change J _ ((59, .slice (some ⟨g59, 0, none⟩) w w) :: _) _ [F, blk g5 [W64 sa, W64 sb] 57, blk g59 (x1.map Value.bool) 4] _
    dsimp only at hx1 hx2
    refine J.y (op_move rfl rfl) rfl rfl rfl ?_
    refine J.y (op_move rfl rfl) rfl rfl rfl ?_
    refine J.y (op_move rfl rfl) rfl rfl rfl ?_
    refine J.e (op_call rfl rfl ent34 (Ct.use (fun F' _ => choose_ct F' w q (by omega) (by omega) sb))) rfl rfl rfl ?_
    rintro ⟨g63, y1⟩ ⟨hy1, hy2⟩
    change J _ ((63, .slice (some ⟨g63, 0, none⟩) w w) :: _) _ [F, blk g5 [W64 sa, W64 sb] 57, blk g59 (x1.map Value.bool) 4, blk g63 (y1.map Value.bool) 4] _
    dsimp only at hy1 hy2
    refine J.perm [0, 2, 3] [F, blk g59 (x1.map Value.bool) 4, blk g63 (y1.map Value.bool) 4] rfl (by decide) ?_
    refine J.y (op_assign rfl rfl) rfl rfl rfl ?_
    refine J.y (op_assign rfl rfl) rfl rfl rfl ?_
    refine J.nil ?_
    refine J.then_n (J.k hK13 ?_)
    refine J.keepE [(9, _), (10, _), (12, _), (13, _)] ⟨rfl, rfl, rfl, rfl, trivial⟩ ?_
    refine J.seq (fun K14 hK14 => ?_)
    refine J.region ?_
    refine J.y (op_assign rfl rfl) rfl rfl rfl ?_
    refine J.nil ?_
    refine J.then_n (J.k hK14 ?_)
    refine J.keepE [(9, _), (10, _), (12, _), (13, _), (14, _)] ⟨rfl, rfl, rfl, rfl, rfl, trivial⟩ ?_
    refine J.seq (fun K15 hK15 => ?_)
    refine J.seq (fun K16 hK16 => ?_)
    refine J.region ?_
    refine J.y (op_assign rfl rfl) rfl rfl rfl ?_
    refine J.nil ?_
    refine J.then_n (J.k hK16 ?_)
    refine J.keepE [(9, _), (10, _), (12, _), (13, _), (14, _), (15, _)] ⟨rfl, rfl, rfl, rfl, rfl, rfl, trivial⟩ ?_
    refine J.block ?_
    refine J.loop (X := Nat × Nat) (fun x => [(9, I w), (10, I f), (12, .slice (some ⟨g59, 0, none⟩) w w), (13, .slice (some ⟨g63, 0, none⟩) w w), (14, I x.2), (15, I x.1)]) (fun _ => [F, blk g59 (x1.map Value.bool) 4, blk g63 (y1.map Value.bool) 4]) (fun x => x.1 ≤ w ∧ x.2 = Wm.both (x1.take x.1) (y1.take x.1) ∧ x.2 ≤ x.1) (fun x => w - x.1) (0, 0) (⟨Nat.zero_le _, rfl, Nat.le_refl _⟩) ⟨rfl, rfl, rfl, rfl, rfl, rfl, trivial⟩ (fun _ h => h) ?_
    rintro ⟨i, n⟩ ⟨hi, hnb, hni⟩ I0 hI0
    dsimp only at hi hnb hni ⊢
    refine J.seq (fun K17 hK17 => ?_)
    refine J.seq (fun K18 hK18 => ?_)
    refine J.region ?_
    refine J.y (op_move rfl rfl) rfl rfl rfl ?_
    refine J.y (op_move rfl rfl) rfl rfl rfl ?_
    refine J.y (op_lss rfl rfl rfl) rfl rfl rfl ?_
    refine J.nil ?_
    refine J.then_n (J.k hK18 ?_)
    refine J.keepE [(9, _), (10, _), (12, _), (13, _), (14, _), (15, _), (66, _)] ⟨rfl, rfl, rfl, rfl, rfl, rfl, rfl, trivial⟩ ?_
    refine J.ite rfl (fun h66 => ?_) (fun h66 => ?_)
    ·
      refine J.skip ?_
      refine J.then_n (J.k hK17 ?_)
      refine J.keepE [(9, _), (10, _), (12, _), (13, _), (14, _), (15, _)] ⟨rfl, rfl, rfl, rfl, rfl, rfl, trivial⟩ ?_
      refine J.seq (fun K19 hK19 => ?_)
      refine J.block ?_
      refine J.seq (fun K20 hK20 => ?_)
      have hiw : i < w := by omega
      have hbs := Wm.both_snoc x1 y1 i (x1.getD i false) (y1.getD i false) (Wm.getL (by omega)) (Wm.getL (by omega))
      refine J.region ?_
      refine J.y (op_move rfl rfl) rfl rfl rfl ?_
      refine J.y (op_move rfl rfl) rfl rfl rfl ?_
      refine J.y (op_indexAddrS (i := i) (j := i) rfl rfl rfl Tryd.underlying59 Tryd.sizeOf4 (by omega) (by omega)) rfl rfl rfl ?_
      refine J.y ((op_loadB 1 rfl rfl rfl Tryd.isAgg4 (Wm.getB' (l := x1) (j := i) (by omega))).as (v' := .bool (decide (x1.getD i false = true))) (congrArg Value.bool (by simp))) rfl rfl rfl ?_
      refine J.y (op_move rfl rfl) rfl rfl rfl ?_
      refine J.split (d := 73) rfl (fun h73 => ?_) (fun h73 => ?_)
      ·
        refine J.yg (Wan.is rfl rfl rfl rfl rfl) (op_move rfl rfl) rfl rfl ?_
        refine J.yg (Wan.is rfl rfl rfl rfl rfl) (op_move rfl rfl) rfl rfl ?_
        refine J.yg (Wan.is rfl rfl rfl rfl rfl) (op_indexAddrS (i := i) (j := i) rfl rfl rfl Tryd.underlying59 Tryd.sizeOf4 (by omega) (by omega)) rfl rfl ?_
        refine J.yg (Wan.is rfl rfl rfl rfl rfl) ((op_loadB 2 rfl rfl rfl Tryd.isAgg4 (Wm.getB' (l := y1) (j := i) (by omega))).as (v' := .bool (decide (y1.getD i false = true))) (congrArg Value.bool (by simp))) rfl rfl ?_
        refine J.y (op_pickT rfl rfl rfl) rfl rfl rfl ?_
        refine J.nil ?_
        refine J.then_n (J.k hK20 ?_)
        refine J.keepE [(9, _), (10, _), (12, _), (13, _), (14, _), (15, _), (78, _)] ⟨rfl, rfl, rfl, rfl, rfl, rfl, rfl, trivial⟩ ?_
        refine J.ite rfl (fun h78 => ?_) (fun h78 => ?_)
        ·
          refine J.region ?_
          refine J.y (op_move rfl rfl) rfl rfl rfl ?_
          refine J.y (op_add rfl rfl rfl (by omega)) rfl rfl rfl ?_
          refine J.y (op_assign rfl rfl) rfl rfl rfl ?_
          refine J.nil ?_
          refine J.blk_n ?_
          refine J.then_n (J.k hK19 ?_)
          refine J.keepE [(9, _), (10, _), (12, _), (13, _), (14, _), (15, _)] ⟨rfl, rfl, rfl, rfl, rfl, rfl, trivial⟩ ?_
          refine J.region ?_
          refine J.y (op_move rfl rfl) rfl rfl rfl ?_
          refine J.y (op_add rfl rfl rfl (by omega)) rfl rfl rfl ?_
          refine J.y (op_assign rfl rfl) rfl rfl rfl ?_
          refine J.nil ?_
          refine J.then_n ?_
          exact J.kk (i + 1, n + 1) (fun x (hx : _ ∧ w - x.1 < w - i) => hI0 x hx.1 hx.2) ⟨⟨by dsimp only; omega, by dsimp only; rw [hbs, if_pos ⟨h73, h78⟩, hnb], by dsimp only; omega⟩, by dsimp only; omega⟩ ⟨rfl, rfl, rfl, rfl, rfl, rfl, trivial⟩ (fun _ h => h)
        ·
          refine J.skip ?_
          refine J.blk_n ?_
          refine J.then_n (J.k hK19 ?_)
          refine J.keepE [(9, _), (10, _), (12, _), (13, _), (14, _), (15, _)] ⟨rfl, rfl, rfl, rfl, rfl, rfl, trivial⟩ ?_
          refine J.region ?_
          refine J.y (op_move rfl rfl) rfl rfl rfl ?_
          refine J.y (op_add rfl rfl rfl (by omega)) rfl rfl rfl ?_
          refine J.y (op_assign rfl rfl) rfl rfl rfl ?_
          refine J.nil ?_
          refine J.then_n ?_
          exact J.kk (i + 1, n) (fun x (hx : _ ∧ w - x.1 < w - i) => hI0 x hx.1 hx.2) ⟨⟨by dsimp only; omega, by dsimp only; rw [hbs, if_neg (fun h => h78 h.2), hnb]; rfl, by dsimp only; omega⟩, by dsimp only; omega⟩ ⟨rfl, rfl, rfl, rfl, rfl, rfl, trivial⟩ (fun _ h => h)
      ·
        refine J.no (Wan.is rfl rfl rfl rfl rfl) rfl rfl ?_
        refine J.no (Wan.is rfl rfl rfl rfl rfl) rfl rfl ?_
        refine J.no (Wan.is rfl rfl rfl rfl rfl) rfl rfl ?_
        refine J.no (Wan.is rfl rfl rfl rfl rfl) rfl rfl ?_
        refine J.y (op_pickF rfl rfl rfl) rfl rfl rfl ?_
        refine J.nil ?_
        refine J.then_n (J.k hK20 ?_)
        refine J.keepE [(9, _), (10, _), (12, _), (13, _), (14, _), (15, _), (78, _)] ⟨rfl, rfl, rfl, rfl, rfl, rfl, rfl, trivial⟩ ?_
        refine J.condF rfl rfl ?_
        refine J.skip ?_
        refine J.blk_n ?_
        refine J.then_n (J.k hK19 ?_)
        refine J.keepE [(9, _), (10, _), (12, _), (13, _), (14, _), (15, _)] ⟨rfl, rfl, rfl, rfl, rfl, rfl, trivial⟩ ?_
        refine J.region ?_
        refine J.y (op_move rfl rfl) rfl rfl rfl ?_
        refine J.y (op_add rfl rfl rfl (by omega)) rfl rfl rfl ?_
        refine J.y (op_assign rfl rfl) rfl rfl rfl ?_
        refine J.nil ?_
        refine J.then_n ?_
        exact J.kk (i + 1, n) (fun x (hx : _ ∧ w - x.1 < w - i) => hI0 x hx.1 hx.2) ⟨⟨by dsimp only; omega, by dsimp only; rw [hbs, if_neg (fun h => h73 h.1), hnb]; rfl, by dsimp only; omega⟩, by dsimp only; omega⟩ ⟨rfl, rfl, rfl, rfl, rfl, rfl, trivial⟩ (fun _ h => h)
    ·
      refine J.exit ?_
      refine J.then_x ?_
      refine J.then_x ?_
      refine J.blk_eq ?_
      refine J.then_n (J.k hK15 ?_)
      refine J.keepE [(10, _), (14, _)] ⟨rfl, rfl, trivial⟩ ?_
      refine J.seq (fun K21 hK21 => ?_)
      have hiw : i = w := by omega
      have hge := Wm.both_ge x1 y1 (by omega)
      rw [hiw, List.take_of_length_le (by omega), List.take_of_length_le (by omega)] at hnb
      refine J.region ?_
      refine J.y (op_move rfl rfl) rfl rfl rfl ?_
      refine J.y (op_move rfl rfl) rfl rfl rfl ?_
      refine J.y ((op_gtr rfl rfl rfl).as (v' := .bool true) (congrArg Value.bool (decide_eq_true (by omega)))) rfl rfl rfl ?_
      refine J.y (op_assign rfl rfl) rfl rfl rfl ?_
      refine J.nil ?_
      refine J.then_n (J.k hK21 ?_)
      refine J.keepE [(6, _)] ⟨rfl, trivial⟩ ?_
      refine J.ret ?_
      exact J.done (fun _ _ h => h) (res1 rfl rfl) (retOk () rfl trivial [0] rfl (by decide))

end Go.Proofs.YtadckkaepngloaaDoor
