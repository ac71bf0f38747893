/- A part of the proof: contracts of functions of the program, each for every state of the heaps that it names. -/
import Derived.Test.YtnkfapecbmmpeaaGreatDoorPub
import Derived.Test.YtnkfapecbmmpeaaGreatDoorXmss
set_option linter.unusedSimpArgs false
set_option linter.unusedVariables false
namespace Go.Proofs.YtnkfapecbmmpeaaGreatDoor
open Go Go.Fw
set_option maxRecDepth 100000
set_option maxHeartbeats 1000000

def sgB (i : Nat) (ch pt : List (List UInt8)) : List UInt8 := [UInt8.ofNat i] ++ ch.flatten ++ [UInt8.ofNat pt.length] ++ pt.flatten
theorem numB1' : ∀ k, k < 256 → Sha.numB (UInt64.ofNat k) 1 = [UInt8.ofNat k] := by decide +kernel
theorem okN1' : ∀ k, k < 256 → okN (UInt64.ofNat k) 1 = true := by decide +kernel
theorem flat_take {l : List (List UInt8)} {k : Nat} (h : k < l.length) : (l.take (k + 1)).flatten = (l.take k).flatten ++ l.getD k [] := by
  rw [List.take_succ_eq_append_getElem h, List.flatten_append, List.flatten_cons, List.flatten_nil, List.append_nil, List.getD_eq_getElem?_getD, List.getElem?_eq_getElem h]; rfl
theorem flat16 {l : List (List UInt8)} (h : ∀ s ∈ l, s.length = 16) : l.flatten.length = 16 * l.length := by
  induction l with
  | nil => rfl
  | cons a l ih =>
    rw [List.flatten_cons, List.length_append, ih (fun s hs => h s (.tail _ hs)), h a (.head _), List.length_cons]; omega
theorem getD16 {l : List (List UInt8)} (h : ∀ s ∈ l, s.length = 16) {k : Nat} (hk : k < l.length) : (l.getD k []).length = 16 := by
  rw [List.getD_eq_getElem?_getD, List.getElem?_eq_getElem hk]
  exact h _ (List.getElem_mem hk)
theorem take16 {l : List (List UInt8)} (h : ∀ s ∈ l, s.length = 16) (k : Nat) : (l.take k).flatten.length ≤ 16 * l.length := by
  rw [flat16 (fun s hs => h s (List.mem_of_mem_take hs)), List.length_take]; omega

theorem sencode_ct (F : Hp) (i : Nat) (A1 : Option Addr) (c1 : Nat) (ch : List (List UInt8)) (hch : Sl F 1 A1 35 c1 (strsV ch)) (A2 : Option Addr) (n2 c2 : Nat) (pt : List (List UInt8)) (hpt : Sl F 1 A2 n2 c2 (strsV pt))
    (hi : i ≤ 63) (hn : n2 ≤ 6) (hc16 : ∀ s ∈ ch, s.length = 16) (hp16 : ∀ s ∈ pt, s.length = 16) :
    Ct Tryz.prog 20 [.agg #[I i, .slice A1 35 c1, .slice A2 n2 c2]] [F] (fun _ : Unit => .tuple #[Str (sgB i ch pt), I 0]) (fun _ => True) (fun _ => [F]) := by
  have hl1 : ch.length = 35 := by have := hch.1; simpa [strsV] using this
  have hl2 : pt.length = n2 := by have := hpt.1; simpa [strsV] using this
  refine Ct.walk Tryz.func20 rfl Tryz.ntmps20 rfl (fun w0 hw0 => ?_)
  change J _ [(0, _)] _ _ _
  refine J.seq (fun K1 hK1 => ?_)
  refine J.region ?_
  refine J.e (op_box rfl rfl (l := [I i, .slice A1 35 c1, .slice A2 n2 c2]) rfl) rfl rfl rfl ?_
  intro g1 _
  change J _ _ _ [F, blk g1 [I i, .slice A1 35 c1, .slice A2 n2 c2] 37] _
  refine J.y (op_assign rfl rfl) rfl rfl rfl ?_
  refine J.y (op_assign rfl rfl) rfl rfl rfl ?_
  refine J.nil ?_
  refine J.then_n (J.k hK1 ?_)
  refine J.keepE [(1, _)] ⟨rfl, trivial⟩ ?_
  refine J.seq (fun K2 hK2 => ?_)
  refine J.seq (fun K3 hK3 => ?_)
  refine J.region ?_
  refine J.y (op_fieldAddr (j := 0) rfl rfl Tryz.underlying37 rfl Tryz.sizeOf3 rfl) rfl rfl rfl ?_
  refine J.y (op_loadB 1 rfl rfl rfl Tryz.isAgg3 rfl) rfl rfl rfl ?_
  refine J.y ((op_lss rfl rfl rfl).as (v' := .bool false) (congrArg Value.bool (decide_eq_false (by omega)))) rfl rfl rfl ?_
  refine J.y (op_move rfl rfl) rfl rfl rfl ?_
  refine J.yg (Wan.is rfl rfl rfl rfl rfl) (op_fieldAddr (j := 0) rfl rfl Tryz.underlying37 rfl Tryz.sizeOf3 rfl) rfl rfl ?_
  refine J.yg (Wan.is rfl rfl rfl rfl rfl) (op_loadB 1 rfl rfl rfl Tryz.isAgg3 rfl) rfl rfl ?_
  refine J.yg (Wan.is rfl rfl rfl rfl rfl) ((op_gtr rfl rfl rfl).as (v' := .bool false) (congrArg Value.bool (decide_eq_false (by omega)))) rfl rfl ?_
  refine J.y (op_pickF rfl rfl rfl) rfl rfl rfl ?_
  refine J.y (op_move rfl rfl) rfl rfl rfl ?_
  refine J.yg (Wan.is rfl rfl rfl rfl rfl) (op_fieldAddr (j := 1) rfl rfl Tryz.underlying37 rfl Tryz.sizeOf35 rfl) rfl rfl ?_
  refine J.yg (Wan.is rfl rfl rfl rfl rfl) (op_loadB 1 rfl rfl rfl Tryz.isAgg35 rfl) rfl rfl ?_
  refine J.yg (Wan.is rfl rfl rfl rfl rfl) (op_len Tryz.underlying35 rfl rfl) rfl rfl ?_
  refine J.yg (Wan.is rfl rfl rfl rfl rfl) ((op_neq rfl rfl rfl).as (v' := .bool false) (congrArg Value.bool (decide_eq_false (by omega)))) rfl rfl ?_
  refine J.y (op_pickF rfl rfl rfl) rfl rfl rfl ?_
  refine J.y (op_move rfl rfl) rfl rfl rfl ?_
  refine J.yg (Wan.is rfl rfl rfl rfl rfl) (op_fieldAddr (j := 2) rfl rfl Tryz.underlying37 rfl Tryz.sizeOf35 rfl) rfl rfl ?_
  refine J.yg (Wan.is rfl rfl rfl rfl rfl) (op_loadB 1 rfl rfl rfl Tryz.isAgg35 rfl) rfl rfl ?_
  refine J.yg (Wan.is rfl rfl rfl rfl rfl) (op_len Tryz.underlying35 rfl rfl) rfl rfl ?_
  refine J.yg (Wan.is rfl rfl rfl rfl rfl) ((op_gtr rfl rfl rfl).as (v' := .bool false) (congrArg Value.bool (decide_eq_false (by omega)))) rfl rfl ?_
  refine J.y (op_pickF rfl rfl rfl) rfl rfl rfl ?_
  refine J.nil ?_
  refine J.then_n (J.k hK3 ?_)
  refine J.keepE [(1, _), (28, _)] ⟨rfl, rfl, trivial⟩ ?_
  refine J.condF rfl rfl ?_
  refine J.skip ?_
  refine J.then_n (J.k hK2 ?_)
  refine J.keepE [(1, _)] ⟨rfl, trivial⟩ ?_
  refine J.seq (fun K4 hK4 => ?_)
  refine J.region ?_
  refine J.e (op_alloc rfl Tryz.zeroValue63 rfl) rfl rfl rfl ?_
  intro g4 _
  change J _ _ _ [F, blk g1 [I i, .slice A1 35 c1, .slice A2 n2 c2] 37, blk g4 _ 63] _
  refine J.nil ?_
  refine J.then_n (J.k hK4 ?_)
  refine J.keepE [(1, _), (4, _)] ⟨rfl, rfl, trivial⟩ ?_
  refine J.seq (fun K5 hK5 => ?_)
  refine J.region ?_
  refine J.y (op_fieldAddr (j := 0) rfl rfl Tryz.underlying37 rfl Tryz.sizeOf3 rfl) rfl rfl rfl ?_
  refine J.y (op_loadB 1 rfl rfl rfl Tryz.isAgg3 rfl) rfl rfl rfl ?_
  refine J.y ((op_cv_i64_u64 rfl rfl Tryz.underlying3 Tryz.underlying29 (m := i) (by omega))) rfl rfl rfl ?_
  refine J.e (op_call rfl rfl ent40 (Ct.use1 2 (m' := fun x : Hp => x) (new := fun _ => []) rfl (fun F' _ => num_ct F' (blk g4 [.pointer none, .slice none 0 0, I 0] 63) g4 [] 0 (wtr_new g4) (by decide) (UInt64.ofNat i) 1 (by omega) (by omega)))) rfl rfl rfl ?_
  rintro m32 hw32
  change J _ _ _ [F, blk g1 [I i, .slice A1 35 c1, .slice A2 n2 c2] 37, m32] _
  rw [okN1' i (by omega), fbad_t, wnum_ok (okN1' i (by omega)), numB1' i (by omega), List.nil_append] at hw32
  refine J.nil ?_
  refine J.then_n (J.k hK5 ?_)
  refine J.keepE [(1, _), (4, _)] ⟨rfl, rfl, trivial⟩ ?_
  refine J.seq (fun K6 hK6 => ?_)
  refine J.seq (fun K7 hK7 => ?_)
  refine J.region ?_
  refine J.y (op_fieldAddr (j := 1) rfl rfl Tryz.underlying37 rfl Tryz.sizeOf35 rfl) rfl rfl rfl ?_
  refine J.y (op_loadB 1 rfl rfl rfl Tryz.isAgg35 rfl) rfl rfl rfl ?_
  refine J.y (op_len Tryz.underlying35 rfl rfl) rfl rfl rfl ?_
  refine J.y (op_move rfl rfl) rfl rfl rfl ?_
  refine J.nil ?_
  refine J.then_n (J.k hK7 ?_)
  refine J.keepE [(1, _), (4, _), (34, _), (35, _), (36, _)] ⟨rfl, rfl, rfl, rfl, rfl, trivial⟩ ?_
  refine J.block ?_
  refine J.loop (X := Nat × Hp) (fun x => [(1, Ptr g1), (4, Ptr g4), (34, .slice A1 35 c1), (35, I 35), (36, I x.1)]) (fun x => [F, blk g1 [I i, .slice A1 35 c1, .slice A2 n2 c2] 37, x.2]) (fun x => x.1 ≤ 35 ∧ Wtr x.2 g4 ([UInt8.ofNat i] ++ (ch.take x.1).flatten) 0) (fun x => 35 - x.1) (0, m32) (⟨Nat.zero_le _, by rw [List.take_zero, List.flatten_nil, List.append_nil]; exact hw32⟩) ⟨rfl, rfl, rfl, rfl, rfl, trivial⟩ (fun _ h => h) ?_
  rintro ⟨k, m⟩ ⟨hk, hw⟩ I0 hI0
  dsimp only at hk hw ⊢
  refine J.seq (fun K8 hK8 => ?_)
  refine J.region ?_
  refine J.y (op_lss rfl rfl rfl) rfl rfl rfl ?_
  refine J.nil ?_
  refine J.then_n (J.k hK8 ?_)
  refine J.keepE [(1, _), (4, _), (34, _), (35, _), (36, _), (37, _)] ⟨rfl, rfl, rfl, rfl, rfl, rfl, trivial⟩ ?_
  refine J.seq (fun K9 hK9 => ?_)
  refine J.ite rfl (fun h37 => ?_) (fun h37 => ?_)
  ·
    refine J.skip ?_
    refine J.then_n (J.k hK9 ?_)
    refine J.keepE [(1, _), (4, _), (34, _), (35, _), (36, _)] ⟨rfl, rfl, rfl, rfl, rfl, trivial⟩ ?_
    refine J.seq (fun K10 hK10 => ?_)
    refine J.block ?_
    refine J.seq (fun K11 hK11 => ?_)
    refine J.region ?_
    refine J.y (op_indexAddr (i := k) rfl rfl rfl Tryz.underlying35 Tryz.sizeOf9 hch (by omega)) rfl rfl rfl ?_
    refine J.y (op_load rfl rfl Tryz.isAgg9 (m := F) (by simp) (hch.elem (strsV_get (getSome [] (show k < ch.length by omega))))) rfl rfl rfl ?_
    refine J.y (op_assign rfl rfl) rfl rfl rfl ?_
    refine J.nil ?_
    refine J.then_n (J.k hK11 ?_)
    refine J.keepE [(1, _), (4, _), (6, _), (34, _), (35, _), (36, _)] ⟨rfl, rfl, rfl, rfl, rfl, rfl, trivial⟩ ?_
    have hg16 := getD16 hc16 (show k < ch.length by omega)
    refine J.region ?_
    refine J.y (op_move rfl rfl) rfl rfl rfl ?_
    refine J.e (op_call rfl rfl ent41 (Ct.use1 2 (m' := fun x : Hp => x) (new := fun _ => []) rfl (fun F' _ => fixed_ct F' m g4 ([UInt8.ofNat i] ++ (ch.take k).flatten) 0 hw (by have := take16 hc16 k; have := take16 hp16 k; have h3 := flat16 hc16; simp only [List.length_append, List.length_singleton]; omega) (ch.getD k []) (by omega) 16))) rfl rfl rfl ?_
    rintro m41 hw41
    change J _ _ _ [F, blk g1 [I i, .slice A1 35 c1, .slice A2 n2 c2] 37, m41] _
    rw [wfix_t (getD16 hc16 (by omega)), okF_t (getD16 hc16 (by omega)), fbad_t, List.append_assoc, ← flat_take (by omega)] at hw41
    refine J.nil ?_
    refine J.blk_n ?_
    refine J.then_n (J.k hK10 ?_)
    refine J.keepE [(1, _), (4, _), (34, _), (35, _), (36, _)] ⟨rfl, rfl, rfl, rfl, rfl, trivial⟩ ?_
    refine J.region ?_
    refine J.y ((op_add rfl rfl rfl (by first | omega | (refine ⟨?_, ?_⟩ <;> omega))).as (v' := I ((k + 1 : Nat) : Int)) (congrArg I (by omega))) rfl rfl rfl ?_
    refine J.y (op_move rfl rfl) rfl rfl rfl ?_
    refine J.nil ?_
    refine J.then_n ?_
    exact J.kk (k + 1, m41) (fun x (hx : _ ∧ 35 - x.1 < 35 - k) => hI0 x hx.1 hx.2) ⟨⟨by dsimp only; omega, hw41⟩, by dsimp only; omega⟩ ⟨rfl, rfl, rfl, rfl, rfl, trivial⟩ (fun _ h => h)
  ·
    refine J.exit ?_
    refine J.then_x ?_
    refine J.then_x ?_
    refine J.blk_eq ?_
    refine J.then_n (J.k hK6 ?_)
    refine J.keepE [(1, _), (4, _)] ⟨rfl, rfl, trivial⟩ ?_
    refine J.seq (fun K12 hK12 => ?_)
    rw [List.take_of_length_le (by omega)] at hw
    refine J.region ?_
    refine J.y (op_fieldAddr (j := 2) rfl rfl Tryz.underlying37 rfl Tryz.sizeOf35 rfl) rfl rfl rfl ?_
    refine J.y (op_loadB 1 rfl rfl rfl Tryz.isAgg35 rfl) rfl rfl rfl ?_
    refine J.y (op_len Tryz.underlying35 rfl rfl) rfl rfl rfl ?_
    refine J.y ((op_cv_i64_u64 rfl rfl Tryz.underlying3 Tryz.underlying29 (m := n2) (by omega))) rfl rfl rfl ?_
    refine J.e (op_call rfl rfl ent40 (Ct.use1 2 (m' := fun x : Hp => x) (new := fun _ => []) rfl (fun F' _ => num_ct F' m g4 ([UInt8.ofNat i] ++ ch.flatten) 0 hw (by have h3 := flat16 hc16; simp only [List.length_append, List.length_singleton]; omega) (UInt64.ofNat n2) 1 (by omega) (by omega)))) rfl rfl rfl ?_
    rintro m47 hw47
    change J _ _ _ [F, blk g1 [I i, .slice A1 35 c1, .slice A2 n2 c2] 37, m47] _
    rw [okN1' n2 (by omega), fbad_t, wnum_ok (okN1' n2 (by omega)), numB1' n2 (by omega)] at hw47
    refine J.nil ?_
    refine J.then_n (J.k hK12 ?_)
    refine J.keepE [(1, _), (4, _)] ⟨rfl, rfl, trivial⟩ ?_
    refine J.seq (fun K13 hK13 => ?_)
    refine J.seq (fun K14 hK14 => ?_)
    refine J.region ?_
    refine J.y (op_fieldAddr (j := 2) rfl rfl Tryz.underlying37 rfl Tryz.sizeOf35 rfl) rfl rfl rfl ?_
    refine J.y (op_loadB 1 rfl rfl rfl Tryz.isAgg35 rfl) rfl rfl rfl ?_
    refine J.y (op_len Tryz.underlying35 rfl rfl) rfl rfl rfl ?_
    refine J.y (op_move rfl rfl) rfl rfl rfl ?_
    refine J.nil ?_
    refine J.then_n (J.k hK14 ?_)
    refine J.keepE [(4, _), (49, _), (50, _), (51, _)] ⟨rfl, rfl, rfl, rfl, trivial⟩ ?_
    refine J.block ?_
    refine J.loop (X := Nat × Hp) (fun x => [(4, Ptr g4), (49, .slice A2 n2 c2), (50, I n2), (51, I x.1)]) (fun x => [F, blk g1 [I i, .slice A1 35 c1, .slice A2 n2 c2] 37, x.2]) (fun x => x.1 ≤ n2 ∧ Wtr x.2 g4 (([UInt8.ofNat i] ++ ch.flatten ++ [UInt8.ofNat pt.length]) ++ (pt.take x.1).flatten) 0) (fun x => n2 - x.1) (0, m47) (⟨Nat.zero_le _, by rw [List.take_zero, List.flatten_nil, List.append_nil, hl2]; exact hw47⟩) ⟨rfl, rfl, rfl, rfl, trivial⟩ (fun _ h => h) ?_
    rintro ⟨k, mp⟩ ⟨hk, hw2⟩ I2 hI2
    dsimp only at hk hw2 ⊢
    refine J.seq (fun K15 hK15 => ?_)
    refine J.region ?_
    refine J.y (op_lss rfl rfl rfl) rfl rfl rfl ?_
    refine J.nil ?_
    refine J.then_n (J.k hK15 ?_)
    refine J.keepE [(4, _), (49, _), (50, _), (51, _), (52, _)] ⟨rfl, rfl, rfl, rfl, rfl, trivial⟩ ?_
    refine J.seq (fun K16 hK16 => ?_)
    refine J.ite rfl (fun h52 => ?_) (fun h52 => ?_)
    ·
      refine J.skip ?_
      refine J.then_n (J.k hK16 ?_)
      refine J.keepE [(4, _), (49, _), (50, _), (51, _)] ⟨rfl, rfl, rfl, rfl, trivial⟩ ?_
      refine J.seq (fun K17 hK17 => ?_)
      refine J.block ?_
      refine J.seq (fun K18 hK18 => ?_)
      refine J.region ?_
      refine J.y (op_indexAddr (i := k) rfl rfl rfl Tryz.underlying35 Tryz.sizeOf9 hpt (by omega)) rfl rfl rfl ?_
      refine J.y (op_load rfl rfl Tryz.isAgg9 (m := F) (by simp) (hpt.elem (strsV_get (getSome [] (show k < pt.length by omega))))) rfl rfl rfl ?_
      refine J.y (op_assign rfl rfl) rfl rfl rfl ?_
      refine J.nil ?_
      refine J.then_n (J.k hK18 ?_)
      refine J.keepE [(4, _), (8, _), (49, _), (50, _), (51, _)] ⟨rfl, rfl, rfl, rfl, rfl, trivial⟩ ?_
      have hg16 := getD16 hp16 (show k < pt.length by omega)
      refine J.region ?_
      refine J.y (op_move rfl rfl) rfl rfl rfl ?_
      refine J.e (op_call rfl rfl ent41 (Ct.use1 2 (m' := fun x : Hp => x) (new := fun _ => []) rfl (fun F' _ => fixed_ct F' mp g4 (([UInt8.ofNat i] ++ ch.flatten ++ [UInt8.ofNat pt.length]) ++ (pt.take k).flatten) 0 hw2 (by have := take16 hc16 k; have := take16 hp16 k; have h3 := flat16 hc16; simp only [List.length_append, List.length_singleton]; omega) (pt.getD k []) (by omega) 16))) rfl rfl rfl ?_
      rintro m56 hw56
      change J _ _ _ [F, blk g1 [I i, .slice A1 35 c1, .slice A2 n2 c2] 37, m56] _
      rw [wfix_t (getD16 hp16 (by omega)), okF_t (getD16 hp16 (by omega)), fbad_t, List.append_assoc, ← flat_take (by omega)] at hw56
      refine J.nil ?_
      refine J.blk_n ?_
      refine J.then_n (J.k hK17 ?_)
      refine J.keepE [(4, _), (49, _), (50, _), (51, _)] ⟨rfl, rfl, rfl, rfl, trivial⟩ ?_
      refine J.region ?_
      refine J.y ((op_add rfl rfl rfl (by first | omega | (refine ⟨?_, ?_⟩ <;> omega))).as (v' := I ((k + 1 : Nat) : Int)) (congrArg I (by omega))) rfl rfl rfl ?_
      refine J.y (op_move rfl rfl) rfl rfl rfl ?_
      refine J.nil ?_
      refine J.then_n ?_
      exact J.kk (k + 1, m56) (fun x (hx : _ ∧ n2 - x.1 < n2 - k) => hI2 x hx.1 hx.2) ⟨⟨by dsimp only; omega, hw56⟩, by dsimp only; omega⟩ ⟨rfl, rfl, rfl, rfl, trivial⟩ (fun _ h => h)
    ·
      refine J.exit ?_
      refine J.then_x ?_
      refine J.then_x ?_
      refine J.blk_eq ?_
      refine J.then_n (J.k hK13 ?_)
      refine J.keepE [(4, _)] ⟨rfl, trivial⟩ ?_
      refine J.seq (fun K19 hK19 => ?_)
      rw [List.take_of_length_le (by omega)] at hw2
      refine J.region ?_
      refine J.e (op_call rfl rfl ent22 (Ct.use1 2 (m' := fun x : Hp => x) (new := fun _ => []) rfl (fun F' _ => bytes_ct F' mp g4 (sgB i ch pt) 0 hw2 (by unfold sgB; have h3 := flat16 hc16; have h4 := flat16 hp16; simp only [List.length_append, List.length_singleton]; omega)))) rfl rfl rfl ?_
      rintro m58 hw58
      change J _ _ _ [F, blk g1 [I i, .slice A1 35 c1, .slice A2 n2 c2] 37, m58] _
      refine J.y (op_extract (v := Str (sgB i ch pt)) rfl rfl rfl) rfl rfl rfl ?_
      refine J.y (op_extract (v := I 0) rfl rfl rfl) rfl rfl rfl ?_
      refine J.y (op_assign rfl rfl) rfl rfl rfl ?_
      refine J.y (op_assign rfl rfl) rfl rfl rfl ?_
      refine J.nil ?_
      refine J.then_n (J.k hK19 ?_)
      refine J.keepE [(2, _), (3, _)] ⟨rfl, rfl, trivial⟩ ?_
      refine J.ret ?_
      exact J.done hw0 (fun _ _ h => h) (res2 rfl rfl rfl) (retOk () rfl trivial [0] rfl (by decide))

def RS.tk (st : RS) (n : Nat) : Nat → RS
  | 0 => st
  | k + 1 => (st.tk n k).take n
def RS.os (st : RS) (n : Nat) : Nat → List (List UInt8)
  | 0 => []
  | k + 1 => st.os n k ++ [(st.tk n k).out n]
def ck (s : List UInt8) (n k : Nat) : List (List UInt8) := (List.range k).map fun j => (s.drop (n * j)).take n
theorem tk3 (s : List UInt8) (n k : Nat) : (⟨s, 3⟩ : RS).tk n k = ⟨s, 3⟩ := by
  induction k with
  | zero => rfl
  | succ k ih => rw [RS.tk, ih]; rfl
theorem tkb (st : RS) (n k : Nat) (h : st.bad = 3) : (st.tk n k).bad = 3 := by
  obtain ⟨s, b⟩ := st
  dsimp only at h
  subst h
  rw [tk3]
theorem takeb (st : RS) (n : Nat) (h : st.bad = 3) : (st.take n).bad = 3 := by
  unfold RS.take
  rw [if_neg (by omega)]; exact h
theorem outb (st : RS) (n : Nat) (h : st.bad = 3) : st.out n = [] := by
  unfold RS.out
  rw [if_neg (by omega)]
theorem lastb (st : RS) (h : st.bad = 3) : st.last = 3 := by
  unfold RS.last
  rw [if_neg (by omega)]; exact h
theorem tk_ok (s : List UInt8) (n : Nat) : ∀ k, n * k ≤ s.length → (⟨s, 0⟩ : RS).tk n k = ⟨s.drop (n * k), 0⟩ := by
  intro k
  induction k with
  | zero => intro _; rfl
  | succ k ih =>
    intro h
    rw [Nat.mul_succ] at h
    rw [RS.tk, ih (by omega), take_ok (by rw [List.length_drop]; omega), List.drop_drop, Nat.mul_succ]
theorem tk_no (s : List UInt8) (n : Nat) : ∀ k, s.length < n * k → ((⟨s, 0⟩ : RS).tk n k).bad = 3 := by
  intro k
  induction k with
  | zero => intro h; omega
  | succ k ih =>
    intro h
    rw [Nat.mul_succ] at h
    rw [RS.tk]
    by_cases h1 : s.length < n * k
    · exact takeb _ _ (ih h1)
    · rw [tk_ok s n k (by omega), take_no (by rw [List.length_drop]; omega)]
theorem os_ok (s : List UInt8) (n : Nat) : ∀ k, n * k ≤ s.length → (⟨s, 0⟩ : RS).os n k = ck s n k := by
  intro k
  induction k with
  | zero => intro _; rfl
  | succ k ih =>
    intro h
    rw [Nat.mul_succ] at h
    rw [RS.os, ih (by omega), tk_ok s n k (by omega), out_ok (by rw [List.length_drop]; omega)]
    unfold ck
    rw [List.range_succ, List.map_append]; rfl
theorem natB_at {s : List UInt8} {k : Nat} (h : k < s.length) : natB ((⟨s.drop k, 0⟩ : RS).out 1) = (s.getD k 0).toNat := by
  rw [out_ok (by rw [List.length_drop]; omega), List.drop_eq_getElem_cons h, List.take_succ_cons, List.take_zero, natB_one, List.getD_eq_getElem?_getD, List.getElem?_eq_getElem h]; rfl
def whyE (s : List UInt8) : Int := if s.length < 562 then 3 else if s.length < 562 + 16 * min (s.getD 561 0).toNat 6 then 3 else if 63 < (s.getD 0 0).toNat ∨ 6 < (s.getD 561 0).toNat then 4 else if 562 + 16 * min (s.getD 561 0).toNat 6 < s.length then 2 else 0
def dA (s : List UInt8) : RS := ((⟨s, 0⟩ : RS).take 1).tk 16 35
def dN (s : List UInt8) : Nat := natB ((dA s).out 1)
def dC (s : List UInt8) : RS := ((dA s).take 1).tk 16 (min (dN s) 6)
theorem dA_no {s : List UInt8} (h : s.length < 561) : (dA s).bad = 3 := by
  unfold dA
  by_cases h0 : 1 ≤ s.length
  · rw [take_ok h0]; exact tk_no _ _ _ (by rw [List.length_drop]; omega)
  · rw [take_no h0, tk3]
theorem dA_ok {s : List UInt8} (h : 561 ≤ s.length) : dA s = ⟨s.drop 561, 0⟩ := by
  unfold dA
  rw [take_ok (by omega), tk_ok _ _ _ (by rw [List.length_drop]; omega), List.drop_drop]
theorem dN_ok {s : List UInt8} (h : 562 ≤ s.length) : dN s = (s.getD 561 0).toNat := by
  unfold dN
  rw [dA_ok (by omega)]
  exact natB_at (by omega)
theorem dC_last (s : List UInt8) : (dC s).last = if s.length < 562 then 3 else if s.length < 562 + 16 * min (s.getD 561 0).toNat 6 then 3 else if 562 + 16 * min (s.getD 561 0).toNat 6 < s.length then 2 else 0 := by
  by_cases h : s.length < 562
  · rw [if_pos h]
    apply lastb
    unfold dC
    apply tkb
    by_cases h1 : s.length < 561
    · exact takeb _ _ (dA_no h1)
    · rw [dA_ok (by omega), take_no (by rw [List.length_drop]; omega)]
  · rw [if_neg h]
    unfold dC
    rw [dN_ok (by omega), dA_ok (by omega), take_ok (by rw [List.length_drop]; omega), List.drop_drop]
    by_cases h1 : s.length < 562 + 16 * min (s.getD 561 0).toNat 6
    · rw [if_pos h1]
      exact lastb _ (tk_no _ _ _ (by rw [List.length_drop]; omega))
    · rw [if_neg h1, tk_ok _ _ _ (by rw [List.length_drop]; omega), List.drop_drop]
      unfold RS.last
      dsimp only
      rw [if_pos rfl]
      by_cases h2 : 562 + 16 * min (s.getD 561 0).toNat 6 < s.length
      · rw [if_pos h2, if_neg]
        intro e
        have := congrArg List.length e
        rw [List.length_drop, List.length_nil] at this
        omega
      · rw [if_neg h2, if_pos]
        exact List.drop_of_length_le (by omega)
theorem d0_ok {s : List UInt8} (h : 1 ≤ s.length) : natB ((⟨s, 0⟩ : RS).out 1) = (s.getD 0 0).toNat := natB_at (k := 0) (by omega)
theorem why_eq (s : List UInt8) : whyE s = if (63 < natB ((⟨s, 0⟩ : RS).out 1) ∨ 6 < dN s) ∧ (dC s).last ≠ 3 then 4 else (dC s).last := by
  rw [dC_last]
  unfold whyE
  by_cases h : s.length < 562
  · rw [if_pos h, if_pos h, if_neg (fun e => e.2 rfl)]
  · rw [if_neg h, if_neg h, d0_ok (by omega), dN_ok (by omega)]
    by_cases h1 : s.length < 562 + 16 * min (s.getD 561 0).toNat 6
    · rw [if_pos h1, if_pos h1, if_neg (fun e => e.2 rfl)]
    · rw [if_neg h1, if_neg h1]
      by_cases h2 : 63 < (s.getD 0 0).toNat ∨ 6 < (s.getD 561 0).toNat
      · rw [if_pos h2, if_pos]
        refine ⟨h2, ?_⟩
        split <;> decide
      · have h6 : ∀ e : Int, ¬ ((63 < (s.getD 0 0).toNat ∨ 6 < (s.getD 561 0).toNat) ∧ e ≠ 3) := fun e h => h2 h.1
        rw [if_neg h2, if_neg (h6 _)]
theorem why_ok {s : List UInt8} (h : whyE s = 0) : (s.getD 561 0).toNat ≤ 6 ∧ (s.getD 0 0).toNat ≤ 63 ∧ s.length = 562 + 16 * (s.getD 561 0).toNat ∧ dN s = (s.getD 561 0).toNat ∧ natB ((⟨s, 0⟩ : RS).out 1) = (s.getD 0 0).toNat ∧ ((⟨s, 0⟩ : RS).take 1).os 16 35 = ck (s.drop 1) 16 35 ∧ ((dA s).take 1).os 16 (s.getD 561 0).toNat = ck (s.drop 562) 16 (s.getD 561 0).toNat := by
  unfold whyE at h
  split at h
  · omega
  · rename_i h1
    split at h
    · omega
    · rename_i h2
      split at h
      · omega
      · rename_i h3
        split at h
        · omega
        · rename_i h4
          have h5 : min (s.getD 561 0).toNat 6 = (s.getD 561 0).toNat := by omega
          rw [h5] at h2 h4
          refine ⟨by omega, by omega, by omega, dN_ok (by omega), d0_ok (by omega), ?_, ?_⟩
          · rw [take_ok (by omega), os_ok _ _ _ (by rw [List.length_drop]; omega)]
          · rw [dA_ok (by omega), take_ok (by rw [List.length_drop]; omega), List.drop_drop, os_ok _ _ _ (by rw [List.length_drop]; omega)]

theorem sdecode_ct (F : Hp) (s : List UInt8) :
    Ct Tryz.prog 27 [Str s] [F] (fun x : (Option Addr × Nat × Hp) × (Option Addr × Nat × Hp) => .tuple #[if whyE s = 0 then .agg #[I (natB ((⟨s, 0⟩ : RS).out 1)), .slice x.1.1 35 x.1.2.1, .slice x.2.1 (dN s) x.2.2.1] else .agg #[I 0, .slice none 0 0, .slice none 0 0], I (whyE s)])
      (fun x => Row x.1.2.2 9 1 x.1.1 35 x.1.2.1 (strsV (((⟨s, 0⟩ : RS).take 1).os 16 35)) ∧ Row x.2.2.2 9 1 x.2.1 (min (dN s) 6) x.2.2.1 (strsV (((dA s).take 1).os 16 (min (dN s) 6)))) (fun x => [F, x.1.2.2, x.2.2.2]) := by
  have hwe := why_eq s
  have hx0 : natB ((⟨s, 0⟩ : RS).out 1) < 256 := by have := natB_lt ((⟨s, 0⟩ : RS).out 1); have h2 := (⟨s, 0⟩ : RS).out_len 1; have h3 := Nat.pow_le_pow_right (n := 256) (by omega) h2; omega
  have hdn : dN s < 256 := by have := natB_lt ((dA s).out 1); have h2 := (dA s).out_len 1; have h3 := Nat.pow_le_pow_right (n := 256) (by omega) h2; unfold dN; omega
  refine Ct.walk Tryz.func27 rfl Tryz.ntmps27 rfl (fun w0 hw0 => ?_)
  change J _ [(0, _)] _ _ _
  refine J.seq (fun K1 hK1 => ?_)
  refine J.region ?_
  refine J.e (op_alloc rfl Tryz.zeroValue37 rfl) rfl rfl rfl ?_
  intro g2 _
  change J _ _ _ [F, blk g2 _ 37] _
  refine J.y (op_assign rfl rfl) rfl rfl rfl ?_
  refine J.nil ?_
  refine J.then_n (J.k hK1 ?_)
  refine J.keepE [(0, _), (2, _)] ⟨rfl, rfl, trivial⟩ ?_
  refine J.seq (fun K2 hK2 => ?_)
  refine J.region ?_
  refine J.y (op_move rfl rfl) rfl rfl rfl ?_
  refine J.e (op_call rfl rfl ent23 (Ct.use (new := fun g => [RSb g ⟨s, 0⟩]) (fun F' _ => (read_ct F' s).mono (φ2 := fun _ => True) (val2 := Ptr) (ms2 := fun g => F' :: [RSb g ⟨s, 0⟩]) id (fun _ _ => rfl) (fun _ h => h) (fun x w0 w _ h => h.pick [1, 0] (by decide))))) rfl rfl rfl ?_
  rintro g10 _
  change J _ _ _ [F, blk g2 _ 37, RSb g10 (⟨s, 0⟩ : RS)] _
  refine J.y (op_assign rfl rfl) rfl rfl rfl ?_
  refine J.nil ?_
  refine J.then_n (J.k hK2 ?_)
  refine J.keepE [(2, _), (4, _)] ⟨rfl, rfl, trivial⟩ ?_
  refine J.seq (fun K3 hK3 => ?_)
  refine J.region ?_
  refine J.y (op_move rfl rfl) rfl rfl rfl ?_
  refine J.e (op_call rfl rfl ent50 (Ct.use1 2 (m' := fun _ : Unit => RSb g10 ((⟨s, 0⟩ : RS).take 1)) (new := fun _ => []) rfl (fun F' _ => rnum_ct F' g10 (⟨s, 0⟩ : RS) 1 (by omega) (by omega)))) rfl rfl rfl ?_
  intro g12 _
  change J _ _ _ [F, blk g2 _ 37, RSb g10 ((⟨s, 0⟩ : RS).take 1)] _
  refine J.y (op_cvU_toI rfl rfl Tryz.underlying29 Tryz.underlying3 (by omega)) rfl rfl rfl ?_
  refine J.y (op_buildStruct (l := [(0, .tmp 13)]) (vs := [I (natB ((⟨s, 0⟩ : RS).out 1))]) (places := [(0, 1), (1, 1), (2, 1)]) (r := [I (natB ((⟨s, 0⟩ : RS).out 1)), .slice none 0 0, .slice none 0 0]) rfl rfl rfl Tryz.underlying37 Tryz.zeroValue37 (fun _ => by kernel_rfl) rfl) rfl rfl rfl ?_
  refine J.e (op_alloc rfl Tryz.zeroValue37 rfl) rfl rfl rfl ?_
  intro g5 _
  change J _ _ _ [F, blk g2 _ 37, RSb g10 ((⟨s, 0⟩ : RS).take 1), blk g5 _ 37] _
  refine J.s (op_storeAll (l := [I 0, .slice none 0 0, .slice none 0 0]) (i := 3) (vs := [I (natB ((⟨s, 0⟩ : RS).out 1)), .slice none 0 0, .slice none 0 0]) rfl rfl rfl rfl rfl Tryz.sizeOf37 rfl rfl) rfl rfl (fun _ _ => ?_)
  change J _ _ _ [F, blk g2 _ 37, RSb g10 ((⟨s, 0⟩ : RS).take 1), blk g5 [I (natB ((⟨s, 0⟩ : RS).out 1)), .slice none 0 0, .slice none 0 0] 37] _
  refine J.nil ?_
  refine J.then_n (J.k hK3 ?_)
  refine J.keepE [(2, _), (4, _), (5, _)] ⟨rfl, rfl, rfl, trivial⟩ ?_
  refine J.seq (fun K4 hK4 => ?_)
  refine J.seq (fun K5 hK5 => ?_)
  refine J.addEmpty [0, 1, 2, 3, 4] [F, blk g2 _ 37, RSb g10 ((⟨s, 0⟩ : RS).take 1), blk g5 [I (natB ((⟨s, 0⟩ : RS).out 1)), .slice none 0 0, .slice none 0 0] 37, (fun _ => none)] rfl (by decide) ?_
  refine J.region ?_
  refine J.y (op_move rfl rfl) rfl rfl rfl ?_
  refine J.nil ?_
  refine J.then_n (J.k hK5 ?_)
  refine J.keepE [(2, _), (4, _), (5, _), (15, _)] ⟨rfl, rfl, rfl, rfl, trivial⟩ ?_
  refine J.block ?_
  refine J.loop (X := Nat × Option Addr × Nat × Hp) (fun x => [(2, Ptr g2), (4, Ptr g10), (5, Ptr g5), (15, I x.1)]) (fun x => [F, blk g2 [I 0, .slice none 0 0, .slice none 0 0] 37, RSb g10 (((⟨s, 0⟩ : RS).take 1).tk 16 x.1), blk g5 [I (natB ((⟨s, 0⟩ : RS).out 1)), .slice x.2.1 x.1 x.2.2.1, .slice none 0 0] 37, x.2.2.2]) (fun x => x.1 ≤ 35 ∧ Row x.2.2.2 9 1 x.2.1 x.1 x.2.2.1 (strsV (((⟨s, 0⟩ : RS).take 1).os 16 x.1))) (fun x => 35 - x.1) (0, none, 0, fun _ => none) (⟨Nat.zero_le _, RowQ.nil⟩) ⟨rfl, rfl, rfl, rfl, trivial⟩ (fun _ h => h) ?_
  rintro ⟨k, A1, c1, m⟩ ⟨hk, hrow⟩ I0 hI0
  dsimp only at hk hrow ⊢
  refine J.seq (fun K6 hK6 => ?_)
  refine J.region ?_
  refine J.y (op_lss rfl rfl rfl) rfl rfl rfl ?_
  refine J.nil ?_
  refine J.then_n (J.k hK6 ?_)
  refine J.keepE [(2, _), (4, _), (5, _), (15, _), (16, _)] ⟨rfl, rfl, rfl, rfl, rfl, trivial⟩ ?_
  refine J.seq (fun K7 hK7 => ?_)
  refine J.ite rfl (fun h16 => ?_) (fun h16 => ?_)
  ·
    refine J.skip ?_
    refine J.then_n (J.k hK7 ?_)
    refine J.keepE [(2, _), (4, _), (5, _), (15, _)] ⟨rfl, rfl, rfl, rfl, trivial⟩ ?_
    refine J.seq (fun K8 hK8 => ?_)
    refine J.block ?_
    refine J.draw [blk g5 [I (natB ((⟨s, 0⟩ : RS).out 1)), .slice A1 k c1, .slice none 0 0] 37] [7] (.y 0 (.y 1 (.y 2 (.e 3 (.e 4 (.e 5 (.y 6 (.e 7 .nil)))))))) Tryz.wide (by decide +kernel) (by simp) ?_
    refine J.dy rfl (op_fieldAddr (j := 1) rfl rfl Tryz.underlying37 rfl Tryz.sizeOf35 rfl) rfl rfl rfl rfl ?_
    refine J.dy rfl (op_loadB 0 rfl rfl rfl Tryz.isAgg35 rfl) rfl rfl rfl rfl ?_
    refine J.dy rfl (op_move rfl rfl) rfl rfl rfl rfl ?_
    refine J.de rfl (op_call rfl rfl ent52 (Ct.use1 2 (m' := fun _ : Unit => RSb g10 ((((⟨s, 0⟩ : RS).take 1).tk 16 k).take 16)) (new := fun _ => []) rfl (fun F' _ => rfixed_ct F' g10 (((⟨s, 0⟩ : RS).take 1).tk 16 k) 16))) rfl rfl rfl (by simp) ?_
    intro g20 _
    change J _ _ _ [F, blk g2 [I 0, .slice none 0 0, .slice none 0 0] 37, RSb g10 ((((⟨s, 0⟩ : RS).take 1).tk 16 k).take 16), blk g5 [I (natB ((⟨s, 0⟩ : RS).out 1)), .slice A1 k c1, .slice none 0 0] 37, m] _
    refine J.de rfl (op_buildSlice (l := [.tmp 20]) (xs := [[Str ((((⟨s, 0⟩ : RS).take 1).tk 16 k).out 16)]]) rfl rfl rfl rfl Tryz.underlying35 el9 rfl (by decide) (by decide) (by simp)) rfl rfl rfl (by simp) ?_
    intro g21 _
    change J _ _ _ [F, blk g2 [I 0, .slice none 0 0, .slice none 0 0] 37, RSb g10 ((((⟨s, 0⟩ : RS).take 1).tk 16 k).take 16), blk g5 [I (natB ((⟨s, 0⟩ : RS).out 1)), .slice A1 k c1, .slice none 0 0] 37, m, blk g21 [Str ((((⟨s, 0⟩ : RS).take 1).tk 16 k).out 16)] 9] _
    refine J.de rfl (op_append (i := 4) (m2 := blk g21 [Str ((((⟨s, 0⟩ : RS).take 1).tk 16 k).out 16)] 9) (ys := strsV [(((⟨s, 0⟩ : RS).take 1).tk 16 k).out 16]) rfl rfl rfl Tryz.underlying35 Tryz.underlying35 el9 rfl hrow (by simp) (slS [(((⟨s, 0⟩ : RS).take 1).tk 16 k).out 16] rfl) (by simp [strsV, Value.oneCell']) (by omega) (by omega)) rfl rfl rfl (by simp) ?_
    rintro ⟨A22, c22, m22⟩ h22
    try dsimp only at h22
    change J _ ((22, .slice A22 (k + 1) c22) :: _) _ [F, blk g2 [I 0, .slice none 0 0, .slice none 0 0] 37, RSb g10 ((((⟨s, 0⟩ : RS).take 1).tk 16 k).take 16), blk g5 [I (natB ((⟨s, 0⟩ : RS).out 1)), .slice A1 k c1, .slice none 0 0] 37, m22, blk g21 [Str ((((⟨s, 0⟩ : RS).take 1).tk 16 k).out 16)] 9] _
    rw [← strsV_app] at h22
    change Row m22 _ _ _ _ _ (strsV (((⟨s, 0⟩ : RS).take 1).os 16 (k + 1))) at h22
    refine J.dy rfl (op_fieldAddr (j := 1) rfl rfl Tryz.underlying37 rfl Tryz.sizeOf35 rfl) rfl rfl rfl rfl ?_
    refine J.ds rfl (op_store (i := 3) (vs := [.slice A22 (k + 1) c22]) rfl rfl rfl rfl rfl Tryz.sizeOf35 rfl (by simp)) rfl rfl rfl (fun _ _ => ?_)
    change J _ _ _ [F, blk g2 [I 0, .slice none 0 0, .slice none 0 0] 37, RSb g10 ((((⟨s, 0⟩ : RS).take 1).tk 16 k).take 16), blk g5 [I (natB ((⟨s, 0⟩ : RS).out 1)), .slice A22 (k + 1) c22, .slice none 0 0] 37, m22, blk g21 [Str ((((⟨s, 0⟩ : RS).take 1).tk 16 k).out 16)] 9] _
    refine J.dnil ?_
    refine J.blk_n ?_
    refine J.then_n (J.k hK8 ?_)
    refine J.keepE [(2, _), (4, _), (5, _), (15, _)] ⟨rfl, rfl, rfl, rfl, trivial⟩ ?_
    refine J.perm [0, 1, 2, 3, 4] [F, blk g2 [I 0, .slice none 0 0, .slice none 0 0] 37, RSb g10 ((((⟨s, 0⟩ : RS).take 1).tk 16 k).take 16), blk g5 [I (natB ((⟨s, 0⟩ : RS).out 1)), .slice A22 (k + 1) c22, .slice none 0 0] 37, m22] rfl (by decide) ?_
    refine J.region ?_
    refine J.y ((op_add rfl rfl rfl (by first | omega | (refine ⟨?_, ?_⟩ <;> omega))).as (v' := I ((k + 1 : Nat) : Int)) (congrArg I (by omega))) rfl rfl rfl ?_
    refine J.y (op_move rfl rfl) rfl rfl rfl ?_
    refine J.nil ?_
    refine J.then_n ?_
    exact J.kk (k + 1, A22, c22, m22) (fun x (hx : _ ∧ 35 - x.1 < 35 - k) => hI0 x hx.1 hx.2) ⟨⟨by dsimp only; omega, h22⟩, by dsimp only; omega⟩ ⟨rfl, rfl, rfl, rfl, trivial⟩ (fun _ h => h)
  ·
    refine J.exit ?_
    refine J.then_x ?_
    refine J.then_x ?_
    refine J.blk_eq ?_
    refine J.then_n (J.k hK4 ?_)
    refine J.keepE [(2, _), (4, _), (5, _)] ⟨rfl, rfl, rfl, trivial⟩ ?_
    refine J.seq (fun K9 hK9 => ?_)
    have hk35 : 35 = k := by omega
    subst hk35
    refine J.addEmpty [0, 1, 2, 3, 4, 5] [F, blk g2 [I 0, .slice none 0 0, .slice none 0 0] 37, RSb g10 (dA s), blk g5 [I (natB ((⟨s, 0⟩ : RS).out 1)), .slice A1 35 c1, .slice none 0 0] 37, m, (fun _ => none)] rfl (by decide) ?_
    refine J.region ?_
    refine J.y (op_move rfl rfl) rfl rfl rfl ?_
    refine J.e (op_call rfl rfl ent50 (Ct.use1 2 (m' := fun _ : Unit => RSb g10 ((dA s).take 1)) (new := fun _ => []) rfl (fun F' _ => rnum_ct F' g10 (dA s) 1 (by omega) (by omega)))) rfl rfl rfl ?_
    intro g26 _
    change J _ _ _ [F, blk g2 [I 0, .slice none 0 0, .slice none 0 0] 37, RSb g10 ((dA s).take 1), blk g5 [I (natB ((⟨s, 0⟩ : RS).out 1)), .slice A1 35 c1, .slice none 0 0] 37, m, (fun _ => none)] _
    refine J.y ((op_cvU_toI rfl rfl Tryz.underlying29 Tryz.underlying3 (by show dN s < _; omega)).as (v' := I (dN s : Nat)) rfl) rfl rfl rfl ?_
    refine J.y (op_assign rfl rfl) rfl rfl rfl ?_
    refine J.nil ?_
    refine J.then_n (J.k hK9 ?_)
    refine J.keepE [(2, _), (4, _), (5, _), (6, _)] ⟨rfl, rfl, rfl, rfl, trivial⟩ ?_
    refine J.cut (fun _ : Unit => [(2, Ptr g2), (4, Ptr g10), (5, Ptr g5), (6, I (dN s)), (7, .bool (decide (63 < natB ((⟨s, 0⟩ : RS).out 1) ∨ 6 < dN s)))]) (fun _ => [F, blk g2 [I 0, .slice none 0 0, .slice none 0 0] 37, RSb g10 ((dA s).take 1), blk g5 [I (natB ((⟨s, 0⟩ : RS).out 1)), .slice A1 35 c1, .slice none 0 0] 37, m, fun _ => none]) (fun _ => True) (fun K10 hK10 => ?_) ?_
    ·
      refine J.region ?_
      refine J.y (op_fieldAddr (j := 0) rfl rfl Tryz.underlying37 rfl Tryz.sizeOf3 rfl) rfl rfl rfl ?_
      refine J.y (op_loadB 3 rfl rfl rfl Tryz.isAgg3 rfl) rfl rfl rfl ?_
      refine J.y (op_gtr rfl rfl rfl) rfl rfl rfl ?_
      refine J.y (op_move rfl rfl) rfl rfl rfl ?_
      refine J.split (d := 31) rfl (fun h31 => ?_) (fun h31 => ?_)
      ·
        refine J.no (Wan.is rfl rfl rfl rfl rfl) rfl rfl ?_
        refine J.no (Wan.is rfl rfl rfl rfl rfl) rfl rfl ?_
        refine J.y (op_pickT rfl rfl rfl) rfl rfl rfl ?_
        refine J.y (op_assign rfl rfl) rfl rfl rfl ?_
        refine J.nil ?_
        refine J.then_n ?_
        exact J.kk () hK10 trivial ⟨rfl, rfl, rfl, rfl, congrArg some (congrArg Value.bool (decide_eq_true (Or.inl (by omega))).symm), trivial⟩ (fun _ h => h)
      ·
        refine J.yg (Wan.is rfl rfl rfl rfl rfl) (op_move rfl rfl) rfl rfl ?_
        refine J.yg (Wan.is rfl rfl rfl rfl rfl) (op_gtr rfl rfl rfl) rfl rfl ?_
        refine J.y (op_pickF rfl rfl rfl) rfl rfl rfl ?_
        refine J.y (op_assign rfl rfl) rfl rfl rfl ?_
        refine J.nil ?_
        refine J.then_n ?_
        exact J.kk () hK10 trivial ⟨rfl, rfl, rfl, rfl, congrArg some (congrArg Value.bool (decide_eq_decide.2 (by omega))), trivial⟩ (fun _ h => h)
    rintro _ _
    refine J.seq (fun K11 hK11 => ?_)
    refine J.seq (fun K12 hK12 => ?_)
    refine J.region ?_
    refine J.y (op_move rfl rfl) rfl rfl rfl ?_
    refine J.y ((op_min rfl rfl rfl).as (v' := I ((min (dN s) 6 : Nat) : Int)) (congrArg I (by omega))) rfl rfl rfl ?_
    refine J.y (op_move rfl rfl) rfl rfl rfl ?_
    refine J.nil ?_
    refine J.then_n (J.k hK12 ?_)
    refine J.keepE [(2, _), (4, _), (5, _), (7, _), (36, _), (37, _)] ⟨rfl, rfl, rfl, rfl, rfl, rfl, trivial⟩ ?_
    refine J.block ?_
    refine J.loop (X := Nat × Option Addr × Nat × Hp) (fun x => [(2, Ptr g2), (4, Ptr g10), (5, Ptr g5), (7, .bool (decide (63 < natB ((⟨s, 0⟩ : RS).out 1) ∨ 6 < dN s))), (36, I (min (dN s) 6 : Nat)), (37, I x.1)]) (fun x => [F, blk g2 [I 0, .slice none 0 0, .slice none 0 0] 37, RSb g10 (((dA s).take 1).tk 16 x.1), blk g5 [I (natB ((⟨s, 0⟩ : RS).out 1)), .slice A1 35 c1, .slice x.2.1 x.1 x.2.2.1] 37, m, x.2.2.2]) (fun x => x.1 ≤ min (dN s) 6 ∧ Row x.2.2.2 9 1 x.2.1 x.1 x.2.2.1 (strsV (((dA s).take 1).os 16 x.1))) (fun x => min (dN s) 6 - x.1) (0, none, 0, fun _ => none) (⟨Nat.zero_le _, RowQ.nil⟩) ⟨rfl, rfl, rfl, rfl, rfl, rfl, trivial⟩ (fun _ h => h) ?_
    rintro ⟨k, A2, c2, mp⟩ ⟨hk2, hrow2⟩ I2 hI2
    dsimp only at hk2 hrow2 ⊢
    refine J.seq (fun K13 hK13 => ?_)
    refine J.region ?_
    refine J.y (op_lss rfl rfl rfl) rfl rfl rfl ?_
    refine J.nil ?_
    refine J.then_n (J.k hK13 ?_)
    refine J.keepE [(2, _), (4, _), (5, _), (7, _), (36, _), (37, _), (38, _)] ⟨rfl, rfl, rfl, rfl, rfl, rfl, rfl, trivial⟩ ?_
    refine J.seq (fun K14 hK14 => ?_)
    refine J.ite rfl (fun h38 => ?_) (fun h38 => ?_)
    ·
      refine J.skip ?_
      refine J.then_n (J.k hK14 ?_)
      refine J.keepE [(2, _), (4, _), (5, _), (7, _), (36, _), (37, _)] ⟨rfl, rfl, rfl, rfl, rfl, rfl, trivial⟩ ?_
      refine J.seq (fun K15 hK15 => ?_)
      refine J.block ?_
      refine J.draw [blk g5 [I (natB ((⟨s, 0⟩ : RS).out 1)), .slice A1 35 c1, .slice A2 k c2] 37] [7] (.y 0 (.y 1 (.y 2 (.e 3 (.e 4 (.e 5 (.y 6 (.e 7 .nil)))))))) Tryz.wide (by decide +kernel) (by simp) ?_
      refine J.dy rfl (op_fieldAddr (j := 2) rfl rfl Tryz.underlying37 rfl Tryz.sizeOf35 rfl) rfl rfl rfl rfl ?_
      refine J.dy rfl (op_loadB 0 rfl rfl rfl Tryz.isAgg35 rfl) rfl rfl rfl rfl ?_
      refine J.dy rfl (op_move rfl rfl) rfl rfl rfl rfl ?_
      refine J.de rfl (op_call rfl rfl ent52 (Ct.use1 2 (m' := fun _ : Unit => RSb g10 ((((dA s).take 1).tk 16 k).take 16)) (new := fun _ => []) rfl (fun F' _ => rfixed_ct F' g10 (((dA s).take 1).tk 16 k) 16))) rfl rfl rfl (by simp) ?_
      intro g42 _
      change J _ _ _ [F, blk g2 [I 0, .slice none 0 0, .slice none 0 0] 37, RSb g10 ((((dA s).take 1).tk 16 k).take 16), blk g5 [I (natB ((⟨s, 0⟩ : RS).out 1)), .slice A1 35 c1, .slice A2 k c2] 37, m, mp] _
      refine J.de rfl (op_buildSlice (l := [.tmp 42]) (xs := [[Str ((((dA s).take 1).tk 16 k).out 16)]]) rfl rfl rfl rfl Tryz.underlying35 el9 rfl (by decide) (by decide) (by simp)) rfl rfl rfl (by simp) ?_
      intro g43 _
      change J _ _ _ [F, blk g2 [I 0, .slice none 0 0, .slice none 0 0] 37, RSb g10 ((((dA s).take 1).tk 16 k).take 16), blk g5 [I (natB ((⟨s, 0⟩ : RS).out 1)), .slice A1 35 c1, .slice A2 k c2] 37, m, mp, blk g43 [Str ((((dA s).take 1).tk 16 k).out 16)] 9] _
      refine J.de rfl (op_append (i := 5) (m2 := blk g43 [Str ((((dA s).take 1).tk 16 k).out 16)] 9) (ys := strsV [(((dA s).take 1).tk 16 k).out 16]) rfl rfl rfl Tryz.underlying35 Tryz.underlying35 el9 rfl hrow2 (by simp) (slS [(((dA s).take 1).tk 16 k).out 16] rfl) (by simp [strsV, Value.oneCell']) (by omega) (by omega)) rfl rfl rfl (by simp) ?_
      rintro ⟨A44, c44, m44⟩ h44
      try dsimp only at h44
      change J _ ((44, .slice A44 (k + 1) c44) :: _) _ [F, blk g2 [I 0, .slice none 0 0, .slice none 0 0] 37, RSb g10 ((((dA s).take 1).tk 16 k).take 16), blk g5 [I (natB ((⟨s, 0⟩ : RS).out 1)), .slice A1 35 c1, .slice A2 k c2] 37, m, m44, blk g43 [Str ((((dA s).take 1).tk 16 k).out 16)] 9] _
      rw [← strsV_app] at h44
      change Row m44 _ _ _ _ _ (strsV (((dA s).take 1).os 16 (k + 1))) at h44
      refine J.dy rfl (op_fieldAddr (j := 2) rfl rfl Tryz.underlying37 rfl Tryz.sizeOf35 rfl) rfl rfl rfl rfl ?_
      refine J.ds rfl (op_store (i := 3) (vs := [.slice A44 (k + 1) c44]) rfl rfl rfl rfl rfl Tryz.sizeOf35 rfl (by simp)) rfl rfl rfl (fun _ _ => ?_)
      change J _ _ _ [F, blk g2 [I 0, .slice none 0 0, .slice none 0 0] 37, RSb g10 ((((dA s).take 1).tk 16 k).take 16), blk g5 [I (natB ((⟨s, 0⟩ : RS).out 1)), .slice A1 35 c1, .slice A44 (k + 1) c44] 37, m, m44, blk g43 [Str ((((dA s).take 1).tk 16 k).out 16)] 9] _
      refine J.dnil ?_
      refine J.blk_n ?_
      refine J.then_n (J.k hK15 ?_)
      refine J.keepE [(2, _), (4, _), (5, _), (7, _), (36, _), (37, _)] ⟨rfl, rfl, rfl, rfl, rfl, rfl, trivial⟩ ?_
      refine J.perm [0, 1, 2, 3, 4, 5] [F, blk g2 [I 0, .slice none 0 0, .slice none 0 0] 37, RSb g10 ((((dA s).take 1).tk 16 k).take 16), blk g5 [I (natB ((⟨s, 0⟩ : RS).out 1)), .slice A1 35 c1, .slice A44 (k + 1) c44] 37, m, m44] rfl (by decide) ?_
      refine J.region ?_
      refine J.y ((op_add rfl rfl rfl (by first | omega | (refine ⟨?_, ?_⟩ <;> omega))).as (v' := I ((k + 1 : Nat) : Int)) (congrArg I (by omega))) rfl rfl rfl ?_
      refine J.y (op_move rfl rfl) rfl rfl rfl ?_
      refine J.nil ?_
      refine J.then_n ?_
      exact J.kk (k + 1, A44, c44, m44) (fun x (hx : _ ∧ min (dN s) 6 - x.1 < min (dN s) 6 - k) => hI2 x hx.1 hx.2) ⟨⟨by dsimp only; omega, h44⟩, by dsimp only; omega⟩ ⟨rfl, rfl, rfl, rfl, rfl, rfl, trivial⟩ (fun _ h => h)
    ·
      refine J.exit ?_
      refine J.then_x ?_
      refine J.then_x ?_
      refine J.blk_eq ?_
      refine J.then_n (J.k hK11 ?_)
      refine J.keepE [(2, _), (4, _), (5, _), (7, _)] ⟨rfl, rfl, rfl, rfl, trivial⟩ ?_
      refine J.seq (fun K16 hK16 => ?_)
      refine J.seq (fun K17 hK17 => ?_)
      have hkm : min (dN s) 6 = k := by omega
      subst hkm
      refine J.perm [0, 1, 2, 3, 4, 5] [F, blk g2 [I 0, .slice none 0 0, .slice none 0 0] 37, RSb g10 (dC s), blk g5 [I (natB ((⟨s, 0⟩ : RS).out 1)), .slice A1 35 c1, .slice A2 (min (dN s) 6) c2] 37, m, mp] rfl (by decide) ?_
      refine J.region ?_
      refine J.y (op_move rfl rfl) rfl rfl rfl ?_
      refine J.e (op_call rfl rfl ent25 (Ct.use1 2 (m' := fun _ : Unit => RSb g10 (dC s)) (new := fun _ => []) rfl (fun F' _ => end_ct F' g10 (dC s)))) rfl rfl rfl ?_
      intro g48 _
      change J _ _ _ [F, blk g2 [I 0, .slice none 0 0, .slice none 0 0] 37, RSb g10 (dC s), blk g5 [I (natB ((⟨s, 0⟩ : RS).out 1)), .slice A1 35 c1, .slice A2 (min (dN s) 6) c2] 37, m, mp] _
      refine J.y (op_assign rfl rfl) rfl rfl rfl ?_
      refine J.nil ?_
      refine J.then_n (J.k hK17 ?_)
      refine J.keepE [(2, _), (5, _), (7, _), (8, _)] ⟨rfl, rfl, rfl, rfl, trivial⟩ ?_
      refine J.block ?_
      refine J.seq (fun K18 hK18 => ?_)
      refine J.region ?_
      refine J.y (op_move rfl rfl) rfl rfl rfl ?_
      refine J.y (op_move rfl rfl) rfl rfl rfl ?_
      refine J.split (d := 51) rfl (fun h51 => ?_) (fun h51 => ?_)
      ·
        refine J.yg (Wan.is rfl rfl rfl rfl rfl) (op_move rfl rfl) rfl rfl ?_
        refine J.yg (Wan.is rfl rfl rfl rfl rfl) (op_neq rfl rfl rfl) rfl rfl ?_
        refine J.y (op_pickT rfl rfl rfl) rfl rfl rfl ?_
        refine J.y (op_assign rfl rfl) rfl rfl rfl ?_
        refine J.nil ?_
        refine J.then_n (J.k hK18 ?_)
        refine J.keepE [(2, _), (5, _), (8, _), (49, _)] ⟨rfl, rfl, rfl, rfl, trivial⟩ ?_
        refine J.ite rfl (fun h49 => ?_) (fun h49 => ?_)
        ·
          refine J.seq (fun K19 hK19 => ?_)
          refine J.region ?_
          refine J.y (op_buildStruct (l := []) (vs := []) (places := [(0, 1), (1, 1), (2, 1)]) (r := [I 0, .slice none 0 0, .slice none 0 0]) rfl rfl rfl Tryz.underlying37 Tryz.zeroValue37 (fun _ => by kernel_rfl) rfl) rfl rfl rfl ?_
          refine J.s (op_storeAll (l := [I 0, .slice none 0 0, .slice none 0 0]) (i := 1) (vs := [I 0, .slice none 0 0, .slice none 0 0]) rfl rfl rfl rfl rfl Tryz.sizeOf37 rfl rfl) rfl rfl (fun _ _ => ?_)
          change J _ _ _ [F, blk g2 [I 0, .slice none 0 0, .slice none 0 0] 37, RSb g10 (dC s), blk g5 [I (natB ((⟨s, 0⟩ : RS).out 1)), .slice A1 35 c1, .slice A2 (min (dN s) 6) c2] 37, m, mp] _
          refine J.y (op_assign rfl rfl) rfl rfl rfl ?_
          refine J.nil ?_
          refine J.then_n (J.k hK19 ?_)
          refine J.keepE [(2, _), (3, _)] ⟨rfl, rfl, trivial⟩ ?_
          refine J.ret ?_
          refine J.blk_r ?_
          refine J.then_r ?_
          exact J.done hw0 (fun _ _ h => h) (rv2 rfl (RV.blkA 1 rfl rfl Tryz.isAgg37 Tryz.sizeOf37) rfl) (retOk ((A1, c1, m), (A2, c2, mp)) (by rw [show whyE s = 4 by rw [hwe, if_pos ⟨h51, h49⟩], if_neg (by decide)]) ⟨hrow, hrow2⟩ [0, 4, 5] rfl (by decide))
        ·
          refine J.seq (fun K20 hK20 => ?_)
          refine J.region ?_
          refine J.y (op_move rfl rfl) rfl rfl rfl ?_
          refine J.y (op_neq rfl rfl rfl) rfl rfl rfl ?_
          refine J.y (op_assign rfl rfl) rfl rfl rfl ?_
          refine J.nil ?_
          refine J.then_n (J.k hK20 ?_)
          refine J.keepE [(2, _), (5, _), (8, _), (56, _)] ⟨rfl, rfl, rfl, rfl, trivial⟩ ?_
          refine J.ite rfl (fun h56 => ?_) (fun h56 => ?_)
          ·
            refine J.seq (fun K21 hK21 => ?_)
            refine J.region ?_
            refine J.y (op_buildStruct (l := []) (vs := []) (places := [(0, 1), (1, 1), (2, 1)]) (r := [I 0, .slice none 0 0, .slice none 0 0]) rfl rfl rfl Tryz.underlying37 Tryz.zeroValue37 (fun _ => by kernel_rfl) rfl) rfl rfl rfl ?_
            refine J.y (op_move rfl rfl) rfl rfl rfl ?_
            refine J.s (op_storeAll (l := [I 0, .slice none 0 0, .slice none 0 0]) (i := 1) (vs := [I 0, .slice none 0 0, .slice none 0 0]) rfl rfl rfl rfl rfl Tryz.sizeOf37 rfl rfl) rfl rfl (fun _ _ => ?_)
            change J _ _ _ [F, blk g2 [I 0, .slice none 0 0, .slice none 0 0] 37, RSb g10 (dC s), blk g5 [I (natB ((⟨s, 0⟩ : RS).out 1)), .slice A1 35 c1, .slice A2 (min (dN s) 6) c2] 37, m, mp] _
            refine J.y (op_assign rfl rfl) rfl rfl rfl ?_
            refine J.nil ?_
            refine J.then_n (J.k hK21 ?_)
            refine J.keepE [(2, _), (3, _)] ⟨rfl, rfl, trivial⟩ ?_
            refine J.ret ?_
            refine J.blk_r ?_
            refine J.then_r ?_
            exact J.done hw0 (fun _ _ h => h) (rv2 rfl (RV.blkA 1 rfl rfl Tryz.isAgg37 Tryz.sizeOf37) rfl) (retOk ((A1, c1, m), (A2, c2, mp)) (by rw [show whyE s = (dC s).last by rw [hwe, if_neg (fun q => h49 q.2)], if_neg h56]) ⟨hrow, hrow2⟩ [0, 4, 5] rfl (by decide))
          ·
            refine J.skip ?_
            refine J.blk_n ?_
            refine J.then_n (J.k hK16 ?_)
            refine J.keepE [(2, _), (5, _)] ⟨rfl, rfl, trivial⟩ ?_
            refine J.seq (fun K22 hK22 => ?_)
            refine J.region ?_
            refine J.y (op_loadBA 3 rfl rfl rfl Tryz.isAgg37 Tryz.sizeOf37 rfl) rfl rfl rfl ?_
            refine J.s (op_storeAll (l := [I 0, .slice none 0 0, .slice none 0 0]) (i := 1) (vs := [I (natB ((⟨s, 0⟩ : RS).out 1)), .slice A1 35 c1, .slice A2 (min (dN s) 6) c2]) rfl rfl rfl rfl rfl Tryz.sizeOf37 rfl rfl) rfl rfl (fun _ _ => ?_)
            change J _ _ _ [F, blk g2 [I (natB ((⟨s, 0⟩ : RS).out 1)), .slice A1 35 c1, .slice A2 (min (dN s) 6) c2] 37, RSb g10 (dC s), blk g5 [I (natB ((⟨s, 0⟩ : RS).out 1)), .slice A1 35 c1, .slice A2 (min (dN s) 6) c2] 37, m, mp] _
            refine J.y (op_assign rfl rfl) rfl rfl rfl ?_
            refine J.nil ?_
            refine J.then_n (J.k hK22 ?_)
            refine J.keepE [(2, _), (3, _)] ⟨rfl, rfl, trivial⟩ ?_
            refine J.ret ?_
            exact J.done hw0 (fun _ _ h => h) (rv2 rfl (RV.blkA 1 rfl rfl Tryz.isAgg37 Tryz.sizeOf37) rfl) (retOk ((A1, c1, m), (A2, c2, mp)) (by exfalso; omega) ⟨hrow, hrow2⟩ [0, 4, 5] rfl (by decide))
      ·
        refine J.no (Wan.is rfl rfl rfl rfl rfl) rfl rfl ?_
        refine J.no (Wan.is rfl rfl rfl rfl rfl) rfl rfl ?_
        refine J.y (op_pickF rfl rfl rfl) rfl rfl rfl ?_
        refine J.y (op_assign rfl rfl) rfl rfl rfl ?_
        refine J.nil ?_
        refine J.then_n (J.k hK18 ?_)
        refine J.keepE [(2, _), (5, _), (8, _), (49, _)] ⟨rfl, rfl, rfl, rfl, trivial⟩ ?_
        refine J.condF rfl rfl ?_
        refine J.seq (fun K23 hK23 => ?_)
        refine J.region ?_
        refine J.y (op_move rfl rfl) rfl rfl rfl ?_
        refine J.y (op_neq rfl rfl rfl) rfl rfl rfl ?_
        refine J.y (op_assign rfl rfl) rfl rfl rfl ?_
        refine J.nil ?_
        refine J.then_n (J.k hK23 ?_)
        refine J.keepE [(2, _), (5, _), (8, _), (56, _)] ⟨rfl, rfl, rfl, rfl, trivial⟩ ?_
        refine J.ite rfl (fun h56 => ?_) (fun h56 => ?_)
        ·
          refine J.seq (fun K24 hK24 => ?_)
          refine J.region ?_
          refine J.y (op_buildStruct (l := []) (vs := []) (places := [(0, 1), (1, 1), (2, 1)]) (r := [I 0, .slice none 0 0, .slice none 0 0]) rfl rfl rfl Tryz.underlying37 Tryz.zeroValue37 (fun _ => by kernel_rfl) rfl) rfl rfl rfl ?_
          refine J.y (op_move rfl rfl) rfl rfl rfl ?_
          refine J.s (op_storeAll (l := [I 0, .slice none 0 0, .slice none 0 0]) (i := 1) (vs := [I 0, .slice none 0 0, .slice none 0 0]) rfl rfl rfl rfl rfl Tryz.sizeOf37 rfl rfl) rfl rfl (fun _ _ => ?_)
          change J _ _ _ [F, blk g2 [I 0, .slice none 0 0, .slice none 0 0] 37, RSb g10 (dC s), blk g5 [I (natB ((⟨s, 0⟩ : RS).out 1)), .slice A1 35 c1, .slice A2 (min (dN s) 6) c2] 37, m, mp] _
          refine J.y (op_assign rfl rfl) rfl rfl rfl ?_
          refine J.nil ?_
          refine J.then_n (J.k hK24 ?_)
          refine J.keepE [(2, _), (3, _)] ⟨rfl, rfl, trivial⟩ ?_
          refine J.ret ?_
          refine J.blk_r ?_
          refine J.then_r ?_
          exact J.done hw0 (fun _ _ h => h) (rv2 rfl (RV.blkA 1 rfl rfl Tryz.isAgg37 Tryz.sizeOf37) rfl) (retOk ((A1, c1, m), (A2, c2, mp)) (by rw [show whyE s = (dC s).last by rw [hwe, if_neg (fun q => h51 q.1)], if_neg h56]) ⟨hrow, hrow2⟩ [0, 4, 5] rfl (by decide))
        ·
          refine J.skip ?_
          refine J.blk_n ?_
          refine J.then_n (J.k hK16 ?_)
          refine J.keepE [(2, _), (5, _)] ⟨rfl, rfl, trivial⟩ ?_
          refine J.seq (fun K25 hK25 => ?_)
          refine J.region ?_
          refine J.y (op_loadBA 3 rfl rfl rfl Tryz.isAgg37 Tryz.sizeOf37 rfl) rfl rfl rfl ?_
          refine J.s (op_storeAll (l := [I 0, .slice none 0 0, .slice none 0 0]) (i := 1) (vs := [I (natB ((⟨s, 0⟩ : RS).out 1)), .slice A1 35 c1, .slice A2 (min (dN s) 6) c2]) rfl rfl rfl rfl rfl Tryz.sizeOf37 rfl rfl) rfl rfl (fun _ _ => ?_)
          change J _ _ _ [F, blk g2 [I (natB ((⟨s, 0⟩ : RS).out 1)), .slice A1 35 c1, .slice A2 (min (dN s) 6) c2] 37, RSb g10 (dC s), blk g5 [I (natB ((⟨s, 0⟩ : RS).out 1)), .slice A1 35 c1, .slice A2 (min (dN s) 6) c2] 37, m, mp] _
          refine J.y (op_assign rfl rfl) rfl rfl rfl ?_
          refine J.nil ?_
          refine J.then_n (J.k hK25 ?_)
          refine J.keepE [(2, _), (3, _)] ⟨rfl, rfl, trivial⟩ ?_
          refine J.ret ?_
          exact J.done hw0 (fun _ _ h => h) (rv2 rfl (RV.blkA 1 rfl rfl Tryz.isAgg37 Tryz.sizeOf37) rfl) (retOk ((A1, c1, m), (A2, c2, mp)) (by rw [show whyE s = 0 by rw [hwe, if_neg (fun q => h51 q.1)]; omega, if_pos rfl, show min (dN s) 6 = dN s by omega]) ⟨hrow, hrow2⟩ [0, 4, 5] rfl (by decide))

theorem xnew_bad (F : Hp) (seed : List UInt8) (h : Int) (hh : 6 < h) :
    Ct Tryz.prog 5 [Str seed, I h] [F] (fun _ : Unit => .tuple #[.pointer none, I 1]) (fun _ => True) (fun _ => [F]) := by
  refine Ct.walk Tryz.func5 rfl Tryz.ntmps5 rfl (fun w0 hw0 => ?_)
  change J _ [(0, _), (1, _)] _ _ _
  refine J.seq (fun K1 hK1 => ?_)
  refine J.region ?_
  refine J.y (op_assign rfl rfl) rfl rfl rfl ?_
  refine J.y (op_assign rfl rfl) rfl rfl rfl ?_
  refine J.nil ?_
  refine J.then_n (J.k hK1 ?_)
  refine J.keepE [(0, _), (1, _)] ⟨rfl, rfl, trivial⟩ ?_
  refine J.seq (fun K2 hK2 => ?_)
  refine J.seq (fun K3 hK3 => ?_)
  refine J.region ?_
  refine J.y (op_move rfl rfl) rfl rfl rfl ?_
  refine J.y ((op_lss rfl rfl rfl).as (v' := .bool false) (congrArg Value.bool (decide_eq_false (by omega)))) rfl rfl rfl ?_
  refine J.y (op_move rfl rfl) rfl rfl rfl ?_
  refine J.yg (Wan.is rfl rfl rfl rfl rfl) (op_move rfl rfl) rfl rfl ?_
  refine J.yg (Wan.is rfl rfl rfl rfl rfl) ((op_gtr rfl rfl rfl).as (v' := .bool true) (congrArg Value.bool (decide_eq_true (by omega)))) rfl rfl ?_
  refine J.y (op_pickF rfl rfl rfl) rfl rfl rfl ?_
  refine J.nil ?_
  refine J.then_n (J.k hK3 ?_)
  refine J.keepE [(0, _), (1, _), (15, _)] ⟨rfl, rfl, rfl, trivial⟩ ?_
  refine J.condT rfl rfl ?_
  refine J.seq (fun K4 hK4 => ?_)
  refine J.region ?_
  refine J.y (op_assign rfl rfl) rfl rfl rfl ?_
  refine J.y (op_assign rfl rfl) rfl rfl rfl ?_
  refine J.nil ?_
  refine J.then_n (J.k hK4 ?_)
  refine J.keepE [(4, _), (5, _)] ⟨rfl, rfl, trivial⟩ ?_
  refine J.ret ?_
  refine J.then_r ?_
  exact J.done hw0 (fun _ _ h => h) (res2 rfl rfl rfl) (retOk () rfl trivial [0] rfl (by decide))

theorem xcount_nil (F : Hp) : Ct Tryz.prog 42 [.pointer none] [F] (fun _ : Unit => I 0) (fun _ => True) (fun _ => [F]) := by
  refine Ct.walk Tryz.func42 rfl Tryz.ntmps42 rfl (fun w0 hw0 => ?_)
  change J _ [(0, _)] _ _ _
  refine J.seq (fun K1 hK1 => ?_)
  refine J.region ?_
  refine J.y (op_assign rfl rfl) rfl rfl rfl ?_
  refine J.nil ?_
  refine J.then_n (J.k hK1 ?_)
  refine J.keepE [(0, _)] ⟨rfl, trivial⟩ ?_
  refine J.seq (fun K2 hK2 => ?_)
  refine J.seq (fun K3 hK3 => ?_)
  refine J.region ?_
  refine J.y (op_move rfl rfl) rfl rfl rfl ?_
  refine J.y ((op_peq Tryz.underlying25 rfl rfl rfl).as (v' := .bool true) rfl) rfl rfl rfl ?_
  refine J.nil ?_
  refine J.then_n (J.k hK3 ?_)
  refine J.keepE [(0, _), (4, _)] ⟨rfl, rfl, trivial⟩ ?_
  refine J.condT rfl rfl ?_
  refine J.seq (fun K4 hK4 => ?_)
  refine J.region ?_
  refine J.y (op_assign rfl rfl) rfl rfl rfl ?_
  refine J.nil ?_
  refine J.then_n (J.k hK4 ?_)
  refine J.keepE [(2, _)] ⟨rfl, trivial⟩ ?_
  refine J.ret ?_
  refine J.then_r ?_
  exact J.done hw0 (fun _ _ h => h) (res1 rfl rfl) (retOk () rfl trivial [0] rfl (by decide))

theorem xsign_nil (F : Hp) (i : Int) (mg : List UInt8) : Ct Tryz.prog 18 [.pointer none, I i, Str mg] [F] (fun _ : Unit => .tuple #[.agg #[I 0, .slice none 0 0, .slice none 0 0], I 1]) (fun _ => True) (fun _ => [F]) := by
  refine Ct.walk Tryz.func18 rfl Tryz.ntmps18 rfl (fun w0 hw0 => ?_)
  change J _ [(0, _), (1, _), (2, _)] _ _ _
  refine J.seq (fun K1 hK1 => ?_)
  refine J.region ?_
  refine J.e (op_alloc rfl Tryz.zeroValue37 rfl) rfl rfl rfl ?_
  intro g6 _
  change J _ _ _ [F, blk g6 _ 37] _
  refine J.y (op_assign rfl rfl) rfl rfl rfl ?_
  refine J.nil ?_
  refine J.then_n (J.k hK1 ?_)
  refine J.keepE [(0, _), (1, _), (2, _), (6, _)] ⟨rfl, rfl, rfl, rfl, trivial⟩ ?_
  refine J.seq (fun K2 hK2 => ?_)
  refine J.block ?_
  refine J.seq (fun K3 hK3 => ?_)
  refine J.region ?_
  refine J.y (op_move rfl rfl) rfl rfl rfl ?_
  refine J.y ((op_peq Tryz.underlying25 rfl rfl rfl).as (v' := .bool true) rfl) rfl rfl rfl ?_
  refine J.y (op_assign rfl rfl) rfl rfl rfl ?_
  refine J.nil ?_
  refine J.then_n (J.k hK3 ?_)
  refine J.keepE [(0, _), (1, _), (2, _), (6, _), (11, _)] ⟨rfl, rfl, rfl, rfl, rfl, trivial⟩ ?_
  refine J.condT rfl rfl ?_
  refine J.seq (fun K4 hK4 => ?_)
  refine J.region ?_
  refine J.y (op_buildStruct (l := []) (vs := []) (places := [(0, 1), (1, 1), (2, 1)]) (r := [I 0, .slice none 0 0, .slice none 0 0]) rfl rfl rfl Tryz.underlying37 Tryz.zeroValue37 (fun _ => by kernel_rfl) rfl) rfl rfl rfl ?_
  refine J.s (op_storeAll (l := [I 0, .slice none 0 0, .slice none 0 0]) (i := 1) (vs := [I 0, .slice none 0 0, .slice none 0 0]) rfl rfl rfl rfl rfl Tryz.sizeOf37 rfl rfl) rfl rfl (fun _ _ => ?_)
  change J _ _ _ [F, blk g6 [I 0, .slice none 0 0, .slice none 0 0] 37] _
  refine J.y (op_assign rfl rfl) rfl rfl rfl ?_
  refine J.nil ?_
  refine J.then_n (J.k hK4 ?_)
  refine J.keepE [(6, _), (7, _)] ⟨rfl, rfl, trivial⟩ ?_
  refine J.ret ?_
  refine J.blk_r ?_
  refine J.then_r ?_
  exact J.done hw0 (fun _ _ h => h) (rv2 rfl (RV.blkA 1 rfl rfl Tryz.isAgg37 Tryz.sizeOf37) rfl) (retOk () rfl trivial [0] rfl (by decide))

/-- chunks of texts put one behind the other are the texts -/
theorem ck_flat {l : List (List UInt8)} (h : ∀ s ∈ l, s.length = 16) (r : List UInt8) : ck (l.flatten ++ r) 16 l.length = l := by
  apply List.ext_getElem
  · unfold ck; rw [List.length_map, List.length_range]
  · intro j h1 h2
    rw [show (ck (l.flatten ++ r) 16 l.length)[j] = ((l.flatten ++ r).drop (16 * j)).take 16 by simp only [ck, List.getElem_map, List.getElem_range]]
    have e : l.flatten = (l.take j).flatten ++ (l[j] ++ (l.drop (j + 1)).flatten) := by
      conv => lhs; rw [← List.take_append_drop j l, List.drop_eq_getElem_cons h2]
      rw [List.flatten_append, List.flatten_cons]
    rw [e, List.append_assoc, List.append_assoc, List.drop_left' (by rw [flat16 (fun s hs => h s (List.mem_of_mem_take hs)), List.length_take]; omega), List.take_left' (h _ (List.getElem_mem h2))]
theorem ck_len (s : List UInt8) (n k : Nat) : (ck s n k).length = k := by unfold ck; rw [List.length_map, List.length_range]
theorem ck_16 {s : List UInt8} {k : Nat} (h : 16 * k ≤ s.length) : ∀ x ∈ ck s 16 k, x.length = 16 := fun x hx => by
  simp only [ck, List.mem_map, List.mem_range] at hx
  obtain ⟨j, hj, rfl⟩ := hx
  rw [List.length_take, List.length_drop]; omega
theorem flat_ck (s : List UInt8) : ∀ k, 16 * k ≤ s.length → (ck s 16 k).flatten = s.take (16 * k) := by
  intro k
  induction k with
  | zero => intro _; rfl
  | succ k ih =>
    intro h
    have e : ck s 16 (k + 1) = ck s 16 k ++ [(s.drop (16 * k)).take 16] := by unfold ck; rw [List.range_succ, List.map_append]; rfl
    rw [e, List.flatten_append, ih (by omega), List.flatten_cons, List.flatten_nil, List.append_nil, ← List.take_add, Nat.mul_succ]
theorem sgB_len {i : Nat} {ch pt : List (List UInt8)} (hc : ∀ s ∈ ch, s.length = 16) (hp : ∀ s ∈ pt, s.length = 16) (h1 : ch.length = 35) : (sgB i ch pt).length = 562 + 16 * pt.length := by
  unfold sgB
  simp only [List.length_append, List.length_singleton, flat16 hc, flat16 hp, h1]
theorem sgB_parts {i : Nat} {ch pt : List (List UInt8)} (hc : ∀ s ∈ ch, s.length = 16) (h1 : ch.length = 35) : (sgB i ch pt).getD 0 0 = UInt8.ofNat i ∧ (sgB i ch pt).getD 561 0 = UInt8.ofNat pt.length ∧ (sgB i ch pt).drop 1 = ch.flatten ++ ([UInt8.ofNat pt.length] ++ pt.flatten) ∧ (sgB i ch pt).drop 562 = pt.flatten := by
  have hf := flat16 hc
  rw [h1] at hf
  unfold sgB
  refine ⟨rfl, ?_, ?_, ?_⟩
  · rw [List.append_assoc, List.getD_eq_getElem?_getD, List.getElem?_append_right (by simp only [List.length_append, List.length_singleton]; omega)]
    simp [hf]
  · simp
  · rw [List.drop_left' (by simp only [List.length_append, List.length_singleton]; omega)]
theorem why_sgB {i : Nat} {ch pt : List (List UInt8)} (hi : i ≤ 63) (hc : ∀ s ∈ ch, s.length = 16) (hp : ∀ s ∈ pt, s.length = 16) (h1 : ch.length = 35) (h2 : pt.length ≤ 6) :
    whyE (sgB i ch pt) = 0 ∧ natB ((⟨sgB i ch pt, 0⟩ : RS).out 1) = i ∧ dN (sgB i ch pt) = pt.length ∧ ((⟨sgB i ch pt, 0⟩ : RS).take 1).os 16 35 = ch ∧ ((dA (sgB i ch pt)).take 1).os 16 pt.length = pt := by
  obtain ⟨p1, p2, p3, p4⟩ := sgB_parts (i := i) (pt := pt) hc h1
  have hl := sgB_len (i := i) hc hp h1
  have e1 : ((sgB i ch pt).getD 0 0).toNat = i := by rw [p1, UInt8.toNat_ofNat']; exact Nat.mod_eq_of_lt (by omega)
  have e2 : ((sgB i ch pt).getD 561 0).toNat = pt.length := by rw [p2, UInt8.toNat_ofNat']; exact Nat.mod_eq_of_lt (by omega)
  have hw : whyE (sgB i ch pt) = 0 := by
    unfold whyE
    rw [hl, e1, e2, Nat.min_eq_left h2, if_neg (by omega), if_neg (by omega), if_neg (by omega), if_neg (by omega)]
  obtain ⟨w1, w2, w3, w4, w5, w6, w7⟩ := why_ok hw
  refine ⟨hw, w5.trans e1, w4.trans e2, ?_, ?_⟩
  · rw [w6, p3, ← h1]; exact ck_flat hc _
  · rw [e2, p4] at w7
    rw [w7]
    have := ck_flat hp []
    rwa [List.append_nil] at this
theorem sgB_why {s : List UInt8} (h : whyE s = 0) : sgB (s.getD 0 0).toNat (ck (s.drop 1) 16 35) (ck (s.drop 562) 16 (s.getD 561 0).toNat) = s := by
  obtain ⟨w1, w2, w3, w4, w5, w6, w7⟩ := why_ok h
  unfold sgB
  rw [flat_ck _ _ (by rw [List.length_drop]; omega), flat_ck _ _ (by rw [List.length_drop]; omega), ck_len]
  have ho : ∀ c : UInt8, UInt8.ofNat c.toNat = c := fun c => by apply UInt8.toNat_inj.1; rw [UInt8.toNat_ofNat']; exact Nat.mod_eq_of_lt c.toNat_lt
  rw [ho, ho, List.take_of_length_le (l := s.drop 562) (by rw [List.length_drop]; omega)]
  have g0 : [s.getD 0 0] = s.take 1 := by
    rw [List.getD_eq_getElem?_getD, List.getElem?_eq_getElem (show 0 < s.length by omega)]
    cases s with
    | nil => simp at w3
    | cons a r => rfl
  have g1 : [s.getD 561 0] = (s.drop 561).take 1 := by
    rw [List.drop_eq_getElem_cons (show 561 < s.length by omega), List.getD_eq_getElem?_getD, List.getElem?_eq_getElem (show 561 < s.length by omega)]; rfl
  rw [g0, g1, ← List.take_add, show 1 + 16 * 35 = 561 from rfl, ← List.take_add, List.take_append_drop]
theorem dp_enc {o r : List UInt8} {k : Nat} (hk : k ≤ 6) (ho : o.length = 16) (hr : r.length = 16) : pubErr o r k = 0 ∧ dpV (pubEnc o r k) = .tuple #[.agg #[Str o, Str r, I k], I 0] := by
  have hq : pubOk o r k := ⟨by omega, by omega, ho, hr⟩
  refine ⟨if_pos hq, ?_⟩
  have e : pubEnc o r k = o ++ (r ++ [UInt8.ofNat k]) := by unfold pubEnc; rw [if_pos hq, List.append_assoc]; rfl
  have hg : (o ++ (r ++ [UInt8.ofNat k])).getD 32 0 = UInt8.ofNat k := by
    rw [← List.append_assoc, List.getD_eq_getElem?_getD, List.getElem?_append_right (by simp only [List.length_append]; omega)]
    simp [ho, hr]
  have hn : (UInt8.ofNat k).toNat = k := by rw [UInt8.toNat_ofNat']; exact Nat.mod_eq_of_lt (by omega)
  have hE : dpE (pubEnc o r k) = 0 := by
    rw [e]
    unfold dpE
    rw [hg, hn, if_neg (by simp only [List.length_append, List.length_singleton]; omega), if_neg (by simp only [List.length_append, List.length_singleton]; omega), if_neg (by omega)]
  unfold dpV dpO dpR dpH
  rw [hE, if_pos rfl, if_pos rfl, if_pos rfl, e, hg, hn, List.take_left' ho, List.drop_left' ho, List.take_left' hr]

theorem Mk.lvl_16 (l : List (List UInt8)) (hs : ∀ s ∈ l, s.length = 16) : ∀ j, ∀ s ∈ Mk.lvl l j, s.length = 16
  | 0, s, h => hs s h
  | j + 1, s, h => by
    simp only [Mk.lvl, Mk.above, List.mem_map] at h
    obtain ⟨k, _, rfl⟩ := h
    exact Mk.node_length _ _
theorem Mk.path_16 (l : List (List UInt8)) (i h : Nat) (hs : ∀ s ∈ l, s.length = 16) (hl : l.length = 2 ^ h) (hi : i < 2 ^ h) : ∀ s ∈ Mk.path l i h, s.length = 16 := fun s hp => by
  unfold Mk.path at hp
  simp only [List.mem_map, List.mem_range] at hp
  obtain ⟨j, hj, rfl⟩ := hp
  refine Mk.lvl_16 l hs j _ (Mk.getS_mem ?_)
  rw [Mk.lvl_length l h hl j (by omega), show h - j = (h - 1 - j) + 1 by omega, Nat.pow_succ, Nat.mul_comm]
  refine Mk.xor_one _ _ ?_
  rw [Nat.div_lt_iff_lt_mul (Nat.two_pow_pos j), Nat.mul_assoc, ← Nat.pow_add, Nat.mul_comm, ← Nat.pow_succ, show (h - 1 - j + j).succ = h by omega]
  exact hi
theorem Xm.leaves_16 (seed : List UInt8) (k : Nat) : ∀ s ∈ Xm.leaves seed k, s.length = 16 := fun s hs => by
  simp only [Xm.leaves, List.mem_map] at hs
  obtain ⟨i, _, rfl⟩ := hs
  exact Xm.pub_length _ _
theorem Mk.root_16 (seed : List UInt8) (h : Nat) : (Xm.root seed h).length = 16 := by
  unfold Xm.root Mk.root
  exact Mk.lvl_16 _ (Xm.leaves_16 _ _) h _ (Mk.getS_mem (by rw [Mk.lvl_length _ h (Xm.leaves_length _ _) h (Nat.le_refl _), Nat.sub_self]; decide))
theorem Wo.signs_len (seed : List UInt8) (i : Nat) (d : List Nat) : (Wo.signs seed i d 35).length = 35 := by simp [Wo.signs]
/-- the signature of the law, as bytes -/
def xcB (sd : List UInt8) (h : Nat) : List UInt8 := sgB 0 (Wo.signs sd 0 (Wo.digs (Xm.digest (Wo.opn sd) 0 [120])) 35) (Mk.path (Xm.leaves sd (2 ^ h)) 0 h)
def xcU (sd : List UInt8) (h : Nat) (junk : List UInt8) (n1 : UInt8) : List UInt8 := (xcB sd h).take (n1.toNat * 3 % ((xcB sd h).length + 1)) ++ junk.take 700
theorem dp_short {s : List UInt8} (h : s.length < 33) : dpV s = .tuple #[.agg #[Str [], Str [], I 0], I 3] := (dpV_no (e := 3) (if_pos h) (by decide)).symm
theorem dp_seven {s : List UInt8} (h : s.length = 32) : dpV (s ++ [7]) = .tuple #[.agg #[Str [], Str [], I 0], I 4] := by
  refine (dpV_no (e := 4) ?_ (by decide)).symm
  unfold dpE
  rw [if_neg (by simp [h]), if_neg (by simp [h]), if_pos]
  rw [List.getD_eq_getElem?_getD, List.getElem?_append_right (by omega), h]
  decide

end Go.Proofs.YtnkfapecbmmpeaaGreatDoor
