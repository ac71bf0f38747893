/- A part of the proof: contracts of functions of the program, each for every state of the heaps that it names. -/
import Derived.Test.YtadckkaepngloaaDoorLaw3
import Derived.Test.YtadckkaepngloaaDoorRef3
set_option linter.unusedSimpArgs false
set_option linter.unusedVariables false
namespace Go.Proofs.YtadckkaepngloaaDoor
open Go Go.Fw
set_option maxRecDepth 100000
set_option maxHeartbeats 1000000
theorem ent15 : Enters Tryd.prog 15 := Enters.of Tryd.func15 rfl (by kernel_rfl)
theorem ent17 : Enters Tryd.prog 17 := Enters.of Tryd.func17 rfl (by kernel_rfl)

namespace Sha
/-- the first k texts, cut -/
def cutL (w : Nat) (ls : List (List UInt8)) (k : Nat) : List (List UInt8) := (ls.take k).map (List.take w)
theorem cutL_succ (w : Nat) (ls : List (List UInt8)) (k : Nat) (h : k < ls.length) : cutL w ls (k + 1) = cutL w ls k ++ [(ls.getD k []).take w] := by
  unfold cutL
  rw [List.take_succ_eq_append_getElem h, List.map_append, List.getD_eq_getElem?_getD, List.getElem?_eq_getElem h]; rfl
theorem cutL_length (w : Nat) (ls : List (List UInt8)) (k : Nat) (h : k ≤ ls.length) : (cutL w ls k).length = k := by simp [cutL]; omega
theorem cutL_flat (w : Nat) (ls : List (List UInt8)) : ∀ k, k ≤ ls.length → (cutL w ls k).flatten.length ≤ w * k
  | 0, _ => by simp [cutL]
  | k + 1, h => by
    have := cutL_flat w ls k (by omega)
    have h2 : ((ls.getD k []).take w).length ≤ w := by rw [List.length_take]; omega
    rw [cutL_succ w ls k (by omega), List.flatten_append, List.length_append, Nat.mul_add]
    simp only [List.flatten_cons, List.flatten_nil, List.append_nil, Nat.mul_one]; omega
theorem tagB_snoc (tag : UInt8) (a : List (List UInt8)) (x : List UInt8) : tagB tag (a ++ [x]) = tagB tag a ++ (numB (UInt64.ofNat x.length) 4 ++ x) := by
  unfold tagB
  rw [List.flatMap_append, ← List.append_assoc]; simp
theorem flat_snoc (a : List (List UInt8)) (x : List UInt8) : (a ++ [x]).flatten = a.flatten ++ x := by simp
theorem take_min (s : List UInt8) (k : Nat) : (s.take (min s.length k)).drop 0 = s.take k := by
  rw [List.drop_zero]
  by_cases h : s.length ≤ k
  · rw [Nat.min_eq_left h, List.take_length, List.take_of_length_le h]
  · rw [Nat.min_eq_right (by omega)]
end Sha
attribute [local irreducible] Sha.tagB

theorem shaSums_ct (F : Hp) (hK : Cells F ⟨0, 0, none⟩ (Sha.K.map W32)) (A : Option Addr) (n c : Nat) (ls : List (List UInt8)) (hl : Sl F 1 A n c (strsV ls)) (tag : UInt8) :
    Ct Tryd.prog 3 [.slice A n c, B8 tag] [F] (fun _ : Unit => .bool true) (fun _ => True) (fun _ => [F]) := by
  have hlen : ls.length = n := by have := hl.1; simpa [strsV] using this
  refine Ct.walk Tryd.func3 rfl Tryd.ntmps3 rfl (fun w0 => ?_)
  change J _ [(0, _), (1, _)] _ _ _
  refine J.seq (fun K1 hK1 => ?_)
  refine J.region ?_
  refine J.y (op_assign rfl rfl) rfl rfl rfl ?_
  refine J.nil ?_
  refine J.then_n (J.k hK1 ?_)
  refine J.keepE [(0, _), (1, _)] ⟨rfl, rfl, trivial⟩ ?_
  refine J.seq (fun K2 hK2 => ?_)
  refine J.seq (fun K3 hK3 => ?_)
  refine J.region ?_
  refine J.e (op_call rfl rfl ent14 (speaks03_ct F hK)) rfl rfl rfl ?_
  intro g10 _
  refine J.y ((op_not rfl rfl).as (v' := .bool false) rfl) rfl rfl rfl ?_
  refine J.nil ?_
  refine J.then_n (J.k hK3 ?_)
  refine J.keepE [(0, _), (1, _), (11, _)] ⟨rfl, rfl, rfl, trivial⟩ ?_
  refine J.condF rfl rfl ?_
  refine J.skip ?_
  refine J.then_n (J.k hK2 ?_)
  refine J.keepE [(0, _), (1, _)] ⟨rfl, rfl, trivial⟩ ?_
  refine J.seq (fun K4 hK4 => ?_)
  refine J.region ?_
  refine J.y (op_assign rfl rfl) rfl rfl rfl ?_
  refine J.nil ?_
  refine J.then_n (J.k hK4 ?_)
  refine J.keepE [(0, _), (1, _), (5, _)] ⟨rfl, rfl, rfl, trivial⟩ ?_
  refine J.seq (fun K5 hK5 => ?_)
  refine J.draw [F] [] (.y 0 (.y 3 (.e 1 (.y 2 (.y 4 .nil))))) Tryd.wide (by decide +kernel) (by simp) ?_
  refine J.dy rfl (op_move rfl rfl) rfl rfl rfl rfl ?_
  refine J.dy rfl (op_assign rfl rfl) rfl rfl rfl rfl ?_
  refine J.deN (fun g => [F] ++ [blk g [B8 tag] 5]) rfl (op_buildSlice (l := [.tmp 12]) (xs := [[B8 tag]]) rfl rfl rfl rfl Tryd.underlying24 el5 rfl (by decide) (by decide) (by simp)) rfl rfl rfl (fun _ _ h => List.mem_append_left _ h) (by simp) ?_
  intro g13 _
  change J _ _ _ [F, blk g13 [B8 tag] 5] _
  refine J.dy rfl (op_toStr (l := [tag]) rfl rfl Tryd.underlying24 Tryd.underlying5 Tryd.underlying9 (m := blk g13 [B8 tag] 5) (by simp) (row_blk (q := True) (xs := [[B8 tag]]) rfl (by simp)).sl) rfl rfl rfl rfl ?_
  refine J.dy rfl (op_assign rfl rfl) rfl rfl rfl rfl ?_
  refine J.dnil ?_
  refine J.then_n (J.k hK5 ?_)
  refine J.keepE [(0, _), (1, _), (5, _), (6, _), (7, _)] ⟨rfl, rfl, rfl, rfl, rfl, trivial⟩ ?_
  refine J.seq (fun K6 hK6 => ?_)
  refine J.seq (fun K7 hK7 => ?_)
  refine J.addEmpty [0, 2] [F, (fun _ => none)] rfl (by decide) ?_
  refine J.region ?_
  refine J.y (op_assign rfl rfl) rfl rfl rfl ?_
  refine J.nil ?_
  refine J.then_n (J.k hK7 ?_)
  refine J.keepE [(0, _), (1, _), (5, _), (6, _), (7, _), (8, _)] ⟨rfl, rfl, rfl, rfl, rfl, rfl, trivial⟩ ?_
  refine J.block ?_
  refine J.loop (X := Nat × Option Addr × Nat × Hp) (fun x => [(0, .slice A n c), (1, B8 tag), (5, .slice x.2.1 x.1 x.2.2.1), (6, Str (Sha.cutL 70 ls x.1).flatten), (7, Str (Sha.tagB tag (Sha.cutL 70 ls x.1))), (8, I x.1)]) (fun x => [F, x.2.2.2]) (fun x => x.1 ≤ n ∧ x.1 ≤ 5 ∧ Row x.2.2.2 9 1 x.2.1 x.1 x.2.2.1 (strsV (Sha.cutL 70 ls x.1))) (fun x => n - x.1) (0, none, 0, fun _ => none) (⟨Nat.zero_le _, by decide, RowQ.nil⟩) ⟨rfl, rfl, rfl, rfl, by unfold Sha.tagB; rfl, rfl, trivial⟩ (fun _ h => h) ?_
  rintro ⟨k, A5, c5, m5⟩ ⟨hk, hk5, hrow⟩ I0 hI0
  dsimp only at hk hk5 hrow ⊢
  have hfl := Sha.cutL_flat 70 ls k (by omega)
  have htl := Sha.tagB_length tag (Sha.cutL 70 ls k)
  rw [Sha.cutL_length 70 ls k (by omega)] at htl
  refine J.seq (fun K8 hK8 => ?_)
  refine J.seq (fun K9 hK9 => ?_)
  refine J.region ?_
  refine J.y (op_move rfl rfl) rfl rfl rfl ?_
  refine J.y (op_move rfl rfl) rfl rfl rfl ?_
  refine J.y (op_len Tryd.underlying22 rfl rfl) rfl rfl rfl ?_
  refine J.y (op_lss rfl rfl rfl) rfl rfl rfl ?_
  refine J.y (op_move rfl rfl) rfl rfl rfl ?_
  refine J.split (d := 19) rfl (fun h19 => ?_) (fun h19 => ?_)
  ·
    refine J.yg (Wan.is rfl rfl rfl rfl rfl) (op_move rfl rfl) rfl rfl ?_
    refine J.yg (Wan.is rfl rfl rfl rfl rfl) (op_lss rfl rfl rfl) rfl rfl ?_
    refine J.y (op_pickT rfl rfl rfl) rfl rfl rfl ?_
    refine J.nil ?_
    refine J.then_n (J.k hK9 ?_)
    refine J.keepE [(0, _), (1, _), (5, _), (6, _), (7, _), (8, _), (22, _)] ⟨rfl, rfl, rfl, rfl, rfl, rfl, rfl, trivial⟩ ?_
    refine J.ite rfl (fun h22 => ?_) (fun h22 => ?_)
    ·
      refine J.skip ?_
      refine J.then_n (J.k hK8 ?_)
      refine J.keepE [(0, _), (1, _), (5, _), (6, _), (7, _), (8, _)] ⟨rfl, rfl, rfl, rfl, rfl, rfl, trivial⟩ ?_
      refine J.seq (fun K10 hK10 => ?_)
      refine J.block ?_
      refine J.seq (fun K11 hK11 => ?_)
      have hcs := Sha.cutL_succ 70 ls k (by omega)
      have hxl : ((ls.getD k []).take 70).length ≤ 70 := by rw [List.length_take]; omega
      refine J.draw [F] [] (.y 0 (.y 1 (.y 2 (.y 3 (.y 4 (.y 5 (.y 6 (.y 7 (.y 8 (.y 9 (.y 10 (.y 11 .nil)))))))))))) Tryd.wide (by decide +kernel) (by simp) ?_
      refine J.dy rfl (op_move rfl rfl) rfl rfl rfl rfl ?_
      refine J.dy rfl (op_move rfl rfl) rfl rfl rfl rfl ?_
      refine J.dy rfl (op_indexAddr (i := k) rfl rfl rfl Tryd.underlying22 Tryd.sizeOf9 hl (by omega)) rfl rfl rfl rfl ?_
      refine J.dy rfl (op_load rfl rfl Tryd.isAgg9 (m := F) (by simp) (hl.elem (strsV_get (getSome [] (show k < ls.length by omega))))) rfl rfl rfl rfl ?_
      refine J.dy rfl (op_move rfl rfl) rfl rfl rfl rfl ?_
      refine J.dy rfl (op_move rfl rfl) rfl rfl rfl rfl ?_
      refine J.dy rfl (op_indexAddr (i := k) rfl rfl rfl Tryd.underlying22 Tryd.sizeOf9 hl (by omega)) rfl rfl rfl rfl ?_
      refine J.dy rfl (op_load rfl rfl Tryd.isAgg9 (m := F) (by simp) (hl.elem (strsV_get (getSome [] (show k < ls.length by omega))))) rfl rfl rfl rfl ?_
      refine J.dy rfl (op_slen Tryd.underlying9 rfl rfl) rfl rfl rfl rfl ?_
      refine J.dy rfl ((op_min rfl rfl rfl).as (v' := I ((min (ls.getD k []).length 70 : Nat) : Int)) (congrArg I (by omega))) rfl rfl rfl rfl ?_
      refine J.dy rfl ((op_sslice (l := 0) (h := min (ls.getD k []).length 70) Tryd.underlying9 rfl rfl rfl rfl ⟨by omega, by omega⟩).as (congrArg Str (Sha.take_min _ _))) rfl rfl rfl rfl ?_
      refine J.dy rfl (op_assign rfl rfl) rfl rfl rfl rfl ?_
      refine J.dnil ?_
      refine J.then_n (J.k hK11 ?_)
      refine J.keepE [(0, _), (1, _), (5, _), (6, _), (7, _), (8, _), (9, _)] ⟨rfl, rfl, rfl, rfl, rfl, rfl, rfl, trivial⟩ ?_
      refine J.seq (fun K12 hK12 => ?_)
      refine J.region ?_
      refine J.y (op_move rfl rfl) rfl rfl rfl ?_
      refine J.y (op_move rfl rfl) rfl rfl rfl ?_
      refine J.e (op_buildSlice (l := [.tmp 37]) (xs := [[Str ((ls.getD k []).take 70)]]) rfl rfl rfl rfl Tryd.underlying22 el9 rfl (by decide) (by decide) (by simp)) rfl rfl rfl ?_
      intro g38 _
      change J _ _ _ [F, m5, blk g38 [Str ((ls.getD k []).take 70)] 9] _
      refine J.e (op_append (i := 1) (m2 := blk g38 [Str ((ls.getD k []).take 70)] 9) (ys := strsV [((ls.getD k []).take 70)]) rfl rfl rfl Tryd.underlying22 Tryd.underlying22 el9 rfl hrow (by simp) (row_blk (q := True) (xs := strsV [((ls.getD k []).take 70)]) rfl (by simp [strsV])).sl (one_strs _) (by omega) (by omega)) rfl rfl rfl ?_
      rintro ⟨A39, c39, m39⟩ h39
      try dsimp only at h39
      change J _ ((39, .slice A39 (k + 1) c39) :: _) _ [F, m39, blk g38 [Str ((ls.getD k []).take 70)] 9] _
      rw [← strsV_app, ← hcs] at h39
      refine J.y (op_assign rfl rfl) rfl rfl rfl ?_
      refine J.nil ?_
      refine J.then_n (J.k hK12 ?_)
      refine J.keepE [(0, _), (1, _), (5, _), (6, _), (7, _), (8, _), (9, _)] ⟨rfl, rfl, rfl, rfl, rfl, rfl, rfl, trivial⟩ ?_
      refine J.seq (fun K13 hK13 => ?_)
      refine J.region ?_
      refine J.y (op_move rfl rfl) rfl rfl rfl ?_
      refine J.y (op_move rfl rfl) rfl rfl rfl ?_
      refine J.y ((op_sadd rfl rfl rfl (by omega)).as (v' := Str (Sha.cutL 70 ls (k + 1)).flatten) (by rw [hcs, Sha.flat_snoc])) rfl rfl rfl ?_
      refine J.y (op_assign rfl rfl) rfl rfl rfl ?_
      refine J.nil ?_
      refine J.then_n (J.k hK13 ?_)
      refine J.keepE [(0, _), (1, _), (5, _), (6, _), (7, _), (8, _), (9, _)] ⟨rfl, rfl, rfl, rfl, rfl, rfl, rfl, trivial⟩ ?_
      refine J.region ?_
      refine J.y (op_move rfl rfl) rfl rfl rfl ?_
      refine J.y (op_move rfl rfl) rfl rfl rfl ?_
      refine J.y (op_slen Tryd.underlying9 rfl rfl) rfl rfl rfl ?_
      refine J.e (op_call rfl rfl ent15 (Ct.use0 (fun F' hF => four_ct F' ((ls.getD k []).take 70).length (by omega)))) rfl rfl rfl ?_
      intro g46 _
      refine J.y (op_move rfl rfl) rfl rfl rfl ?_
      refine J.y ((op_sadd rfl rfl rfl (by rw [Sha.numB_length]; omega))) rfl rfl rfl ?_
      refine J.y ((op_sadd rfl rfl rfl (by rw [List.length_append, Sha.numB_length]; omega)).as (v' := Str (Sha.tagB tag (Sha.cutL 70 ls (k + 1)))) (by rw [hcs, Sha.tagB_snoc])) rfl rfl rfl ?_
      refine J.y (op_assign rfl rfl) rfl rfl rfl ?_
      refine J.nil ?_
      refine J.blk_n ?_
      refine J.then_n (J.k hK10 ?_)
      refine J.keepE [(0, _), (1, _), (5, _), (6, _), (7, _), (8, _)] ⟨rfl, rfl, rfl, rfl, rfl, rfl, trivial⟩ ?_
      refine J.perm [0, 1] [F, m39] rfl (by decide) ?_
      refine J.region ?_
      refine J.y (op_move rfl rfl) rfl rfl rfl ?_
      refine J.y ((op_add rfl rfl rfl (by first | omega | (refine ⟨?_, ?_⟩ <;> omega))).as (v' := I ((k + 1 : Nat) : Int)) (congrArg I (by omega))) rfl rfl rfl ?_
      refine J.y (op_assign rfl rfl) rfl rfl rfl ?_
      refine J.nil ?_
      refine J.then_n ?_
      exact J.kk (k + 1, A39, c39, m39) (fun x (hx : _ ∧ n - x.1 < n - k) => hI0 x hx.1 hx.2) ⟨⟨by dsimp only; omega, by dsimp only; omega, h39⟩, by dsimp only; omega⟩ ⟨rfl, rfl, rfl, rfl, rfl, rfl, trivial⟩ (fun _ h => h)
    ·
      refine J.exit ?_
      refine J.then_x ?_
      refine J.then_x ?_
      refine J.blk_eq ?_
      refine J.then_n (J.k hK6 ?_)
      refine J.keepE [(1, _), (5, _), (6, _), (7, _)] ⟨rfl, rfl, rfl, rfl, trivial⟩ ?_
      refine J.seq (fun K14 hK14 => ?_)
      refine J.region ?_
      refine J.y (op_move rfl rfl) rfl rfl rfl ?_
      refine J.e (op_call rfl rfl ent16 (Ct.use0 (fun F' hF => sum_ct F' (hK.mono (hF _ (by simp))) A5 k c5 (Sha.cutL 70 ls k) (hrow.sl.mono (hF _ (by simp))) (by omega) (by omega)))) rfl rfl rfl ?_
      intro g51 _
      refine J.y (op_move rfl rfl) rfl rfl rfl ?_
      refine J.e (op_call rfl rfl ent17 (Ct.use0 (fun F' hF => sum3_ct F' (Sha.cutL 70 ls k).flatten (by omega)))) rfl rfl rfl ?_
      intro g53 _
      refine J.y ((op_seq rfl rfl rfl).as (v' := .bool true) (congrArg Value.bool (decide_eq_true rfl))) rfl rfl rfl ?_
      refine J.y (op_move rfl rfl) rfl rfl rfl ?_
      refine J.yg (Wan.is rfl rfl rfl rfl rfl) (op_move rfl rfl) rfl rfl ?_
      refine J.yg (Wan.is rfl rfl rfl rfl rfl) (op_move rfl rfl) rfl rfl ?_
      refine J.eg (Wan.is rfl rfl rfl rfl rfl) (op_call rfl rfl ent18 (Ct.use0 (fun F' hF => tagged_ct F' (hK.mono (hF _ (by simp))) tag A5 k c5 (Sha.cutL 70 ls k) (hrow.sl.mono (hF _ (by simp))) (by omega) (by omega)))) rfl rfl ?_
      intro g58 _
      refine J.yg (Wan.is rfl rfl rfl rfl rfl) (op_move rfl rfl) rfl rfl ?_
      refine J.eg (Wan.is rfl rfl rfl rfl rfl) (op_call rfl rfl ent17 (Ct.use0 (fun F' hF => sum3_ct F' (Sha.tagB tag (Sha.cutL 70 ls k)) (by omega)))) rfl rfl ?_
      intro g60 _
      refine J.yg (Wan.is rfl rfl rfl rfl rfl) ((op_sslice (l := 0) (h := 16) Tryd.underlying9 rfl rfl rfl rfl ⟨by omega, by rw [Sha.sum_length]; decide⟩).as (congrArg Str (List.drop_zero))) rfl rfl ?_
      refine J.yg (Wan.is rfl rfl rfl rfl rfl) ((op_seq rfl rfl rfl).as (v' := .bool true) (congrArg Value.bool (decide_eq_true rfl))) rfl rfl ?_
      refine J.y (op_pickT rfl rfl rfl) rfl rfl rfl ?_
      refine J.y (op_assign rfl rfl) rfl rfl rfl ?_
      refine J.nil ?_
      refine J.then_n (J.k hK14 ?_)
      refine J.keepE [(4, _)] ⟨rfl, trivial⟩ ?_
      refine J.ret ?_
      exact J.done (fun _ _ h => h) (res1 rfl rfl) (retOk () rfl trivial [0] rfl (by decide))
  ·
    refine J.no (Wan.is rfl rfl rfl rfl rfl) rfl rfl ?_
    refine J.no (Wan.is rfl rfl rfl rfl rfl) rfl rfl ?_
    refine J.y (op_pickF rfl rfl rfl) rfl rfl rfl ?_
    refine J.nil ?_
    refine J.then_n (J.k hK9 ?_)
    refine J.keepE [(0, _), (1, _), (5, _), (6, _), (7, _), (8, _), (22, _)] ⟨rfl, rfl, rfl, rfl, rfl, rfl, rfl, trivial⟩ ?_
    refine J.condF rfl rfl ?_
    refine J.exit ?_
    refine J.then_x ?_
    refine J.then_x ?_
    refine J.blk_eq ?_
    refine J.then_n (J.k hK6 ?_)
    refine J.keepE [(1, _), (5, _), (6, _), (7, _)] ⟨rfl, rfl, rfl, rfl, trivial⟩ ?_
    refine J.seq (fun K15 hK15 => ?_)
    refine J.region ?_
    refine J.y (op_move rfl rfl) rfl rfl rfl ?_
    refine J.e (op_call rfl rfl ent16 (Ct.use0 (fun F' hF => sum_ct F' (hK.mono (hF _ (by simp))) A5 k c5 (Sha.cutL 70 ls k) (hrow.sl.mono (hF _ (by simp))) (by omega) (by omega)))) rfl rfl rfl ?_
    intro g51 _
    refine J.y (op_move rfl rfl) rfl rfl rfl ?_
    refine J.e (op_call rfl rfl ent17 (Ct.use0 (fun F' hF => sum3_ct F' (Sha.cutL 70 ls k).flatten (by omega)))) rfl rfl rfl ?_
    intro g53 _
    refine J.y ((op_seq rfl rfl rfl).as (v' := .bool true) (congrArg Value.bool (decide_eq_true rfl))) rfl rfl rfl ?_
    refine J.y (op_move rfl rfl) rfl rfl rfl ?_
    refine J.yg (Wan.is rfl rfl rfl rfl rfl) (op_move rfl rfl) rfl rfl ?_
    refine J.yg (Wan.is rfl rfl rfl rfl rfl) (op_move rfl rfl) rfl rfl ?_
    refine J.eg (Wan.is rfl rfl rfl rfl rfl) (op_call rfl rfl ent18 (Ct.use0 (fun F' hF => tagged_ct F' (hK.mono (hF _ (by simp))) tag A5 k c5 (Sha.cutL 70 ls k) (hrow.sl.mono (hF _ (by simp))) (by omega) (by omega)))) rfl rfl ?_
    intro g58 _
    refine J.yg (Wan.is rfl rfl rfl rfl rfl) (op_move rfl rfl) rfl rfl ?_
    refine J.eg (Wan.is rfl rfl rfl rfl rfl) (op_call rfl rfl ent17 (Ct.use0 (fun F' hF => sum3_ct F' (Sha.tagB tag (Sha.cutL 70 ls k)) (by omega)))) rfl rfl ?_
    intro g60 _
    refine J.yg (Wan.is rfl rfl rfl rfl rfl) ((op_sslice (l := 0) (h := 16) Tryd.underlying9 rfl rfl rfl rfl ⟨by omega, by rw [Sha.sum_length]; decide⟩).as (congrArg Str (List.drop_zero))) rfl rfl ?_
    refine J.yg (Wan.is rfl rfl rfl rfl rfl) ((op_seq rfl rfl rfl).as (v' := .bool true) (congrArg Value.bool (decide_eq_true rfl))) rfl rfl ?_
    refine J.y (op_pickT rfl rfl rfl) rfl rfl rfl ?_
    refine J.y (op_assign rfl rfl) rfl rfl rfl ?_
    refine J.nil ?_
    refine J.then_n (J.k hK15 ?_)
    refine J.keepE [(4, _)] ⟨rfl, trivial⟩ ?_
    refine J.ret ?_
    exact J.done (fun _ _ h => h) (res1 rfl rfl) (retOk () rfl trivial [0] rfl (by decide))

end Go.Proofs.YtadckkaepngloaaDoor
