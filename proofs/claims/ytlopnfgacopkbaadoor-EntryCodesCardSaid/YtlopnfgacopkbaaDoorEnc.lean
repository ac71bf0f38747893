/- A part of the proof: contracts of functions of the program, each for every state of the heaps that it names. -/
import Derived.Test.YtlopnfgacopkbaaDoorEnz
set_option linter.unusedSimpArgs false
set_option linter.unusedVariables false
namespace Go.Proofs.YtlopnfgacopkbaaDoor
open Go Go.Fw
set_option maxRecDepth 100000
set_option maxHeartbeats 1000000
theorem ent23 : Enters Tryd.prog 23 := Enters.of Tryd.func23 rfl (by kernel_rfl)
theorem ent36 : Enters Tryd.prog 36 := Enters.of Tryd.func36 rfl (by kernel_rfl)
theorem ent39 : Enters Tryd.prog 39 := Enters.of Tryd.func39 rfl (by kernel_rfl)

def cutL (T : List (List UInt8)) (t : Nat) : List (List UInt8) := (T.take t).map (·.take 20) ++ T.drop t
theorem cutL_len (T : List (List UInt8)) (t : Nat) : (cutL T t).length = T.length := by
  unfold cutL
  rw [List.length_append, List.length_map, List.length_take, List.length_drop]; omega
theorem cutL_get {T : List (List UInt8)} {t : Nat} (h : t < T.length) : (cutL T t).getD t [] = T.getD t [] := by
  unfold cutL
  rw [List.getD_eq_getElem?_getD, List.getD_eq_getElem?_getD, List.getElem?_append_right (by rw [List.length_map, List.length_take]; omega), List.length_map, List.length_take, Nat.min_eq_left (by omega), List.getElem?_drop]
  simp
theorem cutL_set {T : List (List UInt8)} {t : Nat} (h : t < T.length) : (cutL T t).set t ((T.getD t []).take 20) = cutL T (t + 1) := by
  unfold cutL
  rw [List.set_append_right _ _ (by rw [List.length_map, List.length_take]; omega), List.length_map, List.length_take, Nat.min_eq_left (by omega), Nat.sub_self, List.drop_eq_getElem_cons h, List.set_cons_zero, List.take_succ_eq_append_getElem h, List.map_append, List.append_assoc, List.getD_eq_getElem?_getD, List.getElem?_eq_getElem h]; rfl

theorem entryCodes_ct (F : Hp) (hK : Cells F ⟨0, 0, none⟩ (Sha.K.map W32)) (v : Nat) (hv : v < 18446744073709551616) (a b c d : List UInt8) (h : Int) :
    Ct Tryd.prog 6 [N64 v, .agg #[Str a, Str b, Str c, Str d], I h] [F] (fun _ : Unit => .bool true) (fun _ => True) (fun _ => [F]) := by
  obtain ⟨ta, hta⟩ : ∃ y, y = a.take 20 := ⟨_, rfl⟩
  have hla : ta.length ≤ 20 := by rw [hta, List.length_take]; omega
  obtain ⟨tb, htb⟩ : ∃ y, y = b.take 20 := ⟨_, rfl⟩
  have hlb : tb.length ≤ 20 := by rw [htb, List.length_take]; omega
  obtain ⟨tc, htc⟩ : ∃ y, y = c.take 20 := ⟨_, rfl⟩
  have hlc : tc.length ≤ 20 := by rw [htc, List.length_take]; omega
  obtain ⟨td, htd⟩ : ∃ y, y = d.take 20 := ⟨_, rfl⟩
  have hld : td.length ≤ 20 := by rw [htd, List.length_take]; omega
  refine Ct.walk Tryd.func6 rfl Tryd.ntmps6 rfl (fun w0 => ?_)
  change J _ [(0, _), (1, _), (2, _)] _ _ _
  refine J.seq (fun K1 hK1 => ?_)
  refine J.region ?_
  refine J.e (op_box rfl rfl (l := [Str a, Str b, Str c, Str d]) rfl) rfl rfl rfl ?_
  intro g4 _
  change J _ _ _ [F, blk g4 [Str a, Str b, Str c, Str d] 67] _
  refine J.y (op_assign rfl rfl) rfl rfl rfl ?_
  refine J.nil ?_
  refine J.then_n (J.k hK1 ?_)
  refine J.keepE [(0, _), (2, _), (4, _)] ⟨rfl, rfl, rfl, trivial⟩ ?_
  refine J.seq (fun K2 hK2 => ?_)
  refine J.seq (fun K3 hK3 => ?_)
  refine J.region ?_
  refine J.e (op_call rfl rfl ent23 (Ct.use0 (fun F' hF => speaks17_ct F' (hK.mono (hF _ (by simp)))))) rfl rfl rfl ?_
  intro g16 _
  refine J.y ((op_not rfl rfl).as (v' := .bool false) rfl) rfl rfl rfl ?_
  refine J.nil ?_
  refine J.then_n (J.k hK3 ?_)
  refine J.keepE [(0, _), (2, _), (4, _), (17, _)] ⟨rfl, rfl, rfl, rfl, trivial⟩ ?_
  refine J.condF rfl rfl ?_
  refine J.skip ?_
  refine J.then_n (J.k hK2 ?_)
  refine J.keepE [(0, _), (2, _), (4, _)] ⟨rfl, rfl, rfl, trivial⟩ ?_
  refine J.seq (fun K4 hK4 => ?_)
  refine J.seq (fun K5 hK5 => ?_)
  refine J.region ?_
  refine J.y (op_assign rfl rfl) rfl rfl rfl ?_
  refine J.nil ?_
  refine J.then_n (J.k hK5 ?_)
  refine J.keepE [(0, _), (2, _), (4, _), (7, _)] ⟨rfl, rfl, rfl, rfl, trivial⟩ ?_
  refine J.block ?_
  refine J.loop (X := Nat) (fun t => [(0, N64 v), (2, I h), (4, Ptr g4), (7, I t)]) (fun t => [F, blk g4 ((cutL [a, b, c, d] t).map fun s => Str s) 67]) (fun t => t ≤ 4) (fun t => 4 - t) 0 (Nat.zero_le _) ⟨rfl, rfl, rfl, rfl, trivial⟩ (fun _ h => h) ?_
  intro t ht I0 hI0
  have hQ : ([a, b, c, d] : List (List UInt8)).length = 4 := rfl
  refine J.seq (fun K6 hK6 => ?_)
  refine J.seq (fun K7 hK7 => ?_)
  refine J.region ?_
  refine J.y (op_move rfl rfl) rfl rfl rfl ?_
  refine J.y (op_lss rfl rfl rfl) rfl rfl rfl ?_
  refine J.nil ?_
  refine J.then_n (J.k hK7 ?_)
  refine J.keepE [(0, _), (2, _), (4, _), (7, _), (19, _)] ⟨rfl, rfl, rfl, rfl, rfl, trivial⟩ ?_
  refine J.ite rfl (fun h19 => ?_) (fun h19 => ?_)
  ·
    refine J.skip ?_
    refine J.then_n (J.k hK6 ?_)
    refine J.keepE [(0, _), (2, _), (4, _), (7, _)] ⟨rfl, rfl, rfl, rfl, trivial⟩ ?_
    refine J.seq (fun K8 hK8 => ?_)
    refine J.block ?_
    have ht1 : t < ([a, b, c, d] : List (List UInt8)).length := by omega
    obtain ⟨gl, hgl⟩ : ∃ y, y = ([a, b, c, d] : List (List UInt8)).getD t [] := ⟨_, rfl⟩
    have hget : ((cutL [a, b, c, d] t).map fun s => Str s)[t]? = some (Str gl) := by rw [getMap [] (by rw [cutL_len]; exact ht1), cutL_get ht1, hgl]
    refine J.draw [blk g4 ((cutL [a, b, c, d] t).map fun s => Str s) 67] [11] (.y 0 (.y 1 (.y 2 (.y 3 (.y 4 (.y 5 (.y 6 (.y 7 (.y 8 (.y 9 (.y 10 (.e 11 .nil)))))))))))) Tryd.wide (by decide +kernel) (by simp) ?_
    refine J.dy rfl (op_move rfl rfl) rfl rfl rfl rfl ?_
    refine J.dy rfl (op_move rfl rfl) rfl rfl rfl rfl ?_
    refine J.dy rfl (op_indexAddrJ (i := t) (j := t) rfl rfl rfl Tryd.underlying67 Tryd.sizeOf9 (by omega) (by omega)) rfl rfl rfl rfl ?_
    refine J.dy rfl (op_loadB 0 rfl rfl rfl Tryd.isAgg9 hget) rfl rfl rfl rfl ?_
    refine J.dy rfl (op_move rfl rfl) rfl rfl rfl rfl ?_
    refine J.dy rfl (op_indexAddrJ (i := t) (j := t) rfl rfl rfl Tryd.underlying67 Tryd.sizeOf9 (by omega) (by omega)) rfl rfl rfl rfl ?_
    refine J.dy rfl (op_loadB 0 rfl rfl rfl Tryd.isAgg9 hget) rfl rfl rfl rfl ?_
    refine J.dy rfl (op_slen Tryd.underlying9 rfl rfl) rfl rfl rfl rfl ?_
    refine J.dy rfl ((op_min rfl rfl rfl).as (v' := I ((min gl.length 20 : Nat) : Int)) (congrArg I (by omega))) rfl rfl rfl rfl ?_
    refine J.dy rfl ((op_sslice (l := 0) (h := min gl.length 20) Tryd.underlying9 rfl rfl rfl rfl ⟨by omega, by omega⟩).as (v' := Str (gl.take 20)) (congrArg Str (Sha.take_min _ _))) rfl rfl rfl rfl ?_
    refine J.dy rfl (op_indexAddrJ (i := t) (j := t) rfl rfl rfl Tryd.underlying67 Tryd.sizeOf9 (by omega) (by omega)) rfl rfl rfl rfl ?_
    refine J.ds rfl (op_store (i := 1) (vs := [Str (gl.take 20)]) rfl rfl rfl rfl rfl Tryd.sizeOf9 rfl (by rw [List.length_map, cutL_len]; exact ht1)) rfl rfl rfl (fun _ _ => ?_)
    change J _ _ _ [F, blk g4 (setAt ((cutL [a, b, c, d] t).map fun s => Str s) t [Str (gl.take 20)]) 67] _
    refine J.dnil ?_
    refine J.blk_n ?_
    refine J.then_n (J.k hK8 ?_)
    refine J.keepE [(0, _), (2, _), (4, _), (7, _)] ⟨rfl, rfl, rfl, rfl, trivial⟩ ?_
    rw [show setAt ((cutL [a, b, c, d] t).map fun s => Str s) t [Str (gl.take 20)] = (cutL [a, b, c, d] (t + 1)).map fun s => Str s by rw [setAt_map _ _ _ _ (by rw [cutL_len]; exact ht1), hgl, cutL_set ht1]]
    refine J.region ?_
    refine J.y (op_move rfl rfl) rfl rfl rfl ?_
    refine J.y ((op_add rfl rfl rfl (by first | omega | (refine ⟨?_, ?_⟩ <;> omega))).as (v' := I ((t + 1 : Nat) : Int)) (congrArg I (by omega))) rfl rfl rfl ?_
    refine J.y (op_assign rfl rfl) rfl rfl rfl ?_
    refine J.nil ?_
    refine J.then_n ?_
    exact J.kk (t + 1) (fun x (hx : _ ∧ 4 - x < 4 - t) => hI0 x hx.1 hx.2) ⟨by omega, by omega⟩ ⟨rfl, rfl, rfl, rfl, trivial⟩ (fun _ h => h)
  ·
    refine J.exit ?_
    refine J.then_x ?_
    refine J.then_x ?_
    refine J.blk_eq ?_
    refine J.then_n (J.k hK4 ?_)
    refine J.keepE [(0, _), (2, _), (4, _)] ⟨rfl, rfl, rfl, trivial⟩ ?_
    refine J.seq (fun K9 hK9 => ?_)
    have hte : t = 4 := by omega
    subst hte
    rw [show ((cutL [a, b, c, d] 4).map fun s => Str s) = [Str ta, Str tb, Str tc, Str td] by subst hta htb htc htd; rfl]
    refine J.perm [0, 1] [F, blk g4 [Str ta, Str tb, Str tc, Str td] 67] rfl (by decide) ?_
    refine J.region ?_
    refine J.y (op_move rfl rfl) rfl rfl rfl ?_
    refine J.y (op_indexAddrJ (i := 0) (j := 0) rfl rfl rfl Tryd.underlying67 Tryd.sizeOf9 (by decide) (by decide)) rfl rfl rfl ?_
    refine J.y (op_loadB 1 rfl rfl rfl Tryd.isAgg9 rfl) rfl rfl rfl ?_
    refine J.y (op_indexAddrJ (i := 1) (j := 1) rfl rfl rfl Tryd.underlying67 Tryd.sizeOf9 (by decide) (by decide)) rfl rfl rfl ?_
    refine J.y (op_loadB 1 rfl rfl rfl Tryd.isAgg9 rfl) rfl rfl rfl ?_
    refine J.y (op_move rfl rfl) rfl rfl rfl ?_
    refine J.y (op_buildStruct (l := [(0, .tmp 35), (1, .tmp 37), (2, .tmp 38)]) (vs := [Str ta, Str tb, I h]) (places := [(0, 1), (1, 1), (2, 1)]) (r := [Str ta, Str tb, I h]) rfl rfl rfl Tryd.underlying36 Tryd.zeroValue36 (fun _ => by kernel_rfl) rfl) rfl rfl rfl ?_
    refine J.y (op_indexAddrJ (i := 2) (j := 2) rfl rfl rfl Tryd.underlying67 Tryd.sizeOf9 (by decide) (by decide)) rfl rfl rfl ?_
    refine J.y (op_loadB 1 rfl rfl rfl Tryd.isAgg9 rfl) rfl rfl rfl ?_
    refine J.y (op_buildStruct (l := [(0, .tmp 33), (1, .tmp 39), (2, .tmp 41)]) (vs := [N64 v, .agg #[Str ta, Str tb, I h], Str tc]) (places := [(0, 1), (1, 3), (4, 1)]) (r := [N64 v, Str ta, Str tb, I h, Str tc]) rfl rfl rfl Tryd.underlying50 Tryd.zeroValue50 (fun _ => by kernel_rfl) rfl) rfl rfl rfl ?_
    refine J.e (op_alloc rfl Tryd.zeroValue50 rfl) rfl rfl rfl ?_
    intro g8 _
    change J _ _ _ [F, blk g4 [Str ta, Str tb, Str tc, Str td] 67, blk g8 _ 50] _
    refine J.s (op_storeAll (l := [N64 0, Str [], Str [], I 0, Str []]) (i := 2) (vs := [N64 v, Str ta, Str tb, I h, Str tc]) rfl rfl rfl rfl rfl Tryd.sizeOf50 rfl rfl) rfl rfl (fun _ _ => ?_)
    change J _ _ _ [F, blk g4 [Str ta, Str tb, Str tc, Str td] 67, blk g8 [N64 v, Str ta, Str tb, I h, Str tc] 50] _
    refine J.nil ?_
    refine J.then_n (J.k hK9 ?_)
    refine J.keepE [(0, _), (2, _), (4, _), (8, _)] ⟨rfl, rfl, rfl, rfl, trivial⟩ ?_
    refine J.seq (fun K10 hK10 => ?_)
    refine J.region ?_
    refine J.y (op_move rfl rfl) rfl rfl rfl ?_
    refine J.y (op_indexAddrJ (i := 0) (j := 0) rfl rfl rfl Tryd.underlying67 Tryd.sizeOf9 (by decide) (by decide)) rfl rfl rfl ?_
    refine J.y (op_loadB 1 rfl rfl rfl Tryd.isAgg9 rfl) rfl rfl rfl ?_
    refine J.y (op_indexAddrJ (i := 1) (j := 1) rfl rfl rfl Tryd.underlying67 Tryd.sizeOf9 (by decide) (by decide)) rfl rfl rfl ?_
    refine J.y (op_loadB 1 rfl rfl rfl Tryd.isAgg9 rfl) rfl rfl rfl ?_
    refine J.y (op_move rfl rfl) rfl rfl rfl ?_
    refine J.y (op_indexAddrJ (i := 2) (j := 2) rfl rfl rfl Tryd.underlying67 Tryd.sizeOf9 (by decide) (by decide)) rfl rfl rfl ?_
    refine J.y (op_loadB 1 rfl rfl rfl Tryd.isAgg9 rfl) rfl rfl rfl ?_
    refine J.y (op_buildStruct (l := [(0, .tmp 43), (1, .tmp 45), (2, .tmp 47), (3, .tmp 48), (4, .tmp 50)]) (vs := [N64 v, Str ta, Str tb, I h, Str tc]) (places := [(0, 1), (1, 1), (2, 1), (3, 1), (4, 1)]) (r := [N64 v, Str ta, Str tb, I h, Str tc]) rfl rfl rfl Tryd.underlying69 Tryd.zeroValue69 (fun _ => by kernel_rfl) rfl) rfl rfl rfl ?_
    refine J.e (op_alloc rfl Tryd.zeroValue69 rfl) rfl rfl rfl ?_
    intro g9 _
    change J _ _ _ [F, blk g4 [Str ta, Str tb, Str tc, Str td] 67, blk g8 [N64 v, Str ta, Str tb, I h, Str tc] 50, blk g9 _ 69] _
    refine J.s (op_storeAll (l := [N64 0, Str [], Str [], I 0, Str []]) (i := 3) (vs := [N64 v, Str ta, Str tb, I h, Str tc]) rfl rfl rfl rfl rfl Tryd.sizeOf69 rfl rfl) rfl rfl (fun _ _ => ?_)
    change J _ _ _ [F, blk g4 [Str ta, Str tb, Str tc, Str td] 67, blk g8 [N64 v, Str ta, Str tb, I h, Str tc] 50, blk g9 [N64 v, Str ta, Str tb, I h, Str tc] 69] _
    refine J.nil ?_
    refine J.then_n (J.k hK10 ?_)
    refine J.keepE [(4, _), (8, _), (9, _)] ⟨rfl, rfl, rfl, trivial⟩ ?_
    refine J.seq (fun K11 hK11 => ?_)
    refine J.region ?_
    refine J.y (op_loadBA 2 rfl rfl rfl Tryd.isAgg50 Tryd.sizeOf50 rfl) rfl rfl rfl ?_
    refine J.e (op_call rfl rfl ent34 (Ct.use0 (fun F' hF => eencode_ct F' v ta tb h tc (by omega) (by omega) (by omega) (by omega)))) rfl rfl rfl ?_
    intro g54 _
    refine J.y (op_move rfl rfl) rfl rfl rfl ?_
    refine J.y (op_extract (v := Str (enEnc v ta tb h tc)) rfl rfl rfl) rfl rfl rfl ?_
    refine J.y (op_extract (v := I (enErr v ta tb h tc)) rfl rfl rfl) rfl rfl rfl ?_
    refine J.y (op_assign rfl rfl) rfl rfl rfl ?_
    refine J.y (op_assign rfl rfl) rfl rfl rfl ?_
    refine J.nil ?_
    refine J.then_n (J.k hK11 ?_)
    refine J.keepE [(4, _), (8, _), (9, _), (10, _), (11, _)] ⟨rfl, rfl, rfl, rfl, rfl, trivial⟩ ?_
    refine J.seq (fun K12 hK12 => ?_)
    refine J.region ?_
    refine J.y (op_loadBA 3 rfl rfl rfl Tryd.isAgg69 Tryd.sizeOf69 rfl) rfl rfl rfl ?_
    refine J.e (op_call rfl rfl ent35 (Ct.use0 (fun F' hF => encode17_ct F' v ta tb h tc (by omega) (by omega) (by omega) (by omega)))) rfl rfl rfl ?_
    intro g59 _
    refine J.y (op_move rfl rfl) rfl rfl rfl ?_
    refine J.y (op_extract (v := Str (enEnc v ta tb h tc)) rfl rfl rfl) rfl rfl rfl ?_
    refine J.y (op_extract (v := I (enErr v ta tb h tc)) rfl rfl rfl) rfl rfl rfl ?_
    refine J.y (op_assign rfl rfl) rfl rfl rfl ?_
    refine J.y (op_assign rfl rfl) rfl rfl rfl ?_
    refine J.nil ?_
    refine J.then_n (J.k hK12 ?_)
    refine J.keepE [(4, _), (8, _), (9, _), (10, _), (11, _), (12, _), (13, _)] ⟨rfl, rfl, rfl, rfl, rfl, rfl, rfl, trivial⟩ ?_
    refine J.seq (fun K13 hK13 => ?_)
    refine J.seq (fun K14 hK14 => ?_)
    refine J.draw [blk g4 [Str ta, Str tb, Str tc, Str td] 67, blk g8 [N64 v, Str ta, Str tb, I h, Str tc] 50, blk g9 [N64 v, Str ta, Str tb, I h, Str tc] 69] [] (.y 0 (.y 1 (.y 2 (.y 3 (.y 4 (.y 5 (.y 6 (.y 7 (.y 8 (.y 9 (.y 11 (.e 10 (.e 12 (.y 13 (.y 14 (.y 15 (.y 16 (.y 17 (.y 19 (.y 20 (.br (.e 18 (.e 21 (.e 22 (.y 23 (.y 24 .nil))))) (.e 21 (.e 18 (.e 22 (.y 23 (.y 24 .nil)))))))))))))))))))))))))) Tryd.wide (by decide +kernel) (by simp) ?_
    refine J.dy rfl (op_move rfl rfl) rfl rfl rfl rfl ?_
    refine J.dy rfl (op_move rfl rfl) rfl rfl rfl rfl ?_
    refine J.dy rfl ((op_sne rfl rfl rfl).as (v' := .bool false) (congrArg Value.bool (decide_eq_false (fun h => h rfl)))) rfl rfl rfl rfl ?_
    refine J.dy rfl (op_move rfl rfl) rfl rfl rfl rfl ?_
    refine J.dyg rfl (op_move rfl rfl) (Wan.is rfl rfl rfl rfl rfl) rfl rfl rfl ?_
    refine J.dyg rfl (op_move rfl rfl) (Wan.is rfl rfl rfl rfl rfl) rfl rfl rfl ?_
    refine J.dyg rfl ((op_neq rfl rfl rfl).as (v' := .bool false) (congrArg Value.bool (decide_eq_false (fun h => h rfl)))) (Wan.is rfl rfl rfl rfl rfl) rfl rfl rfl ?_
    refine J.dy rfl (op_pickF rfl rfl rfl) rfl rfl rfl rfl ?_
    refine J.dy rfl (op_move rfl rfl) rfl rfl rfl rfl ?_
    refine J.dyg rfl (op_loadBA 1 rfl rfl rfl Tryd.isAgg50 Tryd.sizeOf50 rfl) (Wan.is rfl rfl rfl rfl rfl) rfl rfl rfl ?_
    refine J.dyg rfl (op_loadBA 2 rfl rfl rfl Tryd.isAgg69 Tryd.sizeOf69 rfl) (Wan.is rfl rfl rfl rfl rfl) rfl rfl rfl ?_
    refine J.deg rfl (op_call rfl rfl ent25 (Ct.use0 (fun F' hF => evalue_ct F' (hK.mono (hF _ (by simp))) v ta tb h tc (by omega) (by omega) (by omega) (by omega)))) (Wan.is rfl rfl rfl rfl rfl) rfl rfl (by simp) ?_
    intro g72 _
    refine J.deg rfl (op_call rfl rfl ent36 (Ct.use0 (fun F' hF => value17_ct F' v ta tb h tc (by omega) (by omega) (by omega) (by omega)))) (Wan.is rfl rfl rfl rfl rfl) rfl rfl (by simp) ?_
    intro g74 _
    refine J.dyg rfl ((op_sne rfl rfl rfl).as (v' := .bool false) (congrArg Value.bool (decide_eq_false (fun h => h rfl)))) (Wan.is rfl rfl rfl rfl rfl) rfl rfl rfl ?_
    refine J.dy rfl (op_pickF rfl rfl rfl) rfl rfl rfl rfl ?_
    refine J.dy rfl (op_move rfl rfl) rfl rfl rfl rfl ?_
    refine J.dyg rfl (op_indexAddrJ (i := 3) (j := 3) rfl rfl rfl Tryd.underlying67 Tryd.sizeOf9 (by decide) (by decide)) (Wan.is rfl rfl rfl rfl rfl) rfl rfl rfl ?_
    refine J.dyg rfl (op_loadB 0 rfl rfl rfl Tryd.isAgg9 rfl) (Wan.is rfl rfl rfl rfl rfl) rfl rfl rfl ?_
    refine J.dyg rfl (op_indexAddrJ (i := 3) (j := 3) rfl rfl rfl Tryd.underlying67 Tryd.sizeOf9 (by decide) (by decide)) (Wan.is rfl rfl rfl rfl rfl) rfl rfl rfl ?_
    refine J.dyg rfl (op_loadB 0 rfl rfl rfl Tryd.isAgg9 rfl) (Wan.is rfl rfl rfl rfl rfl) rfl rfl rfl ?_
    refine J.dbr ?_ ?_
    ·
      refine J.deg rfl (op_call rfl rfl ent37 (Ct.use0 (fun F' hF => ename_ct F' (hK.mono (hF _ (by simp))) td (by omega)))) (Wan.is rfl rfl rfl rfl rfl) rfl rfl (by simp) ?_
      intro g80 _
      refine J.deg rfl (op_buildSlice (l := [.tmp 82]) (xs := [[Str (td)]]) rfl rfl rfl rfl Tryd.underlying30 el9 rfl (by decide) (by decide) (by simp)) (Wan.is rfl rfl rfl rfl rfl) rfl rfl (by simp) ?_
      intro g83 _
      change J _ _ _ [F, blk g4 [Str ta, Str tb, Str tc, Str td] 67, blk g8 [N64 v, Str ta, Str tb, I h, Str tc] 50, blk g9 [N64 v, Str ta, Str tb, I h, Str tc] 69, blk g83 [Str (td)] 9] _
      refine J.deg rfl (op_call rfl rfl ent38 (Ct.use0 (fun F' hF => tagged6_ct F' 11 (some ⟨g83, 0, none⟩) 1 1 [td] ((slS [td] rfl).mono (hF (blk g83 (([td] : List (List UInt8)).map fun s => Str s) 9) (by simp))) (by simp; omega) (by decide)))) (Wan.is rfl rfl rfl rfl rfl) rfl rfl (by simp) ?_
      intro g84 _
      refine J.dyg rfl ((op_sne rfl rfl rfl).as (v' := .bool false) (congrArg Value.bool (decide_eq_false (fun h => h rfl)))) (Wan.is rfl rfl rfl rfl rfl) rfl rfl rfl ?_
      refine J.dy rfl (op_pickF rfl rfl rfl) rfl rfl rfl rfl ?_
      refine J.dnil ?_
      refine J.then_n (J.k hK14 ?_)
      refine J.keepE [(8, _), (10, _), (13, _), (86, _)] ⟨rfl, rfl, rfl, rfl, trivial⟩ ?_
      refine J.condF rfl rfl ?_
      refine J.skip ?_
      refine J.then_n (J.k hK13 ?_)
      refine J.keepE [(8, _), (10, _), (13, _)] ⟨rfl, rfl, rfl, trivial⟩ ?_
      refine J.seq (fun K15 hK15 => ?_)
      refine J.seq (fun K16 hK16 => ?_)
      refine J.region ?_
      refine J.y (op_move rfl rfl) rfl rfl rfl ?_
      refine J.y (op_neq rfl rfl rfl) rfl rfl rfl ?_
      refine J.nil ?_
      refine J.then_n (J.k hK16 ?_)
      refine J.keepE [(8, _), (10, _), (88, _)] ⟨rfl, rfl, rfl, trivial⟩ ?_
      refine J.ite rfl (fun h88 => ?_) (fun h88 => ?_)
      ·
        refine J.seq (fun K17 hK17 => ?_)
        refine J.region ?_
        refine J.y (op_assign rfl rfl) rfl rfl rfl ?_
        refine J.nil ?_
        refine J.then_n (J.k hK17 ?_)
        refine J.keepE [(6, _)] ⟨rfl, trivial⟩ ?_
        refine J.ret ?_
        refine J.then_r ?_
        exact J.done (fun _ _ h => h) (res1 rfl rfl) (retOk () rfl trivial [0] rfl (by decide))
      ·
        refine J.skip ?_
        refine J.then_n (J.k hK15 ?_)
        refine J.keepE [(8, _), (10, _)] ⟨rfl, rfl, trivial⟩ ?_
        refine J.seq (fun K18 hK18 => ?_)
        have he0 : enErr v ta tb h tc = 0 := by omega
        refine J.region ?_
        refine J.y (op_move rfl rfl) rfl rfl rfl ?_
        refine J.e (op_call rfl rfl ent39 (Ct.use0 (fun F' hF => edecode_ct F' (enEnc v ta tb h tc)))) rfl rfl rfl ?_
        intro g91 _
        change J _ ((91, deV (enEnc v ta tb h tc)) :: _) _ [F, blk g4 [Str ta, Str tb, Str tc, Str td] 67, blk g8 [N64 v, Str ta, Str tb, I h, Str tc] 50, blk g9 [N64 v, Str ta, Str tb, I h, Str tc] 69, blk g83 [Str (td)] 9] _
        rw [de_enc he0]
        refine J.y (op_move rfl rfl) rfl rfl rfl ?_
        refine J.y ((op_extract (v := .agg #[N64 v, Str ta, Str tb, I h, Str tc]) rfl rfl rfl)) rfl rfl rfl ?_
        refine J.y ((op_extract (v := I 0) rfl rfl rfl)) rfl rfl rfl ?_
        refine J.e (op_alloc rfl Tryd.zeroValue50 rfl) rfl rfl rfl ?_
        intro g14 _
        change J _ _ _ [F, blk g4 [Str ta, Str tb, Str tc, Str td] 67, blk g8 [N64 v, Str ta, Str tb, I h, Str tc] 50, blk g9 [N64 v, Str ta, Str tb, I h, Str tc] 69, blk g83 [Str (td)] 9, blk g14 _ 50] _
        refine J.s (op_storeAll (l := [N64 0, Str [], Str [], I 0, Str []]) (i := 5) (vs := [N64 v, Str ta, Str tb, I h, Str tc]) rfl rfl rfl rfl rfl Tryd.sizeOf50 rfl rfl) rfl rfl (fun _ _ => ?_)
        change J _ _ _ [F, blk g4 [Str ta, Str tb, Str tc, Str td] 67, blk g8 [N64 v, Str ta, Str tb, I h, Str tc] 50, blk g9 [N64 v, Str ta, Str tb, I h, Str tc] 69, blk g83 [Str (td)] 9, blk g14 [N64 v, Str ta, Str tb, I h, Str tc] 50] _
        refine J.y (op_assign rfl rfl) rfl rfl rfl ?_
        refine J.nil ?_
        refine J.then_n (J.k hK18 ?_)
        refine J.keepE [(8, _), (10, _), (14, _), (15, _)] ⟨rfl, rfl, rfl, rfl, trivial⟩ ?_
        refine J.seq (fun K19 hK19 => ?_)
        refine J.region ?_
        refine J.y (op_move rfl rfl) rfl rfl rfl ?_
        refine J.y ((op_eql rfl rfl rfl).as (v' := .bool true) (congrArg Value.bool (decide_eq_true (by decide)))) rfl rfl rfl ?_
        refine J.y (op_move rfl rfl) rfl rfl rfl ?_
        refine J.yg (Wan.is rfl rfl rfl rfl rfl) (op_loadBA 5 rfl rfl rfl Tryd.isAgg50 Tryd.sizeOf50 rfl) rfl rfl ?_
        refine J.yg (Wan.is rfl rfl rfl rfl rfl) (op_loadBA 2 rfl rfl rfl Tryd.isAgg50 Tryd.sizeOf50 rfl) rfl rfl ?_
        refine J.yg (Wan.is rfl rfl rfl rfl rfl) ((op_eqS rfl rfl rfl (by kernel_rfl) (eqEn ⟨v, ta, tb, h, tc⟩ ⟨v, ta, tb, h, tc⟩)).as (v' := .bool true) (by rw [decide_eq_true rfl])) rfl rfl ?_
        refine J.y (op_pickT rfl rfl rfl) rfl rfl rfl ?_
        refine J.y (op_move rfl rfl) rfl rfl rfl ?_
        refine J.yg (Wan.is rfl rfl rfl rfl rfl) (op_move rfl rfl) rfl rfl ?_
        refine J.yg (Wan.is rfl rfl rfl rfl rfl) (op_slen Tryd.underlying9 rfl rfl) rfl rfl ?_
        refine J.yg (Wan.is rfl rfl rfl rfl rfl) ((op_eql rfl rfl rfl).as (v' := .bool true) (congrArg Value.bool (decide_eq_true (congrArg Int.ofNat (enEnc_len he0))))) rfl rfl ?_
        refine J.y (op_pickT rfl rfl rfl) rfl rfl rfl ?_
        refine J.y (op_assign rfl rfl) rfl rfl rfl ?_
        refine J.nil ?_
        refine J.then_n (J.k hK19 ?_)
        refine J.keepE [(6, _)] ⟨rfl, trivial⟩ ?_
        refine J.ret ?_
        exact J.done (fun _ _ h => h) (res1 rfl rfl) (retOk () rfl trivial [0] rfl (by decide))
    ·
      refine J.deg rfl (op_buildSlice (l := [.tmp 82]) (xs := [[Str (td)]]) rfl rfl rfl rfl Tryd.underlying30 el9 rfl (by decide) (by decide) (by simp)) (Wan.is rfl rfl rfl rfl rfl) rfl rfl (by simp) ?_
      intro g83 _
      change J _ _ _ [F, blk g4 [Str ta, Str tb, Str tc, Str td] 67, blk g8 [N64 v, Str ta, Str tb, I h, Str tc] 50, blk g9 [N64 v, Str ta, Str tb, I h, Str tc] 69, blk g83 [Str (td)] 9] _
      refine J.deg rfl (op_call rfl rfl ent37 (Ct.use0 (fun F' hF => ename_ct F' (hK.mono (hF _ (by simp))) td (by omega)))) (Wan.is rfl rfl rfl rfl rfl) rfl rfl (by simp) ?_
      intro g80 _
      refine J.deg rfl (op_call rfl rfl ent38 (Ct.use0 (fun F' hF => tagged6_ct F' 11 (some ⟨g83, 0, none⟩) 1 1 [td] ((slS [td] rfl).mono (hF (blk g83 (([td] : List (List UInt8)).map fun s => Str s) 9) (by simp))) (by simp; omega) (by decide)))) (Wan.is rfl rfl rfl rfl rfl) rfl rfl (by simp) ?_
      intro g84 _
      refine J.dyg rfl ((op_sne rfl rfl rfl).as (v' := .bool false) (congrArg Value.bool (decide_eq_false (fun h => h rfl)))) (Wan.is rfl rfl rfl rfl rfl) rfl rfl rfl ?_
      refine J.dy rfl (op_pickF rfl rfl rfl) rfl rfl rfl rfl ?_
      refine J.dnil ?_
      refine J.then_n (J.k hK14 ?_)
      refine J.keepE [(8, _), (10, _), (13, _), (86, _)] ⟨rfl, rfl, rfl, rfl, trivial⟩ ?_
      refine J.condF rfl rfl ?_
      refine J.skip ?_
      refine J.then_n (J.k hK13 ?_)
      refine J.keepE [(8, _), (10, _), (13, _)] ⟨rfl, rfl, rfl, trivial⟩ ?_
      refine J.seq (fun K20 hK20 => ?_)
      refine J.seq (fun K21 hK21 => ?_)
      refine J.region ?_
      refine J.y (op_move rfl rfl) rfl rfl rfl ?_
      refine J.y (op_neq rfl rfl rfl) rfl rfl rfl ?_
      refine J.nil ?_
      refine J.then_n (J.k hK21 ?_)
      refine J.keepE [(8, _), (10, _), (88, _)] ⟨rfl, rfl, rfl, trivial⟩ ?_
      refine J.ite rfl (fun h88 => ?_) (fun h88 => ?_)
      ·
        refine J.seq (fun K22 hK22 => ?_)
        refine J.region ?_
        refine J.y (op_assign rfl rfl) rfl rfl rfl ?_
        refine J.nil ?_
        refine J.then_n (J.k hK22 ?_)
        refine J.keepE [(6, _)] ⟨rfl, trivial⟩ ?_
        refine J.ret ?_
        refine J.then_r ?_
        exact J.done (fun _ _ h => h) (res1 rfl rfl) (retOk () rfl trivial [0] rfl (by decide))
      ·
        refine J.skip ?_
        refine J.then_n (J.k hK20 ?_)
        refine J.keepE [(8, _), (10, _)] ⟨rfl, rfl, trivial⟩ ?_
        refine J.seq (fun K23 hK23 => ?_)
        have he0 : enErr v ta tb h tc = 0 := by omega
        refine J.region ?_
        refine J.y (op_move rfl rfl) rfl rfl rfl ?_
        refine J.e (op_call rfl rfl ent39 (Ct.use0 (fun F' hF => edecode_ct F' (enEnc v ta tb h tc)))) rfl rfl rfl ?_
        intro g91 _
        change J _ ((91, deV (enEnc v ta tb h tc)) :: _) _ [F, blk g4 [Str ta, Str tb, Str tc, Str td] 67, blk g8 [N64 v, Str ta, Str tb, I h, Str tc] 50, blk g9 [N64 v, Str ta, Str tb, I h, Str tc] 69, blk g83 [Str (td)] 9] _
        rw [de_enc he0]
        refine J.y (op_move rfl rfl) rfl rfl rfl ?_
        refine J.y ((op_extract (v := .agg #[N64 v, Str ta, Str tb, I h, Str tc]) rfl rfl rfl)) rfl rfl rfl ?_
        refine J.y ((op_extract (v := I 0) rfl rfl rfl)) rfl rfl rfl ?_
        refine J.e (op_alloc rfl Tryd.zeroValue50 rfl) rfl rfl rfl ?_
        intro g14 _
        change J _ _ _ [F, blk g4 [Str ta, Str tb, Str tc, Str td] 67, blk g8 [N64 v, Str ta, Str tb, I h, Str tc] 50, blk g9 [N64 v, Str ta, Str tb, I h, Str tc] 69, blk g83 [Str (td)] 9, blk g14 _ 50] _
        refine J.s (op_storeAll (l := [N64 0, Str [], Str [], I 0, Str []]) (i := 5) (vs := [N64 v, Str ta, Str tb, I h, Str tc]) rfl rfl rfl rfl rfl Tryd.sizeOf50 rfl rfl) rfl rfl (fun _ _ => ?_)
        change J _ _ _ [F, blk g4 [Str ta, Str tb, Str tc, Str td] 67, blk g8 [N64 v, Str ta, Str tb, I h, Str tc] 50, blk g9 [N64 v, Str ta, Str tb, I h, Str tc] 69, blk g83 [Str (td)] 9, blk g14 [N64 v, Str ta, Str tb, I h, Str tc] 50] _
        refine J.y (op_assign rfl rfl) rfl rfl rfl ?_
        refine J.nil ?_
        refine J.then_n (J.k hK23 ?_)
        refine J.keepE [(8, _), (10, _), (14, _), (15, _)] ⟨rfl, rfl, rfl, rfl, trivial⟩ ?_
        refine J.seq (fun K24 hK24 => ?_)
        refine J.region ?_
        refine J.y (op_move rfl rfl) rfl rfl rfl ?_
        refine J.y ((op_eql rfl rfl rfl).as (v' := .bool true) (congrArg Value.bool (decide_eq_true (by decide)))) rfl rfl rfl ?_
        refine J.y (op_move rfl rfl) rfl rfl rfl ?_
        refine J.yg (Wan.is rfl rfl rfl rfl rfl) (op_loadBA 5 rfl rfl rfl Tryd.isAgg50 Tryd.sizeOf50 rfl) rfl rfl ?_
        refine J.yg (Wan.is rfl rfl rfl rfl rfl) (op_loadBA 2 rfl rfl rfl Tryd.isAgg50 Tryd.sizeOf50 rfl) rfl rfl ?_
        refine J.yg (Wan.is rfl rfl rfl rfl rfl) ((op_eqS rfl rfl rfl (by kernel_rfl) (eqEn ⟨v, ta, tb, h, tc⟩ ⟨v, ta, tb, h, tc⟩)).as (v' := .bool true) (by rw [decide_eq_true rfl])) rfl rfl ?_
        refine J.y (op_pickT rfl rfl rfl) rfl rfl rfl ?_
        refine J.y (op_move rfl rfl) rfl rfl rfl ?_
        refine J.yg (Wan.is rfl rfl rfl rfl rfl) (op_move rfl rfl) rfl rfl ?_
        refine J.yg (Wan.is rfl rfl rfl rfl rfl) (op_slen Tryd.underlying9 rfl rfl) rfl rfl ?_
        refine J.yg (Wan.is rfl rfl rfl rfl rfl) ((op_eql rfl rfl rfl).as (v' := .bool true) (congrArg Value.bool (decide_eq_true (congrArg Int.ofNat (enEnc_len he0))))) rfl rfl ?_
        refine J.y (op_pickT rfl rfl rfl) rfl rfl rfl ?_
        refine J.y (op_assign rfl rfl) rfl rfl rfl ?_
        refine J.nil ?_
        refine J.then_n (J.k hK24 ?_)
        refine J.keepE [(6, _)] ⟨rfl, trivial⟩ ?_
        refine J.ret ?_
        exact J.done (fun _ _ h => h) (res1 rfl rfl) (retOk () rfl trivial [0] rfl (by decide))

end Go.Proofs.YtlopnfgacopkbaaDoor
