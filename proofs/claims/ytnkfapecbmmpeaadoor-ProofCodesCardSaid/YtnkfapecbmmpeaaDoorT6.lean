/- A part of the proof: contracts of functions of the program, each for every state of the heaps that it names. -/
import Derived.Test.YtnkfapecbmmpeaaDoorRef3
import Derived.Test.YtnkfapecbmmpeaaDoorSbC
set_option linter.unusedSimpArgs false
set_option linter.unusedVariables false
namespace Go.Proofs.YtnkfapecbmmpeaaDoor
open Go Go.Fw
set_option maxRecDepth 100000
set_option maxHeartbeats 1000000
theorem ent105 : Enters Tryd.prog 105 := Enters.of Tryd.func105 rfl (by kernel_rfl)
theorem ent106 : Enters Tryd.prog 106 := Enters.of Tryd.func106 rfl (by kernel_rfl)
namespace Sha
theorem tagB_snoc (tag : UInt8) (a : List (List UInt8)) (x : List UInt8) : tagB tag (a ++ [x]) = tagB tag a ++ (numB (UInt64.ofNat x.length) 4 ++ x) := by
  unfold tagB
  rw [List.flatMap_append, ← List.append_assoc]; simp
end Sha
namespace Sha
theorem tagB_take_succ (tag : UInt8) (ls : List (List UInt8)) (k : Nat) (h : k < ls.length) : tagB tag (ls.take (k + 1)) = tagB tag (ls.take k) ++ (numB (UInt64.ofNat (ls.getD k []).length) 4 ++ ls.getD k []) := by
  rw [List.take_succ_eq_append_getElem h, tagB_snoc, List.getD_eq_getElem?_getD, List.getElem?_eq_getElem h]; rfl
theorem flat_take (ls : List (List UInt8)) (k : Nat) : (ls.take k).flatten.length ≤ ls.flatten.length := by
  have := congrArg (fun l => l.flatten.length) (List.take_append_drop k ls)
  simp only [List.flatten_append, List.length_append] at this; omega
end Sha

attribute [local irreducible] Sha.tagB

theorem tagged6_ct (F : Hp) (tag : UInt8) (A : Option Addr) (n c : Nat) (ls : List (List UInt8)) (hl : Sl F 1 A n c (strsV ls)) (htot : ls.flatten.length ≤ 8589934592) (hn : n ≤ 1073741824) :
    Ct Tryd.prog 57 [B8 tag, .slice A n c] [F] (fun _ : Unit => Str (Sha.tagged tag ls)) (fun _ => True) (fun _ => [F]) := by
  have hlen : ls.length = n := by have := hl.1; simpa [strsV] using this
  refine Ct.walk Tryd.func57 rfl Tryd.ntmps57 rfl (fun w0 hw0 => ?_)
  change J _ [(0, _), (1, _)] _ _ _
  refine J.seq (fun K1 hK1 => ?_)
  refine J.region ?_
  refine J.y (op_assign rfl rfl) rfl rfl rfl ?_
  refine J.nil ?_
  refine J.then_n (J.k hK1 ?_)
  refine J.keepE [(0, _), (1, _)] ⟨rfl, rfl, trivial⟩ ?_
  refine J.seq (fun K2 hK2 => ?_)
  refine J.region ?_
  refine J.y (op_move rfl rfl) rfl rfl rfl ?_
  refine J.e (op_buildSlice (l := [.tmp 7]) (xs := [[B8 tag]]) rfl rfl rfl rfl Tryd.underlying30 el5 rfl (by decide) (by decide) (by simp)) rfl rfl rfl ?_
  intro g8 _
  change J _ _ _ [F, blk g8 [B8 tag] 5] _
  refine J.y (op_toStr (l := [tag]) rfl rfl Tryd.underlying30 Tryd.underlying5 Tryd.underlying9 (m := blk g8 [B8 tag] 5) (by simp) (row_blk (q := True) (xs := [[B8 tag]]) rfl (by simp)).sl) rfl rfl rfl ?_
  refine J.y (op_assign rfl rfl) rfl rfl rfl ?_
  refine J.nil ?_
  refine J.then_n (J.k hK2 ?_)
  refine J.keepE [(1, _), (5, _)] ⟨rfl, rfl, trivial⟩ ?_
  refine J.seq (fun K3 hK3 => ?_)
  refine J.seq (fun K4 hK4 => ?_)
  refine J.perm [0] [F] rfl (by decide) ?_
  refine J.region ?_
  refine J.y (op_assign rfl rfl) rfl rfl rfl ?_
  refine J.nil ?_
  refine J.then_n (J.k hK4 ?_)
  refine J.keepE [(1, _), (5, _), (6, _)] ⟨rfl, rfl, rfl, trivial⟩ ?_
  refine J.block ?_
  refine J.loop (fun k : Nat => [(1, .slice A n c), (5, Str (Sha.tagB tag (ls.take k))), (6, I k)]) (fun _ => [F]) (fun k => k ≤ n) (fun k => n - k) 0 (Nat.zero_le _) ⟨rfl, by unfold Sha.tagB; rfl, rfl, trivial⟩ (fun _ h => h) ?_
  intro k hk I0 hI0
  have htl := Sha.tagB_length tag (ls.take k)
  have hft := Sha.flat_take ls k
  rw [List.length_take] at htl
  refine J.seq (fun K5 hK5 => ?_)
  refine J.seq (fun K6 hK6 => ?_)
  refine J.region ?_
  refine J.y (op_move rfl rfl) rfl rfl rfl ?_
  refine J.y (op_move rfl rfl) rfl rfl rfl ?_
  refine J.y (op_len Tryd.underlying55 rfl rfl) rfl rfl rfl ?_
  refine J.y (op_lss rfl rfl rfl) rfl rfl rfl ?_
  refine J.nil ?_
  refine J.then_n (J.k hK6 ?_)
  refine J.keepE [(1, _), (5, _), (6, _), (13, _)] ⟨rfl, rfl, rfl, rfl, trivial⟩ ?_
  refine J.ite rfl (fun h13 => ?_) (fun h13 => ?_)
  ·
    refine J.skip ?_
    refine J.then_n (J.k hK5 ?_)
    refine J.keepE [(1, _), (5, _), (6, _)] ⟨rfl, rfl, rfl, trivial⟩ ?_
    refine J.seq (fun K7 hK7 => ?_)
    refine J.block ?_
    have hts := Sha.tagB_take_succ tag ls k (by omega)
    have hgl := len_flat (getSome [] (show k < ls.length by omega))
    refine J.draw [F] [] (.y 0 (.y 1 (.y 2 (.y 3 (.y 4 (.y 5 (.y 7 (.y 8 (.y 9 (.y 10 (.e 6 (.y 11 (.y 12 (.y 13 .nil)))))))))))))) Tryd.wide (by decide +kernel) (by simp) ?_
    refine J.dy rfl (op_move rfl rfl) rfl rfl rfl rfl ?_
    refine J.dy rfl (op_move rfl rfl) rfl rfl rfl rfl ?_
    refine J.dy rfl (op_move rfl rfl) rfl rfl rfl rfl ?_
    refine J.dy rfl (op_indexAddr (i := k) rfl rfl rfl Tryd.underlying55 Tryd.sizeOf9 hl (by omega)) rfl rfl rfl rfl ?_
    refine J.dy rfl (op_load rfl rfl Tryd.isAgg9 (m := F) (by simp) (hl.elem (strsV_get (getSome [] (show k < ls.length by omega))))) rfl rfl rfl rfl ?_
    refine J.dy rfl (op_slen Tryd.underlying9 rfl rfl) rfl rfl rfl rfl ?_
    refine J.dy rfl (op_move rfl rfl) rfl rfl rfl rfl ?_
    refine J.dy rfl (op_move rfl rfl) rfl rfl rfl rfl ?_
    refine J.dy rfl (op_indexAddr (i := k) rfl rfl rfl Tryd.underlying55 Tryd.sizeOf9 hl (by omega)) rfl rfl rfl rfl ?_
    refine J.dy rfl (op_load rfl rfl Tryd.isAgg9 (m := F) (by simp) (hl.elem (strsV_get (getSome [] (show k < ls.length by omega))))) rfl rfl rfl rfl ?_
    refine J.de rfl (op_call rfl rfl ent105 (Ct.use0 (fun F' hF => four_ct F' (ls.getD k []).length (by omega)))) rfl rfl rfl (by simp) ?_
    intro g22 _
    refine J.dy rfl ((op_sadd rfl rfl rfl (by rw [Sha.numB_length]; omega))) rfl rfl rfl rfl ?_
    refine J.dy rfl ((op_sadd rfl rfl rfl (by rw [List.length_append, Sha.numB_length]; omega)).as (v' := Str (Sha.tagB tag (ls.take (k + 1)))) (by rw [hts])) rfl rfl rfl rfl ?_
    refine J.dy rfl (op_assign rfl rfl) rfl rfl rfl rfl ?_
    refine J.dnil ?_
    refine J.blk_n ?_
    refine J.then_n (J.k hK7 ?_)
    refine J.keepE [(1, _), (5, _), (6, _)] ⟨rfl, rfl, rfl, trivial⟩ ?_
    refine J.region ?_
    refine J.y (op_move rfl rfl) rfl rfl rfl ?_
    refine J.y ((op_add rfl rfl rfl (by first | omega | (refine ⟨?_, ?_⟩ <;> omega))).as (v' := I ((k + 1 : Nat) : Int)) (congrArg I (by omega))) rfl rfl rfl ?_
    refine J.y (op_assign rfl rfl) rfl rfl rfl ?_
    refine J.nil ?_
    refine J.then_n ?_
    exact J.kk (k + 1) (fun x (hx : x ≤ n ∧ n - x < n - k) => hI0 x hx.1 hx.2) ⟨by omega, by omega⟩ ⟨rfl, rfl, rfl, trivial⟩ (fun _ h => h)
  ·
    refine J.exit ?_
    refine J.then_x ?_
    refine J.then_x ?_
    refine J.blk_eq ?_
    refine J.then_n (J.k hK3 ?_)
    refine J.keepE [(5, _)] ⟨rfl, trivial⟩ ?_
    refine J.seq (fun K8 hK8 => ?_)
    have htl := Sha.tagB_length tag ls
    refine J.region ?_
    refine J.y ((op_move rfl rfl).as (v' := Str (Sha.tagB tag ls)) (by rw [List.take_of_length_le (by omega)])) rfl rfl rfl ?_
    refine J.e (op_call rfl rfl ent106 (Ct.use0 (fun F' hF => sum3_ct F' (Sha.tagB tag ls) (by omega)))) rfl rfl rfl ?_
    intro g30 _
    refine J.y ((op_sslice (l := 0) (h := 16) Tryd.underlying9 rfl rfl rfl rfl ⟨by omega, by rw [Sha.sum_length]; decide⟩).as (congrArg Str (List.drop_zero))) rfl rfl rfl ?_
    refine J.y (op_assign rfl rfl) rfl rfl rfl ?_
    refine J.nil ?_
    refine J.then_n (J.k hK8 ?_)
    refine J.keepE [(4, _)] ⟨rfl, trivial⟩ ?_
    refine J.ret ?_
    exact J.done hw0 (fun _ _ h => h) (res1 rfl rfl) (retOk () (by unfold Sha.tagged; rfl) trivial [0] rfl (by decide))

end Go.Proofs.YtnkfapecbmmpeaaDoor
