/- A part of the proof: contracts of functions of the program, each for every state of the heaps that it names. -/
import Derived.Test.YtnkfapecbmmpeaaDoorTopRlG25
import Derived.Test.YtnkfapecbmmpeaaDoorTopRlG23
set_option linter.unusedSimpArgs false
set_option linter.unusedVariables false
namespace Go.Proofs.YtnkfapecbmmpeaaDoor
open Go Go.Fw
set_option maxRecDepth 100000
set_option maxHeartbeats 1000000
theorem ent105 : Enters Tryd.prog 105 := Enters.of Tryd.func105 rfl (by kernel_rfl)
theorem ent106 : Enters Tryd.prog 106 := Enters.of Tryd.func106 rfl (by kernel_rfl)
namespace Sha
theorem tagB_snoc (tag : UInt8) (a : List (List UInt8)) (x : List UInt8) : tagB tag (a ++ [x]) = tagB tag a ++ (numB (UInt64.ofNat x.length) 4 ++ x) := by
  unfold tagB
  rw [List.flatMap_append, ← List.append_assoc]; simp
end Sha
namespace Sha
theorem tagB_take_succ (tag : UInt8) (ls : List (List UInt8)) (k : Nat) (h : k < ls.length) : tagB tag (ls.take (k + 1)) = tagB tag (ls.take k) ++ (numB (UInt64.ofNat (ls.getD k []).length) 4 ++ ls.getD k []) := by
  rw [List.take_succ_eq_append_getElem h, tagB_snoc, List.getD_eq_getElem?_getD, List.getElem?_eq_getElem h]; rfl
theorem flat_take (ls : List (List UInt8)) (k : Nat) : (ls.take k).flatten.length ≤ ls.flatten.length := by
  have := congrArg (fun l => l.flatten.length) (List.take_append_drop k ls)
  simp only [List.flatten_append, List.length_append] at this; omega
end Sha

attribute [local irreducible] Sha.tagB

theorem tagged6_ct (F : Hp) (tag : UInt8) (A : Option Addr) (n c : Nat) (ls : List (List UInt8)) (hl : Sl F 1 A n c (strsV ls)) (htot : ls.flatten.length ≤ 8589934592) (hn : n ≤ 1073741824) :
    Ct Tryd.prog 57 [B8 tag, .slice A n c] [F] (fun _ : Unit => Str (Sha.tagged tag ls)) (fun _ => True) (fun _ => [F]) := by
  have hlen : ls.length = n := by have := hl.1; simpa [strsV] using this
  refine Ct.walk Tryd.func57 rfl Tryd.ntmps57 rfl (fun w0 hw0 => ?_)
  change J _ [(0, _), (1, _)] _ _ _
  refine J.seq (fun K1 hK1 => ?_)
  refine J.region ?_
  refine J.y (op_assign rfl rfl) rfl rfl rfl ?_
  refine J.nil ?_
  refine J.then_n (J.k hK1 ?_)
  refine J.keepE [(0, _), (1, _)] ⟨rfl, rfl, trivial⟩ ?_
  refine J.seq (fun K2 hK2 => ?_)
  refine J.region ?_
  refine J.y (op_move rfl rfl) rfl rfl rfl ?_
  refine J.e (op_buildSlice (l := [.tmp 7]) (xs := [[B8 tag]]) rfl rfl rfl rfl Tryd.underlying30 el5 rfl (by decide) (by decide) (by simp)) rfl rfl rfl ?_
  intro g8 _
  change J _ _ _ [F, blk g8 [B8 tag] 5] _
  refine J.y (op_toStr (l := [tag]) rfl rfl Tryd.underlying30 Tryd.underlying5 Tryd.underlying9 (m := blk g8 [B8 tag] 5) (by simp) (row_blk (q := True) (xs := [[B8 tag]]) rfl (by simp)).sl) rfl rfl rfl ?_
  refine J.y (op_assign rfl rfl) rfl rfl rfl ?_
  refine J.nil ?_
  refine J.then_n (J.k hK2 ?_)
  refine J.keepE [(1, _), (5, _)] ⟨rfl, rfl, trivial⟩ ?_
  refine J.seq (fun K3 hK3 => ?_)
  refine J.seq (fun K4 hK4 => ?_)
  refine J.perm [0] [F] rfl (by decide) ?_
  refine J.region ?_
  refine J.y (op_assign rfl rfl) rfl rfl rfl ?_
  refine J.nil ?_
  refine J.then_n (J.k hK4 ?_)
  refine J.keepE [(1, _), (5, _), (6, _)] ⟨rfl, rfl, rfl, trivial⟩ ?_
  refine J.block ?_
  refine J.loop (fun k : Nat => [(1, .slice A n c), (5, Str (Sha.tagB tag (ls.take k))), (6, I k)]) (fun _ => [F]) (fun k => k ≤ n) (fun k => n - k) 0 (Nat.zero_le _) ⟨rfl, by unfold Sha.tagB; rfl, rfl, trivial⟩ (fun _ h => h) ?_
  intro k hk I0 hI0
  have htl := Sha.tagB_length tag (ls.take k)
  have hft := Sha.flat_take ls k
  rw [List.length_take] at htl
  refine J.seq (fun K5 hK5 => ?_)
  refine J.seq (fun K6 hK6 => ?_)
  refine J.region ?_
  refine J.y (op_move rfl rfl) rfl rfl rfl ?_
  refine J.y (op_move rfl rfl) rfl rfl rfl ?_
  refine J.y (op_len Tryd.underlying55 rfl rfl) rfl rfl rfl ?_
  refine J.y (op_lss rfl rfl rfl) rfl rfl rfl ?_
  refine J.nil ?_
  refine J.then_n (J.k hK6 ?_)
  refine J.keepE [(1, _), (5, _), (6, _), (13, _)] ⟨rfl, rfl, rfl, rfl, trivial⟩ ?_
  refine J.ite rfl (fun h13 => ?_) (fun h13 => ?_)
  ·
    refine J.skip ?_
    refine J.then_n (J.k hK5 ?_)
    refine J.keepE [(1, _), (5, _), (6, _)] ⟨rfl, rfl, rfl, trivial⟩ ?_
    refine J.seq (fun K7 hK7 => ?_)
    refine J.block ?_
    have hts := Sha.tagB_take_succ tag ls k (by omega)
    have hgl := len_flat (getSome [] (show k < ls.length by omega))
    refine J.draw [F] [] (.y 0 (.y 1 (.y 2 (.y 3 (.y 4 (.y 5 (.y 7 (.y 8 (.y 9 (.y 10 (.e 6 (.y 11 (.y 12 (.y 13 .nil)))))))))))))) Tryd.wide (by decide +kernel) (by simp) ?_
    refine J.dy rfl (op_move rfl rfl) rfl rfl rfl rfl ?_
    refine J.dy rfl (op_move rfl rfl) rfl rfl rfl rfl ?_
    refine J.dy rfl (op_move rfl rfl) rfl rfl rfl rfl ?_
    refine J.dy rfl (op_indexAddr (i := k) rfl rfl rfl Tryd.underlying55 Tryd.sizeOf9 hl (by omega)) rfl rfl rfl rfl ?_
    refine J.dy rfl (op_load rfl rfl Tryd.isAgg9 (m := F) (by simp) (hl.elem (strsV_get (getSome [] (show k < ls.length by omega))))) rfl rfl rfl rfl ?_
    refine J.dy rfl (op_slen Tryd.underlying9 rfl rfl) rfl rfl rfl rfl ?_
    refine J.dy rfl (op_move rfl rfl) rfl rfl rfl rfl ?_
    refine J.dy rfl (op_move rfl rfl) rfl rfl rfl rfl ?_
    refine J.dy rfl (op_indexAddr (i := k) rfl rfl rfl Tryd.underlying55 Tryd.sizeOf9 hl (by omega)) rfl rfl rfl rfl ?_
    refine J.dy rfl (op_load rfl rfl Tryd.isAgg9 (m := F) (by simp) (hl.elem (strsV_get (getSome [] (show k < ls.length by omega))))) rfl rfl rfl rfl ?_
    refine J.de rfl (op_call rfl rfl ent105 (Ct.use0 (fun F' hF => four_ct F' (ls.getD k []).length (by omega)))) rfl rfl rfl (by simp) ?_
    intro g22 _
    refine J.dy rfl ((op_sadd rfl rfl rfl (by rw [Sha.numB_length]; omega))) rfl rfl rfl rfl ?_
    refine J.dy rfl ((op_sadd rfl rfl rfl (by rw [List.length_append, Sha.numB_length]; omega)).as (v' := Str (Sha.tagB tag (ls.take (k + 1)))) (by rw [hts])) rfl rfl rfl rfl ?_
    refine J.dy rfl (op_assign rfl rfl) rfl rfl rfl rfl ?_
    refine J.dnil ?_
    refine J.blk_n ?_
    refine J.then_n (J.k hK7 ?_)
    refine J.keepE [(1, _), (5, _), (6, _)] ⟨rfl, rfl, rfl, trivial⟩ ?_
    refine J.region ?_
    refine J.y (op_move rfl rfl) rfl rfl rfl ?_
    refine J.y ((op_add rfl rfl rfl (by first | omega | (refine ⟨?_, ?_⟩ <;> omega))).as (v' := I ((k + 1 : Nat) : Int)) (congrArg I (by omega))) rfl rfl rfl ?_
    refine J.y (op_assign rfl rfl) rfl rfl rfl ?_
    refine J.nil ?_
    refine J.then_n ?_
    exact J.kk (k + 1) (fun x (hx : x ≤ n ∧ n - x < n - k) => hI0 x hx.1 hx.2) ⟨by omega, by omega⟩ ⟨rfl, rfl, rfl, trivial⟩ (fun _ h => h)
  ·
    refine J.exit ?_
    refine J.then_x ?_
    refine J.then_x ?_
    refine J.blk_eq ?_
    refine J.then_n (J.k hK3 ?_)
    refine J.keepE [(5, _)] ⟨rfl, trivial⟩ ?_
    refine J.seq (fun K8 hK8 => ?_)
    have htl := Sha.tagB_length tag ls
    refine J.region ?_
    refine J.y ((op_move rfl rfl).as (v' := Str (Sha.tagB tag ls)) (by rw [List.take_of_length_le (by omega)])) rfl rfl rfl ?_
    refine J.e (op_call rfl rfl ent106 (Ct.use0 (fun F' hF => sum3_ct F' (Sha.tagB tag ls) (by omega)))) rfl rfl rfl ?_
    intro g30 _
    refine J.y ((op_sslice (l := 0) (h := 16) Tryd.underlying9 rfl rfl rfl rfl ⟨by omega, by rw [Sha.sum_length]; decide⟩).as (congrArg Str (List.drop_zero))) rfl rfl rfl ?_
    refine J.y (op_assign rfl rfl) rfl rfl rfl ?_
    refine J.nil ?_
    refine J.then_n (J.k hK8 ?_)
    refine J.keepE [(4, _)] ⟨rfl, trivial⟩ ?_
    refine J.ret ?_
    exact J.done hw0 (fun _ _ h => h) (res1 rfl rfl) (retOk () (by unfold Sha.tagged; rfl) trivial [0] rfl (by decide))

end Go.Proofs.YtnkfapecbmmpeaaDoor

namespace Go.Proofs.YtnkfapecbmmpeaaDoor
open Go Go.Fw
set_option maxRecDepth 100000
set_option maxHeartbeats 1000000
theorem ent112 : Enters Tryd.prog 112 := Enters.of Tryd.func112 rfl (by kernel_rfl)

theorem gsome {s : List UInt8} {i : Nat} (h : i < s.length) : s[i]? = some (s.getD i 0) := getSome 0 h

theorem bit_ct (F : Hp) (k : List UInt8) (hk : k.length ≤ 1000000) (d : Nat) (hd : d ≤ 1000000) : Ct Tryd.prog 112 [Str (k), I ((d : Nat) : Int)] [F] (fun _ : Unit => I ((Sm.bit k d : Nat) : Int)) (fun _ => True) (fun _ => [F]) := by
  refine Ct.walk Tryd.func112 rfl Tryd.ntmps112 rfl (fun w0 hw0 => ?_)
  change J _ [(0, _), (1, _)] _ _ _
  refine J.seq (fun K1 hK1 => ?_)
  refine J.region ?_
  refine J.y (op_assign rfl rfl) rfl rfl rfl ?_
  refine J.nil ?_
  refine J.then_n (J.k hK1 ?_)
  refine J.keepE [(0, _), (1, _)] ⟨rfl, rfl, trivial⟩ ?_
  refine J.seq (fun K2 hK2 => ?_)
  refine J.seq (fun K3 hK3 => ?_)
  refine J.region ?_
  refine J.y (op_move rfl rfl) rfl rfl rfl ?_
  refine J.y (op_lss rfl rfl rfl) rfl rfl rfl ?_
  refine J.y (op_move rfl rfl) rfl rfl rfl ?_
  refine J.split (d := 7) rfl (fun h7 => ?_) (fun h7 => ?_)
  ·
    refine J.no (Wan.is rfl rfl rfl rfl rfl) rfl rfl ?_
    refine J.no (Wan.is rfl rfl rfl rfl rfl) rfl rfl ?_
    refine J.no (Wan.is rfl rfl rfl rfl rfl) rfl rfl ?_
    refine J.no (Wan.is rfl rfl rfl rfl rfl) rfl rfl ?_
    refine J.no (Wan.is rfl rfl rfl rfl rfl) rfl rfl ?_
    refine J.y (op_pickT rfl rfl rfl) rfl rfl rfl ?_
    refine J.nil ?_
    refine J.then_n (J.k hK3 ?_)
    refine J.keepE [(0, _), (1, _), (13, _)] ⟨rfl, rfl, rfl, trivial⟩ ?_
    refine J.condT rfl rfl ?_
    refine J.seq (fun K4 hK4 => ?_)
    refine J.region ?_
    refine J.y (op_assign rfl rfl) rfl rfl rfl ?_
    refine J.nil ?_
    refine J.then_n (J.k hK4 ?_)
    refine J.keepE [(4, _)] ⟨rfl, trivial⟩ ?_
    refine J.ret ?_
    refine J.then_r ?_
    exact J.done hw0 (fun _ _ h => h) (res1 rfl rfl) (retOk () (by unfold Sm.bit; rw [if_neg (by omega)]; rfl) trivial [0] rfl (by decide))
  ·
    refine J.yg (Wan.is rfl rfl rfl rfl rfl) (op_move rfl rfl) rfl rfl ?_
    refine J.yg (Wan.is rfl rfl rfl rfl rfl) (op_move rfl rfl) rfl rfl ?_
    refine J.yg (Wan.is rfl rfl rfl rfl rfl) (op_slen Tryd.underlying9 rfl rfl) rfl rfl ?_
    refine J.yg (Wan.is rfl rfl rfl rfl rfl) ((op_mul rfl rfl rfl (by first | omega | (have h8 := (UInt8.ofNat ((k.getD (d / 8) 0).toNat / 2 ^ (7 - d % 8))).toNat_lt; omega))).as (v' := I ((8 * k.length : Nat) : Int)) (congrArg I (by omega))) rfl rfl ?_
    refine J.yg (Wan.is rfl rfl rfl rfl rfl) (op_geq rfl rfl rfl) rfl rfl ?_
    refine J.y (op_pickF rfl rfl rfl) rfl rfl rfl ?_
    refine J.nil ?_
    refine J.then_n (J.k hK3 ?_)
    refine J.keepE [(0, _), (1, _), (13, _)] ⟨rfl, rfl, rfl, trivial⟩ ?_
    refine J.ite rfl (fun h13 => ?_) (fun h13 => ?_)
    ·
      refine J.seq (fun K5 hK5 => ?_)
      refine J.region ?_
      refine J.y (op_assign rfl rfl) rfl rfl rfl ?_
      refine J.nil ?_
      refine J.then_n (J.k hK5 ?_)
      refine J.keepE [(4, _)] ⟨rfl, trivial⟩ ?_
      refine J.ret ?_
      refine J.then_r ?_
      exact J.done hw0 (fun _ _ h => h) (res1 rfl rfl) (retOk () (by unfold Sm.bit; rw [if_neg (by omega)]; rfl) trivial [0] rfl (by decide))
    ·
      refine J.skip ?_
      refine J.then_n (J.k hK2 ?_)
      refine J.keepE [(0, _), (1, _)] ⟨rfl, rfl, trivial⟩ ?_
      refine J.seq (fun K6 hK6 => ?_)
      have hb8 : ((k.getD (d / 8) 0).toNat / 2 ^ (7 - d % 8)) < 256 := Nat.lt_of_le_of_lt (Nat.div_le_self _ _) (k.getD (d / 8) 0).toNat_lt
      have hbe : (UInt8.ofNat ((k.getD (d / 8) 0).toNat / 2 ^ (7 - d % 8))).toNat &&& 1 = Sm.bit k d := by
        unfold Sm.bit
        rw [if_pos (by omega), UInt8.toNat_ofNat_of_lt' hb8, Nat.and_one_is_mod]
      refine J.region ?_
      refine J.y (op_move rfl rfl) rfl rfl rfl ?_
      refine J.y (op_move rfl rfl) rfl rfl rfl ?_
      refine J.y ((op_quo rfl rfl rfl (by first | omega | (have h8 := (UInt8.ofNat ((k.getD (d / 8) 0).toNat / 2 ^ (7 - d % 8))).toNat_lt; omega))).as (v' := I ((d / 8 : Nat) : Int)) (congrArg I (by omega))) rfl rfl rfl ?_
      refine J.y (op_sindex (c := k.getD (d / 8) 0) Tryd.underlying9 rfl rfl rfl (gsome (by omega))) rfl rfl rfl ?_
      refine J.y (op_move rfl rfl) rfl rfl rfl ?_
      refine J.y ((op_rem rfl rfl rfl (by first | omega | (have h8 := (UInt8.ofNat ((k.getD (d / 8) 0).toNat / 2 ^ (7 - d % 8))).toNat_lt; omega))).as (v' := I ((d % 8 : Nat) : Int)) (congrArg I (by omega))) rfl rfl rfl ?_
      refine J.y ((op_sub rfl rfl rfl (by first | omega | (refine ⟨?_, ?_⟩ <;> omega))).as (v' := I ((7 - d % 8 : Nat) : Int)) (congrArg I (by omega))) rfl rfl rfl ?_
      refine J.y ((op_shr8 (m := 7 - d % 8) rfl rfl rfl).as (v' := B8 (UInt8.ofNat ((k.getD (d / 8) 0).toNat / 2 ^ (7 - d % 8)))) (by rw [Nat.min_eq_left (by omega)])) rfl rfl rfl ?_
      refine J.y (op_cv_u8_i64 rfl rfl Tryd.underlying5 Tryd.underlying3) rfl rfl rfl ?_
      refine J.y (op_andI (a := (UInt8.ofNat ((k.getD (d / 8) 0).toNat / 2 ^ (7 - d % 8))).toNat) (b := 1) rfl rfl rfl (by first | omega | (have h8 := (UInt8.ofNat ((k.getD (d / 8) 0).toNat / 2 ^ (7 - d % 8))).toNat_lt; omega))) rfl rfl rfl ?_
      refine J.y (op_assign rfl rfl) rfl rfl rfl ?_
      refine J.nil ?_
      refine J.then_n (J.k hK6 ?_)
      refine J.keepE [(4, _)] ⟨rfl, trivial⟩ ?_
      refine J.ret ?_
      exact J.done hw0 (fun _ _ h => h) (res1 rfl rfl) (retOk () (by rw [hbe]) trivial [0] rfl (by decide))

theorem below_ct (F : Hp) (k : List UInt8) (hk : k.length ≤ 1000000) (b : List UInt8) (hb : b.length ≤ 1000000) (d : Int) : Ct Tryd.prog 68 [Str (k), Str (b), I (d)] [F] (fun _ : Unit => .bool (Sm.belowB k b (min d.toNat 128))) (fun _ => True) (fun _ => [F]) := by
  refine Ct.walk Tryd.func68 rfl Tryd.ntmps68 rfl (fun w0 hw0 => ?_)
  change J _ [(0, _), (1, _), (2, _)] _ _ _
  refine J.seq (fun K1 hK1 => ?_)
  refine J.region ?_
  refine J.y (op_assign rfl rfl) rfl rfl rfl ?_
  refine J.nil ?_
  refine J.then_n (J.k hK1 ?_)
  refine J.keepE [(0, _), (1, _), (2, _)] ⟨rfl, rfl, rfl, trivial⟩ ?_
  refine J.seq (fun K2 hK2 => ?_)
  refine J.seq (fun K3 hK3 => ?_)
  refine J.region ?_
  refine J.y (op_move rfl rfl) rfl rfl rfl ?_
  refine J.y ((op_max rfl rfl rfl).as (v' := I ((d.toNat : Nat) : Int)) (congrArg I (by omega))) rfl rfl rfl ?_
  refine J.y ((op_min rfl rfl rfl).as (v' := I ((min d.toNat 128 : Nat) : Int)) (congrArg I (by omega))) rfl rfl rfl ?_
  refine J.y (op_move rfl rfl) rfl rfl rfl ?_
  refine J.nil ?_
  refine J.then_n (J.k hK3 ?_)
  refine J.keepE [(0, _), (1, _), (10, _), (11, _)] ⟨rfl, rfl, rfl, rfl, trivial⟩ ?_
  refine J.block ?_
  refine J.loop (X := Nat) (fun ζ => [(0, Str (k)), (1, Str (b)), (10, I ((min d.toNat 128 : Nat) : Int)), (11, I ((ζ : Nat) : Int))]) (fun ζ => [F]) (fun ζ => ζ ≤ min d.toNat 128 ∧ ∀ j < ζ, Sm.bit k j = Sm.bit b j) (fun ζ => min d.toNat 128 - ζ) 0 (⟨Nat.zero_le _, fun j h => absurd h (Nat.not_lt_zero j)⟩) ⟨rfl, rfl, rfl, rfl, trivial⟩ (fun _ h => h) ?_
  rintro i ⟨hi, hs⟩ I0 hI0
  refine J.seq (fun K4 hK4 => ?_)
  refine J.region ?_
  refine J.y (op_lss rfl rfl rfl) rfl rfl rfl ?_
  refine J.nil ?_
  refine J.then_n (J.k hK4 ?_)
  refine J.keepE [(0, _), (1, _), (10, _), (11, _), (12, _)] ⟨rfl, rfl, rfl, rfl, rfl, trivial⟩ ?_
  refine J.seq (fun K5 hK5 => ?_)
  refine J.ite rfl (fun h12 => ?_) (fun h12 => ?_)
  ·
    refine J.skip ?_
    refine J.then_n (J.k hK5 ?_)
    refine J.keepE [(0, _), (1, _), (10, _), (11, _)] ⟨rfl, rfl, rfl, rfl, trivial⟩ ?_
    refine J.seq (fun K6 hK6 => ?_)
    refine J.block ?_
    refine J.seq (fun K7 hK7 => ?_)
    refine J.region ?_
    refine J.y (op_move rfl rfl) rfl rfl rfl ?_
    refine J.y (op_assign rfl rfl) rfl rfl rfl ?_
    refine J.nil ?_
    refine J.then_n (J.k hK7 ?_)
    refine J.keepE [(0, _), (1, _), (7, _), (10, _), (11, _)] ⟨rfl, rfl, rfl, rfl, rfl, trivial⟩ ?_
    refine J.seq (fun K8 hK8 => ?_)
    refine J.region ?_
    refine J.y (op_move rfl rfl) rfl rfl rfl ?_
    refine J.y (op_move rfl rfl) rfl rfl rfl ?_
    refine J.e (op_call rfl rfl ent112 (Ct.use0 (fun F' hF => bit_ct F' k (by first | omega | exact hsm _) i (by omega)))) rfl rfl rfl ?_
    intro g16 _
    refine J.y (op_move rfl rfl) rfl rfl rfl ?_
    refine J.y (op_move rfl rfl) rfl rfl rfl ?_
    refine J.e (op_call rfl rfl ent112 (Ct.use0 (fun F' hF => bit_ct F' b (by first | omega | exact hsm _) i (by omega)))) rfl rfl rfl ?_
    intro g19 _
    refine J.y (op_neq rfl rfl rfl) rfl rfl rfl ?_
    refine J.nil ?_
    refine J.then_n (J.k hK8 ?_)
    refine J.keepE [(0, _), (1, _), (10, _), (11, _), (20, _)] ⟨rfl, rfl, rfl, rfl, rfl, trivial⟩ ?_
    refine J.ite rfl (fun h20 => ?_) (fun h20 => ?_)
    ·
      refine J.seq (fun K9 hK9 => ?_)
      refine J.region ?_
      refine J.y (op_assign rfl rfl) rfl rfl rfl ?_
      refine J.nil ?_
      refine J.then_n (J.k hK9 ?_)
      refine J.keepE [(6, _)] ⟨rfl, trivial⟩ ?_
      refine J.ret ?_
      refine J.blk_r ?_
      refine J.then_r ?_
      refine J.then_r ?_
      refine J.blk_r ?_
      refine J.then_r ?_
      exact J.done hw0 (fun _ _ h => h) (res1 rfl rfl) (retOk () (by rw [Sm.belowB_no (i := i) (by omega) (by omega)]) trivial [0] rfl (by decide))
    ·
      refine J.skip ?_
      refine J.blk_n ?_
      refine J.then_n (J.k hK6 ?_)
      refine J.keepE [(0, _), (1, _), (10, _), (11, _)] ⟨rfl, rfl, rfl, rfl, trivial⟩ ?_
      refine J.region ?_
      refine J.y ((op_add rfl rfl rfl (by first | omega | (simp only [List.length_append, List.length_cons, List.length_nil, List.length_take, List.length_drop] at *; omega))).as (v' := I ((i + 1 : Nat) : Int)) (congrArg I (by omega))) rfl rfl rfl ?_
      refine J.y (op_move rfl rfl) rfl rfl rfl ?_
      refine J.nil ?_
      refine J.then_n ?_
      exact J.kk (i + 1) (fun η (hη : _ ∧ min d.toNat 128 - η < min d.toNat 128 - i) => hI0 η hη.1 hη.2) ⟨⟨by omega, fun j hj => by rcases Nat.lt_succ_iff_lt_or_eq.1 hj with h | rfl; exact hs j h; omega⟩, by first | omega | (dsimp only; omega)⟩ ⟨rfl, rfl, rfl, rfl, trivial⟩ (fun _ h => h)
  ·
    refine J.exit ?_
    refine J.then_x ?_
    refine J.then_x ?_
    refine J.blk_eq ?_
    refine J.then_n (J.k hK2 ?_)
    refine J.keepE [] trivial ?_
    refine J.seq (fun K10 hK10 => ?_)
    refine J.region ?_
    refine J.y (op_assign rfl rfl) rfl rfl rfl ?_
    refine J.nil ?_
    refine J.then_n (J.k hK10 ?_)
    refine J.keepE [(6, _)] ⟨rfl, trivial⟩ ?_
    refine J.ret ?_
    exact J.done hw0 (fun _ _ h => h) (res1 rfl rfl) (retOk () (by rw [Sm.belowB_yes (fun j hj => hs j (by omega))]) trivial [0] rfl (by decide))

theorem tnew_ct (F : Hp)  : Ct Tryd.prog 10 [] [F] (fun x : Nat × Hp => Ptr x.1) (fun x => TreeS x.2 x.1 ([])) (fun x => [x.2, F]) := by
  refine Ct.walk Tryd.func10 rfl Tryd.ntmps10 rfl (fun w0 hw0 => ?_)
  change J _ [] _ _ _
  refine J.seq (fun K1 hK1 => ?_)
  refine J.region ?_
  refine J.y (op_assign rfl rfl) rfl rfl rfl ?_
  refine J.nil ?_
  refine J.then_n (J.k hK1 ?_)
  refine J.keepE [] trivial ?_
  refine J.seq (fun K2 hK2 => ?_)
  refine J.region ?_
  refine J.e (op_makeMap rfl) rfl rfl rfl ?_
  rintro g1 _
  change J _ ((1, .map (some g1)) :: _) _ [F, single g1 (.map #[] 0)] _
  refine J.y (op_buildStruct (l := [(0, .tmp 1)]) (vs := [.map (some g1)]) (places := [(0, 1)]) (r := [.map (some g1)]) rfl rfl rfl Tryd.underlying95 Tryd.zeroValue95 (fun _ => by kernel_rfl) rfl) rfl rfl rfl ?_
  refine J.e (op_box (l := [.map (some g1)]) rfl rfl rfl) rfl rfl rfl ?_
  intro g3 _
  change J _ _ _ [F, single g1 (.map #[] 0), blk g3 [.map (some g1)] 95] _
  refine J.y (op_assign rfl rfl) rfl rfl rfl ?_
  refine J.nil ?_
  refine J.then_n (J.k hK2 ?_)
  refine J.keepE [(0, _)] ⟨rfl, trivial⟩ ?_
  refine J.ret ?_
  exact J.done hw0 (fun _ _ h => h) (res1 rfl rfl) (retOkU (g3, U [blk g3 [.map (some g1)] 95, single g1 (.map #[] 0)]) (rfl) (fun hd => ⟨g1, single g1 (.map #[] 0), rfl, hd, (MapS.nil g1)⟩) [2, 1, 0] rfl rfl (by decide))

theorem tget_ct (F : Hp) (g : Nat) (l : List Sm.PR) (hT : TreeA F g l) (k : List UInt8) : Ct Tryd.prog 18 [Ptr g, Str (k)] [F] (fun _ : Unit => .tuple #[Str ((Sm.getP l k).getD []), .bool ((Sm.getP l k).isSome)]) (fun _ => True) (fun _ => [F]) := by
  have hT0 := hT
  obtain ⟨gm, hc, hm⟩ := hT0
  refine Ct.walk Tryd.func18 rfl Tryd.ntmps18 rfl (fun w0 hw0 => ?_)
  change J _ [(0, _), (1, _)] _ _ _
  refine J.seq (fun K1 hK1 => ?_)
  refine J.region ?_
  refine J.y (op_assign rfl rfl) rfl rfl rfl ?_
  refine J.y (op_assign rfl rfl) rfl rfl rfl ?_
  refine J.nil ?_
  refine J.then_n (J.k hK1 ?_)
  refine J.keepE [(0, _), (1, _)] ⟨rfl, rfl, trivial⟩ ?_
  refine J.seq (fun K2 hK2 => ?_)
  refine J.seq (fun K3 hK3 => ?_)
  refine J.region ?_
  refine J.y (op_move rfl rfl) rfl rfl rfl ?_
  refine J.y ((op_peq Tryd.underlying25 rfl rfl rfl).as (v' := .bool false) rfl) rfl rfl rfl ?_
  refine J.nil ?_
  refine J.then_n (J.k hK3 ?_)
  refine J.keepE [(0, _), (1, _), (9, _)] ⟨rfl, rfl, rfl, trivial⟩ ?_
  refine J.condF rfl rfl ?_
  refine J.skip ?_
  refine J.then_n (J.k hK2 ?_)
  refine J.keepE [(0, _), (1, _)] ⟨rfl, rfl, trivial⟩ ?_
  refine J.seq (fun K4 hK4 => ?_)
  refine J.region ?_
  refine J.y (op_move rfl rfl) rfl rfl rfl ?_
  refine J.y (op_nilCheck rfl rfl) rfl rfl rfl ?_
  refine J.y (op_fieldAddr (j := 0) rfl rfl Tryd.underlying95 rfl Tryd.sizeOf93 rfl) rfl rfl rfl ?_
  refine J.y (op_load (v := .map (some gm)) rfl rfl Tryd.isAgg93 (m := F) (by simp) (hc)) rfl rfl rfl ?_
  refine J.y (op_move rfl rfl) rfl rfl rfl ?_
  refine J.y ((op_lookup2 rfl rfl rfl Tryd.underlying93 Tryd.underlying9 Tryd.zeroValue9 (m := F) (by simp) hm).as (v' := .tuple #[Str ((Sm.getP l k).getD []), .bool ((Sm.getP l k).isSome)]) (by rw [getM_ss, getD_ss, Option.isSome_map])) rfl rfl rfl ?_
  refine J.y (op_move rfl rfl) rfl rfl rfl ?_
  refine J.y (op_extract (v := Str ((Sm.getP l k).getD [])) rfl rfl rfl) rfl rfl rfl ?_
  refine J.y (op_extract (v := .bool ((Sm.getP l k).isSome)) rfl rfl rfl) rfl rfl rfl ?_
  refine J.y (op_assign rfl rfl) rfl rfl rfl ?_
  refine J.y (op_assign rfl rfl) rfl rfl rfl ?_
  refine J.nil ?_
  refine J.then_n (J.k hK4 ?_)
  refine J.keepE [(6, _), (7, _)] ⟨rfl, rfl, trivial⟩ ?_
  refine J.seq (fun K5 hK5 => ?_)
  refine J.region ?_
  refine J.y (op_move rfl rfl) rfl rfl rfl ?_
  refine J.y (op_move rfl rfl) rfl rfl rfl ?_
  refine J.y (op_assign rfl rfl) rfl rfl rfl ?_
  refine J.y (op_assign rfl rfl) rfl rfl rfl ?_
  refine J.nil ?_
  refine J.then_n (J.k hK5 ?_)
  refine J.keepE [(4, _), (5, _)] ⟨rfl, rfl, trivial⟩ ?_
  refine J.ret ?_
  exact J.done hw0 (fun _ _ h => h) (res2 rfl rfl rfl) (retOk () rfl trivial [0] rfl (by decide))

theorem tlen_ct (F : Hp) (g : Nat) (l : List Sm.PR) (hT : TreeA F g l) : Ct Tryd.prog 15 [Ptr g] [F] (fun _ : Unit => I ((l.length : Nat) : Int)) (fun _ => True) (fun _ => [F]) := by
  have hT0 := hT
  obtain ⟨gm, hc, hm⟩ := hT0
  refine Ct.walk Tryd.func15 rfl Tryd.ntmps15 rfl (fun w0 hw0 => ?_)
  change J _ [(0, _)] _ _ _
  refine J.seq (fun K1 hK1 => ?_)
  refine J.region ?_
  refine J.y (op_assign rfl rfl) rfl rfl rfl ?_
  refine J.nil ?_
  refine J.then_n (J.k hK1 ?_)
  refine J.keepE [(0, _)] ⟨rfl, trivial⟩ ?_
  refine J.seq (fun K2 hK2 => ?_)
  refine J.seq (fun K3 hK3 => ?_)
  refine J.region ?_
  refine J.y (op_move rfl rfl) rfl rfl rfl ?_
  refine J.y ((op_peq Tryd.underlying25 rfl rfl rfl).as (v' := .bool false) rfl) rfl rfl rfl ?_
  refine J.nil ?_
  refine J.then_n (J.k hK3 ?_)
  refine J.keepE [(0, _), (4, _)] ⟨rfl, rfl, trivial⟩ ?_
  refine J.condF rfl rfl ?_
  refine J.skip ?_
  refine J.then_n (J.k hK2 ?_)
  refine J.keepE [(0, _)] ⟨rfl, trivial⟩ ?_
  refine J.seq (fun K4 hK4 => ?_)
  refine J.region ?_
  refine J.y (op_move rfl rfl) rfl rfl rfl ?_
  refine J.y (op_nilCheck rfl rfl) rfl rfl rfl ?_
  refine J.y (op_fieldAddr (j := 0) rfl rfl Tryd.underlying95 rfl Tryd.sizeOf93 rfl) rfl rfl rfl ?_
  refine J.y (op_load (v := .map (some gm)) rfl rfl Tryd.isAgg93 (m := F) (by simp) (hc)) rfl rfl rfl ?_
  refine J.y ((op_lenM rfl rfl Tryd.underlying93 (m := F) (by simp) hm).as (v' := I ((l.length : Nat) : Int)) (by rw [List.length_map])) rfl rfl rfl ?_
  refine J.y (op_assign rfl rfl) rfl rfl rfl ?_
  refine J.nil ?_
  refine J.then_n (J.k hK4 ?_)
  refine J.keepE [(2, _)] ⟨rfl, trivial⟩ ?_
  refine J.ret ?_
  exact J.done hw0 (fun _ _ h => h) (res1 rfl rfl) (retOk () rfl trivial [0] rfl (by decide))

theorem tput_ct (F m : Hp) (g : Nat) (l : List Sm.PR) (hb : TreeS m g l) (k v : List UInt8) (hk : k.length = 16) : Ct Tryd.prog 29 [Ptr g, Str (k), Str (v)] [m, F] (fun _ : Hp => I ((0 : Nat) : Int)) (fun m' => TreeS m' g (Sm.putP l k v)) (fun m' => [m', F]) := by
  obtain ⟨gm, mm, rfl, hd, hmp⟩ := hb
  refine Ct.walk Tryd.func29 rfl Tryd.ntmps29 rfl (fun w0 hw0 => ?_)
  change J _ [(0, _), (1, _), (2, _)] _ _ _
  refine J.splitU hd ?_
  refine J.seq (fun K1 hK1 => ?_)
  refine J.region ?_
  refine J.y (op_assign rfl rfl) rfl rfl rfl ?_
  refine J.nil ?_
  refine J.then_n (J.k hK1 ?_)
  refine J.keepE [(0, _), (1, _), (2, _)] ⟨rfl, rfl, rfl, trivial⟩ ?_
  refine J.seq (fun K2 hK2 => ?_)
  refine J.block ?_
  refine J.seq (fun K3 hK3 => ?_)
  refine J.region ?_
  refine J.y (op_move rfl rfl) rfl rfl rfl ?_
  refine J.y (op_peq Tryd.underlying25 rfl rfl rfl) rfl rfl rfl ?_
  refine J.y (op_assign rfl rfl) rfl rfl rfl ?_
  refine J.nil ?_
  refine J.then_n (J.k hK3 ?_)
  refine J.keepE [(0, _), (1, _), (2, _), (7, _)] ⟨rfl, rfl, rfl, rfl, trivial⟩ ?_
  refine J.condF rfl rfl ?_
  refine J.seq (fun K4 hK4 => ?_)
  refine J.region ?_
  refine J.y (op_move rfl rfl) rfl rfl rfl ?_
  refine J.y (op_slen Tryd.underlying9 rfl rfl) rfl rfl rfl ?_
  refine J.y ((op_neq rfl rfl rfl).as (v' := .bool false) (congrArg Value.bool (decide_eq_false (by omega)))) rfl rfl rfl ?_
  refine J.y (op_assign rfl rfl) rfl rfl rfl ?_
  refine J.nil ?_
  refine J.then_n (J.k hK4 ?_)
  refine J.keepE [(0, _), (1, _), (2, _), (10, _)] ⟨rfl, rfl, rfl, rfl, trivial⟩ ?_
  refine J.condF rfl rfl ?_
  refine J.skip ?_
  refine J.blk_n ?_
  refine J.then_n (J.k hK2 ?_)
  refine J.keepE [(0, _), (1, _), (2, _)] ⟨rfl, rfl, rfl, trivial⟩ ?_
  refine J.seq (fun K5 hK5 => ?_)
  refine J.region ?_
  refine J.y (op_move rfl rfl) rfl rfl rfl ?_
  refine J.y (op_nilCheck rfl rfl) rfl rfl rfl ?_
  refine J.y (op_fieldAddr (j := 0) rfl rfl Tryd.underlying95 rfl Tryd.sizeOf93 rfl) rfl rfl rfl ?_
  refine J.y (op_loadB 0 (v := .map (some gm)) rfl rfl rfl Tryd.isAgg93 rfl) rfl rfl rfl ?_
  refine J.y (op_move rfl rfl) rfl rfl rfl ?_
  refine J.y (op_move rfl rfl) rfl rfl rfl ?_
  refine J.s (op_mapUpdate (i := 1) (s := k) (u := Str v) (l := ssM l) rfl rfl rfl rfl Tryd.underlying93 Tryd.underlying9 rfl hmp) rfl rfl ?_
  rintro m5_1 hm5_1
  change J _ _ _ [blk g [.map (some gm)] 95, m5_1, F] _
  rw [putM_ss] at hm5_1
  refine J.nil ?_
  refine J.then_n (J.k hK5 ?_)
  refine J.keepE [] trivial ?_
  refine J.seq (fun K6 hK6 => ?_)
  refine J.region ?_
  refine J.y (op_assign rfl rfl) rfl rfl rfl ?_
  refine J.nil ?_
  refine J.then_n (J.k hK6 ?_)
  refine J.keepE [(6, _)] ⟨rfl, trivial⟩ ?_
  refine J.ret ?_
  exact J.done hw0 (fun _ _ h => h) (res1 rfl rfl) (retOkU (U [blk g [.map (some gm)] 95, m5_1]) (rfl) (fun hd => ⟨gm, m5_1, rfl, hd, hm5_1⟩) [0, 1, 2] rfl rfl (by decide))

end Go.Proofs.YtnkfapecbmmpeaaDoor
