/- A part of the proof: contracts of functions of the program, each for every state of the heaps that it names. -/
import Derived.Test.YtadckkaepngloaaDoorLaw7b
import Derived.Test.YtadckkaepngloaaDoorLaw3b
set_option linter.unusedSimpArgs false
set_option linter.unusedVariables false
namespace Go.Proofs.YtadckkaepngloaaDoor
open Go Go.Fw
set_option maxRecDepth 100000
set_option maxHeartbeats 1000000
theorem ent25 : Enters Tryd.prog 25 := Enters.of Tryd.func25 rfl (by kernel_rfl)
theorem ent26 : Enters Tryd.prog 26 := Enters.of Tryd.func26 rfl (by kernel_rfl)
theorem ent39 : Enters Tryd.prog 39 := Enters.of Tryd.func39 rfl (by kernel_rfl)

namespace Mk
theorem climb_snoc (s : List UInt8) : ∀ (p : List (List UInt8)) (x : List UInt8) (i : Nat), climb x i (p ++ [s]) = if i / 2 ^ p.length % 2 = 0 then node (climb x i p) s else node s (climb x i p)
  | [], x, i => by simp [climb]
  | a :: p, x, i => by
    rw [List.cons_append, climb, climb, climb_snoc s p, List.length_cons, Nat.pow_succ, Nat.mul_comm, ← Nat.div_div_eq_div_mul]
theorem climb_lvl (l : List (List UInt8)) (h i : Nat) (hl : l.length = 2 ^ h) (hi : i < 2 ^ h) : ∀ j, j ≤ h → climb (l.getD i []) i (path l i j) = (lvl l j).getD (i / 2 ^ j) []
  | 0, _ => by simp [path, climb, lvl]
  | j + 1, hj => by
    have hlen := lvl_length l h hl j (by omega)
    have h1 : i / 2 ^ j < 2 ^ (h - j) := by rw [Nat.div_lt_iff_lt_mul (Nat.two_pow_pos j), ← Nat.pow_add, show h - j + j = h by omega]; exact hi
    have h2 := two_pow_even (show 0 < h - j by omega)
    rw [path_succ, climb_snoc, climb_lvl l h i hl hi j (by omega), path_length, Nat.pow_succ, ← Nat.div_div_eq_div_mul]
    generalize i / 2 ^ j = q at *
    rw [show lvl l (j + 1) = above (lvl l j) from rfl, List.getD_eq_getElem?_getD (l := above (lvl l j)), above_get, hlen, if_pos (show q / 2 < 2 ^ (h - j) / 2 by omega), xor_val]
    split
    · rename_i e
      rw [show 2 * (q / 2) = q by omega]; rfl
    · rename_i e
      rw [show 2 * (q / 2) = q - 1 by omega, show q - 1 + 1 = q by omega]; rfl
theorem climb_root (l : List (List UInt8)) (h i : Nat) (hl : l.length = 2 ^ h) (hi : i < 2 ^ h) : climb (l.getD i []) i (path l i h) = root l h := by
  rw [climb_lvl l h i hl hi h (Nat.le_refl _), Nat.div_eq_of_lt hi]; rfl
/-- so many texts, cut; the empty one behind the last -/
def fillL (w : Nat) (ls : List (List UInt8)) (k : Nat) : List (List UInt8) := (List.range k).map fun j => (ls.getD j []).take w
theorem fillL_succ (w : Nat) (ls : List (List UInt8)) (k : Nat) : fillL w ls (k + 1) = fillL w ls k ++ [(ls.getD k []).take w] := by simp [fillL, List.range_succ]
theorem fillL_length (w : Nat) (ls : List (List UInt8)) (k : Nat) : (fillL w ls k).length = k := by simp [fillL]
theorem fillL_small (w : Nat) (ls : List (List UInt8)) (k : Nat) : ∀ s ∈ fillL w ls k, s.length ≤ w := fun s hs => by
  simp only [fillL, List.mem_map] at hs
  obtain ⟨j, _, rfl⟩ := hs
  rw [List.length_take]; omega
theorem flat_small {ls : List (List UInt8)} {w : Nat} (h : ∀ s ∈ ls, s.length ≤ w) : ls.flatten.length ≤ w * ls.length := by
  induction ls with
  | nil => simp
  | cons a l ih =>
    have := ih (fun s hs => h s (.tail _ hs))
    have h2 := h a (.head _)
    rw [List.flatten_cons, List.length_append, List.length_cons, Nat.mul_add]; omega
theorem getD_out {ls : List (List UInt8)} {k : Nat} (h : ls.length ≤ k) : ls.getD k [] = [] := by
  rw [List.getD_eq_getElem?_getD, List.getElem?_eq_none h]; rfl
end Mk
namespace Sha
theorem tagB_take_succ (tag : UInt8) (ls : List (List UInt8)) (k : Nat) (h : k < ls.length) : tagB tag (ls.take (k + 1)) = tagB tag (ls.take k) ++ (numB (UInt64.ofNat (ls.getD k []).length) 4 ++ ls.getD k []) := by
  rw [List.take_succ_eq_append_getElem h, tagB_snoc, List.getD_eq_getElem?_getD, List.getElem?_eq_getElem h]; rfl
theorem flat_take (ls : List (List UInt8)) (k : Nat) : (ls.take k).flatten.length ≤ ls.flatten.length := by
  have := congrArg (fun l => l.flatten.length) (List.take_append_drop k ls)
  simp only [List.flatten_append, List.length_append] at this; omega
end Sha
attribute [local irreducible] Sha.tagB Mk.node Mk.root Mk.path
theorem nodeT (a b : List UInt8) : Mk.node a b = Sha.tagged 5 [a, b] := by unfold Mk.node; rfl

theorem Mk.path_small (l : List (List UInt8)) (i h : Nat) (hs : ∀ s ∈ l, s.length ≤ 1048576) : ∀ s ∈ Mk.path l i h, s.length ≤ 1048576 := fun s hp => by
  unfold Mk.path at hp
  simp only [List.mem_map] at hp
  obtain ⟨j, _, rfl⟩ := hp
  by_cases h0 : i / 2 ^ j ^^^ 1 < (Mk.lvl l j).length
  · exact Mk.lvl_small l hs j _ (Mk.getS_mem h0)
  · rw [Mk.getD_out (by omega)]; decide

theorem tagged6_ct (F : Hp) (tag : UInt8) (A : Option Addr) (n c : Nat) (ls : List (List UInt8)) (hl : Sl F 1 A n c (strsV ls)) (htot : ls.flatten.length ≤ 8589934592) (hn : n ≤ 1073741824) :
    Ct Tryd.prog 39 [B8 tag, .slice A n c] [F] (fun _ : Unit => Str (Sha.tagged tag ls)) (fun _ => True) (fun _ => [F]) := by
  have hlen : ls.length = n := by have := hl.1; simpa [strsV] using this
  refine Ct.walk Tryd.func39 rfl Tryd.ntmps39 rfl (fun w0 => ?_)
  change J _ [(0, _), (1, _)] _ _ _
  refine J.seq (fun K1 hK1 => ?_)
  refine J.region ?_
  refine J.y (op_assign rfl rfl) rfl rfl rfl ?_
  refine J.nil ?_
  refine J.then_n (J.k hK1 ?_)
  refine J.keepE [(0, _), (1, _)] ⟨rfl, rfl, trivial⟩ ?_
  refine J.seq (fun K2 hK2 => ?_)
  refine J.region ?_
  refine J.y (op_move rfl rfl) rfl rfl rfl ?_
  refine J.e (op_buildSlice (l := [.tmp 7]) (xs := [[B8 tag]]) rfl rfl rfl rfl Tryd.underlying24 el5 rfl (by decide) (by decide) (by simp)) rfl rfl rfl ?_
  intro g8 _
  change J _ _ _ [F, blk g8 [B8 tag] 5] _
  refine J.y (op_toStr (l := [tag]) rfl rfl Tryd.underlying24 Tryd.underlying5 Tryd.underlying9 (m := blk g8 [B8 tag] 5) (by simp) (row_blk (q := True) (xs := [[B8 tag]]) rfl (by simp)).sl) rfl rfl rfl ?_
  refine J.y (op_assign rfl rfl) rfl rfl rfl ?_
  refine J.nil ?_
  refine J.then_n (J.k hK2 ?_)
  refine J.keepE [(1, _), (5, _)] ⟨rfl, rfl, trivial⟩ ?_
  refine J.seq (fun K3 hK3 => ?_)
  refine J.seq (fun K4 hK4 => ?_)
  refine J.perm [0] [F] rfl (by decide) ?_
  refine J.region ?_
  refine J.y (op_assign rfl rfl) rfl rfl rfl ?_
  refine J.nil ?_
  refine J.then_n (J.k hK4 ?_)
  refine J.keepE [(1, _), (5, _), (6, _)] ⟨rfl, rfl, rfl, trivial⟩ ?_
  refine J.block ?_
  refine J.loop (fun k : Nat => [(1, .slice A n c), (5, Str (Sha.tagB tag (ls.take k))), (6, I k)]) (fun _ => [F]) (fun k => k ≤ n) (fun k => n - k) 0 (Nat.zero_le _) ⟨rfl, by unfold Sha.tagB; rfl, rfl, trivial⟩ (fun _ h => h) ?_
  intro k hk I0 hI0
  have htl := Sha.tagB_length tag (ls.take k)
  have hft := Sha.flat_take ls k
  rw [List.length_take] at htl
  refine J.seq (fun K5 hK5 => ?_)
  refine J.seq (fun K6 hK6 => ?_)
  refine J.region ?_
  refine J.y (op_move rfl rfl) rfl rfl rfl ?_
  refine J.y (op_move rfl rfl) rfl rfl rfl ?_
  refine J.y (op_len Tryd.underlying22 rfl rfl) rfl rfl rfl ?_
  refine J.y (op_lss rfl rfl rfl) rfl rfl rfl ?_
  refine J.nil ?_
  refine J.then_n (J.k hK6 ?_)
  refine J.keepE [(1, _), (5, _), (6, _), (13, _)] ⟨rfl, rfl, rfl, rfl, trivial⟩ ?_
  refine J.ite rfl (fun h13 => ?_) (fun h13 => ?_)
  ·
    refine J.skip ?_
    refine J.then_n (J.k hK5 ?_)
    refine J.keepE [(1, _), (5, _), (6, _)] ⟨rfl, rfl, rfl, trivial⟩ ?_
    refine J.seq (fun K7 hK7 => ?_)
    refine J.block ?_
    have hts := Sha.tagB_take_succ tag ls k (by omega)
    have hgl := len_flat (getSome [] (show k < ls.length by omega))
    refine J.draw [F] [] (.y 0 (.y 1 (.y 2 (.y 3 (.y 4 (.y 5 (.y 7 (.y 8 (.y 9 (.y 10 (.e 6 (.y 11 (.y 12 (.y 13 .nil)))))))))))))) Tryd.wide (by decide +kernel) (by simp) ?_
    refine J.dy rfl (op_move rfl rfl) rfl rfl rfl rfl ?_
    refine J.dy rfl (op_move rfl rfl) rfl rfl rfl rfl ?_
    refine J.dy rfl (op_move rfl rfl) rfl rfl rfl rfl ?_
    refine J.dy rfl (op_indexAddr (i := k) rfl rfl rfl Tryd.underlying22 Tryd.sizeOf9 hl (by omega)) rfl rfl rfl rfl ?_
    refine J.dy rfl (op_load rfl rfl Tryd.isAgg9 (m := F) (by simp) (hl.elem (strsV_get (getSome [] (show k < ls.length by omega))))) rfl rfl rfl rfl ?_
    refine J.dy rfl (op_slen Tryd.underlying9 rfl rfl) rfl rfl rfl rfl ?_
    refine J.dy rfl (op_move rfl rfl) rfl rfl rfl rfl ?_
    refine J.dy rfl (op_move rfl rfl) rfl rfl rfl rfl ?_
    refine J.dy rfl (op_indexAddr (i := k) rfl rfl rfl Tryd.underlying22 Tryd.sizeOf9 hl (by omega)) rfl rfl rfl rfl ?_
    refine J.dy rfl (op_load rfl rfl Tryd.isAgg9 (m := F) (by simp) (hl.elem (strsV_get (getSome [] (show k < ls.length by omega))))) rfl rfl rfl rfl ?_
    refine J.de rfl (op_call rfl rfl ent15 (Ct.use0 (fun F' hF => four_ct F' (ls.getD k []).length (by omega)))) rfl rfl rfl (by simp) ?_
    intro g22 _
    refine J.dy rfl ((op_sadd rfl rfl rfl (by rw [Sha.numB_length]; omega))) rfl rfl rfl rfl ?_
    refine J.dy rfl ((op_sadd rfl rfl rfl (by rw [List.length_append, Sha.numB_length]; omega)).as (v' := Str (Sha.tagB tag (ls.take (k + 1)))) (by rw [hts])) rfl rfl rfl rfl ?_
    refine J.dy rfl (op_assign rfl rfl) rfl rfl rfl rfl ?_
    refine J.dnil ?_
    refine J.blk_n ?_
    refine J.then_n (J.k hK7 ?_)
    refine J.keepE [(1, _), (5, _), (6, _)] ⟨rfl, rfl, rfl, trivial⟩ ?_
    refine J.region ?_
    refine J.y (op_move rfl rfl) rfl rfl rfl ?_
    refine J.y ((op_add rfl rfl rfl (by first | omega | (refine ⟨?_, ?_⟩ <;> omega))).as (v' := I ((k + 1 : Nat) : Int)) (congrArg I (by omega))) rfl rfl rfl ?_
    refine J.y (op_assign rfl rfl) rfl rfl rfl ?_
    refine J.nil ?_
    refine J.then_n ?_
    exact J.kk (k + 1) (fun x (hx : x ≤ n ∧ n - x < n - k) => hI0 x hx.1 hx.2) ⟨by omega, by omega⟩ ⟨rfl, rfl, rfl, trivial⟩ (fun _ h => h)
  ·
    refine J.exit ?_
    refine J.then_x ?_
    refine J.then_x ?_
    refine J.blk_eq ?_
    refine J.then_n (J.k hK3 ?_)
    refine J.keepE [(5, _)] ⟨rfl, trivial⟩ ?_
    refine J.seq (fun K8 hK8 => ?_)
    have htl := Sha.tagB_length tag ls
    refine J.region ?_
    refine J.y ((op_move rfl rfl).as (v' := Str (Sha.tagB tag ls)) (by rw [List.take_of_length_le (by omega)])) rfl rfl rfl ?_
    refine J.e (op_call rfl rfl ent17 (Ct.use0 (fun F' hF => sum3_ct F' (Sha.tagB tag ls) (by omega)))) rfl rfl rfl ?_
    intro g30 _
    refine J.y ((op_sslice (l := 0) (h := 16) Tryd.underlying9 rfl rfl rfl rfl ⟨by omega, by rw [Sha.sum_length]; decide⟩).as (congrArg Str (List.drop_zero))) rfl rfl rfl ?_
    refine J.y (op_assign rfl rfl) rfl rfl rfl ?_
    refine J.nil ?_
    refine J.then_n (J.k hK8 ?_)
    refine J.keepE [(4, _)] ⟨rfl, trivial⟩ ?_
    refine J.ret ?_
    exact J.done (fun _ _ h => h) (res1 rfl rfl) (retOk () (by unfold Sha.tagged; rfl) trivial [0] rfl (by decide))

theorem r7root_zero (F : Hp) (A : Option Addr) (n c : Nat) (ls : List (List UInt8)) (hl : Sl F 1 A n c (strsV ls)) (hsm : ∀ s ∈ ls, s.length ≤ 1048576) (hn : n = 1) :
    Ct Tryd.prog 25 [.slice A n c] [F] (fun _ : Unit => Str (Mk.root ls 0)) (fun _ => True) (fun _ => [F]) := by
  have hlen : ls.length = n := by have := hl.1; simpa [strsV] using this
  refine Ct.walk Tryd.func25 rfl Tryd.ntmps25 rfl (fun w0 => ?_)
  change J _ [(0, _)] _ _ _
  refine J.seq (fun K1 hK1 => ?_)
  refine J.region ?_
  refine J.y (op_assign rfl rfl) rfl rfl rfl ?_
  refine J.nil ?_
  refine J.then_n (J.k hK1 ?_)
  refine J.keepE [(0, _)] ⟨rfl, trivial⟩ ?_
  refine J.seq (fun K2 hK2 => ?_)
  refine J.seq (fun K3 hK3 => ?_)
  refine J.region ?_
  refine J.y (op_move rfl rfl) rfl rfl rfl ?_
  refine J.y (op_len Tryd.underlying22 rfl rfl) rfl rfl rfl ?_
  refine J.y ((op_eql rfl rfl rfl).as (v' := .bool true) (congrArg Value.bool (decide_eq_true (by omega)))) rfl rfl rfl ?_
  refine J.nil ?_
  refine J.then_n (J.k hK3 ?_)
  refine J.keepE [(0, _), (6, _)] ⟨rfl, rfl, trivial⟩ ?_
  refine J.condT rfl rfl ?_
  refine J.seq (fun K4 hK4 => ?_)
  refine J.region ?_
  refine J.y (op_move rfl rfl) rfl rfl rfl ?_
  refine J.y (op_indexAddr (i := 0) rfl rfl rfl Tryd.underlying22 Tryd.sizeOf9 hl (by omega)) rfl rfl rfl ?_
  refine J.y (op_load rfl rfl Tryd.isAgg9 (m := F) (by simp) (hl.elem (strsV_get (getSome [] (show 0 < ls.length by omega))))) rfl rfl rfl ?_
  refine J.y (op_assign rfl rfl) rfl rfl rfl ?_
  refine J.nil ?_
  refine J.then_n (J.k hK4 ?_)
  refine J.keepE [(2, _)] ⟨rfl, trivial⟩ ?_
  refine J.ret ?_
  refine J.then_r ?_
  exact J.done (fun _ _ h => h) (res1 rfl rfl) (retOk () (by unfold Mk.root; rfl) trivial [0] rfl (by decide))

theorem r7root_succ (h : Nat) (h6 : h ≤ 6) (IH : ∀ (F : Hp) (A : Option Addr) (n c : Nat) (ls : List (List UInt8)), Sl F 1 A n c (strsV ls) → (∀ s ∈ ls, s.length ≤ 1048576) → n = 2 ^ h → Ct Tryd.prog 25 [.slice A n c] [F] (fun _ : Unit => Str (Mk.root ls h)) (fun _ => True) (fun _ => [F])) (F : Hp) (A : Option Addr) (n c : Nat) (ls : List (List UInt8)) (hl : Sl F 1 A n c (strsV ls)) (hsm : ∀ s ∈ ls, s.length ≤ 1048576) (hn : n = 2 ^ (h + 1)) :
    Ct Tryd.prog 25 [.slice A n c] [F] (fun _ : Unit => Str (Mk.root ls (h + 1))) (fun _ => True) (fun _ => [F]) := by
  have hlen : ls.length = n := by have := hl.1; simpa [strsV] using this
  obtain ⟨p, hp⟩ : ∃ p, p = 2 ^ h := ⟨_, rfl⟩
  have hnp : n = 2 * p := by rw [hn, hp, Nat.pow_succ, Nat.mul_comm]
  have hp6 : p ≤ 64 := by rw [hp]; exact Nat.le_trans (Nat.pow_le_pow_right (by decide) (show h ≤ 6 by omega)) (by decide)
  have hp0 : 0 < p := by rw [hp]; exact Nat.two_pow_pos h
  have hX : (ls.take p).length = 2 ^ h := by rw [List.length_take]; omega
  have hY : (ls.drop p).length = 2 ^ h := by rw [List.length_drop]; omega
  have hXY : ls = ls.take p ++ ls.drop p := (List.take_append_drop p ls).symm
  have hsX : ∀ s ∈ ls.take p, s.length ≤ 1048576 := fun s hs => hsm s (List.mem_of_mem_take hs)
  have hsY : ∀ s ∈ ls.drop p, s.length ≤ 1048576 := fun s hs => hsm s (List.mem_of_mem_drop hs)
  have hslX := hl.strsTo (k := p) (by omega)
  have hslY := hl.strsFrom (k := p) (by omega)
  have hcc := hl.2.1
  have hrs : ∀ s ∈ [(Mk.root (ls.take p) h), (Mk.root (ls.drop p) h)], s.length ≤ 1048576 := fun s hs => by
    simp only [List.mem_cons, List.not_mem_nil, or_false] at hs
    rcases hs with rfl | rfl
    · exact Mk.root_small _ h hsX
    · exact Mk.root_small _ h hsY
  refine Ct.walk Tryd.func25 rfl Tryd.ntmps25 rfl (fun w0 => ?_)
  change J _ [(0, _)] _ _ _
  refine J.seq (fun K1 hK1 => ?_)
  refine J.region ?_
  refine J.y (op_assign rfl rfl) rfl rfl rfl ?_
  refine J.nil ?_
  refine J.then_n (J.k hK1 ?_)
  refine J.keepE [(0, _)] ⟨rfl, trivial⟩ ?_
  refine J.seq (fun K2 hK2 => ?_)
  refine J.seq (fun K3 hK3 => ?_)
  refine J.region ?_
  refine J.y (op_move rfl rfl) rfl rfl rfl ?_
  refine J.y (op_len Tryd.underlying22 rfl rfl) rfl rfl rfl ?_
  refine J.y ((op_eql rfl rfl rfl).as (v' := .bool false) (congrArg Value.bool (decide_eq_false (by omega)))) rfl rfl rfl ?_
  refine J.nil ?_
  refine J.then_n (J.k hK3 ?_)
  refine J.keepE [(0, _), (6, _)] ⟨rfl, rfl, trivial⟩ ?_
  refine J.condF rfl rfl ?_
  refine J.skip ?_
  refine J.then_n (J.k hK2 ?_)
  refine J.keepE [(0, _)] ⟨rfl, trivial⟩ ?_
  refine J.seq (fun K4 hK4 => ?_)
  refine J.region ?_
  refine J.y (op_move rfl rfl) rfl rfl rfl ?_
  refine J.y (op_len Tryd.underlying22 rfl rfl) rfl rfl rfl ?_
  refine J.y ((op_quo rfl rfl rfl (by first | omega | (refine ⟨?_, ?_⟩ <;> omega))).as (v' := I ((p : Nat) : Int)) (congrArg I (by omega))) rfl rfl rfl ?_
  refine J.y (op_assign rfl rfl) rfl rfl rfl ?_
  refine J.nil ?_
  refine J.then_n (J.k hK4 ?_)
  refine J.keepE [(0, _), (3, _)] ⟨rfl, rfl, trivial⟩ ?_
  refine J.seq (fun K5 hK5 => ?_)
  refine J.draw [F] [] (.y 0 (.y 1 (.y 2 (.y 4 (.y 5 (.y 6 (.e 3 (.e 7 (.e 8 (.e 9 (.y 10 .nil))))))))))) Tryd.wide (by decide +kernel) (by simp) ?_
  refine J.dy rfl (op_move rfl rfl) rfl rfl rfl rfl ?_
  refine J.dy rfl (op_move rfl rfl) rfl rfl rfl rfl ?_
  refine J.dy rfl (op_sliceTo (h := p) rfl rfl Tryd.underlying22 Tryd.sizeOf9 rfl (by omega)) rfl rfl rfl rfl ?_
  refine J.dy rfl (op_move rfl rfl) rfl rfl rfl rfl ?_
  refine J.dy rfl (op_move rfl rfl) rfl rfl rfl rfl ?_
  refine J.dy rfl (op_slice (l := p) (h := n) rfl rfl Tryd.underlying22 Tryd.sizeOf9 rfl rfl (by omega)) rfl rfl rfl rfl ?_
  refine J.de rfl (op_call rfl rfl ent25 (Ct.use0 (fun F' hF => IH F' A p c (ls.take p) (hslX.mono (hF _ (by simp))) hsX hp))) rfl rfl rfl (by simp) ?_
  intro g16 _
  refine J.de rfl (op_call rfl rfl ent25 (Ct.use0 (fun F' hF => IH F' _ (n - p) (c - p) (ls.drop p) (hslY.mono (hF _ (by simp))) hsY (by omega)))) rfl rfl rfl (by simp) ?_
  intro g20 _
  refine J.de rfl (op_buildSlice (l := [.tmp 16, .tmp 20]) (xs := [[Str (Mk.root (ls.take p) h)], [Str (Mk.root (ls.drop p) h)]]) rfl rfl rfl rfl Tryd.underlying22 el9 rfl (by decide) (by decide) (by simp)) rfl rfl rfl (by simp) ?_
  intro g21 _
  change J _ _ _ [F, blk g21 [Str (Mk.root (ls.take p) h), Str (Mk.root (ls.drop p) h)] 9] _
  refine J.de rfl (op_call rfl rfl ent39 (Ct.use0 (fun F' hF => tagged6_ct F' 5 (some ⟨g21, 0, none⟩) 2 2 [(Mk.root (ls.take p) h), (Mk.root (ls.drop p) h)] (((row_blk (q := True) (xs := strsV [(Mk.root (ls.take p) h), (Mk.root (ls.drop p) h)]) rfl (by simp [strsV])).sl (m := blk g21 [Str (Mk.root (ls.take p) h), Str (Mk.root (ls.drop p) h)] 9)).mono (hF _ (by simp))) (by have := Mk.flat_small hrs; simp only [List.length_cons, List.length_nil] at this; omega) (by decide)))) rfl rfl rfl (by simp) ?_
  intro g22 _
  refine J.dy rfl (op_assign rfl rfl) rfl rfl rfl rfl ?_
  refine J.dnil ?_
  refine J.then_n (J.k hK5 ?_)
  refine J.keepE [(2, _)] ⟨rfl, trivial⟩ ?_
  refine J.ret ?_
  exact J.done (fun _ _ h => h) (res1 rfl rfl) (retOk () (by rw [hXY, Mk.root_app _ _ h hX hY, ← hXY, nodeT]) trivial [0] rfl (by decide))

theorem r7root_ct : ∀ (h : Nat), h ≤ 6 → ∀ (F : Hp) (A : Option Addr) (n c : Nat) (ls : List (List UInt8)) (hl : Sl F 1 A n c (strsV ls)) (hsm : ∀ s ∈ ls, s.length ≤ 1048576), n = 2 ^ h → Ct Tryd.prog 25 [.slice A n c] [F] (fun _ : Unit => Str (Mk.root ls h)) (fun _ => True) (fun _ => [F])
  | 0, _ => fun F A n c ls hl hsm hn => r7root_zero F A n c ls hl hsm hn
  | h + 1, h6 => fun F A n c ls hl hsm hn => r7root_succ h (by omega) (fun F A n c ls hl hsm hn => r7root_ct h (by omega) F A n c ls hl hsm hn) F A n c ls hl hsm hn

theorem r7path_zero (F : Hp) (A : Option Addr) (n c : Nat) (ls : List (List UInt8)) (hl : Sl F 1 A n c (strsV ls)) (hsm : ∀ s ∈ ls, s.length ≤ 1048576) (i : Nat) (hn : n = 1) :
    Ct Tryd.prog 26 [.slice A n c, I i] [F] (fun x : Option Addr × Nat × Hp => .slice x.1 0 x.2.1) (fun x => Row x.2.2 9 1 x.1 0 x.2.1 (strsV (Mk.path ls i 0))) (fun x => [F, x.2.2]) := by
  refine Ct.walk Tryd.func26 rfl Tryd.ntmps26 rfl (fun w0 => ?_)
  change J _ [(0, _), (1, _)] _ _ _
  refine J.seq (fun K1 hK1 => ?_)
  refine J.region ?_
  refine J.y (op_assign rfl rfl) rfl rfl rfl ?_
  refine J.nil ?_
  refine J.then_n (J.k hK1 ?_)
  refine J.keepE [(0, _), (1, _)] ⟨rfl, rfl, trivial⟩ ?_
  refine J.seq (fun K2 hK2 => ?_)
  refine J.seq (fun K3 hK3 => ?_)
  refine J.region ?_
  refine J.y (op_move rfl rfl) rfl rfl rfl ?_
  refine J.y (op_len Tryd.underlying22 rfl rfl) rfl rfl rfl ?_
  refine J.y ((op_eql rfl rfl rfl).as (v' := .bool true) (congrArg Value.bool (decide_eq_true (by omega)))) rfl rfl rfl ?_
  refine J.nil ?_
  refine J.then_n (J.k hK3 ?_)
  refine J.keepE [(0, _), (1, _), (8, _)] ⟨rfl, rfl, rfl, trivial⟩ ?_
  refine J.condT rfl rfl ?_
  refine J.seq (fun K4 hK4 => ?_)
  refine J.addEmpty [0, 1] [F, (fun _ => none)] rfl (by decide) ?_
  refine J.region ?_
  refine J.y (op_assign rfl rfl) rfl rfl rfl ?_
  refine J.nil ?_
  refine J.then_n (J.k hK4 ?_)
  refine J.keepE [(4, _)] ⟨rfl, trivial⟩ ?_
  refine J.ret ?_
  refine J.then_r ?_
  exact J.done (fun _ _ h => h) (res1 rfl rfl) (retOk (none, 0, fun _ => none) rfl (by unfold Mk.path; exact RowQ.nil) [0, 1] rfl (by decide))

theorem r7path_succ (h : Nat) (h6 : h ≤ 6) (IH : ∀ (F : Hp) (A : Option Addr) (n c : Nat) (ls : List (List UInt8)), Sl F 1 A n c (strsV ls) → (∀ s ∈ ls, s.length ≤ 1048576) → n = 2 ^ h → ∀ i, i < n → Ct Tryd.prog 26 [.slice A n c, I i] [F] (fun x : Option Addr × Nat × Hp => .slice x.1 h x.2.1) (fun x => Row x.2.2 9 1 x.1 h x.2.1 (strsV (Mk.path ls i h))) (fun x => [F, x.2.2])) (F : Hp) (A : Option Addr) (n c : Nat) (ls : List (List UInt8)) (hl : Sl F 1 A n c (strsV ls)) (hsm : ∀ s ∈ ls, s.length ≤ 1048576) (hn : n = 2 ^ (h + 1)) (i : Nat) (hi : i < n) :
    Ct Tryd.prog 26 [.slice A n c, I i] [F] (fun x : Option Addr × Nat × Hp => .slice x.1 (h + 1) x.2.1) (fun x => Row x.2.2 9 1 x.1 (h + 1) x.2.1 (strsV (Mk.path ls i (h + 1)))) (fun x => [F, x.2.2]) := by
  have hlen : ls.length = n := by have := hl.1; simpa [strsV] using this
  obtain ⟨p, hp⟩ : ∃ p, p = 2 ^ h := ⟨_, rfl⟩
  have hnp : n = 2 * p := by rw [hn, hp, Nat.pow_succ, Nat.mul_comm]
  have hp6 : p ≤ 64 := by rw [hp]; exact Nat.le_trans (Nat.pow_le_pow_right (by decide) (show h ≤ 6 by omega)) (by decide)
  have hp0 : 0 < p := by rw [hp]; exact Nat.two_pow_pos h
  have hX : (ls.take p).length = 2 ^ h := by rw [List.length_take]; omega
  have hY : (ls.drop p).length = 2 ^ h := by rw [List.length_drop]; omega
  have hXY : ls = ls.take p ++ ls.drop p := (List.take_append_drop p ls).symm
  have hsX : ∀ s ∈ ls.take p, s.length ≤ 1048576 := fun s hs => hsm s (List.mem_of_mem_take hs)
  have hsY : ∀ s ∈ ls.drop p, s.length ≤ 1048576 := fun s hs => hsm s (List.mem_of_mem_drop hs)
  have hslX := hl.strsTo (k := p) (by omega)
  have hslY := hl.strsFrom (k := p) (by omega)
  have hcc := hl.2.1
  refine Ct.walk Tryd.func26 rfl Tryd.ntmps26 rfl (fun w0 => ?_)
  change J _ [(0, _), (1, _)] _ _ _
  refine J.seq (fun K1 hK1 => ?_)
  refine J.region ?_
  refine J.y (op_assign rfl rfl) rfl rfl rfl ?_
  refine J.nil ?_
  refine J.then_n (J.k hK1 ?_)
  refine J.keepE [(0, _), (1, _)] ⟨rfl, rfl, trivial⟩ ?_
  refine J.seq (fun K2 hK2 => ?_)
  refine J.seq (fun K3 hK3 => ?_)
  refine J.region ?_
  refine J.y (op_move rfl rfl) rfl rfl rfl ?_
  refine J.y (op_len Tryd.underlying22 rfl rfl) rfl rfl rfl ?_
  refine J.y ((op_eql rfl rfl rfl).as (v' := .bool false) (congrArg Value.bool (decide_eq_false (by omega)))) rfl rfl rfl ?_
  refine J.nil ?_
  refine J.then_n (J.k hK3 ?_)
  refine J.keepE [(0, _), (1, _), (8, _)] ⟨rfl, rfl, rfl, trivial⟩ ?_
  refine J.condF rfl rfl ?_
  refine J.skip ?_
  refine J.then_n (J.k hK2 ?_)
  refine J.keepE [(0, _), (1, _)] ⟨rfl, rfl, trivial⟩ ?_
  refine J.seq (fun K4 hK4 => ?_)
  refine J.region ?_
  refine J.y (op_move rfl rfl) rfl rfl rfl ?_
  refine J.y (op_len Tryd.underlying22 rfl rfl) rfl rfl rfl ?_
  refine J.y ((op_quo rfl rfl rfl (by first | omega | (refine ⟨?_, ?_⟩ <;> omega))).as (v' := I ((p : Nat) : Int)) (congrArg I (by omega))) rfl rfl rfl ?_
  refine J.y (op_assign rfl rfl) rfl rfl rfl ?_
  refine J.nil ?_
  refine J.then_n (J.k hK4 ?_)
  refine J.keepE [(0, _), (1, _), (5, _)] ⟨rfl, rfl, rfl, trivial⟩ ?_
  refine J.seq (fun K5 hK5 => ?_)
  refine J.seq (fun K6 hK6 => ?_)
  refine J.region ?_
  refine J.y (op_move rfl rfl) rfl rfl rfl ?_
  refine J.y (op_move rfl rfl) rfl rfl rfl ?_
  refine J.y (op_lss rfl rfl rfl) rfl rfl rfl ?_
  refine J.nil ?_
  refine J.then_n (J.k hK6 ?_)
  refine J.keepE [(0, _), (1, _), (5, _), (14, _)] ⟨rfl, rfl, rfl, rfl, trivial⟩ ?_
  refine J.ite rfl (fun h14 => ?_) (fun h14 => ?_)
  ·
    refine J.seq (fun K7 hK7 => ?_)
    refine J.draw [F] [] (.y 0 (.y 1 (.y 2 (.y 3 (.y 5 (.y 6 (.y 7 (.e 4 (.e 8 (.e 9 (.e 10 (.y 11 .nil)))))))))))) Tryd.wide (by decide +kernel) (by simp) ?_
    refine J.dy rfl (op_move rfl rfl) rfl rfl rfl rfl ?_
    refine J.dy rfl (op_move rfl rfl) rfl rfl rfl rfl ?_
    refine J.dy rfl (op_sliceTo (h := p) rfl rfl Tryd.underlying22 Tryd.sizeOf9 rfl (by omega)) rfl rfl rfl rfl ?_
    refine J.dy rfl (op_move rfl rfl) rfl rfl rfl rfl ?_
    refine J.dy rfl (op_move rfl rfl) rfl rfl rfl rfl ?_
    refine J.dy rfl (op_move rfl rfl) rfl rfl rfl rfl ?_
    refine J.dy rfl (op_slice (l := p) (h := n) rfl rfl Tryd.underlying22 Tryd.sizeOf9 rfl rfl (by omega)) rfl rfl rfl rfl ?_
    refine J.de rfl (op_call rfl rfl ent26 (Ct.use (fun F' hF => IH F' A p c (ls.take p) (hslX.mono (hF _ (by simp))) hsX hp i (by omega)))) rfl rfl rfl (by simp) ?_
    rintro ⟨A19, c19, m19⟩ h19
    try dsimp only at h19
    change J _ ((19, .slice A19 h c19) :: _) _ [F, m19] _
    refine J.de rfl (op_call rfl rfl ent25 (Ct.use0 (fun F' hF => r7root_ct h h6 F' _ (n - p) (c - p) (ls.drop p) (hslY.mono (hF _ (by simp))) hsY (by omega)))) rfl rfl rfl (by simp) ?_
    intro g23 _
    refine J.de rfl (op_buildSlice (l := [.tmp 23]) (xs := [[Str (Mk.root (ls.drop p) h)]]) rfl rfl rfl rfl Tryd.underlying22 el9 rfl (by decide) (by decide) (by simp)) rfl rfl rfl (by simp) ?_
    intro g24 _
    change J _ _ _ [F, m19, blk g24 [Str (Mk.root (ls.drop p) h)] 9] _
    refine J.de rfl (op_append (i := 1) (m2 := blk g24 [Str (Mk.root (ls.drop p) h)] 9) (ys := strsV [(Mk.root (ls.drop p) h)]) rfl rfl rfl Tryd.underlying22 Tryd.underlying22 el9 rfl h19 (by simp) (row_blk (q := True) (xs := strsV [(Mk.root (ls.drop p) h)]) rfl (by simp [strsV])).sl (one_strs _) (by omega) (by omega)) rfl rfl rfl (by simp) ?_
    rintro ⟨A25, c25, m25⟩ h25
    try dsimp only at h25
    change J _ ((25, .slice A25 (h + 1) c25) :: _) _ [F, m25, blk g24 [Str (Mk.root (ls.drop p) h)] 9] _
    refine J.dy rfl (op_assign rfl rfl) rfl rfl rfl rfl ?_
    refine J.dnil ?_
    refine J.then_n (J.k hK7 ?_)
    refine J.keepE [(4, _)] ⟨rfl, trivial⟩ ?_
    refine J.ret ?_
    refine J.then_r ?_
    exact J.done (fun _ _ h => h) (res1 rfl rfl) (retOk (A25, c25, m25) rfl (by rw [hXY, Mk.path_left _ _ h i hX hY (by omega), strsV_app]; exact h25) [0, 1] rfl (by decide))
  ·
    refine J.skip ?_
    refine J.then_n (J.k hK5 ?_)
    refine J.keepE [(0, _), (1, _), (5, _)] ⟨rfl, rfl, rfl, trivial⟩ ?_
    refine J.seq (fun K8 hK8 => ?_)
    refine J.draw [F] [] (.y 0 (.y 1 (.y 2 (.y 3 (.y 4 (.y 5 (.y 7 (.y 8 (.y 9 (.e 6 (.e 10 (.e 11 (.e 12 (.y 13 .nil)))))))))))))) Tryd.wide (by decide +kernel) (by simp) ?_
    refine J.dy rfl (op_move rfl rfl) rfl rfl rfl rfl ?_
    refine J.dy rfl (op_move rfl rfl) rfl rfl rfl rfl ?_
    refine J.dy rfl (op_slice (l := p) (h := n) rfl rfl Tryd.underlying22 Tryd.sizeOf9 rfl rfl (by omega)) rfl rfl rfl rfl ?_
    refine J.dy rfl (op_move rfl rfl) rfl rfl rfl rfl ?_
    refine J.dy rfl (op_move rfl rfl) rfl rfl rfl rfl ?_
    refine J.dy rfl ((op_sub rfl rfl rfl (by first | omega | (refine ⟨?_, ?_⟩ <;> omega))).as (v' := I ((i - p : Nat) : Int)) (congrArg I (by omega))) rfl rfl rfl rfl ?_
    refine J.dy rfl (op_move rfl rfl) rfl rfl rfl rfl ?_
    refine J.dy rfl (op_move rfl rfl) rfl rfl rfl rfl ?_
    refine J.dy rfl (op_sliceTo (h := p) rfl rfl Tryd.underlying22 Tryd.sizeOf9 rfl (by omega)) rfl rfl rfl rfl ?_
    refine J.de rfl (op_call rfl rfl ent26 (Ct.use (fun F' hF => IH F' _ (n - p) (c - p) (ls.drop p) (hslY.mono (hF _ (by simp))) hsY (by omega) (i - p) (by omega)))) rfl rfl rfl (by simp) ?_
    rintro ⟨A32, c32, m32⟩ h32
    try dsimp only at h32
    change J _ ((32, .slice A32 h c32) :: _) _ [F, m32] _
    refine J.de rfl (op_call rfl rfl ent25 (Ct.use0 (fun F' hF => r7root_ct h h6 F' A p c (ls.take p) (hslX.mono (hF _ (by simp))) hsX hp))) rfl rfl rfl (by simp) ?_
    intro g36 _
    refine J.de rfl (op_buildSlice (l := [.tmp 36]) (xs := [[Str (Mk.root (ls.take p) h)]]) rfl rfl rfl rfl Tryd.underlying22 el9 rfl (by decide) (by decide) (by simp)) rfl rfl rfl (by simp) ?_
    intro g37 _
    change J _ _ _ [F, m32, blk g37 [Str (Mk.root (ls.take p) h)] 9] _
    refine J.de rfl (op_append (i := 1) (m2 := blk g37 [Str (Mk.root (ls.take p) h)] 9) (ys := strsV [(Mk.root (ls.take p) h)]) rfl rfl rfl Tryd.underlying22 Tryd.underlying22 el9 rfl h32 (by simp) (row_blk (q := True) (xs := strsV [(Mk.root (ls.take p) h)]) rfl (by simp [strsV])).sl (one_strs _) (by omega) (by omega)) rfl rfl rfl (by simp) ?_
    rintro ⟨A38, c38, m38⟩ h38
    try dsimp only at h38
    change J _ ((38, .slice A38 (h + 1) c38) :: _) _ [F, m38, blk g37 [Str (Mk.root (ls.take p) h)] 9] _
    refine J.dy rfl (op_assign rfl rfl) rfl rfl rfl rfl ?_
    refine J.dnil ?_
    refine J.then_n (J.k hK8 ?_)
    refine J.keepE [(4, _)] ⟨rfl, trivial⟩ ?_
    refine J.ret ?_
    exact J.done (fun _ _ h => h) (res1 rfl rfl) (retOk (A38, c38, m38) rfl (by rw [hXY, show i = 2 ^ h + (i - p) by omega, Mk.path_right _ _ h (i - p) hX hY (by omega), strsV_app]; exact h38) [0, 1] rfl (by decide))

theorem r7path_ct : ∀ (h : Nat), h ≤ 6 → ∀ (F : Hp) (A : Option Addr) (n c : Nat) (ls : List (List UInt8)) (hl : Sl F 1 A n c (strsV ls)) (hsm : ∀ s ∈ ls, s.length ≤ 1048576), n = 2 ^ h → ∀ i, i < n → Ct Tryd.prog 26 [.slice A n c, I i] [F] (fun x : Option Addr × Nat × Hp => .slice x.1 h x.2.1) (fun x => Row x.2.2 9 1 x.1 h x.2.1 (strsV (Mk.path ls i h))) (fun x => [F, x.2.2])
  | 0, _ => fun F A n c ls hl hsm hn i hi => r7path_zero F A n c ls hl hsm i hn
  | h + 1, h6 => fun F A n c ls hl hsm hn i hi => r7path_succ h (by omega) (fun F A n c ls hl hsm hn i hi => r7path_ct h (by omega) F A n c ls hl hsm hn i hi) F A n c ls hl hsm hn i hi

theorem merkleRoots_in (F : Hp) (hK : Cells F ⟨0, 0, none⟩ (Sha.K.map W32)) (A : Option Addr) (n0 c : Nat) (ls : List (List UInt8)) (hl : Sl F 1 A n0 c (strsV ls)) (h8 : UInt8) (i : Nat) (hi : i < 2 ^ (h8 &&& 3).toNat) :
    Ct Tryd.prog 6 [.slice A n0 c, B8 h8, I i] [F] (fun _ : Unit => .bool true) (fun _ => True) (fun _ => [F]) := by
  have hlen : ls.length = n0 := by have := hl.1; simpa [strsV] using this
  obtain ⟨h, hh⟩ : ∃ h, h = (h8 &&& 3).toNat := ⟨_, rfl⟩
  have h3 : h ≤ 3 := by rw [hh, UInt8.toNat_and]; exact Nat.and_le_right
  rw [← hh] at hi
  obtain ⟨n, hn⟩ : ∃ n, n = 2 ^ h := ⟨_, rfl⟩
  have hn8 : n ≤ 8 := by rw [hn]; exact Nat.le_trans (Nat.pow_le_pow_right (by decide) h3) (by decide)
  have hn0 : 0 < n := by rw [hn]; exact Nat.two_pow_pos h
  have hR : Mk.Right n := by rw [hn]; exact Mk.right_pow h (by omega)
  rw [← hn] at hi
  refine Ct.walk Tryd.func6 rfl Tryd.ntmps6 rfl (fun w0 => ?_)
  change J _ [(0, _), (1, _), (2, _)] _ _ _
  refine J.seq (fun K1 hK1 => ?_)
  refine J.region ?_
  refine J.y (op_assign rfl rfl) rfl rfl rfl ?_
  refine J.nil ?_
  refine J.then_n (J.k hK1 ?_)
  refine J.keepE [(0, _), (1, _), (2, _)] ⟨rfl, rfl, rfl, trivial⟩ ?_
  refine J.seq (fun K2 hK2 => ?_)
  refine J.seq (fun K3 hK3 => ?_)
  refine J.region ?_
  refine J.e (op_call rfl rfl ent22 (speaks07_ct F hK)) rfl rfl rfl ?_
  intro g17 _
  refine J.y ((op_not rfl rfl).as (v' := .bool false) rfl) rfl rfl rfl ?_
  refine J.nil ?_
  refine J.then_n (J.k hK3 ?_)
  refine J.keepE [(0, _), (1, _), (2, _), (18, _)] ⟨rfl, rfl, rfl, rfl, trivial⟩ ?_
  refine J.condF rfl rfl ?_
  refine J.skip ?_
  refine J.then_n (J.k hK2 ?_)
  refine J.keepE [(0, _), (1, _), (2, _)] ⟨rfl, rfl, rfl, trivial⟩ ?_
  refine J.seq (fun K4 hK4 => ?_)
  refine J.region ?_
  refine J.y (op_move rfl rfl) rfl rfl rfl ?_
  refine J.y (op_and8 (b := 3) rfl rfl rfl) rfl rfl rfl ?_
  refine J.y ((op_shlI (a := 1) (m := h) rfl rfl (by rw [hh]; rfl) ⟨by omega, by have := Int.pow_pos (n := 2) (m := h) (by decide); omega, by rw [Int.one_mul]; exact Int.ofNat_le.2 (show 2 ^ h ≤ 9223372036854775807 by omega)⟩).as (v' := I n) (congrArg I (by rw [hn]; simp))) rfl rfl rfl ?_
  refine J.y (op_assign rfl rfl) rfl rfl rfl ?_
  refine J.nil ?_
  refine J.then_n (J.k hK4 ?_)
  refine J.keepE [(0, _), (2, _), (7, _)] ⟨rfl, rfl, rfl, trivial⟩ ?_
  refine J.seq (fun K5 hK5 => ?_)
  refine J.addEmpty [0, 1] [F, (fun _ => none)] rfl (by decide) ?_
  refine J.region ?_
  refine J.y (op_assign rfl rfl) rfl rfl rfl ?_
  refine J.nil ?_
  refine J.then_n (J.k hK5 ?_)
  refine J.keepE [(0, _), (2, _), (7, _), (8, _)] ⟨rfl, rfl, rfl, rfl, trivial⟩ ?_
  refine J.seq (fun K6 hK6 => ?_)
  refine J.seq (fun K7 hK7 => ?_)
  refine J.region ?_
  refine J.y (op_assign rfl rfl) rfl rfl rfl ?_
  refine J.nil ?_
  refine J.then_n (J.k hK7 ?_)
  refine J.keepE [(0, _), (2, _), (7, _), (8, _), (9, _)] ⟨rfl, rfl, rfl, rfl, rfl, trivial⟩ ?_
  refine J.block ?_
  refine J.loop (X := Nat × Option Addr × Nat × Hp) (fun x => [(0, .slice A n0 c), (2, I i), (7, I n), (8, .slice x.2.1 x.1 x.2.2.1), (9, I x.1)]) (fun x => [F, x.2.2.2]) (fun x => x.1 ≤ n ∧ Row x.2.2.2 9 1 x.2.1 x.1 x.2.2.1 (strsV (Mk.fillL 20 ls x.1))) (fun x => n - x.1) (0, none, 0, fun _ => none) (⟨Nat.zero_le _, RowQ.nil⟩) ⟨rfl, rfl, rfl, rfl, rfl, trivial⟩ (fun _ h => h) ?_
  rintro ⟨k, A8, c8, m⟩ ⟨hk, hrow⟩ I0 hI0
  dsimp only at hk hrow ⊢
  refine J.seq (fun K8 hK8 => ?_)
  refine J.seq (fun K9 hK9 => ?_)
  refine J.region ?_
  refine J.y (op_move rfl rfl) rfl rfl rfl ?_
  refine J.y (op_move rfl rfl) rfl rfl rfl ?_
  refine J.y (op_lss rfl rfl rfl) rfl rfl rfl ?_
  refine J.nil ?_
  refine J.then_n (J.k hK9 ?_)
  refine J.keepE [(0, _), (2, _), (7, _), (8, _), (9, _), (24, _)] ⟨rfl, rfl, rfl, rfl, rfl, rfl, trivial⟩ ?_
  refine J.ite rfl (fun h24 => ?_) (fun h24 => ?_)
  ·
    refine J.skip ?_
    refine J.then_n (J.k hK8 ?_)
    refine J.keepE [(0, _), (2, _), (7, _), (8, _), (9, _)] ⟨rfl, rfl, rfl, rfl, rfl, trivial⟩ ?_
    refine J.seq (fun K10 hK10 => ?_)
    refine J.block ?_
    refine J.seq (fun K11 hK11 => ?_)
    refine J.region ?_
    refine J.y (op_assign rfl rfl) rfl rfl rfl ?_
    refine J.nil ?_
    refine J.then_n (J.k hK11 ?_)
    refine J.keepE [(0, _), (2, _), (7, _), (8, _), (9, _), (10, _)] ⟨rfl, rfl, rfl, rfl, rfl, rfl, trivial⟩ ?_
    refine J.seq (fun K12 hK12 => ?_)
    refine J.seq (fun K13 hK13 => ?_)
    refine J.region ?_
    refine J.y (op_move rfl rfl) rfl rfl rfl ?_
    refine J.y (op_move rfl rfl) rfl rfl rfl ?_
    refine J.y (op_len Tryd.underlying22 rfl rfl) rfl rfl rfl ?_
    refine J.y (op_lss rfl rfl rfl) rfl rfl rfl ?_
    refine J.nil ?_
    refine J.then_n (J.k hK13 ?_)
    refine J.keepE [(0, _), (2, _), (7, _), (8, _), (9, _), (10, _), (30, _)] ⟨rfl, rfl, rfl, rfl, rfl, rfl, rfl, trivial⟩ ?_
    refine J.ite rfl (fun h30 => ?_) (fun h30 => ?_)
    ·
      refine J.draw [F] [] (.y 0 (.y 1 (.y 2 (.y 3 (.y 4 (.y 5 (.y 6 (.y 7 (.y 8 (.y 9 (.y 10 (.y 11 .nil)))))))))))) Tryd.wide (by decide +kernel) (by simp) ?_
      refine J.dy rfl (op_move rfl rfl) rfl rfl rfl rfl ?_
      refine J.dy rfl (op_move rfl rfl) rfl rfl rfl rfl ?_
      refine J.dy rfl (op_indexAddr (i := k) rfl rfl rfl Tryd.underlying22 Tryd.sizeOf9 hl (by omega)) rfl rfl rfl rfl ?_
      refine J.dy rfl (op_load rfl rfl Tryd.isAgg9 (m := F) (by simp) (hl.elem (strsV_get (getSome [] (show k < ls.length by omega))))) rfl rfl rfl rfl ?_
      refine J.dy rfl (op_move rfl rfl) rfl rfl rfl rfl ?_
      refine J.dy rfl (op_move rfl rfl) rfl rfl rfl rfl ?_
      refine J.dy rfl (op_indexAddr (i := k) rfl rfl rfl Tryd.underlying22 Tryd.sizeOf9 hl (by omega)) rfl rfl rfl rfl ?_
      refine J.dy rfl (op_load rfl rfl Tryd.isAgg9 (m := F) (by simp) (hl.elem (strsV_get (getSome [] (show k < ls.length by omega))))) rfl rfl rfl rfl ?_
      refine J.dy rfl (op_slen Tryd.underlying9 rfl rfl) rfl rfl rfl rfl ?_
      refine J.dy rfl ((op_min rfl rfl rfl).as (v' := I ((min (ls.getD k []).length 20 : Nat) : Int)) (congrArg I (by omega))) rfl rfl rfl rfl ?_
      refine J.dy rfl ((op_sslice (l := 0) (h := min (ls.getD k []).length 20) Tryd.underlying9 rfl rfl rfl rfl ⟨by omega, by omega⟩).as (congrArg Str (Sha.take_min _ _))) rfl rfl rfl rfl ?_
      refine J.dy rfl (op_assign rfl rfl) rfl rfl rfl rfl ?_
      refine J.dnil ?_
      refine J.then_n (J.k hK12 ?_)
      refine J.keepE [(0, _), (2, _), (7, _), (8, _), (9, _), (10, _)] ⟨rfl, rfl, rfl, rfl, rfl, rfl, trivial⟩ ?_
      refine J.region ?_
      refine J.y (op_move rfl rfl) rfl rfl rfl ?_
      refine J.y ((op_move rfl rfl).as (v' := Str ((ls.getD k []).take 20)) (by first | rfl | (rw [Mk.getD_out (by omega)]; rfl))) rfl rfl rfl ?_
      refine J.e (op_buildSlice (l := [.tmp 43]) (xs := [[Str ((ls.getD k []).take 20)]]) rfl rfl rfl rfl Tryd.underlying22 el9 rfl (by decide) (by decide) (by simp)) rfl rfl rfl ?_
      intro g44 _
      change J _ _ _ [F, m, blk g44 [Str ((ls.getD k []).take 20)] 9] _
      refine J.e (op_append (i := 1) (m2 := blk g44 [Str ((ls.getD k []).take 20)] 9) (ys := strsV [((ls.getD k []).take 20)]) rfl rfl rfl Tryd.underlying22 Tryd.underlying22 el9 rfl hrow (by simp) (row_blk (q := True) (xs := strsV [((ls.getD k []).take 20)]) rfl (by simp [strsV])).sl (one_strs _) (by omega) (by omega)) rfl rfl rfl ?_
      rintro ⟨A45, c45, m45⟩ h45
      try dsimp only at h45
      change J _ ((45, .slice A45 (k + 1) c45) :: _) _ [F, m45, blk g44 [Str ((ls.getD k []).take 20)] 9] _
      rw [← strsV_app, ← Mk.fillL_succ] at h45
      refine J.perm [0, 1] [F, m45] rfl (by decide) ?_
      refine J.y (op_assign rfl rfl) rfl rfl rfl ?_
      refine J.nil ?_
      refine J.blk_n ?_
      refine J.then_n (J.k hK10 ?_)
      refine J.keepE [(0, _), (2, _), (7, _), (8, _), (9, _)] ⟨rfl, rfl, rfl, rfl, rfl, trivial⟩ ?_
      refine J.region ?_
      refine J.y (op_move rfl rfl) rfl rfl rfl ?_
      refine J.y ((op_add rfl rfl rfl (by first | omega | (refine ⟨?_, ?_⟩ <;> omega))).as (v' := I ((k + 1 : Nat) : Int)) (congrArg I (by omega))) rfl rfl rfl ?_
      refine J.y (op_assign rfl rfl) rfl rfl rfl ?_
      refine J.nil ?_
      refine J.then_n ?_
      exact J.kk (k + 1, A45, c45, m45) (fun x (hx : _ ∧ n - x.1 < n - k) => hI0 x hx.1 hx.2) ⟨⟨by dsimp only; omega, h45⟩, by dsimp only; omega⟩ ⟨rfl, rfl, rfl, rfl, rfl, trivial⟩ (fun _ h => h)
    ·
      refine J.skip ?_
      refine J.then_n (J.k hK12 ?_)
      refine J.keepE [(0, _), (2, _), (7, _), (8, _), (9, _), (10, _)] ⟨rfl, rfl, rfl, rfl, rfl, rfl, trivial⟩ ?_
      refine J.region ?_
      refine J.y (op_move rfl rfl) rfl rfl rfl ?_
      refine J.y ((op_move rfl rfl).as (v' := Str ((ls.getD k []).take 20)) (by first | rfl | (rw [Mk.getD_out (by omega)]; rfl))) rfl rfl rfl ?_
      refine J.e (op_buildSlice (l := [.tmp 43]) (xs := [[Str ((ls.getD k []).take 20)]]) rfl rfl rfl rfl Tryd.underlying22 el9 rfl (by decide) (by decide) (by simp)) rfl rfl rfl ?_
      intro g44 _
      change J _ _ _ [F, m, blk g44 [Str ((ls.getD k []).take 20)] 9] _
      refine J.e (op_append (i := 1) (m2 := blk g44 [Str ((ls.getD k []).take 20)] 9) (ys := strsV [((ls.getD k []).take 20)]) rfl rfl rfl Tryd.underlying22 Tryd.underlying22 el9 rfl hrow (by simp) (row_blk (q := True) (xs := strsV [((ls.getD k []).take 20)]) rfl (by simp [strsV])).sl (one_strs _) (by omega) (by omega)) rfl rfl rfl ?_
      rintro ⟨A45, c45, m45⟩ h45
      try dsimp only at h45
      change J _ ((45, .slice A45 (k + 1) c45) :: _) _ [F, m45, blk g44 [Str ((ls.getD k []).take 20)] 9] _
      rw [← strsV_app, ← Mk.fillL_succ] at h45
      refine J.perm [0, 1] [F, m45] rfl (by decide) ?_
      refine J.y (op_assign rfl rfl) rfl rfl rfl ?_
      refine J.nil ?_
      refine J.blk_n ?_
      refine J.then_n (J.k hK10 ?_)
      refine J.keepE [(0, _), (2, _), (7, _), (8, _), (9, _)] ⟨rfl, rfl, rfl, rfl, rfl, trivial⟩ ?_
      refine J.region ?_
      refine J.y (op_move rfl rfl) rfl rfl rfl ?_
      refine J.y ((op_add rfl rfl rfl (by first | omega | (refine ⟨?_, ?_⟩ <;> omega))).as (v' := I ((k + 1 : Nat) : Int)) (congrArg I (by omega))) rfl rfl rfl ?_
      refine J.y (op_assign rfl rfl) rfl rfl rfl ?_
      refine J.nil ?_
      refine J.then_n ?_
      exact J.kk (k + 1, A45, c45, m45) (fun x (hx : _ ∧ n - x.1 < n - k) => hI0 x hx.1 hx.2) ⟨⟨by dsimp only; omega, h45⟩, by dsimp only; omega⟩ ⟨rfl, rfl, rfl, rfl, rfl, trivial⟩ (fun _ h => h)
  ·
    refine J.exit ?_
    refine J.then_x ?_
    refine J.then_x ?_
    refine J.blk_eq ?_
    refine J.then_n (J.k hK6 ?_)
    refine J.keepE [(2, _), (7, _), (8, _)] ⟨rfl, rfl, rfl, trivial⟩ ?_
    refine J.seq (fun K14 hK14 => ?_)
    have hkn : k = n := by omega
    subst hkn
    have hsm : ∀ s ∈ Mk.fillL 20 ls k, s.length ≤ 1048576 := fun s hs => Nat.le_trans (Mk.fillL_small 20 ls k s hs) (by decide)
    have hfl := Mk.fillL_length 20 ls k
    refine J.region ?_
    refine J.y (op_move rfl rfl) rfl rfl rfl ?_
    refine J.e (op_call rfl rfl ent23 (Ct.use0 (fun F' hF => root_ct F' (hK.mono (hF _ (by simp))) A8 k c8 (Mk.fillL 20 ls k) (hrow.sl.mono (hF _ (by simp))) h (by omega) hn hsm))) rfl rfl rfl ?_
    intro g48 _
    refine J.y (op_move rfl rfl) rfl rfl rfl ?_
    refine J.y (op_extract rfl rfl rfl) rfl rfl rfl ?_
    refine J.y (op_extract rfl rfl rfl) rfl rfl rfl ?_
    refine J.y (op_assign rfl rfl) rfl rfl rfl ?_
    refine J.y (op_assign rfl rfl) rfl rfl rfl ?_
    refine J.nil ?_
    refine J.then_n (J.k hK14 ?_)
    refine J.keepE [(2, _), (7, _), (8, _), (11, _), (12, _)] ⟨rfl, rfl, rfl, rfl, rfl, trivial⟩ ?_
    refine J.seq (fun K15 hK15 => ?_)
    refine J.region ?_
    refine J.y (op_move rfl rfl) rfl rfl rfl ?_
    refine J.y (op_move rfl rfl) rfl rfl rfl ?_
    refine J.e (op_call rfl rfl ent24 (Ct.use (fun F' hF => path_ct F' (hK.mono (hF _ (by simp))) A8 k c8 (Mk.fillL 20 ls k) (hrow.sl.mono (hF _ (by simp))) h (by omega) hn hsm i hi))) rfl rfl rfl ?_
    rintro ⟨A54, c54, m54⟩ h54
    try dsimp only at h54
    change J _ ((54, .tuple #[.slice A54 h c54, I 0]) :: _) _ [F, m, m54] _
    refine J.y (op_move rfl rfl) rfl rfl rfl ?_
    refine J.y (op_extract rfl rfl rfl) rfl rfl rfl ?_
    refine J.y (op_extract rfl rfl rfl) rfl rfl rfl ?_
    refine J.y (op_assign rfl rfl) rfl rfl rfl ?_
    refine J.y (op_assign rfl rfl) rfl rfl rfl ?_
    refine J.nil ?_
    refine J.then_n (J.k hK15 ?_)
    refine J.keepE [(2, _), (7, _), (8, _), (11, _), (12, _), (13, _), (14, _)] ⟨rfl, rfl, rfl, rfl, rfl, rfl, rfl, trivial⟩ ?_
    refine J.seq (fun K16 hK16 => ?_)
    refine J.seq (fun K17 hK17 => ?_)
    refine J.region ?_
    refine J.y (op_move rfl rfl) rfl rfl rfl ?_
    refine J.y ((op_neq rfl rfl rfl).as (v' := .bool false) (congrArg Value.bool (decide_eq_false (by decide)))) rfl rfl rfl ?_
    refine J.y (op_move rfl rfl) rfl rfl rfl ?_
    refine J.yg (Wan.is rfl rfl rfl rfl rfl) (op_move rfl rfl) rfl rfl ?_
    refine J.yg (Wan.is rfl rfl rfl rfl rfl) (op_move rfl rfl) rfl rfl ?_
    refine J.eg (Wan.is rfl rfl rfl rfl rfl) (op_call rfl rfl ent25 (Ct.use0 (fun F' hF => r7root_ct h (by omega) F' A8 k c8 (Mk.fillL 20 ls k) (hrow.sl.mono (hF _ (by simp))) hsm hn))) rfl rfl ?_
    intro g62 _
    refine J.yg (Wan.is rfl rfl rfl rfl rfl) ((op_sne rfl rfl rfl).as (v' := .bool false) (congrArg Value.bool (decide_eq_false (fun h => h rfl)))) rfl rfl ?_
    refine J.y (op_pickF rfl rfl rfl) rfl rfl rfl ?_
    refine J.nil ?_
    refine J.then_n (J.k hK17 ?_)
    refine J.keepE [(2, _), (7, _), (8, _), (11, _), (13, _), (14, _), (64, _)] ⟨rfl, rfl, rfl, rfl, rfl, rfl, rfl, trivial⟩ ?_
    refine J.condF rfl rfl ?_
    refine J.skip ?_
    refine J.then_n (J.k hK16 ?_)
    refine J.keepE [(2, _), (7, _), (8, _), (11, _), (13, _), (14, _)] ⟨rfl, rfl, rfl, rfl, rfl, rfl, trivial⟩ ?_
    refine J.seq (fun K18 hK18 => ?_)
    refine J.seq (fun K19 hK19 => ?_)
    refine J.region ?_
    refine J.y (op_move rfl rfl) rfl rfl rfl ?_
    refine J.y ((op_lss rfl rfl rfl).as (v' := .bool false) (congrArg Value.bool (decide_eq_false (by omega)))) rfl rfl rfl ?_
    refine J.y (op_move rfl rfl) rfl rfl rfl ?_
    refine J.yg (Wan.is rfl rfl rfl rfl rfl) (op_move rfl rfl) rfl rfl ?_
    refine J.yg (Wan.is rfl rfl rfl rfl rfl) (op_move rfl rfl) rfl rfl ?_
    refine J.yg (Wan.is rfl rfl rfl rfl rfl) ((op_geq rfl rfl rfl).as (v' := .bool false) (congrArg Value.bool (decide_eq_false (by omega)))) rfl rfl ?_
    refine J.y (op_pickF rfl rfl rfl) rfl rfl rfl ?_
    refine J.nil ?_
    refine J.then_n (J.k hK19 ?_)
    refine J.keepE [(2, _), (8, _), (11, _), (13, _), (14, _), (71, _)] ⟨rfl, rfl, rfl, rfl, rfl, rfl, trivial⟩ ?_
    refine J.condF rfl rfl ?_
    refine J.skip ?_
    refine J.then_n (J.k hK18 ?_)
    refine J.keepE [(2, _), (8, _), (11, _), (13, _), (14, _)] ⟨rfl, rfl, rfl, rfl, rfl, trivial⟩ ?_
    refine J.seq (fun K20 hK20 => ?_)
    refine J.region ?_
    refine J.y (op_move rfl rfl) rfl rfl rfl ?_
    refine J.y (op_move rfl rfl) rfl rfl rfl ?_
    refine J.e (op_call rfl rfl ent26 (Ct.use (fun F' hF => r7path_ct h (by omega) F' A8 k c8 (Mk.fillL 20 ls k) (hrow.sl.mono (hF _ (by simp))) hsm hn i hi))) rfl rfl rfl ?_
    rintro ⟨A81, c81, m81⟩ h81
    try dsimp only at h81
    change J _ ((81, .slice A81 h c81) :: _) _ [F, m, m54, m81] _
    refine J.y (op_assign rfl rfl) rfl rfl rfl ?_
    refine J.nil ?_
    refine J.then_n (J.k hK20 ?_)
    refine J.keepE [(2, _), (8, _), (11, _), (13, _), (14, _), (15, _)] ⟨rfl, rfl, rfl, rfl, rfl, rfl, trivial⟩ ?_
    refine J.seq (fun K21 hK21 => ?_)
    refine J.seq (fun K22 hK22 => ?_)
    refine J.region ?_
    refine J.y (op_move rfl rfl) rfl rfl rfl ?_
    refine J.y ((op_neq rfl rfl rfl).as (v' := .bool false) (congrArg Value.bool (decide_eq_false (by decide)))) rfl rfl rfl ?_
    refine J.y (op_move rfl rfl) rfl rfl rfl ?_
    refine J.yg (Wan.is rfl rfl rfl rfl rfl) (op_move rfl rfl) rfl rfl ?_
    refine J.yg (Wan.is rfl rfl rfl rfl rfl) (op_len Tryd.underlying22 rfl rfl) rfl rfl ?_
    refine J.yg (Wan.is rfl rfl rfl rfl rfl) (op_move rfl rfl) rfl rfl ?_
    refine J.yg (Wan.is rfl rfl rfl rfl rfl) (op_len Tryd.underlying22 rfl rfl) rfl rfl ?_
    refine J.yg (Wan.is rfl rfl rfl rfl rfl) ((op_neq rfl rfl rfl).as (v' := .bool false) (congrArg Value.bool (decide_eq_false (fun h => h rfl)))) rfl rfl ?_
    refine J.y (op_pickF rfl rfl rfl) rfl rfl rfl ?_
    refine J.nil ?_
    refine J.then_n (J.k hK22 ?_)
    refine J.keepE [(2, _), (8, _), (11, _), (13, _), (15, _), (90, _)] ⟨rfl, rfl, rfl, rfl, rfl, rfl, trivial⟩ ?_
    refine J.condF rfl rfl ?_
    refine J.skip ?_
    refine J.then_n (J.k hK21 ?_)
    refine J.keepE [(2, _), (8, _), (11, _), (13, _), (15, _)] ⟨rfl, rfl, rfl, rfl, rfl, trivial⟩ ?_
    refine J.seq (fun K23 hK23 => ?_)
    refine J.seq (fun K24 hK24 => ?_)
    refine J.region ?_
    refine J.y (op_assign rfl rfl) rfl rfl rfl ?_
    refine J.nil ?_
    refine J.then_n (J.k hK24 ?_)
    refine J.keepE [(2, _), (8, _), (11, _), (13, _), (15, _), (16, _)] ⟨rfl, rfl, rfl, rfl, rfl, rfl, trivial⟩ ?_
    refine J.block ?_
    refine J.loop (fun j : Nat => [(2, I i), (8, .slice A8 k c8), (11, Str (Mk.root (Mk.fillL 20 ls k) h)), (13, .slice A54 h c54), (15, .slice A81 h c81), (16, I j)]) (fun _ => [F, m, m54, m81]) (fun j => j ≤ h) (fun j => h - j) 0 (Nat.zero_le _) ⟨rfl, rfl, rfl, rfl, rfl, rfl, trivial⟩ (fun _ h => h) ?_
    intro j hj I2 hI2
    refine J.seq (fun K25 hK25 => ?_)
    refine J.seq (fun K26 hK26 => ?_)
    refine J.region ?_
    refine J.y (op_move rfl rfl) rfl rfl rfl ?_
    refine J.y (op_move rfl rfl) rfl rfl rfl ?_
    refine J.y (op_len Tryd.underlying22 rfl rfl) rfl rfl rfl ?_
    refine J.y (op_lss rfl rfl rfl) rfl rfl rfl ?_
    refine J.nil ?_
    refine J.then_n (J.k hK26 ?_)
    refine J.keepE [(2, _), (8, _), (11, _), (13, _), (15, _), (16, _), (94, _)] ⟨rfl, rfl, rfl, rfl, rfl, rfl, rfl, trivial⟩ ?_
    refine J.ite rfl (fun h94 => ?_) (fun h94 => ?_)
    ·
      refine J.skip ?_
      refine J.then_n (J.k hK25 ?_)
      refine J.keepE [(2, _), (8, _), (11, _), (13, _), (15, _), (16, _)] ⟨rfl, rfl, rfl, rfl, rfl, rfl, trivial⟩ ?_
      refine J.seq (fun K27 hK27 => ?_)
      refine J.block ?_
      refine J.seq (fun K28 hK28 => ?_)
      refine J.draw [m54, m81] [] (.y 0 (.y 1 (.y 2 (.y 3 (.y 4 (.y 5 (.y 6 (.y 7 (.y 8 .nil))))))))) Tryd.wide (by decide +kernel) (by simp) ?_
      refine J.dy rfl (op_move rfl rfl) rfl rfl rfl rfl ?_
      refine J.dy rfl (op_move rfl rfl) rfl rfl rfl rfl ?_
      refine J.dy rfl (op_indexAddr (i := j) rfl rfl rfl Tryd.underlying22 Tryd.sizeOf9 h54.sl (by omega)) rfl rfl rfl rfl ?_
      refine J.dy rfl (op_load rfl rfl Tryd.isAgg9 (m := m54) (by simp) (h54.sl.elem (strsV_get (getSome [] (show j < (Mk.path (Mk.fillL 20 ls k) i h).length by rw [Mk.path_length]; omega))))) rfl rfl rfl rfl ?_
      refine J.dy rfl (op_move rfl rfl) rfl rfl rfl rfl ?_
      refine J.dy rfl (op_move rfl rfl) rfl rfl rfl rfl ?_
      refine J.dy rfl (op_indexAddr (i := j) rfl rfl rfl Tryd.underlying22 Tryd.sizeOf9 h81.sl (by omega)) rfl rfl rfl rfl ?_
      refine J.dy rfl (op_load rfl rfl Tryd.isAgg9 (m := m81) (by simp) (h81.sl.elem (strsV_get (getSome [] (show j < (Mk.path (Mk.fillL 20 ls k) i h).length by rw [Mk.path_length]; omega))))) rfl rfl rfl rfl ?_
      refine J.dy rfl ((op_sne rfl rfl rfl).as (v' := .bool false) (congrArg Value.bool (decide_eq_false (fun h => h rfl)))) rfl rfl rfl rfl ?_
      refine J.dnil ?_
      refine J.then_n (J.k hK28 ?_)
      refine J.keepE [(2, _), (8, _), (11, _), (13, _), (15, _), (16, _), (105, _)] ⟨rfl, rfl, rfl, rfl, rfl, rfl, rfl, trivial⟩ ?_
      refine J.condF rfl rfl ?_
      refine J.skip ?_
      refine J.blk_n ?_
      refine J.then_n (J.k hK27 ?_)
      refine J.keepE [(2, _), (8, _), (11, _), (13, _), (15, _), (16, _)] ⟨rfl, rfl, rfl, rfl, rfl, rfl, trivial⟩ ?_
      refine J.region ?_
      refine J.y (op_move rfl rfl) rfl rfl rfl ?_
      refine J.y ((op_add rfl rfl rfl (by first | omega | (refine ⟨?_, ?_⟩ <;> omega))).as (v' := I ((j + 1 : Nat) : Int)) (congrArg I (by omega))) rfl rfl rfl ?_
      refine J.y (op_assign rfl rfl) rfl rfl rfl ?_
      refine J.nil ?_
      refine J.then_n ?_
      exact J.kk (j + 1) (fun x (hx : x ≤ h ∧ h - x < h - j) => hI2 x hx.1 hx.2) ⟨by omega, by omega⟩ ⟨rfl, rfl, rfl, rfl, rfl, rfl, trivial⟩ (fun _ h => h)
    ·
      refine J.exit ?_
      refine J.then_x ?_
      refine J.then_x ?_
      refine J.blk_eq ?_
      refine J.then_n (J.k hK23 ?_)
      refine J.keepE [(2, _), (8, _), (11, _), (13, _)] ⟨rfl, rfl, rfl, rfl, trivial⟩ ?_
      refine J.seq (fun K29 hK29 => ?_)
      have hcl := Mk.climb_root (Mk.fillL 20 ls k) h i (by omega) (by omega)
      refine J.region ?_
      refine J.y (op_move rfl rfl) rfl rfl rfl ?_
      refine J.y (op_move rfl rfl) rfl rfl rfl ?_
      refine J.y (op_indexAddr (i := i) rfl rfl rfl Tryd.underlying22 Tryd.sizeOf9 hrow.sl (by omega)) rfl rfl rfl ?_
      refine J.y (op_load rfl rfl Tryd.isAgg9 (m := m) (by simp) (hrow.sl.elem (strsV_get (getSome [] (show i < (Mk.fillL 20 ls k).length by omega))))) rfl rfl rfl ?_
      refine J.y (op_move rfl rfl) rfl rfl rfl ?_
      refine J.y (op_move rfl rfl) rfl rfl rfl ?_
      refine J.e (op_call rfl rfl ent27 (Ct.use0 (fun F' hF => climb_ct F' (hK.mono (hF _ (by simp))) ((Mk.fillL 20 ls k).getD i []) i A54 h c54 (Mk.path (Mk.fillL 20 ls k) i h) (h54.sl.mono (hF _ (by simp))) (hsm _ (Mk.getS_mem (by omega))) (Mk.path_small _ i h hsm) (by omega) (by omega)))) rfl rfl rfl ?_
      intro g112 _
      refine J.y (op_move rfl rfl) rfl rfl rfl ?_
      refine J.y ((op_seq rfl rfl rfl).as (v' := .bool true) (congrArg Value.bool (decide_eq_true (hcl)))) rfl rfl rfl ?_
      refine J.y (op_assign rfl rfl) rfl rfl rfl ?_
      refine J.nil ?_
      refine J.then_n (J.k hK29 ?_)
      refine J.keepE [(6, _)] ⟨rfl, trivial⟩ ?_
      refine J.ret ?_
      exact J.done (fun _ _ h => h) (res1 rfl rfl) (retOk () rfl trivial [0] rfl (by decide))

theorem merkleRoots_out (F : Hp) (hK : Cells F ⟨0, 0, none⟩ (Sha.K.map W32)) (A : Option Addr) (n0 c : Nat) (ls : List (List UInt8)) (hl : Sl F 1 A n0 c (strsV ls)) (h8 : UInt8) (i : Int) (hi : i < 0 ∨ 2 ^ (h8 &&& 3).toNat ≤ i) :
    Ct Tryd.prog 6 [.slice A n0 c, B8 h8, I i] [F] (fun _ : Unit => .bool true) (fun _ => True) (fun _ => [F]) := by
  have hlen : ls.length = n0 := by have := hl.1; simpa [strsV] using this
  obtain ⟨h, hh⟩ : ∃ h, h = (h8 &&& 3).toNat := ⟨_, rfl⟩
  have h3 : h ≤ 3 := by rw [hh, UInt8.toNat_and]; exact Nat.and_le_right
  rw [← hh] at hi
  obtain ⟨n, hn⟩ : ∃ n, n = 2 ^ h := ⟨_, rfl⟩
  have hn8 : n ≤ 8 := by rw [hn]; exact Nat.le_trans (Nat.pow_le_pow_right (by decide) h3) (by decide)
  have hn0 : 0 < n := by rw [hn]; exact Nat.two_pow_pos h
  have hR : Mk.Right n := by rw [hn]; exact Mk.right_pow h (by omega)
  have hin : i < 0 ∨ (n : Int) ≤ i := by rcases hi with h | h; exact .inl h; exact .inr (by rw [hn]; simpa using h)
  refine Ct.walk Tryd.func6 rfl Tryd.ntmps6 rfl (fun w0 => ?_)
  change J _ [(0, _), (1, _), (2, _)] _ _ _
  refine J.seq (fun K1 hK1 => ?_)
  refine J.region ?_
  refine J.y (op_assign rfl rfl) rfl rfl rfl ?_
  refine J.nil ?_
  refine J.then_n (J.k hK1 ?_)
  refine J.keepE [(0, _), (1, _), (2, _)] ⟨rfl, rfl, rfl, trivial⟩ ?_
  refine J.seq (fun K2 hK2 => ?_)
  refine J.seq (fun K3 hK3 => ?_)
  refine J.region ?_
  refine J.e (op_call rfl rfl ent22 (speaks07_ct F hK)) rfl rfl rfl ?_
  intro g17 _
  refine J.y ((op_not rfl rfl).as (v' := .bool false) rfl) rfl rfl rfl ?_
  refine J.nil ?_
  refine J.then_n (J.k hK3 ?_)
  refine J.keepE [(0, _), (1, _), (2, _), (18, _)] ⟨rfl, rfl, rfl, rfl, trivial⟩ ?_
  refine J.condF rfl rfl ?_
  refine J.skip ?_
  refine J.then_n (J.k hK2 ?_)
  refine J.keepE [(0, _), (1, _), (2, _)] ⟨rfl, rfl, rfl, trivial⟩ ?_
  refine J.seq (fun K4 hK4 => ?_)
  refine J.region ?_
  refine J.y (op_move rfl rfl) rfl rfl rfl ?_
  refine J.y (op_and8 (b := 3) rfl rfl rfl) rfl rfl rfl ?_
  refine J.y ((op_shlI (a := 1) (m := h) rfl rfl (by rw [hh]; rfl) ⟨by omega, by have := Int.pow_pos (n := 2) (m := h) (by decide); omega, by rw [Int.one_mul]; exact Int.ofNat_le.2 (show 2 ^ h ≤ 9223372036854775807 by omega)⟩).as (v' := I n) (congrArg I (by rw [hn]; simp))) rfl rfl rfl ?_
  refine J.y (op_assign rfl rfl) rfl rfl rfl ?_
  refine J.nil ?_
  refine J.then_n (J.k hK4 ?_)
  refine J.keepE [(0, _), (2, _), (7, _)] ⟨rfl, rfl, rfl, trivial⟩ ?_
  refine J.seq (fun K5 hK5 => ?_)
  refine J.addEmpty [0, 1] [F, (fun _ => none)] rfl (by decide) ?_
  refine J.region ?_
  refine J.y (op_assign rfl rfl) rfl rfl rfl ?_
  refine J.nil ?_
  refine J.then_n (J.k hK5 ?_)
  refine J.keepE [(0, _), (2, _), (7, _), (8, _)] ⟨rfl, rfl, rfl, rfl, trivial⟩ ?_
  refine J.seq (fun K6 hK6 => ?_)
  refine J.seq (fun K7 hK7 => ?_)
  refine J.region ?_
  refine J.y (op_assign rfl rfl) rfl rfl rfl ?_
  refine J.nil ?_
  refine J.then_n (J.k hK7 ?_)
  refine J.keepE [(0, _), (2, _), (7, _), (8, _), (9, _)] ⟨rfl, rfl, rfl, rfl, rfl, trivial⟩ ?_
  refine J.block ?_
  refine J.loop (X := Nat × Option Addr × Nat × Hp) (fun x => [(0, .slice A n0 c), (2, I i), (7, I n), (8, .slice x.2.1 x.1 x.2.2.1), (9, I x.1)]) (fun x => [F, x.2.2.2]) (fun x => x.1 ≤ n ∧ Row x.2.2.2 9 1 x.2.1 x.1 x.2.2.1 (strsV (Mk.fillL 20 ls x.1))) (fun x => n - x.1) (0, none, 0, fun _ => none) (⟨Nat.zero_le _, RowQ.nil⟩) ⟨rfl, rfl, rfl, rfl, rfl, trivial⟩ (fun _ h => h) ?_
  rintro ⟨k, A8, c8, m⟩ ⟨hk, hrow⟩ I0 hI0
  dsimp only at hk hrow ⊢
  refine J.seq (fun K8 hK8 => ?_)
  refine J.seq (fun K9 hK9 => ?_)
  refine J.region ?_
  refine J.y (op_move rfl rfl) rfl rfl rfl ?_
  refine J.y (op_move rfl rfl) rfl rfl rfl ?_
  refine J.y (op_lss rfl rfl rfl) rfl rfl rfl ?_
  refine J.nil ?_
  refine J.then_n (J.k hK9 ?_)
  refine J.keepE [(0, _), (2, _), (7, _), (8, _), (9, _), (24, _)] ⟨rfl, rfl, rfl, rfl, rfl, rfl, trivial⟩ ?_
  refine J.ite rfl (fun h24 => ?_) (fun h24 => ?_)
  ·
    refine J.skip ?_
    refine J.then_n (J.k hK8 ?_)
    refine J.keepE [(0, _), (2, _), (7, _), (8, _), (9, _)] ⟨rfl, rfl, rfl, rfl, rfl, trivial⟩ ?_
    refine J.seq (fun K10 hK10 => ?_)
    refine J.block ?_
    refine J.seq (fun K11 hK11 => ?_)
    refine J.region ?_
    refine J.y (op_assign rfl rfl) rfl rfl rfl ?_
    refine J.nil ?_
    refine J.then_n (J.k hK11 ?_)
    refine J.keepE [(0, _), (2, _), (7, _), (8, _), (9, _), (10, _)] ⟨rfl, rfl, rfl, rfl, rfl, rfl, trivial⟩ ?_
    refine J.seq (fun K12 hK12 => ?_)
    refine J.seq (fun K13 hK13 => ?_)
    refine J.region ?_
    refine J.y (op_move rfl rfl) rfl rfl rfl ?_
    refine J.y (op_move rfl rfl) rfl rfl rfl ?_
    refine J.y (op_len Tryd.underlying22 rfl rfl) rfl rfl rfl ?_
    refine J.y (op_lss rfl rfl rfl) rfl rfl rfl ?_
    refine J.nil ?_
    refine J.then_n (J.k hK13 ?_)
    refine J.keepE [(0, _), (2, _), (7, _), (8, _), (9, _), (10, _), (30, _)] ⟨rfl, rfl, rfl, rfl, rfl, rfl, rfl, trivial⟩ ?_
    refine J.ite rfl (fun h30 => ?_) (fun h30 => ?_)
    ·
      refine J.draw [F] [] (.y 0 (.y 1 (.y 2 (.y 3 (.y 4 (.y 5 (.y 6 (.y 7 (.y 8 (.y 9 (.y 10 (.y 11 .nil)))))))))))) Tryd.wide (by decide +kernel) (by simp) ?_
      refine J.dy rfl (op_move rfl rfl) rfl rfl rfl rfl ?_
      refine J.dy rfl (op_move rfl rfl) rfl rfl rfl rfl ?_
      refine J.dy rfl (op_indexAddr (i := k) rfl rfl rfl Tryd.underlying22 Tryd.sizeOf9 hl (by omega)) rfl rfl rfl rfl ?_
      refine J.dy rfl (op_load rfl rfl Tryd.isAgg9 (m := F) (by simp) (hl.elem (strsV_get (getSome [] (show k < ls.length by omega))))) rfl rfl rfl rfl ?_
      refine J.dy rfl (op_move rfl rfl) rfl rfl rfl rfl ?_
      refine J.dy rfl (op_move rfl rfl) rfl rfl rfl rfl ?_
      refine J.dy rfl (op_indexAddr (i := k) rfl rfl rfl Tryd.underlying22 Tryd.sizeOf9 hl (by omega)) rfl rfl rfl rfl ?_
      refine J.dy rfl (op_load rfl rfl Tryd.isAgg9 (m := F) (by simp) (hl.elem (strsV_get (getSome [] (show k < ls.length by omega))))) rfl rfl rfl rfl ?_
      refine J.dy rfl (op_slen Tryd.underlying9 rfl rfl) rfl rfl rfl rfl ?_
      refine J.dy rfl ((op_min rfl rfl rfl).as (v' := I ((min (ls.getD k []).length 20 : Nat) : Int)) (congrArg I (by omega))) rfl rfl rfl rfl ?_
      refine J.dy rfl ((op_sslice (l := 0) (h := min (ls.getD k []).length 20) Tryd.underlying9 rfl rfl rfl rfl ⟨by omega, by omega⟩).as (congrArg Str (Sha.take_min _ _))) rfl rfl rfl rfl ?_
      refine J.dy rfl (op_assign rfl rfl) rfl rfl rfl rfl ?_
      refine J.dnil ?_
      refine J.then_n (J.k hK12 ?_)
      refine J.keepE [(0, _), (2, _), (7, _), (8, _), (9, _), (10, _)] ⟨rfl, rfl, rfl, rfl, rfl, rfl, trivial⟩ ?_
      refine J.region ?_
      refine J.y (op_move rfl rfl) rfl rfl rfl ?_
      refine J.y ((op_move rfl rfl).as (v' := Str ((ls.getD k []).take 20)) (by first | rfl | (rw [Mk.getD_out (by omega)]; rfl))) rfl rfl rfl ?_
      refine J.e (op_buildSlice (l := [.tmp 43]) (xs := [[Str ((ls.getD k []).take 20)]]) rfl rfl rfl rfl Tryd.underlying22 el9 rfl (by decide) (by decide) (by simp)) rfl rfl rfl ?_
      intro g44 _
      change J _ _ _ [F, m, blk g44 [Str ((ls.getD k []).take 20)] 9] _
      refine J.e (op_append (i := 1) (m2 := blk g44 [Str ((ls.getD k []).take 20)] 9) (ys := strsV [((ls.getD k []).take 20)]) rfl rfl rfl Tryd.underlying22 Tryd.underlying22 el9 rfl hrow (by simp) (row_blk (q := True) (xs := strsV [((ls.getD k []).take 20)]) rfl (by simp [strsV])).sl (one_strs _) (by omega) (by omega)) rfl rfl rfl ?_
      rintro ⟨A45, c45, m45⟩ h45
      try dsimp only at h45
      change J _ ((45, .slice A45 (k + 1) c45) :: _) _ [F, m45, blk g44 [Str ((ls.getD k []).take 20)] 9] _
      rw [← strsV_app, ← Mk.fillL_succ] at h45
      refine J.perm [0, 1] [F, m45] rfl (by decide) ?_
      refine J.y (op_assign rfl rfl) rfl rfl rfl ?_
      refine J.nil ?_
      refine J.blk_n ?_
      refine J.then_n (J.k hK10 ?_)
      refine J.keepE [(0, _), (2, _), (7, _), (8, _), (9, _)] ⟨rfl, rfl, rfl, rfl, rfl, trivial⟩ ?_
      refine J.region ?_
      refine J.y (op_move rfl rfl) rfl rfl rfl ?_
      refine J.y ((op_add rfl rfl rfl (by first | omega | (refine ⟨?_, ?_⟩ <;> omega))).as (v' := I ((k + 1 : Nat) : Int)) (congrArg I (by omega))) rfl rfl rfl ?_
      refine J.y (op_assign rfl rfl) rfl rfl rfl ?_
      refine J.nil ?_
      refine J.then_n ?_
      exact J.kk (k + 1, A45, c45, m45) (fun x (hx : _ ∧ n - x.1 < n - k) => hI0 x hx.1 hx.2) ⟨⟨by dsimp only; omega, h45⟩, by dsimp only; omega⟩ ⟨rfl, rfl, rfl, rfl, rfl, trivial⟩ (fun _ h => h)
    ·
      refine J.skip ?_
      refine J.then_n (J.k hK12 ?_)
      refine J.keepE [(0, _), (2, _), (7, _), (8, _), (9, _), (10, _)] ⟨rfl, rfl, rfl, rfl, rfl, rfl, trivial⟩ ?_
      refine J.region ?_
      refine J.y (op_move rfl rfl) rfl rfl rfl ?_
      refine J.y ((op_move rfl rfl).as (v' := Str ((ls.getD k []).take 20)) (by first | rfl | (rw [Mk.getD_out (by omega)]; rfl))) rfl rfl rfl ?_
      refine J.e (op_buildSlice (l := [.tmp 43]) (xs := [[Str ((ls.getD k []).take 20)]]) rfl rfl rfl rfl Tryd.underlying22 el9 rfl (by decide) (by decide) (by simp)) rfl rfl rfl ?_
      intro g44 _
      change J _ _ _ [F, m, blk g44 [Str ((ls.getD k []).take 20)] 9] _
      refine J.e (op_append (i := 1) (m2 := blk g44 [Str ((ls.getD k []).take 20)] 9) (ys := strsV [((ls.getD k []).take 20)]) rfl rfl rfl Tryd.underlying22 Tryd.underlying22 el9 rfl hrow (by simp) (row_blk (q := True) (xs := strsV [((ls.getD k []).take 20)]) rfl (by simp [strsV])).sl (one_strs _) (by omega) (by omega)) rfl rfl rfl ?_
      rintro ⟨A45, c45, m45⟩ h45
      try dsimp only at h45
      change J _ ((45, .slice A45 (k + 1) c45) :: _) _ [F, m45, blk g44 [Str ((ls.getD k []).take 20)] 9] _
      rw [← strsV_app, ← Mk.fillL_succ] at h45
      refine J.perm [0, 1] [F, m45] rfl (by decide) ?_
      refine J.y (op_assign rfl rfl) rfl rfl rfl ?_
      refine J.nil ?_
      refine J.blk_n ?_
      refine J.then_n (J.k hK10 ?_)
      refine J.keepE [(0, _), (2, _), (7, _), (8, _), (9, _)] ⟨rfl, rfl, rfl, rfl, rfl, trivial⟩ ?_
      refine J.region ?_
      refine J.y (op_move rfl rfl) rfl rfl rfl ?_
      refine J.y ((op_add rfl rfl rfl (by first | omega | (refine ⟨?_, ?_⟩ <;> omega))).as (v' := I ((k + 1 : Nat) : Int)) (congrArg I (by omega))) rfl rfl rfl ?_
      refine J.y (op_assign rfl rfl) rfl rfl rfl ?_
      refine J.nil ?_
      refine J.then_n ?_
      exact J.kk (k + 1, A45, c45, m45) (fun x (hx : _ ∧ n - x.1 < n - k) => hI0 x hx.1 hx.2) ⟨⟨by dsimp only; omega, h45⟩, by dsimp only; omega⟩ ⟨rfl, rfl, rfl, rfl, rfl, trivial⟩ (fun _ h => h)
  ·
    refine J.exit ?_
    refine J.then_x ?_
    refine J.then_x ?_
    refine J.blk_eq ?_
    refine J.then_n (J.k hK6 ?_)
    refine J.keepE [(2, _), (7, _), (8, _)] ⟨rfl, rfl, rfl, trivial⟩ ?_
    refine J.seq (fun K14 hK14 => ?_)
    have hkn : k = n := by omega
    subst hkn
    have hsm : ∀ s ∈ Mk.fillL 20 ls k, s.length ≤ 1048576 := fun s hs => Nat.le_trans (Mk.fillL_small 20 ls k s hs) (by decide)
    have hfl := Mk.fillL_length 20 ls k
    refine J.region ?_
    refine J.y (op_move rfl rfl) rfl rfl rfl ?_
    refine J.e (op_call rfl rfl ent23 (Ct.use0 (fun F' hF => root_ct F' (hK.mono (hF _ (by simp))) A8 k c8 (Mk.fillL 20 ls k) (hrow.sl.mono (hF _ (by simp))) h (by omega) hn hsm))) rfl rfl rfl ?_
    intro g48 _
    refine J.y (op_move rfl rfl) rfl rfl rfl ?_
    refine J.y (op_extract rfl rfl rfl) rfl rfl rfl ?_
    refine J.y (op_extract rfl rfl rfl) rfl rfl rfl ?_
    refine J.y (op_assign rfl rfl) rfl rfl rfl ?_
    refine J.y (op_assign rfl rfl) rfl rfl rfl ?_
    refine J.nil ?_
    refine J.then_n (J.k hK14 ?_)
    refine J.keepE [(2, _), (7, _), (8, _), (11, _), (12, _)] ⟨rfl, rfl, rfl, rfl, rfl, trivial⟩ ?_
    refine J.seq (fun K15 hK15 => ?_)
    refine J.region ?_
    refine J.y (op_move rfl rfl) rfl rfl rfl ?_
    refine J.y (op_move rfl rfl) rfl rfl rfl ?_
    refine J.e (op_call rfl rfl ent24 (Ct.use0 (fun F' hF => path_out F' A8 k c8 i hR (by omega) hin))) rfl rfl rfl ?_
    intro g54 _
    refine J.y (op_move rfl rfl) rfl rfl rfl ?_
    refine J.y (op_extract rfl rfl rfl) rfl rfl rfl ?_
    refine J.y (op_extract rfl rfl rfl) rfl rfl rfl ?_
    refine J.y (op_assign rfl rfl) rfl rfl rfl ?_
    refine J.y (op_assign rfl rfl) rfl rfl rfl ?_
    refine J.nil ?_
    refine J.then_n (J.k hK15 ?_)
    refine J.keepE [(2, _), (7, _), (8, _), (11, _), (12, _), (13, _), (14, _)] ⟨rfl, rfl, rfl, rfl, rfl, rfl, rfl, trivial⟩ ?_
    refine J.seq (fun K16 hK16 => ?_)
    refine J.seq (fun K17 hK17 => ?_)
    refine J.region ?_
    refine J.y (op_move rfl rfl) rfl rfl rfl ?_
    refine J.y ((op_neq rfl rfl rfl).as (v' := .bool false) (congrArg Value.bool (decide_eq_false (by decide)))) rfl rfl rfl ?_
    refine J.y (op_move rfl rfl) rfl rfl rfl ?_
    refine J.yg (Wan.is rfl rfl rfl rfl rfl) (op_move rfl rfl) rfl rfl ?_
    refine J.yg (Wan.is rfl rfl rfl rfl rfl) (op_move rfl rfl) rfl rfl ?_
    refine J.eg (Wan.is rfl rfl rfl rfl rfl) (op_call rfl rfl ent25 (Ct.use0 (fun F' hF => r7root_ct h (by omega) F' A8 k c8 (Mk.fillL 20 ls k) (hrow.sl.mono (hF _ (by simp))) hsm hn))) rfl rfl ?_
    intro g62 _
    refine J.yg (Wan.is rfl rfl rfl rfl rfl) ((op_sne rfl rfl rfl).as (v' := .bool false) (congrArg Value.bool (decide_eq_false (fun h => h rfl)))) rfl rfl ?_
    refine J.y (op_pickF rfl rfl rfl) rfl rfl rfl ?_
    refine J.nil ?_
    refine J.then_n (J.k hK17 ?_)
    refine J.keepE [(2, _), (7, _), (8, _), (11, _), (13, _), (14, _), (64, _)] ⟨rfl, rfl, rfl, rfl, rfl, rfl, rfl, trivial⟩ ?_
    refine J.condF rfl rfl ?_
    refine J.skip ?_
    refine J.then_n (J.k hK16 ?_)
    refine J.keepE [(2, _), (7, _), (8, _), (11, _), (13, _), (14, _)] ⟨rfl, rfl, rfl, rfl, rfl, rfl, trivial⟩ ?_
    refine J.seq (fun K18 hK18 => ?_)
    refine J.seq (fun K19 hK19 => ?_)
    refine J.region ?_
    refine J.y (op_move rfl rfl) rfl rfl rfl ?_
    refine J.y (op_lss rfl rfl rfl) rfl rfl rfl ?_
    refine J.y (op_move rfl rfl) rfl rfl rfl ?_
    refine J.split (d := 67) rfl (fun h67 => ?_) (fun h67 => ?_)
    ·
      refine J.no (Wan.is rfl rfl rfl rfl rfl) rfl rfl ?_
      refine J.no (Wan.is rfl rfl rfl rfl rfl) rfl rfl ?_
      refine J.no (Wan.is rfl rfl rfl rfl rfl) rfl rfl ?_
      refine J.y (op_pickT rfl rfl rfl) rfl rfl rfl ?_
      refine J.nil ?_
      refine J.then_n (J.k hK19 ?_)
      refine J.keepE [(2, _), (8, _), (11, _), (13, _), (14, _), (71, _)] ⟨rfl, rfl, rfl, rfl, rfl, rfl, trivial⟩ ?_
      refine J.condT rfl rfl ?_
      refine J.seq (fun K20 hK20 => ?_)
      refine J.region ?_
      refine J.y (op_move rfl rfl) rfl rfl rfl ?_
      refine J.y ((op_eql rfl rfl rfl).as (v' := .bool true) (congrArg Value.bool (decide_eq_true (by decide)))) rfl rfl rfl ?_
      refine J.y (op_move rfl rfl) rfl rfl rfl ?_
      refine J.yg (Wan.is rfl rfl rfl rfl rfl) (op_move rfl rfl) rfl rfl ?_
      refine J.yg (Wan.is rfl rfl rfl rfl rfl) (op_len Tryd.underlying22 rfl rfl) rfl rfl ?_
      refine J.yg (Wan.is rfl rfl rfl rfl rfl) ((op_eql rfl rfl rfl).as (v' := .bool true) (congrArg Value.bool (decide_eq_true (by decide)))) rfl rfl ?_
      refine J.y (op_pickT rfl rfl rfl) rfl rfl rfl ?_
      refine J.y (op_assign rfl rfl) rfl rfl rfl ?_
      refine J.nil ?_
      refine J.then_n (J.k hK20 ?_)
      refine J.keepE [(6, _)] ⟨rfl, trivial⟩ ?_
      refine J.ret ?_
      refine J.then_r ?_
      exact J.done (fun _ _ h => h) (res1 rfl rfl) (retOk () rfl trivial [0] rfl (by decide))
    ·
      refine J.yg (Wan.is rfl rfl rfl rfl rfl) (op_move rfl rfl) rfl rfl ?_
      refine J.yg (Wan.is rfl rfl rfl rfl rfl) (op_move rfl rfl) rfl rfl ?_
      refine J.yg (Wan.is rfl rfl rfl rfl rfl) ((op_geq rfl rfl rfl).as (v' := .bool true) (congrArg Value.bool (decide_eq_true (by omega)))) rfl rfl ?_
      refine J.y (op_pickF rfl rfl rfl) rfl rfl rfl ?_
      refine J.nil ?_
      refine J.then_n (J.k hK19 ?_)
      refine J.keepE [(2, _), (8, _), (11, _), (13, _), (14, _), (71, _)] ⟨rfl, rfl, rfl, rfl, rfl, rfl, trivial⟩ ?_
      refine J.condT rfl rfl ?_
      refine J.seq (fun K21 hK21 => ?_)
      refine J.region ?_
      refine J.y (op_move rfl rfl) rfl rfl rfl ?_
      refine J.y ((op_eql rfl rfl rfl).as (v' := .bool true) (congrArg Value.bool (decide_eq_true (by decide)))) rfl rfl rfl ?_
      refine J.y (op_move rfl rfl) rfl rfl rfl ?_
      refine J.yg (Wan.is rfl rfl rfl rfl rfl) (op_move rfl rfl) rfl rfl ?_
      refine J.yg (Wan.is rfl rfl rfl rfl rfl) (op_len Tryd.underlying22 rfl rfl) rfl rfl ?_
      refine J.yg (Wan.is rfl rfl rfl rfl rfl) ((op_eql rfl rfl rfl).as (v' := .bool true) (congrArg Value.bool (decide_eq_true (by decide)))) rfl rfl ?_
      refine J.y (op_pickT rfl rfl rfl) rfl rfl rfl ?_
      refine J.y (op_assign rfl rfl) rfl rfl rfl ?_
      refine J.nil ?_
      refine J.then_n (J.k hK21 ?_)
      refine J.keepE [(6, _)] ⟨rfl, trivial⟩ ?_
      refine J.ret ?_
      refine J.then_r ?_
      exact J.done (fun _ _ h => h) (res1 rfl rfl) (retOk () rfl trivial [0] rfl (by decide))

theorem merkleRoots_ct (F : Hp) (hK : Cells F ⟨0, 0, none⟩ (Sha.K.map W32)) (A : Option Addr) (n0 c : Nat) (ls : List (List UInt8)) (hl : Sl F 1 A n0 c (strsV ls)) (h8 : UInt8) (i : Int) :
    Ct Tryd.prog 6 [.slice A n0 c, B8 h8, I i] [F] (fun _ : Unit => .bool true) (fun _ => True) (fun _ => [F]) := by
  by_cases h : 0 ≤ i ∧ i < 2 ^ (h8 &&& 3).toNat
  · obtain ⟨k, rfl⟩ := Int.eq_ofNat_of_zero_le h.1
    exact merkleRoots_in F hK A n0 c ls hl h8 k (by have := h.2; rw [← Int.ofNat_lt]; simpa using this)
  · exact merkleRoots_out F hK A n0 c ls hl h8 i (by omega)

end Go.Proofs.YtadckkaepngloaaDoor
