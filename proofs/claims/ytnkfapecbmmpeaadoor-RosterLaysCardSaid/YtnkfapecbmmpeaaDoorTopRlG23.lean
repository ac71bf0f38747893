/- A part of the proof: contracts of functions of the program, each for every state of the heaps that it names. -/
import Derived.Test.YtnkfapecbmmpeaaDoorTopRlG17
import Derived.Test.YtnkfapecbmmpeaaDoorTopRlG6
import Derived.Test.YtnkfapecbmmpeaaDoorTopRlG22
set_option linter.unusedSimpArgs false
set_option linter.unusedVariables false
namespace Go.Proofs.YtnkfapecbmmpeaaDoor
open Go Go.Fw
set_option maxRecDepth 100000
set_option maxHeartbeats 1000000
theorem ent155 : Enters Tryd.prog 155 := Enters.of Tryd.func155 rfl (by kernel_rfl)

namespace Sb
def isLf (s : List UInt8) : Prop := s ≠ [] ∧ s.take 1 = [1]
instance (s : List UInt8) : Decidable (isLf s) := by unfold isLf; infer_instance
def join (a b : List UInt8) : List UInt8 := if a = [0] ∧ (b = [0] ∨ isLf b) then b else if b = [0] ∧ isLf a then a else 2 :: Sha.tagged 10 [a, b]
def leafN (k v : List UInt8) : List UInt8 := 1 :: Sha.tagged 9 [k, v]
def lvl (l : List (List UInt8)) : List (List UInt8) := (List.range (l.length / 2)).map fun k => join (l.getD (2 * k) []) (l.getD (2 * k + 1) [])
def lvls (l : List (List UInt8)) : Nat → List (List UInt8)
  | 0 => l
  | j + 1 => lvl (lvls l j)
def root (l : List (List UInt8)) (d : Nat) : List UInt8 := (lvls l d).getD 0 []
theorem lvl_length (l : List (List UInt8)) : (lvl l).length = l.length / 2 := by simp [lvl]
theorem lvls_zero (l : List (List UInt8)) : lvls l 0 = l := rfl
theorem lvls_succ (l : List (List UInt8)) (j : Nat) : lvls l (j + 1) = lvl (lvls l j) := rfl
theorem lvls_length {l : List (List UInt8)} {d : Nat} (h : l.length = 2 ^ d) : ∀ j, j ≤ d → (lvls l j).length = 2 ^ (d - j)
  | 0, _ => h
  | j + 1, hj => by
    rw [lvls_succ, lvl_length, lvls_length h j (by omega), show d - j = (d - (j + 1)) + 1 by omega, Nat.pow_succ, Nat.mul_div_cancel _ (by decide)]
theorem join_small {a b : List UInt8} (ha : a.length ≤ 1048576) (hb : b.length ≤ 1048576) : (join a b).length ≤ 1048576 := by
  unfold join
  split
  · exact hb
  · split
    · exact ha
    · rw [List.length_cons, Sha.tagged_length]; decide
theorem getD_small {l : List (List UInt8)} (h : ∀ s ∈ l, s.length ≤ 1048576) (k : Nat) : (l.getD k []).length ≤ 1048576 := by
  by_cases hk : k < l.length
  · rw [List.getD_eq_getElem?_getD, List.getElem?_eq_getElem hk]; exact h _ (List.getElem_mem _)
  · rw [List.getD_eq_getElem?_getD, List.getElem?_eq_none (by omega)]; decide
theorem lvls_small {l : List (List UInt8)} (h : ∀ s ∈ l, s.length ≤ 1048576) : ∀ j, ∀ s ∈ lvls l j, s.length ≤ 1048576
  | 0 => h
  | j + 1 => fun s hs => by
    rw [lvls_succ] at hs
    unfold lvl at hs
    obtain ⟨k, _, rfl⟩ := List.mem_map.1 hs
    exact join_small (getD_small (lvls_small h j) _) (getD_small (lvls_small h j) _)
theorem lvl_take {l : List (List UInt8)} {k : Nat} (h : k < l.length / 2) : (lvl l).take (k + 1) = (lvl l).take k ++ [join (l.getD (2 * k) []) (l.getD (2 * k + 1) [])] := by
  rw [List.take_succ_eq_append_getElem (by rw [lvl_length]; exact h)]
  simp [lvl]
end Sb
def cnt (d : Int) : Nat := if d < 0 ∨ 4 < d then 0 else 2 ^ d.toNat
theorem cnt_zero {d : Int} : cnt d = 0 ↔ (d < 0 ∨ 4 < d) := by
  unfold cnt
  split
  · exact ⟨fun _ => by assumption, fun _ => rfl⟩
  · rename_i h
    exact ⟨fun e => absurd e (Nat.ne_of_gt (Nat.two_pow_pos _)), fun e => absurd e h⟩
theorem cnt_le (d : Int) : cnt d ≤ 16 := by
  unfold cnt
  split
  · omega
  · exact Nat.le_trans (Nat.pow_le_pow_right (by decide) (show d.toNat ≤ 4 by omega)) (by decide)
theorem cnt_pow {d : Int} (h : cnt d ≠ 0) : cnt d = 2 ^ d.toNat := by
  unfold cnt at h ⊢
  split
  · rename_i h1; rw [if_pos h1] at h; exact absurd rfl h
  · rfl
def brErr (l : List (List UInt8)) (d : Int) : Int := if cnt d = 0 then 1 else if l.length ≠ cnt d then 22 else 0
def brVal (l : List (List UInt8)) (d : Int) : List UInt8 := if brErr l d = 0 then Sb.root l d.toNat else []
theorem op_slice3L {P : Program} {env : Env} {rs : List Hp} {o : Oper} {t e x p q r sz A n' c l h m} (ho : o.op = .slice t x (some p) (some q) (some r)) (hx : ev env x = some (.slice A n' c)) (hu : P.underlying t = some (.slice e)) (hz : ∀ w, (sizeOf e).run P w = .ok sz w)
    (hlo : ev env p = some (I ((l : Nat) : Int))) (hhi : ev env q = some (I ((h : Nat) : Int))) (hmx : ev env r = some (I ((m : Nat) : Int))) (hr : l ≤ h ∧ h ≤ m ∧ m ≤ c) : YOp P env rs o (.slice (if m = l then A else A.map (·.add (l * sz))) (h - l) (m - l)) := fun n a w hk _ => by
  simp [execOp, ho, hk.ev hx, hk.ev hlo, hk.ev hhi, hk.ev hmx, Instr.sliceAt, Instr.slice, run_underlying hu, Instr.sliceBounds, Instr.sliceBound, asIntOf, hr.1, hr.2.1, hr.2.2, hz]

attribute [local irreducible] Sha.tagged Sb.join Sb.lvl Sb.lvls Sb.root

theorem sleaf_ct (F : Hp) (s : List UInt8) : Ct Tryd.prog 155 [Str s] [F] (fun _ : Unit => .bool (decide (Sb.isLf s))) (fun _ => True) (fun _ => [F]) := by
  refine Ct.walk Tryd.func155 rfl Tryd.ntmps155 rfl (fun w0 hw0 => ?_)
  change J _ [(0, _)] _ _ _
  refine J.seq (fun K1 hK1 => ?_)
  refine J.region ?_
  refine J.y (op_assign rfl rfl) rfl rfl rfl ?_
  refine J.nil ?_
  refine J.then_n (J.k hK1 ?_)
  refine J.keepE [(0, _)] ⟨rfl, trivial⟩ ?_
  refine J.seq (fun K2 hK2 => ?_)
  refine J.region ?_
  refine J.y (op_move rfl rfl) rfl rfl rfl ?_
  refine J.y (op_sne rfl rfl rfl) rfl rfl rfl ?_
  refine J.y (op_move rfl rfl) rfl rfl rfl ?_
  refine J.split (d := 5) rfl (fun h5 => ?_) (fun h5 => ?_)
  ·
    refine J.yg (Wan.is rfl rfl rfl rfl rfl) (op_move rfl rfl) rfl rfl ?_
    refine J.yg (Wan.is rfl rfl rfl rfl rfl) ((op_sslice (l := 0) (h := 1) Tryd.underlying9 rfl rfl rfl rfl ⟨by omega, by have : s.length ≠ 0 := fun e => h5 (List.eq_nil_of_length_eq_zero e); omega⟩).as (congrArg Str List.drop_zero)) rfl rfl ?_
    refine J.yg (Wan.is rfl rfl rfl rfl rfl) (op_seq rfl rfl rfl) rfl rfl ?_
    refine J.y (op_pickT rfl rfl rfl) rfl rfl rfl ?_
    refine J.y (op_assign rfl rfl) rfl rfl rfl ?_
    refine J.nil ?_
    refine J.then_n (J.k hK2 ?_)
    refine J.keepE [(2, _)] ⟨rfl, trivial⟩ ?_
    refine J.ret ?_
    exact J.done hw0 (fun _ _ h => h) (res1 rfl rfl) (retOk () (congrArg Value.bool (decide_eq_decide.2 ⟨fun h => ⟨h5, h⟩, fun h => h.2⟩)) trivial [0] rfl (by decide))
  ·
    refine J.no (Wan.is rfl rfl rfl rfl rfl) rfl rfl ?_
    refine J.no (Wan.is rfl rfl rfl rfl rfl) rfl rfl ?_
    refine J.no (Wan.is rfl rfl rfl rfl rfl) rfl rfl ?_
    refine J.y (op_pickF rfl rfl rfl) rfl rfl rfl ?_
    refine J.y (op_assign rfl rfl) rfl rfl rfl ?_
    refine J.nil ?_
    refine J.then_n (J.k hK2 ?_)
    refine J.keepE [(2, _)] ⟨rfl, trivial⟩ ?_
    refine J.ret ?_
    exact J.done hw0 (fun _ _ h => h) (res1 rfl rfl) (retOk () (congrArg Value.bool (decide_eq_false (fun h => h5 h.1)).symm) trivial [0] rfl (by decide))

theorem sLeaf_ct (F : Hp) (hK : Cells F ⟨1, 0, none⟩ (Sha.K.map W32)) (k v : List UInt8) (hk : k.length ≤ 1048576) (hv : v.length ≤ 1048576) : Ct Tryd.prog 70 [Str k, Str v] [F] (fun _ : Unit => Str (Sb.leafN k v)) (fun _ => True) (fun _ => [F]) := by
  refine Ct.walk Tryd.func70 rfl Tryd.ntmps70 rfl (fun w0 hw0 => ?_)
  change J _ [(0, _), (1, _)] _ _ _
  refine J.seq (fun K1 hK1 => ?_)
  refine J.region ?_
  refine J.y (op_assign rfl rfl) rfl rfl rfl ?_
  refine J.nil ?_
  refine J.then_n (J.k hK1 ?_)
  refine J.keepE [(0, _), (1, _)] ⟨rfl, rfl, trivial⟩ ?_
  refine J.seq (fun K2 hK2 => ?_)
  refine J.region ?_
  refine J.y (op_move rfl rfl) rfl rfl rfl ?_
  refine J.y (op_move rfl rfl) rfl rfl rfl ?_
  refine J.e (op_buildSlice (l := [.tmp 5, .tmp 6]) (xs := [[Str (k)], [Str (v)]]) rfl rfl rfl rfl Tryd.underlying55 el9 rfl (by decide) (by decide) (by simp)) rfl rfl rfl ?_
  intro g7 _
  change J _ _ _ [F, blk g7 [Str (k), Str (v)] 9] _
  refine J.e (op_call rfl rfl ent58 (Ct.use0 (fun F' hF => tagged_ct F' (hK.mono (hF _ (by simp))) 9 (some ⟨g7, 0, none⟩) 2 2 [k, v] ((slS [k, v] rfl).mono (hF (blk g7 (([k, v] : List (List UInt8)).map fun s => Str s) 9) (by simp))) (by simp; omega) (by decide)))) rfl rfl rfl ?_
  intro g8 _
  refine J.y ((op_sadd rfl rfl rfl (by simp only [List.length_append, Sha.tagged_length]; decide))) rfl rfl rfl ?_
  refine J.y (op_assign rfl rfl) rfl rfl rfl ?_
  refine J.nil ?_
  refine J.then_n (J.k hK2 ?_)
  refine J.keepE [(4, _)] ⟨rfl, trivial⟩ ?_
  refine J.ret ?_
  exact J.done hw0 (fun _ _ h => h) (res1 rfl rfl) (retOk () rfl trivial [0] rfl (by decide))

theorem sjoin_ct (F : Hp) (hK : Cells F ⟨1, 0, none⟩ (Sha.K.map W32)) (a b : List UInt8) (ha : a.length ≤ 1048576) (hb : b.length ≤ 1048576) : Ct Tryd.prog 114 [Str a, Str b] [F] (fun _ : Unit => Str (Sb.join a b)) (fun _ => True) (fun _ => [F]) := by
  refine Ct.walk Tryd.func114 rfl Tryd.ntmps114 rfl (fun w0 hw0 => ?_)
  change J _ [(0, _), (1, _)] _ _ _
  refine J.seq (fun K1 hK1 => ?_)
  refine J.region ?_
  refine J.y (op_assign rfl rfl) rfl rfl rfl ?_
  refine J.nil ?_
  refine J.then_n (J.k hK1 ?_)
  refine J.keepE [(0, _), (1, _)] ⟨rfl, rfl, trivial⟩ ?_
  refine J.seq (fun K2 hK2 => ?_)
  refine J.block ?_
  refine J.seq (fun K3 hK3 => ?_)
  refine J.region ?_
  refine J.y (op_move rfl rfl) rfl rfl rfl ?_
  refine J.y (op_seq rfl rfl rfl) rfl rfl rfl ?_
  refine J.y (op_move rfl rfl) rfl rfl rfl ?_
  refine J.split (d := 8) rfl (fun h8 => ?_) (fun h8 => ?_)
  ·
    refine J.yg (Wan.is rfl rfl rfl rfl rfl) (op_move rfl rfl) rfl rfl ?_
    refine J.yg (Wan.is rfl rfl rfl rfl rfl) (op_seq rfl rfl rfl) rfl rfl ?_
    refine J.yg (Wan.is rfl rfl rfl rfl rfl) (op_move rfl rfl) rfl rfl ?_
    refine J.split (d := 11) rfl (fun h11 => ?_) (fun h11 => ?_)
    ·
      refine J.no (Wan.is rfl rfl rfl rfl rfl) rfl rfl ?_
      refine J.no (Wan.is rfl rfl rfl rfl rfl) rfl rfl ?_
      refine J.yg (Wan.is rfl rfl rfl rfl rfl) (op_pickT rfl rfl rfl) rfl rfl ?_
      refine J.y (op_pickT rfl rfl rfl) rfl rfl rfl ?_
      refine J.y (op_assign rfl rfl) rfl rfl rfl ?_
      refine J.nil ?_
      refine J.then_n (J.k hK3 ?_)
      refine J.keepE [(0, _), (1, _), (5, _)] ⟨rfl, rfl, rfl, trivial⟩ ?_
      refine J.condT rfl rfl ?_
      refine J.seq (fun K4 hK4 => ?_)
      refine J.region ?_
      refine J.y (op_move rfl rfl) rfl rfl rfl ?_
      refine J.y (op_assign rfl rfl) rfl rfl rfl ?_
      refine J.nil ?_
      refine J.then_n (J.k hK4 ?_)
      refine J.keepE [(4, _)] ⟨rfl, trivial⟩ ?_
      refine J.ret ?_
      refine J.blk_r ?_
      refine J.then_r ?_
      exact J.done hw0 (fun _ _ h => h) (res1 rfl rfl) (retOk () (congrArg Str (by unfold Sb.join; rw [if_pos ⟨h8, .inl h11⟩])) trivial [0] rfl (by decide))
    ·
      refine J.yg (Wan.is rfl rfl rfl rfl rfl) (op_move rfl rfl) rfl rfl ?_
      refine J.eg (Wan.is rfl rfl rfl rfl rfl) (op_call rfl rfl ent155 (Ct.use0 (fun F' hF => sleaf_ct F' b))) rfl rfl ?_
      intro g13 _
      refine J.yg (Wan.is rfl rfl rfl rfl rfl) (op_pickF rfl rfl rfl) rfl rfl ?_
      refine J.y (op_pickT rfl rfl rfl) rfl rfl rfl ?_
      refine J.y (op_assign rfl rfl) rfl rfl rfl ?_
      refine J.nil ?_
      refine J.then_n (J.k hK3 ?_)
      refine J.keepE [(0, _), (1, _), (5, _)] ⟨rfl, rfl, rfl, trivial⟩ ?_
      refine J.ite rfl (fun h5 => ?_) (fun h5 => ?_)
      ·
        refine J.seq (fun K5 hK5 => ?_)
        refine J.region ?_
        refine J.y (op_move rfl rfl) rfl rfl rfl ?_
        refine J.y (op_assign rfl rfl) rfl rfl rfl ?_
        refine J.nil ?_
        refine J.then_n (J.k hK5 ?_)
        refine J.keepE [(4, _)] ⟨rfl, trivial⟩ ?_
        refine J.ret ?_
        refine J.blk_r ?_
        refine J.then_r ?_
        exact J.done hw0 (fun _ _ h => h) (res1 rfl rfl) (retOk () (congrArg Str (by unfold Sb.join; rw [if_pos ⟨h8, .inr h5⟩])) trivial [0] rfl (by decide))
      ·
        refine J.seq (fun K6 hK6 => ?_)
        refine J.region ?_
        refine J.y (op_move rfl rfl) rfl rfl rfl ?_
        refine J.y (op_seq rfl rfl rfl) rfl rfl rfl ?_
        refine J.y (op_move rfl rfl) rfl rfl rfl ?_
        refine J.split (d := 20) rfl (fun h20 => ?_) (fun h20 => ?_)
        ·
          refine J.yg (Wan.is rfl rfl rfl rfl rfl) (op_move rfl rfl) rfl rfl ?_
          refine J.eg (Wan.is rfl rfl rfl rfl rfl) (op_call rfl rfl ent155 (Ct.use0 (fun F' hF => sleaf_ct F' a))) rfl rfl ?_
          intro g22 _
          refine J.y (op_pickT rfl rfl rfl) rfl rfl rfl ?_
          refine J.y (op_assign rfl rfl) rfl rfl rfl ?_
          refine J.nil ?_
          refine J.then_n (J.k hK6 ?_)
          refine J.keepE [(0, _), (1, _), (17, _)] ⟨rfl, rfl, rfl, trivial⟩ ?_
          refine J.ite rfl (fun h17 => ?_) (fun h17 => ?_)
          ·
            refine J.seq (fun K7 hK7 => ?_)
            refine J.region ?_
            refine J.y (op_move rfl rfl) rfl rfl rfl ?_
            refine J.y (op_assign rfl rfl) rfl rfl rfl ?_
            refine J.nil ?_
            refine J.then_n (J.k hK7 ?_)
            refine J.keepE [(4, _)] ⟨rfl, trivial⟩ ?_
            refine J.ret ?_
            refine J.blk_r ?_
            refine J.then_r ?_
            exact J.done hw0 (fun _ _ h => h) (res1 rfl rfl) (retOk () (absurd h20 h11) trivial [0] rfl (by decide))
          ·
            refine J.skip ?_
            refine J.blk_n ?_
            refine J.then_n (J.k hK2 ?_)
            refine J.keepE [(0, _), (1, _)] ⟨rfl, rfl, trivial⟩ ?_
            refine J.seq (fun K8 hK8 => ?_)
            refine J.region ?_
            refine J.y (op_move rfl rfl) rfl rfl rfl ?_
            refine J.y (op_move rfl rfl) rfl rfl rfl ?_
            refine J.e (op_buildSlice (l := [.tmp 25, .tmp 26]) (xs := [[Str (a)], [Str (b)]]) rfl rfl rfl rfl Tryd.underlying55 el9 rfl (by decide) (by decide) (by simp)) rfl rfl rfl ?_
            intro g27 _
            change J _ _ _ [F, blk g27 [Str (a), Str (b)] 9] _
            refine J.e (op_call rfl rfl ent58 (Ct.use0 (fun F' hF => tagged_ct F' (hK.mono (hF _ (by simp))) 10 (some ⟨g27, 0, none⟩) 2 2 [a, b] ((slS [a, b] rfl).mono (hF (blk g27 (([a, b] : List (List UInt8)).map fun s => Str s) 9) (by simp))) (by simp; omega) (by decide)))) rfl rfl rfl ?_
            intro g28 _
            refine J.y ((op_sadd rfl rfl rfl (by simp only [List.length_append, Sha.tagged_length]; decide))) rfl rfl rfl ?_
            refine J.y (op_assign rfl rfl) rfl rfl rfl ?_
            refine J.nil ?_
            refine J.then_n (J.k hK8 ?_)
            refine J.keepE [(4, _)] ⟨rfl, trivial⟩ ?_
            refine J.ret ?_
            exact J.done hw0 (fun _ _ h => h) (res1 rfl rfl) (retOk () (absurd h20 h11) trivial [0] rfl (by decide))
        ·
          refine J.no (Wan.is rfl rfl rfl rfl rfl) rfl rfl ?_
          refine J.no (Wan.is rfl rfl rfl rfl rfl) rfl rfl ?_
          refine J.y (op_pickF rfl rfl rfl) rfl rfl rfl ?_
          refine J.y (op_assign rfl rfl) rfl rfl rfl ?_
          refine J.nil ?_
          refine J.then_n (J.k hK6 ?_)
          refine J.keepE [(0, _), (1, _), (17, _)] ⟨rfl, rfl, rfl, trivial⟩ ?_
          refine J.condF rfl rfl ?_
          refine J.skip ?_
          refine J.blk_n ?_
          refine J.then_n (J.k hK2 ?_)
          refine J.keepE [(0, _), (1, _)] ⟨rfl, rfl, trivial⟩ ?_
          refine J.seq (fun K9 hK9 => ?_)
          refine J.region ?_
          refine J.y (op_move rfl rfl) rfl rfl rfl ?_
          refine J.y (op_move rfl rfl) rfl rfl rfl ?_
          refine J.e (op_buildSlice (l := [.tmp 25, .tmp 26]) (xs := [[Str (a)], [Str (b)]]) rfl rfl rfl rfl Tryd.underlying55 el9 rfl (by decide) (by decide) (by simp)) rfl rfl rfl ?_
          intro g27 _
          change J _ _ _ [F, blk g27 [Str (a), Str (b)] 9] _
          refine J.e (op_call rfl rfl ent58 (Ct.use0 (fun F' hF => tagged_ct F' (hK.mono (hF _ (by simp))) 10 (some ⟨g27, 0, none⟩) 2 2 [a, b] ((slS [a, b] rfl).mono (hF (blk g27 (([a, b] : List (List UInt8)).map fun s => Str s) 9) (by simp))) (by simp; omega) (by decide)))) rfl rfl rfl ?_
          intro g28 _
          refine J.y ((op_sadd rfl rfl rfl (by simp only [List.length_append, Sha.tagged_length]; decide))) rfl rfl rfl ?_
          refine J.y (op_assign rfl rfl) rfl rfl rfl ?_
          refine J.nil ?_
          refine J.then_n (J.k hK9 ?_)
          refine J.keepE [(4, _)] ⟨rfl, trivial⟩ ?_
          refine J.ret ?_
          exact J.done hw0 (fun _ _ h => h) (res1 rfl rfl) (retOk () (congrArg Str (by unfold Sb.join; rw [if_neg (fun h => h.2.elim h11 h5), if_neg (fun h => h20 h.1)]; rfl)) trivial [0] rfl (by decide))
  ·
    refine J.no (Wan.is rfl rfl rfl rfl rfl) rfl rfl ?_
    refine J.no (Wan.is rfl rfl rfl rfl rfl) rfl rfl ?_
    refine J.no (Wan.is rfl rfl rfl rfl rfl) rfl rfl ?_
    refine J.no (Wan.un rfl rfl rfl rfl) rfl rfl ?_
    refine J.no (Wan.un rfl rfl rfl rfl) rfl rfl ?_
    refine J.no (Wan.is rfl rfl rfl rfl rfl) rfl rfl ?_
    refine J.y (op_pickF rfl rfl rfl) rfl rfl rfl ?_
    refine J.y (op_assign rfl rfl) rfl rfl rfl ?_
    refine J.nil ?_
    refine J.then_n (J.k hK3 ?_)
    refine J.keepE [(0, _), (1, _), (5, _)] ⟨rfl, rfl, rfl, trivial⟩ ?_
    refine J.condF rfl rfl ?_
    refine J.seq (fun K10 hK10 => ?_)
    refine J.region ?_
    refine J.y (op_move rfl rfl) rfl rfl rfl ?_
    refine J.y (op_seq rfl rfl rfl) rfl rfl rfl ?_
    refine J.y (op_move rfl rfl) rfl rfl rfl ?_
    refine J.split (d := 20) rfl (fun h20 => ?_) (fun h20 => ?_)
    ·
      refine J.yg (Wan.is rfl rfl rfl rfl rfl) (op_move rfl rfl) rfl rfl ?_
      refine J.eg (Wan.is rfl rfl rfl rfl rfl) (op_call rfl rfl ent155 (Ct.use0 (fun F' hF => sleaf_ct F' a))) rfl rfl ?_
      intro g22 _
      refine J.y (op_pickT rfl rfl rfl) rfl rfl rfl ?_
      refine J.y (op_assign rfl rfl) rfl rfl rfl ?_
      refine J.nil ?_
      refine J.then_n (J.k hK10 ?_)
      refine J.keepE [(0, _), (1, _), (17, _)] ⟨rfl, rfl, rfl, trivial⟩ ?_
      refine J.ite rfl (fun h17 => ?_) (fun h17 => ?_)
      ·
        refine J.seq (fun K11 hK11 => ?_)
        refine J.region ?_
        refine J.y (op_move rfl rfl) rfl rfl rfl ?_
        refine J.y (op_assign rfl rfl) rfl rfl rfl ?_
        refine J.nil ?_
        refine J.then_n (J.k hK11 ?_)
        refine J.keepE [(4, _)] ⟨rfl, trivial⟩ ?_
        refine J.ret ?_
        refine J.blk_r ?_
        refine J.then_r ?_
        exact J.done hw0 (fun _ _ h => h) (res1 rfl rfl) (retOk () (congrArg Str (by unfold Sb.join; rw [if_neg (fun h => h8 h.1), if_pos ⟨h20, h17⟩])) trivial [0] rfl (by decide))
      ·
        refine J.skip ?_
        refine J.blk_n ?_
        refine J.then_n (J.k hK2 ?_)
        refine J.keepE [(0, _), (1, _)] ⟨rfl, rfl, trivial⟩ ?_
        refine J.seq (fun K12 hK12 => ?_)
        refine J.region ?_
        refine J.y (op_move rfl rfl) rfl rfl rfl ?_
        refine J.y (op_move rfl rfl) rfl rfl rfl ?_
        refine J.e (op_buildSlice (l := [.tmp 25, .tmp 26]) (xs := [[Str (a)], [Str (b)]]) rfl rfl rfl rfl Tryd.underlying55 el9 rfl (by decide) (by decide) (by simp)) rfl rfl rfl ?_
        intro g27 _
        change J _ _ _ [F, blk g27 [Str (a), Str (b)] 9] _
        refine J.e (op_call rfl rfl ent58 (Ct.use0 (fun F' hF => tagged_ct F' (hK.mono (hF _ (by simp))) 10 (some ⟨g27, 0, none⟩) 2 2 [a, b] ((slS [a, b] rfl).mono (hF (blk g27 (([a, b] : List (List UInt8)).map fun s => Str s) 9) (by simp))) (by simp; omega) (by decide)))) rfl rfl rfl ?_
        intro g28 _
        refine J.y ((op_sadd rfl rfl rfl (by simp only [List.length_append, Sha.tagged_length]; decide))) rfl rfl rfl ?_
        refine J.y (op_assign rfl rfl) rfl rfl rfl ?_
        refine J.nil ?_
        refine J.then_n (J.k hK12 ?_)
        refine J.keepE [(4, _)] ⟨rfl, trivial⟩ ?_
        refine J.ret ?_
        exact J.done hw0 (fun _ _ h => h) (res1 rfl rfl) (retOk () (congrArg Str (by unfold Sb.join; rw [if_neg (fun h => h8 h.1), if_neg (fun h => h17 h.2)]; rfl)) trivial [0] rfl (by decide))
    ·
      refine J.no (Wan.is rfl rfl rfl rfl rfl) rfl rfl ?_
      refine J.no (Wan.is rfl rfl rfl rfl rfl) rfl rfl ?_
      refine J.y (op_pickF rfl rfl rfl) rfl rfl rfl ?_
      refine J.y (op_assign rfl rfl) rfl rfl rfl ?_
      refine J.nil ?_
      refine J.then_n (J.k hK10 ?_)
      refine J.keepE [(0, _), (1, _), (17, _)] ⟨rfl, rfl, rfl, trivial⟩ ?_
      refine J.condF rfl rfl ?_
      refine J.skip ?_
      refine J.blk_n ?_
      refine J.then_n (J.k hK2 ?_)
      refine J.keepE [(0, _), (1, _)] ⟨rfl, rfl, trivial⟩ ?_
      refine J.seq (fun K13 hK13 => ?_)
      refine J.region ?_
      refine J.y (op_move rfl rfl) rfl rfl rfl ?_
      refine J.y (op_move rfl rfl) rfl rfl rfl ?_
      refine J.e (op_buildSlice (l := [.tmp 25, .tmp 26]) (xs := [[Str (a)], [Str (b)]]) rfl rfl rfl rfl Tryd.underlying55 el9 rfl (by decide) (by decide) (by simp)) rfl rfl rfl ?_
      intro g27 _
      change J _ _ _ [F, blk g27 [Str (a), Str (b)] 9] _
      refine J.e (op_call rfl rfl ent58 (Ct.use0 (fun F' hF => tagged_ct F' (hK.mono (hF _ (by simp))) 10 (some ⟨g27, 0, none⟩) 2 2 [a, b] ((slS [a, b] rfl).mono (hF (blk g27 (([a, b] : List (List UInt8)).map fun s => Str s) 9) (by simp))) (by simp; omega) (by decide)))) rfl rfl rfl ?_
      intro g28 _
      refine J.y ((op_sadd rfl rfl rfl (by simp only [List.length_append, Sha.tagged_length]; decide))) rfl rfl rfl ?_
      refine J.y (op_assign rfl rfl) rfl rfl rfl ?_
      refine J.nil ?_
      refine J.then_n (J.k hK13 ?_)
      refine J.keepE [(4, _)] ⟨rfl, trivial⟩ ?_
      refine J.ret ?_
      exact J.done hw0 (fun _ _ h => h) (res1 rfl rfl) (retOk () (congrArg Str (by unfold Sb.join; rw [if_neg (fun h => h8 h.1), if_neg (fun h => h20 h.1)]; rfl)) trivial [0] rfl (by decide))

end Go.Proofs.YtnkfapecbmmpeaaDoor

namespace Go.Proofs.YtnkfapecbmmpeaaDoor
open Go Go.Fw
set_option maxRecDepth 100000
set_option maxHeartbeats 1000000
namespace Sm
/-! ## keys as numbers -/
def kv : List UInt8 → Nat
  | [] => 0
  | b :: r => b.toNat * 256 ^ r.length + kv r
theorem kv_lt : ∀ k : List UInt8, kv k < 256 ^ k.length
  | [] => Nat.one_pos
  | b :: r => by
    have h1 := kv_lt r
    have h2 := b.toNat_lt
    have h3 : b.toNat * 256 ^ r.length ≤ 255 * 256 ^ r.length := Nat.mul_le_mul_right _ (by omega)
    rw [kv, List.length_cons, Nat.pow_succ]
    omega
theorem kv_inj : ∀ {a b : List UInt8}, a.length = b.length → kv a = kv b → a = b
  | [], [], _, _ => rfl
  | [], _ :: _, h, _ => by simp at h
  | _ :: _, [], h, _ => by simp at h
  | x :: a, y :: b, h, e => by
    have hl : a.length = b.length := by simpa using h
    rw [kv, kv, hl] at e
    have h1 := kv_lt a
    have h2 := kv_lt b
    rw [hl] at h1
    have hp : 0 < 256 ^ b.length := Nat.pow_pos (by decide)
    have e1 : x.toNat = y.toNat := by
      have := congrArg (· / 256 ^ b.length) e
      simp only [Nat.mul_comm _ (256 ^ b.length), Nat.mul_add_div hp, Nat.div_eq_of_lt h1, Nat.div_eq_of_lt h2, Nat.add_zero] at this
      exact this
    have e2 : kv a = kv b := by rw [e1] at e; omega
    rw [UInt8.toNat_inj.1 e1, kv_inj hl e2]
theorem kv_lt_of : ∀ {a b : List UInt8}, a.length = b.length → a < b → kv a < kv b
  | [], [], _, h => absurd h (List.lt_irrefl _)
  | [], _ :: _, h, _ => by simp at h
  | _ :: _, [], h, _ => by simp at h
  | x :: a, y :: b, h, e => by
    have hl : a.length = b.length := by simpa using h
    have h1 := kv_lt a
    have h2 := kv_lt b
    rw [hl] at h1
    rw [kv, kv, hl]
    rcases List.cons_lt_cons_iff.1 e with h5 | ⟨h4, h5⟩
    · have : x.toNat + 1 ≤ y.toNat := UInt8.lt_iff_toNat_lt.1 h5
      have h3 := Nat.mul_le_mul_right (256 ^ b.length) this
      rw [Nat.add_mul] at h3
      omega
    · have := kv_lt_of hl h5; rw [h4]; omega
theorem kv_get : ∀ {k : List UInt8} {q : Nat}, q < k.length → (k.getD q 0).toNat = kv k / 256 ^ (k.length - 1 - q) % 256
  | [], _, h => by simp at h
  | b :: r, 0, _ => by
    have h1 := kv_lt r
    have hp : 0 < 256 ^ r.length := Nat.pow_pos (by decide)
    have h2 := b.toNat_lt
    rw [kv, List.length_cons, Nat.add_sub_cancel, Nat.sub_zero, Nat.mul_comm, Nat.mul_add_div hp, Nat.div_eq_of_lt h1, Nat.add_zero, Nat.mod_eq_of_lt (by omega)]
    rfl
  | b :: r, q + 1, h => by
    have h' : q < r.length := by simpa using h
    rw [List.getD_cons_succ, kv_get h', kv, List.length_cons]
    obtain ⟨m, hm⟩ : ∃ m, r.length = m + 1 + q := ⟨r.length - 1 - q, by omega⟩
    rw [show r.length + 1 - 1 - (q + 1) = m by omega, show r.length - 1 - q = m by omega, hm, show m + 1 + q = m + (q + 1) by omega, Nat.pow_add, show b.toNat * (256 ^ m * 256 ^ (q + 1)) = 256 ^ m * (b.toNat * 256 ^ q * 256) by rw [Nat.pow_succ, Nat.mul_left_comm, Nat.mul_assoc],
      Nat.mul_add_div (Nat.pow_pos (by decide)), Nat.add_mod, Nat.mul_mod_left, Nat.zero_add, Nat.mod_mod]
/-! ## bits -/
def bit (k : List UInt8) (d : Nat) : Nat := if d < 8 * k.length then (k.getD (d / 8) 0).toNat / 2 ^ (7 - d % 8) % 2 else 0
theorem bit_le (k : List UInt8) (d : Nat) : bit k d < 2 := by unfold bit; split <;> omega
theorem mod_pow_div (x j : Nat) (h : j ≤ 7) : x % 256 / 2 ^ j % 2 = x / 2 ^ j % 2 := by
  have h0 : j = 0 ∨ j = 1 ∨ j = 2 ∨ j = 3 ∨ j = 4 ∨ j = 5 ∨ j = 6 ∨ j = 7 := by omega
  rcases h0 with rfl | rfl | rfl | rfl | rfl | rfl | rfl | rfl <;> simp only [Nat.reducePow] <;> omega
theorem bit_kv {k : List UInt8} (h : k.length = 16) {d : Nat} (hd : d < 128) : bit k d = kv k / 2 ^ (127 - d) % 2 := by
  unfold bit
  rw [if_pos (by omega), kv_get (by omega), h, mod_pow_div _ _ (by omega), Nat.div_div_eq_div_mul, show (256 : Nat) = 2 ^ 8 from rfl, ← Nat.pow_mul, ← Nat.pow_add, show 8 * (16 - 1 - d / 8) + (7 - d % 8) = 127 - d by omega]
theorem pre_succ (x f : Nat) : x / 2 ^ f = 2 * (x / 2 ^ (f + 1)) + x / 2 ^ f % 2 := by
  rw [Nat.pow_succ, ← Nat.div_div_eq_div_mul]; omega
/-! ## the node above pairs -/
abbrev PR := List UInt8 × List UInt8
def side (f : Nat) (b : Bool) (l : List PR) : List PR := l.filter fun p => decide (kv p.1 / 2 ^ f % 2 = 0) == b
def nd : Nat → List PR → List UInt8
  | _, [] => [0]
  | _, [p] => Sb.leafN p.1 p.2
  | 0, _ => []
  | f + 1, l => Sb.join (nd f (side f true l)) (nd f (side f false l))
theorem nd_nil (f : Nat) : nd f [] = [0] := by cases f <;> rfl
theorem nd_one (f : Nat) (p : PR) : nd f [p] = Sb.leafN p.1 p.2 := by cases f <;> rfl
theorem nd_two (f : Nat) {l : List PR} (h : 2 ≤ l.length) : nd (f + 1) l = Sb.join (nd f (side f true l)) (nd f (side f false l)) := by
  match l, h with
  | a :: b :: r, _ => rfl
/-- keys of 16 bytes, each once, that begin alike but for the last f bits -/
def WF (f : Nat) (l : List PR) : Prop := l.Pairwise (fun p q => p.1 ≠ q.1) ∧ (∀ p ∈ l, p.1.length = 16) ∧ ∀ p ∈ l, ∀ q ∈ l, kv p.1 / 2 ^ f = kv q.1 / 2 ^ f
theorem WF.nil (f : Nat) : WF f [] := ⟨List.Pairwise.nil, by simp, by simp⟩
theorem WF.sub {f : Nat} {l l' : List PR} (h : WF f l) (hs : l'.Sublist l) : WF f l' := ⟨h.1.sublist hs, fun p hp => h.2.1 p (hs.subset hp), fun p hp q hq => h.2.2 p (hs.subset hp) q (hs.subset hq)⟩
theorem WF.side {f : Nat} {l : List PR} (h : WF (f + 1) l) (b : Bool) : WF f (side f b l) := by
  refine ⟨h.1.sublist List.filter_sublist, fun p hp => h.2.1 p (List.mem_filter.1 hp).1, fun p hp q hq => ?_⟩
  obtain ⟨h1, h2⟩ := List.mem_filter.1 hp
  obtain ⟨h3, h4⟩ := List.mem_filter.1 hq
  have h5 := h.2.2 p h1 q h3
  rw [beq_iff_eq] at h2 h4
  have e1 := pre_succ (kv p.1) f
  have e2 := pre_succ (kv q.1) f
  have e3 : kv p.1 / 2 ^ f % 2 = kv q.1 / 2 ^ f % 2 := by
    have h6 : decide (kv p.1 / 2 ^ f % 2 = 0) = decide (kv q.1 / 2 ^ f % 2 = 0) := h2.trans h4.symm
    have h7 := decide_eq_decide.1 h6
    omega
  omega
theorem WF.short {l : List PR} (h : WF 0 l) : l.length ≤ 1 := by
  match l, h with
  | [], _ => exact Nat.zero_le _
  | [_], _ => exact Nat.le_refl _
  | a :: b :: r, h =>
    exfalso
    have h1 := h.2.2 a (.head _) b (.tail _ (.head _))
    rw [Nat.pow_zero, Nat.div_one, Nat.div_one] at h1
    exact (List.pairwise_cons.1 h.1).1 b (.head _) (kv_inj ((h.2.1 a (.head _)).trans (h.2.1 b (.tail _ (.head _))).symm) h1)
theorem WF.top {l : List PR} (h1 : l.Pairwise (fun p q => p.1 ≠ q.1)) (h2 : ∀ p ∈ l, p.1.length = 16) : WF 128 l :=
  ⟨h1, h2, fun p hp q hq => by
    have e1 := kv_lt p.1
    have e2 := kv_lt q.1
    rw [h2 p hp] at e1
    rw [h2 q hq] at e2
    rw [Nat.div_eq_of_lt (Nat.lt_of_lt_of_eq e1 (by decide)), Nat.div_eq_of_lt (Nat.lt_of_lt_of_eq e2 (by decide))]⟩
theorem WF.perm {f : Nat} {l l' : List PR} (h : WF f l) (hp : l.Perm l') : WF f l' :=
  ⟨(hp.pairwise_iff (fun h => h.symm)).1 h.1, fun p q => h.2.1 p (hp.mem_iff.2 q), fun p hp1 q hq1 => h.2.2 p (hp.mem_iff.2 hp1) q (hp.mem_iff.2 hq1)⟩
theorem side_len (f : Nat) (l : List PR) : (side f true l).length + (side f false l).length = l.length := by
  induction l with
  | nil => rfl
  | cons p r ih =>
    unfold side at ih ⊢
    rw [List.filter_cons, List.filter_cons]
    rcases h : decide (kv p.1 / 2 ^ f % 2 = 0) with _ | _
    · rw [if_neg (by decide), if_pos (by decide), List.length_cons, List.length_cons]; omega
    · rw [if_pos (by decide), if_neg (by decide), List.length_cons, List.length_cons]; omega
theorem nd_perm : ∀ (f : Nat) {l l' : List PR}, WF f l → l.Perm l' → nd f l = nd f l'
  | f, [], l', _, hp => by rw [hp.nil_eq]
  | f, [p], l', _, hp => by rw [List.singleton_perm.1 hp]
  | 0, a :: b :: r, l', h, hp => by have := h.short; simp at this
  | f + 1, a :: b :: r, l', h, hp => by
    have hl := hp.length_eq
    rw [nd_two f (by simp), nd_two f (by rw [← hl]; simp), nd_perm f (h.side true) (hp.filter _), nd_perm f (h.side false) (hp.filter _)]; rfl
theorem leafN_lf (k v : List UInt8) : Sb.isLf (Sb.leafN k v) := ⟨by simp [Sb.leafN], by simp [Sb.leafN]⟩
theorem leafN_ne (k v : List UInt8) : Sb.leafN k v ≠ [0] := fun h => by
  have := (leafN_lf k v).2
  rw [h] at this; cases this
theorem join_ne {a b : List UInt8} (h : a ≠ [0] ∨ b ≠ [0]) : Sb.join a b ≠ [0] := by
  unfold Sb.join
  split
  · rename_i h1
    rcases h with h | h
    · exact absurd h1.1 h
    · exact h
  · split
    · rename_i h1
      rcases h with h | h
      · exact h
      · exact absurd h1.1 h
    · intro e; injection e with e _; cases e
theorem nd_ne : ∀ (f : Nat) {l : List PR}, WF f l → l ≠ [] → nd f l ≠ [0]
  | f, [], _, h => absurd rfl h
  | f, [p], _, _ => by rw [nd_one]; exact leafN_ne _ _
  | 0, a :: b :: r, h, _ => by have := h.short; simp at this
  | f + 1, a :: b :: r, h, _ => by
    rw [nd_two f (by simp)]
    refine join_ne ?_
    have hl := side_len f (a :: b :: r)
    simp only [List.length_cons] at hl
    by_cases h1 : side f true (a :: b :: r) = []
    · refine .inr (nd_ne f (h.side false) fun h2 => ?_)
      rw [h1, h2] at hl; simp at hl
    · exact .inl (nd_ne f (h.side true) h1)
theorem nd_eq0 {f : Nat} {l : List PR} (h : WF f l) : nd f l = [0] ↔ l = [] :=
  ⟨fun e => Decidable.by_contra fun hn => nd_ne f h hn e, fun e => by rw [e, nd_nil]⟩
theorem nd_small : ∀ (f : Nat) (l : List PR), (nd f l).length ≤ 17
  | f, [] => by rw [nd_nil]; decide
  | f, [p] => by rw [nd_one]; unfold Sb.leafN; rw [List.length_cons, Sha.tagged_length]; decide
  | 0, a :: b :: r => Nat.zero_le _
  | f + 1, a :: b :: r => by
    rw [nd_two f (by simp)]
    unfold Sb.join
    split
    · exact nd_small f _
    · split
      · exact nd_small f _
      · rw [List.length_cons, Sha.tagged_length]; decide
/-! ## rising keys -/
def Up (l : List PR) : Prop := l.Pairwise (fun p q => kv p.1 < kv q.1)
theorem Up.sub {l l' : List PR} (h : Up l) (hs : l'.Sublist l) : Up l' := h.sublist hs
theorem up_bits {f : Nat} {l : List PR} (h : WF (f + 1) l) (hu : Up l) {k : Nat} (hk : ∀ j (hj : j < l.length), j < k → kv l[j].1 / 2 ^ f % 2 = 0) (hn : ∀ (hj : k < l.length), kv l[k].1 / 2 ^ f % 2 ≠ 0) : l.take k = side f true l ∧ l.drop k = side f false l := by
  have h1 : ∀ p ∈ l.take k, kv p.1 / 2 ^ f % 2 = 0 := fun p hp => by
    obtain ⟨j, hj, rfl⟩ := List.getElem_of_mem hp
    rw [List.length_take] at hj
    rw [List.getElem_take]
    exact hk j (by omega) (by omega)
  have h2 : ∀ p ∈ l.drop k, kv p.1 / 2 ^ f % 2 ≠ 0 := fun p hp => by
    obtain ⟨j, hj, rfl⟩ := List.getElem_of_mem hp
    rw [List.length_drop] at hj
    rw [List.getElem_drop]
    have hkl : k < l.length := by omega
    have hb := hn hkl
    rcases Nat.eq_zero_or_pos j with rfl | hj0
    · exact hb
    · have hlt : kv l[k].1 < kv l[k + j].1 := List.pairwise_iff_getElem.1 hu k (k + j) hkl (by omega) (by omega)
      have e := h.2.2 _ (List.getElem_mem hkl) _ (List.getElem_mem (show k + j < l.length by omega))
      have e1 := pre_succ (kv l[k].1) f
      have e2 := pre_succ (kv l[k + j].1) f
      have e3 := Nat.div_le_div_right (c := 2 ^ f) (Nat.le_of_lt hlt)
      omega
  have h3 : side f true l = side f true (l.take k) ++ side f true (l.drop k) := by unfold side; rw [← List.filter_append, List.take_append_drop]
  have h4 : side f false l = side f false (l.take k) ++ side f false (l.drop k) := by unfold side; rw [← List.filter_append, List.take_append_drop]
  constructor
  · rw [h3, show side f true (l.take k) = l.take k from List.filter_eq_self.2 fun p hp => by rw [decide_eq_true (h1 p hp)]; rfl, show side f true (l.drop k) = [] from List.filter_eq_nil_iff.2 fun p hp => by rw [decide_eq_false (h2 p hp)]; simp, List.append_nil]
  · rw [h4, show side f false (l.take k) = [] from List.filter_eq_nil_iff.2 fun p hp => by rw [decide_eq_true (h1 p hp)]; simp, show side f false (l.drop k) = l.drop k from List.filter_eq_self.2 fun p hp => by rw [decide_eq_false (h2 p hp)]; rfl, List.nil_append]
end Sm
namespace Sm
/-! ## what a tree has, and in which order it is told -/
def putP : List PR → List UInt8 → List UInt8 → List PR
  | [], k, v => [(k, v)]
  | p :: r, k, v => if p.1 = k then (k, v) :: r else p :: putP r k v
def getP : List PR → List UInt8 → Option (List UInt8)
  | [], _ => none
  | p :: r, k => if p.1 = k then some p.2 else getP r k
def setP (l : List PR) (k v : List UInt8) : List PR := l.filter (fun p => decide (p.1 ≠ k)) ++ [(k, v)]
/-- each key once -/
def Once (l : List PR) : Prop := l.Pairwise (fun p q => p.1 ≠ q.1)
theorem Once.perm {l l' : List PR} (h : Once l) (hp : l.Perm l') : Once l' := (hp.pairwise_iff (fun h => h.symm)).1 h
theorem filter_ne {l : List PR} {k : List UInt8} (h : ∀ p ∈ l, p.1 ≠ k) : l.filter (fun p => decide (p.1 ≠ k)) = l := List.filter_eq_self.2 fun p hp => decide_eq_true (h p hp)
theorem putP_perm : ∀ {l : List PR} (k v : List UInt8), Once l → (putP l k v).Perm (setP l k v)
  | [], k, v, _ => List.Perm.refl _
  | p :: r, k, v, h => by
    obtain ⟨h1, h2⟩ := List.pairwise_cons.1 h
    unfold putP setP
    by_cases e : p.1 = k
    · rw [if_pos e, List.filter_cons, if_neg (by simp [e]), filter_ne (fun q hq e2 => h1 q hq (e.trans e2.symm))]
      exact (List.perm_append_singleton _ _).symm
    · rw [if_neg e, List.filter_cons, if_pos (by simp [e]), List.cons_append]
      exact (putP_perm k v h2).cons p
theorem setP_perm {l l' : List PR} (k v : List UInt8) (h : l.Perm l') : (setP l k v).Perm (setP l' k v) := (h.filter _).append_right _
theorem setP_once {l : List PR} (k v : List UInt8) (h : Once l) : Once (setP l k v) := by
  unfold setP Once
  rw [List.pairwise_append]
  refine ⟨h.sublist List.filter_sublist, by simp, fun p hp q hq => ?_⟩
  rw [List.mem_singleton.1 hq]
  simpa using (List.mem_filter.1 hp).2
theorem setP_mem {l : List PR} {k v : List UInt8} {p : PR} (h : p ∈ setP l k v) : p ∈ l ∨ p = (k, v) := by
  unfold setP at h
  rcases List.mem_append.1 h with h | h
  · exact .inl (List.mem_filter.1 h).1
  · exact .inr (List.mem_singleton.1 h)
theorem setP_len (l : List PR) (k v : List UInt8) : (setP l k v).length ≤ l.length + 1 := by
  unfold setP
  rw [List.length_append]
  exact Nat.add_le_add_right (List.length_filter_le _ _) 1
theorem getP_none {l : List PR} {k : List UInt8} (h : ∀ p ∈ l, p.1 ≠ k) : getP l k = none := by
  induction l with
  | nil => rfl
  | cons p r ih => rw [getP, if_neg (h p (.head _)), ih fun q hq => h q (.tail _ hq)]
theorem getP_mem {l : List PR} (h : Once l) {p : PR} (hp : p ∈ l) : getP l p.1 = some p.2 := by
  induction l with
  | nil => cases hp
  | cons q r ih =>
    obtain ⟨h1, h2⟩ := List.pairwise_cons.1 h
    rcases List.mem_cons.1 hp with rfl | hp
    · rw [getP, if_pos rfl]
    · rw [getP, if_neg (h1 p hp), ih h2 hp]
theorem getP_some {l : List PR} {k v : List UInt8} (h : getP l k = some v) : (k, v) ∈ l := by
  induction l with
  | nil => cases h
  | cons p r ih =>
    rw [getP] at h
    split at h
    · rename_i e
      injection h with h
      rw [← e, ← h]; exact .head _
    · exact .tail _ (ih h)
theorem getP_perm {l l' : List PR} (h : Once l) (hp : l.Perm l') (k : List UInt8) : getP l k = getP l' k := by
  cases e : getP l k with
  | some v => exact (getP_mem (h.perm hp) (hp.mem_iff.1 (getP_some e)) : getP l' k = some v).symm
  | none =>
    cases e' : getP l' k with
    | none => rfl
    | some v =>
      have h1 : getP l k = some v := getP_mem h (hp.mem_iff.2 (getP_some e'))
      rw [e] at h1; cases h1
theorem putP_len (l : List PR) (k v : List UInt8) : (putP l k v).length ≤ l.length + 1 := by
  induction l with
  | nil => exact Nat.le_refl _
  | cons p r ih =>
    rw [putP]
    split
    · simp
    · simp only [List.length_cons]; omega
/-! ## keys, rising -/
def srt (l : List (List UInt8)) : List (List UInt8) := l.mergeSort (fun x y => decide (x ≤ y))
theorem srt_perm (l : List (List UInt8)) : (srt l).Perm l := List.mergeSort_perm l _
theorem srt_len (l : List (List UInt8)) : (srt l).length = l.length := (srt_perm l).length_eq
theorem srt_up (l : List (List UInt8)) : (srt l).Pairwise (fun x y => x ≤ y) := by
  have h := List.pairwise_mergeSort (le := fun (x y : List UInt8) => decide (x ≤ y)) (fun a b c h1 h2 => by
    simp only [decide_eq_true_eq] at *; exact List.le_trans h1 h2) (fun a b => by
    simp only [Bool.or_eq_true, decide_eq_true_eq]; exact List.le_total a b) l
  exact h.imp fun h => by simpa using h
theorem srt_eq {l l' : List (List UInt8)} (h : l.Perm l') : srt l = srt l' :=
  List.Perm.eq_of_pairwise (fun a b _ _ h1 h2 => List.le_antisymm h1 h2) (srt_up l) (srt_up l') ((srt_perm l).trans (h.trans (srt_perm l').symm))
def keysS (l : List PR) : List (List UInt8) := srt (l.map (·.1))
theorem keysS_len (l : List PR) : (keysS l).length = l.length := by unfold keysS; rw [srt_len, List.length_map]
theorem keysS_mem {l : List PR} {k : List UInt8} : k ∈ keysS l ↔ ∃ v, (k, v) ∈ l := by
  unfold keysS
  rw [(srt_perm _).mem_iff, List.mem_map]
  exact ⟨fun ⟨p, hp, e⟩ => ⟨p.2, e ▸ hp⟩, fun ⟨v, hv⟩ => ⟨_, hv, rfl⟩⟩
/-- keys with their values -/
def prs (l : List PR) (ks : List (List UInt8)) : List PR := ks.map fun k => (k, (getP l k).getD [])
theorem prs_keys {l l' : List PR} (h : Once l) (hs : ∀ p ∈ l', p ∈ l) : prs l (l'.map (·.1)) = l' := by
  unfold prs
  rw [List.map_map]
  conv => rhs; rw [← List.map_id l']
  refine List.map_congr_left fun p hp => ?_
  show (p.1, (getP l p.1).getD []) = p
  rw [getP_mem h (hs p hp)]; rfl
theorem prs_perm {l : List PR} (h : Once l) : (prs l (keysS l)).Perm l := by
  have h1 : (prs l (keysS l)).Perm (prs l (l.map (·.1))) := (srt_perm _).map _
  rwa [prs_keys h (fun _ h => h)] at h1
theorem keysS_once {l : List PR} (h : Once l) : (keysS l).Pairwise (· ≠ ·) := ((srt_perm _).symm.pairwise_iff (fun h => h.symm)).1 (List.pairwise_map.2 h)
theorem keysS_lt {l : List PR} (h : Once l) : (keysS l).Pairwise (· < ·) := by
  have h1 := srt_up (l.map (·.1))
  exact (h1.and (keysS_once h)).imp fun ⟨h1, h2⟩ => Decidable.by_contra fun h3 => h2 (List.le_antisymm h1 (List.not_lt.1 h3))
theorem prs_up {l : List PR} (h : Once l) (hl : ∀ p ∈ l, p.1.length = 16) : Up (prs l (keysS l)) := by
  unfold Up prs
  rw [List.pairwise_map]
  refine (keysS_lt h).imp_of_mem fun ha hb hab => ?_
  obtain ⟨v, hv⟩ := keysS_mem.1 ha
  obtain ⟨u, hu⟩ := keysS_mem.1 hb
  exact kv_lt_of ((hl _ hv).trans (hl _ hu).symm) hab
theorem prs_take (l : List PR) (ks : List (List UInt8)) (k : Nat) : prs l (ks.take k) = (prs l ks).take k := by unfold prs; rw [List.map_take]
theorem prs_drop (l : List PR) (ks : List (List UInt8)) (k : Nat) : prs l (ks.drop k) = (prs l ks).drop k := by unfold prs; rw [List.map_drop]
theorem prs_filter (l : List PR) (ks : List (List UInt8)) (q : List UInt8 → Bool) : prs l (ks.filter q) = (prs l ks).filter (fun p => q p.1) := by
  unfold prs
  rw [List.filter_map]; rfl
theorem prs_len (l : List PR) (ks : List (List UInt8)) : (prs l ks).length = ks.length := by unfold prs; rw [List.length_map]
theorem prs_get (l : List PR) (ks : List (List UInt8)) {j : Nat} (h : j < (prs l ks).length) (h' : j < ks.length) : (prs l ks)[j] = (ks[j], (getP l ks[j]).getD []) := List.getElem_map ..
end Sm
namespace Sm
/-! ## beginnings -/
def belowB (k b : List UInt8) (d : Nat) : Bool := (List.range d).all fun i => decide (bit k i = bit b i)
theorem belowB_succ (k b : List UInt8) (d : Nat) : belowB k b (d + 1) = (belowB k b d && decide (bit k d = bit b d)) := by
  unfold belowB; rw [List.range_succ, List.all_append]; simp
theorem belowB_no {k b : List UInt8} {d i : Nat} (hi : i < d) (h : bit k i ≠ bit b i) : belowB k b d = false := by
  rw [Bool.eq_false_iff]
  intro h1
  exact h (of_decide_eq_true (List.all_eq_true.1 h1 i (List.mem_range.2 hi)))
theorem belowB_yes {k b : List UInt8} {d : Nat} (h : ∀ i < d, bit k i = bit b i) : belowB k b d = true := List.all_eq_true.2 fun i hi => decide_eq_true (h i (List.mem_range.1 hi))
theorem belowB_kv {k b : List UInt8} (hk : k.length = 16) (hb : b.length = 16) : ∀ {d : Nat}, d ≤ 128 → (belowB k b d = true ↔ kv k / 2 ^ (128 - d) = kv b / 2 ^ (128 - d))
  | 0, _ => by
    have h1 := kv_lt k
    have h2 := kv_lt b
    rw [hk] at h1
    rw [hb] at h2
    rw [Nat.div_eq_of_lt (Nat.lt_of_lt_of_eq h1 (by decide)), Nat.div_eq_of_lt (Nat.lt_of_lt_of_eq h2 (by decide))]
    exact ⟨fun _ => rfl, fun _ => rfl⟩
  | d + 1, hd => by
    have ih := belowB_kv hk hb (d := d) (by omega)
    have e1 := pre_succ (kv k) (127 - d)
    have e2 := pre_succ (kv b) (127 - d)
    rw [show 127 - d + 1 = 128 - d by omega] at e1 e2
    rw [belowB_succ, Bool.and_eq_true, ih, decide_eq_true_eq, bit_kv hk (by omega), bit_kv hb (by omega), show 128 - (d + 1) = 127 - d by omega]
    constructor
    · rintro ⟨h1, h2⟩; omega
    · intro h1; omega
/-- pairs whose keys begin so -/
def bel (l : List PR) (b : List UInt8) (d : Nat) : List PR := l.filter fun p => belowB p.1 b d
theorem bel_sub (l : List PR) (b : List UInt8) (d : Nat) : (bel l b d).Sublist l := List.filter_sublist
theorem bel_wf {l : List PR} (h : Once l) (hl : ∀ p ∈ l, p.1.length = 16) {b : List UInt8} (hb : b.length = 16) {d : Nat} (hd : d ≤ 128) : WF (128 - d) (bel l b d) :=
  ⟨h.sublist List.filter_sublist, fun p hp => hl p (List.mem_filter.1 hp).1, fun p hp q hq => by
    obtain ⟨h1, h2⟩ := List.mem_filter.1 hp
    obtain ⟨h3, h4⟩ := List.mem_filter.1 hq
    rw [(belowB_kv (hl p h1) hb hd).1 h2, (belowB_kv (hl q h3) hb hd).1 h4]⟩
theorem bel_zero (l : List PR) (b : List UInt8) : bel l b 0 = l := List.filter_eq_self.2 fun _ _ => rfl
theorem nd_join {f : Nat} {l : List PR} (h : WF (f + 1) l) : Sb.join (nd f (side f true l)) (nd f (side f false l)) = nd (f + 1) l := by
  match l, h with
  | [], _ => rw [show side f true [] = [] from rfl, show side f false [] = [] from rfl, nd_nil, nd_nil]; rfl
  | [p], _ =>
    have hl := leafN_lf p.1 p.2
    rcases hb : decide (kv p.1 / 2 ^ f % 2 = 0) with _ | _
    · rw [show side f true [p] = [] by unfold side; rw [List.filter_cons, if_neg (by rw [hb]; decide)]; rfl, show side f false [p] = [p] by unfold side; rw [List.filter_cons, if_pos (by rw [hb]; decide)]; rfl, nd_nil, nd_one, nd_one]
      unfold Sb.join
      rw [if_pos ⟨rfl, .inr hl⟩]
    · rw [show side f true [p] = [p] by unfold side; rw [List.filter_cons, if_pos (by rw [hb]; decide)]; rfl, show side f false [p] = [] by unfold side; rw [List.filter_cons, if_neg (by rw [hb]; decide)]; rfl, nd_nil, nd_one, nd_one]
      unfold Sb.join
      rw [if_neg (fun h => leafN_ne _ _ h.1), if_pos ⟨rfl, hl⟩]
  | a :: b :: r, _ => rfl
/-- the halves of what begins so -/
theorem bel_half {l : List PR} (hl : ∀ p ∈ l, p.1.length = 16) {b c : List UInt8} (hb : b.length = 16) (hc : c.length = 16) {d : Nat} (hd : d < 128) (t : Bool) (h : kv c / 2 ^ (127 - d) = 2 * (kv b / 2 ^ (128 - d)) + (if t = true then 0 else 1)) :
    bel l c (d + 1) = side (127 - d) t (bel l b d) := by
  unfold bel side
  rw [List.filter_filter]
  refine List.filter_congr fun p hp => ?_
  have h1 := belowB_kv (hl p hp) hc (d := d + 1) (by omega)
  have h2 := belowB_kv (hl p hp) hb (d := d) (by omega)
  have e1 := pre_succ (kv p.1) (127 - d)
  rw [show 127 - d + 1 = 128 - d by omega] at e1
  rw [show 128 - (d + 1) = 127 - d by omega, h] at h1
  rw [Bool.eq_iff_iff, h1, Bool.and_eq_true, h2, beq_iff_eq]
  cases t
  · rw [if_neg (by decide), decide_eq_false_iff_not]
    constructor
    · intro h; omega
    · rintro ⟨h3, h4⟩; omega
  · rw [if_pos rfl, decide_eq_true_eq]
    constructor
    · intro h; omega
    · rintro ⟨h3, h4⟩; omega
/-- the node above the keys with a beginning -/
def ndB (l : List PR) (b : List UInt8) (d : Nat) : List UInt8 := nd (128 - d) (bel l b d)
theorem ndB_join {l : List PR} (h : Once l) (hl : ∀ p ∈ l, p.1.length = 16) {b c e : List UInt8} (hb : b.length = 16) (hc : c.length = 16) (he : e.length = 16) {d : Nat} (hd : d < 128)
    (h0 : kv c / 2 ^ (127 - d) = 2 * (kv b / 2 ^ (128 - d))) (h1 : kv e / 2 ^ (127 - d) = 2 * (kv b / 2 ^ (128 - d)) + 1) : Sb.join (ndB l c (d + 1)) (ndB l e (d + 1)) = ndB l b d := by
  unfold ndB
  have hw := bel_wf h hl hb (d := d) (by omega)
  rw [bel_half hl hb hc hd true (by rw [if_pos rfl]; exact h0), bel_half hl hb he hd false (by rw [if_neg (by decide)]; exact h1), show 128 - d = 127 - d + 1 by omega, show 128 - (d + 1) = 127 - d by omega]
  exact nd_join (by rw [show 127 - d + 1 = 128 - d by omega]; exact hw)
theorem ndB_perm {l l' : List PR} (h : Once l) (hl : ∀ p ∈ l, p.1.length = 16) (hp : l.Perm l') {b : List UInt8} (hb : b.length = 16) {d : Nat} (hd : d ≤ 128) : ndB l b d = ndB l' b d :=
  nd_perm _ (bel_wf h hl hb hd) (hp.filter _)
theorem ndB_zero (l : List PR) (b : List UInt8) : ndB l b 0 = nd 128 l := by unfold ndB; rw [bel_zero]
theorem kv_take : ∀ {k : List UInt8} {q : Nat}, q ≤ k.length → kv (k.take q) = kv k / 256 ^ (k.length - q)
  | [], 0, _ => rfl
  | b :: r, 0, _ => by
    have h1 := kv_lt (b :: r)
    rw [List.take_zero, Nat.sub_zero, Nat.div_eq_of_lt h1]; rfl
  | b :: r, q + 1, h => by
    have h' : q ≤ r.length := by simpa using h
    have ih := kv_take h'
    rw [List.take_succ_cons, kv, kv, ih, List.length_take, Nat.min_eq_left h', List.length_cons, show r.length + 1 - (q + 1) = r.length - q by omega]
    have hp : 256 ^ r.length = 256 ^ (r.length - q) * 256 ^ q := by rw [← Nat.pow_add]; congr 1; omega
    rw [hp, show b.toNat * (256 ^ (r.length - q) * 256 ^ q) = 256 ^ (r.length - q) * (b.toNat * 256 ^ q) by rw [Nat.mul_left_comm], Nat.mul_add_div (Nat.pow_pos (by decide))]
end Sm

end Go.Proofs.YtnkfapecbmmpeaaDoor

namespace Go.Proofs.YtnkfapecbmmpeaaDoor
open Go Go.Fw
set_option maxRecDepth 100000
set_option maxHeartbeats 1000000
structure Pr where
  k : List UInt8
  v : List UInt8
  deriving DecidableEq
def Pr.cells (x : Pr) : List Value := [Str (x.k), Str (x.v)]
def noPr : Pr := ⟨[], []⟩
def prsV (l : List Pr) : List (List Value) := l.map Pr.cells
theorem prsV_get {l : List Pr} {k : Nat} (h : k < l.length) : (prsV l)[k]? = some (l.getD k noPr).cells := by
  unfold prsV
  rw [List.getElem?_map, getSome noPr h]; rfl
theorem prsV_len (l : List Pr) : (prsV l).length = l.length := by simp [prsV]
theorem prsV_app (a b : List Pr) : prsV (a ++ b) = prsV a ++ prsV b := by simp [prsV]
theorem prsV_snoc (a : List Pr) (x : Pr) : prsV (a ++ [x]) = prsV a ++ [x.cells] := by simp [prsV]
theorem one_prs (a : List Pr) : (prsV a).all (fun x => x.all Value.oneCell') = true := one_map Pr.cells (fun _ => rfl) a
theorem prsV_take (l : List Pr) (k : Nat) : (prsV l).take k = prsV (l.take k) := by simp [prsV]
theorem prsV_drop (l : List Pr) (k : Nat) : (prsV l).drop k = prsV (l.drop k) := by simp [prsV]
theorem prsV_set (l : List Pr) (k : Nat) (x : Pr) : (prsV l).set k x.cells = prsV (l.set k x) := by simp [prsV, List.map_set]

def toP (p : Pr) : Sm.PR := (p.k, p.v)
abbrev ssM (l : List Sm.PR) : MP := l.map fun p => (p.1, Str p.2)
theorem getM_ss : ∀ (l : List Sm.PR) (k : List UInt8), getM (ssM l) k = (Sm.getP l k).map Str
  | [], _ => rfl
  | p :: r, k => by
    show (if p.1 = k then some (Str p.2) else getM (ssM r) k) = _
    rw [Sm.getP]
    by_cases h : p.1 = k
    · rw [if_pos h, if_pos h]; rfl
    · rw [if_neg h, if_neg h]; exact getM_ss r k
theorem putM_ss : ∀ (l : List Sm.PR) (k v : List UInt8), putM (ssM l) k (Str v) = ssM (Sm.putP l k v)
  | [], _, _ => rfl
  | p :: r, k, v => by
    show (if p.1 = k then (k, Str v) :: ssM r else (p.1, Str p.2) :: putM (ssM r) k (Str v)) = _
    rw [Sm.putP]
    by_cases h : p.1 = k
    · rw [if_pos h, if_pos h]; rfl
    · rw [if_neg h, if_neg h, putM_ss r k v]; rfl
theorem getD_ss (o : Option (List UInt8)) : (o.map Str).getD (Str []) = Str (o.getD []) := by cases o <;> rfl
/-- a tree: its struct, and its map -/
def TreeA (m : Hp) (g : Nat) (l : List Sm.PR) : Prop := ∃ gm, Cells m ⟨g, 0, none⟩ [.map (some gm)] ∧ MapAt m gm (ssM l)
def TreeS (m : Hp) (g : Nat) (l : List Sm.PR) : Prop := ∃ gm mm, m = U [blk g [.map (some gm)] 95, mm] ∧ Dj (blk g [.map (some gm)] 95) mm ∧ MapS mm gm (ssM l)
theorem TreeA.mono {m m' : Hp} {g : Nat} {l : List Sm.PR} (h : TreeA m g l) (hl : Le m m') : TreeA m' g l := by
  obtain ⟨gm, h1, h2⟩ := h
  exact ⟨gm, h1.mono hl, h2.mono hl⟩
theorem TreeS.at {m : Hp} {g : Nat} {l : List Sm.PR} (h : TreeS m g l) : TreeA m g l := by
  obtain ⟨gm, mm, rfl, hd, h2⟩ := h
  have hdd : Djs [blk g [.map (some gm)] 95, mm] := Djs_iff.2 (by simpa using hd)
  exact ⟨gm, Cells.blk0.mono (le_U hdd (.head _)), h2.at.mono (le_U hdd (.tail _ (.head _)))⟩

end Go.Proofs.YtnkfapecbmmpeaaDoor
