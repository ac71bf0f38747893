/- A part of the proof: contracts of functions of the program, each for every state of the heaps that it names. -/
import Derived.Test.YtnkfapecbmmpeaaDoorShaX
import Derived.Test.YtnkfapecbmmpeaaDoorFwX
import Derived.Test.YtnkfapecbmmpeaaDoorFwN
set_option linter.unusedSimpArgs false
set_option linter.unusedVariables false
namespace Go.Proofs.YtnkfapecbmmpeaaDoor
open Go Go.Fw
set_option maxRecDepth 100000
set_option maxHeartbeats 1000000
theorem ent155 : Enters Tryd.prog 155 := Enters.of Tryd.func155 rfl (by kernel_rfl)

namespace Sb
def isLf (s : List UInt8) : Prop := s ≠ [] ∧ s.take 1 = [1]
instance (s : List UInt8) : Decidable (isLf s) := by unfold isLf; infer_instance
def join (a b : List UInt8) : List UInt8 := if a = [0] ∧ (b = [0] ∨ isLf b) then b else if b = [0] ∧ isLf a then a else 2 :: Sha.tagged 10 [a, b]
def leafN (k v : List UInt8) : List UInt8 := 1 :: Sha.tagged 9 [k, v]
def lvl (l : List (List UInt8)) : List (List UInt8) := (List.range (l.length / 2)).map fun k => join (l.getD (2 * k) []) (l.getD (2 * k + 1) [])
def lvls (l : List (List UInt8)) : Nat → List (List UInt8)
  | 0 => l
  | j + 1 => lvl (lvls l j)
def root (l : List (List UInt8)) (d : Nat) : List UInt8 := (lvls l d).getD 0 []
theorem lvl_length (l : List (List UInt8)) : (lvl l).length = l.length / 2 := by simp [lvl]
theorem lvls_zero (l : List (List UInt8)) : lvls l 0 = l := rfl
theorem lvls_succ (l : List (List UInt8)) (j : Nat) : lvls l (j + 1) = lvl (lvls l j) := rfl
theorem lvls_length {l : List (List UInt8)} {d : Nat} (h : l.length = 2 ^ d) : ∀ j, j ≤ d → (lvls l j).length = 2 ^ (d - j)
  | 0, _ => h
  | j + 1, hj => by
    rw [lvls_succ, lvl_length, lvls_length h j (by omega), show d - j = (d - (j + 1)) + 1 by omega, Nat.pow_succ, Nat.mul_div_cancel _ (by decide)]
theorem join_small {a b : List UInt8} (ha : a.length ≤ 1048576) (hb : b.length ≤ 1048576) : (join a b).length ≤ 1048576 := by
  unfold join
  split
  · exact hb
  · split
    · exact ha
    · rw [List.length_cons, Sha.tagged_length]; decide
theorem getD_small {l : List (List UInt8)} (h : ∀ s ∈ l, s.length ≤ 1048576) (k : Nat) : (l.getD k []).length ≤ 1048576 := by
  by_cases hk : k < l.length
  · rw [List.getD_eq_getElem?_getD, List.getElem?_eq_getElem hk]; exact h _ (List.getElem_mem _)
  · rw [List.getD_eq_getElem?_getD, List.getElem?_eq_none (by omega)]; decide
theorem lvls_small {l : List (List UInt8)} (h : ∀ s ∈ l, s.length ≤ 1048576) : ∀ j, ∀ s ∈ lvls l j, s.length ≤ 1048576
  | 0 => h
  | j + 1 => fun s hs => by
    rw [lvls_succ] at hs
    unfold lvl at hs
    obtain ⟨k, _, rfl⟩ := List.mem_map.1 hs
    exact join_small (getD_small (lvls_small h j) _) (getD_small (lvls_small h j) _)
theorem lvl_take {l : List (List UInt8)} {k : Nat} (h : k < l.length / 2) : (lvl l).take (k + 1) = (lvl l).take k ++ [join (l.getD (2 * k) []) (l.getD (2 * k + 1) [])] := by
  rw [List.take_succ_eq_append_getElem (by rw [lvl_length]; exact h)]
  simp [lvl]
end Sb
def cnt (d : Int) : Nat := if d < 0 ∨ 4 < d then 0 else 2 ^ d.toNat
theorem cnt_zero {d : Int} : cnt d = 0 ↔ (d < 0 ∨ 4 < d) := by
  unfold cnt
  split
  · exact ⟨fun _ => by assumption, fun _ => rfl⟩
  · rename_i h
    exact ⟨fun e => absurd e (Nat.ne_of_gt (Nat.two_pow_pos _)), fun e => absurd e h⟩
theorem cnt_le (d : Int) : cnt d ≤ 16 := by
  unfold cnt
  split
  · omega
  · exact Nat.le_trans (Nat.pow_le_pow_right (by decide) (show d.toNat ≤ 4 by omega)) (by decide)
theorem cnt_pow {d : Int} (h : cnt d ≠ 0) : cnt d = 2 ^ d.toNat := by
  unfold cnt at h ⊢
  split
  · rename_i h1; rw [if_pos h1] at h; exact absurd rfl h
  · rfl
def brErr (l : List (List UInt8)) (d : Int) : Int := if cnt d = 0 then 1 else if l.length ≠ cnt d then 22 else 0
def brVal (l : List (List UInt8)) (d : Int) : List UInt8 := if brErr l d = 0 then Sb.root l d.toNat else []
theorem op_slice3L {P : Program} {env : Env} {rs : List Hp} {o : Oper} {t e x p q r sz A n' c l h m} (ho : o.op = .slice t x (some p) (some q) (some r)) (hx : ev env x = some (.slice A n' c)) (hu : P.underlying t = some (.slice e)) (hz : ∀ w, (sizeOf e).run P w = .ok sz w)
    (hlo : ev env p = some (I ((l : Nat) : Int))) (hhi : ev env q = some (I ((h : Nat) : Int))) (hmx : ev env r = some (I ((m : Nat) : Int))) (hr : l ≤ h ∧ h ≤ m ∧ m ≤ c) : YOp P env rs o (.slice (if m = l then A else A.map (·.add (l * sz))) (h - l) (m - l)) := fun n a w hk _ => by
  simp [execOp, ho, hk.ev hx, hk.ev hlo, hk.ev hhi, hk.ev hmx, Instr.sliceAt, Instr.slice, run_underlying hu, Instr.sliceBounds, Instr.sliceBound, asIntOf, hr.1, hr.2.1, hr.2.2, hz]

attribute [local irreducible] Sha.tagged Sb.join Sb.lvl Sb.lvls Sb.root

theorem sleaf_ct (F : Hp) (s : List UInt8) : Ct Tryd.prog 155 [Str s] [F] (fun _ : Unit => .bool (decide (Sb.isLf s))) (fun _ => True) (fun _ => [F]) := by
  refine Ct.walk Tryd.func155 rfl Tryd.ntmps155 rfl (fun w0 hw0 => ?_)
  change J _ [(0, _)] _ _ _
  refine J.seq (fun K1 hK1 => ?_)
  refine J.region ?_
  refine J.y (op_assign rfl rfl) rfl rfl rfl ?_
  refine J.nil ?_
  refine J.then_n (J.k hK1 ?_)
  refine J.keepE [(0, _)] ⟨rfl, trivial⟩ ?_
  refine J.seq (fun K2 hK2 => ?_)
  refine J.region ?_
  refine J.y (op_move rfl rfl) rfl rfl rfl ?_
  refine J.y (op_sne rfl rfl rfl) rfl rfl rfl ?_
  refine J.y (op_move rfl rfl) rfl rfl rfl ?_
  refine J.split (d := 5) rfl (fun h5 => ?_) (fun h5 => ?_)
  ·
    refine J.yg (Wan.is rfl rfl rfl rfl rfl) (op_move rfl rfl) rfl rfl ?_
    refine J.yg (Wan.is rfl rfl rfl rfl rfl) ((op_sslice (l := 0) (h := 1) Tryd.underlying9 rfl rfl rfl rfl ⟨by omega, by have : s.length ≠ 0 := fun e => h5 (List.eq_nil_of_length_eq_zero e); omega⟩).as (congrArg Str List.drop_zero)) rfl rfl ?_
    refine J.yg (Wan.is rfl rfl rfl rfl rfl) (op_seq rfl rfl rfl) rfl rfl ?_
    refine J.y (op_pickT rfl rfl rfl) rfl rfl rfl ?_
    refine J.y (op_assign rfl rfl) rfl rfl rfl ?_
    refine J.nil ?_
    refine J.then_n (J.k hK2 ?_)
    refine J.keepE [(2, _)] ⟨rfl, trivial⟩ ?_
    refine J.ret ?_
    exact J.done hw0 (fun _ _ h => h) (res1 rfl rfl) (retOk () (congrArg Value.bool (decide_eq_decide.2 ⟨fun h => ⟨h5, h⟩, fun h => h.2⟩)) trivial [0] rfl (by decide))
  ·
    refine J.no (Wan.is rfl rfl rfl rfl rfl) rfl rfl ?_
    refine J.no (Wan.is rfl rfl rfl rfl rfl) rfl rfl ?_
    refine J.no (Wan.is rfl rfl rfl rfl rfl) rfl rfl ?_
    refine J.y (op_pickF rfl rfl rfl) rfl rfl rfl ?_
    refine J.y (op_assign rfl rfl) rfl rfl rfl ?_
    refine J.nil ?_
    refine J.then_n (J.k hK2 ?_)
    refine J.keepE [(2, _)] ⟨rfl, trivial⟩ ?_
    refine J.ret ?_
    exact J.done hw0 (fun _ _ h => h) (res1 rfl rfl) (retOk () (congrArg Value.bool (decide_eq_false (fun h => h5 h.1)).symm) trivial [0] rfl (by decide))

theorem sLeaf_ct (F : Hp) (hK : Cells F ⟨1, 0, none⟩ (Sha.K.map W32)) (k v : List UInt8) (hk : k.length ≤ 1048576) (hv : v.length ≤ 1048576) : Ct Tryd.prog 70 [Str k, Str v] [F] (fun _ : Unit => Str (Sb.leafN k v)) (fun _ => True) (fun _ => [F]) := by
  refine Ct.walk Tryd.func70 rfl Tryd.ntmps70 rfl (fun w0 hw0 => ?_)
  change J _ [(0, _), (1, _)] _ _ _
  refine J.seq (fun K1 hK1 => ?_)
  refine J.region ?_
  refine J.y (op_assign rfl rfl) rfl rfl rfl ?_
  refine J.nil ?_
  refine J.then_n (J.k hK1 ?_)
  refine J.keepE [(0, _), (1, _)] ⟨rfl, rfl, trivial⟩ ?_
  refine J.seq (fun K2 hK2 => ?_)
  refine J.region ?_
  refine J.y (op_move rfl rfl) rfl rfl rfl ?_
  refine J.y (op_move rfl rfl) rfl rfl rfl ?_
  refine J.e (op_buildSlice (l := [.tmp 5, .tmp 6]) (xs := [[Str (k)], [Str (v)]]) rfl rfl rfl rfl Tryd.underlying55 el9 rfl (by decide) (by decide) (by simp)) rfl rfl rfl ?_
  intro g7 _
  change J _ _ _ [F, blk g7 [Str (k), Str (v)] 9] _
  refine J.e (op_call rfl rfl ent58 (Ct.use0 (fun F' hF => tagged_ct F' (hK.mono (hF _ (by simp))) 9 (some ⟨g7, 0, none⟩) 2 2 [k, v] ((slS [k, v] rfl).mono (hF (blk g7 (([k, v] : List (List UInt8)).map fun s => Str s) 9) (by simp))) (by simp; omega) (by decide)))) rfl rfl rfl ?_
  intro g8 _
  refine J.y ((op_sadd rfl rfl rfl (by simp only [List.length_append, Sha.tagged_length]; decide))) rfl rfl rfl ?_
  refine J.y (op_assign rfl rfl) rfl rfl rfl ?_
  refine J.nil ?_
  refine J.then_n (J.k hK2 ?_)
  refine J.keepE [(4, _)] ⟨rfl, trivial⟩ ?_
  refine J.ret ?_
  exact J.done hw0 (fun _ _ h => h) (res1 rfl rfl) (retOk () rfl trivial [0] rfl (by decide))

theorem sjoin_ct (F : Hp) (hK : Cells F ⟨1, 0, none⟩ (Sha.K.map W32)) (a b : List UInt8) (ha : a.length ≤ 1048576) (hb : b.length ≤ 1048576) : Ct Tryd.prog 114 [Str a, Str b] [F] (fun _ : Unit => Str (Sb.join a b)) (fun _ => True) (fun _ => [F]) := by
  refine Ct.walk Tryd.func114 rfl Tryd.ntmps114 rfl (fun w0 hw0 => ?_)
  change J _ [(0, _), (1, _)] _ _ _
  refine J.seq (fun K1 hK1 => ?_)
  refine J.region ?_
  refine J.y (op_assign rfl rfl) rfl rfl rfl ?_
  refine J.nil ?_
  refine J.then_n (J.k hK1 ?_)
  refine J.keepE [(0, _), (1, _)] ⟨rfl, rfl, trivial⟩ ?_
  refine J.seq (fun K2 hK2 => ?_)
  refine J.block ?_
  refine J.seq (fun K3 hK3 => ?_)
  refine J.region ?_
  refine J.y (op_move rfl rfl) rfl rfl rfl ?_
  refine J.y (op_seq rfl rfl rfl) rfl rfl rfl ?_
  refine J.y (op_move rfl rfl) rfl rfl rfl ?_
  refine J.split (d := 8) rfl (fun h8 => ?_) (fun h8 => ?_)
  ·
    refine J.yg (Wan.is rfl rfl rfl rfl rfl) (op_move rfl rfl) rfl rfl ?_
    refine J.yg (Wan.is rfl rfl rfl rfl rfl) (op_seq rfl rfl rfl) rfl rfl ?_
    refine J.yg (Wan.is rfl rfl rfl rfl rfl) (op_move rfl rfl) rfl rfl ?_
    refine J.split (d := 11) rfl (fun h11 => ?_) (fun h11 => ?_)
    ·
      refine J.no (Wan.is rfl rfl rfl rfl rfl) rfl rfl ?_
      refine J.no (Wan.is rfl rfl rfl rfl rfl) rfl rfl ?_
      refine J.yg (Wan.is rfl rfl rfl rfl rfl) (op_pickT rfl rfl rfl) rfl rfl ?_
      refine J.y (op_pickT rfl rfl rfl) rfl rfl rfl ?_
      refine J.y (op_assign rfl rfl) rfl rfl rfl ?_
      refine J.nil ?_
      refine J.then_n (J.k hK3 ?_)
      refine J.keepE [(0, _), (1, _), (5, _)] ⟨rfl, rfl, rfl, trivial⟩ ?_
      refine J.condT rfl rfl ?_
      refine J.seq (fun K4 hK4 => ?_)
      refine J.region ?_
      refine J.y (op_move rfl rfl) rfl rfl rfl ?_
      refine J.y (op_assign rfl rfl) rfl rfl rfl ?_
      refine J.nil ?_
      refine J.then_n (J.k hK4 ?_)
      refine J.keepE [(4, _)] ⟨rfl, trivial⟩ ?_
      refine J.ret ?_
      refine J.blk_r ?_
      refine J.then_r ?_
      exact J.done hw0 (fun _ _ h => h) (res1 rfl rfl) (retOk () (congrArg Str (by unfold Sb.join; rw [if_pos ⟨h8, .inl h11⟩])) trivial [0] rfl (by decide))
    ·
      refine J.yg (Wan.is rfl rfl rfl rfl rfl) (op_move rfl rfl) rfl rfl ?_
      refine J.eg (Wan.is rfl rfl rfl rfl rfl) (op_call rfl rfl ent155 (Ct.use0 (fun F' hF => sleaf_ct F' b))) rfl rfl ?_
      intro g13 _
      refine J.yg (Wan.is rfl rfl rfl rfl rfl) (op_pickF rfl rfl rfl) rfl rfl ?_
      refine J.y (op_pickT rfl rfl rfl) rfl rfl rfl ?_
      refine J.y (op_assign rfl rfl) rfl rfl rfl ?_
      refine J.nil ?_
      refine J.then_n (J.k hK3 ?_)
      refine J.keepE [(0, _), (1, _), (5, _)] ⟨rfl, rfl, rfl, trivial⟩ ?_
      refine J.ite rfl (fun h5 => ?_) (fun h5 => ?_)
      ·
        refine J.seq (fun K5 hK5 => ?_)
        refine J.region ?_
        refine J.y (op_move rfl rfl) rfl rfl rfl ?_
        refine J.y (op_assign rfl rfl) rfl rfl rfl ?_
        refine J.nil ?_
        refine J.then_n (J.k hK5 ?_)
        refine J.keepE [(4, _)] ⟨rfl, trivial⟩ ?_
        refine J.ret ?_
        refine J.blk_r ?_
        refine J.then_r ?_
        exact J.done hw0 (fun _ _ h => h) (res1 rfl rfl) (retOk () (congrArg Str (by unfold Sb.join; rw [if_pos ⟨h8, .inr h5⟩])) trivial [0] rfl (by decide))
      ·
        refine J.seq (fun K6 hK6 => ?_)
        refine J.region ?_
        refine J.y (op_move rfl rfl) rfl rfl rfl ?_
        refine J.y (op_seq rfl rfl rfl) rfl rfl rfl ?_
        refine J.y (op_move rfl rfl) rfl rfl rfl ?_
        refine J.split (d := 20) rfl (fun h20 => ?_) (fun h20 => ?_)
        ·
          refine J.yg (Wan.is rfl rfl rfl rfl rfl) (op_move rfl rfl) rfl rfl ?_
          refine J.eg (Wan.is rfl rfl rfl rfl rfl) (op_call rfl rfl ent155 (Ct.use0 (fun F' hF => sleaf_ct F' a))) rfl rfl ?_
          intro g22 _
          refine J.y (op_pickT rfl rfl rfl) rfl rfl rfl ?_
          refine J.y (op_assign rfl rfl) rfl rfl rfl ?_
          refine J.nil ?_
          refine J.then_n (J.k hK6 ?_)
          refine J.keepE [(0, _), (1, _), (17, _)] ⟨rfl, rfl, rfl, trivial⟩ ?_
          refine J.ite rfl (fun h17 => ?_) (fun h17 => ?_)
          ·
            refine J.seq (fun K7 hK7 => ?_)
            refine J.region ?_
            refine J.y (op_move rfl rfl) rfl rfl rfl ?_
            refine J.y (op_assign rfl rfl) rfl rfl rfl ?_
            refine J.nil ?_
            refine J.then_n (J.k hK7 ?_)
            refine J.keepE [(4, _)] ⟨rfl, trivial⟩ ?_
            refine J.ret ?_
            refine J.blk_r ?_
            refine J.then_r ?_
            exact J.done hw0 (fun _ _ h => h) (res1 rfl rfl) (retOk () (absurd h20 h11) trivial [0] rfl (by decide))
          ·
            refine J.skip ?_
            refine J.blk_n ?_
            refine J.then_n (J.k hK2 ?_)
            refine J.keepE [(0, _), (1, _)] ⟨rfl, rfl, trivial⟩ ?_
            refine J.seq (fun K8 hK8 => ?_)
            refine J.region ?_
            refine J.y (op_move rfl rfl) rfl rfl rfl ?_
            refine J.y (op_move rfl rfl) rfl rfl rfl ?_
            refine J.e (op_buildSlice (l := [.tmp 25, .tmp 26]) (xs := [[Str (a)], [Str (b)]]) rfl rfl rfl rfl Tryd.underlying55 el9 rfl (by decide) (by decide) (by simp)) rfl rfl rfl ?_
            intro g27 _
            change J _ _ _ [F, blk g27 [Str (a), Str (b)] 9] _
            refine J.e (op_call rfl rfl ent58 (Ct.use0 (fun F' hF => tagged_ct F' (hK.mono (hF _ (by simp))) 10 (some ⟨g27, 0, none⟩) 2 2 [a, b] ((slS [a, b] rfl).mono (hF (blk g27 (([a, b] : List (List UInt8)).map fun s => Str s) 9) (by simp))) (by simp; omega) (by decide)))) rfl rfl rfl ?_
            intro g28 _
            refine J.y ((op_sadd rfl rfl rfl (by simp only [List.length_append, Sha.tagged_length]; decide))) rfl rfl rfl ?_
            refine J.y (op_assign rfl rfl) rfl rfl rfl ?_
            refine J.nil ?_
            refine J.then_n (J.k hK8 ?_)
            refine J.keepE [(4, _)] ⟨rfl, trivial⟩ ?_
            refine J.ret ?_
            exact J.done hw0 (fun _ _ h => h) (res1 rfl rfl) (retOk () (absurd h20 h11) trivial [0] rfl (by decide))
        ·
          refine J.no (Wan.is rfl rfl rfl rfl rfl) rfl rfl ?_
          refine J.no (Wan.is rfl rfl rfl rfl rfl) rfl rfl ?_
          refine J.y (op_pickF rfl rfl rfl) rfl rfl rfl ?_
          refine J.y (op_assign rfl rfl) rfl rfl rfl ?_
          refine J.nil ?_
          refine J.then_n (J.k hK6 ?_)
          refine J.keepE [(0, _), (1, _), (17, _)] ⟨rfl, rfl, rfl, trivial⟩ ?_
          refine J.condF rfl rfl ?_
          refine J.skip ?_
          refine J.blk_n ?_
          refine J.then_n (J.k hK2 ?_)
          refine J.keepE [(0, _), (1, _)] ⟨rfl, rfl, trivial⟩ ?_
          refine J.seq (fun K9 hK9 => ?_)
          refine J.region ?_
          refine J.y (op_move rfl rfl) rfl rfl rfl ?_
          refine J.y (op_move rfl rfl) rfl rfl rfl ?_
          refine J.e (op_buildSlice (l := [.tmp 25, .tmp 26]) (xs := [[Str (a)], [Str (b)]]) rfl rfl rfl rfl Tryd.underlying55 el9 rfl (by decide) (by decide) (by simp)) rfl rfl rfl ?_
          intro g27 _
          change J _ _ _ [F, blk g27 [Str (a), Str (b)] 9] _
          refine J.e (op_call rfl rfl ent58 (Ct.use0 (fun F' hF => tagged_ct F' (hK.mono (hF _ (by simp))) 10 (some ⟨g27, 0, none⟩) 2 2 [a, b] ((slS [a, b] rfl).mono (hF (blk g27 (([a, b] : List (List UInt8)).map fun s => Str s) 9) (by simp))) (by simp; omega) (by decide)))) rfl rfl rfl ?_
          intro g28 _
          refine J.y ((op_sadd rfl rfl rfl (by simp only [List.length_append, Sha.tagged_length]; decide))) rfl rfl rfl ?_
          refine J.y (op_assign rfl rfl) rfl rfl rfl ?_
          refine J.nil ?_
          refine J.then_n (J.k hK9 ?_)
          refine J.keepE [(4, _)] ⟨rfl, trivial⟩ ?_
          refine J.ret ?_
          exact J.done hw0 (fun _ _ h => h) (res1 rfl rfl) (retOk () (congrArg Str (by unfold Sb.join; rw [if_neg (fun h => h.2.elim h11 h5), if_neg (fun h => h20 h.1)]; rfl)) trivial [0] rfl (by decide))
  ·
    refine J.no (Wan.is rfl rfl rfl rfl rfl) rfl rfl ?_
    refine J.no (Wan.is rfl rfl rfl rfl rfl) rfl rfl ?_
    refine J.no (Wan.is rfl rfl rfl rfl rfl) rfl rfl ?_
    refine J.no (Wan.un rfl rfl rfl rfl) rfl rfl ?_
    refine J.no (Wan.un rfl rfl rfl rfl) rfl rfl ?_
    refine J.no (Wan.is rfl rfl rfl rfl rfl) rfl rfl ?_
    refine J.y (op_pickF rfl rfl rfl) rfl rfl rfl ?_
    refine J.y (op_assign rfl rfl) rfl rfl rfl ?_
    refine J.nil ?_
    refine J.then_n (J.k hK3 ?_)
    refine J.keepE [(0, _), (1, _), (5, _)] ⟨rfl, rfl, rfl, trivial⟩ ?_
    refine J.condF rfl rfl ?_
    refine J.seq (fun K10 hK10 => ?_)
    refine J.region ?_
    refine J.y (op_move rfl rfl) rfl rfl rfl ?_
    refine J.y (op_seq rfl rfl rfl) rfl rfl rfl ?_
    refine J.y (op_move rfl rfl) rfl rfl rfl ?_
    refine J.split (d := 20) rfl (fun h20 => ?_) (fun h20 => ?_)
    ·
      refine J.yg (Wan.is rfl rfl rfl rfl rfl) (op_move rfl rfl) rfl rfl ?_
      refine J.eg (Wan.is rfl rfl rfl rfl rfl) (op_call rfl rfl ent155 (Ct.use0 (fun F' hF => sleaf_ct F' a))) rfl rfl ?_
      intro g22 _
      refine J.y (op_pickT rfl rfl rfl) rfl rfl rfl ?_
      refine J.y (op_assign rfl rfl) rfl rfl rfl ?_
      refine J.nil ?_
      refine J.then_n (J.k hK10 ?_)
      refine J.keepE [(0, _), (1, _), (17, _)] ⟨rfl, rfl, rfl, trivial⟩ ?_
      refine J.ite rfl (fun h17 => ?_) (fun h17 => ?_)
      ·
        refine J.seq (fun K11 hK11 => ?_)
        refine J.region ?_
        refine J.y (op_move rfl rfl) rfl rfl rfl ?_
        refine J.y (op_assign rfl rfl) rfl rfl rfl ?_
        refine J.nil ?_
        refine J.then_n (J.k hK11 ?_)
        refine J.keepE [(4, _)] ⟨rfl, trivial⟩ ?_
        refine J.ret ?_
        refine J.blk_r ?_
        refine J.then_r ?_
        exact J.done hw0 (fun _ _ h => h) (res1 rfl rfl) (retOk () (congrArg Str (by unfold Sb.join; rw [if_neg (fun h => h8 h.1), if_pos ⟨h20, h17⟩])) trivial [0] rfl (by decide))
      ·
        refine J.skip ?_
        refine J.blk_n ?_
        refine J.then_n (J.k hK2 ?_)
        refine J.keepE [(0, _), (1, _)] ⟨rfl, rfl, trivial⟩ ?_
        refine J.seq (fun K12 hK12 => ?_)
        refine J.region ?_
        refine J.y (op_move rfl rfl) rfl rfl rfl ?_
        refine J.y (op_move rfl rfl) rfl rfl rfl ?_
        refine J.e (op_buildSlice (l := [.tmp 25, .tmp 26]) (xs := [[Str (a)], [Str (b)]]) rfl rfl rfl rfl Tryd.underlying55 el9 rfl (by decide) (by decide) (by simp)) rfl rfl rfl ?_
        intro g27 _
        change J _ _ _ [F, blk g27 [Str (a), Str (b)] 9] _
        refine J.e (op_call rfl rfl ent58 (Ct.use0 (fun F' hF => tagged_ct F' (hK.mono (hF _ (by simp))) 10 (some ⟨g27, 0, none⟩) 2 2 [a, b] ((slS [a, b] rfl).mono (hF (blk g27 (([a, b] : List (List UInt8)).map fun s => Str s) 9) (by simp))) (by simp; omega) (by decide)))) rfl rfl rfl ?_
        intro g28 _
        refine J.y ((op_sadd rfl rfl rfl (by simp only [List.length_append, Sha.tagged_length]; decide))) rfl rfl rfl ?_
        refine J.y (op_assign rfl rfl) rfl rfl rfl ?_
        refine J.nil ?_
        refine J.then_n (J.k hK12 ?_)
        refine J.keepE [(4, _)] ⟨rfl, trivial⟩ ?_
        refine J.ret ?_
        exact J.done hw0 (fun _ _ h => h) (res1 rfl rfl) (retOk () (congrArg Str (by unfold Sb.join; rw [if_neg (fun h => h8 h.1), if_neg (fun h => h17 h.2)]; rfl)) trivial [0] rfl (by decide))
    ·
      refine J.no (Wan.is rfl rfl rfl rfl rfl) rfl rfl ?_
      refine J.no (Wan.is rfl rfl rfl rfl rfl) rfl rfl ?_
      refine J.y (op_pickF rfl rfl rfl) rfl rfl rfl ?_
      refine J.y (op_assign rfl rfl) rfl rfl rfl ?_
      refine J.nil ?_
      refine J.then_n (J.k hK10 ?_)
      refine J.keepE [(0, _), (1, _), (17, _)] ⟨rfl, rfl, rfl, trivial⟩ ?_
      refine J.condF rfl rfl ?_
      refine J.skip ?_
      refine J.blk_n ?_
      refine J.then_n (J.k hK2 ?_)
      refine J.keepE [(0, _), (1, _)] ⟨rfl, rfl, trivial⟩ ?_
      refine J.seq (fun K13 hK13 => ?_)
      refine J.region ?_
      refine J.y (op_move rfl rfl) rfl rfl rfl ?_
      refine J.y (op_move rfl rfl) rfl rfl rfl ?_
      refine J.e (op_buildSlice (l := [.tmp 25, .tmp 26]) (xs := [[Str (a)], [Str (b)]]) rfl rfl rfl rfl Tryd.underlying55 el9 rfl (by decide) (by decide) (by simp)) rfl rfl rfl ?_
      intro g27 _
      change J _ _ _ [F, blk g27 [Str (a), Str (b)] 9] _
      refine J.e (op_call rfl rfl ent58 (Ct.use0 (fun F' hF => tagged_ct F' (hK.mono (hF _ (by simp))) 10 (some ⟨g27, 0, none⟩) 2 2 [a, b] ((slS [a, b] rfl).mono (hF (blk g27 (([a, b] : List (List UInt8)).map fun s => Str s) 9) (by simp))) (by simp; omega) (by decide)))) rfl rfl rfl ?_
      intro g28 _
      refine J.y ((op_sadd rfl rfl rfl (by simp only [List.length_append, Sha.tagged_length]; decide))) rfl rfl rfl ?_
      refine J.y (op_assign rfl rfl) rfl rfl rfl ?_
      refine J.nil ?_
      refine J.then_n (J.k hK13 ?_)
      refine J.keepE [(4, _)] ⟨rfl, trivial⟩ ?_
      refine J.ret ?_
      exact J.done hw0 (fun _ _ h => h) (res1 rfl rfl) (retOk () (congrArg Str (by unfold Sb.join; rw [if_neg (fun h => h8 h.1), if_neg (fun h => h20 h.1)]; rfl)) trivial [0] rfl (by decide))

end Go.Proofs.YtnkfapecbmmpeaaDoor
