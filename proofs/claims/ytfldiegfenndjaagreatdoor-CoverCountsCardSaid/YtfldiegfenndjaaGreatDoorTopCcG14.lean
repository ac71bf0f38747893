/- A part of the proof. -/
import Derived.Test.YtfldiegfenndjaaGreatDoorTopCcG8
import Derived.Test.YtfldiegfenndjaaGreatDoorTopCcG11
import Derived.Test.YtfldiegfenndjaaGreatDoorTopCcG6
import Derived.Test.YtfldiegfenndjaaGreatDoorTopCcG13
set_option linter.unusedSimpArgs false
set_option linter.unusedVariables false
namespace Go.Proofs.YtfldiegfenndjaaGreatDoor
open Go Go.Fw Go.Proofs.Tryz
set_option maxRecDepth 100000
set_option maxHeartbeats 1000000
namespace Sb
def isLf (s : List UInt8) : Prop := s ≠ [] ∧ s.take 1 = [1]
instance (s : List UInt8) : Decidable (isLf s) := by unfold isLf; infer_instance
def join (a b : List UInt8) : List UInt8 := if a = [0] ∧ (b = [0] ∨ isLf b) then b else if b = [0] ∧ isLf a then a else 2 :: Sha.tagged 10 [a, b]
def leafN (k v : List UInt8) : List UInt8 := 1 :: Sha.tagged 9 [k, v]
def lvl (l : List (List UInt8)) : List (List UInt8) := (List.range (l.length / 2)).map fun k => join (l.getD (2 * k) []) (l.getD (2 * k + 1) [])
def lvls (l : List (List UInt8)) : Nat → List (List UInt8)
 | 0 => l
 | j + 1 => lvl (lvls l j)
def root (l : List (List UInt8)) (d : Nat) : List UInt8 := (lvls l d).getD 0 []
theorem lvl_length (l : List (List UInt8)) : (lvl l).length = l.length / 2 := by simp [lvl]
theorem lvls_zero (l : List (List UInt8)) : lvls l 0 = l := rfl
theorem lvls_succ (l : List (List UInt8)) (j : Nat) : lvls l (j + 1) = lvl (lvls l j) := rfl
theorem lvls_length {l : List (List UInt8)} {d : Nat} (h : l.length = 2 ^ d) : ∀ j, j ≤ d → (lvls l j).length = 2 ^ (d - j)
 | 0, _ => h
 | j + 1, hj => by
  rw [lvls_succ, lvl_length, lvls_length h j (by omega), show d - j = (d - (j + 1)) + 1 by omega, Nat.pow_succ, Nat.mul_div_cancel _ (by decide)]
theorem qLf {a b : List UInt8} (ha : a.length ≤ 1048576) (hb : b.length ≤ 1048576) : (join a b).length ≤ 1048576 := by
  unfold join
  split
  · exact hb
  · split
    · exact ha
    · rw [List.length_cons, Sha.tagged_length]; decide
theorem getD_small {l : List (List UInt8)} (h : ∀ s ∈ l, s.length ≤ 1048576) (k : Nat) : (l.getD k []).length ≤ 1048576 := by
 by_cases hk : k < l.length
 · rw [List.getD_eq_getElem?_getD, List.getElem?_eq_getElem hk]; exact h _ (List.getElem_mem _)
 · rw [List.getD_eq_getElem?_getD, List.getElem?_eq_none (by omega)]; decide
theorem lvls_small {l : List (List UInt8)} (h : ∀ s ∈ l, s.length ≤ 1048576) : ∀ j, ∀ s ∈ lvls l j, s.length ≤ 1048576
 | 0 => h
 | j + 1 => fun s hs => by
  rw [lvls_succ] at hs
  unfold lvl at hs
  obtain ⟨k, _, rfl⟩ := List.mem_map.1 hs
  exact qLf (getD_small (lvls_small h j) _) (getD_small (lvls_small h j) _)
theorem lvl_take {l : List (List UInt8)} {k : Nat} (h : k < l.length / 2) : (lvl l).take (k + 1) = (lvl l).take k ++ [join (l.getD (2 * k) []) (l.getD (2 * k + 1) [])] := by
 rw [List.take_succ_eq_append_getElem (by rw [lvl_length]; exact h)]
 simp [lvl]
end Sb
def cnt (d : Int) : Nat := if d < 0 ∨ 4 < d then 0 else 2 ^ d.toNat
theorem qEz {d : Int} : cnt d = 0 ↔ (d < 0 ∨ 4 < d) := by
  unfold cnt
  split
  · exact ⟨fun _ => by assumption, fun _ => rfl⟩
  · rename_i h
    exact ⟨fun e => absurd e (Nat.ne_of_gt (Nat.two_pow_pos _)), fun e => absurd e h⟩
theorem qRF (d : Int) : cnt d ≤ 16 := by
 unfold cnt
 split
 · omega
 · exact Nat.le_trans (Nat.pow_le_pow_right (by decide) (show d.toNat ≤ 4 by omega)) (by decide)
theorem qS6 {d : Int} (h : cnt d ≠ 0) : cnt d = 2 ^ d.toNat := by
 unfold cnt at h ⊢
 split
 · rename_i h1; rw [if_pos h1] at h; exact absurd rfl h
 · rfl
def qIS (l : List (List UInt8)) (d : Int) : Int := if cnt d = 0 then 1 else if l.length ≠ cnt d then 22 else 0
def qFo (l : List (List UInt8)) (d : Int) : List UInt8 := if qIS l d = 0 then Sb.root l d.toNat else []
theorem qLI {P : Program} {env : Env} {rs : List Hp} {o : Oper} {t e x p q r sz A n' c l h m} (ho : o.op = .slice t x (some p) (some q) (some r)) (hx : ev env x = some (.slice A n' c)) (hu : P.underlying t = some (.slice e)) (hz : ∀ w, (sizeOf e).run P w = .ok sz w)
    (hlo : ev env p = some (I ((l : Nat) : Int))) (hhi : ev env q = some (I ((h : Nat) : Int))) (hmx : ev env r = some (I ((m : Nat) : Int))) (hr : l ≤ h ∧ h ≤ m ∧ m ≤ c) : YOp P env rs o (.slice (if m = l then A else A.map (·.add (l * sz))) (h - l) (m - l)) := fun n a w hk _ => by
  simp [execOp, ho, hk.ev hx, hk.ev hlo, hk.ev hhi, hk.ev hmx, Instr.sliceAt, Instr.slice, run_underlying hu, Instr.sliceBounds, Instr.sliceBound, asIntOf, hr.1, hr.2.1, hr.2.2, hz]
attribute [local irreducible] Sha.tagged Sb.join Sb.lvl Sb.lvls Sb.root
theorem qGo (F : Hp) (s : List UInt8) : Ct prog 214 [Str s] [F] (fun _ : Unit => .bool (decide (Sb.isLf s))) (fun _ => True) (fun _ => [F]) := by
 refine Ct.walk func214 rfl ntmps214 rfl (fun w0 hw0 => ?_)
 refine J.g fun K1 hK1 => J.b rfl <| J.c hK1 <| J.A 0 ?_
 refine J.g fun K2 hK2 => J.b rfl <| J.f (qJu rfl rfl rfl) rfl <| J.b rfl <| J.c3 (d := 5) rfl (fun h5 => ?_) (fun h5 => ?_)
 ·
  refine J.b rfl <| J.O ((qCC (l := 0) (h := 1) u9_ rfl rfl rfl rfl ⟨by omega, by have : s.length ≠ 0 := fun e => h5 (List.eq_nil_of_length_eq_zero e); omega⟩).as (congrArg Str List.drop_zero)) rfl <| J.O (qBM rfl rfl rfl) rfl <| J.p 2 rfl <| J.c hK2 <| J.A 2 ?_
  exact J.D <| J.L hw0 rfl () (congrArg Value.bool (decide_eq_decide.2 ⟨fun h => ⟨h5, h⟩, fun h => h.2⟩)) trivial [0] rfl (by decide)
 refine J.p 5 rfl <| J.c hK2 <| J.A 2 ?_
 exact J.D <| J.L hw0 rfl () (congrArg Value.bool (decide_eq_false (fun h => h5 h.1)).symm) trivial [0] rfl (by decide)
theorem qJh (F : Hp) (hK : KF F) (k v : List UInt8) (hk : k.length ≤ 1048576) (hv : v.length ≤ 1048576) : Ct prog 176 [Str k, Str v] [F] (fun _ : Unit => Str (Sb.leafN k v)) (fun _ => True) (fun _ => [F]) := by
 refine Ct.walk func176 rfl ntmps176 rfl (fun w0 hw0 => ?_)
 refine J.g fun K1 hK1 => J.b rfl <| J.c hK1 <| J.M 0 1 ?_
 refine J.g fun K2 hK2 => J.p 2 rfl <| J.u (qAH (l := [.tmp 5, .tmp 6]) (xs := [[Str (k)], [Str (v)]]) rfl rfl rfl rfl qAn el9 rfl (by decide) (by decide) (by simp)) rfl fun g7 _ => J.u (qAB rfl rfl ent44 (Ct.use0 (fun F' hF => qA5 F' (hK.mono (hF _ (by simp))) 9 (some ⟨g7, 0, none⟩) 2 2 [k, v] ((slS [k, v] rfl).mono (hF (blk g7 (([k, v] : List (List UInt8)).map fun s => Str s) 9) (by simp))) (by simp; omega) (by decide)))) rfl fun g8 _ => J.f ((qBZ rfl rfl rfl (by simp only [List.length_append, Sha.tagged_length]; decide))) rfl <| J.b rfl <| J.c hK2 <| J.A 4 ?_
 exact J.D <| J.L hw0 rfl () rfl trivial [0] rfl (by decide)
theorem qEm (F : Hp) (hK : KF F) (a b : List UInt8) (ha : a.length ≤ 1048576) (hb : b.length ≤ 1048576) : Ct prog 177 [Str a, Str b] [F] (fun _ : Unit => Str (Sb.join a b)) (fun _ => True) (fun _ => [F]) := by
 refine Ct.walk func177 rfl ntmps177 rfl (fun w0 hw0 => ?_)
 refine J.g fun K1 hK1 => J.b rfl <| J.c hK1 <| J.M 0 1 ?_
 refine J.k fun K2 hK2 => J.T <| J.g fun K3 hK3 => J.b rfl <| J.f (qBM rfl rfl rfl) rfl <| J.b rfl <| J.c3 (d := 8) rfl (fun h8 => ?_) (fun h8 => ?_)
 ·
  refine J.b rfl <| J.O (qBM rfl rfl rfl) rfl <| J.b rfl <| J.c3 (d := 11) rfl (fun h11 => ?_) (fun h11 => ?_)
  ·
   refine J.p 5 rfl <| J.c hK3 <| J.V 0 1 5 ?_
   refine J.d1 ?_
   refine J.g fun K4 hK4 => J.p 2 rfl <| J.c hK4 <| J.A 4 ?_
   exact J.D <| J.b3 <| J.a5 <| J.L hw0 rfl () (congrArg Str (by unfold Sb.join; rw [if_pos ⟨h8, .inl h11⟩])) trivial [0] rfl (by decide)
  refine J.b rfl <| J.d7 (qAB rfl rfl ent214 (Ct.use0 (fun F' hF => qGo F' b))) rfl fun g13 _ => J.p 3 rfl <| J.c hK3 <| J.V 0 1 5 ?_
  refine J.a0 rfl (fun h5 => ?_) (fun h5 => ?_)
  ·
   refine J.g fun K5 hK5 => J.p 2 rfl <| J.c hK5 <| J.A 4 ?_
   exact J.D <| J.b3 <| J.a5 <| J.L hw0 rfl () (congrArg Str (by unfold Sb.join; rw [if_pos ⟨h8, .inr h5⟩])) trivial [0] rfl (by decide)
  refine J.g fun K6 hK6 => J.b rfl <| J.f (qBM rfl rfl rfl) rfl <| J.b rfl <| J.c3 (d := 20) rfl (fun h20 => ?_) (fun h20 => ?_)
  ·
   refine J.b rfl <| J.d7 (qAB rfl rfl ent214 (Ct.use0 (fun F' hF => qGo F' a))) rfl fun g22 _ => J.p 2 rfl <| J.c hK6 <| J.V 0 1 17 ?_
   refine J.a0 rfl (fun h17 => ?_) (fun h17 => ?_)
   ·
    refine J.g fun K7 hK7 => J.p 2 rfl <| J.c hK7 <| J.A 4 ?_
    exact J.D <| J.b3 <| J.a5 <| J.L hw0 rfl () (absurd h20 h11) trivial [0] rfl (by decide)
   refine J.b7 <| J.a4 <| J.q (J.H hK2 ?_)
   refine J.M 0 1 ?_
   refine J.g fun K8 hK8 => J.p 2 rfl <| J.u (qAH (l := [.tmp 25, .tmp 26]) (xs := [[Str (a)], [Str (b)]]) rfl rfl rfl rfl qAn el9 rfl (by decide) (by decide) (by simp)) rfl fun g27 _ => J.u (qAB rfl rfl ent44 (Ct.use0 (fun F' hF => qA5 F' (hK.mono (hF _ (by simp))) 10 (some ⟨g27, 0, none⟩) 2 2 [a, b] ((slS [a, b] rfl).mono (hF (blk g27 (([a, b] : List (List UInt8)).map fun s => Str s) 9) (by simp))) (by simp; omega) (by decide)))) rfl fun g28 _ => J.f ((qBZ rfl rfl rfl (by simp only [List.length_append, Sha.tagged_length]; decide))) rfl <| J.b rfl <| J.c hK8 <| J.A 4 ?_
   exact J.D <| J.L hw0 rfl () (absurd h20 h11) trivial [0] rfl (by decide)
  refine J.p 4 rfl <| J.c hK6 <| J.V 0 1 17 ?_
  refine J.b6 ?_
  refine J.b7 <| J.a4 <| J.q (J.H hK2 ?_)
  refine J.M 0 1 ?_
  refine J.g fun K9 hK9 => J.p 2 rfl <| J.u (qAH (l := [.tmp 25, .tmp 26]) (xs := [[Str (a)], [Str (b)]]) rfl rfl rfl rfl qAn el9 rfl (by decide) (by decide) (by simp)) rfl fun g27 _ => J.u (qAB rfl rfl ent44 (Ct.use0 (fun F' hF => qA5 F' (hK.mono (hF _ (by simp))) 10 (some ⟨g27, 0, none⟩) 2 2 [a, b] ((slS [a, b] rfl).mono (hF (blk g27 (([a, b] : List (List UInt8)).map fun s => Str s) 9) (by simp))) (by simp; omega) (by decide)))) rfl fun g28 _ => J.f ((qBZ rfl rfl rfl (by simp only [List.length_append, Sha.tagged_length]; decide))) rfl <| J.b rfl <| J.c hK9 <| J.A 4 ?_
  exact J.D <| J.L hw0 rfl () (congrArg Str (by unfold Sb.join; rw [if_neg (fun h => h.2.elim h11 h5), if_neg (fun h => h20 h.1)]; rfl)) trivial [0] rfl (by decide)
 refine J.p 3 rfl <| J.c9 (Wan.un rfl rfl rfl rfl) rfl rfl ?_
 refine J.c9 (Wan.un rfl rfl rfl rfl) rfl rfl ?_
 refine J.p 3 rfl <| J.c hK3 <| J.V 0 1 5 ?_
 refine J.b6 ?_
 refine J.g fun K10 hK10 => J.b rfl <| J.f (qBM rfl rfl rfl) rfl <| J.b rfl <| J.c3 (d := 20) rfl (fun h20 => ?_) (fun h20 => ?_)
 ·
  refine J.b rfl <| J.d7 (qAB rfl rfl ent214 (Ct.use0 (fun F' hF => qGo F' a))) rfl fun g22 _ => J.p 2 rfl <| J.c hK10 <| J.V 0 1 17 ?_
  refine J.a0 rfl (fun h17 => ?_) (fun h17 => ?_)
  ·
   refine J.g fun K11 hK11 => J.p 2 rfl <| J.c hK11 <| J.A 4 ?_
   exact J.D <| J.b3 <| J.a5 <| J.L hw0 rfl () (congrArg Str (by unfold Sb.join; rw [if_neg (fun h => h8 h.1), if_pos ⟨h20, h17⟩])) trivial [0] rfl (by decide)
  refine J.b7 <| J.a4 <| J.q (J.H hK2 ?_)
  refine J.M 0 1 ?_
  refine J.g fun K12 hK12 => J.p 2 rfl <| J.u (qAH (l := [.tmp 25, .tmp 26]) (xs := [[Str (a)], [Str (b)]]) rfl rfl rfl rfl qAn el9 rfl (by decide) (by decide) (by simp)) rfl fun g27 _ => J.u (qAB rfl rfl ent44 (Ct.use0 (fun F' hF => qA5 F' (hK.mono (hF _ (by simp))) 10 (some ⟨g27, 0, none⟩) 2 2 [a, b] ((slS [a, b] rfl).mono (hF (blk g27 (([a, b] : List (List UInt8)).map fun s => Str s) 9) (by simp))) (by simp; omega) (by decide)))) rfl fun g28 _ => J.f ((qBZ rfl rfl rfl (by simp only [List.length_append, Sha.tagged_length]; decide))) rfl <| J.b rfl <| J.c hK12 <| J.A 4 ?_
  exact J.D <| J.L hw0 rfl () (congrArg Str (by unfold Sb.join; rw [if_neg (fun h => h8 h.1), if_neg (fun h => h17 h.2)]; rfl)) trivial [0] rfl (by decide)
 refine J.p 4 rfl <| J.c hK10 <| J.V 0 1 17 ?_
 refine J.b6 ?_
 refine J.b7 <| J.a4 <| J.q (J.H hK2 ?_)
 refine J.M 0 1 ?_
 refine J.g fun K13 hK13 => J.p 2 rfl <| J.u (qAH (l := [.tmp 25, .tmp 26]) (xs := [[Str (a)], [Str (b)]]) rfl rfl rfl rfl qAn el9 rfl (by decide) (by decide) (by simp)) rfl fun g27 _ => J.u (qAB rfl rfl ent44 (Ct.use0 (fun F' hF => qA5 F' (hK.mono (hF _ (by simp))) 10 (some ⟨g27, 0, none⟩) 2 2 [a, b] ((slS [a, b] rfl).mono (hF (blk g27 (([a, b] : List (List UInt8)).map fun s => Str s) 9) (by simp))) (by simp; omega) (by decide)))) rfl fun g28 _ => J.f ((qBZ rfl rfl rfl (by simp only [List.length_append, Sha.tagged_length]; decide))) rfl <| J.b rfl <| J.c hK13 <| J.A 4 ?_
 exact J.D <| J.L hw0 rfl () (congrArg Str (by unfold Sb.join; rw [if_neg (fun h => h8 h.1), if_neg (fun h => h20 h.1)]; rfl)) trivial [0] rfl (by decide)
end Go.Proofs.YtfldiegfenndjaaGreatDoor
namespace Go.Proofs.YtfldiegfenndjaaGreatDoor
open Go Go.Fw Go.Proofs.Tryz
set_option maxRecDepth 100000
set_option maxHeartbeats 1000000
namespace Sm
def kv : List UInt8 → Nat
 | [] => 0
 | b :: r => b.toNat * 256 ^ r.length + kv r
theorem kv_lt : ∀ k : List UInt8, kv k < 256 ^ k.length
 | [] => Nat.one_pos
 | b :: r => by
  have h1 := kv_lt r
  have h2 := b.toNat_lt
  have h3 : b.toNat * 256 ^ r.length ≤ 255 * 256 ^ r.length := Nat.mul_le_mul_right _ (by omega)
  rw [kv, List.length_cons, Nat.pow_succ]
  omega
theorem qQ4 : ∀ {a b : List UInt8}, a.length = b.length → kv a = kv b → a = b
 | [], [], _, _ => rfl
 | [], _ :: _, h, _ => by simp at h
 | _ :: _, [], h, _ => by simp at h
 | x :: a, y :: b, h, e => by
  have hl : a.length = b.length := by simpa using h
  rw [kv, kv, hl] at e
  have h1 := kv_lt a
  have h2 := kv_lt b
  rw [hl] at h1
  have hp : 0 < 256 ^ b.length := Nat.pow_pos (by decide)
  have e1 : x.toNat = y.toNat := by
   have := congrArg (· / 256 ^ b.length) e
   simp only [Nat.mul_comm _ (256 ^ b.length), Nat.mul_add_div hp, Nat.div_eq_of_lt h1, Nat.div_eq_of_lt h2, Nat.add_zero] at this
   exact this
  have e2 : kv a = kv b := by rw [e1] at e; omega
  rw [UInt8.toNat_inj.1 e1, qQ4 hl e2]
theorem qKF : ∀ {a b : List UInt8}, a.length = b.length → a < b → kv a < kv b
  | [], [], _, h => absurd h (List.lt_irrefl _)
  | [], _ :: _, h, _ => by simp at h
  | _ :: _, [], h, _ => by simp at h
  | x :: a, y :: b, h, e => by
    have hl : a.length = b.length := by simpa using h
    have h1 := kv_lt a
    have h2 := kv_lt b
    rw [hl] at h1
    rw [kv, kv, hl]
    rcases List.cons_lt_cons_iff.1 e with h5 | ⟨h4, h5⟩
    · have : x.toNat + 1 ≤ y.toNat := UInt8.lt_iff_toNat_lt.1 h5
      have h3 := Nat.mul_le_mul_right (256 ^ b.length) this
      rw [Nat.add_mul] at h3
      omega
    · have := qKF hl h5; rw [h4]; omega
theorem qQ5 : ∀ {k : List UInt8} {q : Nat}, q < k.length → (k.getD q 0).toNat = kv k / 256 ^ (k.length - 1 - q) % 256
 | [], _, h => by simp at h
 | b :: r, 0, _ => by
  have h1 := kv_lt r
  have hp : 0 < 256 ^ r.length := Nat.pow_pos (by decide)
  have h2 := b.toNat_lt
  rw [kv, List.length_cons, Nat.add_sub_cancel, Nat.sub_zero, Nat.mul_comm, Nat.mul_add_div hp, Nat.div_eq_of_lt h1, Nat.add_zero, Nat.mod_eq_of_lt (by omega)]
  rfl
 | b :: r, q + 1, h => by
  have h' : q < r.length := by simpa using h
  rw [List.getD_cons_succ, qQ5 h', kv, List.length_cons]
  obtain ⟨m, hm⟩ : ∃ m, r.length = m + 1 + q := ⟨r.length - 1 - q, by omega⟩
  rw [show r.length + 1 - 1 - (q + 1) = m by omega, show r.length - 1 - q = m by omega, hm, show m + 1 + q = m + (q + 1) by omega, Nat.pow_add, show b.toNat * (256 ^ m * 256 ^ (q + 1)) = 256 ^ m * (b.toNat * 256 ^ q * 256) by rw [Nat.pow_succ, Nat.mul_left_comm, Nat.mul_assoc],
   Nat.mul_add_div (Nat.pow_pos (by decide)), Nat.add_mod, Nat.mul_mod_left, Nat.zero_add, Nat.mod_mod]
def bit (k : List UInt8) (d : Nat) : Nat := if d < 8 * k.length then (k.getD (d / 8) 0).toNat / 2 ^ (7 - d % 8) % 2 else 0
theorem bit_le (k : List UInt8) (d : Nat) : bit k d < 2 := by unfold bit; split <;> omega
theorem qI6 (x j : Nat) (h : j ≤ 7) : x % 256 / 2 ^ j % 2 = x / 2 ^ j % 2 := by
 have h0 : j = 0 ∨ j = 1 ∨ j = 2 ∨ j = 3 ∨ j = 4 ∨ j = 5 ∨ j = 6 ∨ j = 7 := by omega
 rcases h0 with rfl | rfl | rfl | rfl | rfl | rfl | rfl | rfl <;> simp only [Nat.reducePow] <;> omega
theorem bit_kv {k : List UInt8} (h : k.length = 16) {d : Nat} (hd : d < 128) : bit k d = kv k / 2 ^ (127 - d) % 2 := by
 unfold bit
 rw [if_pos (by omega), qQ5 (by omega), h, qI6 _ _ (by omega), Nat.div_div_eq_div_mul, show (256 : Nat) = 2 ^ 8 from rfl, ← Nat.pow_mul, ← Nat.pow_add, show 8 * (16 - 1 - d / 8) + (7 - d % 8) = 127 - d by omega]
theorem pre_succ (x f : Nat) : x / 2 ^ f = 2 * (x / 2 ^ (f + 1)) + x / 2 ^ f % 2 := by
 rw [Nat.pow_succ, ← Nat.div_div_eq_div_mul]; omega
abbrev PR := List UInt8 × List UInt8
def side (f : Nat) (b : Bool) (l : List PR) : List PR := l.filter fun p => decide (kv p.1 / 2 ^ f % 2 = 0) == b
def nd : Nat → List PR → List UInt8
 | _, [] => [0]
 | _, [p] => Sb.leafN p.1 p.2
 | 0, _ => []
 | f + 1, l => Sb.join (nd f (side f true l)) (nd f (side f false l))
theorem nd_nil (f : Nat) : nd f [] = [0] := by cases f <;> rfl
theorem nd_one (f : Nat) (p : PR) : nd f [p] = Sb.leafN p.1 p.2 := by cases f <;> rfl
theorem nd_two (f : Nat) {l : List PR} (h : 2 ≤ l.length) : nd (f + 1) l = Sb.join (nd f (side f true l)) (nd f (side f false l)) := by
 match l, h with
 | a :: b :: r, _ => rfl
def WF (f : Nat) (l : List PR) : Prop := l.Pairwise (fun p q => p.1 ≠ q.1) ∧ (∀ p ∈ l, p.1.length = 16) ∧ ∀ p ∈ l, ∀ q ∈ l, kv p.1 / 2 ^ f = kv q.1 / 2 ^ f
theorem WF.side {f : Nat} {l : List PR} (h : WF (f + 1) l) (b : Bool) : WF f (side f b l) := by
 refine ⟨h.1.sublist List.filter_sublist, fun p hp => h.2.1 p (List.mem_filter.1 hp).1, fun p hp q hq => ?_⟩
 obtain ⟨h1, h2⟩ := List.mem_filter.1 hp
 obtain ⟨h3, h4⟩ := List.mem_filter.1 hq
 have h5 := h.2.2 p h1 q h3
 rw [beq_iff_eq] at h2 h4
 have e1 := pre_succ (kv p.1) f
 have e2 := pre_succ (kv q.1) f
 have e3 : kv p.1 / 2 ^ f % 2 = kv q.1 / 2 ^ f % 2 := by
  have h6 : decide (kv p.1 / 2 ^ f % 2 = 0) = decide (kv q.1 / 2 ^ f % 2 = 0) := h2.trans h4.symm
  have h7 := decide_eq_decide.1 h6
  omega
 omega
theorem WF.short {l : List PR} (h : WF 0 l) : l.length ≤ 1 := by
 match l, h with
 | [], _ => exact Nat.zero_le _
 | [_], _ => exact Nat.le_refl _
 | a :: b :: r, h =>
  exfalso
  have h1 := h.2.2 a (.head _) b (.tail _ (.head _))
  rw [Nat.pow_zero, Nat.div_one, Nat.div_one] at h1
  exact (List.pairwise_cons.1 h.1).1 b (.head _) (qQ4 ((h.2.1 a (.head _)).trans (h.2.1 b (.tail _ (.head _))).symm) h1)
theorem WF.top {l : List PR} (h1 : l.Pairwise (fun p q => p.1 ≠ q.1)) (h2 : ∀ p ∈ l, p.1.length = 16) : WF 128 l :=
 ⟨h1, h2, fun p hp q hq => by
  have e1 := kv_lt p.1
  have e2 := kv_lt q.1
  rw [h2 p hp] at e1
  rw [h2 q hq] at e2
  rw [Nat.div_eq_of_lt (Nat.lt_of_lt_of_eq e1 (by decide)), Nat.div_eq_of_lt (Nat.lt_of_lt_of_eq e2 (by decide))]⟩
theorem WF.perm {f : Nat} {l l' : List PR} (h : WF f l) (hp : l.Perm l') : WF f l' :=
 ⟨(hp.pairwise_iff (fun h => h.symm)).1 h.1, fun p q => h.2.1 p (hp.mem_iff.2 q), fun p hp1 q hq1 => h.2.2 p (hp.mem_iff.2 hp1) q (hp.mem_iff.2 hq1)⟩
theorem side_len (f : Nat) (l : List PR) : (side f true l).length + (side f false l).length = l.length := by
 induction l with
 | nil => rfl
 | cons p r ih =>
  unfold side at ih ⊢
  rw [List.filter_cons, List.filter_cons]
  rcases h : decide (kv p.1 / 2 ^ f % 2 = 0) with _ | _
  · rw [if_neg (by decide), if_pos (by decide), List.length_cons, List.length_cons]; omega
  · rw [if_pos (by decide), if_neg (by decide), List.length_cons, List.length_cons]; omega
theorem nd_perm : ∀ (f : Nat) {l l' : List PR}, WF f l → l.Perm l' → nd f l = nd f l'
 | f, [], l', _, hp => by rw [hp.nil_eq]
 | f, [p], l', _, hp => by rw [List.singleton_perm.1 hp]
 | 0, a :: b :: r, l', h, hp => by have := h.short; simp at this
 | f + 1, a :: b :: r, l', h, hp => by
  have hl := hp.length_eq
  rw [nd_two f (by simp), nd_two f (by rw [← hl]; simp), nd_perm f (h.side true) (hp.filter _), nd_perm f (h.side false) (hp.filter _)]; rfl
theorem qKD (k v : List UInt8) : Sb.isLf (Sb.leafN k v) := ⟨by simp [Sb.leafN], by simp [Sb.leafN]⟩
theorem qKC (k v : List UInt8) : Sb.leafN k v ≠ [0] := fun h => by
 have := (qKD k v).2
 rw [h] at this; cases this
theorem qSm {a b : List UInt8} (h : a ≠ [0] ∨ b ≠ [0]) : Sb.join a b ≠ [0] := by
  unfold Sb.join
  split
  · rename_i h1
    rcases h with h | h
    · exact absurd h1.1 h
    · exact h
  · split
    · rename_i h1
      rcases h with h | h
      · exact h
      · exact absurd h1.1 h
    · intro e; injection e with e _; cases e
theorem qSa : ∀ (f : Nat) {l : List PR}, WF f l → l ≠ [] → nd f l ≠ [0]
  | f, [], _, h => absurd rfl h
  | f, [p], _, _ => by rw [nd_one]; exact qKC _ _
  | 0, a :: b :: r, h, _ => by have := h.short; simp at this
  | f + 1, a :: b :: r, h, _ => by
    rw [nd_two f (by simp)]
    refine qSm ?_
    have hl := side_len f (a :: b :: r)
    simp only [List.length_cons] at hl
    by_cases h1 : side f true (a :: b :: r) = []
    · refine .inr (qSa f (h.side false) fun h2 => ?_)
      rw [h1, h2] at hl; simp at hl
    · exact .inl (qSa f (h.side true) h1)
theorem nd_eq0 {f : Nat} {l : List PR} (h : WF f l) : nd f l = [0] ↔ l = [] :=
 ⟨fun e => Decidable.by_contra fun hn => qSa f h hn e, fun e => by rw [e, nd_nil]⟩
theorem nd_small : ∀ (f : Nat) (l : List PR), (nd f l).length ≤ 17
  | f, [] => by rw [nd_nil]; decide
  | f, [p] => by rw [nd_one]; unfold Sb.leafN; rw [List.length_cons, Sha.tagged_length]; decide
  | 0, a :: b :: r => Nat.zero_le _
  | f + 1, a :: b :: r => by
    rw [nd_two f (by simp)]
    unfold Sb.join
    split
    · exact nd_small f _
    · split
      · exact nd_small f _
      · rw [List.length_cons, Sha.tagged_length]; decide
def Up (l : List PR) : Prop := l.Pairwise (fun p q => kv p.1 < kv q.1)
theorem Up.sub {l l' : List PR} (h : Up l) (hs : l'.Sublist l) : Up l' := h.sublist hs
theorem up_bits {f : Nat} {l : List PR} (h : WF (f + 1) l) (hu : Up l) {k : Nat} (hk : ∀ j (hj : j < l.length), j < k → kv l[j].1 / 2 ^ f % 2 = 0) (hn : ∀ (hj : k < l.length), kv l[k].1 / 2 ^ f % 2 ≠ 0) : l.take k = side f true l ∧ l.drop k = side f false l := by
  have h1 : ∀ p ∈ l.take k, kv p.1 / 2 ^ f % 2 = 0 := fun p hp => by
    obtain ⟨j, hj, rfl⟩ := List.getElem_of_mem hp
    rw [List.length_take] at hj
    rw [List.getElem_take]
    exact hk j (by omega) (by omega)
  have h2 : ∀ p ∈ l.drop k, kv p.1 / 2 ^ f % 2 ≠ 0 := fun p hp => by
    obtain ⟨j, hj, rfl⟩ := List.getElem_of_mem hp
    rw [List.length_drop] at hj
    rw [List.getElem_drop]
    have hkl : k < l.length := by omega
    have hb := hn hkl
    rcases Nat.eq_zero_or_pos j with rfl | hj0
    · exact hb
    · have hlt : kv l[k].1 < kv l[k + j].1 := List.pairwise_iff_getElem.1 hu k (k + j) hkl (by omega) (by omega)
      have e := h.2.2 _ (List.getElem_mem hkl) _ (List.getElem_mem (show k + j < l.length by omega))
      have e1 := pre_succ (kv l[k].1) f
      have e2 := pre_succ (kv l[k + j].1) f
      have e3 := Nat.div_le_div_right (c := 2 ^ f) (Nat.le_of_lt hlt)
      omega
  have h3 : side f true l = side f true (l.take k) ++ side f true (l.drop k) := by unfold side; rw [← List.filter_append, List.take_append_drop]
  have h4 : side f false l = side f false (l.take k) ++ side f false (l.drop k) := by unfold side; rw [← List.filter_append, List.take_append_drop]
  constructor
  · rw [h3, show side f true (l.take k) = l.take k from List.filter_eq_self.2 fun p hp => by rw [decide_eq_true (h1 p hp)]; rfl, show side f true (l.drop k) = [] from List.filter_eq_nil_iff.2 fun p hp => by rw [decide_eq_false (h2 p hp)]; simp, List.append_nil]
  · rw [h4, show side f false (l.take k) = [] from List.filter_eq_nil_iff.2 fun p hp => by rw [decide_eq_true (h1 p hp)]; simp, show side f false (l.drop k) = l.drop k from List.filter_eq_self.2 fun p hp => by rw [decide_eq_false (h2 p hp)]; rfl, List.nil_append]
def putP : List PR → List UInt8 → List UInt8 → List PR
 | [], k, v => [(k, v)]
 | p :: r, k, v => if p.1 = k then (k, v) :: r else p :: putP r k v
def getP : List PR → List UInt8 → Option (List UInt8)
 | [], _ => none
 | p :: r, k => if p.1 = k then some p.2 else getP r k
def Once (l : List PR) : Prop := l.Pairwise (fun p q => p.1 ≠ q.1)
theorem Once.perm {l l' : List PR} (h : Once l) (hp : l.Perm l') : Once l' := (hp.pairwise_iff (fun h => h.symm)).1 h
theorem getP_mem {l : List PR} (h : Once l) {p : PR} (hp : p ∈ l) : getP l p.1 = some p.2 := by
 induction l with
 | nil => cases hp
 | cons q r ih =>
  obtain ⟨h1, h2⟩ := List.pairwise_cons.1 h
  rcases List.mem_cons.1 hp with rfl | hp
  · rw [getP, if_pos rfl]
  · rw [getP, if_neg (h1 p hp), ih h2 hp]
theorem getP_some {l : List PR} {k v : List UInt8} (h : getP l k = some v) : (k, v) ∈ l := by
  induction l with
  | nil => cases h
  | cons p r ih =>
    rw [getP] at h
    split at h
    · rename_i e
      injection h with h
      rw [← e, ← h]; exact .head _
    · exact .tail _ (ih h)
def srt (l : List (List UInt8)) : List (List UInt8) := l.mergeSort (fun x y => decide (x ≤ y))
theorem qDN (l : List (List UInt8)) : (srt l).Perm l := List.mergeSort_perm l _
theorem srt_len (l : List (List UInt8)) : (srt l).length = l.length := (qDN l).length_eq
theorem qMT (l : List (List UInt8)) : (srt l).Pairwise (fun x y => x ≤ y) := by
 have h := List.pairwise_mergeSort (le := fun (x y : List UInt8) => decide (x ≤ y)) (fun a b c h1 h2 => by
  simp only [decide_eq_true_eq] at *; exact List.le_trans h1 h2) (fun a b => by
  simp only [Bool.or_eq_true, decide_eq_true_eq]; exact List.le_total a b) l
 exact h.imp fun h => by simpa using h
theorem srt_eq {l l' : List (List UInt8)} (h : l.Perm l') : srt l = srt l' :=
 List.Perm.eq_of_pairwise (fun a b _ _ h1 h2 => List.le_antisymm h1 h2) (qMT l) (qMT l') ((qDN l).trans (h.trans (qDN l').symm))
def keysS (l : List PR) : List (List UInt8) := srt (l.map (·.1))
theorem keysS_len (l : List PR) : (keysS l).length = l.length := by unfold keysS; rw [srt_len, List.length_map]
theorem keysS_mem {l : List PR} {k : List UInt8} : k ∈ keysS l ↔ ∃ v, (k, v) ∈ l := by
 unfold keysS
 rw [(qDN _).mem_iff, List.mem_map]
 exact ⟨fun ⟨p, hp, e⟩ => ⟨p.2, e ▸ hp⟩, fun ⟨v, hv⟩ => ⟨_, hv, rfl⟩⟩
def prs (l : List PR) (ks : List (List UInt8)) : List PR := ks.map fun k => (k, (getP l k).getD [])
theorem qPJ {l l' : List PR} (h : Once l) (hs : ∀ p ∈ l', p ∈ l) : prs l (l'.map (·.1)) = l' := by
 unfold prs
 rw [List.map_map]
 conv => rhs; rw [← List.map_id l']
 refine List.map_congr_left fun p hp => ?_
 show (p.1, (getP l p.1).getD []) = p
 rw [getP_mem h (hs p hp)]; rfl
theorem prs_perm {l : List PR} (h : Once l) : (prs l (keysS l)).Perm l := by
 have h1 : (prs l (keysS l)).Perm (prs l (l.map (·.1))) := (qDN _).map _
 rwa [qPJ h (fun _ h => h)] at h1
theorem qLd {l : List PR} (h : Once l) : (keysS l).Pairwise (· ≠ ·) := ((qDN _).symm.pairwise_iff (fun h => h.symm)).1 (List.pairwise_map.2 h)
theorem qP2 {l : List PR} (h : Once l) : (keysS l).Pairwise (· < ·) := by
 have h1 := qMT (l.map (·.1))
 exact (h1.and (qLd h)).imp fun ⟨h1, h2⟩ => Decidable.by_contra fun h3 => h2 (List.le_antisymm h1 (List.not_lt.1 h3))
theorem prs_up {l : List PR} (h : Once l) (hl : ∀ p ∈ l, p.1.length = 16) : Up (prs l (keysS l)) := by
 unfold Up prs
 rw [List.pairwise_map]
 refine (qP2 h).imp_of_mem fun ha hb hab => ?_
 obtain ⟨v, hv⟩ := keysS_mem.1 ha
 obtain ⟨u, hu⟩ := keysS_mem.1 hb
 exact qKF ((hl _ hv).trans (hl _ hu).symm) hab
theorem prs_take (l : List PR) (ks : List (List UInt8)) (k : Nat) : prs l (ks.take k) = (prs l ks).take k := by unfold prs; rw [List.map_take]
theorem prs_drop (l : List PR) (ks : List (List UInt8)) (k : Nat) : prs l (ks.drop k) = (prs l ks).drop k := by unfold prs; rw [List.map_drop]
theorem prs_filter (l : List PR) (ks : List (List UInt8)) (q : List UInt8 → Bool) : prs l (ks.filter q) = (prs l ks).filter (fun p => q p.1) := by
 unfold prs
 rw [List.filter_map]; rfl
theorem prs_len (l : List PR) (ks : List (List UInt8)) : (prs l ks).length = ks.length := by unfold prs; rw [List.length_map]
theorem prs_get (l : List PR) (ks : List (List UInt8)) {j : Nat} (h : j < (prs l ks).length) (h' : j < ks.length) : (prs l ks)[j] = (ks[j], (getP l ks[j]).getD []) := List.getElem_map ..
def belowB (k b : List UInt8) (d : Nat) : Bool := (List.range d).all fun i => decide (bit k i = bit b i)
theorem belowB_succ (k b : List UInt8) (d : Nat) : belowB k b (d + 1) = (belowB k b d && decide (bit k d = bit b d)) := by
 unfold belowB; rw [List.range_succ, List.all_append]; simp
theorem belowB_no {k b : List UInt8} {d i : Nat} (hi : i < d) (h : bit k i ≠ bit b i) : belowB k b d = false := by
 rw [Bool.eq_false_iff]
 intro h1
 exact h (of_decide_eq_true (List.all_eq_true.1 h1 i (List.mem_range.2 hi)))
theorem belowB_yes {k b : List UInt8} {d : Nat} (h : ∀ i < d, bit k i = bit b i) : belowB k b d = true := List.all_eq_true.2 fun i hi => decide_eq_true (h i (List.mem_range.1 hi))
theorem belowB_kv {k b : List UInt8} (hk : k.length = 16) (hb : b.length = 16) : ∀ {d : Nat}, d ≤ 128 → (belowB k b d = true ↔ kv k / 2 ^ (128 - d) = kv b / 2 ^ (128 - d))
 | 0, _ => by
  have h1 := kv_lt k
  have h2 := kv_lt b
  rw [hk] at h1
  rw [hb] at h2
  rw [Nat.div_eq_of_lt (Nat.lt_of_lt_of_eq h1 (by decide)), Nat.div_eq_of_lt (Nat.lt_of_lt_of_eq h2 (by decide))]
  exact ⟨fun _ => rfl, fun _ => rfl⟩
 | d + 1, hd => by
  have ih := belowB_kv hk hb (d := d) (by omega)
  have e1 := pre_succ (kv k) (127 - d)
  have e2 := pre_succ (kv b) (127 - d)
  rw [show 127 - d + 1 = 128 - d by omega] at e1 e2
  rw [belowB_succ, Bool.and_eq_true, ih, decide_eq_true_eq, bit_kv hk (by omega), bit_kv hb (by omega), show 128 - (d + 1) = 127 - d by omega]
  constructor
  · rintro ⟨h1, h2⟩; omega
  · intro h1; omega
def bel (l : List PR) (b : List UInt8) (d : Nat) : List PR := l.filter fun p => belowB p.1 b d
theorem bel_wf {l : List PR} (h : Once l) (hl : ∀ p ∈ l, p.1.length = 16) {b : List UInt8} (hb : b.length = 16) {d : Nat} (hd : d ≤ 128) : WF (128 - d) (bel l b d) :=
 ⟨h.sublist List.filter_sublist, fun p hp => hl p (List.mem_filter.1 hp).1, fun p hp q hq => by
  obtain ⟨h1, h2⟩ := List.mem_filter.1 hp
  obtain ⟨h3, h4⟩ := List.mem_filter.1 hq
  rw [(belowB_kv (hl p h1) hb hd).1 h2, (belowB_kv (hl q h3) hb hd).1 h4]⟩
theorem bel_zero (l : List PR) (b : List UInt8) : bel l b 0 = l := List.filter_eq_self.2 fun _ _ => rfl
theorem qSb {f : Nat} {l : List PR} (h : WF (f + 1) l) : Sb.join (nd f (side f true l)) (nd f (side f false l)) = nd (f + 1) l := by
  match l, h with
  | [], _ => rw [show side f true [] = [] from rfl, show side f false [] = [] from rfl, nd_nil, nd_nil]; rfl
  | [p], _ =>
    have hl := qKD p.1 p.2
    rcases hb : decide (kv p.1 / 2 ^ f % 2 = 0) with _ | _
    · rw [show side f true [p] = [] by unfold side; rw [List.filter_cons, if_neg (by rw [hb]; decide)]; rfl, show side f false [p] = [p] by unfold side; rw [List.filter_cons, if_pos (by rw [hb]; decide)]; rfl, nd_nil, nd_one, nd_one]
      unfold Sb.join
      rw [if_pos ⟨rfl, .inr hl⟩]
    · rw [show side f true [p] = [p] by unfold side; rw [List.filter_cons, if_pos (by rw [hb]; decide)]; rfl, show side f false [p] = [] by unfold side; rw [List.filter_cons, if_neg (by rw [hb]; decide)]; rfl, nd_nil, nd_one, nd_one]
      unfold Sb.join
      rw [if_neg (fun h => qKC _ _ h.1), if_pos ⟨rfl, hl⟩]
  | a :: b :: r, _ => rfl
theorem bel_half {l : List PR} (hl : ∀ p ∈ l, p.1.length = 16) {b c : List UInt8} (hb : b.length = 16) (hc : c.length = 16) {d : Nat} (hd : d < 128) (t : Bool) (h : kv c / 2 ^ (127 - d) = 2 * (kv b / 2 ^ (128 - d)) + (if t = true then 0 else 1)) :
    bel l c (d + 1) = side (127 - d) t (bel l b d) := by
  unfold bel side
  rw [List.filter_filter]
  refine List.filter_congr fun p hp => ?_
  have h1 := belowB_kv (hl p hp) hc (d := d + 1) (by omega)
  have h2 := belowB_kv (hl p hp) hb (d := d) (by omega)
  have e1 := pre_succ (kv p.1) (127 - d)
  rw [show 127 - d + 1 = 128 - d by omega] at e1
  rw [show 128 - (d + 1) = 127 - d by omega, h] at h1
  rw [Bool.eq_iff_iff, h1, Bool.and_eq_true, h2, beq_iff_eq]
  cases t
  · rw [if_neg (by decide), decide_eq_false_iff_not]
    constructor
    · intro h; omega
    · rintro ⟨h3, h4⟩; omega
  · rw [if_pos rfl, decide_eq_true_eq]
    constructor
    · intro h; omega
    · rintro ⟨h3, h4⟩; omega
def ndB (l : List PR) (b : List UInt8) (d : Nat) : List UInt8 := nd (128 - d) (bel l b d)
theorem ndB_join {l : List PR} (h : Once l) (hl : ∀ p ∈ l, p.1.length = 16) {b c e : List UInt8} (hb : b.length = 16) (hc : c.length = 16) (he : e.length = 16) {d : Nat} (hd : d < 128)
    (h0 : kv c / 2 ^ (127 - d) = 2 * (kv b / 2 ^ (128 - d))) (h1 : kv e / 2 ^ (127 - d) = 2 * (kv b / 2 ^ (128 - d)) + 1) : Sb.join (ndB l c (d + 1)) (ndB l e (d + 1)) = ndB l b d := by
  unfold ndB
  have hw := bel_wf h hl hb (d := d) (by omega)
  rw [bel_half hl hb hc hd true (by rw [if_pos rfl]; exact h0), bel_half hl hb he hd false (by rw [if_neg (by decide)]; exact h1), show 128 - d = 127 - d + 1 by omega, show 128 - (d + 1) = 127 - d by omega]
  exact qSb (by rw [show 127 - d + 1 = 128 - d by omega]; exact hw)
theorem ndB_zero (l : List PR) (b : List UInt8) : ndB l b 0 = nd 128 l := by unfold ndB; rw [bel_zero]
end Sm
end Go.Proofs.YtfldiegfenndjaaGreatDoor
namespace Go.Proofs.YtfldiegfenndjaaGreatDoor
open Go Go.Fw Go.Proofs.Tryz
set_option maxRecDepth 100000
set_option maxHeartbeats 1000000
structure Pr where
 k : List UInt8
 v : List UInt8
 deriving DecidableEq
def Pr.cells (x : Pr) : List Value := [Str (x.k), Str (x.v)]
def noPr : Pr := ⟨[], []⟩
def toP (p : Pr) : Sm.PR := (p.k, p.v)
abbrev ssM (l : List Sm.PR) : MP := l.map fun p => (p.1, Str p.2)
theorem qI9 : ∀ (l : List Sm.PR) (k : List UInt8), qNi (ssM l) k = (Sm.getP l k).map Str
 | [], _ => rfl
 | p :: r, k => by
  show (if p.1 = k then some (Str p.2) else qNi (ssM r) k) = _
  rw [Sm.getP]
  by_cases h : p.1 = k
  · rw [if_pos h, if_pos h]; rfl
  · rw [if_neg h, if_neg h]; exact qI9 r k
theorem qMw : ∀ (l : List Sm.PR) (k v : List UInt8), qOX (ssM l) k (Str v) = ssM (Sm.putP l k v)
 | [], _, _ => rfl
 | p :: r, k, v => by
  show (if p.1 = k then (k, Str v) :: ssM r else (p.1, Str p.2) :: qOX (ssM r) k (Str v)) = _
  rw [Sm.putP]
  by_cases h : p.1 = k
  · rw [if_pos h, if_pos h]; rfl
  · rw [if_neg h, if_neg h, qMw r k v]; rfl
theorem qNk (o : Option (List UInt8)) : (o.map Str).getD (Str []) = Str (o.getD []) := by cases o <;> rfl
def qEX (m : Hp) (g : Nat) (l : List Sm.PR) : Prop := ∃ gm, qAV m ⟨g, 0, none⟩ [.map (some gm)] ∧ qFt m gm (ssM l)
def qHV (m : Hp) (g : Nat) (l : List Sm.PR) : Prop := ∃ gm mm, m = U [blk g [.map (some gm)] 166, mm] ∧ Dj (blk g [.map (some gm)] 166) mm ∧ qRJ mm gm (ssM l)
theorem qEX.mono {m m' : Hp} {g : Nat} {l : List Sm.PR} (h : qEX m g l) (hl : Le m m') : qEX m' g l := by
 obtain ⟨gm, h1, h2⟩ := h
 exact ⟨gm, h1.mono hl, h2.mono hl⟩
theorem qHV.at {m : Hp} {g : Nat} {l : List Sm.PR} (h : qHV m g l) : qEX m g l := by
 obtain ⟨gm, mm, rfl, hd, h2⟩ := h
 have hdd : Djs [blk g [.map (some gm)] 166, mm] := qAW.2 (by simpa using hd)
 exact ⟨gm, qAV.blk0.mono (qHJ hdd (.head _)), h2.at.mono (qHJ hdd (.tail _ (.head _)))⟩
end Go.Proofs.YtfldiegfenndjaaGreatDoor
