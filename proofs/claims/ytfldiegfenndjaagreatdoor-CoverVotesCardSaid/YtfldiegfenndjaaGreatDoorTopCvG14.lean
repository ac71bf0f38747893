/- A part of the proof. -/
import Derived.Test.YtfldiegfenndjaaGreatDoorTopCvG8
import Derived.Test.YtfldiegfenndjaaGreatDoorTopCvG11
import Derived.Test.YtfldiegfenndjaaGreatDoorTopCvG6
import Derived.Test.YtfldiegfenndjaaGreatDoorTopCvG13
set_option linter.unusedSimpArgs false
set_option linter.unusedVariables false
namespace Go.Proofs.YtfldiegfenndjaaGreatDoor
open Go Go.Fw Go.Proofs.Tryz
set_option maxRecDepth 100000
set_option maxHeartbeats 1000000
namespace Sb
def isLf (s : List UInt8) : Prop := s ≠ [] ∧ s.take 1 = [1]
instance (s : List UInt8) : Decidable (isLf s) := by unfold isLf; infer_instance
def join (a b : List UInt8) : List UInt8 := if a = [0] ∧ (b = [0] ∨ isLf b) then b else if b = [0] ∧ isLf a then a else 2 :: Sha.tagged 10 [a, b]
def leafN (k v : List UInt8) : List UInt8 := 1 :: Sha.tagged 9 [k, v]
def lvl (l : List (List UInt8)) : List (List UInt8) := (List.range (l.length / 2)).map fun k => join (l.getD (2 * k) []) (l.getD (2 * k + 1) [])
def lvls (l : List (List UInt8)) : Nat → List (List UInt8)
 | 0 => l
 | j + 1 => lvl (lvls l j)
def root (l : List (List UInt8)) (d : Nat) : List UInt8 := (lvls l d).getD 0 []
theorem lvl_length (l : List (List UInt8)) : (lvl l).length = l.length / 2 := by simp [lvl]
theorem lvls_zero (l : List (List UInt8)) : lvls l 0 = l := rfl
theorem lvls_succ (l : List (List UInt8)) (j : Nat) : lvls l (j + 1) = lvl (lvls l j) := rfl
theorem lvls_length {l : List (List UInt8)} {d : Nat} (h : l.length = 2 ^ d) : ∀ j, j ≤ d → (lvls l j).length = 2 ^ (d - j)
 | 0, _ => h
 | j + 1, hj => by
  rw [lvls_succ, lvl_length, lvls_length h j (by omega), show d - j = (d - (j + 1)) + 1 by omega, Nat.pow_succ, Nat.mul_div_cancel _ (by decide)]
theorem qLO {a b : List UInt8} (ha : a.length ≤ 1048576) (hb : b.length ≤ 1048576) : (join a b).length ≤ 1048576 := by
  unfold join
  split
  · exact hb
  · split
    · exact ha
    · rw [List.length_cons, Sha.tagged_length]; decide
theorem getD_small {l : List (List UInt8)} (h : ∀ s ∈ l, s.length ≤ 1048576) (k : Nat) : (l.getD k []).length ≤ 1048576 := by
 by_cases hk : k < l.length
 · rw [List.getD_eq_getElem?_getD, List.getElem?_eq_getElem hk]; exact h _ (List.getElem_mem _)
 · rw [List.getD_eq_getElem?_getD, List.getElem?_eq_none (by omega)]; decide
theorem lvls_small {l : List (List UInt8)} (h : ∀ s ∈ l, s.length ≤ 1048576) : ∀ j, ∀ s ∈ lvls l j, s.length ≤ 1048576
 | 0 => h
 | j + 1 => fun s hs => by
  rw [lvls_succ] at hs
  unfold lvl at hs
  obtain ⟨k, _, rfl⟩ := List.mem_map.1 hs
  exact qLO (getD_small (lvls_small h j) _) (getD_small (lvls_small h j) _)
theorem lvl_take {l : List (List UInt8)} {k : Nat} (h : k < l.length / 2) : (lvl l).take (k + 1) = (lvl l).take k ++ [join (l.getD (2 * k) []) (l.getD (2 * k + 1) [])] := by
 rw [List.take_succ_eq_append_getElem (by rw [lvl_length]; exact h)]
 simp [lvl]
end Sb
def cnt (d : Int) : Nat := if d < 0 ∨ 4 < d then 0 else 2 ^ d.toNat
theorem qE3 {d : Int} : cnt d = 0 ↔ (d < 0 ∨ 4 < d) := by
  unfold cnt
  split
  · exact ⟨fun _ => by assumption, fun _ => rfl⟩
  · rename_i h
    exact ⟨fun e => absurd e (Nat.ne_of_gt (Nat.two_pow_pos _)), fun e => absurd e h⟩
theorem qQt (d : Int) : cnt d ≤ 16 := by
 unfold cnt
 split
 · omega
 · exact Nat.le_trans (Nat.pow_le_pow_right (by decide) (show d.toNat ≤ 4 by omega)) (by decide)
theorem qSj {d : Int} (h : cnt d ≠ 0) : cnt d = 2 ^ d.toNat := by
 unfold cnt at h ⊢
 split
 · rename_i h1; rw [if_pos h1] at h; exact absurd rfl h
 · rfl
def qIU (l : List (List UInt8)) (d : Int) : Int := if cnt d = 0 then 1 else if l.length ≠ cnt d then 22 else 0
def qFm (l : List (List UInt8)) (d : Int) : List UInt8 := if qIU l d = 0 then Sb.root l d.toNat else []
theorem qK7 {P : Program} {env : Env} {rs : List Hp} {o : Oper} {t e x p q r sz A n' c l h m} (ho : o.op = .slice t x (some p) (some q) (some r)) (hx : ev env x = some (.slice A n' c)) (hu : P.underlying t = some (.slice e)) (hz : ∀ w, (sizeOf e).run P w = .ok sz w)
    (hlo : ev env p = some (I ((l : Nat) : Int))) (hhi : ev env q = some (I ((h : Nat) : Int))) (hmx : ev env r = some (I ((m : Nat) : Int))) (hr : l ≤ h ∧ h ≤ m ∧ m ≤ c) : YOp P env rs o (.slice (if m = l then A else A.map (·.add (l * sz))) (h - l) (m - l)) := fun n a w hk _ => by
  simp [execOp, ho, hk.ev hx, hk.ev hlo, hk.ev hhi, hk.ev hmx, Instr.sliceAt, Instr.slice, run_underlying hu, Instr.sliceBounds, Instr.sliceBound, asIntOf, hr.1, hr.2.1, hr.2.2, hz]
attribute [local irreducible] Sha.tagged Sb.join Sb.lvl Sb.lvls Sb.root
theorem qGp (F : Hp) (s : List UInt8) : Ct prog 214 [Str s] [F] (fun _ : Unit => .bool (decide (Sb.isLf s))) (fun _ => True) (fun _ => [F]) := by
 refine Ct.walk func214 rfl ntmps214 rfl (fun w0 hw0 => ?_)
 change J _ [(0, _)] _ _ _
 refine J.g fun K1 hK1 => J.b rfl <| J.c hK1 <| J.u 0 ?_
 refine J.g fun K2 hK2 => J.b rfl <| J.f (qJr rfl rfl rfl) rfl <| J.b rfl <| J.c2 (d := 5) rfl (fun h5 => ?_) (fun h5 => ?_)
 ·
  refine J.b rfl <| J.E ((qC6 (l := 0) (h := 1) u9_ rfl rfl rfl rfl ⟨by omega, by have : s.length ≠ 0 := fun e => h5 (List.eq_nil_of_length_eq_zero e); omega⟩).as (congrArg Str List.drop_zero)) rfl <| J.E (qBH rfl rfl rfl) rfl <| J.j 2 rfl <| J.c hK2 <| J.u 2 ?_
  exact J.D <| J.H hw0 rfl () (congrArg Value.bool (decide_eq_decide.2 ⟨fun h => ⟨h5, h⟩, fun h => h.2⟩)) trivial [0] rfl (by decide)
 refine J.j 5 rfl <| J.c hK2 <| J.u 2 ?_
 exact J.D <| J.H hw0 rfl () (congrArg Value.bool (decide_eq_false (fun h => h5 h.1)).symm) trivial [0] rfl (by decide)
theorem qJi (F : Hp) (hK : KF F) (k v : List UInt8) (hk : k.length ≤ 1048576) (hv : v.length ≤ 1048576) : Ct prog 176 [Str k, Str v] [F] (fun _ : Unit => Str (Sb.leafN k v)) (fun _ => True) (fun _ => [F]) := by
 refine Ct.walk func176 rfl ntmps176 rfl (fun w0 hw0 => ?_)
 change J _ [(0, _), (1, _)] _ _ _
 refine J.g fun K1 hK1 => J.b rfl <| J.c hK1 <| J.G 0 1 ?_
 refine J.g fun K2 hK2 => J.j 2 rfl <| J.q (qAH (l := [.tmp 5, .tmp 6]) (xs := [[Str (k)], [Str (v)]]) rfl rfl rfl rfl qAo el9 rfl (by decide) (by decide) (by simp)) rfl fun g7 _ => ?_
 change J _ _ _ [F, blk g7 [Str (k), Str (v)] 9] _
 refine J.q (qAC rfl rfl ent44 (Ct.use0 (fun F' hF => qA4 F' (hK.mono (hF _ (by simp))) 9 (some ⟨g7, 0, none⟩) 2 2 [k, v] ((slS [k, v] rfl).mono (hF (blk g7 (([k, v] : List (List UInt8)).map fun s => Str s) 9) (by simp))) (by simp; omega) (by decide)))) rfl fun g8 _ => J.f ((qCj rfl rfl rfl (by simp only [List.length_append, Sha.tagged_length]; decide))) rfl <| J.b rfl <| J.c hK2 <| J.u 4 ?_
 exact J.D <| J.H hw0 rfl () rfl trivial [0] rfl (by decide)
theorem qEt (F : Hp) (hK : KF F) (a b : List UInt8) (ha : a.length ≤ 1048576) (hb : b.length ≤ 1048576) : Ct prog 177 [Str a, Str b] [F] (fun _ : Unit => Str (Sb.join a b)) (fun _ => True) (fun _ => [F]) := by
 refine Ct.walk func177 rfl ntmps177 rfl (fun w0 hw0 => ?_)
 change J _ [(0, _), (1, _)] _ _ _
 refine J.g fun K1 hK1 => J.b rfl <| J.c hK1 <| J.G 0 1 ?_
 refine J.p fun K2 hK2 => J.W <| J.g fun K3 hK3 => J.b rfl <| J.f (qBH rfl rfl rfl) rfl <| J.b rfl <| J.c2 (d := 8) rfl (fun h8 => ?_) (fun h8 => ?_)
 ·
  refine J.b rfl <| J.E (qBH rfl rfl rfl) rfl <| J.b rfl <| J.c2 (d := 11) rfl (fun h11 => ?_) (fun h11 => ?_)
  ·
   refine J.j 5 rfl <| J.c hK3 <| J.O 0 1 5 ?_
   refine J.c9 ?_
   refine J.g fun K4 hK4 => J.j 2 rfl <| J.c hK4 <| J.u 4 ?_
   exact J.D <| J.a9 <| J.Z <| J.H hw0 rfl () (congrArg Str (by unfold Sb.join; rw [if_pos ⟨h8, .inl h11⟩])) trivial [0] rfl (by decide)
  refine J.b rfl <| J.d5 (qAC rfl rfl ent214 (Ct.use0 (fun F' hF => qGp F' b))) rfl fun g13 _ => J.j 3 rfl <| J.c hK3 <| J.O 0 1 5 ?_
  refine J.a0 rfl (fun h5 => ?_) (fun h5 => ?_)
  ·
   refine J.g fun K5 hK5 => J.j 2 rfl <| J.c hK5 <| J.u 4 ?_
   exact J.D <| J.a9 <| J.Z <| J.H hw0 rfl () (congrArg Str (by unfold Sb.join; rw [if_pos ⟨h8, .inr h5⟩])) trivial [0] rfl (by decide)
  refine J.g fun K6 hK6 => J.b rfl <| J.f (qBH rfl rfl rfl) rfl <| J.b rfl <| J.c2 (d := 20) rfl (fun h20 => ?_) (fun h20 => ?_)
  ·
   refine J.b rfl <| J.d5 (qAC rfl rfl ent214 (Ct.use0 (fun F' hF => qGp F' a))) rfl fun g22 _ => J.j 2 rfl <| J.c hK6 <| J.O 0 1 17 ?_
   refine J.a0 rfl (fun h17 => ?_) (fun h17 => ?_)
   ·
    refine J.g fun K7 hK7 => J.j 2 rfl <| J.c hK7 <| J.u 4 ?_
    exact J.D <| J.a9 <| J.Z <| J.H hw0 rfl () (absurd h20 h11) trivial [0] rfl (by decide)
   refine J.b9 <| J.a5 <| J.A (J.L hK2 ?_)
   refine J.G 0 1 ?_
   refine J.g fun K8 hK8 => J.j 2 rfl <| J.q (qAH (l := [.tmp 25, .tmp 26]) (xs := [[Str (a)], [Str (b)]]) rfl rfl rfl rfl qAo el9 rfl (by decide) (by decide) (by simp)) rfl fun g27 _ => ?_
   change J _ _ _ [F, blk g27 [Str (a), Str (b)] 9] _
   refine J.q (qAC rfl rfl ent44 (Ct.use0 (fun F' hF => qA4 F' (hK.mono (hF _ (by simp))) 10 (some ⟨g27, 0, none⟩) 2 2 [a, b] ((slS [a, b] rfl).mono (hF (blk g27 (([a, b] : List (List UInt8)).map fun s => Str s) 9) (by simp))) (by simp; omega) (by decide)))) rfl fun g28 _ => J.f ((qCj rfl rfl rfl (by simp only [List.length_append, Sha.tagged_length]; decide))) rfl <| J.b rfl <| J.c hK8 <| J.u 4 ?_
   exact J.D <| J.H hw0 rfl () (absurd h20 h11) trivial [0] rfl (by decide)
  refine J.j 4 rfl <| J.c hK6 <| J.O 0 1 17 ?_
  refine J.b2 ?_
  refine J.b9 <| J.a5 <| J.A (J.L hK2 ?_)
  refine J.G 0 1 ?_
  refine J.g fun K9 hK9 => J.j 2 rfl <| J.q (qAH (l := [.tmp 25, .tmp 26]) (xs := [[Str (a)], [Str (b)]]) rfl rfl rfl rfl qAo el9 rfl (by decide) (by decide) (by simp)) rfl fun g27 _ => ?_
  change J _ _ _ [F, blk g27 [Str (a), Str (b)] 9] _
  refine J.q (qAC rfl rfl ent44 (Ct.use0 (fun F' hF => qA4 F' (hK.mono (hF _ (by simp))) 10 (some ⟨g27, 0, none⟩) 2 2 [a, b] ((slS [a, b] rfl).mono (hF (blk g27 (([a, b] : List (List UInt8)).map fun s => Str s) 9) (by simp))) (by simp; omega) (by decide)))) rfl fun g28 _ => J.f ((qCj rfl rfl rfl (by simp only [List.length_append, Sha.tagged_length]; decide))) rfl <| J.b rfl <| J.c hK9 <| J.u 4 ?_
  exact J.D <| J.H hw0 rfl () (congrArg Str (by unfold Sb.join; rw [if_neg (fun h => h.2.elim h11 h5), if_neg (fun h => h20 h.1)]; rfl)) trivial [0] rfl (by decide)
 refine J.j 3 rfl <| J.d0 (Wan.un rfl rfl rfl rfl) rfl rfl ?_
 refine J.d0 (Wan.un rfl rfl rfl rfl) rfl rfl ?_
 refine J.j 3 rfl <| J.c hK3 <| J.O 0 1 5 ?_
 refine J.b2 ?_
 refine J.g fun K10 hK10 => J.b rfl <| J.f (qBH rfl rfl rfl) rfl <| J.b rfl <| J.c2 (d := 20) rfl (fun h20 => ?_) (fun h20 => ?_)
 ·
  refine J.b rfl <| J.d5 (qAC rfl rfl ent214 (Ct.use0 (fun F' hF => qGp F' a))) rfl fun g22 _ => J.j 2 rfl <| J.c hK10 <| J.O 0 1 17 ?_
  refine J.a0 rfl (fun h17 => ?_) (fun h17 => ?_)
  ·
   refine J.g fun K11 hK11 => J.j 2 rfl <| J.c hK11 <| J.u 4 ?_
   exact J.D <| J.a9 <| J.Z <| J.H hw0 rfl () (congrArg Str (by unfold Sb.join; rw [if_neg (fun h => h8 h.1), if_pos ⟨h20, h17⟩])) trivial [0] rfl (by decide)
  refine J.b9 <| J.a5 <| J.A (J.L hK2 ?_)
  refine J.G 0 1 ?_
  refine J.g fun K12 hK12 => J.j 2 rfl <| J.q (qAH (l := [.tmp 25, .tmp 26]) (xs := [[Str (a)], [Str (b)]]) rfl rfl rfl rfl qAo el9 rfl (by decide) (by decide) (by simp)) rfl fun g27 _ => ?_
  change J _ _ _ [F, blk g27 [Str (a), Str (b)] 9] _
  refine J.q (qAC rfl rfl ent44 (Ct.use0 (fun F' hF => qA4 F' (hK.mono (hF _ (by simp))) 10 (some ⟨g27, 0, none⟩) 2 2 [a, b] ((slS [a, b] rfl).mono (hF (blk g27 (([a, b] : List (List UInt8)).map fun s => Str s) 9) (by simp))) (by simp; omega) (by decide)))) rfl fun g28 _ => J.f ((qCj rfl rfl rfl (by simp only [List.length_append, Sha.tagged_length]; decide))) rfl <| J.b rfl <| J.c hK12 <| J.u 4 ?_
  exact J.D <| J.H hw0 rfl () (congrArg Str (by unfold Sb.join; rw [if_neg (fun h => h8 h.1), if_neg (fun h => h17 h.2)]; rfl)) trivial [0] rfl (by decide)
 refine J.j 4 rfl <| J.c hK10 <| J.O 0 1 17 ?_
 refine J.b2 ?_
 refine J.b9 <| J.a5 <| J.A (J.L hK2 ?_)
 refine J.G 0 1 ?_
 refine J.g fun K13 hK13 => J.j 2 rfl <| J.q (qAH (l := [.tmp 25, .tmp 26]) (xs := [[Str (a)], [Str (b)]]) rfl rfl rfl rfl qAo el9 rfl (by decide) (by decide) (by simp)) rfl fun g27 _ => ?_
 change J _ _ _ [F, blk g27 [Str (a), Str (b)] 9] _
 refine J.q (qAC rfl rfl ent44 (Ct.use0 (fun F' hF => qA4 F' (hK.mono (hF _ (by simp))) 10 (some ⟨g27, 0, none⟩) 2 2 [a, b] ((slS [a, b] rfl).mono (hF (blk g27 (([a, b] : List (List UInt8)).map fun s => Str s) 9) (by simp))) (by simp; omega) (by decide)))) rfl fun g28 _ => J.f ((qCj rfl rfl rfl (by simp only [List.length_append, Sha.tagged_length]; decide))) rfl <| J.b rfl <| J.c hK13 <| J.u 4 ?_
 exact J.D <| J.H hw0 rfl () (congrArg Str (by unfold Sb.join; rw [if_neg (fun h => h8 h.1), if_neg (fun h => h20 h.1)]; rfl)) trivial [0] rfl (by decide)
end Go.Proofs.YtfldiegfenndjaaGreatDoor
namespace Go.Proofs.YtfldiegfenndjaaGreatDoor
open Go Go.Fw Go.Proofs.Tryz
set_option maxRecDepth 100000
set_option maxHeartbeats 1000000
namespace Sm
def kv : List UInt8 → Nat
 | [] => 0
 | b :: r => b.toNat * 256 ^ r.length + kv r
theorem kv_lt : ∀ k : List UInt8, kv k < 256 ^ k.length
 | [] => Nat.one_pos
 | b :: r => by
  have h1 := kv_lt r
  have h2 := b.toNat_lt
  have h3 : b.toNat * 256 ^ r.length ≤ 255 * 256 ^ r.length := Nat.mul_le_mul_right _ (by omega)
  rw [kv, List.length_cons, Nat.pow_succ]
  omega
theorem qQk : ∀ {a b : List UInt8}, a.length = b.length → kv a = kv b → a = b
 | [], [], _, _ => rfl
 | [], _ :: _, h, _ => by simp at h
 | _ :: _, [], h, _ => by simp at h
 | x :: a, y :: b, h, e => by
  have hl : a.length = b.length := by simpa using h
  rw [kv, kv, hl] at e
  have h1 := kv_lt a
  have h2 := kv_lt b
  rw [hl] at h1
  have hp : 0 < 256 ^ b.length := Nat.pow_pos (by decide)
  have e1 : x.toNat = y.toNat := by
   have := congrArg (· / 256 ^ b.length) e
   simp only [Nat.mul_comm _ (256 ^ b.length), Nat.mul_add_div hp, Nat.div_eq_of_lt h1, Nat.div_eq_of_lt h2, Nat.add_zero] at this
   exact this
  have e2 : kv a = kv b := by rw [e1] at e; omega
  rw [UInt8.toNat_inj.1 e1, qQk hl e2]
theorem qKA : ∀ {a b : List UInt8}, a.length = b.length → a < b → kv a < kv b
  | [], [], _, h => absurd h (List.lt_irrefl _)
  | [], _ :: _, h, _ => by simp at h
  | _ :: _, [], h, _ => by simp at h
  | x :: a, y :: b, h, e => by
    have hl : a.length = b.length := by simpa using h
    have h1 := kv_lt a
    have h2 := kv_lt b
    rw [hl] at h1
    rw [kv, kv, hl]
    rcases List.cons_lt_cons_iff.1 e with h5 | ⟨h4, h5⟩
    · have : x.toNat + 1 ≤ y.toNat := UInt8.lt_iff_toNat_lt.1 h5
      have h3 := Nat.mul_le_mul_right (256 ^ b.length) this
      rw [Nat.add_mul] at h3
      omega
    · have := qKA hl h5; rw [h4]; omega
theorem qQl : ∀ {k : List UInt8} {q : Nat}, q < k.length → (k.getD q 0).toNat = kv k / 256 ^ (k.length - 1 - q) % 256
 | [], _, h => by simp at h
 | b :: r, 0, _ => by
  have h1 := kv_lt r
  have hp : 0 < 256 ^ r.length := Nat.pow_pos (by decide)
  have h2 := b.toNat_lt
  rw [kv, List.length_cons, Nat.add_sub_cancel, Nat.sub_zero, Nat.mul_comm, Nat.mul_add_div hp, Nat.div_eq_of_lt h1, Nat.add_zero, Nat.mod_eq_of_lt (by omega)]
  rfl
 | b :: r, q + 1, h => by
  have h' : q < r.length := by simpa using h
  rw [List.getD_cons_succ, qQl h', kv, List.length_cons]
  obtain ⟨m, hm⟩ : ∃ m, r.length = m + 1 + q := ⟨r.length - 1 - q, by omega⟩
  rw [show r.length + 1 - 1 - (q + 1) = m by omega, show r.length - 1 - q = m by omega, hm, show m + 1 + q = m + (q + 1) by omega, Nat.pow_add, show b.toNat * (256 ^ m * 256 ^ (q + 1)) = 256 ^ m * (b.toNat * 256 ^ q * 256) by rw [Nat.pow_succ, Nat.mul_left_comm, Nat.mul_assoc],
   Nat.mul_add_div (Nat.pow_pos (by decide)), Nat.add_mod, Nat.mul_mod_left, Nat.zero_add, Nat.mod_mod]
def bit (k : List UInt8) (d : Nat) : Nat := if d < 8 * k.length then (k.getD (d / 8) 0).toNat / 2 ^ (7 - d % 8) % 2 else 0
theorem bit_le (k : List UInt8) (d : Nat) : bit k d < 2 := by unfold bit; split <;> omega
theorem qI6 (x j : Nat) (h : j ≤ 7) : x % 256 / 2 ^ j % 2 = x / 2 ^ j % 2 := by
 have h0 : j = 0 ∨ j = 1 ∨ j = 2 ∨ j = 3 ∨ j = 4 ∨ j = 5 ∨ j = 6 ∨ j = 7 := by omega
 rcases h0 with rfl | rfl | rfl | rfl | rfl | rfl | rfl | rfl <;> simp only [Nat.reducePow] <;> omega
theorem bit_kv {k : List UInt8} (h : k.length = 16) {d : Nat} (hd : d < 128) : bit k d = kv k / 2 ^ (127 - d) % 2 := by
 unfold bit
 rw [if_pos (by omega), qQl (by omega), h, qI6 _ _ (by omega), Nat.div_div_eq_div_mul, show (256 : Nat) = 2 ^ 8 from rfl, ← Nat.pow_mul, ← Nat.pow_add, show 8 * (16 - 1 - d / 8) + (7 - d % 8) = 127 - d by omega]
theorem pre_succ (x f : Nat) : x / 2 ^ f = 2 * (x / 2 ^ (f + 1)) + x / 2 ^ f % 2 := by
 rw [Nat.pow_succ, ← Nat.div_div_eq_div_mul]; omega
abbrev PR := List UInt8 × List UInt8
def side (f : Nat) (b : Bool) (l : List PR) : List PR := l.filter fun p => decide (kv p.1 / 2 ^ f % 2 = 0) == b
def nd : Nat → List PR → List UInt8
 | _, [] => [0]
 | _, [p] => Sb.leafN p.1 p.2
 | 0, _ => []
 | f + 1, l => Sb.join (nd f (side f true l)) (nd f (side f false l))
theorem nd_nil (f : Nat) : nd f [] = [0] := by cases f <;> rfl
theorem nd_one (f : Nat) (p : PR) : nd f [p] = Sb.leafN p.1 p.2 := by cases f <;> rfl
theorem nd_two (f : Nat) {l : List PR} (h : 2 ≤ l.length) : nd (f + 1) l = Sb.join (nd f (side f true l)) (nd f (side f false l)) := by
 match l, h with
 | a :: b :: r, _ => rfl
def WF (f : Nat) (l : List PR) : Prop := l.Pairwise (fun p q => p.1 ≠ q.1) ∧ (∀ p ∈ l, p.1.length = 16) ∧ ∀ p ∈ l, ∀ q ∈ l, kv p.1 / 2 ^ f = kv q.1 / 2 ^ f
theorem WF.nil (f : Nat) : WF f [] := ⟨List.Pairwise.nil, by simp, by simp⟩
theorem WF.side {f : Nat} {l : List PR} (h : WF (f + 1) l) (b : Bool) : WF f (side f b l) := by
 refine ⟨h.1.sublist List.filter_sublist, fun p hp => h.2.1 p (List.mem_filter.1 hp).1, fun p hp q hq => ?_⟩
 obtain ⟨h1, h2⟩ := List.mem_filter.1 hp
 obtain ⟨h3, h4⟩ := List.mem_filter.1 hq
 have h5 := h.2.2 p h1 q h3
 rw [beq_iff_eq] at h2 h4
 have e1 := pre_succ (kv p.1) f
 have e2 := pre_succ (kv q.1) f
 have e3 : kv p.1 / 2 ^ f % 2 = kv q.1 / 2 ^ f % 2 := by
  have h6 : decide (kv p.1 / 2 ^ f % 2 = 0) = decide (kv q.1 / 2 ^ f % 2 = 0) := h2.trans h4.symm
  have h7 := decide_eq_decide.1 h6
  omega
 omega
theorem WF.short {l : List PR} (h : WF 0 l) : l.length ≤ 1 := by
 match l, h with
 | [], _ => exact Nat.zero_le _
 | [_], _ => exact Nat.le_refl _
 | a :: b :: r, h =>
  exfalso
  have h1 := h.2.2 a (.head _) b (.tail _ (.head _))
  rw [Nat.pow_zero, Nat.div_one, Nat.div_one] at h1
  exact (List.pairwise_cons.1 h.1).1 b (.head _) (qQk ((h.2.1 a (.head _)).trans (h.2.1 b (.tail _ (.head _))).symm) h1)
theorem WF.top {l : List PR} (h1 : l.Pairwise (fun p q => p.1 ≠ q.1)) (h2 : ∀ p ∈ l, p.1.length = 16) : WF 128 l :=
 ⟨h1, h2, fun p hp q hq => by
  have e1 := kv_lt p.1
  have e2 := kv_lt q.1
  rw [h2 p hp] at e1
  rw [h2 q hq] at e2
  rw [Nat.div_eq_of_lt (Nat.lt_of_lt_of_eq e1 (by decide)), Nat.div_eq_of_lt (Nat.lt_of_lt_of_eq e2 (by decide))]⟩
theorem WF.perm {f : Nat} {l l' : List PR} (h : WF f l) (hp : l.Perm l') : WF f l' :=
 ⟨(hp.pairwise_iff (fun h => h.symm)).1 h.1, fun p q => h.2.1 p (hp.mem_iff.2 q), fun p hp1 q hq1 => h.2.2 p (hp.mem_iff.2 hp1) q (hp.mem_iff.2 hq1)⟩
theorem side_len (f : Nat) (l : List PR) : (side f true l).length + (side f false l).length = l.length := by
 induction l with
 | nil => rfl
 | cons p r ih =>
  unfold side at ih ⊢
  rw [List.filter_cons, List.filter_cons]
  rcases h : decide (kv p.1 / 2 ^ f % 2 = 0) with _ | _
  · rw [if_neg (by decide), if_pos (by decide), List.length_cons, List.length_cons]; omega
  · rw [if_pos (by decide), if_neg (by decide), List.length_cons, List.length_cons]; omega
theorem nd_perm : ∀ (f : Nat) {l l' : List PR}, WF f l → l.Perm l' → nd f l = nd f l'
 | f, [], l', _, hp => by rw [hp.nil_eq]
 | f, [p], l', _, hp => by rw [List.singleton_perm.1 hp]
 | 0, a :: b :: r, l', h, hp => by have := h.short; simp at this
 | f + 1, a :: b :: r, l', h, hp => by
  have hl := hp.length_eq
  rw [nd_two f (by simp), nd_two f (by rw [← hl]; simp), nd_perm f (h.side true) (hp.filter _), nd_perm f (h.side false) (hp.filter _)]; rfl
theorem qJ8 (k v : List UInt8) : Sb.isLf (Sb.leafN k v) := ⟨by simp [Sb.leafN], by simp [Sb.leafN]⟩
theorem qJ7 (k v : List UInt8) : Sb.leafN k v ≠ [0] := fun h => by
 have := (qJ8 k v).2
 rw [h] at this; cases this
theorem qSO {a b : List UInt8} (h : a ≠ [0] ∨ b ≠ [0]) : Sb.join a b ≠ [0] := by
  unfold Sb.join
  split
  · rename_i h1
    rcases h with h | h
    · exact absurd h1.1 h
    · exact h
  · split
    · rename_i h1
      rcases h with h | h
      · exact h
      · exact absurd h1.1 h
    · intro e; injection e with e _; cases e
theorem qSC : ∀ (f : Nat) {l : List PR}, WF f l → l ≠ [] → nd f l ≠ [0]
  | f, [], _, h => absurd rfl h
  | f, [p], _, _ => by rw [nd_one]; exact qJ7 _ _
  | 0, a :: b :: r, h, _ => by have := h.short; simp at this
  | f + 1, a :: b :: r, h, _ => by
    rw [nd_two f (by simp)]
    refine qSO ?_
    have hl := side_len f (a :: b :: r)
    simp only [List.length_cons] at hl
    by_cases h1 : side f true (a :: b :: r) = []
    · refine .inr (qSC f (h.side false) fun h2 => ?_)
      rw [h1, h2] at hl; simp at hl
    · exact .inl (qSC f (h.side true) h1)
theorem nd_eq0 {f : Nat} {l : List PR} (h : WF f l) : nd f l = [0] ↔ l = [] :=
 ⟨fun e => Decidable.by_contra fun hn => qSC f h hn e, fun e => by rw [e, nd_nil]⟩
theorem nd_small : ∀ (f : Nat) (l : List PR), (nd f l).length ≤ 17
  | f, [] => by rw [nd_nil]; decide
  | f, [p] => by rw [nd_one]; unfold Sb.leafN; rw [List.length_cons, Sha.tagged_length]; decide
  | 0, a :: b :: r => Nat.zero_le _
  | f + 1, a :: b :: r => by
    rw [nd_two f (by simp)]
    unfold Sb.join
    split
    · exact nd_small f _
    · split
      · exact nd_small f _
      · rw [List.length_cons, Sha.tagged_length]; decide
def Up (l : List PR) : Prop := l.Pairwise (fun p q => kv p.1 < kv q.1)
theorem Up.sub {l l' : List PR} (h : Up l) (hs : l'.Sublist l) : Up l' := h.sublist hs
theorem up_bits {f : Nat} {l : List PR} (h : WF (f + 1) l) (hu : Up l) {k : Nat} (hk : ∀ j (hj : j < l.length), j < k → kv l[j].1 / 2 ^ f % 2 = 0) (hn : ∀ (hj : k < l.length), kv l[k].1 / 2 ^ f % 2 ≠ 0) : l.take k = side f true l ∧ l.drop k = side f false l := by
  have h1 : ∀ p ∈ l.take k, kv p.1 / 2 ^ f % 2 = 0 := fun p hp => by
    obtain ⟨j, hj, rfl⟩ := List.getElem_of_mem hp
    rw [List.length_take] at hj
    rw [List.getElem_take]
    exact hk j (by omega) (by omega)
  have h2 : ∀ p ∈ l.drop k, kv p.1 / 2 ^ f % 2 ≠ 0 := fun p hp => by
    obtain ⟨j, hj, rfl⟩ := List.getElem_of_mem hp
    rw [List.length_drop] at hj
    rw [List.getElem_drop]
    have hkl : k < l.length := by omega
    have hb := hn hkl
    rcases Nat.eq_zero_or_pos j with rfl | hj0
    · exact hb
    · have hlt : kv l[k].1 < kv l[k + j].1 := List.pairwise_iff_getElem.1 hu k (k + j) hkl (by omega) (by omega)
      have e := h.2.2 _ (List.getElem_mem hkl) _ (List.getElem_mem (show k + j < l.length by omega))
      have e1 := pre_succ (kv l[k].1) f
      have e2 := pre_succ (kv l[k + j].1) f
      have e3 := Nat.div_le_div_right (c := 2 ^ f) (Nat.le_of_lt hlt)
      omega
  have h3 : side f true l = side f true (l.take k) ++ side f true (l.drop k) := by unfold side; rw [← List.filter_append, List.take_append_drop]
  have h4 : side f false l = side f false (l.take k) ++ side f false (l.drop k) := by unfold side; rw [← List.filter_append, List.take_append_drop]
  constructor
  · rw [h3, show side f true (l.take k) = l.take k from List.filter_eq_self.2 fun p hp => by rw [decide_eq_true (h1 p hp)]; rfl, show side f true (l.drop k) = [] from List.filter_eq_nil_iff.2 fun p hp => by rw [decide_eq_false (h2 p hp)]; simp, List.append_nil]
  · rw [h4, show side f false (l.take k) = [] from List.filter_eq_nil_iff.2 fun p hp => by rw [decide_eq_true (h1 p hp)]; simp, show side f false (l.drop k) = l.drop k from List.filter_eq_self.2 fun p hp => by rw [decide_eq_false (h2 p hp)]; rfl, List.nil_append]
def putP : List PR → List UInt8 → List UInt8 → List PR
 | [], k, v => [(k, v)]
 | p :: r, k, v => if p.1 = k then (k, v) :: r else p :: putP r k v
def getP : List PR → List UInt8 → Option (List UInt8)
 | [], _ => none
 | p :: r, k => if p.1 = k then some p.2 else getP r k
def setP (l : List PR) (k v : List UInt8) : List PR := l.filter (fun p => decide (p.1 ≠ k)) ++ [(k, v)]
def Once (l : List PR) : Prop := l.Pairwise (fun p q => p.1 ≠ q.1)
theorem Once.perm {l l' : List PR} (h : Once l) (hp : l.Perm l') : Once l' := (hp.pairwise_iff (fun h => h.symm)).1 h
theorem qNT {l : List PR} {k : List UInt8} (h : ∀ p ∈ l, p.1 ≠ k) : l.filter (fun p => decide (p.1 ≠ k)) = l := List.filter_eq_self.2 fun p hp => decide_eq_true (h p hp)
theorem putP_perm : ∀ {l : List PR} (k v : List UInt8), Once l → (putP l k v).Perm (setP l k v)
  | [], k, v, _ => List.Perm.refl _
  | p :: r, k, v, h => by
    obtain ⟨h1, h2⟩ := List.pairwise_cons.1 h
    unfold putP setP
    by_cases e : p.1 = k
    · rw [if_pos e, List.filter_cons, if_neg (by simp [e]), qNT (fun q hq e2 => h1 q hq (e.trans e2.symm))]
      exact (List.perm_append_singleton _ _).symm
    · rw [if_neg e, List.filter_cons, if_pos (by simp [e]), List.cons_append]
      exact (putP_perm k v h2).cons p
theorem setP_perm {l l' : List PR} (k v : List UInt8) (h : l.Perm l') : (setP l k v).Perm (setP l' k v) := (h.filter _).append_right _
theorem setP_once {l : List PR} (k v : List UInt8) (h : Once l) : Once (setP l k v) := by
 unfold setP Once
 rw [List.pairwise_append]
 refine ⟨h.sublist List.filter_sublist, by simp, fun p hp q hq => ?_⟩
 rw [List.mem_singleton.1 hq]
 simpa using (List.mem_filter.1 hp).2
theorem setP_mem {l : List PR} {k v : List UInt8} {p : PR} (h : p ∈ setP l k v) : p ∈ l ∨ p = (k, v) := by
 unfold setP at h
 rcases List.mem_append.1 h with h | h
 · exact .inl (List.mem_filter.1 h).1
 · exact .inr (List.mem_singleton.1 h)
theorem getP_mem {l : List PR} (h : Once l) {p : PR} (hp : p ∈ l) : getP l p.1 = some p.2 := by
 induction l with
 | nil => cases hp
 | cons q r ih =>
  obtain ⟨h1, h2⟩ := List.pairwise_cons.1 h
  rcases List.mem_cons.1 hp with rfl | hp
  · rw [getP, if_pos rfl]
  · rw [getP, if_neg (h1 p hp), ih h2 hp]
theorem getP_some {l : List PR} {k v : List UInt8} (h : getP l k = some v) : (k, v) ∈ l := by
  induction l with
  | nil => cases h
  | cons p r ih =>
    rw [getP] at h
    split at h
    · rename_i e
      injection h with h
      rw [← e, ← h]; exact .head _
    · exact .tail _ (ih h)
theorem putP_len (l : List PR) (k v : List UInt8) : (putP l k v).length ≤ l.length + 1 := by
 induction l with
 | nil => exact Nat.le_refl _
 | cons p r ih =>
  rw [putP]
  split
  · simp
  · simp only [List.length_cons]; omega
def srt (l : List (List UInt8)) : List (List UInt8) := l.mergeSort (fun x y => decide (x ≤ y))
theorem qDJ (l : List (List UInt8)) : (srt l).Perm l := List.mergeSort_perm l _
theorem srt_len (l : List (List UInt8)) : (srt l).length = l.length := (qDJ l).length_eq
theorem qMB (l : List (List UInt8)) : (srt l).Pairwise (fun x y => x ≤ y) := by
 have h := List.pairwise_mergeSort (le := fun (x y : List UInt8) => decide (x ≤ y)) (fun a b c h1 h2 => by
  simp only [decide_eq_true_eq] at *; exact List.le_trans h1 h2) (fun a b => by
  simp only [Bool.or_eq_true, decide_eq_true_eq]; exact List.le_total a b) l
 exact h.imp fun h => by simpa using h
theorem srt_eq {l l' : List (List UInt8)} (h : l.Perm l') : srt l = srt l' :=
 List.Perm.eq_of_pairwise (fun a b _ _ h1 h2 => List.le_antisymm h1 h2) (qMB l) (qMB l') ((qDJ l).trans (h.trans (qDJ l').symm))
def keysS (l : List PR) : List (List UInt8) := srt (l.map (·.1))
theorem keysS_len (l : List PR) : (keysS l).length = l.length := by unfold keysS; rw [srt_len, List.length_map]
theorem keysS_mem {l : List PR} {k : List UInt8} : k ∈ keysS l ↔ ∃ v, (k, v) ∈ l := by
 unfold keysS
 rw [(qDJ _).mem_iff, List.mem_map]
 exact ⟨fun ⟨p, hp, e⟩ => ⟨p.2, e ▸ hp⟩, fun ⟨v, hv⟩ => ⟨_, hv, rfl⟩⟩
def prs (l : List PR) (ks : List (List UInt8)) : List PR := ks.map fun k => (k, (getP l k).getD [])
theorem qOt {l l' : List PR} (h : Once l) (hs : ∀ p ∈ l', p ∈ l) : prs l (l'.map (·.1)) = l' := by
 unfold prs
 rw [List.map_map]
 conv => rhs; rw [← List.map_id l']
 refine List.map_congr_left fun p hp => ?_
 show (p.1, (getP l p.1).getD []) = p
 rw [getP_mem h (hs p hp)]; rfl
theorem prs_perm {l : List PR} (h : Once l) : (prs l (keysS l)).Perm l := by
 have h1 : (prs l (keysS l)).Perm (prs l (l.map (·.1))) := (qDJ _).map _
 rwa [qOt h (fun _ h => h)] at h1
theorem qLM {l : List PR} (h : Once l) : (keysS l).Pairwise (· ≠ ·) := ((qDJ _).symm.pairwise_iff (fun h => h.symm)).1 (List.pairwise_map.2 h)
theorem qPd {l : List PR} (h : Once l) : (keysS l).Pairwise (· < ·) := by
 have h1 := qMB (l.map (·.1))
 exact (h1.and (qLM h)).imp fun ⟨h1, h2⟩ => Decidable.by_contra fun h3 => h2 (List.le_antisymm h1 (List.not_lt.1 h3))
theorem prs_up {l : List PR} (h : Once l) (hl : ∀ p ∈ l, p.1.length = 16) : Up (prs l (keysS l)) := by
 unfold Up prs
 rw [List.pairwise_map]
 refine (qPd h).imp_of_mem fun ha hb hab => ?_
 obtain ⟨v, hv⟩ := keysS_mem.1 ha
 obtain ⟨u, hu⟩ := keysS_mem.1 hb
 exact qKA ((hl _ hv).trans (hl _ hu).symm) hab
theorem prs_take (l : List PR) (ks : List (List UInt8)) (k : Nat) : prs l (ks.take k) = (prs l ks).take k := by unfold prs; rw [List.map_take]
theorem prs_drop (l : List PR) (ks : List (List UInt8)) (k : Nat) : prs l (ks.drop k) = (prs l ks).drop k := by unfold prs; rw [List.map_drop]
theorem prs_filter (l : List PR) (ks : List (List UInt8)) (q : List UInt8 → Bool) : prs l (ks.filter q) = (prs l ks).filter (fun p => q p.1) := by
 unfold prs
 rw [List.filter_map]; rfl
theorem prs_len (l : List PR) (ks : List (List UInt8)) : (prs l ks).length = ks.length := by unfold prs; rw [List.length_map]
theorem prs_get (l : List PR) (ks : List (List UInt8)) {j : Nat} (h : j < (prs l ks).length) (h' : j < ks.length) : (prs l ks)[j] = (ks[j], (getP l ks[j]).getD []) := List.getElem_map ..
def belowB (k b : List UInt8) (d : Nat) : Bool := (List.range d).all fun i => decide (bit k i = bit b i)
theorem belowB_succ (k b : List UInt8) (d : Nat) : belowB k b (d + 1) = (belowB k b d && decide (bit k d = bit b d)) := by
 unfold belowB; rw [List.range_succ, List.all_append]; simp
theorem belowB_no {k b : List UInt8} {d i : Nat} (hi : i < d) (h : bit k i ≠ bit b i) : belowB k b d = false := by
 rw [Bool.eq_false_iff]
 intro h1
 exact h (of_decide_eq_true (List.all_eq_true.1 h1 i (List.mem_range.2 hi)))
theorem belowB_yes {k b : List UInt8} {d : Nat} (h : ∀ i < d, bit k i = bit b i) : belowB k b d = true := List.all_eq_true.2 fun i hi => decide_eq_true (h i (List.mem_range.1 hi))
theorem belowB_kv {k b : List UInt8} (hk : k.length = 16) (hb : b.length = 16) : ∀ {d : Nat}, d ≤ 128 → (belowB k b d = true ↔ kv k / 2 ^ (128 - d) = kv b / 2 ^ (128 - d))
 | 0, _ => by
  have h1 := kv_lt k
  have h2 := kv_lt b
  rw [hk] at h1
  rw [hb] at h2
  rw [Nat.div_eq_of_lt (Nat.lt_of_lt_of_eq h1 (by decide)), Nat.div_eq_of_lt (Nat.lt_of_lt_of_eq h2 (by decide))]
  exact ⟨fun _ => rfl, fun _ => rfl⟩
 | d + 1, hd => by
  have ih := belowB_kv hk hb (d := d) (by omega)
  have e1 := pre_succ (kv k) (127 - d)
  have e2 := pre_succ (kv b) (127 - d)
  rw [show 127 - d + 1 = 128 - d by omega] at e1 e2
  rw [belowB_succ, Bool.and_eq_true, ih, decide_eq_true_eq, bit_kv hk (by omega), bit_kv hb (by omega), show 128 - (d + 1) = 127 - d by omega]
  constructor
  · rintro ⟨h1, h2⟩; omega
  · intro h1; omega
def bel (l : List PR) (b : List UInt8) (d : Nat) : List PR := l.filter fun p => belowB p.1 b d
theorem bel_wf {l : List PR} (h : Once l) (hl : ∀ p ∈ l, p.1.length = 16) {b : List UInt8} (hb : b.length = 16) {d : Nat} (hd : d ≤ 128) : WF (128 - d) (bel l b d) :=
 ⟨h.sublist List.filter_sublist, fun p hp => hl p (List.mem_filter.1 hp).1, fun p hp q hq => by
  obtain ⟨h1, h2⟩ := List.mem_filter.1 hp
  obtain ⟨h3, h4⟩ := List.mem_filter.1 hq
  rw [(belowB_kv (hl p h1) hb hd).1 h2, (belowB_kv (hl q h3) hb hd).1 h4]⟩
theorem bel_zero (l : List PR) (b : List UInt8) : bel l b 0 = l := List.filter_eq_self.2 fun _ _ => rfl
theorem qSD {f : Nat} {l : List PR} (h : WF (f + 1) l) : Sb.join (nd f (side f true l)) (nd f (side f false l)) = nd (f + 1) l := by
  match l, h with
  | [], _ => rw [show side f true [] = [] from rfl, show side f false [] = [] from rfl, nd_nil, nd_nil]; rfl
  | [p], _ =>
    have hl := qJ8 p.1 p.2
    rcases hb : decide (kv p.1 / 2 ^ f % 2 = 0) with _ | _
    · rw [show side f true [p] = [] by unfold side; rw [List.filter_cons, if_neg (by rw [hb]; decide)]; rfl, show side f false [p] = [p] by unfold side; rw [List.filter_cons, if_pos (by rw [hb]; decide)]; rfl, nd_nil, nd_one, nd_one]
      unfold Sb.join
      rw [if_pos ⟨rfl, .inr hl⟩]
    · rw [show side f true [p] = [p] by unfold side; rw [List.filter_cons, if_pos (by rw [hb]; decide)]; rfl, show side f false [p] = [] by unfold side; rw [List.filter_cons, if_neg (by rw [hb]; decide)]; rfl, nd_nil, nd_one, nd_one]
      unfold Sb.join
      rw [if_neg (fun h => qJ7 _ _ h.1), if_pos ⟨rfl, hl⟩]
  | a :: b :: r, _ => rfl
theorem bel_half {l : List PR} (hl : ∀ p ∈ l, p.1.length = 16) {b c : List UInt8} (hb : b.length = 16) (hc : c.length = 16) {d : Nat} (hd : d < 128) (t : Bool) (h : kv c / 2 ^ (127 - d) = 2 * (kv b / 2 ^ (128 - d)) + (if t = true then 0 else 1)) :
    bel l c (d + 1) = side (127 - d) t (bel l b d) := by
  unfold bel side
  rw [List.filter_filter]
  refine List.filter_congr fun p hp => ?_
  have h1 := belowB_kv (hl p hp) hc (d := d + 1) (by omega)
  have h2 := belowB_kv (hl p hp) hb (d := d) (by omega)
  have e1 := pre_succ (kv p.1) (127 - d)
  rw [show 127 - d + 1 = 128 - d by omega] at e1
  rw [show 128 - (d + 1) = 127 - d by omega, h] at h1
  rw [Bool.eq_iff_iff, h1, Bool.and_eq_true, h2, beq_iff_eq]
  cases t
  · rw [if_neg (by decide), decide_eq_false_iff_not]
    constructor
    · intro h; omega
    · rintro ⟨h3, h4⟩; omega
  · rw [if_pos rfl, decide_eq_true_eq]
    constructor
    · intro h; omega
    · rintro ⟨h3, h4⟩; omega
def ndB (l : List PR) (b : List UInt8) (d : Nat) : List UInt8 := nd (128 - d) (bel l b d)
theorem ndB_join {l : List PR} (h : Once l) (hl : ∀ p ∈ l, p.1.length = 16) {b c e : List UInt8} (hb : b.length = 16) (hc : c.length = 16) (he : e.length = 16) {d : Nat} (hd : d < 128)
    (h0 : kv c / 2 ^ (127 - d) = 2 * (kv b / 2 ^ (128 - d))) (h1 : kv e / 2 ^ (127 - d) = 2 * (kv b / 2 ^ (128 - d)) + 1) : Sb.join (ndB l c (d + 1)) (ndB l e (d + 1)) = ndB l b d := by
  unfold ndB
  have hw := bel_wf h hl hb (d := d) (by omega)
  rw [bel_half hl hb hc hd true (by rw [if_pos rfl]; exact h0), bel_half hl hb he hd false (by rw [if_neg (by decide)]; exact h1), show 128 - d = 127 - d + 1 by omega, show 128 - (d + 1) = 127 - d by omega]
  exact qSD (by rw [show 127 - d + 1 = 128 - d by omega]; exact hw)
theorem ndB_zero (l : List PR) (b : List UInt8) : ndB l b 0 = nd 128 l := by unfold ndB; rw [bel_zero]
end Sm
end Go.Proofs.YtfldiegfenndjaaGreatDoor
namespace Go.Proofs.YtfldiegfenndjaaGreatDoor
open Go Go.Fw Go.Proofs.Tryz
set_option maxRecDepth 100000
set_option maxHeartbeats 1000000
structure Pr where
 k : List UInt8
 v : List UInt8
 deriving DecidableEq
def Pr.cells (x : Pr) : List Value := [Str (x.k), Str (x.v)]
def noPr : Pr := ⟨[], []⟩
def toP (p : Pr) : Sm.PR := (p.k, p.v)
abbrev ssM (l : List Sm.PR) : MP := l.map fun p => (p.1, Str p.2)
theorem qJA : ∀ (l : List Sm.PR) (k : List UInt8), qNN (ssM l) k = (Sm.getP l k).map Str
 | [], _ => rfl
 | p :: r, k => by
  show (if p.1 = k then some (Str p.2) else qNN (ssM r) k) = _
  rw [Sm.getP]
  by_cases h : p.1 = k
  · rw [if_pos h, if_pos h]; rfl
  · rw [if_neg h, if_neg h]; exact qJA r k
theorem qMb : ∀ (l : List Sm.PR) (k v : List UInt8), qOC (ssM l) k (Str v) = ssM (Sm.putP l k v)
 | [], _, _ => rfl
 | p :: r, k, v => by
  show (if p.1 = k then (k, Str v) :: ssM r else (p.1, Str p.2) :: qOC (ssM r) k (Str v)) = _
  rw [Sm.putP]
  by_cases h : p.1 = k
  · rw [if_pos h, if_pos h]; rfl
  · rw [if_neg h, if_neg h, qMb r k v]; rfl
theorem qNP (o : Option (List UInt8)) : (o.map Str).getD (Str []) = Str (o.getD []) := by cases o <;> rfl
def qEb (m : Hp) (g : Nat) (l : List Sm.PR) : Prop := ∃ gm, qAS m ⟨g, 0, none⟩ [.map (some gm)] ∧ qFq m gm (ssM l)
def qHV (m : Hp) (g : Nat) (l : List Sm.PR) : Prop := ∃ gm mm, m = U [blk g [.map (some gm)] 166, mm] ∧ Dj (blk g [.map (some gm)] 166) mm ∧ qQx mm gm (ssM l)
theorem qEb.mono {m m' : Hp} {g : Nat} {l : List Sm.PR} (h : qEb m g l) (hl : Le m m') : qEb m' g l := by
 obtain ⟨gm, h1, h2⟩ := h
 exact ⟨gm, h1.mono hl, h2.mono hl⟩
theorem qHV.at {m : Hp} {g : Nat} {l : List Sm.PR} (h : qHV m g l) : qEb m g l := by
 obtain ⟨gm, mm, rfl, hd, h2⟩ := h
 have hdd : Djs [blk g [.map (some gm)] 166, mm] := qAT.2 (by simpa using hd)
 exact ⟨gm, qAS.blk0.mono (qHJ hdd (.head _)), h2.at.mono (qHJ hdd (.tail _ (.head _)))⟩
namespace Sha
end Sha
attribute [local irreducible] Sha.tagB
end Go.Proofs.YtfldiegfenndjaaGreatDoor
namespace Go.Proofs.YtfldiegfenndjaaGreatDoor
open Go Go.Fw Go.Proofs.Tryz
set_option maxRecDepth 100000
set_option maxHeartbeats 1000000
theorem ent147 : qAF prog 147 := qAF.of func147 rfl (by kernel_rfl)
theorem gsome {s : List UInt8} {i : Nat} (h : i < s.length) : s[i]? = some (s.getD i 0) := qAl 0 h
theorem qKL (F : Hp) (k : List UInt8) (hk : k.length ≤ 1000000) (d : Nat) (hd : d ≤ 1000000) : Ct prog 147 [Str (k), I ((d : Nat) : Int)] [F] (fun _ : Unit => I ((Sm.bit k d : Nat) : Int)) (fun _ => True) (fun _ => [F]) := by
 refine Ct.walk func147 rfl ntmps147 rfl (fun w0 hw0 => ?_)
 change J _ [(0, _), (1, _)] _ _ _
 refine J.g fun K1 hK1 => J.b rfl <| J.c hK1 <| J.G 0 1 ?_
 refine J.p fun K2 hK2 => J.g fun K3 hK3 => J.b rfl <| J.f (qAX rfl rfl rfl) rfl <| J.b rfl <| J.c2 (d := 7) rfl (fun h7 => ?_) (fun h7 => ?_)
 ·
  refine J.j 6 rfl <| J.c hK3 <| J.O 0 1 13 ?_
  refine J.c9 ?_
  refine J.g fun K4 hK4 => J.b rfl <| J.c hK4 <| J.u 4 ?_
  exact J.D <| J.Z <| J.H hw0 rfl () (by unfold Sm.bit; rw [if_neg (by omega)]; rfl) trivial [0] rfl (by decide)
 refine J.j 2 rfl <| J.E (qA7 u9_ rfl rfl) rfl <| J.E ((qC7 rfl rfl rfl (by first | omega | (have h8 := (UInt8.ofNat ((k.getD (d / 8) 0).toNat / 2 ^ (7 - d % 8))).toNat_lt; omega))).nat (8 * k.length) (by omega)) rfl <| J.E (qBR rfl rfl rfl) rfl <| J.b rfl <| J.c hK3 <| J.O 0 1 13 ?_
 refine J.a0 rfl (fun h13 => ?_) (fun h13 => ?_)
 ·
  refine J.g fun K5 hK5 => J.b rfl <| J.c hK5 <| J.u 4 ?_
  exact J.D <| J.Z <| J.H hw0 rfl () (by unfold Sm.bit; rw [if_neg (by omega)]; rfl) trivial [0] rfl (by decide)
 refine J.a1 hK2 <| J.G 0 1 ?_
 refine J.p fun K6 hK6 => ?_
 have hb8 : ((k.getD (d / 8) 0).toNat / 2 ^ (7 - d % 8)) < 256 := Nat.lt_of_le_of_lt (Nat.div_le_self _ _) (k.getD (d / 8) 0).toNat_lt
 have hbe : (UInt8.ofNat ((k.getD (d / 8) 0).toNat / 2 ^ (7 - d % 8))).toNat &&& 1 = Sm.bit k d := by
  unfold Sm.bit
  rw [if_pos (by omega), UInt8.toNat_ofNat_of_lt' hb8, Nat.and_one_is_mod]
 refine J.M <| J.j 2 rfl <| J.f ((qJt rfl rfl rfl (by first | omega | (have h8 := (UInt8.ofNat ((k.getD (d / 8) 0).toNat / 2 ^ (7 - d % 8))).toNat_lt; omega))).nat (d / 8) (by omega)) rfl <| J.f (qBj (c := k.getD (d / 8) 0) u9_ rfl rfl rfl (gsome (by omega))) rfl <| J.b rfl <| J.f ((qHz rfl rfl rfl (by first | omega | (have h8 := (UInt8.ofNat ((k.getD (d / 8) 0).toNat / 2 ^ (7 - d % 8))).toNat_lt; omega))).nat (d % 8) (by omega)) rfl <| J.f ((qBI rfl rfl rfl (by omega)).nat (7 - d % 8) (by omega)) rfl <| J.f ((qMu (m := 7 - d % 8) rfl rfl rfl).as (v' := B8 (UInt8.ofNat ((k.getD (d / 8) 0).toNat / 2 ^ (7 - d % 8)))) (by rw [Nat.min_eq_left (by omega)])) rfl <| J.f (qCG rfl rfl u5_ u3_) rfl <| J.f (qI0 (a := (UInt8.ofNat ((k.getD (d / 8) 0).toNat / 2 ^ (7 - d % 8))).toNat) (b := 1) rfl rfl rfl (by first | omega | (have h8 := (UInt8.ofNat ((k.getD (d / 8) 0).toNat / 2 ^ (7 - d % 8))).toNat_lt; omega))) rfl <| J.b rfl <| J.c hK6 <| J.u 4 ?_
 exact J.D <| J.H hw0 rfl () (by rw [hbe]) trivial [0] rfl (by decide)
theorem qEH (F : Hp) (k : List UInt8) (hk : k.length ≤ 1000000) (b : List UInt8) (hb : b.length ≤ 1000000) (d : Int) : Ct prog 100 [Str (k), Str (b), I (d)] [F] (fun _ : Unit => .bool (Sm.belowB k b (min d.toNat 128))) (fun _ => True) (fun _ => [F]) := by
 refine Ct.walk func100 rfl ntmps100 rfl (fun w0 hw0 => ?_)
 change J _ [(0, _), (1, _), (2, _)] _ _ _
 refine J.g fun K1 hK1 => J.b rfl <| J.c hK1 <| J.O 0 1 2 ?_
 refine J.p fun K2 hK2 => J.g fun K3 hK3 => J.b rfl <| J.f ((qJv rfl rfl rfl).nat (d.toNat) (by omega)) rfl <| J.f ((qJu rfl rfl rfl).nat (min d.toNat 128) (by omega)) rfl <| J.b rfl <| J.c hK3 <| J.T 0 1 10 11 ?_
 refine J.W <| J.b6 (X := Nat) (fun ζ => [(0, Str (k)), (1, Str (b)), (10, I ((min d.toNat 128 : Nat) : Int)), (11, I ((ζ : Nat) : Int))]) (fun ζ => [F]) (fun ζ => ζ ≤ min d.toNat 128 ∧ ∀ j < ζ, Sm.bit k j = Sm.bit b j) (fun ζ => min d.toNat 128 - ζ) 0 (⟨Nat.zero_le _, fun j h => absurd h (Nat.not_lt_zero j)⟩) ⟨rfl, rfl, rfl, rfl, trivial⟩ (fun _ h => h) ?_
 rintro i ⟨hi, hs⟩ I0 hI0
 refine J.g fun K4 hK4 => J.f (qAX rfl rfl rfl) rfl <| J.c hK4 <| J.a3 0 1 10 11 12 ?_
 refine J.p fun K5 hK5 => J.a0 rfl (fun h12 => ?_) (fun h12 => ?_)
 ·
  refine J.a1 hK5 <| J.T 0 1 10 11 ?_
  refine J.p fun K6 hK6 => J.W <| J.g fun K7 hK7 => J.j 2 rfl <| J.c hK7 <| J.a3 0 1 7 10 11 ?_
  refine J.g fun K8 hK8 => J.j 2 rfl <| J.q (qAC rfl rfl ent147 (Ct.use0 (fun F' hF => qKL F' k (by first | omega | exact hsm _) i (by omega)))) rfl fun g16 _ => J.j 2 rfl <| J.q (qAC rfl rfl ent147 (Ct.use0 (fun F' hF => qKL F' b (by first | omega | exact hsm _) i (by omega)))) rfl fun g19 _ => J.f (qAz rfl rfl rfl) rfl <| J.c hK8 <| J.a3 0 1 10 11 20 ?_
  refine J.a0 rfl (fun h20 => ?_) (fun h20 => ?_)
  ·
   refine J.g fun K9 hK9 => J.b rfl <| J.c hK9 <| J.u 6 ?_
   exact J.D <| J.a9 <| J.Z <| J.Z <| J.a9 <| J.Z <| J.H hw0 rfl () (by rw [Sm.belowB_no (i := i) (by omega) (by omega)]) trivial [0] rfl (by decide)
  refine J.b9 <| J.a5 <| J.A (J.L hK6 ?_)
  refine J.T 0 1 10 11 ?_
  exact J.M <| J.f ((qAU rfl rfl rfl (by omega)).nat (i + 1) (by omega)) rfl <| J.b rfl <| J.a6 <| J.A <| J.a8 (i + 1) (fun η (hη : _ ∧ min d.toNat 128 - η < min d.toNat 128 - i) => hI0 η hη.1 hη.2) ⟨⟨by omega, fun j hj => by rcases Nat.lt_succ_iff_lt_or_eq.1 hj with h | rfl; exact hs j h; omega⟩, by first | omega | (dsimp only; omega)⟩ ⟨rfl, rfl, rfl, rfl, trivial⟩ (fun _ h => h)
 refine J.b5 <| J.a4 <| J.a4 <| J.b7 ?_
 refine J.A (J.L hK2 ?_)
 refine J.c7 [] trivial <| J.g fun K10 hK10 => J.b rfl <| J.c hK10 <| J.u 6 ?_
 exact J.D <| J.H hw0 rfl () (by rw [Sm.belowB_yes (fun j hj => hs j (by omega))]) trivial [0] rfl (by decide)
theorem qRF (F : Hp)  : Ct prog 31 [] [F] (fun x : Nat × Hp => Ptr x.1) (fun x => qHV x.2 x.1 ([])) (fun x => [x.2, F]) := by
 refine Ct.walk func31 rfl ntmps31 rfl (fun w0 hw0 => ?_)
 change J _ [] _ _ _
 refine J.g fun K1 hK1 => J.b rfl <| J.c hK1 <| J.c7 [] trivial <| J.g fun K2 hK2 => J.q (qGJ rfl) rfl ?_
 rintro g1 _
 change J _ ((1, .map (some g1)) :: _) _ [F, qAO g1 (.map #[] 0)] _
 refine J.f (qAL (l := [(0, .tmp 1)]) (vs := [.map (some g1)]) (places := [(0, 1)]) (r := [.map (some g1)]) rfl rfl rfl qL5 zeroValue166 (fun _ => by kernel_rfl) rfl) rfl <| J.q (qAi (l := [.map (some g1)]) rfl rfl rfl) rfl fun g3 _ => ?_
 change J _ _ _ [_, _, blk g3 [.map (some g1)] 166] _
 refine J.b rfl <| J.c hK2 <| J.u 0 ?_
 exact J.D <| J.b8 hw0 (fun _ _ h => h) (qOB rfl rfl) (qBx (g3, U [blk g3 [.map (some g1)] 166, qAO g1 (.map #[] 0)]) (rfl) (fun hd => ⟨g1, qAO g1 (.map #[] 0), rfl, hd, (qQx.nil g1)⟩) [2, 1, 0] rfl rfl (by decide))
theorem qRH (F : Hp) (g : Nat) (l : List Sm.PR) (hT : qEb F g l) (k : List UInt8) : Ct prog 102 [Ptr g, Str (k)] [F] (fun _ : Unit => .tuple #[Str ((Sm.getP l k).getD []), .bool ((Sm.getP l k).isSome)]) (fun _ => True) (fun _ => [F]) := by
 have hT0 := hT
 obtain ⟨gm, hc, hm⟩ := hT0
 refine Ct.walk func102 rfl ntmps102 rfl (fun w0 hw0 => ?_)
 change J _ [(0, _), (1, _)] _ _ _
 refine J.g fun K1 hK1 => J.j 2 rfl <| J.c hK1 <| J.G 0 1 ?_
 refine J.p fun K2 hK2 => J.g fun K3 hK3 => J.b rfl <| J.f ((qBk qTD rfl rfl rfl).as (v' := .bool false) rfl) rfl <| J.c hK3 <| J.O 0 1 9 ?_
 refine J.b2 ?_
 refine J.a1 hK2 <| J.G 0 1 ?_
 refine J.g fun K4 hK4 => J.b rfl <| J.f (qAD rfl rfl) rfl <| J.a7 0 qL5 sizeOf164 rfl rfl rfl rfl rfl <| J.f (qAQ (v := .map (some gm)) rfl rfl isAgg164 (m := F) (by simp) (hc)) rfl <| J.b rfl <| J.f ((qLA rfl rfl rfl underlying164 u9_ e9_ (m := F) (by simp) hm).as (v' := .tuple #[Str ((Sm.getP l k).getD []), .bool ((Sm.getP l k).isSome)]) (by rw [qJA, qNP, Option.isSome_map])) rfl <| J.j 5 rfl <| J.c hK4 <| J.G 6 7 ?_
 refine J.g fun K5 hK5 => J.j 4 rfl <| J.c hK5 <| J.G 4 5 ?_
 exact J.D <| J.b8 hw0 (fun _ _ h => h) (qCx rfl rfl rfl) (qA6 () rfl trivial [0] rfl (by decide))
theorem qRE (F m : Hp) (g : Nat) (l : List Sm.PR) (hb : qHV m g l) (k v : List UInt8) (hk : k.length = 16) : Ct prog 57 [Ptr g, Str (k), Str (v)] [m, F] (fun _ : Hp => I ((0 : Nat) : Int)) (fun m' => qHV m' g (Sm.putP l k v)) (fun m' => [m', F]) := by
 obtain ⟨gm, mm, rfl, hd, hmp⟩ := hb
 refine Ct.walk func57 rfl ntmps57 rfl (fun w0 hw0 => ?_)
 change J _ [(0, _), (1, _), (2, _)] _ _ _
 refine J.f1 hd ?_
 refine J.g fun K1 hK1 => J.b rfl <| J.c hK1 <| J.O 0 1 2 ?_
 refine J.p fun K2 hK2 => J.W <| J.g fun K3 hK3 => J.b rfl <| J.f (qBk qTD rfl rfl rfl) rfl <| J.b rfl <| J.c hK3 <| J.T 0 1 2 7 ?_
 refine J.b2 ?_
 refine J.g fun K4 hK4 => J.b rfl <| J.f (qA7 u9_ rfl rfl) rfl <| J.f ((qAz rfl rfl rfl).no (by omega)) rfl <| J.b rfl <| J.c hK4 <| J.T 0 1 2 10 ?_
 refine J.b2 ?_
 refine J.b9 <| J.a5 <| J.A (J.L hK2 ?_)
 refine J.O 0 1 2 ?_
 refine J.g fun K5 hK5 => J.b rfl <| J.f (qAD rfl rfl) rfl <| J.a7 0 qL5 sizeOf164 rfl rfl rfl rfl rfl <| J.f (qAE 0 (v := .map (some gm)) rfl rfl rfl isAgg164 rfl) rfl <| J.j 2 rfl <| J.b4 (qH0 (i := 1) (s := k) (u := Str v) (l := ssM l) rfl rfl rfl rfl underlying164 u9_ rfl hmp) rfl rfl ?_
 rintro m5_1 hm5_1
 change J _ _ _ [blk g [.map (some gm)] 166, m5_1, F] _
 rw [qMb] at hm5_1
 refine J.c hK5 <| J.c7 [] trivial <| J.g fun K6 hK6 => J.b rfl <| J.c hK6 <| J.u 6 ?_
 exact J.D <| J.b8 hw0 (fun _ _ h => h) (qOB rfl rfl) (qBx (U [blk g [.map (some gm)] 166, m5_1]) (rfl) (fun hd => ⟨gm, m5_1, rfl, hd, hm5_1⟩) [0, 1, 2] rfl rfl (by decide))
end Go.Proofs.YtfldiegfenndjaaGreatDoor
