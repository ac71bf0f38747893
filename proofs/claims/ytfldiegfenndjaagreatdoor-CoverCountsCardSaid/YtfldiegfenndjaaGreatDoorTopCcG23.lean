/- A part of the proof. -/
import Derived.Test.YtfldiegfenndjaaGreatDoorTopCcG16
import Derived.Test.YtfldiegfenndjaaGreatDoorTopCcG8
import Derived.Test.YtfldiegfenndjaaGreatDoorTopCcG22
import Derived.Test.YtfldiegfenndjaaGreatDoorTopCcG15
set_option linter.unusedSimpArgs false
set_option linter.unusedVariables false
namespace Go.Proofs.YtfldiegfenndjaaGreatDoor
open Go Go.Fw Go.Proofs.Tryz
set_option maxRecDepth 100000
set_option maxHeartbeats 1000000
attribute [local irreducible] Mk.node
namespace Mk
theorem qGY (s : List UInt8) : ∀ (p : List (List UInt8)) (x : List UInt8) (i : Nat), climb x i (p ++ [s]) = if i / 2 ^ p.length % 2 = 0 then node (climb x i p) s else node s (climb x i p)
 | [], x, i => by simp [climb]
 | a :: p, x, i => by
  rw [List.cons_append, climb, climb, qGY s p, List.length_cons, Nat.pow_succ, Nat.mul_comm, ← Nat.div_div_eq_div_mul]
theorem qIR (l : List (List UInt8)) (h i : Nat) (hl : l.length = 2 ^ h) (hi : i < 2 ^ h) : ∀ j, j ≤ h → climb (l.getD i []) i (path l i j) = (lvl l j).getD (i / 2 ^ j) []
  | 0, _ => by simp [path, climb, lvl]
  | j + 1, hj => by
    have hlen := lvl_length l h hl j (by omega)
    have h1 : i / 2 ^ j < 2 ^ (h - j) := by rw [Nat.div_lt_iff_lt_mul (Nat.two_pow_pos j), ← Nat.pow_add, show h - j + j = h by omega]; exact hi
    have h2 := qHi (show 0 < h - j by omega)
    rw [path_succ, qGY, qIR l h i hl hi j (by omega), path_length, Nat.pow_succ, ← Nat.div_div_eq_div_mul]
    generalize i / 2 ^ j = q at *
    rw [show lvl l (j + 1) = above (lvl l j) from rfl, List.getD_eq_getElem?_getD (l := above (lvl l j)), qOO, hlen, if_pos (show q / 2 < 2 ^ (h - j) / 2 by omega), qRM]
    split
    · rename_i e
      rw [show 2 * (q / 2) = q by omega]; rfl
    · rename_i e
      rw [show 2 * (q / 2) = q - 1 by omega, show q - 1 + 1 = q by omega]; rfl
theorem climb_root (l : List (List UInt8)) (h i : Nat) (hl : l.length = 2 ^ h) (hi : i < 2 ^ h) : climb (l.getD i []) i (path l i h) = root l h := by
 rw [qIR l h i hl hi h (Nat.le_refl _), Nat.div_eq_of_lt hi]; rfl
theorem flat_small {ls : List (List UInt8)} {w : Nat} (h : ∀ s ∈ ls, s.length ≤ w) : ls.flatten.length ≤ w * ls.length := by
 induction ls with
 | nil => simp
 | cons a l ih =>
  have := ih (fun s hs => h s (.tail _ hs))
  have h2 := h a (.head _)
  rw [List.flatten_cons, List.length_append, List.length_cons, Nat.mul_add]; omega
end Mk
namespace Sha
end Sha
attribute [local irreducible] Sha.tagB Mk.root Mk.path
end Go.Proofs.YtfldiegfenndjaaGreatDoor
namespace Go.Proofs.YtfldiegfenndjaaGreatDoor
open Go Go.Fw Go.Proofs.Tryz
set_option maxRecDepth 100000
set_option maxHeartbeats 1000000
namespace Wo
def place (leaf chain step : Nat) : List UInt8 := [UInt8.ofNat (leaf / 2 ^ 24), UInt8.ofNat (leaf / 2 ^ 16), UInt8.ofNat (leaf / 2 ^ 8), UInt8.ofNat leaf, UInt8.ofNat chain, UInt8.ofNat step]
def step (opn : List UInt8) (leaf chain k : Nat) (x : List UInt8) : List UInt8 := Sha.tagged 2 [opn, place leaf chain k, x]
def walk (opn : List UInt8) (leaf chain a : Nat) (x : List UInt8) : Nat → List UInt8
 | 0 => x
 | n + 1 => step opn leaf chain (a + n) (walk opn leaf chain a x n)
def secret (seed : List UInt8) (leaf chain : Nat) : List UInt8 := Sha.tagged 1 [seed, place leaf chain 0]
def opn (seed : List UInt8) : List UInt8 := Sha.tagged 3 [seed]
def nibs (s : List UInt8) : List Nat := s.flatMap fun b => [b.toNat / 16, b.toNat % 16]
def left (s : List UInt8) : Nat := (s.map fun b => 30 - b.toNat / 16 - b.toNat % 16).sum
def digs (s : List UInt8) : List Nat := nibs s ++ [left s / 256, left s / 16 % 16, left s % 16]
def signs (seed : List UInt8) (leaf : Nat) (ds : List Nat) (k : Nat) : List (List UInt8) := (List.range k).map fun i => walk (opn seed) leaf i 0 (secret seed leaf i) (ds.getD i 0)
def ends (op : List UInt8) (leaf : Nat) (ds : List Nat) (sig : List (List UInt8)) (k : Nat) : List (List UInt8) := (List.range k).map fun i => walk op leaf i (ds.getD i 0) (sig.getD i []) (15 - ds.getD i 0)
def publicOf (op : List UInt8) (leaf : Nat) (e : List (List UInt8)) : List UInt8 := Sha.tagged 4 ([op, place leaf 0 0] ++ e)
def tops (seed : List UInt8) (leaf : Nat) (k : Nat) : List (List UInt8) := (List.range k).map fun i => walk (opn seed) leaf i 0 (secret seed leaf i) 15
def pub (seed : List UInt8) (leaf : Nat) : List UInt8 := publicOf (opn seed) leaf (tops seed leaf 35)
theorem qFB (a : List UInt8) (b c d : Nat) (x : List UInt8) : (step a b c d x).length = 16 := Sha.tagged_length _ _
theorem secret_length (a : List UInt8) (b c : Nat) : (secret a b c).length = 16 := Sha.tagged_length _ _
theorem opn_length (a : List UInt8) : (opn a).length = 16 := Sha.tagged_length _ _
theorem walk_small (o : List UInt8) (leaf chain a : Nat) (x : List UInt8) (h : x.length ≤ 1048576) : ∀ n, (walk o leaf chain a x n).length ≤ 1048576
 | 0 => h
 | n + 1 => by rw [walk, qFB]; decide
theorem walk_16 (o : List UInt8) (leaf chain a : Nat) (x : List UInt8) (h : x.length = 16) : ∀ n, (walk o leaf chain a x n).length = 16
 | 0 => h
 | n + 1 => qFB _ _ _ _ _
theorem walk_add (o : List UInt8) (leaf chain a : Nat) (x : List UInt8) (n : Nat) : ∀ m, walk o leaf chain (a + n) (walk o leaf chain a x n) m = walk o leaf chain a x (n + m)
 | 0 => rfl
 | m + 1 => by rw [walk, walk_add o leaf chain a x n m, ← Nat.add_assoc, walk, Nat.add_assoc]
theorem place_length (a b c : Nat) : (place a b c).length = 6 := rfl
theorem nibs_snoc (s : List UInt8) (k : Nat) (h : k < s.length) : nibs (s.take (k + 1)) = nibs (s.take k) ++ [(s.getD k 0).toNat / 16, (s.getD k 0).toNat % 16] := by
 unfold nibs
 rw [List.take_succ_eq_append_getElem h, List.flatMap_append, List.getD_eq_getElem?_getD, List.getElem?_eq_getElem h]; simp
theorem left_snoc (s : List UInt8) (k : Nat) (h : k < s.length) : left (s.take (k + 1)) = left (s.take k) + (30 - (s.getD k 0).toNat / 16 - (s.getD k 0).toNat % 16) := by
 unfold left
 rw [List.take_succ_eq_append_getElem h, List.map_append, List.sum_append, List.getD_eq_getElem?_getD, List.getElem?_eq_getElem h]; simp
theorem qI3 (s : List UInt8) : (nibs s).length = 2 * s.length := by
 unfold nibs
 induction s with
 | nil => rfl
 | cons a l ih => rw [List.flatMap_cons, List.length_append, ih]; simp; omega
theorem left_le (s : List UInt8) : left s ≤ 30 * s.length := by
 unfold left
 induction s with
 | nil => simp
 | cons a l ih => rw [List.map_cons, List.sum_cons, List.length_cons]; omega
theorem digs_length (s : List UInt8) : (digs s).length = 2 * s.length + 3 := by unfold digs; rw [List.length_append, qI3]; rfl
theorem digs_le (s : List UInt8) (h : s.length ≤ 16) (i : Nat) : (digs s).getD i 0 ≤ 15 := by
  have hl := left_le s
  have : ∀ x ∈ digs s, x ≤ 15 := fun x hx => by
    unfold digs nibs at hx
    rcases List.mem_append.1 hx with hx | hx
    · obtain ⟨b, _, hb⟩ := List.mem_flatMap.1 hx
      have := b.toNat_lt
      simp only [List.mem_cons, List.not_mem_nil, or_false] at hb
      omega
    · simp only [List.mem_cons, List.not_mem_nil, or_false] at hx
      omega
  by_cases hi : i < (digs s).length
  · rw [List.getD_eq_getElem?_getD, List.getElem?_eq_getElem hi]; exact this _ (List.getElem_mem _)
  · rw [List.getD_eq_getElem?_getD, List.getElem?_eq_none (by omega)]; decide
theorem signs_succ (seed : List UInt8) (leaf : Nat) (ds : List Nat) (k : Nat) : signs seed leaf ds (k + 1) = signs seed leaf ds k ++ [walk (opn seed) leaf k 0 (secret seed leaf k) (ds.getD k 0)] := by simp [signs, List.range_succ]
theorem ends_succ (op : List UInt8) (leaf : Nat) (ds : List Nat) (sig : List (List UInt8)) (k : Nat) : ends op leaf ds sig (k + 1) = ends op leaf ds sig k ++ [walk op leaf k (ds.getD k 0) (sig.getD k []) (15 - ds.getD k 0)] := by simp [ends, List.range_succ]
theorem tops_succ (seed : List UInt8) (leaf : Nat) (k : Nat) : tops seed leaf (k + 1) = tops seed leaf k ++ [walk (opn seed) leaf k 0 (secret seed leaf k) 15] := by simp [tops, List.range_succ]
theorem qMZ (seed : List UInt8) (leaf : Nat) (ds : List Nat) (k i : Nat) (h : i < k) : (signs seed leaf ds k).getD i [] = walk (opn seed) leaf i 0 (secret seed leaf i) (ds.getD i 0) := by
 unfold signs
 rw [List.getD_eq_getElem?_getD, List.getElem?_map, List.getElem?_range h]; rfl
theorem tops_small (seed : List UInt8) (leaf : Nat) (k : Nat) : ∀ s ∈ tops seed leaf k, s.length ≤ 16 := fun s hs => by
 simp only [tops, List.mem_map] at hs
 obtain ⟨i, _, rfl⟩ := hs
 rw [walk_16 _ _ _ _ _ (secret_length _ _ _)]; exact Nat.le_refl _
theorem signs_16 (seed : List UInt8) (leaf : Nat) (ds : List Nat) (k : Nat) : ∀ s ∈ signs seed leaf ds k, s.length = 16 := fun s hs => by
 simp only [signs, List.mem_map] at hs
 obtain ⟨i, _, rfl⟩ := hs
 rw [walk_16 _ _ _ _ _ (secret_length _ _ _)]
theorem ends_small (op : List UInt8) (leaf : Nat) (ds : List Nat) (sig : List (List UInt8)) (k : Nat) (hg : ∀ s ∈ sig, s.length ≤ 16) : ∀ s ∈ ends op leaf ds sig k, s.length ≤ 1048576 := fun s hs => by
 simp only [ends, List.mem_map] at hs
 obtain ⟨i, _, rfl⟩ := hs
 refine walk_small _ _ _ _ _ ?_ _
 by_cases h0 : i < sig.length
 · rw [List.getD_eq_getElem?_getD, List.getElem?_eq_getElem h0]; exact Nat.le_trans (hg _ (List.getElem_mem _)) (by decide)
 · rw [List.getD_eq_getElem?_getD, List.getElem?_eq_none (by omega)]; decide
theorem recovers (seed : List UInt8) (leaf : Nat) (ds : List Nat) (hd : ∀ i, ds.getD i 0 ≤ 15) (k : Nat) : ends (opn seed) leaf ds (signs seed leaf ds k) k = tops seed leaf k := by
 unfold ends tops
 apply List.map_congr_left
 intro i hi
 rw [List.mem_range] at hi
 rw [qMZ _ _ _ _ _ hi]
 have h := walk_add (opn seed) leaf i 0 (secret seed leaf i) (ds.getD i 0) (15 - ds.getD i 0)
 rw [Nat.zero_add] at h
 have := hd i
 rw [h, show ds.getD i 0 + (15 - ds.getD i 0) = 15 by omega]
theorem qT5 : ∀ b : Fin 256, (UInt8.ofNat b.val &&& 15).toNat = b.val % 16 ∧ (UInt8.ofNat (b.val / 2 ^ min 4 8)).toNat = b.val / 16 := by decide +kernel
theorem lo_eq (b : UInt8) : (b &&& 15).toNat = b.toNat % 16 ∧ (UInt8.ofNat (b.toNat / 2 ^ min 4 8)).toNat = b.toNat / 16 := by
 have h := qT5 ⟨b.toNat, b.toNat_lt⟩
 simp only [UInt8.ofNat_toNat] at h
 exact h
end Wo
attribute [local irreducible] Sha.tagB Sha.tagged Wo.walk Wo.signs Wo.tops Wo.ends Wo.digs Wo.nibs Wo.left
theorem Wo.walk0 (o : List UInt8) (leaf chain a : Nat) (x : List UInt8) : Wo.walk o leaf chain a x 0 = x := by unfold Wo.walk; rfl
theorem Wo.walkS (o : List UInt8) (leaf chain a : Nat) (x : List UInt8) (n : Nat) : Wo.step o leaf chain (a + n) (Wo.walk o leaf chain a x n) = Wo.walk o leaf chain a x (n + 1) := by rw [Wo.walk]
theorem Wo.tops0 (a : List UInt8) (b : Nat) : Wo.tops a b 0 = [] := by unfold Wo.tops; rfl
theorem Wo.signs0 (a : List UInt8) (b : Nat) (d : List Nat) : Wo.signs a b d 0 = [] := by unfold Wo.signs; rfl
theorem Wo.ends0 (a : List UInt8) (b : Nat) (d : List Nat) (s : List (List UInt8)) : Wo.ends a b d s 0 = [] := by unfold Wo.ends; rfl
theorem Wo.nibs0 : Wo.nibs [] = [] := by unfold Wo.nibs; rfl
theorem Wo.left0 : Wo.left [] = 0 := by unfold Wo.left; rfl
theorem qQu {a b c : List UInt8} (h1 : a.length ≤ 1048576) (h2 : b.length ≤ 1048576) (h3 : c.length ≤ 1048576) : [a, b, c].flatten.length ≤ 3145728 := by simp; omega
theorem qG0 (F : Hp) (leaf chain stp : Nat) (h1 : leaf < 4611686018427387904) (h2 : chain < 4611686018427387904) (h3 : stp < 4611686018427387904) :
    Ct prog 171 [I leaf, I chain, I stp] [F] (fun _ : Unit => Str (Wo.place leaf chain stp)) (fun _ => True) (fun _ => [F]) := by
  refine Ct.walk func171 rfl ntmps171 rfl (fun w0 hw0 => ?_)
  refine J.g fun K1 hK1 => J.b rfl <| J.c hK1 <| J.V 0 1 2 ?_
  refine J.g fun K2 hK2 => J.b rfl <| J.f ((qCU rfl rfl rfl ⟨by decide, by omega⟩).as (v' := I ((leaf / 2 ^ 24 : Nat) : Int)) (congrArg I (by simp))) rfl <| J.f (qAe rfl rfl u3_ u5_) rfl <| J.b rfl <| J.f ((qCU rfl rfl rfl ⟨by decide, by omega⟩).as (v' := I ((leaf / 2 ^ 16 : Nat) : Int)) (congrArg I (by simp))) rfl <| J.f (qAe rfl rfl u3_ u5_) rfl <| J.b rfl <| J.f ((qCU rfl rfl rfl ⟨by decide, by omega⟩).as (v' := I ((leaf / 2 ^ 8 : Nat) : Int)) (congrArg I (by simp))) rfl <| J.f (qAe rfl rfl u3_ u5_) rfl <| J.b rfl <| J.f (qAe rfl rfl u3_ u5_) rfl <| J.b rfl <| J.f (qAe rfl rfl u3_ u5_) rfl <| J.b rfl <| J.f (qAe rfl rfl u3_ u5_) rfl <| J.u (qAH (l := [.tmp 9, .tmp 12, .tmp 15, .tmp 17, .tmp 19, .tmp 21]) (xs := [[B8 (UInt8.ofNat (leaf / 2 ^ 24))], [B8 (UInt8.ofNat (leaf / 2 ^ 16))], [B8 (UInt8.ofNat (leaf / 2 ^ 8))], [B8 (UInt8.ofNat leaf)], [B8 (UInt8.ofNat chain)], [B8 (UInt8.ofNat stp)]]) rfl rfl rfl rfl qBP el5 rfl (by decide) (by decide) (by simp)) rfl fun g22 _ => J.f (qBB rfl rfl qBP u5_ u9_ (m := blk g22 [B8 (UInt8.ofNat (leaf / 2 ^ 24)), B8 (UInt8.ofNat (leaf / 2 ^ 16)), B8 (UInt8.ofNat (leaf / 2 ^ 8)), B8 (UInt8.ofNat leaf), B8 (UInt8.ofNat chain), B8 (UInt8.ofNat stp)] 5) (by simp) (slB (Wo.place leaf chain stp) rfl)) rfl <| J.b rfl <| J.c hK2 <| J.A 6 ?_
  exact J.D <| J.L hw0 rfl () rfl trivial [0] rfl (by decide)
theorem qGf (F : Hp) (hK : KF F) (seed : List UInt8) (hs : seed.length ≤ 1048576) : Ct prog 70 [Str seed] [F] (fun _ : Unit => Str (Wo.opn seed)) (fun _ => True) (fun _ => [F]) := by
 refine Ct.walk func70 rfl ntmps70 rfl (fun w0 hw0 => ?_)
 refine J.g fun K1 hK1 => J.b rfl <| J.c hK1 <| J.A 0 ?_
 refine J.g fun K2 hK2 => J.b rfl <| J.u (qAH (l := [.tmp 3]) (xs := [[Str (seed)]]) rfl rfl rfl rfl qAn el9 rfl (by decide) (by decide) (by simp)) rfl fun g4 _ => J.u (qAB rfl rfl ent44 (Ct.use0 (fun F' hF => qA5 F' (hK.mono (hF _ (by simp))) 3 (some ⟨g4, 0, none⟩) 1 1 [seed] ((slS [seed] rfl).mono (hF (blk g4 (([seed] : List (List UInt8)).map fun s => Str s) 9) (by simp))) (by simp [Wo.place_length]; omega) (by decide)))) rfl fun g5 _ => J.b rfl <| J.c hK2 <| J.A 2 ?_
 exact J.D <| J.L hw0 rfl () rfl trivial [0] rfl (by decide)
theorem qIi (F : Hp) (hK : KF F) (o : List UInt8) (leaf chain : Nat) (ho : o.length ≤ 1048576) (h1 : leaf < 4611686018427387904) (h2 : chain < 4611686018427387904) (x : List UInt8) (hx : x.length ≤ 1048576) (from' to' : Int) (a n : Nat) (ha : (a : Int) = max from' 0) (ha2 : a < 4611686018427387904) (hn : (n : Int) = max (min to' 15 - a) 0) :
    Ct prog 125 [Str o, I leaf, I chain, I from', I to', Str x] [F] (fun _ : Unit => Str (Wo.walk o leaf chain a x n)) (fun _ => True) (fun _ => [F]) := by
  refine Ct.walk func125 rfl ntmps125 rfl (fun w0 hw0 => ?_)
  refine J.g fun K1 hK1 => J.b rfl <| J.c hK1 <| J.a9 0 1 2 3 4 5 ?_
  refine J.k fun K2 hK2 => J.g fun K3 hK3 => J.b rfl <| J.f ((qJy rfl rfl rfl).nat (a + 0) (by omega)) rfl <| J.b rfl <| J.c hK3 <| J.a9 0 1 2 4 5 13 ?_
  refine J.T <| J.b2 (fun k : Nat => [(0, Str o), (1, I leaf), (2, I chain), (4, I to'), (5, Str (Wo.walk o leaf chain a x k)), (13, I ((a + k : Nat) : Int))]) (fun _ => [F]) (fun k => k ≤ n) (fun k => n - k) 0 (Nat.zero_le _) ⟨rfl, rfl, rfl, rfl, by rw [Wo.walk0]; rfl, rfl, trivial⟩ (fun _ h => h) ?_
  intro k hk I0 hI0
  have hw := Wo.walk_small o leaf chain a x hx k
  refine J.k fun K4 hK4 => J.g fun K5 hK5 => J.p 2 rfl <| J.f (qJx rfl rfl rfl) rfl <| J.f (qAS rfl rfl rfl) rfl <| J.c hK5 <| J.b9 0 1 2 4 5 13 19 ?_
  refine J.a0 rfl (fun h19 => ?_) (fun h19 => ?_)
  ·
    refine J.a1 hK4 <| J.a9 0 1 2 4 5 13 ?_
    refine J.k fun K6 hK6 => J.T <| J.E <| J.p 4 rfl <| J.u (qAB rfl rfl ent171 (qG0 F leaf chain (a + k) h1 h2 (by omega))) rfl fun g26 _ => J.b rfl <| J.u (qAH (l := [.tmp 22, .tmp 26, .tmp 27]) (xs := [[Str (o)], [Str (Wo.place leaf chain (a + k))], [Str ((Wo.walk o leaf chain a x k))]]) rfl rfl rfl rfl qAn el9 rfl (by decide) (by decide) (by simp)) rfl fun g28 _ => J.u (qAB rfl rfl ent44 (Ct.use0 (fun F' hF => qA5 F' (hK.mono (hF _ (by simp))) 2 (some ⟨g28, 0, none⟩) 3 3 [o, Wo.place leaf chain (a + k), (Wo.walk o leaf chain a x k)] ((slS [o, Wo.place leaf chain (a + k), (Wo.walk o leaf chain a x k)] rfl).mono (hF (blk g28 (([o, Wo.place leaf chain (a + k), (Wo.walk o leaf chain a x k)] : List (List UInt8)).map fun s => Str s) 9) (by simp))) (by have := qQu ho (show (Wo.place leaf chain (a + k)).length ≤ 1048576 by rw [Wo.place_length]; decide) hw; omega) (by decide)))) rfl fun g29 _ => J.b rfl <| J.a2 <| J.a4 <| J.q (J.H hK6 ?_)
    refine J.a9 0 1 2 4 5 13 ?_
    exact J.c5 [0] [F] rfl (by decide) <| J.E <| J.b rfl <| J.f ((qAO rfl rfl rfl (by omega)).nat (a + (k + 1)) (by omega)) rfl <| J.b rfl <| J.a2 <| J.q <| J.a6 (k + 1) (fun x (hx : x ≤ n ∧ n - x < n - k) => hI0 x hx.1 hx.2) ⟨by omega, by omega⟩ ⟨rfl, rfl, rfl, rfl, by rw [← Wo.walkS]; rfl, rfl, trivial⟩ (fun _ h => h)
  refine J.b0 <| J.Z <| J.Z <| J.b1 ?_
  refine J.q (J.H hK2 ?_)
  refine J.A 5 ?_
  refine J.k fun K7 hK7 => ?_
  have hkn : n = k := by omega
  subst hkn
  refine J.E <| J.p 2 rfl <| J.c hK7 <| J.A 12 ?_
  exact J.D <| J.L hw0 rfl () rfl trivial [0] rfl (by decide)
theorem qF7 (F : Hp) (hK : KF F) (seed : List UInt8) (leaf chain : Nat) (hs : seed.length ≤ 1048576) (h1 : leaf < 4611686018427387904) (h2 : chain < 4611686018427387904) :
    Ct prog 126 [Str seed, I leaf, I chain] [F] (fun _ : Unit => Str (Wo.secret seed leaf chain)) (fun _ => True) (fun _ => [F]) := by
  refine Ct.walk func126 rfl ntmps126 rfl (fun w0 hw0 => ?_)
  refine J.g fun K1 hK1 => J.b rfl <| J.c hK1 <| J.V 0 1 2 ?_
  refine J.g fun K2 hK2 => J.p 3 rfl <| J.u (qAB rfl rfl ent171 (qG0 F leaf chain 0 h1 h2 (by decide))) rfl fun g10 _ => J.u (qAH (l := [.tmp 7, .tmp 10]) (xs := [[Str (seed)], [Str (Wo.place leaf chain 0)]]) rfl rfl rfl rfl qAn el9 rfl (by decide) (by decide) (by simp)) rfl fun g11 _ => J.u (qAB rfl rfl ent44 (Ct.use0 (fun F' hF => qA5 F' (hK.mono (hF _ (by simp))) 1 (some ⟨g11, 0, none⟩) 2 2 [seed, Wo.place leaf chain 0] ((slS [seed, Wo.place leaf chain 0] rfl).mono (hF (blk g11 (([seed, Wo.place leaf chain 0] : List (List UInt8)).map fun s => Str s) 9) (by simp))) (by simp [Wo.place_length]; omega) (by decide)))) rfl fun g12 _ => J.b rfl <| J.c hK2 <| J.A 6 ?_
  exact J.D <| J.L hw0 rfl () rfl trivial [0] rfl (by decide)
theorem qF8 (F : Hp) (hK : KF F) (o : List UInt8) (leaf : Nat) (ho : o.length ≤ 1048576) (h1 : leaf < 4611686018427387904) (A : Option Addr) (n c : Nat) (e : List (List UInt8)) (he : Sl F 1 A n c (qAL e)) (hsm : ∀ s ∈ e, s.length ≤ 1048576) (hn : n ≤ 1024) :
    Ct prog 127 [Str o, I leaf, .slice A n c] [F] (fun _ : Unit => Str (Wo.publicOf o leaf e)) (fun _ => True) (fun _ => [F]) := by
  have hlen : e.length = n := by have := he.1; simpa [qAL] using this
  have hfl := Mk.flat_small hsm
  rw [hlen] at hfl
  refine Ct.walk func127 rfl ntmps127 rfl (fun w0 hw0 => ?_)
  refine J.g fun K1 hK1 => J.b rfl <| J.c hK1 <| J.V 0 1 2 ?_
  refine J.g fun K2 hK2 => J.p 2 rfl <| J.u (qAB rfl rfl ent171 (qG0 F leaf 0 0 h1 (by decide) (by decide))) rfl fun g9 _ => J.u (qAH (l := [.tmp 7, .tmp 9]) (xs := [[Str (o)], [Str (Wo.place leaf 0 0)]]) rfl rfl rfl rfl qAn el9 rfl (by decide) (by decide) (by simp)) rfl fun g10 _ => J.b rfl <| J.u (qAb (i := 1) (m2 := F) rfl rfl rfl qAn qAn el9 rfl (qA8 (q := True) (qAL [o, Wo.place leaf 0 0]) (n := 2) rfl (by simp [qAL]) rfl) (by simp) he (qCN _) (by omega) (by omega)) rfl ?_
  rintro ⟨A12, c12, m12⟩ h12
  try dsimp only at h12
  rw [← qB2] at h12
  refine J.u (qAB rfl rfl ent44 (Ct.use0 (fun F' hF => qA5 F' (hK.mono (hF _ (by simp))) 4 A12 (2 + n) c12 ([o, Wo.place leaf 0 0] ++ e) (h12.sl.mono (hF _ (by simp))) (by simp only [List.flatten_append, List.length_append, List.flatten_cons, List.flatten_nil, Wo.place_length, List.length_nil]; omega) (by omega)))) rfl fun g13 _ => J.b rfl <| J.c hK2 <| J.A 6 ?_
  exact J.D <| J.L hw0 rfl () rfl trivial [0] rfl (by decide)
theorem qRP (F : Hp) (hK : KF F) (seed : List UInt8) (leaf : Nat) (hs : seed.length ≤ 1048576) (h1 : leaf < 4611686018427387904) :
    Ct prog 68 [Str seed, I leaf] [F] (fun _ : Unit => Str (Wo.pub seed leaf)) (fun _ => True) (fun _ => [F]) := by
  refine Ct.walk func68 rfl ntmps68 rfl (fun w0 hw0 => ?_)
  refine J.g fun K1 hK1 => J.b rfl <| J.c hK1 <| J.M 0 1 ?_
  refine J.g fun K2 hK2 => J.b rfl <| J.u (qAB rfl rfl ent70 (qGf F hK seed hs)) rfl fun g9 _ => J.b rfl <| J.c hK2 <| J.V 0 1 5 ?_
  refine J.g fun K3 hK3 => J.b rfl <| J.c hK3 <| J.W 0 1 5 6 ?_
  refine J.k fun K4 hK4 => J.k fun K5 hK5 => J.d6 [0, 1] [F, (fun _ => none)] rfl (by decide) <| J.E <| J.b rfl <| J.c hK5 <| J.a3 0 1 5 6 10 ?_
  refine J.T <| J.b2 (X := Nat × Option Addr × Nat × Hp) (fun x => [(0, Str seed), (1, I leaf), (5, Str (Wo.opn seed)), (6, .slice x.2.1 x.1 x.2.2.1), (10, I x.1)]) (fun x => [F, x.2.2.2]) (fun x => x.1 ≤ 35 ∧ Row x.2.2.2 9 1 x.2.1 x.1 x.2.2.1 (qAL (Wo.tops seed leaf x.1))) (fun x => 35 - x.1) (0, none, 0, fun _ => none) (⟨Nat.zero_le _, by rw [Wo.tops0]; exact qB5.nil⟩) ⟨rfl, rfl, rfl, rfl, rfl, trivial⟩ (fun _ h => h) ?_
  rintro ⟨k, A6, c6, m⟩ ⟨hk, hrow⟩ I0 hI0
  dsimp only at hk hrow ⊢
  refine J.g fun K6 hK6 => J.f (qAS rfl rfl rfl) rfl <| J.c hK6 <| J.a9 0 1 5 6 10 11 ?_
  refine J.k fun K7 hK7 => J.a0 rfl (fun h11 => ?_) (fun h11 => ?_)
  ·
    refine J.a1 hK7 <| J.a3 0 1 5 6 10 ?_
    refine J.k fun K8 hK8 => J.T <| J.g fun K9 hK9 => J.p 2 rfl <| J.c hK9 <| J.a9 0 1 5 6 7 10 ?_
    refine J.E <| J.p 7 rfl <| J.u (qAB rfl rfl ent126 (Ct.use0 (fun F' hF => qF7 F' (hK.mono (hF _ (by simp))) seed leaf k hs h1 (by omega)))) rfl fun g20 _ => J.u (qAB rfl rfl ent125 (Ct.use0 (fun F' hF => qIi F' (hK.mono (hF _ (by simp))) (Wo.opn seed) leaf k (by rw [Wo.opn_length]; decide) h1 (by omega) (Wo.secret seed leaf k) (by rw [Wo.secret_length]; decide) 0 15 0 15 (by omega) (by omega) (by omega)))) rfl fun g21 _ => J.u (qAH (l := [.tmp 21]) (xs := [[Str ((Wo.walk (Wo.opn seed) leaf k 0 (Wo.secret seed leaf k) 15))]]) rfl rfl rfl rfl qAn el9 rfl (by decide) (by decide) (by simp)) rfl fun g22 _ => J.u (qAb (i := 1) (m2 := blk g22 [Str (Wo.walk (Wo.opn seed) leaf k 0 (Wo.secret seed leaf k) 15)] 9) rfl rfl rfl qAn qAn el9 rfl hrow (by simp) (qAr (q := True) (xs := qAL [(Wo.walk (Wo.opn seed) leaf k 0 (Wo.secret seed leaf k) 15)]) rfl (by simp [qAL])).sl (qCN _) (by omega) (by omega)) rfl ?_
    rintro ⟨A23, c23, m23⟩ h23
    try dsimp only at h23
    rw [← qB2, ← Wo.tops_succ] at h23
    refine J.c5 [0, 1] [F, m23] rfl (by decide) <| J.b rfl <| J.a2 <| J.a4 <| J.q (J.H hK8 ?_)
    refine J.a3 0 1 5 6 10 ?_
    exact J.E <| J.f ((qAO rfl rfl rfl (by omega)).nat (k + 1) (by omega)) rfl <| J.b rfl <| J.a2 <| J.q <| J.a6 (k + 1, A23, c23, m23) (fun x (hx : _ ∧ 35 - x.1 < 35 - k) => hI0 x hx.1 hx.2) ⟨⟨by dsimp only; omega, h23⟩, by dsimp only; omega⟩ ⟨rfl, rfl, rfl, rfl, rfl, trivial⟩ (fun _ h => h)
  refine J.b0 <| J.Z <| J.Z <| J.b1 ?_
  refine J.q (J.H hK4 ?_)
  refine J.V 1 5 6 ?_
  refine J.k fun K10 hK10 => ?_
  have hk35 : k = 35 := by omega
  subst hk35
  refine J.E <| J.p 3 rfl <| J.u (qAB rfl rfl ent127 (Ct.use0 (fun F' hF => qF8 F' (hK.mono (hF _ (by simp))) (Wo.opn seed) leaf (by rw [Wo.opn_length]; decide) h1 A6 35 c6 (Wo.tops seed leaf 35) (hrow.sl.mono (hF _ (by simp))) (fun s hs => Nat.le_trans (Wo.tops_small seed leaf 35 s hs) (by decide)) (by decide)))) rfl fun g28 _ => J.b rfl <| J.c hK10 <| J.A 4 ?_
  exact J.D <| J.L hw0 rfl () rfl trivial [0] rfl (by decide)
theorem qFh (F : Hp) (s : List UInt8) (hs : s.length = 16) :
    Ct prog 143 [Str s] [F] (fun x : Option Addr × Nat × Hp => .tuple #[.slice x.1 35 x.2.1, I 0]) (fun x => Row x.2.2 3 1 x.1 35 x.2.1 (qAu (Wo.digs s))) (fun x => [F, x.2.2]) := by
  have hll := Wo.left_le s
  refine Ct.walk func143 rfl ntmps143 rfl (fun w0 hw0 => ?_)
  refine J.g fun K1 hK1 => J.p 2 rfl <| J.c hK1 <| J.A 0 ?_
  refine J.k fun K2 hK2 => J.g fun K3 hK3 => J.b rfl <| J.f (qA0 u9_ rfl rfl) rfl <| J.f ((qAx rfl rfl rfl).no (by omega)) rfl <| J.c hK3 <| J.M 0 12 ?_
  refine J.b6 ?_
  refine J.a1 hK2 <| J.A 0 ?_
  refine J.g fun K4 hK4 => J.b rfl <| J.c hK4 <| J.M 0 4 ?_
  refine J.k fun K5 hK5 => J.d6 [0, 1] [F, (fun _ => none)] rfl (by decide) <| J.E <| J.b rfl <| J.c hK5 <| J.V 0 4 5 ?_
  refine J.k fun K6 hK6 => J.g fun K7 hK7 => J.b rfl <| J.f (qA0 u9_ rfl rfl) rfl <| J.b rfl <| J.c hK7 <| J.a3 0 4 5 14 15 ?_
  refine J.T <| J.b2 (X := Nat × Option Addr × Nat × Hp) (fun x => [(0, Str s), (4, .slice x.2.1 (2 * x.1) x.2.2.1), (5, I ((Wo.left (s.take x.1) : Nat) : Int)), (14, I s.length), (15, I x.1)]) (fun x => [F, x.2.2.2]) (fun x => x.1 ≤ 16 ∧ Row x.2.2.2 3 1 x.2.1 (2 * x.1) x.2.2.1 (qAu (Wo.nibs (s.take x.1)))) (fun x => 16 - x.1) (0, none, 0, fun _ => none) (⟨Nat.zero_le _, by rw [List.take_zero, Wo.nibs0]; exact qB5.nil⟩) ⟨rfl, rfl, by rw [List.take_zero, Wo.left0]; rfl, rfl, rfl, trivial⟩ (fun _ h => h) ?_
  rintro ⟨k, A4, c4, m⟩ ⟨hk, hrow⟩ I0 hI0
  dsimp only at hk hrow ⊢
  have hlk := Wo.left_le (s.take k)
  rw [List.length_take] at hlk
  refine J.g fun K8 hK8 => J.f (qAS rfl rfl rfl) rfl <| J.c hK8 <| J.a9 0 4 5 14 15 16 ?_
  refine J.k fun K9 hK9 => J.a0 rfl (fun h16 => ?_) (fun h16 => ?_)
  ·
    refine J.a1 hK9 <| J.a3 0 4 5 14 15 ?_
    refine J.k fun K10 hK10 => J.T <| J.g fun K11 hK11 => J.p 2 rfl <| J.c hK11 <| J.a9 0 4 5 6 14 15 ?_
    refine J.k fun K12 hK12 => ?_
    have hk16 : k < 16 := by omega
    have hb8 := (s.getD k 0).toNat_lt
    refine J.b5 [F, m] [] (.y 0 (.y 1 (.y 2 (.y 3 (.y 4 (.y 5 (.y 6 (.y 7 (.y 8 (.y 9 (.y 10 (.y 11 .nil)))))))))))) Tryz.wide (by decide +kernel) (by simp) ?_
    refine J.G ?_
    refine J.G ?_
    refine J.j rfl (qBS u9_ rfl rfl rfl (qAi 0 (by omega))) rfl rfl <| J.j rfl (qNE rfl rfl rfl) rfl rfl <| J.j rfl ((qBT rfl rfl u5_ u3_).as (v' := I (((s.getD k 0).toNat / 16 : Nat) : Int)) (congrArg (fun n : Nat => I (n : Int)) (Wo.lo_eq (s.getD k 0)).2)) rfl rfl <| J.G ?_
    refine J.G ?_
    refine J.j rfl (qBS u9_ rfl rfl rfl (qAi 0 (by omega))) rfl rfl <| J.j rfl (qI0 (b := 15) rfl rfl rfl) rfl rfl <| J.j rfl ((qBT rfl rfl u5_ u3_).as (v' := I (((s.getD k 0).toNat % 16 : Nat) : Int)) (congrArg (fun n : Nat => I (n : Int)) (Wo.lo_eq (s.getD k 0)).1)) rfl rfl <| J.j rfl (qDi (l := [.tmp 22, .tmp 27]) rfl rfl rfl underlying287 el3 zeroValue287 rfl rfl (by simp [Value.cells]) (r := [(s.getD k 0).toNat / 16, (s.getD k 0).toNat % 16].map fun x : Nat => I (x : Int)) rfl) rfl rfl <| J.G ?_
    refine J.b4 <| J.q (J.H hK12 ?_)
    refine J.b9 0 4 5 14 15 28 29 ?_
    refine J.T <| J.b2 (X := Nat × Option Addr × Nat × Hp) (fun x => [(0, Str s), (4, .slice x.2.1 (2 * k + x.1) x.2.2.1), (5, I ((Wo.left (s.take k) + (([(s.getD k 0).toNat / 16, (s.getD k 0).toNat % 16].take x.1).map (15 - ·)).sum : Nat) : Int)), (14, I s.length), (15, I k), (28, .agg ([(s.getD k 0).toNat / 16, (s.getD k 0).toNat % 16].map fun x : Nat => I (x : Int)).toArray), (29, I x.1)]) (fun x => [F, x.2.2.2]) (fun x => x.1 ≤ 2 ∧ Row x.2.2.2 3 1 x.2.1 (2 * k + x.1) x.2.2.1 (qAu ((Wo.nibs (s.take k)) ++ [(s.getD k 0).toNat / 16, (s.getD k 0).toNat % 16].take x.1))) (fun x => 2 - x.1) (0, A4, c4, m) (⟨Nat.zero_le _, by rw [List.take_zero, List.append_nil]; exact hrow⟩) ⟨rfl, rfl, rfl, rfl, rfl, rfl, rfl, trivial⟩ (fun _ h => h) ?_
    clear hrow
    rintro ⟨j, A4, c4, m⟩ ⟨hj, hrow⟩ I2 hI2
    dsimp only at hj hrow ⊢
    refine J.g fun K13 hK13 => J.f (qAS rfl rfl rfl) rfl <| J.c hK13 <| J.d2 0 4 5 14 15 28 29 30 ?_
    refine J.k fun K14 hK14 => J.a0 rfl (fun h30 => ?_) (fun h30 => ?_)
    ·
      refine J.a1 hK14 <| J.b9 0 4 5 14 15 28 29 ?_
      refine J.k fun K15 hK15 => J.T <| J.k fun K16 hK16 => ?_
      have hj2 : j < 2 := by omega
      have hsj : (([(s.getD k 0).toNat / 16, (s.getD k 0).toNat % 16].take (j + 1)).map (15 - ·)).sum = (([(s.getD k 0).toNat / 16, (s.getD k 0).toNat % 16].take j).map (15 - ·)).sum + (15 - ([(s.getD k 0).toNat / 16, (s.getD k 0).toNat % 16].getD j 0)) := by match j, hj2 with | 0, _ => simp | 1, _ => simp
      have hdl : ([(s.getD k 0).toNat / 16, (s.getD k 0).toNat % 16].getD j 0) ≤ 15 := by match j, hj2 with | 0, _ => (show (s.getD k 0).toNat / 16 ≤ 15; omega) | 1, _ => (show (s.getD k 0).toNat % 16 ≤ 15; omega)
      have hsl : (([(s.getD k 0).toNat / 16, (s.getD k 0).toNat % 16].take j).map (15 - ·)).sum ≤ 15 * j := by match j, hj2 with | 0, _ => simp | 1, _ => simp
      refine J.E <| J.f (qG9 (i := j) (v := I ((([(s.getD k 0).toNat / 16, (s.getD k 0).toNat % 16].getD j 0) : Nat) : Int)) rfl rfl rfl underlying287 z3_ b3_ (by omega) (by rw [Nat.mul_one]; match j, hj2 with | 0, _ => rfl | 1, _ => rfl)) rfl <| J.b rfl <| J.c hK16 <| J.d2 0 4 5 8 14 15 28 29 ?_
      refine J.g fun K17 hK17 => J.p 2 rfl <| J.u (qAH (l := [.tmp 33]) (xs := [[I ((([(s.getD k 0).toNat / 16, (s.getD k 0).toNat % 16].getD j 0) : Nat) : Int)]]) rfl rfl rfl rfl qB1 el3 rfl (by decide) (by decide) (by simp)) rfl fun g34 _ => J.u (qAb (i := 1) (m2 := blk g34 (([([(s.getD k 0).toNat / 16, (s.getD k 0).toNat % 16].getD j 0)] : List Nat).map fun x : Nat => I (x : Int)) 3) rfl rfl rfl qB1 qB1 el3 rfl hrow (by simp) (slN [([(s.getD k 0).toNat / 16, (s.getD k 0).toNat % 16].getD j 0)] rfl) (qJ3 _) (by omega) (by omega)) rfl ?_
      rintro ⟨A35, c35, m35⟩ h35
      try dsimp only at h35
      rw [← qH9] at h35
      refine J.b rfl <| J.c hK17 <| J.d2 0 4 5 8 14 15 28 29 ?_
      refine J.c5 [0, 1] [F, m35] rfl (by decide) <| J.E <| J.p 2 rfl <| J.f ((qAs rfl rfl rfl (by omega)).as (v' := I ((15 - ([(s.getD k 0).toNat / 16, (s.getD k 0).toNat % 16].getD j 0) : Nat) : Int)) (congrArg I (by omega))) rfl <| J.f ((qAO rfl rfl rfl (by omega)).as (v' := I ((Wo.left (s.take k) + (([(s.getD k 0).toNat / 16, (s.getD k 0).toNat % 16].take (j + 1)).map (15 - ·)).sum : Nat) : Int)) (congrArg I (by rw [hsj]; omega))) rfl <| J.b rfl <| J.a2 <| J.a4 <| J.q (J.H hK15 ?_)
      refine J.b9 0 4 5 14 15 28 29 ?_
      exact J.E <| J.f ((qAO rfl rfl rfl (by omega)).nat (j + 1) (by omega)) rfl <| J.b rfl <| J.a2 <| J.q <| J.a6 (j + 1, A35, c35, m35) (fun x (hx : _ ∧ 2 - x.1 < 2 - j) => hI2 x hx.1 hx.2) ⟨⟨by dsimp only; omega, by dsimp only; rw [show [(s.getD k 0).toNat / 16, (s.getD k 0).toNat % 16].take (j + 1) = [(s.getD k 0).toNat / 16, (s.getD k 0).toNat % 16].take j ++ [([(s.getD k 0).toNat / 16, (s.getD k 0).toNat % 16].getD j 0)] by match j, hj2 with | 0, _ => rfl | 1, _ => rfl, ← List.append_assoc]; exact h35⟩, by dsimp only; omega⟩ ⟨rfl, rfl, rfl, rfl, rfl, rfl, rfl, trivial⟩ (fun _ h => h)
    refine J.b0 <| J.Z <| J.Z <| J.b1 ?_
    refine J.a4 <| J.q (J.H hK10 ?_)
    refine J.a3 0 4 5 14 15 ?_
    refine J.E <| J.f ((qAO rfl rfl rfl (by omega)).nat (k + 1) (by omega)) rfl <| J.b rfl <| J.a2 <| J.q ?_
    have hj2 : j = 2 := by omega
    subst hj2
    have e1 := Wo.nibs_snoc s k (by omega)
    have e2 := Wo.left_snoc s k (by omega)
    have hb8 := (s.getD k 0).toNat_lt
    have e3 : (([(s.getD k 0).toNat / 16, (s.getD k 0).toNat % 16].take 2).map (15 - ·)).sum = (15 - (s.getD k 0).toNat / 16) + ((15 - (s.getD k 0).toNat % 16) + 0) := rfl
    exact J.a6 (k + 1, A4, c4, m) (fun x (hx : _ ∧ 16 - x.1 < 16 - k) => hI0 x hx.1 hx.2) ⟨⟨by dsimp only; omega, by dsimp only; rw [e1]; exact hrow⟩, by dsimp only; omega⟩ ⟨rfl, by rw [show 2 * (k + 1) = 2 * k + 2 by omega]; rfl, by rw [e2]; exact congrArg (fun n : Nat => some (I (n : Int))) (by rw [e3]; omega), rfl, rfl, trivial⟩ (fun _ h => h)
  refine J.b0 <| J.Z <| J.Z <| J.b1 ?_
  refine J.q (J.H hK6 ?_)
  refine J.M 4 5 ?_
  refine J.k fun K18 hK18 => J.k fun K19 hK19 => ?_
  have hk16 : k = 16 := by omega
  subst hk16
  rw [List.take_of_length_le (by omega)] at hrow
  refine J.E <| J.b rfl <| J.c hK19 <| J.V 4 5 9 ?_
  refine J.T <| J.b2 (X := Nat × Option Addr × Nat × Hp) (fun x => [(4, .slice x.2.1 (32 + x.1) x.2.2.1), (5, I ((Wo.left s : Nat) : Int)), (9, I (2 - (x.1 : Int)))]) (fun x => [F, x.2.2.2]) (fun x => x.1 ≤ 3 ∧ Row x.2.2.2 3 1 x.2.1 (32 + x.1) x.2.2.1 (qAu (Wo.nibs s ++ [Wo.left s / 256, Wo.left s / 16 % 16, Wo.left s % 16].take x.1))) (fun x => 3 - x.1) (0, A4, c4, m) (⟨Nat.zero_le _, by rw [List.take_zero, List.append_nil]; exact hrow⟩) ⟨rfl, by rw [List.take_of_length_le (by omega)]; rfl, rfl, trivial⟩ (fun _ h => h) ?_
  clear hrow hlk
  rintro ⟨t, A4, c4, m⟩ ⟨ht, hrow⟩ I4 hI4
  dsimp only at ht hrow ⊢
  refine J.k fun K20 hK20 => J.g fun K21 hK21 => J.b rfl <| J.f (qBG rfl rfl rfl) rfl <| J.c hK21 <| J.W 4 5 9 43 ?_
  refine J.a0 rfl (fun h43 => ?_) (fun h43 => ?_)
  ·
    refine J.a1 hK20 <| J.V 4 5 9 ?_
    refine J.k fun K22 hK22 => J.T ?_
    have ht2 : t < 3 := by omega
    refine J.E <| J.p 2 rfl <| J.f ((qAj rfl rfl).nat (2 - t) (by omega)) rfl <| J.f ((qCD rfl rfl rfl (by omega)).nat (4 * (2 - t)) (by omega)) rfl <| J.f ((qCU rfl rfl rfl (by omega)).as (v' := I ((Wo.left s / 2 ^ (4 * (2 - t)) : Nat) : Int)) (congrArg I (by simp))) rfl <| J.f ((qJz 4 rfl rfl rfl (by decide) (by decide)).as (v' := I (([Wo.left s / 256, Wo.left s / 16 % 16, Wo.left s % 16].getD t 0 : Nat) : Int)) (congrArg I (by match t, ht2 with | 0, _ => (show ((Wo.left s / 2 ^ (4 * (2 - 0)) : Nat) : Int) % 2 ^ 4 = ((Wo.left s / 256 : Nat) : Int); omega) | 1, _ => (show ((Wo.left s / 2 ^ (4 * (2 - 1)) : Nat) : Int) % 2 ^ 4 = ((Wo.left s / 16 % 16 : Nat) : Int); omega) | 2, _ => (show ((Wo.left s / 2 ^ (4 * (2 - 2)) : Nat) : Int) % 2 ^ 4 = ((Wo.left s % 16 : Nat) : Int); omega)))) rfl <| J.u (qAH (l := [.tmp 51]) (xs := [[I ((([Wo.left s / 256, Wo.left s / 16 % 16, Wo.left s % 16].getD t 0) : Nat) : Int)]]) rfl rfl rfl rfl qB1 el3 rfl (by decide) (by decide) (by simp)) rfl fun g52 _ => J.u (qAb (i := 1) (m2 := blk g52 (([([Wo.left s / 256, Wo.left s / 16 % 16, Wo.left s % 16].getD t 0)] : List Nat).map fun x : Nat => I (x : Int)) 3) rfl rfl rfl qB1 qB1 el3 rfl hrow (by simp) (slN [([Wo.left s / 256, Wo.left s / 16 % 16, Wo.left s % 16].getD t 0)] rfl) (qJ3 _) (by omega) (by omega)) rfl ?_
    rintro ⟨A53, c53, m53⟩ h53
    try dsimp only at h53
    rw [← qH9] at h53
    refine J.b rfl <| J.a2 <| J.a4 <| J.q (J.H hK22 ?_)
    refine J.V 4 5 9 ?_
    exact J.c5 [0, 1] [F, m53] rfl (by decide) <| J.E <| J.b rfl <| J.f ((qAs rfl rfl rfl (by omega)).as (v' := I (2 - ((t + 1 : Nat) : Int))) (congrArg I (by omega))) rfl <| J.b rfl <| J.a2 <| J.q <| J.a6 (t + 1, A53, c53, m53) (fun x (hx : _ ∧ 3 - x.1 < 3 - t) => hI4 x hx.1 hx.2) ⟨⟨by dsimp only; omega, by dsimp only; rw [show [Wo.left s / 256, Wo.left s / 16 % 16, Wo.left s % 16].take (t + 1) = [Wo.left s / 256, Wo.left s / 16 % 16, Wo.left s % 16].take t ++ [[Wo.left s / 256, Wo.left s / 16 % 16, Wo.left s % 16].getD t 0] by match t, ht2 with | 0, _ => rfl | 1, _ => rfl | 2, _ => rfl, ← List.append_assoc]; exact h53⟩, by dsimp only; omega⟩ ⟨rfl, rfl, rfl, trivial⟩ (fun _ h => h)
  refine J.b0 <| J.Z <| J.Z <| J.b1 ?_
  refine J.q (J.H hK18 ?_)
  refine J.A 4 ?_
  refine J.k fun K23 hK23 => ?_
  have ht3 : t = 3 := by omega
  subst ht3
  refine J.E <| J.p 3 rfl <| J.c hK23 <| J.M 2 3 ?_
  exact J.D <| J.c2 hw0 (fun _ _ h => h) (qDb rfl rfl rfl) (qBD (A4, c4, m) rfl (by unfold Wo.digs; exact hrow) [0, 1] rfl (by decide))
theorem qRn (F : Hp) (hK : KF F) (seed : List UInt8) (leaf : Nat) (d : List UInt8) (hs : seed.length ≤ 1048576) (h1 : leaf < 4611686018427387904) (hd : d.length = 16) :
    Ct prog 90 [Str seed, I leaf, Str d] [F] (fun x : Option Addr × Nat × Hp => .tuple #[.slice x.1 35 x.2.1, I 0]) (fun x => Row x.2.2 9 1 x.1 35 x.2.1 (qAL (Wo.signs seed leaf (Wo.digs d) 35))) (fun x => [F, x.2.2]) := by
  have hdl : (Wo.digs d).length = 35 := by rw [Wo.digs_length, hd]
  have hd15 := Wo.digs_le d (by omega)
  refine Ct.walk func90 rfl ntmps90 rfl (fun w0 hw0 => ?_)
  refine J.g fun K1 hK1 => J.p 2 rfl <| J.c hK1 <| J.V 0 1 2 ?_
  refine J.g fun K2 hK2 => J.b rfl <| J.u (qAB rfl rfl ent143 (Ct.use (fun F' hF => qFh F' d hd))) rfl ?_
  rintro ⟨A16, c16, m16⟩ h16
  try dsimp only at h16
  refine J.b rfl <| J.f (qAm rfl rfl rfl) rfl <| J.f (qAm rfl rfl rfl) rfl <| J.p 2 rfl <| J.c hK2 <| J.W 0 1 8 9 ?_
  refine J.k fun K3 hK3 => J.g fun K4 hK4 => J.b rfl <| J.f ((qAx rfl rfl rfl).no (by decide)) rfl <| J.c hK4 <| J.a3 0 1 8 9 20 ?_
  refine J.b6 ?_
  refine J.a1 hK3 <| J.V 0 1 8 ?_
  refine J.g fun K5 hK5 => J.b rfl <| J.u (qAB rfl rfl ent70 (Ct.use0 (fun F' hF => qGf F' (hK.mono (hF _ (by simp))) seed hs))) rfl fun g23 _ => J.b rfl <| J.c hK5 <| J.W 0 1 8 10 ?_
  refine J.k fun K6 hK6 => J.d6 [0, 1, 2] [F, m16, (fun _ => none)] rfl (by decide) <| J.E <| J.b rfl <| J.c hK6 <| J.a3 0 1 8 10 11 ?_
  refine J.k fun K7 hK7 => J.g fun K8 hK8 => J.b rfl <| J.f (qAZ qB1 rfl rfl) rfl <| J.b rfl <| J.c hK8 <| J.b9 0 1 10 11 24 25 26 ?_
  refine J.T <| J.b2 (X := Nat × Option Addr × Nat × Hp) (fun x => [(0, Str seed), (1, I leaf), (10, Str (Wo.opn seed)), (11, .slice x.2.1 x.1 x.2.2.1), (24, .slice A16 35 c16), (25, I ((35 : Nat) : Int)), (26, I x.1)]) (fun x => [F, m16, x.2.2.2]) (fun x => x.1 ≤ 35 ∧ Row x.2.2.2 9 1 x.2.1 x.1 x.2.2.1 (qAL (Wo.signs seed leaf (Wo.digs d) x.1))) (fun x => 35 - x.1) (0, none, 0, fun _ => none) (⟨Nat.zero_le _, by rw [Wo.signs0]; exact qB5.nil⟩) ⟨rfl, rfl, rfl, rfl, rfl, rfl, rfl, trivial⟩ (fun _ h => h) ?_
  rintro ⟨k, A6, c6, m⟩ ⟨hk, hrow⟩ I0 hI0
  dsimp only at hk hrow ⊢
  have hdk := hd15 k
  refine J.g fun K9 hK9 => J.f (qAS rfl rfl rfl) rfl <| J.c hK9 <| J.d2 0 1 10 11 24 25 26 27 ?_
  refine J.k fun K10 hK10 => J.a0 rfl (fun h27 => ?_) (fun h27 => ?_)
  ·
    refine J.a1 hK10 <| J.b9 0 1 10 11 24 25 26 ?_
    refine J.k fun K11 hK11 => J.T <| J.g fun K12 hK12 => J.b rfl <| J.f (qAG rfl rfl rfl qB1 z3_ h16.sl (by omega)) rfl <| J.f (qAK rfl rfl b3_ (m := m16) (by simp) (h16.sl.elem (qBA (k := k) (by omega)))) rfl <| J.p 2 rfl <| J.c hK12 <| J.d8 0 1 10 11 12 13 24 25 26 ?_
    refine J.E <| J.p 8 rfl <| J.u (qAB rfl rfl ent126 (Ct.use0 (fun F' hF => qF7 F' (hK.mono (hF _ (by simp))) seed leaf k hs h1 (by omega)))) rfl fun g39 _ => J.u (qAB rfl rfl ent125 (Ct.use0 (fun F' hF => qIi F' (hK.mono (hF _ (by simp))) (Wo.opn seed) leaf k (by rw [Wo.opn_length]; decide) h1 (by omega) (Wo.secret seed leaf k) (by rw [Wo.secret_length]; decide) 0 ((Wo.digs d).getD k 0) 0 ((Wo.digs d).getD k 0) (by omega) (by omega) (by omega)))) rfl fun g40 _ => J.u (qAH (l := [.tmp 40]) (xs := [[Str ((Wo.walk (Wo.opn seed) leaf k 0 (Wo.secret seed leaf k) ((Wo.digs d).getD k 0)))]]) rfl rfl rfl rfl qAn el9 rfl (by decide) (by decide) (by simp)) rfl fun g41 _ => J.u (qAb (i := 2) (m2 := blk g41 [Str (Wo.walk (Wo.opn seed) leaf k 0 (Wo.secret seed leaf k) ((Wo.digs d).getD k 0))] 9) rfl rfl rfl qAn qAn el9 rfl hrow (by simp) (qAr (q := True) (xs := qAL [(Wo.walk (Wo.opn seed) leaf k 0 (Wo.secret seed leaf k) ((Wo.digs d).getD k 0))]) rfl (by simp [qAL])).sl (qCN _) (by omega) (by omega)) rfl ?_
    rintro ⟨A42, c42, m42⟩ h42
    try dsimp only at h42
    rw [← qB2, ← Wo.signs_succ] at h42
    refine J.c5 [0, 1, 2] [F, m16, m42] rfl (by decide) <| J.b rfl <| J.a2 <| J.a4 <| J.q (J.H hK11 ?_)
    refine J.b9 0 1 10 11 24 25 26 ?_
    exact J.E <| J.f ((qAO rfl rfl rfl (by omega)).nat (k + 1) (by omega)) rfl <| J.b rfl <| J.a2 <| J.q <| J.a6 (k + 1, A42, c42, m42) (fun x (hx : _ ∧ 35 - x.1 < 35 - k) => hI0 x hx.1 hx.2) ⟨⟨by dsimp only; omega, h42⟩, by dsimp only; omega⟩ ⟨rfl, rfl, rfl, rfl, rfl, rfl, rfl, trivial⟩ (fun _ h => h)
  refine J.b0 <| J.Z <| J.Z <| J.b1 ?_
  refine J.q (J.H hK7 ?_)
  refine J.A 11 ?_
  refine J.k fun K13 hK13 => ?_
  have hk35 : k = 35 := by omega
  subst hk35
  refine J.E <| J.p 3 rfl <| J.c hK13 <| J.M 6 7 ?_
  exact J.D <| J.c2 hw0 (fun _ _ h => h) (qDb rfl rfl rfl) (qBD (A6, c6, m) rfl hrow [0, 2] rfl (by decide))
theorem qL6 (F : Hp) (A : Option Addr) (n c : Nat) (ls : List (List UInt8)) (hl : Sl F 1 A n c (qAL ls)) (h16 : ∀ s ∈ ls, s.length = 16) (hn : n = 35) :
    Ct prog 169 [.slice A n c] [F] (fun _ : Unit => .bool true) (fun _ => True) (fun _ => [F]) := by
  have hlen : ls.length = n := by have := hl.1; simpa [qAL] using this
  refine Ct.walk func169 rfl ntmps169 rfl (fun w0 hw0 => ?_)
  refine J.g fun K1 hK1 => J.b rfl <| J.c hK1 <| J.A 0 ?_
  refine J.k fun K2 hK2 => J.g fun K3 hK3 => J.b rfl <| J.f (qAZ qAn rfl rfl) rfl <| J.b rfl <| J.c hK3 <| J.W 0 5 6 7 ?_
  refine J.T <| J.b2 (fun k : Nat => [(0, .slice A n c), (5, .slice A n c), (6, I n), (7, I k)]) (fun _ => [F]) (fun k => k ≤ n) (fun k => n - k) 0 (Nat.zero_le _) ⟨rfl, rfl, rfl, rfl, trivial⟩ (fun _ h => h) ?_
  intro k hk I0 hI0
  refine J.g fun K4 hK4 => J.f (qAS rfl rfl rfl) rfl <| J.c hK4 <| J.a3 0 5 6 7 8 ?_
  refine J.k fun K5 hK5 => J.a0 rfl (fun h8 => ?_) (fun h8 => ?_)
  ·
    refine J.a1 hK5 <| J.W 0 5 6 7 ?_
    refine J.k fun K6 hK6 => J.T <| J.g fun K7 hK7 => J.f (qAG rfl rfl rfl qAn z9_ hl (by omega)) rfl <| J.f (qAK rfl rfl b9_ (m := F) (by simp) (hl.elem (qAa (qAi [] (show k < ls.length by omega))))) rfl <| J.b rfl <| J.c hK7 <| J.a3 0 4 5 6 7 ?_
    refine J.g fun K8 hK8 => J.b rfl <| J.f (qA0 u9_ rfl rfl) rfl <| J.f ((qAx rfl rfl rfl).no (by have := h16 _ (List.mem_of_getElem? (qAi [] (show k < ls.length by omega))); omega)) rfl <| J.c hK8 <| J.a3 0 5 6 7 13 ?_
    refine J.b6 ?_
    refine J.b7 <| J.a4 <| J.q (J.H hK6 ?_)
    refine J.W 0 5 6 7 ?_
    exact J.E <| J.f ((qAO rfl rfl rfl (by omega)).nat (k + 1) (by omega)) rfl <| J.b rfl <| J.a2 <| J.q <| J.a6 (k + 1) (fun x (hx : x ≤ n ∧ n - x < n - k) => hI0 x hx.1 hx.2) ⟨by omega, by omega⟩ ⟨rfl, rfl, rfl, rfl, trivial⟩ (fun _ h => h)
  refine J.b0 <| J.Z <| J.Z <| J.b1 ?_
  refine J.q (J.H hK2 ?_)
  refine J.A 0 ?_
  refine J.g fun K9 hK9 => J.b rfl <| J.f (qAZ qAn rfl rfl) rfl <| J.f ((qAd rfl rfl rfl).yes (by omega)) rfl <| J.b rfl <| J.c hK9 <| J.A 2 ?_
  exact J.D <| J.L hw0 rfl () rfl trivial [0] rfl (by decide)
theorem qK4 (F : Hp) (hK : KF F) (o : List UInt8) (leaf : Nat) (d : List UInt8) (A : Option Addr) (c : Nat) (sig : List (List UInt8)) (hl : Sl F 1 A 35 c (qAL sig)) (ho : o.length ≤ 1048576) (h1 : leaf < 4611686018427387904) (hd : d.length = 16) (hsg : ∀ s ∈ sig, s.length = 16) :
    Ct prog 123 [Str o, I leaf, Str d, .slice A 35 c] [F] (fun _ : Unit => .tuple #[Str (Wo.publicOf o leaf (Wo.ends o leaf (Wo.digs d) sig 35)), I 0]) (fun _ => True) (fun _ => [F]) := by
  have hdl : (Wo.digs d).length = 35 := by rw [Wo.digs_length, hd]
  have hd15 := Wo.digs_le d (by omega)
  have hlen : sig.length = 35 := by have := hl.1; simpa [qAL] using this
  refine Ct.walk func123 rfl ntmps123 rfl (fun w0 hw0 => ?_)
  refine J.g fun K1 hK1 => J.p 2 rfl <| J.c hK1 <| J.W 0 1 2 3 ?_
  refine J.g fun K2 hK2 => J.b rfl <| J.u (qAB rfl rfl ent143 (Ct.use (fun F' hF => qFh F' d hd))) rfl ?_
  rintro ⟨A17, c17, m17⟩ h17
  try dsimp only at h17
  refine J.b rfl <| J.f (qAm rfl rfl rfl) rfl <| J.f (qAm rfl rfl rfl) rfl <| J.p 2 rfl <| J.c hK2 <| J.a3 0 1 3 10 11 ?_
  refine J.k fun K3 hK3 => J.T <| J.g fun K4 hK4 => J.b rfl <| J.f ((qAx rfl rfl rfl).no (by decide)) rfl <| J.b rfl <| J.c hK4 <| J.a9 0 1 3 10 11 20 ?_
  refine J.b6 ?_
  refine J.g fun K5 hK5 => J.b rfl <| J.u (qAB rfl rfl ent169 (Ct.use0 (fun F' hF => qL6 F' A 35 c sig (hl.mono (hF _ (by simp))) hsg rfl))) rfl fun g26 _ => J.f ((qA2 rfl rfl).as (v' := .bool false) rfl) rfl <| J.b rfl <| J.c hK5 <| J.a3 0 1 3 10 24 ?_
  refine J.b6 ?_
  refine J.b7 <| J.a4 <| J.q (J.H hK3 ?_)
  refine J.W 0 1 3 10 ?_
  refine J.k fun K6 hK6 => J.d6 [0, 1, 2] [F, m17, (fun _ => none)] rfl (by decide) <| J.E <| J.b rfl <| J.c hK6 <| J.a3 0 1 3 10 12 ?_
  refine J.k fun K7 hK7 => J.g fun K8 hK8 => J.b rfl <| J.f (qAZ qB1 rfl rfl) rfl <| J.b rfl <| J.c hK8 <| J.b9 0 1 3 12 28 29 30 ?_
  refine J.T <| J.b2 (X := Nat × Option Addr × Nat × Hp) (fun x => [(0, Str o), (1, I leaf), (3, .slice A 35 c), (12, .slice x.2.1 x.1 x.2.2.1), (28, .slice A17 35 c17), (29, I ((35 : Nat) : Int)), (30, I x.1)]) (fun x => [F, m17, x.2.2.2]) (fun x => x.1 ≤ 35 ∧ Row x.2.2.2 9 1 x.2.1 x.1 x.2.2.1 (qAL (Wo.ends o leaf (Wo.digs d) sig x.1))) (fun x => 35 - x.1) (0, none, 0, fun _ => none) (⟨Nat.zero_le _, by rw [Wo.ends0]; exact qB5.nil⟩) ⟨rfl, rfl, rfl, rfl, rfl, rfl, rfl, trivial⟩ (fun _ h => h) ?_
  rintro ⟨k, A6, c6, m⟩ ⟨hk, hrow⟩ I0 hI0
  dsimp only at hk hrow ⊢
  have hdk := hd15 k
  refine J.g fun K9 hK9 => J.f (qAS rfl rfl rfl) rfl <| J.c hK9 <| J.d2 0 1 3 12 28 29 30 31 ?_
  refine J.k fun K10 hK10 => J.a0 rfl (fun h31 => ?_) (fun h31 => ?_)
  ·
    refine J.a1 hK10 <| J.b9 0 1 3 12 28 29 30 ?_
    refine J.k fun K11 hK11 => J.T <| J.g fun K12 hK12 => J.b rfl <| J.f (qAG rfl rfl rfl qB1 z3_ h17.sl (by omega)) rfl <| J.f (qAK rfl rfl b3_ (m := m17) (by simp) (h17.sl.elem (qBA (k := k) (by omega)))) rfl <| J.p 2 rfl <| J.c hK12 <| J.d8 0 1 3 12 13 14 28 29 30 ?_
    refine J.E <| J.p 7 rfl <| J.f (qAG rfl rfl rfl qAn z9_ hl (by omega)) rfl <| J.f (qAK rfl rfl b9_ (m := F) (by simp) (hl.elem (qAa (qAi [] (show k < sig.length by omega))))) rfl <| J.u (qAB rfl rfl ent125 (Ct.use0 (fun F' hF => qIi F' (hK.mono (hF _ (by simp))) o leaf k ho h1 (by omega) (sig.getD k []) (by have := hsg _ (List.mem_of_getElem? (qAi [] (show k < sig.length by omega))); omega) ((((Wo.digs d).getD k 0) : Nat) : Int) 15 ((Wo.digs d).getD k 0) (15 - ((Wo.digs d).getD k 0)) (by omega) (by omega) (by omega)))) rfl fun g44 _ => J.u (qAH (l := [.tmp 44]) (xs := [[Str ((Wo.walk o leaf k ((Wo.digs d).getD k 0) (sig.getD k []) (15 - ((Wo.digs d).getD k 0))))]]) rfl rfl rfl rfl qAn el9 rfl (by decide) (by decide) (by simp)) rfl fun g45 _ => J.u (qAb (i := 2) (m2 := blk g45 [Str (Wo.walk o leaf k ((Wo.digs d).getD k 0) (sig.getD k []) (15 - ((Wo.digs d).getD k 0)))] 9) rfl rfl rfl qAn qAn el9 rfl hrow (by simp) (qAr (q := True) (xs := qAL [(Wo.walk o leaf k ((Wo.digs d).getD k 0) (sig.getD k []) (15 - ((Wo.digs d).getD k 0)))]) rfl (by simp [qAL])).sl (qCN _) (by omega) (by omega)) rfl ?_
    rintro ⟨A46, c46, m46⟩ h46
    try dsimp only at h46
    rw [← qB2, ← Wo.ends_succ] at h46
    refine J.c5 [0, 1, 2] [F, m17, m46] rfl (by decide) <| J.b rfl <| J.a2 <| J.a4 <| J.q (J.H hK11 ?_)
    refine J.b9 0 1 3 12 28 29 30 ?_
    exact J.E <| J.f ((qAO rfl rfl rfl (by omega)).nat (k + 1) (by omega)) rfl <| J.b rfl <| J.a2 <| J.q <| J.a6 (k + 1, A46, c46, m46) (fun x (hx : _ ∧ 35 - x.1 < 35 - k) => hI0 x hx.1 hx.2) ⟨⟨by dsimp only; omega, h46⟩, by dsimp only; omega⟩ ⟨rfl, rfl, rfl, rfl, rfl, rfl, rfl, trivial⟩ (fun _ h => h)
  refine J.b0 <| J.Z <| J.Z <| J.b1 ?_
  refine J.q (J.H hK7 ?_)
  refine J.V 0 1 12 ?_
  refine J.k fun K13 hK13 => ?_
  have hk35 : k = 35 := by omega
  subst hk35
  refine J.E <| J.p 3 rfl <| J.u (qAB rfl rfl ent127 (Ct.use0 (fun F' hF => qF8 F' (hK.mono (hF _ (by simp))) o leaf ho h1 A6 35 c6 (Wo.ends o leaf (Wo.digs d) sig 35) (hrow.sl.mono (hF _ (by simp))) (Wo.ends_small o leaf (Wo.digs d) sig 35 (fun s hs => Nat.le_of_eq (hsg s hs))) (by decide)))) rfl fun g51 _ => J.p 2 rfl <| J.c hK13 <| J.M 8 9 ?_
  exact J.D <| J.c2 hw0 (fun _ _ h => h) (qDb rfl rfl rfl) (qBD () rfl trivial [0] rfl (by decide))
end Go.Proofs.YtfldiegfenndjaaGreatDoor
namespace Go.Proofs.YtfldiegfenndjaaGreatDoor
open Go Go.Fw Go.Proofs.Tryz
set_option maxRecDepth 100000
set_option maxHeartbeats 1000000
theorem ent68 : qAC prog 68 := qAC.of func68 rfl (by kernel_rfl)
theorem ent89 : qAC prog 89 := qAC.of func89 rfl (by kernel_rfl)
theorem ent90 : qAC prog 90 := qAC.of func90 rfl (by kernel_rfl)
theorem ent91 : qAC prog 91 := qAC.of func91 rfl (by kernel_rfl)
theorem ent123 : qAC prog 123 := qAC.of func123 rfl (by kernel_rfl)
namespace Xm
def leaves (seed : List UInt8) (k : Nat) : List (List UInt8) := (List.range k).map fun i => Wo.pub seed i
def root (seed : List UInt8) (h : Nat) : List UInt8 := Mk.root (leaves seed (2 ^ h)) h
def four (n : Nat) : List UInt8 := [UInt8.ofNat (n / 2 ^ 24), UInt8.ofNat (n / 2 ^ 16), UInt8.ofNat (n / 2 ^ 8), UInt8.ofNat n]
def digest (o : List UInt8) (i : Nat) (m : List UInt8) : List UInt8 := Sha.tagged 6 [o, four i, m]
theorem leaves_succ (seed : List UInt8) (k : Nat) : leaves seed (k + 1) = leaves seed k ++ [Wo.pub seed k] := by simp [leaves, List.range_succ]
theorem leaves_length (seed : List UInt8) (k : Nat) : (leaves seed k).length = k := by simp [leaves]
theorem leaves_get (seed : List UInt8) (k i : Nat) (h : i < k) : (leaves seed k).getD i [] = Wo.pub seed i := by
 unfold leaves
 rw [List.getD_eq_getElem?_getD, List.getElem?_map, List.getElem?_range h]; rfl
theorem pub_length (seed : List UInt8) (i : Nat) : (Wo.pub seed i).length = 16 := Sha.tagged_length _ _
theorem leaves_small (seed : List UInt8) (k : Nat) : ∀ s ∈ leaves seed k, s.length ≤ 1048576 := fun s hs => by
 simp only [leaves, List.mem_map] at hs
 obtain ⟨i, _, rfl⟩ := hs
 rw [pub_length]; decide
theorem digest_length (o : List UInt8) (i : Nat) (m : List UInt8) : (digest o i m).length = 16 := Sha.tagged_length _ _
theorem four_length (n : Nat) : (four n).length = 4 := rfl
theorem pow_le (h : Nat) (h6 : h ≤ 6) : 2 ^ h ≤ 64 := Nat.le_trans (Nat.pow_le_pow_right (by decide) h6) (by decide)
end Xm
attribute [local irreducible] Sha.tagged Wo.pub Wo.publicOf Wo.signs Wo.ends Wo.digs Wo.walk Wo.opn Mk.root Mk.path Mk.climb
theorem Xm.leaves0 (seed : List UInt8) : Xm.leaves seed 0 = [] := rfl
theorem Wo.recPub (seed : List UInt8) (leaf : Nat) (d : List UInt8) (hd : d.length ≤ 16) : Wo.publicOf (Wo.opn seed) leaf (Wo.ends (Wo.opn seed) leaf (Wo.digs d) (Wo.signs seed leaf (Wo.digs d) 35) 35) = Wo.pub seed leaf := by
 rw [Wo.recovers seed leaf (Wo.digs d) (Wo.digs_le d hd) 35]; unfold Wo.pub; rfl
def qBH (seed o r : List UInt8) (h : Int) (A : Option Addr) (n c : Nat) : List Value := [Str seed, Str o, Str r, I h, .slice A n c]
def qTM (mm : Hp) (g : Nat) (seed : List UInt8) (h : Nat) : Prop := ∃ A c mr, mm = U [blk g (qBH seed (Wo.opn seed) (Xm.root seed h) h A (2 ^ h) c) 171, mr] ∧ Dj (blk g (qBH seed (Wo.opn seed) (Xm.root seed h) h A (2 ^ h) c) 171) mr ∧ Row mr 9 1 A (2 ^ h) c (qAL (Xm.leaves seed (2 ^ h)))
theorem qTM.see {mm : Hp} {g : Nat} {seed : List UInt8} {h : Nat} (hk : qTM mm g seed h) : ∃ A c, qAV mm ⟨g, 0, none⟩ (qBH seed (Wo.opn seed) (Xm.root seed h) h A (2 ^ h) c) ∧ Sl mm 1 A (2 ^ h) c (qAL (Xm.leaves seed (2 ^ h))) := by
 obtain ⟨A, c, mr, rfl, hd, hr⟩ := hk
 exact ⟨A, c, qAV.blk0.mono (qQ3 _ _), hr.sl.mono (qNX hd)⟩
theorem qRO (F : Hp) (hK : KF F) (seed : List UInt8) (h : Nat) (hs : seed.length ≤ 1048576) (h6 : h ≤ 6) :
    Ct prog 33 [Str seed, I h] [F] (fun x : Nat × Hp => .tuple #[Ptr x.1, I 0]) (fun x => qTM x.2 x.1 seed h) (fun x => [x.2, F]) := by
  have hp64 := Xm.pow_le h h6
  have hp0 := Nat.two_pow_pos h
  refine Ct.walk func33 rfl ntmps33 rfl (fun w0 hw0 => ?_)
  refine J.g fun K1 hK1 => J.p 2 rfl <| J.c hK1 <| J.M 0 1 ?_
  refine J.k fun K2 hK2 => J.g fun K3 hK3 => J.b rfl <| J.f ((qAS rfl rfl rfl).no (by omega)) rfl <| J.p 2 rfl <| J.O ((qBJ rfl rfl rfl).no (by omega)) rfl <| J.b rfl <| J.c hK3 <| J.V 0 1 15 ?_
  refine J.b6 ?_
  refine J.a1 hK2 <| J.M 0 1 ?_
  refine J.g fun K4 hK4 => J.b rfl <| J.f (qAQ (places := [(0, 1), (1, 3), (4, 1)]) (r := qBH seed [] [] 0 none 0 0) rfl rfl rfl qFx zeroValue171 (fun _ => by kernel_rfl) rfl) rfl <| J.u (qAl rfl rfl rfl) rfl fun g18 _ => J.b rfl <| J.c hK4 <| J.V 0 1 6 ?_
  refine J.k fun K5 hK5 => J.k fun K6 hK6 => J.d6 [0, 1, 2] [F, blk g18 (qBH seed [] [] 0 none 0 0) 171, (fun _ => none)] rfl (by decide) <| J.E <| J.b rfl <| J.f ((qG5 rfl rfl rfl ⟨by omega, by have := Int.pow_pos (n := 2) (m := h) (by decide); omega, by rw [Int.one_mul]; exact Int.ofNat_le.2 (show 2 ^ h ≤ 9223372036854775807 by omega)⟩).as (v' := I ((2 ^ h : Nat) : Int)) (congrArg I (by simp))) rfl <| J.b rfl <| J.c hK6 <| J.a3 0 1 6 20 21 ?_
  refine J.T <| J.b2 (X := Nat × Option Addr × Nat × Hp) (fun x => [(0, Str seed), (1, I h), (6, Ptr g18), (20, I ((2 ^ h : Nat) : Int)), (21, I x.1)]) (fun x => [F, blk g18 (qBH seed [] [] 0 x.2.1 x.1 x.2.2.1) 171, x.2.2.2]) (fun x => x.1 ≤ 2 ^ h ∧ Row x.2.2.2 9 1 x.2.1 x.1 x.2.2.1 (qAL (Xm.leaves seed x.1))) (fun x => 2 ^ h - x.1) (0, none, 0, fun _ => none) (⟨Nat.zero_le _, by rw [Xm.leaves0]; exact qB5.nil⟩) ⟨rfl, rfl, rfl, rfl, rfl, trivial⟩ (fun _ h => h) ?_
  rintro ⟨k, A6, c6, m⟩ ⟨hk, hrow⟩ I0 hI0
  dsimp only at hk hrow ⊢
  refine J.g fun K7 hK7 => J.f (qAS rfl rfl rfl) rfl <| J.c hK7 <| J.a9 0 1 6 20 21 22 ?_
  refine J.k fun K8 hK8 => J.a0 rfl (fun h22 => ?_) (fun h22 => ?_)
  ·
    refine J.a1 hK8 <| J.a3 0 1 6 20 21 ?_
    refine J.k fun K9 hK9 => J.T <| J.g fun K10 hK10 => J.p 2 rfl <| J.c hK10 <| J.a9 0 1 6 7 20 21 ?_
    refine J.b5 [blk g18 (qBH seed [] [] 0 A6 k c6) 171] [12] (.y 0 (.y 1 (.y 2 (.y 3 (.y 4 (.y 5 (.y 6 (.e 7 (.e 8 (.e 9 (.y 10 (.y 11 (.e 12 .nil))))))))))))) Tryz.wide (by decide +kernel) (by simp) ?_
    refine J.G ?_
    refine J.G ?_
    refine J.j rfl (qAE rfl rfl) rfl rfl <| J.j rfl (qAA rfl rfl qFx rfl qEZ rfl) rfl rfl <| J.j rfl (qAF 0 rfl rfl rfl qDq rfl) rfl rfl <| J.G ?_
    refine J.G ?_
    refine J.a7 rfl (qAB rfl rfl ent68 (Ct.use0 (fun F' hF => qRP F' (hK.mono (hF _ (by simp))) seed k hs (by omega)))) rfl (by simp) fun g31 _ => J.a7 rfl (qAH (l := [.tmp 31]) (xs := [[Str (Wo.pub seed k)]]) rfl rfl rfl rfl qAn el9 rfl (by decide) (by decide) (by simp)) rfl (by simp) fun g32 _ => J.a7 rfl (qAb (i := 2) (m2 := blk g32 [Str (Wo.pub seed k)] 9) rfl rfl rfl qAn qAn el9 rfl hrow (by simp) (qAr (q := True) (xs := qAL [(Wo.pub seed k)]) rfl (by simp [qAL])).sl (qCN _) (by omega) (by omega)) rfl (by simp) ?_
    rintro ⟨A33, c33, m33⟩ h33
    try dsimp only at h33
    rw [← qB2, ← Xm.leaves_succ] at h33
    refine J.j rfl (qAE rfl rfl) rfl rfl <| J.j rfl (qAA rfl rfl qFx rfl qEZ rfl) rfl rfl <| J.c8 rfl (qAc (i := 1) rfl rfl rfl rfl rfl qEZ rfl (by simp [qBH])) rfl rfl rfl fun _ _ => J.b4 <| J.a4 <| J.q (J.H hK9 ?_)
    refine J.a3 0 1 6 20 21 ?_
    exact J.c5 [0, 1, 2] [F, blk g18 (qBH seed [] [] 0 A33 (k + 1) c33) 171, m33] rfl (by decide) <| J.E <| J.f ((qAO rfl rfl rfl (by omega)).nat (k + 1) (by omega)) rfl <| J.b rfl <| J.a2 <| J.q <| J.a6 (k + 1, A33, c33, m33) (fun x (hx : _ ∧ 2 ^ h - x.1 < 2 ^ h - k) => hI0 x hx.1 hx.2) ⟨⟨by dsimp only; omega, h33⟩, by dsimp only; omega⟩ ⟨rfl, rfl, rfl, rfl, rfl, trivial⟩ (fun _ h => h)
  refine J.b0 <| J.Z <| J.Z <| J.b1 ?_
  refine J.q (J.H hK5 ?_)
  refine J.V 0 1 6 ?_
  refine J.k fun K11 hK11 => ?_
  have hkn : k = 2 ^ h := by omega
  subst hkn
  refine J.E <| J.b rfl <| J.f (qAE rfl rfl) rfl <| J.a8 4 qFx qEZ rfl rfl rfl rfl rfl <| J.c4 1 qDq rfl rfl rfl rfl rfl <| J.u (qAB rfl rfl ent69 (Ct.use0 (fun F' hF => qRw F' (hK.mono (hF _ (by simp))) A6 (2 ^ h) c6 (Xm.leaves seed (2 ^ h)) (hrow.sl.mono (hF _ (by simp))) h h6 rfl (Xm.leaves_small _ _)))) rfl fun g42 _ => J.p 2 rfl <| J.f (qAm rfl rfl rfl) rfl <| J.p 2 rfl <| J.c hK11 <| J.W 0 1 6 8 ?_
  refine J.g fun K12 hK12 => J.p 2 rfl <| J.u (qAB rfl rfl ent70 (Ct.use0 (fun F' hF => qGf F' (hK.mono (hF _ (by simp))) seed hs))) rfl fun g47 _ => J.p 2 rfl <| J.f (qAQ (places := [(0, 1), (1, 1), (2, 1)]) (r := [Str (Wo.opn seed), Str (Xm.root seed h), I h]) rfl rfl rfl qIn zeroValue54 (fun _ => by kernel_rfl) rfl) rfl <| J.f (qAE rfl rfl) rfl <| J.a8 1 qFx qF5 rfl rfl rfl rfl rfl <| J.c1 (qAc (i := 1) rfl rfl rfl rfl rfl qF5 rfl (by simp [qBH])) rfl rfl fun _ _ => J.c hK12 <| J.A 6 ?_
  refine J.k fun K13 hK13 => J.c5 [1, 2, 0] [blk g18 (qBH seed (Wo.opn seed) (Xm.root seed h) h A6 (2 ^ h) c6) 171, m, F] rfl (by decide) <| J.E <| J.p 3 rfl <| J.c hK13 <| J.M 4 5 ?_
  exact J.D <| J.c2 hw0 (fun _ _ h => h) (qDb rfl rfl rfl) (qB3 (g18, U [blk g18 (qBH seed (Wo.opn seed) (Xm.root seed h) h A6 (2 ^ h) c6) 171, m]) rfl (fun hd => ⟨A6, c6, m, rfl, hd, hrow⟩) [0, 1, 2] rfl rfl (by decide))
theorem qL4 (F : Hp) (g : Nat) (seed o r : List UInt8) (h : Int) (A : Option Addr) (n c : Nat) (hc : qAV F ⟨g, 0, none⟩ (qBH seed o r h A n c)) :
    Ct prog 89 [Ptr g] [F] (fun _ : Unit => I n) (fun _ => True) (fun _ => [F]) := by
  refine Ct.walk func89 rfl ntmps89 rfl (fun w0 hw0 => ?_)
  refine J.g fun K1 hK1 => J.b rfl <| J.c hK1 <| J.A 0 ?_
  refine J.k fun K2 hK2 => J.g fun K3 hK3 => J.b rfl <| J.f ((qBm underlying105 rfl rfl rfl).as (v' := .bool false) rfl) rfl <| J.c hK3 <| J.M 0 4 ?_
  refine J.b6 ?_
  refine J.a1 hK2 <| J.A 0 ?_
  refine J.g fun K4 hK4 => J.b rfl <| J.f (qAE rfl rfl) rfl <| J.a8 4 qFx qEZ rfl rfl rfl rfl rfl <| J.f (qAK rfl rfl qDq (m := F) (by simp) (hc.at (i := 4) rfl)) rfl <| J.f (qAZ qAn rfl rfl) rfl <| J.b rfl <| J.c hK4 <| J.A 2 ?_
  exact J.D <| J.L hw0 rfl () rfl trivial [0] rfl (by decide)
theorem qKc (F : Hp) (g : Nat) (seed o r : List UInt8) (h : Int) (A : Option Addr) (n c : Nat) (hc : qAV F ⟨g, 0, none⟩ (qBH seed o r h A n c)) :
    Ct prog 35 [Ptr g] [F] (fun _ : Unit => .agg #[Str o, Str r, I h]) (fun _ => True) (fun _ => [F]) := by
  refine Ct.walk func35 rfl ntmps35 rfl (fun w0 hw0 => ?_)
  refine J.g fun K1 hK1 => J.u (qAf rfl zeroValue54 rfl) rfl fun g2 _ => J.c hK1 <| J.M 0 2 ?_
  refine J.k fun K2 hK2 => J.g fun K3 hK3 => J.b rfl <| J.f ((qBm underlying105 rfl rfl rfl).as (v' := .bool false) rfl) rfl <| J.c hK3 <| J.V 0 2 4 ?_
  refine J.b6 ?_
  refine J.a1 hK2 <| J.M 0 2 ?_
  refine J.g fun K4 hK4 => J.b rfl <| J.f (qAE rfl rfl) rfl <| J.a8 1 qFx qF5 rfl rfl rfl rfl rfl <| J.f (qAh rfl rfl isAgg54 qF5 (m := F) (by simp) (hc.sub 1 3) rfl) rfl <| J.c1 (qAR (l := [Str [], Str [], I 0]) (i := 1) (vs := [Str o, Str r, I h]) rfl rfl rfl rfl rfl qF5 rfl rfl) rfl rfl fun _ _ => J.c hK4 <| J.A 2 ?_
  exact J.D <| J.c2 hw0 (fun _ _ h => h) (rv1 rfl (RV.blkA 1 rfl rfl isAgg54 qF5)) (qBD () rfl trivial [0] rfl (by decide))
theorem qF6 (F : Hp) (hK : KF F) (o : List UInt8) (i : Nat) (mg : List UInt8) (ho : o.length ≤ 1048576) (hi : i < 4611686018427387904) (hm : mg.length ≤ 1048576) :
    Ct prog 91 [Str o, I i, Str mg] [F] (fun _ : Unit => Str (Xm.digest o i mg)) (fun _ => True) (fun _ => [F]) := by
  refine Ct.walk func91 rfl ntmps91 rfl (fun w0 hw0 => ?_)
  refine J.g fun K1 hK1 => J.b rfl <| J.c hK1 <| J.V 0 1 2 ?_
  refine J.g fun K2 hK2 => J.b rfl <| J.f ((qCU rfl rfl rfl ⟨by decide, by omega⟩).as (v' := I ((i / 2 ^ 24 : Nat) : Int)) (congrArg I (by simp))) rfl <| J.f (qAe rfl rfl u3_ u5_) rfl <| J.b rfl <| J.f ((qCU rfl rfl rfl ⟨by decide, by omega⟩).as (v' := I ((i / 2 ^ 16 : Nat) : Int)) (congrArg I (by simp))) rfl <| J.f (qAe rfl rfl u3_ u5_) rfl <| J.b rfl <| J.f ((qCU rfl rfl rfl ⟨by decide, by omega⟩).as (v' := I ((i / 2 ^ 8 : Nat) : Int)) (congrArg I (by simp))) rfl <| J.f (qAe rfl rfl u3_ u5_) rfl <| J.b rfl <| J.f (qAe rfl rfl u3_ u5_) rfl <| J.u (qAH (l := [.tmp 10, .tmp 13, .tmp 16, .tmp 18]) (xs := [[B8 (UInt8.ofNat (i / 2 ^ 24))], [B8 (UInt8.ofNat (i / 2 ^ 16))], [B8 (UInt8.ofNat (i / 2 ^ 8))], [B8 (UInt8.ofNat i)]]) rfl rfl rfl rfl qBP el5 rfl (by decide) (by decide) (by simp)) rfl fun g19 _ => J.f (qBB rfl rfl qBP u5_ u9_ (m := blk g19 [B8 (UInt8.ofNat (i / 2 ^ 24)), B8 (UInt8.ofNat (i / 2 ^ 16)), B8 (UInt8.ofNat (i / 2 ^ 8)), B8 (UInt8.ofNat i)] 5) (by simp) (slB (Xm.four i) rfl)) rfl <| J.b rfl <| J.c hK2 <| J.V 0 2 7 ?_
  refine J.g fun K3 hK3 => J.p 3 rfl <| J.u (qAH (l := [.tmp 21, .tmp 22, .tmp 23]) (xs := [[Str (o)], [Str (Xm.four i)], [Str (mg)]]) rfl rfl rfl rfl qAn el9 rfl (by decide) (by decide) (by simp)) rfl fun g24 _ => J.u (qAB rfl rfl ent44 (Ct.use0 (fun F' hF => qA5 F' (hK.mono (hF _ (by simp))) 6 (some ⟨g24, 0, none⟩) 3 3 [o, Xm.four i, mg] ((slS [o, Xm.four i, mg] rfl).mono (hF (blk g24 (([o, Xm.four i, mg] : List (List UInt8)).map fun s => Str s) 9) (by simp))) (by have := qQu ho (show (Xm.four i).length ≤ 1048576 by rw [Xm.four_length]; decide) hm; omega) (by decide)))) rfl fun g25 _ => J.b rfl <| J.c hK3 <| J.A 6 ?_
  exact J.D <| J.L hw0 rfl () rfl trivial [0] rfl (by decide)
theorem qOb (F : Hp) (hK : KF F) (g : Nat) (seed : List UInt8) (h : Nat) (A : Option Addr) (c : Nat) (hc : qAV F ⟨g, 0, none⟩ (qBH seed (Wo.opn seed) (Xm.root seed h) h A (2 ^ h) c)) (hsl : Sl F 1 A (2 ^ h) c (qAL (Xm.leaves seed (2 ^ h)))) (hs : seed.length ≤ 1048576) (h6 : h ≤ 6) (mg : List UInt8) (hm : mg.length ≤ 1048576) (i : Nat) (hi : i < 2 ^ h) :
    Ct prog 45 [Ptr g, I i, Str mg] [F] (fun x : (Option Addr × Nat × Hp) × (Option Addr × Nat × Hp) => .tuple #[.agg #[I i, .slice x.1.1 35 x.1.2.1, .slice x.2.1 h x.2.2.1], I 0]) (fun x => Row x.1.2.2 9 1 x.1.1 35 x.1.2.1 (qAL (Wo.signs seed i (Wo.digs (Xm.digest (Wo.opn seed) i mg)) 35)) ∧ Row x.2.2.2 9 1 x.2.1 h x.2.2.1 (qAL (Mk.path (Xm.leaves seed (2 ^ h)) i h))) (fun x => [F, x.1.2.2, x.2.2.2]) := by
  have hp64 := Xm.pow_le h h6
  have hdl := Xm.digest_length (Wo.opn seed) i mg
  refine Ct.walk func45 rfl ntmps45 rfl (fun w0 hw0 => ?_)
  refine J.g fun K1 hK1 => J.u (qAf rfl zeroValue50 rfl) rfl fun g6 _ => J.b rfl <| J.c hK1 <| J.W 0 1 2 6 ?_
  refine J.k fun K2 hK2 => J.T <| J.g fun K3 hK3 => J.b rfl <| J.f ((qBm underlying105 rfl rfl rfl).as (v' := .bool false) rfl) rfl <| J.b rfl <| J.c hK3 <| J.a3 0 1 2 6 11 ?_
  refine J.b6 ?_
  refine J.g fun K4 hK4 => J.p 2 rfl <| J.u (qAB rfl rfl ent89 (Ct.use0 (fun F' hF => qL4 F' g seed (Wo.opn seed) (Xm.root seed h) h A (2 ^ h) c (hc.mono (hF F (by simp)))))) rfl fun g18 _ => J.f ((qBG rfl rfl rfl).no (by omega)) rfl <| J.b rfl <| J.c hK4 <| J.a3 0 1 2 6 15 ?_
  refine J.b6 ?_
  refine J.g fun K5 hK5 => J.b rfl <| J.f ((qAS rfl rfl rfl).no (by omega)) rfl <| J.b rfl <| J.c hK5 <| J.a3 0 1 2 6 21 ?_
  refine J.b6 ?_
  refine J.b7 <| J.a4 <| J.q (J.H hK2 ?_)
  refine J.W 0 1 2 6 ?_
  refine J.k fun K6 hK6 => J.b5 [F] [] (.y 0 (.y 1 (.y 2 (.y 3 (.y 4 (.y 5 (.y 6 (.y 7 (.y 8 (.y 9 (.y 10 (.y 11 (.e 12 (.e 13 (.y 14 (.y 15 (.y 16 (.y 17 (.y 18 .nil))))))))))))))))))) Tryz.wide (by decide +kernel) (by simp) ?_
  refine J.G ?_
  refine J.j rfl (qAE rfl rfl) rfl rfl <| J.j rfl (qAA rfl rfl qFx rfl z9_ rfl) rfl rfl <| J.j rfl (qAK rfl rfl b9_ (m := F) (by simp) (hc.at (i := 0) rfl)) rfl rfl <| J.G ?_
  refine J.G ?_
  refine J.j rfl (qAE rfl rfl) rfl rfl <| J.j rfl (qAA rfl rfl qFx rfl qF5 rfl) rfl rfl <| J.j rfl (qAA rfl rfl qIn rfl z9_ rfl) rfl rfl <| J.j rfl (qAK rfl rfl b9_ (m := F) (by simp) (hc.at (i := 1) rfl)) rfl rfl <| J.G ?_
  refine J.G ?_
  refine J.a7 rfl (qAB rfl rfl ent91 (Ct.use0 (fun F' hF => qF6 F' (hK.mono (hF _ (by simp))) (Wo.opn seed) i mg (by rw [Wo.opn_length]; decide) (by omega) hm))) rfl (by simp) fun g38 _ => J.a7 rfl (qAB rfl rfl ent90 (Ct.use (fun F' hF => qRn F' (hK.mono (hF _ (by simp))) seed i (Xm.digest (Wo.opn seed) i mg) hs (by omega) hdl))) rfl (by simp) ?_
  rintro ⟨A39, c39, m39⟩ h39
  try dsimp only at h39
  refine J.G ?_
  refine J.d4 (.slice A39 35 c39) ?_
  refine J.d4 (I 0) ?_
  refine J.c0 ?_
  refine J.c0 ?_
  refine J.b4 <| J.q (J.H hK6 ?_)
  refine J.a3 0 1 6 8 9 ?_
  refine J.k fun K7 hK7 => J.g fun K8 hK8 => J.b rfl <| J.f ((qAx rfl rfl rfl).no (by decide)) rfl <| J.c hK8 <| J.a9 0 1 6 8 9 43 ?_
  refine J.b6 ?_
  refine J.a1 hK7 <| J.W 0 1 6 8 ?_
  refine J.g fun K9 hK9 => J.b rfl <| J.f (qAE rfl rfl) rfl <| J.a8 4 qFx qEZ rfl rfl rfl rfl rfl <| J.f (qAK rfl rfl qDq (m := F) (by simp) (hc.at (i := 4) rfl)) rfl <| J.b rfl <| J.u (qAB rfl rfl ent92 (Ct.use (fun F' hF => qR9 F' (hK.mono (hF _ (by simp))) A (2 ^ h) c (Xm.leaves seed (2 ^ h)) (hsl.mono (hF F (by simp))) h h6 rfl (Xm.leaves_small _ _) i hi))) rfl ?_
  rintro ⟨A52, c52, m52⟩ h52
  try dsimp only at h52
  refine J.p 5 rfl <| J.c hK9 <| J.a3 1 6 8 9 10 ?_
  refine J.g fun K10 hK10 => J.p 3 rfl <| J.f (qAQ (places := [(0, 1), (1, 1), (2, 1)]) (r := [I i, .slice A39 35 c39, .slice A52 h c52]) rfl rfl rfl qOl zeroValue50 (fun _ => by kernel_rfl) rfl) rfl <| J.b rfl <| J.c1 (qAR (l := [I 0, .slice none 0 0, .slice none 0 0]) (i := 1) (vs := [I i, .slice A39 35 c39, .slice A52 h c52]) rfl rfl rfl rfl rfl sizeOf50 rfl rfl) rfl rfl fun _ _ => J.b rfl <| J.c hK10 <| J.M 6 7 ?_
  exact J.D <| J.c2 hw0 (fun _ _ h => h) (rv2 rfl (RV.blkA 1 rfl rfl isAgg50 sizeOf50) rfl) (qBD ((A39, c39, m39), (A52, c52, m52)) rfl ⟨h39, h52⟩ [0, 2, 3] rfl (by decide))
theorem Wo.publicOf_length (o : List UInt8) (leaf : Nat) (e : List (List UInt8)) : (Wo.publicOf o leaf e).length = 16 := by unfold Wo.publicOf; exact Sha.tagged_length _ _
theorem qKb (F : Hp) (hK : KF F) (o r : List UInt8) (h : Nat) (mg : List UInt8) (i : Nat) (A1 : Option Addr) (c1 : Nat) (ch : List (List UInt8)) (hch : Sl F 1 A1 35 c1 (qAL ch)) (hsg : ∀ s ∈ ch, s.length = 16) (A2 : Option Addr) (c2 : Nat) (pt : List (List UInt8)) (hpt : Sl F 1 A2 h c2 (qAL pt)) (hps : ∀ s ∈ pt, s.length ≤ 1048576)
    (ho : o.length ≤ 1048576) (hm : mg.length ≤ 1048576) (h6 : h ≤ 6) (hi : i < 2 ^ h) :
    Ct prog 66 [.agg #[Str o, Str r, I h], Str mg, .agg #[I i, .slice A1 35 c1, .slice A2 h c2]] [F] (fun _ : Unit => .bool (decide (Mk.climb (Wo.publicOf o i (Wo.ends o i (Wo.digs (Xm.digest o i mg)) ch 35)) i pt = r))) (fun _ => True) (fun _ => [F]) := by
  have hp64 := Xm.pow_le h h6
  have hdl := Xm.digest_length o i mg
  refine Ct.walk func66 rfl ntmps66 rfl (fun w0 hw0 => ?_)
  refine J.g fun K1 hK1 => J.u (qAl rfl rfl rfl) rfl fun g3 _ => J.u (qAl rfl rfl rfl) rfl fun g5 _ => J.b rfl <| J.c hK1 <| J.V 1 3 5 ?_
  refine J.k fun K2 hK2 => J.k fun K3 hK3 => J.b5 [F, blk g3 [Str o, Str r, I h] 54, blk g5 [I i, .slice A1 35 c1, .slice A2 h c2] 50] [] (.y 0 (.y 1 (.y 2 (.y 3 (.y 4 (.y 5 (.y 6 (.y 7 (.y 8 (.y 9 (.y 10 (.y 11 (.y 12 (.y 13 (.y 14 (.y 15 (.y 16 (.y 17 (.y 18 (.y 19 (.y 20 (.y 21 (.y 22 (.y 23 (.y 24 (.y 25 (.y 26 (.y 27 (.y 28 .nil))))))))))))))))))))))))))))) Tryz.wide (by decide +kernel) (by simp) ?_
  refine J.j rfl (qAA rfl rfl qIn rfl z3_ rfl) rfl rfl <| J.j rfl (qAF 1 rfl rfl rfl b3_ rfl) rfl rfl <| J.j rfl ((qAS rfl rfl rfl).no (by omega)) rfl rfl <| J.G ?_
  refine J.b8 rfl (qAA rfl rfl qIn rfl z3_ rfl) rfl rfl <| J.b8 rfl (qAF 1 rfl rfl rfl b3_ rfl) rfl rfl <| J.b8 rfl ((qBJ rfl rfl rfl).no (by omega)) rfl rfl <| J.f9 ?_
  refine J.G ?_
  refine J.b8 rfl (qAA rfl rfl qOl rfl z3_ rfl) rfl rfl <| J.b8 rfl (qAF 2 rfl rfl rfl b3_ rfl) rfl rfl <| J.b8 rfl ((qAS rfl rfl rfl).no (by omega)) rfl rfl <| J.f9 ?_
  refine J.G ?_
  refine J.b8 rfl (qAA rfl rfl qOl rfl z3_ rfl) rfl rfl <| J.b8 rfl (qAF 2 rfl rfl rfl b3_ rfl) rfl rfl <| J.b8 rfl (qAA rfl rfl qIn rfl z3_ rfl) rfl rfl <| J.b8 rfl (qAF 1 rfl rfl rfl b3_ rfl) rfl rfl <| J.b8 rfl ((qG5 rfl rfl rfl ⟨by omega, by have := Int.pow_pos (n := 2) (m := h) (by decide); omega, by rw [Int.one_mul]; exact Int.ofNat_le.2 (show 2 ^ h ≤ 9223372036854775807 by omega)⟩).as (v' := I ((2 ^ h : Nat) : Int)) (congrArg I (by simp))) rfl rfl <| J.b8 rfl ((qBG rfl rfl rfl).no (by omega)) rfl rfl <| J.f9 ?_
  refine J.G ?_
  refine J.b8 rfl (qAA rfl rfl qOl rfl qEZ rfl) rfl rfl <| J.b8 rfl (qAF 2 rfl rfl rfl qDq rfl) rfl rfl <| J.b8 rfl (qAZ qAn rfl rfl) rfl rfl <| J.b8 rfl (qAA rfl rfl qIn rfl z3_ rfl) rfl rfl <| J.b8 rfl (qAF 1 rfl rfl rfl b3_ rfl) rfl rfl <| J.b8 rfl ((qAx rfl rfl rfl).no (fun h => h rfl)) rfl rfl <| J.f9 ?_
  refine J.b4 <| J.q (J.H hK3 ?_)
  refine J.W 1 3 5 37 ?_
  refine J.b6 ?_
  refine J.a1 hK2 <| J.V 1 3 5 ?_
  refine J.k fun K4 hK4 => J.b5 [F, blk g3 [Str o, Str r, I h] 54, blk g5 [I i, .slice A1 35 c1, .slice A2 h c2] 50] [] (.y 0 (.y 1 (.y 2 (.y 3 (.y 4 (.y 5 (.y 6 (.y 7 (.y 8 (.y 10 (.y 11 (.e 9 (.e 12 (.y 13 (.y 14 (.y 15 (.y 16 (.y 17 .nil)))))))))))))))))) Tryz.wide (by decide +kernel) (by simp) ?_
  refine J.j rfl (qAA rfl rfl qIn rfl z9_ rfl) rfl rfl <| J.j rfl (qAF 1 rfl rfl rfl b9_ rfl) rfl rfl <| J.j rfl (qAA rfl rfl qOl rfl z3_ rfl) rfl rfl <| J.j rfl (qAF 2 rfl rfl rfl b3_ rfl) rfl rfl <| J.j rfl (qAA rfl rfl qIn rfl z9_ rfl) rfl rfl <| J.j rfl (qAF 1 rfl rfl rfl b9_ rfl) rfl rfl <| J.j rfl (qAA rfl rfl qOl rfl z3_ rfl) rfl rfl <| J.j rfl (qAF 2 rfl rfl rfl b3_ rfl) rfl rfl <| J.G ?_
  refine J.j rfl (qAA rfl rfl qOl rfl qEZ rfl) rfl rfl <| J.j rfl (qAF 2 rfl rfl rfl qDq rfl) rfl rfl <| J.a7 rfl (qAB rfl rfl ent91 (Ct.use0 (fun F' hF => qF6 F' (hK.mono (hF _ (by simp))) o i mg ho (by omega) hm))) rfl (by simp) fun g48 _ => J.a7 rfl (qAB rfl rfl ent123 (Ct.use0 (fun F' hF => qK4 F' (hK.mono (hF _ (by simp))) o i (Xm.digest o i mg) A1 c1 ch (hch.mono (hF F (by simp))) ho (by omega) hdl hsg))) rfl (by simp) fun g51 _ => J.G ?_
  refine J.d4 (Str (Wo.publicOf o i (Wo.ends o i (Wo.digs (Xm.digest o i mg)) ch 35))) ?_
  refine J.d4 (I 0) ?_
  refine J.c0 ?_
  refine J.c0 ?_
  refine J.b4 <| J.q (J.H hK4 ?_)
  refine J.W 3 5 7 8 ?_
  refine J.k fun K5 hK5 => J.b5 [F, blk g3 [Str o, Str r, I h] 54, blk g5 [I i, .slice A1 35 c1, .slice A2 h c2] 50] [] (.y 0 (.y 1 (.y 2 (.y 3 (.y 4 (.y 5 (.y 6 (.y 7 (.y 9 (.y 10 (.e 8 (.y 11 (.y 12 (.y 13 .nil)))))))))))))) Tryz.wide (by decide +kernel) (by simp) ?_
  refine J.G ?_
  refine J.j rfl ((qAd rfl rfl rfl).yes (by decide)) rfl rfl <| J.G ?_
  refine J.b8 rfl (qAj rfl rfl) rfl rfl <| J.b8 rfl (qAA rfl rfl qOl rfl z3_ rfl) rfl rfl <| J.b8 rfl (qAF 2 rfl rfl rfl b3_ rfl) rfl rfl <| J.b8 rfl (qAA rfl rfl qOl rfl qEZ rfl) rfl rfl <| J.b8 rfl (qAF 2 rfl rfl rfl qDq rfl) rfl rfl <| J.b8 rfl (qAA rfl rfl qIn rfl z9_ rfl) rfl rfl <| J.b8 rfl (qAF 1 rfl rfl rfl b9_ rfl) rfl rfl <| J.f0 rfl (qAB rfl rfl ent124 (Ct.use0 (fun F' hF => qQL F' (hK.mono (hF _ (by simp))) (Wo.publicOf o i (Wo.ends o i (Wo.digs (Xm.digest o i mg)) ch 35)) i A2 h c2 pt (hpt.mono (hF F (by simp))) (by rw [Wo.publicOf_length]; decide) hps (by omega) (by omega)))) (Wan.is rfl rfl rfl rfl rfl) rfl rfl (by simp) ?_
  intro g62 _
  refine J.b8 rfl (qBM rfl rfl rfl) rfl rfl <| J.f4 ?_
  refine J.c0 ?_
  refine J.b4 <| J.q (J.H hK5 ?_)
  refine J.A 6 ?_
  exact J.D <| J.L hw0 rfl () rfl trivial [0] rfl (by decide)
end Go.Proofs.YtfldiegfenndjaaGreatDoor
