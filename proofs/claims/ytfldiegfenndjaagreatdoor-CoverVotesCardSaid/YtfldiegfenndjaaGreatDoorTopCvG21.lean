/- A part of the proof. -/
import Derived.Test.YtfldiegfenndjaaGreatDoorTopCvG8
import Derived.Test.YtfldiegfenndjaaGreatDoorTopCvG20
set_option linter.unusedSimpArgs false
set_option linter.unusedVariables false
namespace Go.Proofs.YtfldiegfenndjaaGreatDoor
open Go Go.Fw Go.Proofs.Tryz
set_option maxRecDepth 100000
set_option maxHeartbeats 1000000
namespace Wo
def place (leaf chain step : Nat) : List UInt8 := [UInt8.ofNat (leaf / 2 ^ 24), UInt8.ofNat (leaf / 2 ^ 16), UInt8.ofNat (leaf / 2 ^ 8), UInt8.ofNat leaf, UInt8.ofNat chain, UInt8.ofNat step]
def step (opn : List UInt8) (leaf chain k : Nat) (x : List UInt8) : List UInt8 := Sha.tagged 2 [opn, place leaf chain k, x]
def walk (opn : List UInt8) (leaf chain a : Nat) (x : List UInt8) : Nat → List UInt8
 | 0 => x
 | n + 1 => step opn leaf chain (a + n) (walk opn leaf chain a x n)
def secret (seed : List UInt8) (leaf chain : Nat) : List UInt8 := Sha.tagged 1 [seed, place leaf chain 0]
def opn (seed : List UInt8) : List UInt8 := Sha.tagged 3 [seed]
def nibs (s : List UInt8) : List Nat := s.flatMap fun b => [b.toNat / 16, b.toNat % 16]
def left (s : List UInt8) : Nat := (s.map fun b => 30 - b.toNat / 16 - b.toNat % 16).sum
def digs (s : List UInt8) : List Nat := nibs s ++ [left s / 256, left s / 16 % 16, left s % 16]
def signs (seed : List UInt8) (leaf : Nat) (ds : List Nat) (k : Nat) : List (List UInt8) := (List.range k).map fun i => walk (opn seed) leaf i 0 (secret seed leaf i) (ds.getD i 0)
def ends (op : List UInt8) (leaf : Nat) (ds : List Nat) (sig : List (List UInt8)) (k : Nat) : List (List UInt8) := (List.range k).map fun i => walk op leaf i (ds.getD i 0) (sig.getD i []) (15 - ds.getD i 0)
def publicOf (op : List UInt8) (leaf : Nat) (e : List (List UInt8)) : List UInt8 := Sha.tagged 4 ([op, place leaf 0 0] ++ e)
def tops (seed : List UInt8) (leaf : Nat) (k : Nat) : List (List UInt8) := (List.range k).map fun i => walk (opn seed) leaf i 0 (secret seed leaf i) 15
def pub (seed : List UInt8) (leaf : Nat) : List UInt8 := publicOf (opn seed) leaf (tops seed leaf 35)
theorem step_length (a : List UInt8) (b c d : Nat) (x : List UInt8) : (step a b c d x).length = 16 := Sha.tagged_length _ _
theorem secret_length (a : List UInt8) (b c : Nat) : (secret a b c).length = 16 := Sha.tagged_length _ _
theorem opn_length (a : List UInt8) : (opn a).length = 16 := Sha.tagged_length _ _
theorem walk_small (o : List UInt8) (leaf chain a : Nat) (x : List UInt8) (h : x.length ≤ 1048576) : ∀ n, (walk o leaf chain a x n).length ≤ 1048576
 | 0 => h
 | n + 1 => by rw [walk, step_length]; decide
theorem walk_16 (o : List UInt8) (leaf chain a : Nat) (x : List UInt8) (h : x.length = 16) : ∀ n, (walk o leaf chain a x n).length = 16
 | 0 => h
 | n + 1 => step_length _ _ _ _ _
theorem walk_add (o : List UInt8) (leaf chain a : Nat) (x : List UInt8) (n : Nat) : ∀ m, walk o leaf chain (a + n) (walk o leaf chain a x n) m = walk o leaf chain a x (n + m)
 | 0 => rfl
 | m + 1 => by rw [walk, walk_add o leaf chain a x n m, ← Nat.add_assoc, walk, Nat.add_assoc]
theorem place_length (a b c : Nat) : (place a b c).length = 6 := rfl
theorem nibs_snoc (s : List UInt8) (k : Nat) (h : k < s.length) : nibs (s.take (k + 1)) = nibs (s.take k) ++ [(s.getD k 0).toNat / 16, (s.getD k 0).toNat % 16] := by
 unfold nibs
 rw [List.take_succ_eq_append_getElem h, List.flatMap_append, List.getD_eq_getElem?_getD, List.getElem?_eq_getElem h]; simp
theorem left_snoc (s : List UInt8) (k : Nat) (h : k < s.length) : left (s.take (k + 1)) = left (s.take k) + (30 - (s.getD k 0).toNat / 16 - (s.getD k 0).toNat % 16) := by
 unfold left
 rw [List.take_succ_eq_append_getElem h, List.map_append, List.sum_append, List.getD_eq_getElem?_getD, List.getElem?_eq_getElem h]; simp
theorem qI3 (s : List UInt8) : (nibs s).length = 2 * s.length := by
 unfold nibs
 induction s with
 | nil => rfl
 | cons a l ih => rw [List.flatMap_cons, List.length_append, ih]; simp; omega
theorem left_le (s : List UInt8) : left s ≤ 30 * s.length := by
 unfold left
 induction s with
 | nil => simp
 | cons a l ih => rw [List.map_cons, List.sum_cons, List.length_cons]; omega
theorem digs_length (s : List UInt8) : (digs s).length = 2 * s.length + 3 := by unfold digs; rw [List.length_append, qI3]; rfl
theorem digs_le (s : List UInt8) (h : s.length ≤ 16) (i : Nat) : (digs s).getD i 0 ≤ 15 := by
  have hl := left_le s
  have : ∀ x ∈ digs s, x ≤ 15 := fun x hx => by
    unfold digs nibs at hx
    rcases List.mem_append.1 hx with hx | hx
    · obtain ⟨b, _, hb⟩ := List.mem_flatMap.1 hx
      have := b.toNat_lt
      simp only [List.mem_cons, List.not_mem_nil, or_false] at hb
      omega
    · simp only [List.mem_cons, List.not_mem_nil, or_false] at hx
      omega
  by_cases hi : i < (digs s).length
  · rw [List.getD_eq_getElem?_getD, List.getElem?_eq_getElem hi]; exact this _ (List.getElem_mem _)
  · rw [List.getD_eq_getElem?_getD, List.getElem?_eq_none (by omega)]; decide
theorem signs_succ (seed : List UInt8) (leaf : Nat) (ds : List Nat) (k : Nat) : signs seed leaf ds (k + 1) = signs seed leaf ds k ++ [walk (opn seed) leaf k 0 (secret seed leaf k) (ds.getD k 0)] := by simp [signs, List.range_succ]
theorem ends_succ (op : List UInt8) (leaf : Nat) (ds : List Nat) (sig : List (List UInt8)) (k : Nat) : ends op leaf ds sig (k + 1) = ends op leaf ds sig k ++ [walk op leaf k (ds.getD k 0) (sig.getD k []) (15 - ds.getD k 0)] := by simp [ends, List.range_succ]
theorem tops_succ (seed : List UInt8) (leaf : Nat) (k : Nat) : tops seed leaf (k + 1) = tops seed leaf k ++ [walk (opn seed) leaf k 0 (secret seed leaf k) 15] := by simp [tops, List.range_succ]
theorem ends_length (op : List UInt8) (leaf : Nat) (ds : List Nat) (sig : List (List UInt8)) (k : Nat) : (ends op leaf ds sig k).length = k := by simp [ends]
theorem signs_get (seed : List UInt8) (leaf : Nat) (ds : List Nat) (k i : Nat) (h : i < k) : (signs seed leaf ds k).getD i [] = walk (opn seed) leaf i 0 (secret seed leaf i) (ds.getD i 0) := by
 unfold signs
 rw [List.getD_eq_getElem?_getD, List.getElem?_map, List.getElem?_range h]; rfl
theorem tops_small (seed : List UInt8) (leaf : Nat) (k : Nat) : ∀ s ∈ tops seed leaf k, s.length ≤ 16 := fun s hs => by
 simp only [tops, List.mem_map] at hs
 obtain ⟨i, _, rfl⟩ := hs
 rw [walk_16 _ _ _ _ _ (secret_length _ _ _)]; exact Nat.le_refl _
theorem signs_16 (seed : List UInt8) (leaf : Nat) (ds : List Nat) (k : Nat) : ∀ s ∈ signs seed leaf ds k, s.length = 16 := fun s hs => by
 simp only [signs, List.mem_map] at hs
 obtain ⟨i, _, rfl⟩ := hs
 rw [walk_16 _ _ _ _ _ (secret_length _ _ _)]
theorem ends_small (op : List UInt8) (leaf : Nat) (ds : List Nat) (sig : List (List UInt8)) (k : Nat) (hg : ∀ s ∈ sig, s.length ≤ 16) : ∀ s ∈ ends op leaf ds sig k, s.length ≤ 1048576 := fun s hs => by
 simp only [ends, List.mem_map] at hs
 obtain ⟨i, _, rfl⟩ := hs
 refine walk_small _ _ _ _ _ ?_ _
 by_cases h0 : i < sig.length
 · rw [List.getD_eq_getElem?_getD, List.getElem?_eq_getElem h0]; exact Nat.le_trans (hg _ (List.getElem_mem _)) (by decide)
 · rw [List.getD_eq_getElem?_getD, List.getElem?_eq_none (by omega)]; decide
theorem recovers (seed : List UInt8) (leaf : Nat) (ds : List Nat) (hd : ∀ i, ds.getD i 0 ≤ 15) (k : Nat) : ends (opn seed) leaf ds (signs seed leaf ds k) k = tops seed leaf k := by
 unfold ends tops
 apply List.map_congr_left
 intro i hi
 rw [List.mem_range] at hi
 rw [signs_get _ _ _ _ _ hi]
 have h := walk_add (opn seed) leaf i 0 (secret seed leaf i) (ds.getD i 0) (15 - ds.getD i 0)
 rw [Nat.zero_add] at h
 have := hd i
 rw [h, show ds.getD i 0 + (15 - ds.getD i 0) = 15 by omega]
theorem qTl : ∀ b : Fin 256, (UInt8.ofNat b.val &&& 15).toNat = b.val % 16 ∧ (UInt8.ofNat (b.val / 2 ^ min 4 8)).toNat = b.val / 16 := by decide +kernel
theorem lo_eq (b : UInt8) : (b &&& 15).toNat = b.toNat % 16 ∧ (UInt8.ofNat (b.toNat / 2 ^ min 4 8)).toNat = b.toNat / 16 := by
 have h := qTl ⟨b.toNat, b.toNat_lt⟩
 simp only [UInt8.ofNat_toNat] at h
 exact h
end Wo
attribute [local irreducible] Sha.tagB Sha.tagged Wo.walk Wo.signs Wo.tops Wo.ends Wo.digs Wo.nibs Wo.left
theorem Wo.walk0 (o : List UInt8) (leaf chain a : Nat) (x : List UInt8) : Wo.walk o leaf chain a x 0 = x := by unfold Wo.walk; rfl
theorem Wo.walkS (o : List UInt8) (leaf chain a : Nat) (x : List UInt8) (n : Nat) : Wo.step o leaf chain (a + n) (Wo.walk o leaf chain a x n) = Wo.walk o leaf chain a x (n + 1) := by rw [Wo.walk]
theorem Wo.tops0 (a : List UInt8) (b : Nat) : Wo.tops a b 0 = [] := by unfold Wo.tops; rfl
theorem Wo.signs0 (a : List UInt8) (b : Nat) (d : List Nat) : Wo.signs a b d 0 = [] := by unfold Wo.signs; rfl
theorem Wo.ends0 (a : List UInt8) (b : Nat) (d : List Nat) (s : List (List UInt8)) : Wo.ends a b d s 0 = [] := by unfold Wo.ends; rfl
theorem Wo.nibs0 : Wo.nibs [] = [] := by unfold Wo.nibs; rfl
theorem Wo.left0 : Wo.left [] = 0 := by unfold Wo.left; rfl
theorem qQX {a b c : List UInt8} (h1 : a.length ≤ 1048576) (h2 : b.length ≤ 1048576) (h3 : c.length ≤ 1048576) : [a, b, c].flatten.length ≤ 3145728 := by simp; omega
theorem qGz (F : Hp) (leaf chain stp : Nat) (h1 : leaf < 4611686018427387904) (h2 : chain < 4611686018427387904) (h3 : stp < 4611686018427387904) :
    Ct prog 171 [I leaf, I chain, I stp] [F] (fun _ : Unit => Str (Wo.place leaf chain stp)) (fun _ => True) (fun _ => [F]) := by
  refine Ct.walk func171 rfl ntmps171 rfl (fun w0 hw0 => ?_)
  change J _ [(0, _), (1, _), (2, _)] _ _ _
  refine J.g fun K1 hK1 => J.b rfl <| J.c hK1 <| J.O 0 1 2 ?_
  refine J.g fun K2 hK2 => J.b rfl <| J.f ((qCM (m := 24) rfl rfl rfl ⟨by decide, by omega⟩).as (v' := I ((leaf / 2 ^ 24 : Nat) : Int)) (congrArg I (by simp))) rfl <| J.f (qAk rfl rfl u3_ u5_) rfl <| J.b rfl <| J.f ((qCM (m := 16) rfl rfl rfl ⟨by decide, by omega⟩).as (v' := I ((leaf / 2 ^ 16 : Nat) : Int)) (congrArg I (by simp))) rfl <| J.f (qAk rfl rfl u3_ u5_) rfl <| J.b rfl <| J.f ((qCM (m := 8) rfl rfl rfl ⟨by decide, by omega⟩).as (v' := I ((leaf / 2 ^ 8 : Nat) : Int)) (congrArg I (by simp))) rfl <| J.f (qAk rfl rfl u3_ u5_) rfl <| J.b rfl <| J.f (qAk rfl rfl u3_ u5_) rfl <| J.b rfl <| J.f (qAk rfl rfl u3_ u5_) rfl <| J.b rfl <| J.f (qAk rfl rfl u3_ u5_) rfl <| J.q (qAH (l := [.tmp 9, .tmp 12, .tmp 15, .tmp 17, .tmp 19, .tmp 21]) (xs := [[B8 (UInt8.ofNat (leaf / 2 ^ 24))], [B8 (UInt8.ofNat (leaf / 2 ^ 16))], [B8 (UInt8.ofNat (leaf / 2 ^ 8))], [B8 (UInt8.ofNat leaf)], [B8 (UInt8.ofNat chain)], [B8 (UInt8.ofNat stp)]]) rfl rfl rfl rfl qBd el5 rfl (by decide) (by decide) (by simp)) rfl fun g22 _ => ?_
  change J _ _ _ [F, blk g22 [B8 (UInt8.ofNat (leaf / 2 ^ 24)), B8 (UInt8.ofNat (leaf / 2 ^ 16)), B8 (UInt8.ofNat (leaf / 2 ^ 8)), B8 (UInt8.ofNat leaf), B8 (UInt8.ofNat chain), B8 (UInt8.ofNat stp)] 5] _
  refine J.f (qBT (l := Wo.place leaf chain stp) rfl rfl qBd u5_ u9_ (m := blk g22 [B8 (UInt8.ofNat (leaf / 2 ^ 24)), B8 (UInt8.ofNat (leaf / 2 ^ 16)), B8 (UInt8.ofNat (leaf / 2 ^ 8)), B8 (UInt8.ofNat leaf), B8 (UInt8.ofNat chain), B8 (UInt8.ofNat stp)] 5) (by simp) (slB (Wo.place leaf chain stp) rfl)) rfl <| J.b rfl <| J.c hK2 <| J.u 6 ?_
  exact J.D <| J.H hw0 rfl () rfl trivial [0] rfl (by decide)
theorem qGe (F : Hp) (hK : KF F) (seed : List UInt8) (hs : seed.length ≤ 1048576) : Ct prog 70 [Str seed] [F] (fun _ : Unit => Str (Wo.opn seed)) (fun _ => True) (fun _ => [F]) := by
 refine Ct.walk func70 rfl ntmps70 rfl (fun w0 hw0 => ?_)
 change J _ [(0, _)] _ _ _
 refine J.g fun K1 hK1 => J.b rfl <| J.c hK1 <| J.u 0 ?_
 refine J.g fun K2 hK2 => J.b rfl <| J.q (qAH (l := [.tmp 3]) (xs := [[Str (seed)]]) rfl rfl rfl rfl qAo el9 rfl (by decide) (by decide) (by simp)) rfl fun g4 _ => ?_
 change J _ _ _ [F, blk g4 [Str (seed)] 9] _
 refine J.q (qAC rfl rfl ent44 (Ct.use0 (fun F' hF => qA4 F' (hK.mono (hF _ (by simp))) 3 (some ⟨g4, 0, none⟩) 1 1 [seed] ((slS [seed] rfl).mono (hF (blk g4 (([seed] : List (List UInt8)).map fun s => Str s) 9) (by simp))) (by simp [Wo.place_length]; omega) (by decide)))) rfl fun g5 _ => J.b rfl <| J.c hK2 <| J.u 2 ?_
 exact J.D <| J.H hw0 rfl () rfl trivial [0] rfl (by decide)
theorem qIm (F : Hp) (hK : KF F) (o : List UInt8) (leaf chain : Nat) (ho : o.length ≤ 1048576) (h1 : leaf < 4611686018427387904) (h2 : chain < 4611686018427387904) (x : List UInt8) (hx : x.length ≤ 1048576) (from' to' : Int) (a n : Nat) (ha : (a : Int) = max from' 0) (ha2 : a < 4611686018427387904) (hn : (n : Int) = max (min to' 15 - a) 0) :
    Ct prog 125 [Str o, I leaf, I chain, I from', I to', Str x] [F] (fun _ : Unit => Str (Wo.walk o leaf chain a x n)) (fun _ => True) (fun _ => [F]) := by
  refine Ct.walk func125 rfl ntmps125 rfl (fun w0 hw0 => ?_)
  change J _ [(0, _), (1, _), (2, _), (3, _), (4, _), (5, _)] _ _ _
  refine J.g fun K1 hK1 => J.b rfl <| J.c hK1 <| J.b1 0 1 2 3 4 5 ?_
  refine J.p fun K2 hK2 => J.g fun K3 hK3 => J.b rfl <| J.f ((qJv rfl rfl rfl).nat (a + 0) (by omega)) rfl <| J.b rfl <| J.c hK3 <| J.b1 0 1 2 4 5 13 ?_
  refine J.W <| J.b6 (fun k : Nat => [(0, Str o), (1, I leaf), (2, I chain), (4, I to'), (5, Str (Wo.walk o leaf chain a x k)), (13, I ((a + k : Nat) : Int))]) (fun _ => [F]) (fun k => k ≤ n) (fun k => n - k) 0 (Nat.zero_le _) ⟨rfl, rfl, rfl, rfl, by rw [Wo.walk0]; rfl, rfl, trivial⟩ (fun _ h => h) ?_
  intro k hk I0 hI0
  have hw := Wo.walk_small o leaf chain a x hx k
  refine J.p fun K4 hK4 => J.g fun K5 hK5 => J.j 2 rfl <| J.f (qJu rfl rfl rfl) rfl <| J.f (qAX rfl rfl rfl) rfl <| J.c hK5 <| J.c3 0 1 2 4 5 13 19 ?_
  refine J.a0 rfl (fun h19 => ?_) (fun h19 => ?_)
  ·
    refine J.a1 hK4 <| J.b1 0 1 2 4 5 13 ?_
    refine J.p fun K6 hK6 => J.W <| J.M <| J.j 4 rfl <| J.q (qAC rfl rfl ent171 (qGz F leaf chain (a + k) h1 h2 (by omega))) rfl fun g26 _ => J.b rfl <| J.q (qAH (l := [.tmp 22, .tmp 26, .tmp 27]) (xs := [[Str (o)], [Str (Wo.place leaf chain (a + k))], [Str ((Wo.walk o leaf chain a x k))]]) rfl rfl rfl rfl qAo el9 rfl (by decide) (by decide) (by simp)) rfl fun g28 _ => ?_
    change J _ _ _ [F, blk g28 [Str (o), Str (Wo.place leaf chain (a + k)), Str ((Wo.walk o leaf chain a x k))] 9] _
    refine J.q (qAC rfl rfl ent44 (Ct.use0 (fun F' hF => qA4 F' (hK.mono (hF _ (by simp))) 2 (some ⟨g28, 0, none⟩) 3 3 [o, Wo.place leaf chain (a + k), (Wo.walk o leaf chain a x k)] ((slS [o, Wo.place leaf chain (a + k), (Wo.walk o leaf chain a x k)] rfl).mono (hF (blk g28 (([o, Wo.place leaf chain (a + k), (Wo.walk o leaf chain a x k)] : List (List UInt8)).map fun s => Str s) 9) (by simp))) (by have := qQX ho (show (Wo.place leaf chain (a + k)).length ≤ 1048576 by rw [Wo.place_length]; decide) hw; omega) (by decide)))) rfl fun g29 _ => J.b rfl <| J.a6 <| J.a5 <| J.A (J.L hK6 ?_)
    refine J.b1 0 1 2 4 5 13 ?_
    exact J.c4 [0] [F] rfl (by decide) <| J.M <| J.b rfl <| J.f ((qAU rfl rfl rfl (by omega)).nat (a + (k + 1)) (by omega)) rfl <| J.b rfl <| J.a6 <| J.A <| J.a8 (k + 1) (fun x (hx : x ≤ n ∧ n - x < n - k) => hI0 x hx.1 hx.2) ⟨by omega, by omega⟩ ⟨rfl, rfl, rfl, rfl, by rw [← Wo.walkS]; rfl, rfl, trivial⟩ (fun _ h => h)
  refine J.b5 <| J.a4 <| J.a4 <| J.b7 ?_
  refine J.A (J.L hK2 ?_)
  refine J.u 5 ?_
  refine J.p fun K7 hK7 => ?_
  have hkn : n = k := by omega
  subst hkn
  refine J.M <| J.j 2 rfl <| J.c hK7 <| J.u 12 ?_
  exact J.D <| J.H hw0 rfl () rfl trivial [0] rfl (by decide)
theorem qF3 (F : Hp) (hK : KF F) (seed : List UInt8) (leaf chain : Nat) (hs : seed.length ≤ 1048576) (h1 : leaf < 4611686018427387904) (h2 : chain < 4611686018427387904) :
    Ct prog 126 [Str seed, I leaf, I chain] [F] (fun _ : Unit => Str (Wo.secret seed leaf chain)) (fun _ => True) (fun _ => [F]) := by
  refine Ct.walk func126 rfl ntmps126 rfl (fun w0 hw0 => ?_)
  change J _ [(0, _), (1, _), (2, _)] _ _ _
  refine J.g fun K1 hK1 => J.b rfl <| J.c hK1 <| J.O 0 1 2 ?_
  refine J.g fun K2 hK2 => J.j 3 rfl <| J.q (qAC rfl rfl ent171 (qGz F leaf chain 0 h1 h2 (by decide))) rfl fun g10 _ => J.q (qAH (l := [.tmp 7, .tmp 10]) (xs := [[Str (seed)], [Str (Wo.place leaf chain 0)]]) rfl rfl rfl rfl qAo el9 rfl (by decide) (by decide) (by simp)) rfl fun g11 _ => ?_
  change J _ _ _ [F, blk g11 [Str (seed), Str (Wo.place leaf chain 0)] 9] _
  refine J.q (qAC rfl rfl ent44 (Ct.use0 (fun F' hF => qA4 F' (hK.mono (hF _ (by simp))) 1 (some ⟨g11, 0, none⟩) 2 2 [seed, Wo.place leaf chain 0] ((slS [seed, Wo.place leaf chain 0] rfl).mono (hF (blk g11 (([seed, Wo.place leaf chain 0] : List (List UInt8)).map fun s => Str s) 9) (by simp))) (by simp [Wo.place_length]; omega) (by decide)))) rfl fun g12 _ => J.b rfl <| J.c hK2 <| J.u 6 ?_
  exact J.D <| J.H hw0 rfl () rfl trivial [0] rfl (by decide)
theorem qF4 (F : Hp) (hK : KF F) (o : List UInt8) (leaf : Nat) (ho : o.length ≤ 1048576) (h1 : leaf < 4611686018427387904) (A : Option Addr) (n c : Nat) (e : List (List UInt8)) (he : Sl F 1 A n c (qAJ e)) (hsm : ∀ s ∈ e, s.length ≤ 1048576) (hn : n ≤ 1024) :
    Ct prog 127 [Str o, I leaf, .slice A n c] [F] (fun _ : Unit => Str (Wo.publicOf o leaf e)) (fun _ => True) (fun _ => [F]) := by
  have hlen : e.length = n := by have := he.1; simpa [qAJ] using this
  have hfl := Mk.flat_small hsm
  rw [hlen] at hfl
  refine Ct.walk func127 rfl ntmps127 rfl (fun w0 hw0 => ?_)
  change J _ [(0, _), (1, _), (2, _)] _ _ _
  refine J.g fun K1 hK1 => J.b rfl <| J.c hK1 <| J.O 0 1 2 ?_
  refine J.g fun K2 hK2 => J.j 2 rfl <| J.q (qAC rfl rfl ent171 (qGz F leaf 0 0 h1 (by decide) (by decide))) rfl fun g9 _ => J.q (qAH (l := [.tmp 7, .tmp 9]) (xs := [[Str (o)], [Str (Wo.place leaf 0 0)]]) rfl rfl rfl rfl qAo el9 rfl (by decide) (by decide) (by simp)) rfl fun g10 _ => ?_
  change J _ _ _ [F, blk g10 [Str (o), Str (Wo.place leaf 0 0)] 9] _
  refine J.b rfl <| J.q (qAY (i := 1) (m2 := F) (ys := qAJ e) rfl rfl rfl qAo qAo el9 rfl (qBG (q := True) (qAJ [o, Wo.place leaf 0 0]) (n := 2) rfl (by simp [qAJ]) rfl) (by simp) he (qCH _) (by omega) (by omega)) rfl ?_
  rintro ⟨A12, c12, m12⟩ h12
  try dsimp only at h12
  change J _ ((12, .slice A12 (2 + n) c12) :: _) _ [_, m12] _
  rw [← qBw] at h12
  refine J.q (qAC rfl rfl ent44 (Ct.use0 (fun F' hF => qA4 F' (hK.mono (hF _ (by simp))) 4 A12 (2 + n) c12 ([o, Wo.place leaf 0 0] ++ e) (h12.sl.mono (hF _ (by simp))) (by simp only [List.flatten_append, List.length_append, List.flatten_cons, List.flatten_nil, Wo.place_length, List.length_nil]; omega) (by omega)))) rfl fun g13 _ => J.b rfl <| J.c hK2 <| J.u 6 ?_
  exact J.D <| J.H hw0 rfl () rfl trivial [0] rfl (by decide)
theorem qQ6 (F : Hp) (hK : KF F) (seed : List UInt8) (leaf : Nat) (hs : seed.length ≤ 1048576) (h1 : leaf < 4611686018427387904) :
    Ct prog 68 [Str seed, I leaf] [F] (fun _ : Unit => Str (Wo.pub seed leaf)) (fun _ => True) (fun _ => [F]) := by
  refine Ct.walk func68 rfl ntmps68 rfl (fun w0 hw0 => ?_)
  change J _ [(0, _), (1, _)] _ _ _
  refine J.g fun K1 hK1 => J.b rfl <| J.c hK1 <| J.G 0 1 ?_
  refine J.g fun K2 hK2 => J.b rfl <| J.q (qAC rfl rfl ent70 (qGe F hK seed hs)) rfl fun g9 _ => J.b rfl <| J.c hK2 <| J.O 0 1 5 ?_
  refine J.g fun K3 hK3 => J.b rfl <| J.c hK3 <| J.T 0 1 5 6 ?_
  refine J.p fun K4 hK4 => J.p fun K5 hK5 => J.d6 [0, 1] [F, (fun _ => none)] rfl (by decide) <| J.M <| J.b rfl <| J.c hK5 <| J.a3 0 1 5 6 10 ?_
  refine J.W <| J.b6 (X := Nat × Option Addr × Nat × Hp) (fun x => [(0, Str seed), (1, I leaf), (5, Str (Wo.opn seed)), (6, .slice x.2.1 x.1 x.2.2.1), (10, I x.1)]) (fun x => [F, x.2.2.2]) (fun x => x.1 ≤ 35 ∧ Row x.2.2.2 9 1 x.2.1 x.1 x.2.2.1 (qAJ (Wo.tops seed leaf x.1))) (fun x => 35 - x.1) (0, none, 0, fun _ => none) (⟨Nat.zero_le _, by rw [Wo.tops0]; exact qCA.nil⟩) ⟨rfl, rfl, rfl, rfl, rfl, trivial⟩ (fun _ h => h) ?_
  rintro ⟨k, A6, c6, m⟩ ⟨hk, hrow⟩ I0 hI0
  dsimp only at hk hrow ⊢
  refine J.g fun K6 hK6 => J.f (qAX rfl rfl rfl) rfl <| J.c hK6 <| J.b1 0 1 5 6 10 11 ?_
  refine J.p fun K7 hK7 => J.a0 rfl (fun h11 => ?_) (fun h11 => ?_)
  ·
    refine J.a1 hK7 <| J.a3 0 1 5 6 10 ?_
    refine J.p fun K8 hK8 => J.W <| J.g fun K9 hK9 => J.j 2 rfl <| J.c hK9 <| J.b1 0 1 5 6 7 10 ?_
    refine J.M <| J.j 7 rfl <| J.q (qAC rfl rfl ent126 (Ct.use0 (fun F' hF => qF3 F' (hK.mono (hF _ (by simp))) seed leaf k hs h1 (by omega)))) rfl fun g20 _ => J.q (qAC rfl rfl ent125 (Ct.use0 (fun F' hF => qIm F' (hK.mono (hF _ (by simp))) (Wo.opn seed) leaf k (by rw [Wo.opn_length]; decide) h1 (by omega) (Wo.secret seed leaf k) (by rw [Wo.secret_length]; decide) 0 15 0 15 (by omega) (by omega) (by omega)))) rfl fun g21 _ => J.q (qAH (l := [.tmp 21]) (xs := [[Str ((Wo.walk (Wo.opn seed) leaf k 0 (Wo.secret seed leaf k) 15))]]) rfl rfl rfl rfl qAo el9 rfl (by decide) (by decide) (by simp)) rfl fun g22 _ => ?_
    change J _ _ _ [F, m, blk g22 [Str ((Wo.walk (Wo.opn seed) leaf k 0 (Wo.secret seed leaf k) 15))] 9] _
    refine J.q (qAY (i := 1) (m2 := blk g22 [Str (Wo.walk (Wo.opn seed) leaf k 0 (Wo.secret seed leaf k) 15)] 9) (ys := qAJ [(Wo.walk (Wo.opn seed) leaf k 0 (Wo.secret seed leaf k) 15)]) rfl rfl rfl qAo qAo el9 rfl hrow (by simp) (qAn (q := True) (xs := qAJ [(Wo.walk (Wo.opn seed) leaf k 0 (Wo.secret seed leaf k) 15)]) rfl (by simp [qAJ])).sl (qCH _) (by omega) (by omega)) rfl ?_
    rintro ⟨A23, c23, m23⟩ h23
    try dsimp only at h23
    change J _ ((23, .slice A23 (k + 1) c23) :: _) _ [_, m23, blk g22 [Str (Wo.walk (Wo.opn seed) leaf k 0 (Wo.secret seed leaf k) 15)] 9] _
    rw [← qBw, ← Wo.tops_succ] at h23
    refine J.c4 [0, 1] [F, m23] rfl (by decide) <| J.b rfl <| J.a6 <| J.a5 <| J.A (J.L hK8 ?_)
    refine J.a3 0 1 5 6 10 ?_
    exact J.M <| J.f ((qAU rfl rfl rfl (by omega)).nat (k + 1) (by omega)) rfl <| J.b rfl <| J.a6 <| J.A <| J.a8 (k + 1, A23, c23, m23) (fun x (hx : _ ∧ 35 - x.1 < 35 - k) => hI0 x hx.1 hx.2) ⟨⟨by dsimp only; omega, h23⟩, by dsimp only; omega⟩ ⟨rfl, rfl, rfl, rfl, rfl, trivial⟩ (fun _ h => h)
  refine J.b5 <| J.a4 <| J.a4 <| J.b7 ?_
  refine J.A (J.L hK4 ?_)
  refine J.O 1 5 6 ?_
  refine J.p fun K10 hK10 => ?_
  have hk35 : k = 35 := by omega
  subst hk35
  refine J.M <| J.j 3 rfl <| J.q (qAC rfl rfl ent127 (Ct.use0 (fun F' hF => qF4 F' (hK.mono (hF _ (by simp))) (Wo.opn seed) leaf (by rw [Wo.opn_length]; decide) h1 A6 35 c6 (Wo.tops seed leaf 35) (hrow.sl.mono (hF _ (by simp))) (fun s hs => Nat.le_trans (Wo.tops_small seed leaf 35 s hs) (by decide)) (by decide)))) rfl fun g28 _ => J.b rfl <| J.c hK10 <| J.u 4 ?_
  exact J.D <| J.H hw0 rfl () rfl trivial [0] rfl (by decide)
theorem qFf (F : Hp) (s : List UInt8) (hs : s.length = 16) :
    Ct prog 143 [Str s] [F] (fun x : Option Addr × Nat × Hp => .tuple #[.slice x.1 35 x.2.1, I 0]) (fun x => Row x.2.2 3 1 x.1 35 x.2.1 (qA9 (Wo.digs s))) (fun x => [F, x.2.2]) := by
  have hll := Wo.left_le s
  refine Ct.walk func143 rfl ntmps143 rfl (fun w0 hw0 => ?_)
  change J _ [(0, _)] _ _ _
  refine J.g fun K1 hK1 => J.j 2 rfl <| J.c hK1 <| J.u 0 ?_
  refine J.p fun K2 hK2 => J.g fun K3 hK3 => J.b rfl <| J.f (qA7 u9_ rfl rfl) rfl <| J.f ((qAz rfl rfl rfl).no (by omega)) rfl <| J.c hK3 <| J.G 0 12 ?_
  refine J.b2 ?_
  refine J.a1 hK2 <| J.u 0 ?_
  refine J.g fun K4 hK4 => J.b rfl <| J.c hK4 <| J.G 0 4 ?_
  refine J.p fun K5 hK5 => J.d6 [0, 1] [F, (fun _ => none)] rfl (by decide) <| J.M <| J.b rfl <| J.c hK5 <| J.O 0 4 5 ?_
  refine J.p fun K6 hK6 => J.g fun K7 hK7 => J.b rfl <| J.f (qA7 u9_ rfl rfl) rfl <| J.b rfl <| J.c hK7 <| J.a3 0 4 5 14 15 ?_
  refine J.W <| J.b6 (X := Nat × Option Addr × Nat × Hp) (fun x => [(0, Str s), (4, .slice x.2.1 (2 * x.1) x.2.2.1), (5, I ((Wo.left (s.take x.1) : Nat) : Int)), (14, I s.length), (15, I x.1)]) (fun x => [F, x.2.2.2]) (fun x => x.1 ≤ 16 ∧ Row x.2.2.2 3 1 x.2.1 (2 * x.1) x.2.2.1 (qA9 (Wo.nibs (s.take x.1)))) (fun x => 16 - x.1) (0, none, 0, fun _ => none) (⟨Nat.zero_le _, by rw [List.take_zero, Wo.nibs0]; exact qCA.nil⟩) ⟨rfl, rfl, by rw [List.take_zero, Wo.left0]; rfl, rfl, rfl, trivial⟩ (fun _ h => h) ?_
  rintro ⟨k, A4, c4, m⟩ ⟨hk, hrow⟩ I0 hI0
  dsimp only at hk hrow ⊢
  have hlk := Wo.left_le (s.take k)
  rw [List.length_take] at hlk
  refine J.g fun K8 hK8 => J.f (qAX rfl rfl rfl) rfl <| J.c hK8 <| J.b1 0 4 5 14 15 16 ?_
  refine J.p fun K9 hK9 => J.a0 rfl (fun h16 => ?_) (fun h16 => ?_)
  ·
    refine J.a1 hK9 <| J.a3 0 4 5 14 15 ?_
    refine J.p fun K10 hK10 => J.W <| J.g fun K11 hK11 => J.j 2 rfl <| J.c hK11 <| J.b1 0 4 5 6 14 15 ?_
    refine J.p fun K12 hK12 => ?_
    have hk16 : k < 16 := by omega
    have hb8 := (s.getD k 0).toNat_lt
    refine J.c0 [F, m] [] (.y 0 (.y 1 (.y 2 (.y 3 (.y 4 (.y 5 (.y 6 (.y 7 (.y 8 (.y 9 (.y 10 (.y 11 .nil)))))))))))) Tryz.wide (by decide +kernel) (by simp) ?_
    refine J.V ?_
    refine J.V ?_
    refine J.k rfl (qBj (i := k) u9_ rfl rfl rfl (qAl 0 (by omega))) rfl rfl <| J.k rfl (qMu (m := 4) rfl rfl rfl) rfl rfl <| J.k rfl ((qCG rfl rfl u5_ u3_).as (v' := I (((s.getD k 0).toNat / 16 : Nat) : Int)) (congrArg (fun n : Nat => I (n : Int)) (Wo.lo_eq (s.getD k 0)).2)) rfl rfl <| J.V ?_
    refine J.V ?_
    refine J.k rfl (qBj (i := k) u9_ rfl rfl rfl (qAl 0 (by omega))) rfl rfl <| J.k rfl (qR1 (b := 15) rfl rfl rfl) rfl rfl <| J.k rfl ((qCG rfl rfl u5_ u3_).as (v' := I (((s.getD k 0).toNat % 16 : Nat) : Int)) (congrArg (fun n : Nat => I (n : Int)) (Wo.lo_eq (s.getD k 0)).1)) rfl rfl <| J.k rfl (qDj (l := [.tmp 22, .tmp 27]) rfl rfl rfl underlying287 el3 zeroValue287 rfl rfl (by simp [Value.cells]) (r := [(s.getD k 0).toNat / 16, (s.getD k 0).toNat % 16].map fun x : Nat => I (x : Int)) rfl) rfl rfl <| J.V ?_
    refine J.b3 <| J.A (J.L hK12 ?_)
    refine J.c3 0 4 5 14 15 28 29 ?_
    refine J.W <| J.b6 (X := Nat × Option Addr × Nat × Hp) (fun x => [(0, Str s), (4, .slice x.2.1 (2 * k + x.1) x.2.2.1), (5, I ((Wo.left (s.take k) + (([(s.getD k 0).toNat / 16, (s.getD k 0).toNat % 16].take x.1).map (15 - ·)).sum : Nat) : Int)), (14, I s.length), (15, I k), (28, .agg ([(s.getD k 0).toNat / 16, (s.getD k 0).toNat % 16].map fun x : Nat => I (x : Int)).toArray), (29, I x.1)]) (fun x => [F, x.2.2.2]) (fun x => x.1 ≤ 2 ∧ Row x.2.2.2 3 1 x.2.1 (2 * k + x.1) x.2.2.1 (qA9 ((Wo.nibs (s.take k)) ++ [(s.getD k 0).toNat / 16, (s.getD k 0).toNat % 16].take x.1))) (fun x => 2 - x.1) (0, A4, c4, m) (⟨Nat.zero_le _, by rw [List.take_zero, List.append_nil]; exact hrow⟩) ⟨rfl, rfl, rfl, rfl, rfl, rfl, rfl, trivial⟩ (fun _ h => h) ?_
    clear hrow
    rintro ⟨j, A4, c4, m⟩ ⟨hj, hrow⟩ I2 hI2
    dsimp only at hj hrow ⊢
    refine J.g fun K13 hK13 => J.f (qAX rfl rfl rfl) rfl <| J.c hK13 <| J.d8 0 4 5 14 15 28 29 30 ?_
    refine J.p fun K14 hK14 => J.a0 rfl (fun h30 => ?_) (fun h30 => ?_)
    ·
      refine J.a1 hK14 <| J.c3 0 4 5 14 15 28 29 ?_
      refine J.p fun K15 hK15 => J.W <| J.p fun K16 hK16 => ?_
      have hj2 : j < 2 := by omega
      have hsj : (([(s.getD k 0).toNat / 16, (s.getD k 0).toNat % 16].take (j + 1)).map (15 - ·)).sum = (([(s.getD k 0).toNat / 16, (s.getD k 0).toNat % 16].take j).map (15 - ·)).sum + (15 - ([(s.getD k 0).toNat / 16, (s.getD k 0).toNat % 16].getD j 0)) := by match j, hj2 with | 0, _ => simp | 1, _ => simp
      have hdl : ([(s.getD k 0).toNat / 16, (s.getD k 0).toNat % 16].getD j 0) ≤ 15 := by match j, hj2 with | 0, _ => (show (s.getD k 0).toNat / 16 ≤ 15; omega) | 1, _ => (show (s.getD k 0).toNat % 16 ≤ 15; omega)
      have hsl : (([(s.getD k 0).toNat / 16, (s.getD k 0).toNat % 16].take j).map (15 - ·)).sum ≤ 15 * j := by match j, hj2 with | 0, _ => simp | 1, _ => simp
      refine J.M <| J.f (qG8 (i := j) (v := I ((([(s.getD k 0).toNat / 16, (s.getD k 0).toNat % 16].getD j 0) : Nat) : Int)) rfl rfl rfl underlying287 z3_ b3_ (by omega) (by rw [Nat.mul_one]; match j, hj2 with | 0, _ => rfl | 1, _ => rfl)) rfl <| J.b rfl <| J.c hK16 <| J.d8 0 4 5 8 14 15 28 29 ?_
      refine J.g fun K17 hK17 => J.j 2 rfl <| J.q (qAH (l := [.tmp 33]) (xs := [[I ((([(s.getD k 0).toNat / 16, (s.getD k 0).toNat % 16].getD j 0) : Nat) : Int)]]) rfl rfl rfl rfl qCQ el3 rfl (by decide) (by decide) (by simp)) rfl fun g34 _ => ?_
      change J _ _ _ [F, m, blk g34 [I ((([(s.getD k 0).toNat / 16, (s.getD k 0).toNat % 16].getD j 0) : Nat) : Int)] 3] _
      refine J.q (qAY (i := 1) (m2 := blk g34 (([([(s.getD k 0).toNat / 16, (s.getD k 0).toNat % 16].getD j 0)] : List Nat).map fun x : Nat => I (x : Int)) 3) (ys := qA9 [([(s.getD k 0).toNat / 16, (s.getD k 0).toNat % 16].getD j 0)]) rfl rfl rfl qCQ qCQ el3 rfl hrow (by simp) (slN [([(s.getD k 0).toNat / 16, (s.getD k 0).toNat % 16].getD j 0)] rfl) (qJy _) (by omega) (by omega)) rfl ?_
      rintro ⟨A35, c35, m35⟩ h35
      try dsimp only at h35
      change J _ ((35, .slice A35 (2 * k + j + 1) c35) :: _) _ [_, m35, _] _
      rw [← qH9] at h35
      refine J.b rfl <| J.c hK17 <| J.d8 0 4 5 8 14 15 28 29 ?_
      refine J.c4 [0, 1] [F, m35] rfl (by decide) <| J.M <| J.j 2 rfl <| J.f ((qBI (a := 15) rfl rfl rfl (by omega)).as (v' := I ((15 - ([(s.getD k 0).toNat / 16, (s.getD k 0).toNat % 16].getD j 0) : Nat) : Int)) (congrArg I (by omega))) rfl <| J.f ((qAU rfl rfl rfl (by omega)).as (v' := I ((Wo.left (s.take k) + (([(s.getD k 0).toNat / 16, (s.getD k 0).toNat % 16].take (j + 1)).map (15 - ·)).sum : Nat) : Int)) (congrArg I (by rw [hsj]; omega))) rfl <| J.b rfl <| J.a6 <| J.a5 <| J.A (J.L hK15 ?_)
      refine J.c3 0 4 5 14 15 28 29 ?_
      exact J.M <| J.f ((qAU rfl rfl rfl (by omega)).nat (j + 1) (by omega)) rfl <| J.b rfl <| J.a6 <| J.A <| J.a8 (j + 1, A35, c35, m35) (fun x (hx : _ ∧ 2 - x.1 < 2 - j) => hI2 x hx.1 hx.2) ⟨⟨by dsimp only; omega, by dsimp only; rw [show [(s.getD k 0).toNat / 16, (s.getD k 0).toNat % 16].take (j + 1) = [(s.getD k 0).toNat / 16, (s.getD k 0).toNat % 16].take j ++ [([(s.getD k 0).toNat / 16, (s.getD k 0).toNat % 16].getD j 0)] by match j, hj2 with | 0, _ => rfl | 1, _ => rfl, ← List.append_assoc]; exact h35⟩, by dsimp only; omega⟩ ⟨rfl, rfl, rfl, rfl, rfl, rfl, rfl, trivial⟩ (fun _ h => h)
    refine J.b5 <| J.a4 <| J.a4 <| J.b7 ?_
    refine J.a5 <| J.A (J.L hK10 ?_)
    refine J.a3 0 4 5 14 15 ?_
    refine J.M <| J.f ((qAU rfl rfl rfl (by omega)).nat (k + 1) (by omega)) rfl <| J.b rfl <| J.a6 <| J.A ?_
    have hj2 : j = 2 := by omega
    subst hj2
    have e1 := Wo.nibs_snoc s k (by omega)
    have e2 := Wo.left_snoc s k (by omega)
    have hb8 := (s.getD k 0).toNat_lt
    have e3 : (([(s.getD k 0).toNat / 16, (s.getD k 0).toNat % 16].take 2).map (15 - ·)).sum = (15 - (s.getD k 0).toNat / 16) + ((15 - (s.getD k 0).toNat % 16) + 0) := rfl
    exact J.a8 (k + 1, A4, c4, m) (fun x (hx : _ ∧ 16 - x.1 < 16 - k) => hI0 x hx.1 hx.2) ⟨⟨by dsimp only; omega, by dsimp only; rw [e1]; exact hrow⟩, by dsimp only; omega⟩ ⟨rfl, by rw [show 2 * (k + 1) = 2 * k + 2 by omega]; rfl, by rw [e2]; exact congrArg (fun n : Nat => some (I (n : Int))) (by rw [e3]; omega), rfl, rfl, trivial⟩ (fun _ h => h)
  refine J.b5 <| J.a4 <| J.a4 <| J.b7 ?_
  refine J.A (J.L hK6 ?_)
  refine J.G 4 5 ?_
  refine J.p fun K18 hK18 => J.p fun K19 hK19 => ?_
  have hk16 : k = 16 := by omega
  subst hk16
  rw [List.take_of_length_le (by omega)] at hrow
  refine J.M <| J.b rfl <| J.c hK19 <| J.O 4 5 9 ?_
  refine J.W <| J.b6 (X := Nat × Option Addr × Nat × Hp) (fun x => [(4, .slice x.2.1 (32 + x.1) x.2.2.1), (5, I ((Wo.left s : Nat) : Int)), (9, I (2 - (x.1 : Int)))]) (fun x => [F, x.2.2.2]) (fun x => x.1 ≤ 3 ∧ Row x.2.2.2 3 1 x.2.1 (32 + x.1) x.2.2.1 (qA9 (Wo.nibs s ++ [Wo.left s / 256, Wo.left s / 16 % 16, Wo.left s % 16].take x.1))) (fun x => 3 - x.1) (0, A4, c4, m) (⟨Nat.zero_le _, by rw [List.take_zero, List.append_nil]; exact hrow⟩) ⟨rfl, by rw [List.take_of_length_le (by omega)]; rfl, rfl, trivial⟩ (fun _ h => h) ?_
  clear hrow hlk
  rintro ⟨t, A4, c4, m⟩ ⟨ht, hrow⟩ I4 hI4
  dsimp only at ht hrow ⊢
  refine J.p fun K20 hK20 => J.g fun K21 hK21 => J.b rfl <| J.f (qBR rfl rfl rfl) rfl <| J.c hK21 <| J.T 4 5 9 43 ?_
  refine J.a0 rfl (fun h43 => ?_) (fun h43 => ?_)
  ·
    refine J.a1 hK20 <| J.O 4 5 9 ?_
    refine J.p fun K22 hK22 => J.W ?_
    have ht2 : t < 3 := by omega
    refine J.M <| J.j 2 rfl <| J.f ((qAv rfl rfl).nat (2 - t) (by omega)) rfl <| J.f ((qC7 (a := 4) rfl rfl rfl (by omega)).nat (4 * (2 - t)) (by omega)) rfl <| J.f ((qCM (m := 4 * (2 - t)) rfl rfl rfl (by omega)).as (v' := I ((Wo.left s / 2 ^ (4 * (2 - t)) : Nat) : Int)) (congrArg I (by simp))) rfl <| J.f ((qG6 4 rfl rfl rfl (by decide) (by decide)).as (v' := I (([Wo.left s / 256, Wo.left s / 16 % 16, Wo.left s % 16].getD t 0 : Nat) : Int)) (congrArg I (by match t, ht2 with | 0, _ => (show ((Wo.left s / 2 ^ (4 * (2 - 0)) : Nat) : Int) % 2 ^ 4 = ((Wo.left s / 256 : Nat) : Int); omega) | 1, _ => (show ((Wo.left s / 2 ^ (4 * (2 - 1)) : Nat) : Int) % 2 ^ 4 = ((Wo.left s / 16 % 16 : Nat) : Int); omega) | 2, _ => (show ((Wo.left s / 2 ^ (4 * (2 - 2)) : Nat) : Int) % 2 ^ 4 = ((Wo.left s % 16 : Nat) : Int); omega)))) rfl <| J.q (qAH (l := [.tmp 51]) (xs := [[I ((([Wo.left s / 256, Wo.left s / 16 % 16, Wo.left s % 16].getD t 0) : Nat) : Int)]]) rfl rfl rfl rfl qCQ el3 rfl (by decide) (by decide) (by simp)) rfl fun g52 _ => ?_
    change J _ _ _ [F, m, blk g52 [I ((([Wo.left s / 256, Wo.left s / 16 % 16, Wo.left s % 16].getD t 0) : Nat) : Int)] 3] _
    refine J.q (qAY (i := 1) (m2 := blk g52 (([([Wo.left s / 256, Wo.left s / 16 % 16, Wo.left s % 16].getD t 0)] : List Nat).map fun x : Nat => I (x : Int)) 3) (ys := qA9 [([Wo.left s / 256, Wo.left s / 16 % 16, Wo.left s % 16].getD t 0)]) rfl rfl rfl qCQ qCQ el3 rfl hrow (by simp) (slN [([Wo.left s / 256, Wo.left s / 16 % 16, Wo.left s % 16].getD t 0)] rfl) (qJy _) (by omega) (by omega)) rfl ?_
    rintro ⟨A53, c53, m53⟩ h53
    try dsimp only at h53
    change J _ ((53, .slice A53 (32 + t + 1) c53) :: _) _ [_, m53, _] _
    rw [← qH9] at h53
    refine J.b rfl <| J.a6 <| J.a5 <| J.A (J.L hK22 ?_)
    refine J.O 4 5 9 ?_
    exact J.c4 [0, 1] [F, m53] rfl (by decide) <| J.M <| J.b rfl <| J.f ((qBI rfl rfl rfl (by omega)).as (v' := I (2 - ((t + 1 : Nat) : Int))) (congrArg I (by omega))) rfl <| J.b rfl <| J.a6 <| J.A <| J.a8 (t + 1, A53, c53, m53) (fun x (hx : _ ∧ 3 - x.1 < 3 - t) => hI4 x hx.1 hx.2) ⟨⟨by dsimp only; omega, by dsimp only; rw [show [Wo.left s / 256, Wo.left s / 16 % 16, Wo.left s % 16].take (t + 1) = [Wo.left s / 256, Wo.left s / 16 % 16, Wo.left s % 16].take t ++ [[Wo.left s / 256, Wo.left s / 16 % 16, Wo.left s % 16].getD t 0] by match t, ht2 with | 0, _ => rfl | 1, _ => rfl | 2, _ => rfl, ← List.append_assoc]; exact h53⟩, by dsimp only; omega⟩ ⟨rfl, rfl, rfl, trivial⟩ (fun _ h => h)
  refine J.b5 <| J.a4 <| J.a4 <| J.b7 ?_
  refine J.A (J.L hK18 ?_)
  refine J.u 4 ?_
  refine J.p fun K23 hK23 => ?_
  have ht3 : t = 3 := by omega
  subst ht3
  refine J.M <| J.j 3 rfl <| J.c hK23 <| J.G 2 3 ?_
  exact J.D <| J.b8 hw0 (fun _ _ h => h) (qCx rfl rfl rfl) (qA6 (A4, c4, m) rfl (by unfold Wo.digs; exact hrow) [0, 1] rfl (by decide))
theorem qRT (F : Hp) (hK : KF F) (seed : List UInt8) (leaf : Nat) (d : List UInt8) (hs : seed.length ≤ 1048576) (h1 : leaf < 4611686018427387904) (hd : d.length = 16) :
    Ct prog 90 [Str seed, I leaf, Str d] [F] (fun x : Option Addr × Nat × Hp => .tuple #[.slice x.1 35 x.2.1, I 0]) (fun x => Row x.2.2 9 1 x.1 35 x.2.1 (qAJ (Wo.signs seed leaf (Wo.digs d) 35))) (fun x => [F, x.2.2]) := by
  have hdl : (Wo.digs d).length = 35 := by rw [Wo.digs_length, hd]
  have hd15 := Wo.digs_le d (by omega)
  refine Ct.walk func90 rfl ntmps90 rfl (fun w0 hw0 => ?_)
  change J _ [(0, _), (1, _), (2, _)] _ _ _
  refine J.g fun K1 hK1 => J.j 2 rfl <| J.c hK1 <| J.O 0 1 2 ?_
  refine J.g fun K2 hK2 => J.b rfl <| J.q (qAC rfl rfl ent143 (Ct.use (fun F' hF => qFf F' d hd))) rfl ?_
  rintro ⟨A16, c16, m16⟩ h16
  try dsimp only at h16
  change J _ ((16, .tuple #[.slice A16 35 c16, I 0]) :: _) _ [F, m16] _
  refine J.b rfl <| J.f (qAm rfl rfl rfl) rfl <| J.f (qAm rfl rfl rfl) rfl <| J.j 2 rfl <| J.c hK2 <| J.T 0 1 8 9 ?_
  refine J.p fun K3 hK3 => J.g fun K4 hK4 => J.b rfl <| J.f ((qAz rfl rfl rfl).no (by decide)) rfl <| J.c hK4 <| J.a3 0 1 8 9 20 ?_
  refine J.b2 ?_
  refine J.a1 hK3 <| J.O 0 1 8 ?_
  refine J.g fun K5 hK5 => J.b rfl <| J.q (qAC rfl rfl ent70 (Ct.use0 (fun F' hF => qGe F' (hK.mono (hF _ (by simp))) seed hs))) rfl fun g23 _ => J.b rfl <| J.c hK5 <| J.T 0 1 8 10 ?_
  refine J.p fun K6 hK6 => J.d6 [0, 1, 2] [F, m16, (fun _ => none)] rfl (by decide) <| J.M <| J.b rfl <| J.c hK6 <| J.a3 0 1 8 10 11 ?_
  refine J.p fun K7 hK7 => J.g fun K8 hK8 => J.b rfl <| J.f (qAh qCQ rfl rfl) rfl <| J.b rfl <| J.c hK8 <| J.c3 0 1 10 11 24 25 26 ?_
  refine J.W <| J.b6 (X := Nat × Option Addr × Nat × Hp) (fun x => [(0, Str seed), (1, I leaf), (10, Str (Wo.opn seed)), (11, .slice x.2.1 x.1 x.2.2.1), (24, .slice A16 35 c16), (25, I ((35 : Nat) : Int)), (26, I x.1)]) (fun x => [F, m16, x.2.2.2]) (fun x => x.1 ≤ 35 ∧ Row x.2.2.2 9 1 x.2.1 x.1 x.2.2.1 (qAJ (Wo.signs seed leaf (Wo.digs d) x.1))) (fun x => 35 - x.1) (0, none, 0, fun _ => none) (⟨Nat.zero_le _, by rw [Wo.signs0]; exact qCA.nil⟩) ⟨rfl, rfl, rfl, rfl, rfl, rfl, rfl, trivial⟩ (fun _ h => h) ?_
  rintro ⟨k, A6, c6, m⟩ ⟨hk, hrow⟩ I0 hI0
  dsimp only at hk hrow ⊢
  have hdk := hd15 k
  refine J.g fun K9 hK9 => J.f (qAX rfl rfl rfl) rfl <| J.c hK9 <| J.d8 0 1 10 11 24 25 26 27 ?_
  refine J.p fun K10 hK10 => J.a0 rfl (fun h27 => ?_) (fun h27 => ?_)
  ·
    refine J.a1 hK10 <| J.c3 0 1 10 11 24 25 26 ?_
    refine J.p fun K11 hK11 => J.W <| J.g fun K12 hK12 => J.b rfl <| J.f (qAK (i := k) rfl rfl rfl qCQ z3_ h16.sl (by omega)) rfl <| J.f (qAQ rfl rfl b3_ (m := m16) (by simp) (h16.sl.elem (qBy (k := k) (by omega)))) rfl <| J.j 2 rfl <| J.c hK12 <| J.e4 0 1 10 11 12 13 24 25 26 ?_
    refine J.M <| J.j 8 rfl <| J.q (qAC rfl rfl ent126 (Ct.use0 (fun F' hF => qF3 F' (hK.mono (hF _ (by simp))) seed leaf k hs h1 (by omega)))) rfl fun g39 _ => J.q (qAC rfl rfl ent125 (Ct.use0 (fun F' hF => qIm F' (hK.mono (hF _ (by simp))) (Wo.opn seed) leaf k (by rw [Wo.opn_length]; decide) h1 (by omega) (Wo.secret seed leaf k) (by rw [Wo.secret_length]; decide) 0 ((Wo.digs d).getD k 0) 0 ((Wo.digs d).getD k 0) (by omega) (by omega) (by omega)))) rfl fun g40 _ => J.q (qAH (l := [.tmp 40]) (xs := [[Str ((Wo.walk (Wo.opn seed) leaf k 0 (Wo.secret seed leaf k) ((Wo.digs d).getD k 0)))]]) rfl rfl rfl rfl qAo el9 rfl (by decide) (by decide) (by simp)) rfl fun g41 _ => ?_
    change J _ _ _ [F, m16, m, blk g41 [Str ((Wo.walk (Wo.opn seed) leaf k 0 (Wo.secret seed leaf k) ((Wo.digs d).getD k 0)))] 9] _
    refine J.q (qAY (i := 2) (m2 := blk g41 [Str (Wo.walk (Wo.opn seed) leaf k 0 (Wo.secret seed leaf k) ((Wo.digs d).getD k 0))] 9) (ys := qAJ [(Wo.walk (Wo.opn seed) leaf k 0 (Wo.secret seed leaf k) ((Wo.digs d).getD k 0))]) rfl rfl rfl qAo qAo el9 rfl hrow (by simp) (qAn (q := True) (xs := qAJ [(Wo.walk (Wo.opn seed) leaf k 0 (Wo.secret seed leaf k) ((Wo.digs d).getD k 0))]) rfl (by simp [qAJ])).sl (qCH _) (by omega) (by omega)) rfl ?_
    rintro ⟨A42, c42, m42⟩ h42
    try dsimp only at h42
    change J _ ((42, .slice A42 (k + 1) c42) :: _) _ [_, _, m42, blk g41 [Str (Wo.walk (Wo.opn seed) leaf k 0 (Wo.secret seed leaf k) ((Wo.digs d).getD k 0))] 9] _
    rw [← qBw, ← Wo.signs_succ] at h42
    refine J.c4 [0, 1, 2] [F, m16, m42] rfl (by decide) <| J.b rfl <| J.a6 <| J.a5 <| J.A (J.L hK11 ?_)
    refine J.c3 0 1 10 11 24 25 26 ?_
    exact J.M <| J.f ((qAU rfl rfl rfl (by omega)).nat (k + 1) (by omega)) rfl <| J.b rfl <| J.a6 <| J.A <| J.a8 (k + 1, A42, c42, m42) (fun x (hx : _ ∧ 35 - x.1 < 35 - k) => hI0 x hx.1 hx.2) ⟨⟨by dsimp only; omega, h42⟩, by dsimp only; omega⟩ ⟨rfl, rfl, rfl, rfl, rfl, rfl, rfl, trivial⟩ (fun _ h => h)
  refine J.b5 <| J.a4 <| J.a4 <| J.b7 ?_
  refine J.A (J.L hK7 ?_)
  refine J.u 11 ?_
  refine J.p fun K13 hK13 => ?_
  have hk35 : k = 35 := by omega
  subst hk35
  refine J.M <| J.j 3 rfl <| J.c hK13 <| J.G 6 7 ?_
  exact J.D <| J.b8 hw0 (fun _ _ h => h) (qCx rfl rfl rfl) (qA6 (A6, c6, m) rfl hrow [0, 2] rfl (by decide))
theorem qLl (F : Hp) (A : Option Addr) (n c : Nat) (ls : List (List UInt8)) (hl : Sl F 1 A n c (qAJ ls)) (h16 : ∀ s ∈ ls, s.length = 16) (hn : n = 35) :
    Ct prog 169 [.slice A n c] [F] (fun _ : Unit => .bool true) (fun _ => True) (fun _ => [F]) := by
  have hlen : ls.length = n := by have := hl.1; simpa [qAJ] using this
  refine Ct.walk func169 rfl ntmps169 rfl (fun w0 hw0 => ?_)
  change J _ [(0, _)] _ _ _
  refine J.g fun K1 hK1 => J.b rfl <| J.c hK1 <| J.u 0 ?_
  refine J.p fun K2 hK2 => J.g fun K3 hK3 => J.b rfl <| J.f (qAh qAo rfl rfl) rfl <| J.b rfl <| J.c hK3 <| J.T 0 5 6 7 ?_
  refine J.W <| J.b6 (fun k : Nat => [(0, .slice A n c), (5, .slice A n c), (6, I n), (7, I k)]) (fun _ => [F]) (fun k => k ≤ n) (fun k => n - k) 0 (Nat.zero_le _) ⟨rfl, rfl, rfl, rfl, trivial⟩ (fun _ h => h) ?_
  intro k hk I0 hI0
  refine J.g fun K4 hK4 => J.f (qAX rfl rfl rfl) rfl <| J.c hK4 <| J.a3 0 5 6 7 8 ?_
  refine J.p fun K5 hK5 => J.a0 rfl (fun h8 => ?_) (fun h8 => ?_)
  ·
    refine J.a1 hK5 <| J.T 0 5 6 7 ?_
    refine J.p fun K6 hK6 => J.W <| J.g fun K7 hK7 => J.f (qAK (i := k) rfl rfl rfl qAo z9_ hl (by omega)) rfl <| J.f (qAQ rfl rfl b9_ (m := F) (by simp) (hl.elem (qAZ (qAl [] (show k < ls.length by omega))))) rfl <| J.b rfl <| J.c hK7 <| J.a3 0 4 5 6 7 ?_
    refine J.g fun K8 hK8 => J.b rfl <| J.f (qA7 u9_ rfl rfl) rfl <| J.f ((qAz rfl rfl rfl).no (by have := h16 _ (List.mem_of_getElem? (qAl [] (show k < ls.length by omega))); omega)) rfl <| J.c hK8 <| J.a3 0 5 6 7 13 ?_
    refine J.b2 ?_
    refine J.b9 <| J.a5 <| J.A (J.L hK6 ?_)
    refine J.T 0 5 6 7 ?_
    exact J.M <| J.f ((qAU rfl rfl rfl (by omega)).nat (k + 1) (by omega)) rfl <| J.b rfl <| J.a6 <| J.A <| J.a8 (k + 1) (fun x (hx : x ≤ n ∧ n - x < n - k) => hI0 x hx.1 hx.2) ⟨by omega, by omega⟩ ⟨rfl, rfl, rfl, rfl, trivial⟩ (fun _ h => h)
  refine J.b5 <| J.a4 <| J.a4 <| J.b7 ?_
  refine J.A (J.L hK2 ?_)
  refine J.u 0 ?_
  refine J.g fun K9 hK9 => J.b rfl <| J.f (qAh qAo rfl rfl) rfl <| J.f ((qAa rfl rfl rfl).yes (by omega)) rfl <| J.b rfl <| J.c hK9 <| J.u 2 ?_
  exact J.D <| J.H hw0 rfl () rfl trivial [0] rfl (by decide)
theorem qKw (F : Hp) (hK : KF F) (o : List UInt8) (leaf : Nat) (d : List UInt8) (A : Option Addr) (c : Nat) (sig : List (List UInt8)) (hl : Sl F 1 A 35 c (qAJ sig)) (ho : o.length ≤ 1048576) (h1 : leaf < 4611686018427387904) (hd : d.length = 16) (hsg : ∀ s ∈ sig, s.length = 16) :
    Ct prog 123 [Str o, I leaf, Str d, .slice A 35 c] [F] (fun _ : Unit => .tuple #[Str (Wo.publicOf o leaf (Wo.ends o leaf (Wo.digs d) sig 35)), I 0]) (fun _ => True) (fun _ => [F]) := by
  have hdl : (Wo.digs d).length = 35 := by rw [Wo.digs_length, hd]
  have hd15 := Wo.digs_le d (by omega)
  have hlen : sig.length = 35 := by have := hl.1; simpa [qAJ] using this
  refine Ct.walk func123 rfl ntmps123 rfl (fun w0 hw0 => ?_)
  change J _ [(0, _), (1, _), (2, _), (3, _)] _ _ _
  refine J.g fun K1 hK1 => J.j 2 rfl <| J.c hK1 <| J.T 0 1 2 3 ?_
  refine J.g fun K2 hK2 => J.b rfl <| J.q (qAC rfl rfl ent143 (Ct.use (fun F' hF => qFf F' d hd))) rfl ?_
  rintro ⟨A17, c17, m17⟩ h17
  try dsimp only at h17
  change J _ ((17, .tuple #[.slice A17 35 c17, I 0]) :: _) _ [F, m17] _
  refine J.b rfl <| J.f (qAm rfl rfl rfl) rfl <| J.f (qAm rfl rfl rfl) rfl <| J.j 2 rfl <| J.c hK2 <| J.a3 0 1 3 10 11 ?_
  refine J.p fun K3 hK3 => J.W <| J.g fun K4 hK4 => J.b rfl <| J.f ((qAz rfl rfl rfl).no (by decide)) rfl <| J.b rfl <| J.c hK4 <| J.b1 0 1 3 10 11 20 ?_
  refine J.b2 ?_
  refine J.g fun K5 hK5 => J.b rfl <| J.q (qAC rfl rfl ent169 (Ct.use0 (fun F' hF => qLl F' A 35 c sig (hl.mono (hF _ (by simp))) hsg rfl))) rfl fun g26 _ => J.f ((qA3 rfl rfl).as (v' := .bool false) rfl) rfl <| J.b rfl <| J.c hK5 <| J.a3 0 1 3 10 24 ?_
  refine J.b2 ?_
  refine J.b9 <| J.a5 <| J.A (J.L hK3 ?_)
  refine J.T 0 1 3 10 ?_
  refine J.p fun K6 hK6 => J.d6 [0, 1, 2] [F, m17, (fun _ => none)] rfl (by decide) <| J.M <| J.b rfl <| J.c hK6 <| J.a3 0 1 3 10 12 ?_
  refine J.p fun K7 hK7 => J.g fun K8 hK8 => J.b rfl <| J.f (qAh qCQ rfl rfl) rfl <| J.b rfl <| J.c hK8 <| J.c3 0 1 3 12 28 29 30 ?_
  refine J.W <| J.b6 (X := Nat × Option Addr × Nat × Hp) (fun x => [(0, Str o), (1, I leaf), (3, .slice A 35 c), (12, .slice x.2.1 x.1 x.2.2.1), (28, .slice A17 35 c17), (29, I ((35 : Nat) : Int)), (30, I x.1)]) (fun x => [F, m17, x.2.2.2]) (fun x => x.1 ≤ 35 ∧ Row x.2.2.2 9 1 x.2.1 x.1 x.2.2.1 (qAJ (Wo.ends o leaf (Wo.digs d) sig x.1))) (fun x => 35 - x.1) (0, none, 0, fun _ => none) (⟨Nat.zero_le _, by rw [Wo.ends0]; exact qCA.nil⟩) ⟨rfl, rfl, rfl, rfl, rfl, rfl, rfl, trivial⟩ (fun _ h => h) ?_
  rintro ⟨k, A6, c6, m⟩ ⟨hk, hrow⟩ I0 hI0
  dsimp only at hk hrow ⊢
  have hdk := hd15 k
  refine J.g fun K9 hK9 => J.f (qAX rfl rfl rfl) rfl <| J.c hK9 <| J.d8 0 1 3 12 28 29 30 31 ?_
  refine J.p fun K10 hK10 => J.a0 rfl (fun h31 => ?_) (fun h31 => ?_)
  ·
    refine J.a1 hK10 <| J.c3 0 1 3 12 28 29 30 ?_
    refine J.p fun K11 hK11 => J.W <| J.g fun K12 hK12 => J.b rfl <| J.f (qAK (i := k) rfl rfl rfl qCQ z3_ h17.sl (by omega)) rfl <| J.f (qAQ rfl rfl b3_ (m := m17) (by simp) (h17.sl.elem (qBy (k := k) (by omega)))) rfl <| J.j 2 rfl <| J.c hK12 <| J.e4 0 1 3 12 13 14 28 29 30 ?_
    refine J.M <| J.j 7 rfl <| J.f (qAK (i := k) rfl rfl rfl qAo z9_ hl (by omega)) rfl <| J.f (qAQ rfl rfl b9_ (m := F) (by simp) (hl.elem (qAZ (qAl [] (show k < sig.length by omega))))) rfl <| J.q (qAC rfl rfl ent125 (Ct.use0 (fun F' hF => qIm F' (hK.mono (hF _ (by simp))) o leaf k ho h1 (by omega) (sig.getD k []) (by have := hsg _ (List.mem_of_getElem? (qAl [] (show k < sig.length by omega))); omega) ((((Wo.digs d).getD k 0) : Nat) : Int) 15 ((Wo.digs d).getD k 0) (15 - ((Wo.digs d).getD k 0)) (by omega) (by omega) (by omega)))) rfl fun g44 _ => J.q (qAH (l := [.tmp 44]) (xs := [[Str ((Wo.walk o leaf k ((Wo.digs d).getD k 0) (sig.getD k []) (15 - ((Wo.digs d).getD k 0))))]]) rfl rfl rfl rfl qAo el9 rfl (by decide) (by decide) (by simp)) rfl fun g45 _ => ?_
    change J _ _ _ [F, m17, m, blk g45 [Str ((Wo.walk o leaf k ((Wo.digs d).getD k 0) (sig.getD k []) (15 - ((Wo.digs d).getD k 0))))] 9] _
    refine J.q (qAY (i := 2) (m2 := blk g45 [Str (Wo.walk o leaf k ((Wo.digs d).getD k 0) (sig.getD k []) (15 - ((Wo.digs d).getD k 0)))] 9) (ys := qAJ [(Wo.walk o leaf k ((Wo.digs d).getD k 0) (sig.getD k []) (15 - ((Wo.digs d).getD k 0)))]) rfl rfl rfl qAo qAo el9 rfl hrow (by simp) (qAn (q := True) (xs := qAJ [(Wo.walk o leaf k ((Wo.digs d).getD k 0) (sig.getD k []) (15 - ((Wo.digs d).getD k 0)))]) rfl (by simp [qAJ])).sl (qCH _) (by omega) (by omega)) rfl ?_
    rintro ⟨A46, c46, m46⟩ h46
    try dsimp only at h46
    change J _ ((46, .slice A46 (k + 1) c46) :: _) _ [_, _, m46, blk g45 [Str (Wo.walk o leaf k ((Wo.digs d).getD k 0) (sig.getD k []) (15 - ((Wo.digs d).getD k 0)))] 9] _
    rw [← qBw, ← Wo.ends_succ] at h46
    refine J.c4 [0, 1, 2] [F, m17, m46] rfl (by decide) <| J.b rfl <| J.a6 <| J.a5 <| J.A (J.L hK11 ?_)
    refine J.c3 0 1 3 12 28 29 30 ?_
    exact J.M <| J.f ((qAU rfl rfl rfl (by omega)).nat (k + 1) (by omega)) rfl <| J.b rfl <| J.a6 <| J.A <| J.a8 (k + 1, A46, c46, m46) (fun x (hx : _ ∧ 35 - x.1 < 35 - k) => hI0 x hx.1 hx.2) ⟨⟨by dsimp only; omega, h46⟩, by dsimp only; omega⟩ ⟨rfl, rfl, rfl, rfl, rfl, rfl, rfl, trivial⟩ (fun _ h => h)
  refine J.b5 <| J.a4 <| J.a4 <| J.b7 ?_
  refine J.A (J.L hK7 ?_)
  refine J.O 0 1 12 ?_
  refine J.p fun K13 hK13 => ?_
  have hk35 : k = 35 := by omega
  subst hk35
  refine J.M <| J.j 3 rfl <| J.q (qAC rfl rfl ent127 (Ct.use0 (fun F' hF => qF4 F' (hK.mono (hF _ (by simp))) o leaf ho h1 A6 35 c6 (Wo.ends o leaf (Wo.digs d) sig 35) (hrow.sl.mono (hF _ (by simp))) (Wo.ends_small o leaf (Wo.digs d) sig 35 (fun s hs => Nat.le_of_eq (hsg s hs))) (by decide)))) rfl fun g51 _ => J.j 2 rfl <| J.c hK13 <| J.G 8 9 ?_
  exact J.D <| J.b8 hw0 (fun _ _ h => h) (qCx rfl rfl rfl) (qA6 () rfl trivial [0] rfl (by decide))
end Go.Proofs.YtfldiegfenndjaaGreatDoor
namespace Go.Proofs.YtfldiegfenndjaaGreatDoor
set_option maxRecDepth 100000
set_option maxHeartbeats 1000000
namespace SM
open SN (qAj qAb)
noncomputable def schP (u : Nat) (n : Nat) : Nat → Nat → Nat → Nat → Nat → Nat → Nat → Nat → Nat → Nat → Nat → Nat → Nat → Nat → Nat → Nat → List Nat :=
 Nat.rec (fun a b c d e f g h i j k l m n o p => [a, b, c, d, e, f, g, h, i, j, k, l, m, n, o, p])
  (fun _ ih a b c d e f g h i j k l m n o p => a :: qAj (qCy u (a + Nat.xor (Nat.xor (qDZ u b 7) (qDZ u b 18)) (qHW u b 3) + j + Nat.xor (Nat.xor (qDZ u o 17) (qDZ u o 19)) (qHW u o 10))) fun x => ih b c d e f g h i j k l m n o p x) n
noncomputable def rdsP (u : Nat) (kw : List Nat) : List Nat → Nat → Nat → Nat → Nat → Nat → Nat → Nat → Nat → List Nat :=
 List.rec (fun _ a b c d e f g h => [a, b, c, d, e, f, g, h])
  (fun k _ ih ws a b c d e f g h => List.rec [] (fun w ws _ =>
   qAj (qCy u (h + Nat.xor (Nat.xor (qDZ u e 6) (qDZ u e 11)) (qDZ u e 25) + Nat.xor (Nat.land e f) (Nat.land (4294967295 * u - e) g) + k * u + w)) fun t1 =>
   qAj (qCy u (t1 + (Nat.xor (Nat.xor (qDZ u a 2) (qDZ u a 13)) (qDZ u a 22) + Nat.xor (Nat.xor (Nat.land a b) (Nat.land a c)) (Nat.land b c)))) fun x =>
   qAj (qCy u (d + t1)) fun y => ih ws x a b c y e f g) ws) kw
theorem qMX (u k w : Nat) (ks ws : List Nat) (a b c d e f g h : Nat) : rdsP u (k :: ks) (w :: ws) a b c d e f g h =
      qAj (qCy u (h + Nat.xor (Nat.xor (qDZ u e 6) (qDZ u e 11)) (qDZ u e 25) + Nat.xor (Nat.land e f) (Nat.land (4294967295 * u - e) g) + k * u + w)) fun t1 =>
      qAj (qCy u (t1 + (Nat.xor (Nat.xor (qDZ u a 2) (qDZ u a 13)) (qDZ u a 22) + Nat.xor (Nat.xor (Nat.land a b) (Nat.land a c)) (Nat.land b c)))) fun x =>
      qAj (qCy u (d + t1)) fun y => rdsP u ks ws x a b c y e f g := rfl
theorem qMP (u n' a b c d e f g h i j k l m n o p : Nat) : schP u (n' + 1) a b c d e f g h i j k l m n o p = a :: qAj (qCy u (a + Nat.xor (Nat.xor (qDZ u b 7) (qDZ u b 18)) (qHW u b 3) + j + Nat.xor (Nat.xor (qDZ u o 17) (qDZ u o 19)) (qHW u o 10))) fun x => schP u n' b c d e f g h i j k l m n o p x := rfl
theorem qOr (u : Nat) (ws : List Nat) (a b c d e f g h : Nat) : rdsP u [] ws a b c d e f g h = [a, b, c, d, e, f, g, h] := rfl
theorem qMO (u a b c d e f g h i j k l m n o p : Nat) : schP u 0 a b c d e f g h i j k l m n o p = [a, b, c, d, e, f, g, h, i, j, k, l, m, n, o, p] := rfl
attribute [local irreducible] rdsP schP
def qSz : Nat → (Nat → UInt32) → (Nat → UInt32) → (Nat → UInt32) → (Nat → UInt32) → (Nat → UInt32) → (Nat → UInt32) → (Nat → UInt32) → (Nat → UInt32) → (Nat → UInt32) → (Nat → UInt32) → (Nat → UInt32) → (Nat → UInt32) → (Nat → UInt32) → (Nat → UInt32) → (Nat → UInt32) → (Nat → UInt32) → List (Nat → UInt32)
 | 0, a, b, c, d, e, f, g, h, i, j, k, l, m, n, o, p => [a, b, c, d, e, f, g, h, i, j, k, l, m, n, o, p]
 | n' + 1, a, b, c, d, e, f, g, h, i, j, k, l, m, n, o, p => a :: qSz n' b c d e f g h i j k l m n o p (fun z => a z + Sha.sg0 (b z) + j z + Sha.sg1 (o z))
theorem qPs (z : Nat) (n' : Nat) : ∀ (q : List UInt32) (a b c d e f g h i j k l m n o p : Nat → UInt32), Sha.exts n' (q ++ [a z, b z, c z, d z, e z, f z, g z, h z, i z, j z, k z, l z, m z, n z, o z, p z]) = q ++ (qSz n' a b c d e f g h i j k l m n o p).map (fun w => w z) := by
 induction n' with
 | zero => intro q a b c d e f g h i j k l m n o p; rfl
 | succ n' ih =>
  intro q a b c d e f g h i j k l m n o p
  rw [SN.exts_succ', SN.ext_eq]
  have := ih (q ++ [a z]) b c d e f g h i j k l m n o p (fun z => a z + Sha.sg0 (b z) + j z + Sha.sg1 (o z))
  rw [this, qSz, List.map_cons, List.append_assoc]; rfl
theorem lane4 {x y z w : Nat} (h1 : x < 2 ^ 32) (h2 : y < 2 ^ 32) (h3 : z < 2 ^ 32) (h4 : w < 2 ^ 32) : x + y + z + w < 2 ^ 64 := by omega
theorem lane5 {x y z w v : Nat} (h1 : x < 2 ^ 32) (h2 : y < 2 ^ 32) (h3 : z < 2 ^ 32) (h4 : w < 2 ^ 32) (h5 : v < 2 ^ 32) : x + y + z + w + v < 2 ^ 64 := by omega
theorem lane3 {x y z : Nat} (h1 : x < 2 ^ 32) (h2 : y < 2 ^ 32) (h3 : z < 2 ^ 32) : x + (y + z) < 2 ^ 64 := by omega
theorem qTm {x y : Nat} (h1 : x < 2 ^ 32) (h2 : y < 2 ^ 32) : x + y < 2 ^ 64 := by omega
theorem sum5 (a b c d e : UInt32) : (a.toNat + b.toNat + c.toNat + d.toNat + e.toNat) % 4294967296 = (a + b + c + d + e).toNat := by
 simp only [UInt32.toNat_add]; omega
theorem sum3 (a b c : UInt32) : (a.toNat + (b.toNat + c.toNat)) % 4294967296 = (a + (b + c)).toNat := by
 simp only [UInt32.toNat_add]; omega
theorem qRX (N : Nat) (n' : Nat) : ∀ (a b c d e f g h i j k l m n o p : Nat → UInt32), schP (qBC N) n' (pk N a) (pk N b) (pk N c) (pk N d) (pk N e) (pk N f) (pk N g) (pk N h) (pk N i) (pk N j) (pk N k) (pk N l) (pk N m) (pk N n) (pk N o) (pk N p) = (qSz n' a b c d e f g h i j k l m n o p).map (pk N) := by
 induction n' with
 | zero => intro a b c d e f g h i j k l m n o p; rw [qMO]; rfl
 | succ n' ih =>
  intro a b c d e f g h i j k l m n o p
  have e1 : Nat.xor (Nat.xor (qDZ (qBC N) (pk N b) 7) (qDZ (qBC N) (pk N b) 18)) (qHW (qBC N) (pk N b) 3) = pk N fun z => Sha.sg0 (b z) := by
   rw [qCK N b (by decide) (by decide), qCK N b (by decide) (by decide), qGq N b (by decide) (by decide), qC4, qC4]; rfl
  have e2 : Nat.xor (Nat.xor (qDZ (qBC N) (pk N o) 17) (qDZ (qBC N) (pk N o) 19)) (qHW (qBC N) (pk N o) 10) = pk N fun z => Sha.sg1 (o z) := by
   rw [qCK N o (by decide) (by decide), qCK N o (by decide) (by decide), qGq N o (by decide) (by decide), qC4, qC4]; rfl
  have e3 : qCy (qBC N) (pk N a + (pk N fun z => Sha.sg0 (b z)) + pk N j + (pk N fun z => Sha.sg1 (o z))) = pk N fun z => a z + Sha.sg0 (b z) + j z + Sha.sg1 (o z) := by
   unfold pk
   rw [qA1, qA1, qA1, qDn N (fun z => lane4 (u32 _) (u32 _) (u32 _) (u32 _))]
   exact qAr fun z => SN.sch_sum (a z) (b z) (j z) (o z)
  rw [qMP, qAb, e1, e2, e3, ih, qSz, List.map_cons]
def qEV (ks : List UInt32) (ws : List (Nat → UInt32)) (s : Nat → Sha.St8) (z : Nat) : Sha.St8 := SN.fold ks (ws.map fun w => w z) (s z)
theorem qRl (N : Nat) (ks : List UInt32) : ∀ (ws : List (Nat → UInt32)) (s : Nat → Sha.St8), ks.length = ws.length →
    rdsP (qBC N) (ks.map UInt32.toNat) (ws.map (pk N)) (pk N fun z => (s z).a) (pk N fun z => (s z).b) (pk N fun z => (s z).c) (pk N fun z => (s z).d) (pk N fun z => (s z).e) (pk N fun z => (s z).f) (pk N fun z => (s z).g) (pk N fun z => (s z).h) =
      [pk N fun z => (qEV ks ws s z).a, pk N fun z => (qEV ks ws s z).b, pk N fun z => (qEV ks ws s z).c, pk N fun z => (qEV ks ws s z).d, pk N fun z => (qEV ks ws s z).e, pk N fun z => (qEV ks ws s z).f, pk N fun z => (qEV ks ws s z).g, pk N fun z => (qEV ks ws s z).h] := by
  induction ks with
  | nil =>
    intro ws s h
    cases ws with
    | nil => rw [List.map_nil, qOr]; rfl
    | cons _ _ => cases h
  | cons k ks ih =>
    intro ws s h
    cases ws with
    | nil => cases h
    | cons w ws =>
      have e1 : Nat.xor (Nat.xor (qDZ (qBC N) (pk N fun z => (s z).e) 6) (qDZ (qBC N) (pk N fun z => (s z).e) 11)) (qDZ (qBC N) (pk N fun z => (s z).e) 25) = pk N fun z => Sha.rotr (s z).e 6 ^^^ Sha.rotr (s z).e 11 ^^^ Sha.rotr (s z).e 25 := by
        rw [qCK N _ (by decide) (by decide), qCK N _ (by decide) (by decide), qCK N _ (by decide) (by decide), qC4, qC4]
      have e2 : Nat.xor (Nat.land (pk N fun z => (s z).e) (pk N fun z => (s z).f)) (Nat.land (4294967295 * qBC N - pk N fun z => (s z).e) (pk N fun z => (s z).g)) = pk N fun z => (s z).e &&& (s z).f ^^^ ~~~ (s z).e &&& (s z).g := by
        rw [qTV, qHu, qHu, qC4]
      have e3 : Nat.xor (Nat.xor (qDZ (qBC N) (pk N fun z => (s z).a) 2) (qDZ (qBC N) (pk N fun z => (s z).a) 13)) (qDZ (qBC N) (pk N fun z => (s z).a) 22) = pk N fun z => Sha.rotr (s z).a 2 ^^^ Sha.rotr (s z).a 13 ^^^ Sha.rotr (s z).a 22 := by
        rw [qCK N _ (by decide) (by decide), qCK N _ (by decide) (by decide), qCK N _ (by decide) (by decide), qC4, qC4]
      have e4 : Nat.xor (Nat.xor (Nat.land (pk N fun z => (s z).a) (pk N fun z => (s z).b)) (Nat.land (pk N fun z => (s z).a) (pk N fun z => (s z).c))) (Nat.land (pk N fun z => (s z).b) (pk N fun z => (s z).c)) = pk N fun z => (s z).a &&& (s z).b ^^^ (s z).a &&& (s z).c ^^^ (s z).b &&& (s z).c := by
        rw [qHu, qHu, qHu, qC4, qC4]
      have t1 : qCy (qBC N) ((pk N fun z => (s z).h) + (pk N fun z => Sha.rotr (s z).e 6 ^^^ Sha.rotr (s z).e 11 ^^^ Sha.rotr (s z).e 25) + (pk N fun z => (s z).e &&& (s z).f ^^^ ~~~ (s z).e &&& (s z).g) + k.toNat * qBC N + pk N w) = pk N fun z => (s z).h + (Sha.rotr (s z).e 6 ^^^ Sha.rotr (s z).e 11 ^^^ Sha.rotr (s z).e 25) + ((s z).e &&& (s z).f ^^^ ~~~ (s z).e &&& (s z).g) + k + w z := by
        rw [qBS]
        unfold pk
        rw [qA1, qA1, qA1, qA1, qDn N (fun z => lane5 (u32 _) (u32 _) (u32 _) (u32 _) (u32 _))]
        exact qAr fun z => sum5 _ _ _ _ _
      have t2 : ∀ T : Nat → UInt32, qCy (qBC N) (pk N T + ((pk N fun z => Sha.rotr (s z).a 2 ^^^ Sha.rotr (s z).a 13 ^^^ Sha.rotr (s z).a 22) + (pk N fun z => (s z).a &&& (s z).b ^^^ (s z).a &&& (s z).c ^^^ (s z).b &&& (s z).c))) = pk N fun z => T z + ((Sha.rotr (s z).a 2 ^^^ Sha.rotr (s z).a 13 ^^^ Sha.rotr (s z).a 22) + ((s z).a &&& (s z).b ^^^ (s z).a &&& (s z).c ^^^ (s z).b &&& (s z).c)) := fun T => by
        unfold pk
        rw [qA1, qA1, qDn N (fun z => lane3 (u32 _) (u32 _) (u32 _))]
        exact qAr fun z => sum3 _ _ _
      have t3 : ∀ T : Nat → UInt32, qCy (qBC N) ((pk N fun z => (s z).d) + pk N T) = pk N fun z => (s z).d + T z := fun T => by
        unfold pk
        rw [qA1, qDn N (fun z => qTm (u32 _) (u32 _))]
        exact qAr fun z => by simp only [UInt32.toNat_add]
      rw [List.map_cons, List.map_cons, qMX, qAb, e1, e2, t1, qAb, e3, e4, t2, qAb, t3]
      have hr := ih ws (fun z => Sha.rnd (w z) k (s z)) (by simpa using h)
      have hf : ∀ z, qEV (k :: ks) (w :: ws) s z = qEV ks ws (fun z => Sha.rnd (w z) k (s z)) z := fun z => by
        unfold qEV
        rw [List.map_cons, SN.fold_cons]
      simp only [hf]
      exact hr
end SM
end Go.Proofs.YtfldiegfenndjaaGreatDoor
namespace Go.Proofs.YtfldiegfenndjaaGreatDoor
set_option maxRecDepth 100000
set_option maxHeartbeats 1000000
namespace SM
open SN (qAj qAb forceL qAt)
noncomputable def hd {α : Type} (l : List Nat) (g : Nat → List Nat → α) : α := List.rec (g 0 []) (fun a r _ => g a r) l
noncomputable def w4s (n : Nat) : List Nat → List Nat :=
 Nat.rec (fun _ => []) (fun _ ih l => hd l fun a r => hd r fun b r => hd r fun c r => hd r fun d r => qAj (((a * 256 + b) * 256 + c) * 256 + d) fun x => x :: ih r) n
theorem qOJ (n a b c d : Nat) (r : List Nat) : w4s (n + 1) (a :: b :: c :: d :: r) = (((a * 256 + b) * 256 + c) * 256 + d) :: w4s n r := by
 show qAj (((a * 256 + b) * 256 + c) * 256 + d) (fun x => x :: w4s n r) = _
 rw [qAb]
theorem qLm (l : List UInt8) (i : Nat) : Sha.word (l.drop 4) i = Sha.word l (i + 1) := by
 have e : ∀ k, (l.drop 4).getD (4 * i + k) 0 = l.getD (4 * (i + 1) + k) 0 := fun k => by
  rw [List.getD_eq_getElem?_getD, List.getElem?_drop, ← List.getD_eq_getElem?_getD, show 4 + (4 * i + k) = 4 * (i + 1) + k by omega]
 unfold Sha.word
 exact congr (congr (congr (congrArg Sha.be32 (e 0)) (e 1)) (e 2)) (e 3)
theorem qDp (l : List UInt8) (n : Nat) : Sha.firsts l (n + 1) = Sha.word l 0 :: Sha.firsts (l.drop 4) n := by
 unfold Sha.firsts
 rw [List.range_succ_eq_map, List.map_cons, List.map_map]
 exact congrArg (List.cons _) (List.map_congr_left fun i _ => (qLm l i).symm)
theorem qQS : ∀ (n : Nat) (l : List UInt8), 4 * n ≤ l.length → w4s n (l.map UInt8.toNat) = (Sha.firsts l n).map UInt32.toNat
 | 0, _, _ => rfl
 | n + 1, l, h => by
  match l, h with
  | a :: b :: c :: d :: r, h =>
   have ih := qQS n r (by simp only [List.length_cons] at h; omega)
   rw [qDp]
   show w4s (n + 1) (a.toNat :: b.toNat :: c.toNat :: d.toNat :: r.map UInt8.toNat) = _
   rw [qOJ, ih, List.map_cons]
   congr 1
   have := SN.w4_eq (a :: b :: c :: d :: r) 0
   rw [Nat.mul_zero, List.drop_zero] at this
   exact this
  | [], h => simp at h
  | [_], h => simp only [List.length_cons, List.length_nil] at h; omega
  | [_, _], h => simp only [List.length_cons, List.length_nil] at h; omega
  | [_, _, _], h => simp only [List.length_cons, List.length_nil] at h; omega
noncomputable def cols {α : Type} (L : List (List Nat)) : (List Nat → α) → α :=
 List.rec (fun g => g [0, 0, 0, 0, 0, 0, 0, 0, 0, 0, 0, 0, 0, 0, 0, 0]) (fun ws _ ih g => ih fun acc => forceL (List.zipWith (fun w p => w + 18446744073709551616 * p) ws acc) g) L
def qNj : List (List Nat) → List Nat
 | [] => [0, 0, 0, 0, 0, 0, 0, 0, 0, 0, 0, 0, 0, 0, 0, 0]
 | ws :: L => List.zipWith (fun w p => w + 18446744073709551616 * p) ws (qNj L)
theorem qNh {α : Type} : ∀ (L : List (List Nat)) (g : List Nat → α), cols L g = g (qNj L)
 | [], _ => rfl
 | ws :: L, g => by
  show cols L (fun acc => forceL (List.zipWith (fun w p => w + 18446744073709551616 * p) ws acc) g) = _
  rw [qNh L, qAt]; rfl
def wd (M : List (List UInt8)) (j z : Nat) : UInt32 := Sha.word (M.getD z []) j
theorem qK4 (n : Nat) (f : Nat → Nat) : qA5 (n + 1) f = f 0 + 18446744073709551616 * qA5 n (fun i => f (i + 1)) := rfl
attribute [local irreducible] qA5 Sha.word
theorem qRo (b : List UInt8) (M : List (List UInt8)) (j : Nat) : pk (b :: M).length (wd (b :: M) j) = (Sha.word b j).toNat + 18446744073709551616 * pk M.length (wd M j) := by
 have h : ∀ i, wd (b :: M) j (i + 1) = wd M j i := fun i => by unfold wd; rw [List.getD_cons_succ]
 have h0 : wd (b :: M) j 0 = Sha.word b j := by unfold wd; rw [List.getD_cons_zero]
 unfold pk
 rw [List.length_cons, qK4, h0]
 simp only [h]
theorem qLg {f g : Nat → Nat} : ∀ (l : List Nat), List.zipWith (fun w p => w + 18446744073709551616 * p) (l.map f) (l.map g) = l.map fun j => f j + 18446744073709551616 * g j
 | [] => List.zipWith_nil_left
 | a :: l => by rw [List.map_cons, List.map_cons, List.map_cons, List.zipWith_cons_cons, qLg l]
theorem qNi : qNj [] = (List.range 16).map fun j => pk ([] : List (List UInt8)).length (wd [] j) := by
 have h : ∀ j, pk ([] : List (List UInt8)).length (wd [] j) = 0 := fun j => by
  unfold pk; rw [List.length_nil]; unfold qA5; rfl
 simp only [h]
 decide
theorem qPw (M : List (List UInt8)) : qNj (M.map fun b => (Sha.firsts b 16).map UInt32.toNat) = (List.range 16).map fun j => pk M.length (wd M j) := by
 induction M with
 | nil => exact qNi
 | cons b M ih =>
  rw [List.map_cons, qNj, ih]
  unfold Sha.firsts
  rw [List.map_map, qLg]
  refine List.map_congr_left fun j _ => ?_
  rw [Function.comp_apply, qRo]
theorem K_len : Sha.K.length = 64 := by decide
noncomputable def oneP {α : Type} (u : Nat) (ws : List Nat) (g : Nat → Nat → Nat → Nat → α) : α :=
 forceL (rdsP u SN.KN (schP u 48 (ws.getD 0 0) (ws.getD 1 0) (ws.getD 2 0) (ws.getD 3 0) (ws.getD 4 0) (ws.getD 5 0) (ws.getD 6 0) (ws.getD 7 0) (ws.getD 8 0) (ws.getD 9 0) (ws.getD 10 0) (ws.getD 11 0) (ws.getD 12 0) (ws.getD 13 0) (ws.getD 14 0) (ws.getD 15 0)) (1779033703 * u) (3144134277 * u) (1013904242 * u) (2773480762 * u) (1359893119 * u) (2600822924 * u) (528734635 * u) (1541459225 * u)) fun r =>
 qAj (qCy u (1779033703 * u + r.getD 0 0)) fun a => qAj (qCy u (3144134277 * u + r.getD 1 0)) fun b => qAj (qCy u (1013904242 * u + r.getD 2 0)) fun c => qAj (qCy u (2773480762 * u + r.getD 3 0)) fun d => g a b c d
attribute [local irreducible] rdsP schP SN.KN Sha.K
theorem qIW (N : Nat) (k : UInt32) (a : Nat → UInt32) : qCy (qBC N) (k.toNat * qBC N + pk N a) = pk N fun z => k + a z := by
 rw [qBS]
 unfold pk
 rw [qA1, qDn N (fun z => qTm (u32 _) (u32 _))]
 exact qAr fun z => SN.add_eq k (a z)
theorem qPR (b : List UInt8) : Sha.mix Sha.init b = Sha.init.add (SN.fold Sha.K (Sha.sched b) Sha.init) := by
 have := SN.fold_rnds (Sha.sched b) Sha.init (Sha.sched_length b) 64 0 rfl
 rw [List.drop_zero, List.drop_zero] at this
 unfold Sha.mix
 rw [← this]; rfl
theorem qM0 {α : Type} (M : List (List UInt8)) (g : Nat → Nat → Nat → Nat → α) : oneP (qBC M.length) ((List.range 16).map fun j => pk M.length (wd M j)) g =
    g (pk M.length fun z => (Sha.mix Sha.init (M.getD z [])).a) (pk M.length fun z => (Sha.mix Sha.init (M.getD z [])).b) (pk M.length fun z => (Sha.mix Sha.init (M.getD z [])).c) (pk M.length fun z => (Sha.mix Sha.init (M.getD z [])).d) := by
  unfold oneP
  have hs := qRX M.length 48 (wd M 0) (wd M 1) (wd M 2) (wd M 3) (wd M 4) (wd M 5) (wd M 6) (wd M 7) (wd M 8) (wd M 9) (wd M 10) (wd M 11) (wd M 12) (wd M 13) (wd M 14) (wd M 15)
  have hl := fun z => qPs z 48 [] (wd M 0) (wd M 1) (wd M 2) (wd M 3) (wd M 4) (wd M 5) (wd M 6) (wd M 7) (wd M 8) (wd M 9) (wd M 10) (wd M 11) (wd M 12) (wd M 13) (wd M 14) (wd M 15)
  obtain ⟨W, hW⟩ : ∃ W, W = qSz 48 (wd M 0) (wd M 1) (wd M 2) (wd M 3) (wd M 4) (wd M 5) (wd M 6) (wd M 7) (wd M 8) (wd M 9) (wd M 10) (wd M 11) (wd M 12) (wd M 13) (wd M 14) (wd M 15) := ⟨_, rfl⟩
  rw [← hW] at hs
  simp only [← hW] at hl
  have hl2 : ∀ z, W.map (fun w => w z) = Sha.sched (M.getD z []) := fun z => by
    have := hl z
    rw [List.nil_append, List.nil_append] at this
    rw [← this]; rfl
  have hlen : Sha.K.length = W.length := by
    have := congrArg List.length (hl2 0)
    rw [List.length_map, Sha.sched_length] at this
    rw [this]; exact K_len
  have hr := qRl M.length Sha.K W (fun _ => Sha.init) hlen
  have e : ∀ k : UInt32, (pk M.length fun _ => k) = k.toNat * qBC M.length := fun k => (qBS M.length k).symm
  have hf : ∀ z, qEV Sha.K W (fun _ => Sha.init) z = SN.fold Sha.K (Sha.sched (M.getD z [])) Sha.init := fun z => by
    unfold qEV; rw [hl2]
  simp only [hf, e] at hr
  rw [show (((List.range 16).map fun j => pk M.length (wd M j)).getD 0 0) = pk M.length (wd M 0) from rfl, show (((List.range 16).map fun j => pk M.length (wd M j)).getD 1 0) = pk M.length (wd M 1) from rfl, show (((List.range 16).map fun j => pk M.length (wd M j)).getD 2 0) = pk M.length (wd M 2) from rfl, show (((List.range 16).map fun j => pk M.length (wd M j)).getD 3 0) = pk M.length (wd M 3) from rfl, show (((List.range 16).map fun j => pk M.length (wd M j)).getD 4 0) = pk M.length (wd M 4) from rfl, show (((List.range 16).map fun j => pk M.length (wd M j)).getD 5 0) = pk M.length (wd M 5) from rfl, show (((List.range 16).map fun j => pk M.length (wd M j)).getD 6 0) = pk M.length (wd M 6) from rfl, show (((List.range 16).map fun j => pk M.length (wd M j)).getD 7 0) = pk M.length (wd M 7) from rfl, show (((List.range 16).map fun j => pk M.length (wd M j)).getD 8 0) = pk M.length (wd M 8) from rfl, show (((List.range 16).map fun j => pk M.length (wd M j)).getD 9 0) = pk M.length (wd M 9) from rfl, show (((List.range 16).map fun j => pk M.length (wd M j)).getD 10 0) = pk M.length (wd M 10) from rfl, show (((List.range 16).map fun j => pk M.length (wd M j)).getD 11 0) = pk M.length (wd M 11) from rfl, show (((List.range 16).map fun j => pk M.length (wd M j)).getD 12 0) = pk M.length (wd M 12) from rfl, show (((List.range 16).map fun j => pk M.length (wd M j)).getD 13 0) = pk M.length (wd M 13) from rfl, show (((List.range 16).map fun j => pk M.length (wd M j)).getD 14 0) = pk M.length (wd M 14) from rfl, show (((List.range 16).map fun j => pk M.length (wd M j)).getD 15 0) = pk M.length (wd M 15) from rfl, hs, SN.KN_eq]
  obtain ⟨S, hS⟩ : ∃ S : Nat → Sha.St8, S = fun z => SN.fold Sha.K (Sha.sched (M.getD z [])) Sha.init := ⟨_, rfl⟩
  have hSz : ∀ z, SN.fold Sha.K (Sha.sched (M.getD z [])) Sha.init = S z := fun z => by rw [hS]
  have hm : ∀ z, Sha.mix Sha.init (M.getD z []) = Sha.init.add (S z) := fun z => by rw [qPR, hSz]
  simp only [hSz] at hr
  simp only [hm]
  rw [show rdsP (qBC M.length) (Sha.K.map UInt32.toNat) (W.map (pk M.length)) (1779033703 * qBC M.length) (3144134277 * qBC M.length) (1013904242 * qBC M.length) (2773480762 * qBC M.length) (1359893119 * qBC M.length) (2600822924 * qBC M.length) (528734635 * qBC M.length) (1541459225 * qBC M.length) = _ from hr]
  rw [qAt, qAb, qAb, qAb, qAb]
  have h0 : qCy (qBC M.length) (1779033703 * qBC M.length + pk M.length fun z => (S z).a) = pk M.length fun z => Sha.init.a + (S z).a := qIW M.length Sha.init.a _
  have h1 : qCy (qBC M.length) (3144134277 * qBC M.length + pk M.length fun z => (S z).b) = pk M.length fun z => Sha.init.b + (S z).b := qIW M.length Sha.init.b _
  have h2 : qCy (qBC M.length) (1013904242 * qBC M.length + pk M.length fun z => (S z).c) = pk M.length fun z => Sha.init.c + (S z).c := qIW M.length Sha.init.c _
  have h3 : qCy (qBC M.length) (2773480762 * qBC M.length + pk M.length fun z => (S z).d) = pk M.length fun z => Sha.init.d + (S z).d := qIW M.length Sha.init.d _
  exact congr (congr (congr (congrArg g h0) h1) h2) h3
end SM
end Go.Proofs.YtfldiegfenndjaaGreatDoor
