/- A part of the proof: contracts of functions of the program, each for every state of the heaps that it names. -/
import Derived.Test.YtnkfapecbmmpeaaDoorTopSiG10
set_option linter.unusedSimpArgs false
set_option linter.unusedVariables false
namespace Go.Proofs.YtnkfapecbmmpeaaDoor
open Go Go.Fw
set_option maxRecDepth 100000
set_option maxHeartbeats 1000000
theorem ent128 : Enters Tryd.prog 128 := Enters.of Tryd.func128 rfl (by kernel_rfl)
theorem ent134 : Enters Tryd.prog 134 := Enters.of Tryd.func134 rfl (by kernel_rfl)
theorem ent135 : Enters Tryd.prog 135 := Enters.of Tryd.func135 rfl (by kernel_rfl)
theorem ent136 : Enters Tryd.prog 136 := Enters.of Tryd.func136 rfl (by kernel_rfl)
theorem ent137 : Enters Tryd.prog 137 := Enters.of Tryd.func137 rfl (by kernel_rfl)
theorem ent168 : Enters Tryd.prog 168 := Enters.of Tryd.func168 rfl (by kernel_rfl)
theorem ent171 : Enters Tryd.prog 171 := Enters.of Tryd.func171 rfl (by kernel_rfl)
theorem el3 : Elem Tryd.prog 3 [.int .i64 0] 8 := Elem.of (by kernel_rfl) rfl

namespace Wo
def place (leaf chain step : Nat) : List UInt8 := [UInt8.ofNat (leaf / 2 ^ 24), UInt8.ofNat (leaf / 2 ^ 16), UInt8.ofNat (leaf / 2 ^ 8), UInt8.ofNat leaf, UInt8.ofNat chain, UInt8.ofNat step]
def step (opn : List UInt8) (leaf chain k : Nat) (x : List UInt8) : List UInt8 := Sha.tagged 2 [opn, place leaf chain k, x]
/-- n steps from a on -/
def walk (opn : List UInt8) (leaf chain a : Nat) (x : List UInt8) : Nat → List UInt8
  | 0 => x
  | n + 1 => step opn leaf chain (a + n) (walk opn leaf chain a x n)
def secret (seed : List UInt8) (leaf chain : Nat) : List UInt8 := Sha.tagged 1 [seed, place leaf chain 0]
def opn (seed : List UInt8) : List UInt8 := Sha.tagged 3 [seed]
def nibs (s : List UInt8) : List Nat := s.flatMap fun b => [b.toNat / 16, b.toNat % 16]
def left (s : List UInt8) : Nat := (s.map fun b => 30 - b.toNat / 16 - b.toNat % 16).sum
def digs (s : List UInt8) : List Nat := nibs s ++ [left s / 256, left s / 16 % 16, left s % 16]
/-- the first k chains, each walked to its digit -/
def signs (seed : List UInt8) (leaf : Nat) (ds : List Nat) (k : Nat) : List (List UInt8) := (List.range k).map fun i => walk (opn seed) leaf i 0 (secret seed leaf i) (ds.getD i 0)
def ends (op : List UInt8) (leaf : Nat) (ds : List Nat) (sig : List (List UInt8)) (k : Nat) : List (List UInt8) := (List.range k).map fun i => walk op leaf i (ds.getD i 0) (sig.getD i []) (15 - ds.getD i 0)
def publicOf (op : List UInt8) (leaf : Nat) (e : List (List UInt8)) : List UInt8 := Sha.tagged 4 ([op, place leaf 0 0] ++ e)
def tops (seed : List UInt8) (leaf : Nat) (k : Nat) : List (List UInt8) := (List.range k).map fun i => walk (opn seed) leaf i 0 (secret seed leaf i) 15
def pub (seed : List UInt8) (leaf : Nat) : List UInt8 := publicOf (opn seed) leaf (tops seed leaf 35)
theorem step_length (a : List UInt8) (b c d : Nat) (x : List UInt8) : (step a b c d x).length = 16 := Sha.tagged_length _ _
theorem secret_length (a : List UInt8) (b c : Nat) : (secret a b c).length = 16 := Sha.tagged_length _ _
theorem opn_length (a : List UInt8) : (opn a).length = 16 := Sha.tagged_length _ _
theorem walk_small (o : List UInt8) (leaf chain a : Nat) (x : List UInt8) (h : x.length ≤ 1048576) : ∀ n, (walk o leaf chain a x n).length ≤ 1048576
  | 0 => h
  | n + 1 => by rw [walk, step_length]; decide
theorem walk_16 (o : List UInt8) (leaf chain a : Nat) (x : List UInt8) (h : x.length = 16) : ∀ n, (walk o leaf chain a x n).length = 16
  | 0 => h
  | n + 1 => step_length _ _ _ _ _
theorem walk_add (o : List UInt8) (leaf chain a : Nat) (x : List UInt8) (n : Nat) : ∀ m, walk o leaf chain (a + n) (walk o leaf chain a x n) m = walk o leaf chain a x (n + m)
  | 0 => rfl
  | m + 1 => by rw [walk, walk_add o leaf chain a x n m, ← Nat.add_assoc, walk, Nat.add_assoc]
theorem place_length (a b c : Nat) : (place a b c).length = 6 := rfl
theorem nibs_snoc (s : List UInt8) (k : Nat) (h : k < s.length) : nibs (s.take (k + 1)) = nibs (s.take k) ++ [(s.getD k 0).toNat / 16, (s.getD k 0).toNat % 16] := by
  unfold nibs
  rw [List.take_succ_eq_append_getElem h, List.flatMap_append, List.getD_eq_getElem?_getD, List.getElem?_eq_getElem h]; simp
theorem left_snoc (s : List UInt8) (k : Nat) (h : k < s.length) : left (s.take (k + 1)) = left (s.take k) + (30 - (s.getD k 0).toNat / 16 - (s.getD k 0).toNat % 16) := by
  unfold left
  rw [List.take_succ_eq_append_getElem h, List.map_append, List.sum_append, List.getD_eq_getElem?_getD, List.getElem?_eq_getElem h]; simp
theorem nibs_length (s : List UInt8) : (nibs s).length = 2 * s.length := by
  unfold nibs
  induction s with
  | nil => rfl
  | cons a l ih => rw [List.flatMap_cons, List.length_append, ih]; simp; omega
theorem left_le (s : List UInt8) : left s ≤ 30 * s.length := by
  unfold left
  induction s with
  | nil => simp
  | cons a l ih => rw [List.map_cons, List.sum_cons, List.length_cons]; omega
theorem digs_length (s : List UInt8) : (digs s).length = 2 * s.length + 3 := by unfold digs; rw [List.length_append, nibs_length]; rfl
theorem digs_le (s : List UInt8) (h : s.length ≤ 16) (i : Nat) : (digs s).getD i 0 ≤ 15 := by
  have hl := left_le s
  have : ∀ x ∈ digs s, x ≤ 15 := fun x hx => by
    unfold digs nibs at hx
    rcases List.mem_append.1 hx with hx | hx
    · obtain ⟨b, _, hb⟩ := List.mem_flatMap.1 hx
      have := b.toNat_lt
      simp only [List.mem_cons, List.not_mem_nil, or_false] at hb
      omega
    · simp only [List.mem_cons, List.not_mem_nil, or_false] at hx
      omega
  by_cases hi : i < (digs s).length
  · rw [List.getD_eq_getElem?_getD, List.getElem?_eq_getElem hi]; exact this _ (List.getElem_mem _)
  · rw [List.getD_eq_getElem?_getD, List.getElem?_eq_none (by omega)]; decide
theorem signs_succ (seed : List UInt8) (leaf : Nat) (ds : List Nat) (k : Nat) : signs seed leaf ds (k + 1) = signs seed leaf ds k ++ [walk (opn seed) leaf k 0 (secret seed leaf k) (ds.getD k 0)] := by simp [signs, List.range_succ]
theorem ends_succ (op : List UInt8) (leaf : Nat) (ds : List Nat) (sig : List (List UInt8)) (k : Nat) : ends op leaf ds sig (k + 1) = ends op leaf ds sig k ++ [walk op leaf k (ds.getD k 0) (sig.getD k []) (15 - ds.getD k 0)] := by simp [ends, List.range_succ]
theorem tops_succ (seed : List UInt8) (leaf : Nat) (k : Nat) : tops seed leaf (k + 1) = tops seed leaf k ++ [walk (opn seed) leaf k 0 (secret seed leaf k) 15] := by simp [tops, List.range_succ]
theorem signs_get (seed : List UInt8) (leaf : Nat) (ds : List Nat) (k i : Nat) (h : i < k) : (signs seed leaf ds k).getD i [] = walk (opn seed) leaf i 0 (secret seed leaf i) (ds.getD i 0) := by
  unfold signs
  rw [List.getD_eq_getElem?_getD, List.getElem?_map, List.getElem?_range h]; rfl
theorem tops_small (seed : List UInt8) (leaf : Nat) (k : Nat) : ∀ s ∈ tops seed leaf k, s.length ≤ 16 := fun s hs => by
  simp only [tops, List.mem_map] at hs
  obtain ⟨i, _, rfl⟩ := hs
  rw [walk_16 _ _ _ _ _ (secret_length _ _ _)]; exact Nat.le_refl _
theorem signs_16 (seed : List UInt8) (leaf : Nat) (ds : List Nat) (k : Nat) : ∀ s ∈ signs seed leaf ds k, s.length = 16 := fun s hs => by
  simp only [signs, List.mem_map] at hs
  obtain ⟨i, _, rfl⟩ := hs
  rw [walk_16 _ _ _ _ _ (secret_length _ _ _)]
theorem ends_small (op : List UInt8) (leaf : Nat) (ds : List Nat) (sig : List (List UInt8)) (k : Nat) (hg : ∀ s ∈ sig, s.length ≤ 16) : ∀ s ∈ ends op leaf ds sig k, s.length ≤ 1048576 := fun s hs => by
  simp only [ends, List.mem_map] at hs
  obtain ⟨i, _, rfl⟩ := hs
  refine walk_small _ _ _ _ _ ?_ _
  by_cases h0 : i < sig.length
  · rw [List.getD_eq_getElem?_getD, List.getElem?_eq_getElem h0]; exact Nat.le_trans (hg _ (List.getElem_mem _)) (by decide)
  · rw [List.getD_eq_getElem?_getD, List.getElem?_eq_none (by omega)]; decide
/-- what is signed is recovered -/
theorem recovers (seed : List UInt8) (leaf : Nat) (ds : List Nat) (hd : ∀ i, ds.getD i 0 ≤ 15) (k : Nat) : ends (opn seed) leaf ds (signs seed leaf ds k) k = tops seed leaf k := by
  unfold ends tops
  apply List.map_congr_left
  intro i hi
  rw [List.mem_range] at hi
  rw [signs_get _ _ _ _ _ hi]
  have h := walk_add (opn seed) leaf i 0 (secret seed leaf i) (ds.getD i 0) (15 - ds.getD i 0)
  rw [Nat.zero_add] at h
  have := hd i
  rw [h, show ds.getD i 0 + (15 - ds.getD i 0) = 15 by omega]
theorem lo_tab : ∀ b : Fin 256, (UInt8.ofNat b.val &&& 15).toNat = b.val % 16 ∧ (UInt8.ofNat (b.val / 2 ^ min 4 8)).toNat = b.val / 16 := by decide +kernel
theorem lo_eq (b : UInt8) : (b &&& 15).toNat = b.toNat % 16 ∧ (UInt8.ofNat (b.toNat / 2 ^ min 4 8)).toNat = b.toNat / 16 := by
  have h := lo_tab ⟨b.toNat, b.toNat_lt⟩
  simp only [UInt8.ofNat_toNat] at h
  exact h
end Wo

attribute [local irreducible] Sha.tagB Sha.tagged Wo.walk Wo.signs Wo.tops Wo.ends Wo.digs Wo.nibs Wo.left
theorem Wo.walk0 (o : List UInt8) (leaf chain a : Nat) (x : List UInt8) : Wo.walk o leaf chain a x 0 = x := by unfold Wo.walk; rfl
theorem Wo.walkS (o : List UInt8) (leaf chain a : Nat) (x : List UInt8) (n : Nat) : Wo.step o leaf chain (a + n) (Wo.walk o leaf chain a x n) = Wo.walk o leaf chain a x (n + 1) := by rw [Wo.walk]
theorem Wo.tops0 (a : List UInt8) (b : Nat) : Wo.tops a b 0 = [] := by unfold Wo.tops; rfl
theorem Wo.signs0 (a : List UInt8) (b : Nat) (d : List Nat) : Wo.signs a b d 0 = [] := by unfold Wo.signs; rfl
theorem Wo.ends0 (a : List UInt8) (b : Nat) (d : List Nat) (s : List (List UInt8)) : Wo.ends a b d s 0 = [] := by unfold Wo.ends; rfl
theorem Wo.nibs0 : Wo.nibs [] = [] := by unfold Wo.nibs; rfl
theorem Wo.left0 : Wo.left [] = 0 := by unfold Wo.left; rfl
theorem small3 {a b c : List UInt8} (h1 : a.length ≤ 1048576) (h2 : b.length ≤ 1048576) (h3 : c.length ≤ 1048576) : [a, b, c].flatten.length ≤ 3145728 := by simp; omega

theorem place_ct (F : Hp) (leaf chain stp : Nat) (h1 : leaf < 4611686018427387904) (h2 : chain < 4611686018427387904) (h3 : stp < 4611686018427387904) :
    Ct Tryd.prog 171 [I leaf, I chain, I stp] [F] (fun _ : Unit => Str (Wo.place leaf chain stp)) (fun _ => True) (fun _ => [F]) := by
  refine Ct.walk Tryd.func171 rfl Tryd.ntmps171 rfl (fun w0 hw0 => ?_)
  change J _ [(0, _), (1, _), (2, _)] _ _ _
  refine J.seq (fun K1 hK1 => ?_)
  refine J.region ?_
  refine J.y (op_assign rfl rfl) rfl rfl rfl ?_
  refine J.nil ?_
  refine J.then_n (J.k hK1 ?_)
  refine J.keepE [(0, _), (1, _), (2, _)] ⟨rfl, rfl, rfl, trivial⟩ ?_
  refine J.seq (fun K2 hK2 => ?_)
  refine J.region ?_
  refine J.y (op_move rfl rfl) rfl rfl rfl ?_
  refine J.y ((op_shrI (m := 24) rfl rfl rfl ⟨by decide, by omega⟩).as (v' := I ((leaf / 2 ^ 24 : Nat) : Int)) (congrArg I (by simp))) rfl rfl rfl ?_
  refine J.y (op_cv_i64_u8 rfl rfl Tryd.underlying3 Tryd.underlying5) rfl rfl rfl ?_
  refine J.y (op_move rfl rfl) rfl rfl rfl ?_
  refine J.y ((op_shrI (m := 16) rfl rfl rfl ⟨by decide, by omega⟩).as (v' := I ((leaf / 2 ^ 16 : Nat) : Int)) (congrArg I (by simp))) rfl rfl rfl ?_
  refine J.y (op_cv_i64_u8 rfl rfl Tryd.underlying3 Tryd.underlying5) rfl rfl rfl ?_
  refine J.y (op_move rfl rfl) rfl rfl rfl ?_
  refine J.y ((op_shrI (m := 8) rfl rfl rfl ⟨by decide, by omega⟩).as (v' := I ((leaf / 2 ^ 8 : Nat) : Int)) (congrArg I (by simp))) rfl rfl rfl ?_
  refine J.y (op_cv_i64_u8 rfl rfl Tryd.underlying3 Tryd.underlying5) rfl rfl rfl ?_
  refine J.y (op_move rfl rfl) rfl rfl rfl ?_
  refine J.y (op_cv_i64_u8 rfl rfl Tryd.underlying3 Tryd.underlying5) rfl rfl rfl ?_
  refine J.y (op_move rfl rfl) rfl rfl rfl ?_
  refine J.y (op_cv_i64_u8 rfl rfl Tryd.underlying3 Tryd.underlying5) rfl rfl rfl ?_
  refine J.y (op_move rfl rfl) rfl rfl rfl ?_
  refine J.y (op_cv_i64_u8 rfl rfl Tryd.underlying3 Tryd.underlying5) rfl rfl rfl ?_
  refine J.e (op_buildSlice (l := [.tmp 9, .tmp 12, .tmp 15, .tmp 17, .tmp 19, .tmp 21]) (xs := [[B8 (UInt8.ofNat (leaf / 2 ^ 24))], [B8 (UInt8.ofNat (leaf / 2 ^ 16))], [B8 (UInt8.ofNat (leaf / 2 ^ 8))], [B8 (UInt8.ofNat leaf)], [B8 (UInt8.ofNat chain)], [B8 (UInt8.ofNat stp)]]) rfl rfl rfl rfl Tryd.underlying30 el5 rfl (by decide) (by decide) (by simp)) rfl rfl rfl ?_
  intro g22 _
  change J _ _ _ [F, blk g22 [B8 (UInt8.ofNat (leaf / 2 ^ 24)), B8 (UInt8.ofNat (leaf / 2 ^ 16)), B8 (UInt8.ofNat (leaf / 2 ^ 8)), B8 (UInt8.ofNat leaf), B8 (UInt8.ofNat chain), B8 (UInt8.ofNat stp)] 5] _
  refine J.y (op_toStr (l := Wo.place leaf chain stp) rfl rfl Tryd.underlying30 Tryd.underlying5 Tryd.underlying9 (m := blk g22 [B8 (UInt8.ofNat (leaf / 2 ^ 24)), B8 (UInt8.ofNat (leaf / 2 ^ 16)), B8 (UInt8.ofNat (leaf / 2 ^ 8)), B8 (UInt8.ofNat leaf), B8 (UInt8.ofNat chain), B8 (UInt8.ofNat stp)] 5) (by simp) (slB (Wo.place leaf chain stp) rfl)) rfl rfl rfl ?_
  refine J.y (op_assign rfl rfl) rfl rfl rfl ?_
  refine J.nil ?_
  refine J.then_n (J.k hK2 ?_)
  refine J.keepE [(6, _)] ⟨rfl, trivial⟩ ?_
  refine J.ret ?_
  exact J.done hw0 (fun _ _ h => h) (res1 rfl rfl) (retOk () rfl trivial [0] rfl (by decide))

theorem wopen_ct (F : Hp) (hK : Cells F ⟨1, 0, none⟩ (Sha.K.map W32)) (seed : List UInt8) (hs : seed.length ≤ 1048576) : Ct Tryd.prog 128 [Str seed] [F] (fun _ : Unit => Str (Wo.opn seed)) (fun _ => True) (fun _ => [F]) := by
  refine Ct.walk Tryd.func128 rfl Tryd.ntmps128 rfl (fun w0 hw0 => ?_)
  change J _ [(0, _)] _ _ _
  refine J.seq (fun K1 hK1 => ?_)
  refine J.region ?_
  refine J.y (op_assign rfl rfl) rfl rfl rfl ?_
  refine J.nil ?_
  refine J.then_n (J.k hK1 ?_)
  refine J.keepE [(0, _)] ⟨rfl, trivial⟩ ?_
  refine J.seq (fun K2 hK2 => ?_)
  refine J.region ?_
  refine J.y (op_move rfl rfl) rfl rfl rfl ?_
  refine J.e (op_buildSlice (l := [.tmp 3]) (xs := [[Str (seed)]]) rfl rfl rfl rfl Tryd.underlying55 el9 rfl (by decide) (by decide) (by simp)) rfl rfl rfl ?_
  intro g4 _
  change J _ _ _ [F, blk g4 [Str (seed)] 9] _
  refine J.e (op_call rfl rfl ent58 (Ct.use0 (fun F' hF => tagged_ct F' (hK.mono (hF _ (by simp))) 3 (some ⟨g4, 0, none⟩) 1 1 [seed] ((slS [seed] rfl).mono (hF (blk g4 (([seed] : List (List UInt8)).map fun s => Str s) 9) (by simp))) (by simp [Wo.place_length]; omega) (by decide)))) rfl rfl rfl ?_
  intro g5 _
  refine J.y (op_assign rfl rfl) rfl rfl rfl ?_
  refine J.nil ?_
  refine J.then_n (J.k hK2 ?_)
  refine J.keepE [(2, _)] ⟨rfl, trivial⟩ ?_
  refine J.ret ?_
  exact J.done hw0 (fun _ _ h => h) (res1 rfl rfl) (retOk () rfl trivial [0] rfl (by decide))

theorem walk_ct (F : Hp) (hK : Cells F ⟨1, 0, none⟩ (Sha.K.map W32)) (o : List UInt8) (leaf chain : Nat) (ho : o.length ≤ 1048576) (h1 : leaf < 4611686018427387904) (h2 : chain < 4611686018427387904) (x : List UInt8) (hx : x.length ≤ 1048576) (from' to' : Int) (a n : Nat) (ha : (a : Int) = max from' 0) (ha2 : a < 4611686018427387904) (hn : (n : Int) = max (min to' 15 - a) 0) :
    Ct Tryd.prog 136 [Str o, I leaf, I chain, I from', I to', Str x] [F] (fun _ : Unit => Str (Wo.walk o leaf chain a x n)) (fun _ => True) (fun _ => [F]) := by
  refine Ct.walk Tryd.func136 rfl Tryd.ntmps136 rfl (fun w0 hw0 => ?_)
  change J _ [(0, _), (1, _), (2, _), (3, _), (4, _), (5, _)] _ _ _
  refine J.seq (fun K1 hK1 => ?_)
  refine J.region ?_
  refine J.y (op_assign rfl rfl) rfl rfl rfl ?_
  refine J.nil ?_
  refine J.then_n (J.k hK1 ?_)
  refine J.keepE [(0, _), (1, _), (2, _), (3, _), (4, _), (5, _)] ⟨rfl, rfl, rfl, rfl, rfl, rfl, trivial⟩ ?_
  refine J.seq (fun K2 hK2 => ?_)
  refine J.seq (fun K3 hK3 => ?_)
  refine J.region ?_
  refine J.y (op_move rfl rfl) rfl rfl rfl ?_
  refine J.y ((op_max rfl rfl rfl).as (v' := I ((a + 0 : Nat) : Int)) (congrArg I (by omega))) rfl rfl rfl ?_
  refine J.y (op_assign rfl rfl) rfl rfl rfl ?_
  refine J.nil ?_
  refine J.then_n (J.k hK3 ?_)
  refine J.keepE [(0, _), (1, _), (2, _), (4, _), (5, _), (13, _)] ⟨rfl, rfl, rfl, rfl, rfl, rfl, trivial⟩ ?_
  refine J.block ?_
  refine J.loop (fun k : Nat => [(0, Str o), (1, I leaf), (2, I chain), (4, I to'), (5, Str (Wo.walk o leaf chain a x k)), (13, I ((a + k : Nat) : Int))]) (fun _ => [F]) (fun k => k ≤ n) (fun k => n - k) 0 (Nat.zero_le _) ⟨rfl, rfl, rfl, rfl, by rw [Wo.walk0]; rfl, rfl, trivial⟩ (fun _ h => h) ?_
  intro k hk I0 hI0
  have hw := Wo.walk_small o leaf chain a x hx k
  refine J.seq (fun K4 hK4 => ?_)
  refine J.seq (fun K5 hK5 => ?_)
  refine J.region ?_
  refine J.y (op_move rfl rfl) rfl rfl rfl ?_
  refine J.y (op_move rfl rfl) rfl rfl rfl ?_
  refine J.y (op_min rfl rfl rfl) rfl rfl rfl ?_
  refine J.y (op_lss rfl rfl rfl) rfl rfl rfl ?_
  refine J.nil ?_
  refine J.then_n (J.k hK5 ?_)
  refine J.keepE [(0, _), (1, _), (2, _), (4, _), (5, _), (13, _), (19, _)] ⟨rfl, rfl, rfl, rfl, rfl, rfl, rfl, trivial⟩ ?_
  refine J.ite rfl (fun h19 => ?_) (fun h19 => ?_)
  ·
    refine J.skip ?_
    refine J.then_n (J.k hK4 ?_)
    refine J.keepE [(0, _), (1, _), (2, _), (4, _), (5, _), (13, _)] ⟨rfl, rfl, rfl, rfl, rfl, rfl, trivial⟩ ?_
    refine J.seq (fun K6 hK6 => ?_)
    refine J.block ?_
    refine J.region ?_
    refine J.y (op_move rfl rfl) rfl rfl rfl ?_
    refine J.y (op_move rfl rfl) rfl rfl rfl ?_
    refine J.y (op_move rfl rfl) rfl rfl rfl ?_
    refine J.y (op_move rfl rfl) rfl rfl rfl ?_
    refine J.e (op_call rfl rfl ent171 (place_ct F leaf chain (a + k) h1 h2 (by omega))) rfl rfl rfl ?_
    intro g26 _
    refine J.y (op_move rfl rfl) rfl rfl rfl ?_
    refine J.e (op_buildSlice (l := [.tmp 22, .tmp 26, .tmp 27]) (xs := [[Str (o)], [Str (Wo.place leaf chain (a + k))], [Str ((Wo.walk o leaf chain a x k))]]) rfl rfl rfl rfl Tryd.underlying55 el9 rfl (by decide) (by decide) (by simp)) rfl rfl rfl ?_
    intro g28 _
    change J _ _ _ [F, blk g28 [Str (o), Str (Wo.place leaf chain (a + k)), Str ((Wo.walk o leaf chain a x k))] 9] _
    refine J.e (op_call rfl rfl ent58 (Ct.use0 (fun F' hF => tagged_ct F' (hK.mono (hF _ (by simp))) 2 (some ⟨g28, 0, none⟩) 3 3 [o, Wo.place leaf chain (a + k), (Wo.walk o leaf chain a x k)] ((slS [o, Wo.place leaf chain (a + k), (Wo.walk o leaf chain a x k)] rfl).mono (hF (blk g28 (([o, Wo.place leaf chain (a + k), (Wo.walk o leaf chain a x k)] : List (List UInt8)).map fun s => Str s) 9) (by simp))) (by have := small3 ho (show (Wo.place leaf chain (a + k)).length ≤ 1048576 by rw [Wo.place_length]; decide) hw; omega) (by decide)))) rfl rfl rfl ?_
    intro g29 _
    refine J.y (op_assign rfl rfl) rfl rfl rfl ?_
    refine J.nil ?_
    refine J.blk_n ?_
    refine J.then_n (J.k hK6 ?_)
    refine J.keepE [(0, _), (1, _), (2, _), (4, _), (5, _), (13, _)] ⟨rfl, rfl, rfl, rfl, rfl, rfl, trivial⟩ ?_
    refine J.perm [0] [F] rfl (by decide) ?_
    refine J.region ?_
    refine J.y (op_move rfl rfl) rfl rfl rfl ?_
    refine J.y ((op_add rfl rfl rfl (by first | omega | (refine ⟨?_, ?_⟩ <;> omega))).as (v' := I ((a + (k + 1) : Nat) : Int)) (congrArg I (by omega))) rfl rfl rfl ?_
    refine J.y (op_assign rfl rfl) rfl rfl rfl ?_
    refine J.nil ?_
    refine J.then_n ?_
    exact J.kk (k + 1) (fun x (hx : x ≤ n ∧ n - x < n - k) => hI0 x hx.1 hx.2) ⟨by omega, by omega⟩ ⟨rfl, rfl, rfl, rfl, by rw [← Wo.walkS]; rfl, rfl, trivial⟩ (fun _ h => h)
  ·
    refine J.exit ?_
    refine J.then_x ?_
    refine J.then_x ?_
    refine J.blk_eq ?_
    refine J.then_n (J.k hK2 ?_)
    refine J.keepE [(5, _)] ⟨rfl, trivial⟩ ?_
    refine J.seq (fun K7 hK7 => ?_)
    have hkn : n = k := by omega
    subst hkn
    refine J.region ?_
    refine J.y (op_move rfl rfl) rfl rfl rfl ?_
    refine J.y (op_assign rfl rfl) rfl rfl rfl ?_
    refine J.nil ?_
    refine J.then_n (J.k hK7 ?_)
    refine J.keepE [(12, _)] ⟨rfl, trivial⟩ ?_
    refine J.ret ?_
    exact J.done hw0 (fun _ _ h => h) (res1 rfl rfl) (retOk () rfl trivial [0] rfl (by decide))

theorem wsecret_ct (F : Hp) (hK : Cells F ⟨1, 0, none⟩ (Sha.K.map W32)) (seed : List UInt8) (leaf chain : Nat) (hs : seed.length ≤ 1048576) (h1 : leaf < 4611686018427387904) (h2 : chain < 4611686018427387904) :
    Ct Tryd.prog 168 [Str seed, I leaf, I chain] [F] (fun _ : Unit => Str (Wo.secret seed leaf chain)) (fun _ => True) (fun _ => [F]) := by
  refine Ct.walk Tryd.func168 rfl Tryd.ntmps168 rfl (fun w0 hw0 => ?_)
  change J _ [(0, _), (1, _), (2, _)] _ _ _
  refine J.seq (fun K1 hK1 => ?_)
  refine J.region ?_
  refine J.y (op_assign rfl rfl) rfl rfl rfl ?_
  refine J.nil ?_
  refine J.then_n (J.k hK1 ?_)
  refine J.keepE [(0, _), (1, _), (2, _)] ⟨rfl, rfl, rfl, trivial⟩ ?_
  refine J.seq (fun K2 hK2 => ?_)
  refine J.region ?_
  refine J.y (op_move rfl rfl) rfl rfl rfl ?_
  refine J.y (op_move rfl rfl) rfl rfl rfl ?_
  refine J.y (op_move rfl rfl) rfl rfl rfl ?_
  refine J.e (op_call rfl rfl ent171 (place_ct F leaf chain 0 h1 h2 (by decide))) rfl rfl rfl ?_
  intro g10 _
  refine J.e (op_buildSlice (l := [.tmp 7, .tmp 10]) (xs := [[Str (seed)], [Str (Wo.place leaf chain 0)]]) rfl rfl rfl rfl Tryd.underlying55 el9 rfl (by decide) (by decide) (by simp)) rfl rfl rfl ?_
  intro g11 _
  change J _ _ _ [F, blk g11 [Str (seed), Str (Wo.place leaf chain 0)] 9] _
  refine J.e (op_call rfl rfl ent58 (Ct.use0 (fun F' hF => tagged_ct F' (hK.mono (hF _ (by simp))) 1 (some ⟨g11, 0, none⟩) 2 2 [seed, Wo.place leaf chain 0] ((slS [seed, Wo.place leaf chain 0] rfl).mono (hF (blk g11 (([seed, Wo.place leaf chain 0] : List (List UInt8)).map fun s => Str s) 9) (by simp))) (by simp [Wo.place_length]; omega) (by decide)))) rfl rfl rfl ?_
  intro g12 _
  refine J.y (op_assign rfl rfl) rfl rfl rfl ?_
  refine J.nil ?_
  refine J.then_n (J.k hK2 ?_)
  refine J.keepE [(6, _)] ⟨rfl, trivial⟩ ?_
  refine J.ret ?_
  exact J.done hw0 (fun _ _ h => h) (res1 rfl rfl) (retOk () rfl trivial [0] rfl (by decide))

theorem wpublic_ct (F : Hp) (hK : Cells F ⟨1, 0, none⟩ (Sha.K.map W32)) (o : List UInt8) (leaf : Nat) (ho : o.length ≤ 1048576) (h1 : leaf < 4611686018427387904) (A : Option Addr) (n c : Nat) (e : List (List UInt8)) (he : Sl F 1 A n c (strsV e)) (hsm : ∀ s ∈ e, s.length ≤ 1048576) (hn : n ≤ 1024) :
    Ct Tryd.prog 137 [Str o, I leaf, .slice A n c] [F] (fun _ : Unit => Str (Wo.publicOf o leaf e)) (fun _ => True) (fun _ => [F]) := by
  have hlen : e.length = n := by have := he.1; simpa [strsV] using this
  have hfl := Mk.flat_small hsm
  rw [hlen] at hfl
  refine Ct.walk Tryd.func137 rfl Tryd.ntmps137 rfl (fun w0 hw0 => ?_)
  change J _ [(0, _), (1, _), (2, _)] _ _ _
  refine J.seq (fun K1 hK1 => ?_)
  refine J.region ?_
  refine J.y (op_assign rfl rfl) rfl rfl rfl ?_
  refine J.nil ?_
  refine J.then_n (J.k hK1 ?_)
  refine J.keepE [(0, _), (1, _), (2, _)] ⟨rfl, rfl, rfl, trivial⟩ ?_
  refine J.seq (fun K2 hK2 => ?_)
  refine J.region ?_
  refine J.y (op_move rfl rfl) rfl rfl rfl ?_
  refine J.y (op_move rfl rfl) rfl rfl rfl ?_
  refine J.e (op_call rfl rfl ent171 (place_ct F leaf 0 0 h1 (by decide) (by decide))) rfl rfl rfl ?_
  intro g9 _
  refine J.e (op_buildSlice (l := [.tmp 7, .tmp 9]) (xs := [[Str (o)], [Str (Wo.place leaf 0 0)]]) rfl rfl rfl rfl Tryd.underlying55 el9 rfl (by decide) (by decide) (by simp)) rfl rfl rfl ?_
  intro g10 _
  change J _ _ _ [F, blk g10 [Str (o), Str (Wo.place leaf 0 0)] 9] _
  refine J.y (op_move rfl rfl) rfl rfl rfl ?_
  refine J.e (op_append (i := 1) (m2 := F) (ys := strsV e) rfl rfl rfl Tryd.underlying55 Tryd.underlying55 el9 rfl (row_lit (q := True) (strsV [o, Wo.place leaf 0 0]) (n := 2) rfl (by simp [strsV]) rfl) (by simp) he (one_strs _) (by omega) (by omega)) rfl rfl rfl ?_
  rintro ⟨A12, c12, m12⟩ h12
  try dsimp only at h12
  change J _ ((12, .slice A12 (2 + n) c12) :: _) _ [F, m12] _
  rw [← strsV_app] at h12
  refine J.e (op_call rfl rfl ent58 (Ct.use0 (fun F' hF => tagged_ct F' (hK.mono (hF _ (by simp))) 4 A12 (2 + n) c12 ([o, Wo.place leaf 0 0] ++ e) (h12.sl.mono (hF _ (by simp))) (by simp only [List.flatten_append, List.length_append, List.flatten_cons, List.flatten_nil, Wo.place_length, List.length_nil]; omega) (by omega)))) rfl rfl rfl ?_
  intro g13 _
  refine J.y (op_assign rfl rfl) rfl rfl rfl ?_
  refine J.nil ?_
  refine J.then_n (J.k hK2 ?_)
  refine J.keepE [(6, _)] ⟨rfl, trivial⟩ ?_
  refine J.ret ?_
  exact J.done hw0 (fun _ _ h => h) (res1 rfl rfl) (retOk () rfl trivial [0] rfl (by decide))

theorem wpub_ct (F : Hp) (hK : Cells F ⟨1, 0, none⟩ (Sha.K.map W32)) (seed : List UInt8) (leaf : Nat) (hs : seed.length ≤ 1048576) (h1 : leaf < 4611686018427387904) :
    Ct Tryd.prog 126 [Str seed, I leaf] [F] (fun _ : Unit => Str (Wo.pub seed leaf)) (fun _ => True) (fun _ => [F]) := by
  refine Ct.walk Tryd.func126 rfl Tryd.ntmps126 rfl (fun w0 hw0 => ?_)
  change J _ [(0, _), (1, _)] _ _ _
  refine J.seq (fun K1 hK1 => ?_)
  refine J.region ?_
  refine J.y (op_assign rfl rfl) rfl rfl rfl ?_
  refine J.nil ?_
  refine J.then_n (J.k hK1 ?_)
  refine J.keepE [(0, _), (1, _)] ⟨rfl, rfl, trivial⟩ ?_
  refine J.seq (fun K2 hK2 => ?_)
  refine J.region ?_
  refine J.y (op_move rfl rfl) rfl rfl rfl ?_
  refine J.e (op_call rfl rfl ent128 (wopen_ct F hK seed hs)) rfl rfl rfl ?_
  intro g9 _
  refine J.y (op_assign rfl rfl) rfl rfl rfl ?_
  refine J.nil ?_
  refine J.then_n (J.k hK2 ?_)
  refine J.keepE [(0, _), (1, _), (5, _)] ⟨rfl, rfl, rfl, trivial⟩ ?_
  refine J.seq (fun K3 hK3 => ?_)
  refine J.region ?_
  refine J.y (op_assign rfl rfl) rfl rfl rfl ?_
  refine J.nil ?_
  refine J.then_n (J.k hK3 ?_)
  refine J.keepE [(0, _), (1, _), (5, _), (6, _)] ⟨rfl, rfl, rfl, rfl, trivial⟩ ?_
  refine J.seq (fun K4 hK4 => ?_)
  refine J.seq (fun K5 hK5 => ?_)
  refine J.addEmpty [0, 1] [F, (fun _ => none)] rfl (by decide) ?_
  refine J.region ?_
  refine J.y (op_move rfl rfl) rfl rfl rfl ?_
  refine J.nil ?_
  refine J.then_n (J.k hK5 ?_)
  refine J.keepE [(0, _), (1, _), (5, _), (6, _), (10, _)] ⟨rfl, rfl, rfl, rfl, rfl, trivial⟩ ?_
  refine J.block ?_
  refine J.loop (X := Nat × Option Addr × Nat × Hp) (fun x => [(0, Str seed), (1, I leaf), (5, Str (Wo.opn seed)), (6, .slice x.2.1 x.1 x.2.2.1), (10, I x.1)]) (fun x => [F, x.2.2.2]) (fun x => x.1 ≤ 35 ∧ Row x.2.2.2 9 1 x.2.1 x.1 x.2.2.1 (strsV (Wo.tops seed leaf x.1))) (fun x => 35 - x.1) (0, none, 0, fun _ => none) (⟨Nat.zero_le _, by rw [Wo.tops0]; exact RowQ.nil⟩) ⟨rfl, rfl, rfl, rfl, rfl, trivial⟩ (fun _ h => h) ?_
  rintro ⟨k, A6, c6, m⟩ ⟨hk, hrow⟩ I0 hI0
  dsimp only at hk hrow ⊢
  refine J.seq (fun K6 hK6 => ?_)
  refine J.region ?_
  refine J.y (op_lss rfl rfl rfl) rfl rfl rfl ?_
  refine J.nil ?_
  refine J.then_n (J.k hK6 ?_)
  refine J.keepE [(0, _), (1, _), (5, _), (6, _), (10, _), (11, _)] ⟨rfl, rfl, rfl, rfl, rfl, rfl, trivial⟩ ?_
  refine J.seq (fun K7 hK7 => ?_)
  refine J.ite rfl (fun h11 => ?_) (fun h11 => ?_)
  ·
    refine J.skip ?_
    refine J.then_n (J.k hK7 ?_)
    refine J.keepE [(0, _), (1, _), (5, _), (6, _), (10, _)] ⟨rfl, rfl, rfl, rfl, rfl, trivial⟩ ?_
    refine J.seq (fun K8 hK8 => ?_)
    refine J.block ?_
    refine J.seq (fun K9 hK9 => ?_)
    refine J.region ?_
    refine J.y (op_move rfl rfl) rfl rfl rfl ?_
    refine J.y (op_assign rfl rfl) rfl rfl rfl ?_
    refine J.nil ?_
    refine J.then_n (J.k hK9 ?_)
    refine J.keepE [(0, _), (1, _), (5, _), (6, _), (7, _), (10, _)] ⟨rfl, rfl, rfl, rfl, rfl, rfl, trivial⟩ ?_
    refine J.region ?_
    refine J.y (op_move rfl rfl) rfl rfl rfl ?_
    refine J.y (op_move rfl rfl) rfl rfl rfl ?_
    refine J.y (op_move rfl rfl) rfl rfl rfl ?_
    refine J.y (op_move rfl rfl) rfl rfl rfl ?_
    refine J.y (op_move rfl rfl) rfl rfl rfl ?_
    refine J.y (op_move rfl rfl) rfl rfl rfl ?_
    refine J.y (op_move rfl rfl) rfl rfl rfl ?_
    refine J.e (op_call rfl rfl ent168 (Ct.use0 (fun F' hF => wsecret_ct F' (hK.mono (hF _ (by simp))) seed leaf k hs h1 (by omega)))) rfl rfl rfl ?_
    intro g20 _
    refine J.e (op_call rfl rfl ent136 (Ct.use0 (fun F' hF => walk_ct F' (hK.mono (hF _ (by simp))) (Wo.opn seed) leaf k (by rw [Wo.opn_length]; decide) h1 (by omega) (Wo.secret seed leaf k) (by rw [Wo.secret_length]; decide) 0 15 0 15 (by omega) (by omega) (by omega)))) rfl rfl rfl ?_
    intro g21 _
    refine J.e (op_buildSlice (l := [.tmp 21]) (xs := [[Str ((Wo.walk (Wo.opn seed) leaf k 0 (Wo.secret seed leaf k) 15))]]) rfl rfl rfl rfl Tryd.underlying55 el9 rfl (by decide) (by decide) (by simp)) rfl rfl rfl ?_
    intro g22 _
    change J _ _ _ [F, m, blk g22 [Str ((Wo.walk (Wo.opn seed) leaf k 0 (Wo.secret seed leaf k) 15))] 9] _
    refine J.e (op_append (i := 1) (m2 := blk g22 [Str (Wo.walk (Wo.opn seed) leaf k 0 (Wo.secret seed leaf k) 15)] 9) (ys := strsV [(Wo.walk (Wo.opn seed) leaf k 0 (Wo.secret seed leaf k) 15)]) rfl rfl rfl Tryd.underlying55 Tryd.underlying55 el9 rfl hrow (by simp) (row_blk (q := True) (xs := strsV [(Wo.walk (Wo.opn seed) leaf k 0 (Wo.secret seed leaf k) 15)]) rfl (by simp [strsV])).sl (one_strs _) (by omega) (by omega)) rfl rfl rfl ?_
    rintro ⟨A23, c23, m23⟩ h23
    try dsimp only at h23
    change J _ ((23, .slice A23 (k + 1) c23) :: _) _ [F, m23, blk g22 [Str (Wo.walk (Wo.opn seed) leaf k 0 (Wo.secret seed leaf k) 15)] 9] _
    rw [← strsV_app, ← Wo.tops_succ] at h23
    refine J.perm [0, 1] [F, m23] rfl (by decide) ?_
    refine J.y (op_assign rfl rfl) rfl rfl rfl ?_
    refine J.nil ?_
    refine J.blk_n ?_
    refine J.then_n (J.k hK8 ?_)
    refine J.keepE [(0, _), (1, _), (5, _), (6, _), (10, _)] ⟨rfl, rfl, rfl, rfl, rfl, trivial⟩ ?_
    refine J.region ?_
    refine J.y ((op_add rfl rfl rfl (by first | omega | (refine ⟨?_, ?_⟩ <;> omega))).as (v' := I ((k + 1 : Nat) : Int)) (congrArg I (by omega))) rfl rfl rfl ?_
    refine J.y (op_move rfl rfl) rfl rfl rfl ?_
    refine J.nil ?_
    refine J.then_n ?_
    exact J.kk (k + 1, A23, c23, m23) (fun x (hx : _ ∧ 35 - x.1 < 35 - k) => hI0 x hx.1 hx.2) ⟨⟨by dsimp only; omega, h23⟩, by dsimp only; omega⟩ ⟨rfl, rfl, rfl, rfl, rfl, trivial⟩ (fun _ h => h)
  ·
    refine J.exit ?_
    refine J.then_x ?_
    refine J.then_x ?_
    refine J.blk_eq ?_
    refine J.then_n (J.k hK4 ?_)
    refine J.keepE [(1, _), (5, _), (6, _)] ⟨rfl, rfl, rfl, trivial⟩ ?_
    refine J.seq (fun K10 hK10 => ?_)
    have hk35 : k = 35 := by omega
    subst hk35
    refine J.region ?_
    refine J.y (op_move rfl rfl) rfl rfl rfl ?_
    refine J.y (op_move rfl rfl) rfl rfl rfl ?_
    refine J.y (op_move rfl rfl) rfl rfl rfl ?_
    refine J.e (op_call rfl rfl ent137 (Ct.use0 (fun F' hF => wpublic_ct F' (hK.mono (hF _ (by simp))) (Wo.opn seed) leaf (by rw [Wo.opn_length]; decide) h1 A6 35 c6 (Wo.tops seed leaf 35) (hrow.sl.mono (hF _ (by simp))) (fun s hs => Nat.le_trans (Wo.tops_small seed leaf 35 s hs) (by decide)) (by decide)))) rfl rfl rfl ?_
    intro g28 _
    refine J.y (op_assign rfl rfl) rfl rfl rfl ?_
    refine J.nil ?_
    refine J.then_n (J.k hK10 ?_)
    refine J.keepE [(4, _)] ⟨rfl, trivial⟩ ?_
    refine J.ret ?_
    exact J.done hw0 (fun _ _ h => h) (res1 rfl rfl) (retOk () rfl trivial [0] rfl (by decide))

theorem digitsOf_ct (F : Hp) (s : List UInt8) (hs : s.length = 16) :
    Ct Tryd.prog 134 [Str s] [F] (fun x : Option Addr × Nat × Hp => .tuple #[.slice x.1 35 x.2.1, I 0]) (fun x => Row x.2.2 3 1 x.1 35 x.2.1 (natsV (Wo.digs s))) (fun x => [F, x.2.2]) := by
  have hll := Wo.left_le s
  refine Ct.walk Tryd.func134 rfl Tryd.ntmps134 rfl (fun w0 hw0 => ?_)
  change J _ [(0, _)] _ _ _
  refine J.seq (fun K1 hK1 => ?_)
  refine J.region ?_
  refine J.y (op_assign rfl rfl) rfl rfl rfl ?_
  refine J.y (op_assign rfl rfl) rfl rfl rfl ?_
  refine J.nil ?_
  refine J.then_n (J.k hK1 ?_)
  refine J.keepE [(0, _)] ⟨rfl, trivial⟩ ?_
  refine J.seq (fun K2 hK2 => ?_)
  refine J.seq (fun K3 hK3 => ?_)
  refine J.region ?_
  refine J.y (op_move rfl rfl) rfl rfl rfl ?_
  refine J.y (op_slen Tryd.underlying9 rfl rfl) rfl rfl rfl ?_
  refine J.y ((op_neq rfl rfl rfl).as (v' := .bool false) (congrArg Value.bool (decide_eq_false (by omega)))) rfl rfl rfl ?_
  refine J.nil ?_
  refine J.then_n (J.k hK3 ?_)
  refine J.keepE [(0, _), (12, _)] ⟨rfl, rfl, trivial⟩ ?_
  refine J.condF rfl rfl ?_
  refine J.skip ?_
  refine J.then_n (J.k hK2 ?_)
  refine J.keepE [(0, _)] ⟨rfl, trivial⟩ ?_
  refine J.seq (fun K4 hK4 => ?_)
  refine J.region ?_
  refine J.y (op_assign rfl rfl) rfl rfl rfl ?_
  refine J.nil ?_
  refine J.then_n (J.k hK4 ?_)
  refine J.keepE [(0, _), (4, _)] ⟨rfl, rfl, trivial⟩ ?_
  refine J.seq (fun K5 hK5 => ?_)
  refine J.addEmpty [0, 1] [F, (fun _ => none)] rfl (by decide) ?_
  refine J.region ?_
  refine J.y (op_assign rfl rfl) rfl rfl rfl ?_
  refine J.nil ?_
  refine J.then_n (J.k hK5 ?_)
  refine J.keepE [(0, _), (4, _), (5, _)] ⟨rfl, rfl, rfl, trivial⟩ ?_
  refine J.seq (fun K6 hK6 => ?_)
  refine J.seq (fun K7 hK7 => ?_)
  refine J.region ?_
  refine J.y (op_move rfl rfl) rfl rfl rfl ?_
  refine J.y (op_slen Tryd.underlying9 rfl rfl) rfl rfl rfl ?_
  refine J.y (op_move rfl rfl) rfl rfl rfl ?_
  refine J.nil ?_
  refine J.then_n (J.k hK7 ?_)
  refine J.keepE [(0, _), (4, _), (5, _), (14, _), (15, _)] ⟨rfl, rfl, rfl, rfl, rfl, trivial⟩ ?_
  refine J.block ?_
  refine J.loop (X := Nat × Option Addr × Nat × Hp) (fun x => [(0, Str s), (4, .slice x.2.1 (2 * x.1) x.2.2.1), (5, I ((Wo.left (s.take x.1) : Nat) : Int)), (14, I s.length), (15, I x.1)]) (fun x => [F, x.2.2.2]) (fun x => x.1 ≤ 16 ∧ Row x.2.2.2 3 1 x.2.1 (2 * x.1) x.2.2.1 (natsV (Wo.nibs (s.take x.1)))) (fun x => 16 - x.1) (0, none, 0, fun _ => none) (⟨Nat.zero_le _, by rw [List.take_zero, Wo.nibs0]; exact RowQ.nil⟩) ⟨rfl, rfl, by rw [List.take_zero, Wo.left0]; rfl, rfl, rfl, trivial⟩ (fun _ h => h) ?_
  rintro ⟨k, A4, c4, m⟩ ⟨hk, hrow⟩ I0 hI0
  dsimp only at hk hrow ⊢
  have hlk := Wo.left_le (s.take k)
  rw [List.length_take] at hlk
  refine J.seq (fun K8 hK8 => ?_)
  refine J.region ?_
  refine J.y (op_lss rfl rfl rfl) rfl rfl rfl ?_
  refine J.nil ?_
  refine J.then_n (J.k hK8 ?_)
  refine J.keepE [(0, _), (4, _), (5, _), (14, _), (15, _), (16, _)] ⟨rfl, rfl, rfl, rfl, rfl, rfl, trivial⟩ ?_
  refine J.seq (fun K9 hK9 => ?_)
  refine J.ite rfl (fun h16 => ?_) (fun h16 => ?_)
  ·
    refine J.skip ?_
    refine J.then_n (J.k hK9 ?_)
    refine J.keepE [(0, _), (4, _), (5, _), (14, _), (15, _)] ⟨rfl, rfl, rfl, rfl, rfl, trivial⟩ ?_
    refine J.seq (fun K10 hK10 => ?_)
    refine J.block ?_
    refine J.seq (fun K11 hK11 => ?_)
    refine J.region ?_
    refine J.y (op_move rfl rfl) rfl rfl rfl ?_
    refine J.y (op_assign rfl rfl) rfl rfl rfl ?_
    refine J.nil ?_
    refine J.then_n (J.k hK11 ?_)
    refine J.keepE [(0, _), (4, _), (5, _), (6, _), (14, _), (15, _)] ⟨rfl, rfl, rfl, rfl, rfl, rfl, trivial⟩ ?_
    refine J.seq (fun K12 hK12 => ?_)
    have hk16 : k < 16 := by omega
    have hb8 := (s.getD k 0).toNat_lt
    refine J.draw [F, m] [] (.y 0 (.y 1 (.y 2 (.y 3 (.y 4 (.y 5 (.y 6 (.y 7 (.y 8 (.y 9 (.y 10 (.y 11 .nil)))))))))))) Tryd.wide (by decide +kernel) (by simp) ?_
    refine J.dy rfl (op_move rfl rfl) rfl rfl rfl rfl ?_
    refine J.dy rfl (op_move rfl rfl) rfl rfl rfl rfl ?_
    refine J.dy rfl (op_sindex (i := k) Tryd.underlying9 rfl rfl rfl (getSome 0 (by omega))) rfl rfl rfl rfl ?_
    refine J.dy rfl (op_shr8 (m := 4) rfl rfl rfl) rfl rfl rfl rfl ?_
    refine J.dy rfl ((op_cv_u8_i64 rfl rfl Tryd.underlying5 Tryd.underlying3).as (v' := I (((s.getD k 0).toNat / 16 : Nat) : Int)) (congrArg (fun n : Nat => I (n : Int)) (Wo.lo_eq (s.getD k 0)).2)) rfl rfl rfl rfl ?_
    refine J.dy rfl (op_move rfl rfl) rfl rfl rfl rfl ?_
    refine J.dy rfl (op_move rfl rfl) rfl rfl rfl rfl ?_
    refine J.dy rfl (op_sindex (i := k) Tryd.underlying9 rfl rfl rfl (getSome 0 (by omega))) rfl rfl rfl rfl ?_
    refine J.dy rfl (op_and8 (b := 15) rfl rfl rfl) rfl rfl rfl rfl ?_
    refine J.dy rfl ((op_cv_u8_i64 rfl rfl Tryd.underlying5 Tryd.underlying3).as (v' := I (((s.getD k 0).toNat % 16 : Nat) : Int)) (congrArg (fun n : Nat => I (n : Int)) (Wo.lo_eq (s.getD k 0)).1)) rfl rfl rfl rfl ?_
    refine J.dy rfl (op_buildArr (l := [.tmp 22, .tmp 27]) rfl rfl rfl Tryd.underlying231 el3 Tryd.zeroValue231 rfl rfl (by simp [Value.cells]) (r := [(s.getD k 0).toNat / 16, (s.getD k 0).toNat % 16].map fun x : Nat => I (x : Int)) rfl) rfl rfl rfl rfl ?_
    refine J.dy rfl (op_move rfl rfl) rfl rfl rfl rfl ?_
    refine J.dnil ?_
    refine J.then_n (J.k hK12 ?_)
    refine J.keepE [(0, _), (4, _), (5, _), (14, _), (15, _), (28, _), (29, _)] ⟨rfl, rfl, rfl, rfl, rfl, rfl, rfl, trivial⟩ ?_
    refine J.block ?_
    refine J.loop (X := Nat × Option Addr × Nat × Hp) (fun x => [(0, Str s), (4, .slice x.2.1 (2 * k + x.1) x.2.2.1), (5, I ((Wo.left (s.take k) + (([(s.getD k 0).toNat / 16, (s.getD k 0).toNat % 16].take x.1).map (15 - ·)).sum : Nat) : Int)), (14, I s.length), (15, I k), (28, .agg ([(s.getD k 0).toNat / 16, (s.getD k 0).toNat % 16].map fun x : Nat => I (x : Int)).toArray), (29, I x.1)]) (fun x => [F, x.2.2.2]) (fun x => x.1 ≤ 2 ∧ Row x.2.2.2 3 1 x.2.1 (2 * k + x.1) x.2.2.1 (natsV ((Wo.nibs (s.take k)) ++ [(s.getD k 0).toNat / 16, (s.getD k 0).toNat % 16].take x.1))) (fun x => 2 - x.1) (0, A4, c4, m) (⟨Nat.zero_le _, by rw [List.take_zero, List.append_nil]; exact hrow⟩) ⟨rfl, rfl, rfl, rfl, rfl, rfl, rfl, trivial⟩ (fun _ h => h) ?_
    clear hrow
    rintro ⟨j, A4, c4, m⟩ ⟨hj, hrow⟩ I2 hI2
    dsimp only at hj hrow ⊢
    refine J.seq (fun K13 hK13 => ?_)
    refine J.region ?_
    refine J.y (op_lss rfl rfl rfl) rfl rfl rfl ?_
    refine J.nil ?_
    refine J.then_n (J.k hK13 ?_)
    refine J.keepE [(0, _), (4, _), (5, _), (14, _), (15, _), (28, _), (29, _), (30, _)] ⟨rfl, rfl, rfl, rfl, rfl, rfl, rfl, rfl, trivial⟩ ?_
    refine J.seq (fun K14 hK14 => ?_)
    refine J.ite rfl (fun h30 => ?_) (fun h30 => ?_)
    ·
      refine J.skip ?_
      refine J.then_n (J.k hK14 ?_)
      refine J.keepE [(0, _), (4, _), (5, _), (14, _), (15, _), (28, _), (29, _)] ⟨rfl, rfl, rfl, rfl, rfl, rfl, rfl, trivial⟩ ?_
      refine J.seq (fun K15 hK15 => ?_)
      refine J.block ?_
      refine J.seq (fun K16 hK16 => ?_)
      have hj2 : j < 2 := by omega
      have hsj : (([(s.getD k 0).toNat / 16, (s.getD k 0).toNat % 16].take (j + 1)).map (15 - ·)).sum = (([(s.getD k 0).toNat / 16, (s.getD k 0).toNat % 16].take j).map (15 - ·)).sum + (15 - ([(s.getD k 0).toNat / 16, (s.getD k 0).toNat % 16].getD j 0)) := by match j, hj2 with | 0, _ => simp | 1, _ => simp
      have hdl : ([(s.getD k 0).toNat / 16, (s.getD k 0).toNat % 16].getD j 0) ≤ 15 := by match j, hj2 with | 0, _ => (show (s.getD k 0).toNat / 16 ≤ 15; omega) | 1, _ => (show (s.getD k 0).toNat % 16 ≤ 15; omega)
      have hsl : (([(s.getD k 0).toNat / 16, (s.getD k 0).toNat % 16].take j).map (15 - ·)).sum ≤ 15 * j := by match j, hj2 with | 0, _ => simp | 1, _ => simp
      refine J.region ?_
      refine J.y (op_index (i := j) (v := I ((([(s.getD k 0).toNat / 16, (s.getD k 0).toNat % 16].getD j 0) : Nat) : Int)) rfl rfl rfl Tryd.underlying231 Tryd.sizeOf3 Tryd.isAgg3 (by omega) (by rw [Nat.mul_one]; match j, hj2 with | 0, _ => rfl | 1, _ => rfl)) rfl rfl rfl ?_
      refine J.y (op_assign rfl rfl) rfl rfl rfl ?_
      refine J.nil ?_
      refine J.then_n (J.k hK16 ?_)
      refine J.keepE [(0, _), (4, _), (5, _), (8, _), (14, _), (15, _), (28, _), (29, _)] ⟨rfl, rfl, rfl, rfl, rfl, rfl, rfl, rfl, trivial⟩ ?_
      refine J.seq (fun K17 hK17 => ?_)
      refine J.region ?_
      refine J.y (op_move rfl rfl) rfl rfl rfl ?_
      refine J.y (op_move rfl rfl) rfl rfl rfl ?_
      refine J.e (op_buildSlice (l := [.tmp 33]) (xs := [[I ((([(s.getD k 0).toNat / 16, (s.getD k 0).toNat % 16].getD j 0) : Nat) : Int)]]) rfl rfl rfl rfl Tryd.underlying80 el3 rfl (by decide) (by decide) (by simp)) rfl rfl rfl ?_
      intro g34 _
      change J _ _ _ [F, m, blk g34 [I ((([(s.getD k 0).toNat / 16, (s.getD k 0).toNat % 16].getD j 0) : Nat) : Int)] 3] _
      refine J.e (op_append (i := 1) (m2 := blk g34 (([([(s.getD k 0).toNat / 16, (s.getD k 0).toNat % 16].getD j 0)] : List Nat).map fun x : Nat => I (x : Int)) 3) (ys := natsV [([(s.getD k 0).toNat / 16, (s.getD k 0).toNat % 16].getD j 0)]) rfl rfl rfl Tryd.underlying80 Tryd.underlying80 el3 rfl hrow (by simp) (slN [([(s.getD k 0).toNat / 16, (s.getD k 0).toNat % 16].getD j 0)] rfl) (one_nats _) (by omega) (by omega)) rfl rfl rfl ?_
      rintro ⟨A35, c35, m35⟩ h35
      try dsimp only at h35
      change J _ ((35, .slice A35 (2 * k + j + 1) c35) :: _) _ [F, m35, blk g34 [I ((([(s.getD k 0).toNat / 16, (s.getD k 0).toNat % 16].getD j 0) : Nat) : Int)] 3] _
      rw [← natsV_app] at h35
      refine J.y (op_assign rfl rfl) rfl rfl rfl ?_
      refine J.nil ?_
      refine J.then_n (J.k hK17 ?_)
      refine J.keepE [(0, _), (4, _), (5, _), (8, _), (14, _), (15, _), (28, _), (29, _)] ⟨rfl, rfl, rfl, rfl, rfl, rfl, rfl, rfl, trivial⟩ ?_
      refine J.perm [0, 1] [F, m35] rfl (by decide) ?_
      refine J.region ?_
      refine J.y (op_move rfl rfl) rfl rfl rfl ?_
      refine J.y (op_move rfl rfl) rfl rfl rfl ?_
      refine J.y ((op_sub (a := 15) rfl rfl rfl (by omega)).as (v' := I ((15 - ([(s.getD k 0).toNat / 16, (s.getD k 0).toNat % 16].getD j 0) : Nat) : Int)) (congrArg I (by omega))) rfl rfl rfl ?_
      refine J.y ((op_add rfl rfl rfl (by omega)).as (v' := I ((Wo.left (s.take k) + (([(s.getD k 0).toNat / 16, (s.getD k 0).toNat % 16].take (j + 1)).map (15 - ·)).sum : Nat) : Int)) (congrArg I (by rw [hsj]; omega))) rfl rfl rfl ?_
      refine J.y (op_assign rfl rfl) rfl rfl rfl ?_
      refine J.nil ?_
      refine J.blk_n ?_
      refine J.then_n (J.k hK15 ?_)
      refine J.keepE [(0, _), (4, _), (5, _), (14, _), (15, _), (28, _), (29, _)] ⟨rfl, rfl, rfl, rfl, rfl, rfl, rfl, trivial⟩ ?_
      refine J.region ?_
      refine J.y ((op_add rfl rfl rfl (by first | omega | (refine ⟨?_, ?_⟩ <;> omega))).as (v' := I ((j + 1 : Nat) : Int)) (congrArg I (by omega))) rfl rfl rfl ?_
      refine J.y (op_move rfl rfl) rfl rfl rfl ?_
      refine J.nil ?_
      refine J.then_n ?_
      exact J.kk (j + 1, A35, c35, m35) (fun x (hx : _ ∧ 2 - x.1 < 2 - j) => hI2 x hx.1 hx.2) ⟨⟨by dsimp only; omega, by dsimp only; rw [show [(s.getD k 0).toNat / 16, (s.getD k 0).toNat % 16].take (j + 1) = [(s.getD k 0).toNat / 16, (s.getD k 0).toNat % 16].take j ++ [([(s.getD k 0).toNat / 16, (s.getD k 0).toNat % 16].getD j 0)] by match j, hj2 with | 0, _ => rfl | 1, _ => rfl, ← List.append_assoc]; exact h35⟩, by dsimp only; omega⟩ ⟨rfl, rfl, rfl, rfl, rfl, rfl, rfl, trivial⟩ (fun _ h => h)
    ·
      refine J.exit ?_
      refine J.then_x ?_
      refine J.then_x ?_
      refine J.blk_eq ?_
      refine J.blk_n ?_
      refine J.then_n (J.k hK10 ?_)
      refine J.keepE [(0, _), (4, _), (5, _), (14, _), (15, _)] ⟨rfl, rfl, rfl, rfl, rfl, trivial⟩ ?_
      refine J.region ?_
      refine J.y ((op_add rfl rfl rfl (by first | omega | (refine ⟨?_, ?_⟩ <;> omega))).as (v' := I ((k + 1 : Nat) : Int)) (congrArg I (by omega))) rfl rfl rfl ?_
      refine J.y (op_move rfl rfl) rfl rfl rfl ?_
      refine J.nil ?_
      refine J.then_n ?_
      have hj2 : j = 2 := by omega
      subst hj2
      have e1 := Wo.nibs_snoc s k (by omega)
      have e2 := Wo.left_snoc s k (by omega)
      have hb8 := (s.getD k 0).toNat_lt
      have e3 : (([(s.getD k 0).toNat / 16, (s.getD k 0).toNat % 16].take 2).map (15 - ·)).sum = (15 - (s.getD k 0).toNat / 16) + ((15 - (s.getD k 0).toNat % 16) + 0) := rfl
      exact J.kk (k + 1, A4, c4, m) (fun x (hx : _ ∧ 16 - x.1 < 16 - k) => hI0 x hx.1 hx.2) ⟨⟨by dsimp only; omega, by dsimp only; rw [e1]; exact hrow⟩, by dsimp only; omega⟩ ⟨rfl, by rw [show 2 * (k + 1) = 2 * k + 2 by omega]; rfl, by rw [e2]; exact congrArg (fun n : Nat => some (I (n : Int))) (by rw [e3]; omega), rfl, rfl, trivial⟩ (fun _ h => h)
  ·
    refine J.exit ?_
    refine J.then_x ?_
    refine J.then_x ?_
    refine J.blk_eq ?_
    refine J.then_n (J.k hK6 ?_)
    refine J.keepE [(4, _), (5, _)] ⟨rfl, rfl, trivial⟩ ?_
    refine J.seq (fun K18 hK18 => ?_)
    refine J.seq (fun K19 hK19 => ?_)
    have hk16 : k = 16 := by omega
    subst hk16
    rw [List.take_of_length_le (by omega)] at hrow
    refine J.region ?_
    refine J.y (op_assign rfl rfl) rfl rfl rfl ?_
    refine J.nil ?_
    refine J.then_n (J.k hK19 ?_)
    refine J.keepE [(4, _), (5, _), (9, _)] ⟨rfl, rfl, rfl, trivial⟩ ?_
    refine J.block ?_
    refine J.loop (X := Nat × Option Addr × Nat × Hp) (fun x => [(4, .slice x.2.1 (32 + x.1) x.2.2.1), (5, I ((Wo.left s : Nat) : Int)), (9, I (2 - (x.1 : Int)))]) (fun x => [F, x.2.2.2]) (fun x => x.1 ≤ 3 ∧ Row x.2.2.2 3 1 x.2.1 (32 + x.1) x.2.2.1 (natsV (Wo.nibs s ++ [Wo.left s / 256, Wo.left s / 16 % 16, Wo.left s % 16].take x.1))) (fun x => 3 - x.1) (0, A4, c4, m) (⟨Nat.zero_le _, by rw [List.take_zero, List.append_nil]; exact hrow⟩) ⟨rfl, by rw [List.take_of_length_le (by omega)]; rfl, rfl, trivial⟩ (fun _ h => h) ?_
    clear hrow hlk
    rintro ⟨t, A4, c4, m⟩ ⟨ht, hrow⟩ I4 hI4
    dsimp only at ht hrow ⊢
    refine J.seq (fun K20 hK20 => ?_)
    refine J.seq (fun K21 hK21 => ?_)
    refine J.region ?_
    refine J.y (op_move rfl rfl) rfl rfl rfl ?_
    refine J.y (op_geq rfl rfl rfl) rfl rfl rfl ?_
    refine J.nil ?_
    refine J.then_n (J.k hK21 ?_)
    refine J.keepE [(4, _), (5, _), (9, _), (43, _)] ⟨rfl, rfl, rfl, rfl, trivial⟩ ?_
    refine J.ite rfl (fun h43 => ?_) (fun h43 => ?_)
    ·
      refine J.skip ?_
      refine J.then_n (J.k hK20 ?_)
      refine J.keepE [(4, _), (5, _), (9, _)] ⟨rfl, rfl, rfl, trivial⟩ ?_
      refine J.seq (fun K22 hK22 => ?_)
      refine J.block ?_
      have ht2 : t < 3 := by omega
      refine J.region ?_
      refine J.y (op_move rfl rfl) rfl rfl rfl ?_
      refine J.y (op_move rfl rfl) rfl rfl rfl ?_
      refine J.y ((op_move rfl rfl).as (v' := I ((2 - t : Nat) : Int)) (congrArg I (by omega))) rfl rfl rfl ?_
      refine J.y ((op_mul (a := 4) rfl rfl rfl (by omega)).as (v' := I ((4 * (2 - t) : Nat) : Int)) (congrArg I (by omega))) rfl rfl rfl ?_
      refine J.y ((op_shrI (m := 4 * (2 - t)) rfl rfl rfl (by omega)).as (v' := I ((Wo.left s / 2 ^ (4 * (2 - t)) : Nat) : Int)) (congrArg I (by simp))) rfl rfl rfl ?_
      refine J.y ((op_maskI 4 rfl rfl rfl (by decide) (by decide)).as (v' := I (([Wo.left s / 256, Wo.left s / 16 % 16, Wo.left s % 16].getD t 0 : Nat) : Int)) (congrArg I (by match t, ht2 with | 0, _ => (show ((Wo.left s / 2 ^ (4 * (2 - 0)) : Nat) : Int) % 2 ^ 4 = ((Wo.left s / 256 : Nat) : Int); omega) | 1, _ => (show ((Wo.left s / 2 ^ (4 * (2 - 1)) : Nat) : Int) % 2 ^ 4 = ((Wo.left s / 16 % 16 : Nat) : Int); omega) | 2, _ => (show ((Wo.left s / 2 ^ (4 * (2 - 2)) : Nat) : Int) % 2 ^ 4 = ((Wo.left s % 16 : Nat) : Int); omega)))) rfl rfl rfl ?_
      refine J.e (op_buildSlice (l := [.tmp 51]) (xs := [[I ((([Wo.left s / 256, Wo.left s / 16 % 16, Wo.left s % 16].getD t 0) : Nat) : Int)]]) rfl rfl rfl rfl Tryd.underlying80 el3 rfl (by decide) (by decide) (by simp)) rfl rfl rfl ?_
      intro g52 _
      change J _ _ _ [F, m, blk g52 [I ((([Wo.left s / 256, Wo.left s / 16 % 16, Wo.left s % 16].getD t 0) : Nat) : Int)] 3] _
      refine J.e (op_append (i := 1) (m2 := blk g52 (([([Wo.left s / 256, Wo.left s / 16 % 16, Wo.left s % 16].getD t 0)] : List Nat).map fun x : Nat => I (x : Int)) 3) (ys := natsV [([Wo.left s / 256, Wo.left s / 16 % 16, Wo.left s % 16].getD t 0)]) rfl rfl rfl Tryd.underlying80 Tryd.underlying80 el3 rfl hrow (by simp) (slN [([Wo.left s / 256, Wo.left s / 16 % 16, Wo.left s % 16].getD t 0)] rfl) (one_nats _) (by omega) (by omega)) rfl rfl rfl ?_
      rintro ⟨A53, c53, m53⟩ h53
      try dsimp only at h53
      change J _ ((53, .slice A53 (32 + t + 1) c53) :: _) _ [F, m53, blk g52 [I ((([Wo.left s / 256, Wo.left s / 16 % 16, Wo.left s % 16].getD t 0) : Nat) : Int)] 3] _
      rw [← natsV_app] at h53
      refine J.y (op_assign rfl rfl) rfl rfl rfl ?_
      refine J.nil ?_
      refine J.blk_n ?_
      refine J.then_n (J.k hK22 ?_)
      refine J.keepE [(4, _), (5, _), (9, _)] ⟨rfl, rfl, rfl, trivial⟩ ?_
      refine J.perm [0, 1] [F, m53] rfl (by decide) ?_
      refine J.region ?_
      refine J.y (op_move rfl rfl) rfl rfl rfl ?_
      refine J.y ((op_sub rfl rfl rfl (by omega)).as (v' := I (2 - ((t + 1 : Nat) : Int))) (congrArg I (by omega))) rfl rfl rfl ?_
      refine J.y (op_assign rfl rfl) rfl rfl rfl ?_
      refine J.nil ?_
      refine J.then_n ?_
      exact J.kk (t + 1, A53, c53, m53) (fun x (hx : _ ∧ 3 - x.1 < 3 - t) => hI4 x hx.1 hx.2) ⟨⟨by dsimp only; omega, by dsimp only; rw [show [Wo.left s / 256, Wo.left s / 16 % 16, Wo.left s % 16].take (t + 1) = [Wo.left s / 256, Wo.left s / 16 % 16, Wo.left s % 16].take t ++ [[Wo.left s / 256, Wo.left s / 16 % 16, Wo.left s % 16].getD t 0] by match t, ht2 with | 0, _ => rfl | 1, _ => rfl | 2, _ => rfl, ← List.append_assoc]; exact h53⟩, by dsimp only; omega⟩ ⟨rfl, rfl, rfl, trivial⟩ (fun _ h => h)
    ·
      refine J.exit ?_
      refine J.then_x ?_
      refine J.then_x ?_
      refine J.blk_eq ?_
      refine J.then_n (J.k hK18 ?_)
      refine J.keepE [(4, _)] ⟨rfl, trivial⟩ ?_
      refine J.seq (fun K23 hK23 => ?_)
      have ht3 : t = 3 := by omega
      subst ht3
      refine J.region ?_
      refine J.y (op_move rfl rfl) rfl rfl rfl ?_
      refine J.y (op_assign rfl rfl) rfl rfl rfl ?_
      refine J.y (op_assign rfl rfl) rfl rfl rfl ?_
      refine J.nil ?_
      refine J.then_n (J.k hK23 ?_)
      refine J.keepE [(2, _), (3, _)] ⟨rfl, rfl, trivial⟩ ?_
      refine J.ret ?_
      exact J.done hw0 (fun _ _ h => h) (res2 rfl rfl rfl) (retOk (A4, c4, m) rfl (by unfold Wo.digs; exact hrow) [0, 1] rfl (by decide))

theorem sign_ct (F : Hp) (hK : Cells F ⟨1, 0, none⟩ (Sha.K.map W32)) (seed : List UInt8) (leaf : Nat) (d : List UInt8) (hs : seed.length ≤ 1048576) (h1 : leaf < 4611686018427387904) (hd : d.length = 16) :
    Ct Tryd.prog 132 [Str seed, I leaf, Str d] [F] (fun x : Option Addr × Nat × Hp => .tuple #[.slice x.1 35 x.2.1, I 0]) (fun x => Row x.2.2 9 1 x.1 35 x.2.1 (strsV (Wo.signs seed leaf (Wo.digs d) 35))) (fun x => [F, x.2.2]) := by
  have hdl : (Wo.digs d).length = 35 := by rw [Wo.digs_length, hd]
  have hd15 := Wo.digs_le d (by omega)
  refine Ct.walk Tryd.func132 rfl Tryd.ntmps132 rfl (fun w0 hw0 => ?_)
  change J _ [(0, _), (1, _), (2, _)] _ _ _
  refine J.seq (fun K1 hK1 => ?_)
  refine J.region ?_
  refine J.y (op_assign rfl rfl) rfl rfl rfl ?_
  refine J.y (op_assign rfl rfl) rfl rfl rfl ?_
  refine J.nil ?_
  refine J.then_n (J.k hK1 ?_)
  refine J.keepE [(0, _), (1, _), (2, _)] ⟨rfl, rfl, rfl, trivial⟩ ?_
  refine J.seq (fun K2 hK2 => ?_)
  refine J.region ?_
  refine J.y (op_move rfl rfl) rfl rfl rfl ?_
  refine J.e (op_call rfl rfl ent134 (Ct.use (fun F' hF => digitsOf_ct F' d hd))) rfl rfl rfl ?_
  rintro ⟨A16, c16, m16⟩ h16
  try dsimp only at h16
  change J _ ((16, .tuple #[.slice A16 35 c16, I 0]) :: _) _ [F, m16] _
  refine J.y (op_move rfl rfl) rfl rfl rfl ?_
  refine J.y (op_extract rfl rfl rfl) rfl rfl rfl ?_
  refine J.y (op_extract rfl rfl rfl) rfl rfl rfl ?_
  refine J.y (op_assign rfl rfl) rfl rfl rfl ?_
  refine J.y (op_assign rfl rfl) rfl rfl rfl ?_
  refine J.nil ?_
  refine J.then_n (J.k hK2 ?_)
  refine J.keepE [(0, _), (1, _), (8, _), (9, _)] ⟨rfl, rfl, rfl, rfl, trivial⟩ ?_
  refine J.seq (fun K3 hK3 => ?_)
  refine J.seq (fun K4 hK4 => ?_)
  refine J.region ?_
  refine J.y (op_move rfl rfl) rfl rfl rfl ?_
  refine J.y ((op_neq rfl rfl rfl).as (v' := .bool false) (congrArg Value.bool (decide_eq_false (by decide)))) rfl rfl rfl ?_
  refine J.nil ?_
  refine J.then_n (J.k hK4 ?_)
  refine J.keepE [(0, _), (1, _), (8, _), (9, _), (20, _)] ⟨rfl, rfl, rfl, rfl, rfl, trivial⟩ ?_
  refine J.condF rfl rfl ?_
  refine J.skip ?_
  refine J.then_n (J.k hK3 ?_)
  refine J.keepE [(0, _), (1, _), (8, _)] ⟨rfl, rfl, rfl, trivial⟩ ?_
  refine J.seq (fun K5 hK5 => ?_)
  refine J.region ?_
  refine J.y (op_move rfl rfl) rfl rfl rfl ?_
  refine J.e (op_call rfl rfl ent128 (Ct.use0 (fun F' hF => wopen_ct F' (hK.mono (hF _ (by simp))) seed hs))) rfl rfl rfl ?_
  intro g23 _
  refine J.y (op_assign rfl rfl) rfl rfl rfl ?_
  refine J.nil ?_
  refine J.then_n (J.k hK5 ?_)
  refine J.keepE [(0, _), (1, _), (8, _), (10, _)] ⟨rfl, rfl, rfl, rfl, trivial⟩ ?_
  refine J.seq (fun K6 hK6 => ?_)
  refine J.addEmpty [0, 1, 2] [F, m16, (fun _ => none)] rfl (by decide) ?_
  refine J.region ?_
  refine J.y (op_assign rfl rfl) rfl rfl rfl ?_
  refine J.nil ?_
  refine J.then_n (J.k hK6 ?_)
  refine J.keepE [(0, _), (1, _), (8, _), (10, _), (11, _)] ⟨rfl, rfl, rfl, rfl, rfl, trivial⟩ ?_
  refine J.seq (fun K7 hK7 => ?_)
  refine J.seq (fun K8 hK8 => ?_)
  refine J.region ?_
  refine J.y (op_move rfl rfl) rfl rfl rfl ?_
  refine J.y (op_len Tryd.underlying80 rfl rfl) rfl rfl rfl ?_
  refine J.y (op_move rfl rfl) rfl rfl rfl ?_
  refine J.nil ?_
  refine J.then_n (J.k hK8 ?_)
  refine J.keepE [(0, _), (1, _), (10, _), (11, _), (24, _), (25, _), (26, _)] ⟨rfl, rfl, rfl, rfl, rfl, rfl, rfl, trivial⟩ ?_
  refine J.block ?_
  refine J.loop (X := Nat × Option Addr × Nat × Hp) (fun x => [(0, Str seed), (1, I leaf), (10, Str (Wo.opn seed)), (11, .slice x.2.1 x.1 x.2.2.1), (24, .slice A16 35 c16), (25, I ((35 : Nat) : Int)), (26, I x.1)]) (fun x => [F, m16, x.2.2.2]) (fun x => x.1 ≤ 35 ∧ Row x.2.2.2 9 1 x.2.1 x.1 x.2.2.1 (strsV (Wo.signs seed leaf (Wo.digs d) x.1))) (fun x => 35 - x.1) (0, none, 0, fun _ => none) (⟨Nat.zero_le _, by rw [Wo.signs0]; exact RowQ.nil⟩) ⟨rfl, rfl, rfl, rfl, rfl, rfl, rfl, trivial⟩ (fun _ h => h) ?_
  rintro ⟨k, A6, c6, m⟩ ⟨hk, hrow⟩ I0 hI0
  dsimp only at hk hrow ⊢
  have hdk := hd15 k
  refine J.seq (fun K9 hK9 => ?_)
  refine J.region ?_
  refine J.y (op_lss rfl rfl rfl) rfl rfl rfl ?_
  refine J.nil ?_
  refine J.then_n (J.k hK9 ?_)
  refine J.keepE [(0, _), (1, _), (10, _), (11, _), (24, _), (25, _), (26, _), (27, _)] ⟨rfl, rfl, rfl, rfl, rfl, rfl, rfl, rfl, trivial⟩ ?_
  refine J.seq (fun K10 hK10 => ?_)
  refine J.ite rfl (fun h27 => ?_) (fun h27 => ?_)
  ·
    refine J.skip ?_
    refine J.then_n (J.k hK10 ?_)
    refine J.keepE [(0, _), (1, _), (10, _), (11, _), (24, _), (25, _), (26, _)] ⟨rfl, rfl, rfl, rfl, rfl, rfl, rfl, trivial⟩ ?_
    refine J.seq (fun K11 hK11 => ?_)
    refine J.block ?_
    refine J.seq (fun K12 hK12 => ?_)
    refine J.region ?_
    refine J.y (op_move rfl rfl) rfl rfl rfl ?_
    refine J.y (op_indexAddr (i := k) rfl rfl rfl Tryd.underlying80 Tryd.sizeOf3 h16.sl (by omega)) rfl rfl rfl ?_
    refine J.y (op_load rfl rfl Tryd.isAgg3 (m := m16) (by simp) (h16.sl.elem (natsV_get (k := k) (by omega)))) rfl rfl rfl ?_
    refine J.y (op_assign rfl rfl) rfl rfl rfl ?_
    refine J.y (op_assign rfl rfl) rfl rfl rfl ?_
    refine J.nil ?_
    refine J.then_n (J.k hK12 ?_)
    refine J.keepE [(0, _), (1, _), (10, _), (11, _), (12, _), (13, _), (24, _), (25, _), (26, _)] ⟨rfl, rfl, rfl, rfl, rfl, rfl, rfl, rfl, rfl, trivial⟩ ?_
    refine J.region ?_
    refine J.y (op_move rfl rfl) rfl rfl rfl ?_
    refine J.y (op_move rfl rfl) rfl rfl rfl ?_
    refine J.y (op_move rfl rfl) rfl rfl rfl ?_
    refine J.y (op_move rfl rfl) rfl rfl rfl ?_
    refine J.y (op_move rfl rfl) rfl rfl rfl ?_
    refine J.y (op_move rfl rfl) rfl rfl rfl ?_
    refine J.y (op_move rfl rfl) rfl rfl rfl ?_
    refine J.y (op_move rfl rfl) rfl rfl rfl ?_
    refine J.e (op_call rfl rfl ent168 (Ct.use0 (fun F' hF => wsecret_ct F' (hK.mono (hF _ (by simp))) seed leaf k hs h1 (by omega)))) rfl rfl rfl ?_
    intro g39 _
    refine J.e (op_call rfl rfl ent136 (Ct.use0 (fun F' hF => walk_ct F' (hK.mono (hF _ (by simp))) (Wo.opn seed) leaf k (by rw [Wo.opn_length]; decide) h1 (by omega) (Wo.secret seed leaf k) (by rw [Wo.secret_length]; decide) 0 ((Wo.digs d).getD k 0) 0 ((Wo.digs d).getD k 0) (by omega) (by omega) (by omega)))) rfl rfl rfl ?_
    intro g40 _
    refine J.e (op_buildSlice (l := [.tmp 40]) (xs := [[Str ((Wo.walk (Wo.opn seed) leaf k 0 (Wo.secret seed leaf k) ((Wo.digs d).getD k 0)))]]) rfl rfl rfl rfl Tryd.underlying55 el9 rfl (by decide) (by decide) (by simp)) rfl rfl rfl ?_
    intro g41 _
    change J _ _ _ [F, m16, m, blk g41 [Str ((Wo.walk (Wo.opn seed) leaf k 0 (Wo.secret seed leaf k) ((Wo.digs d).getD k 0)))] 9] _
    refine J.e (op_append (i := 2) (m2 := blk g41 [Str (Wo.walk (Wo.opn seed) leaf k 0 (Wo.secret seed leaf k) ((Wo.digs d).getD k 0))] 9) (ys := strsV [(Wo.walk (Wo.opn seed) leaf k 0 (Wo.secret seed leaf k) ((Wo.digs d).getD k 0))]) rfl rfl rfl Tryd.underlying55 Tryd.underlying55 el9 rfl hrow (by simp) (row_blk (q := True) (xs := strsV [(Wo.walk (Wo.opn seed) leaf k 0 (Wo.secret seed leaf k) ((Wo.digs d).getD k 0))]) rfl (by simp [strsV])).sl (one_strs _) (by omega) (by omega)) rfl rfl rfl ?_
    rintro ⟨A42, c42, m42⟩ h42
    try dsimp only at h42
    change J _ ((42, .slice A42 (k + 1) c42) :: _) _ [F, m16, m42, blk g41 [Str (Wo.walk (Wo.opn seed) leaf k 0 (Wo.secret seed leaf k) ((Wo.digs d).getD k 0))] 9] _
    rw [← strsV_app, ← Wo.signs_succ] at h42
    refine J.perm [0, 1, 2] [F, m16, m42] rfl (by decide) ?_
    refine J.y (op_assign rfl rfl) rfl rfl rfl ?_
    refine J.nil ?_
    refine J.blk_n ?_
    refine J.then_n (J.k hK11 ?_)
    refine J.keepE [(0, _), (1, _), (10, _), (11, _), (24, _), (25, _), (26, _)] ⟨rfl, rfl, rfl, rfl, rfl, rfl, rfl, trivial⟩ ?_
    refine J.region ?_
    refine J.y ((op_add rfl rfl rfl (by first | omega | (refine ⟨?_, ?_⟩ <;> omega))).as (v' := I ((k + 1 : Nat) : Int)) (congrArg I (by omega))) rfl rfl rfl ?_
    refine J.y (op_move rfl rfl) rfl rfl rfl ?_
    refine J.nil ?_
    refine J.then_n ?_
    exact J.kk (k + 1, A42, c42, m42) (fun x (hx : _ ∧ 35 - x.1 < 35 - k) => hI0 x hx.1 hx.2) ⟨⟨by dsimp only; omega, h42⟩, by dsimp only; omega⟩ ⟨rfl, rfl, rfl, rfl, rfl, rfl, rfl, trivial⟩ (fun _ h => h)
  ·
    refine J.exit ?_
    refine J.then_x ?_
    refine J.then_x ?_
    refine J.blk_eq ?_
    refine J.then_n (J.k hK7 ?_)
    refine J.keepE [(11, _)] ⟨rfl, trivial⟩ ?_
    refine J.seq (fun K13 hK13 => ?_)
    have hk35 : k = 35 := by omega
    subst hk35
    refine J.region ?_
    refine J.y (op_move rfl rfl) rfl rfl rfl ?_
    refine J.y (op_assign rfl rfl) rfl rfl rfl ?_
    refine J.y (op_assign rfl rfl) rfl rfl rfl ?_
    refine J.nil ?_
    refine J.then_n (J.k hK13 ?_)
    refine J.keepE [(6, _), (7, _)] ⟨rfl, rfl, trivial⟩ ?_
    refine J.ret ?_
    exact J.done hw0 (fun _ _ h => h) (res2 rfl rfl rfl) (retOk (A6, c6, m) rfl hrow [0, 2] rfl (by decide))

theorem wright_ct (F : Hp) (A : Option Addr) (n c : Nat) (ls : List (List UInt8)) (hl : Sl F 1 A n c (strsV ls)) (h16 : ∀ s ∈ ls, s.length = 16) (hn : n = 35) :
    Ct Tryd.prog 135 [.slice A n c] [F] (fun _ : Unit => .bool true) (fun _ => True) (fun _ => [F]) := by
  have hlen : ls.length = n := by have := hl.1; simpa [strsV] using this
  refine Ct.walk Tryd.func135 rfl Tryd.ntmps135 rfl (fun w0 hw0 => ?_)
  change J _ [(0, _)] _ _ _
  refine J.seq (fun K1 hK1 => ?_)
  refine J.region ?_
  refine J.y (op_assign rfl rfl) rfl rfl rfl ?_
  refine J.nil ?_
  refine J.then_n (J.k hK1 ?_)
  refine J.keepE [(0, _)] ⟨rfl, trivial⟩ ?_
  refine J.seq (fun K2 hK2 => ?_)
  refine J.seq (fun K3 hK3 => ?_)
  refine J.region ?_
  refine J.y (op_move rfl rfl) rfl rfl rfl ?_
  refine J.y (op_len Tryd.underlying55 rfl rfl) rfl rfl rfl ?_
  refine J.y (op_move rfl rfl) rfl rfl rfl ?_
  refine J.nil ?_
  refine J.then_n (J.k hK3 ?_)
  refine J.keepE [(0, _), (5, _), (6, _), (7, _)] ⟨rfl, rfl, rfl, rfl, trivial⟩ ?_
  refine J.block ?_
  refine J.loop (fun k : Nat => [(0, .slice A n c), (5, .slice A n c), (6, I n), (7, I k)]) (fun _ => [F]) (fun k => k ≤ n) (fun k => n - k) 0 (Nat.zero_le _) ⟨rfl, rfl, rfl, rfl, trivial⟩ (fun _ h => h) ?_
  intro k hk I0 hI0
  refine J.seq (fun K4 hK4 => ?_)
  refine J.region ?_
  refine J.y (op_lss rfl rfl rfl) rfl rfl rfl ?_
  refine J.nil ?_
  refine J.then_n (J.k hK4 ?_)
  refine J.keepE [(0, _), (5, _), (6, _), (7, _), (8, _)] ⟨rfl, rfl, rfl, rfl, rfl, trivial⟩ ?_
  refine J.seq (fun K5 hK5 => ?_)
  refine J.ite rfl (fun h8 => ?_) (fun h8 => ?_)
  ·
    refine J.skip ?_
    refine J.then_n (J.k hK5 ?_)
    refine J.keepE [(0, _), (5, _), (6, _), (7, _)] ⟨rfl, rfl, rfl, rfl, trivial⟩ ?_
    refine J.seq (fun K6 hK6 => ?_)
    refine J.block ?_
    refine J.seq (fun K7 hK7 => ?_)
    refine J.region ?_
    refine J.y (op_indexAddr (i := k) rfl rfl rfl Tryd.underlying55 Tryd.sizeOf9 hl (by omega)) rfl rfl rfl ?_
    refine J.y (op_load rfl rfl Tryd.isAgg9 (m := F) (by simp) (hl.elem (strsV_get (getSome [] (show k < ls.length by omega))))) rfl rfl rfl ?_
    refine J.y (op_assign rfl rfl) rfl rfl rfl ?_
    refine J.nil ?_
    refine J.then_n (J.k hK7 ?_)
    refine J.keepE [(0, _), (4, _), (5, _), (6, _), (7, _)] ⟨rfl, rfl, rfl, rfl, rfl, trivial⟩ ?_
    refine J.seq (fun K8 hK8 => ?_)
    refine J.region ?_
    refine J.y (op_move rfl rfl) rfl rfl rfl ?_
    refine J.y (op_slen Tryd.underlying9 rfl rfl) rfl rfl rfl ?_
    refine J.y ((op_neq rfl rfl rfl).as (v' := .bool false) (congrArg Value.bool (decide_eq_false (by have := h16 _ (List.mem_of_getElem? (getSome [] (show k < ls.length by omega))); omega)))) rfl rfl rfl ?_
    refine J.nil ?_
    refine J.then_n (J.k hK8 ?_)
    refine J.keepE [(0, _), (5, _), (6, _), (7, _), (13, _)] ⟨rfl, rfl, rfl, rfl, rfl, trivial⟩ ?_
    refine J.condF rfl rfl ?_
    refine J.skip ?_
    refine J.blk_n ?_
    refine J.then_n (J.k hK6 ?_)
    refine J.keepE [(0, _), (5, _), (6, _), (7, _)] ⟨rfl, rfl, rfl, rfl, trivial⟩ ?_
    refine J.region ?_
    refine J.y ((op_add rfl rfl rfl (by first | omega | (refine ⟨?_, ?_⟩ <;> omega))).as (v' := I ((k + 1 : Nat) : Int)) (congrArg I (by omega))) rfl rfl rfl ?_
    refine J.y (op_move rfl rfl) rfl rfl rfl ?_
    refine J.nil ?_
    refine J.then_n ?_
    exact J.kk (k + 1) (fun x (hx : x ≤ n ∧ n - x < n - k) => hI0 x hx.1 hx.2) ⟨by omega, by omega⟩ ⟨rfl, rfl, rfl, rfl, trivial⟩ (fun _ h => h)
  ·
    refine J.exit ?_
    refine J.then_x ?_
    refine J.then_x ?_
    refine J.blk_eq ?_
    refine J.then_n (J.k hK2 ?_)
    refine J.keepE [(0, _)] ⟨rfl, trivial⟩ ?_
    refine J.seq (fun K9 hK9 => ?_)
    refine J.region ?_
    refine J.y (op_move rfl rfl) rfl rfl rfl ?_
    refine J.y (op_len Tryd.underlying55 rfl rfl) rfl rfl rfl ?_
    refine J.y ((op_eql rfl rfl rfl).as (v' := .bool true) (congrArg Value.bool (decide_eq_true (by omega)))) rfl rfl rfl ?_
    refine J.y (op_assign rfl rfl) rfl rfl rfl ?_
    refine J.nil ?_
    refine J.then_n (J.k hK9 ?_)
    refine J.keepE [(2, _)] ⟨rfl, trivial⟩ ?_
    refine J.ret ?_
    exact J.done hw0 (fun _ _ h => h) (res1 rfl rfl) (retOk () rfl trivial [0] rfl (by decide))

theorem recover_ct (F : Hp) (hK : Cells F ⟨1, 0, none⟩ (Sha.K.map W32)) (o : List UInt8) (leaf : Nat) (d : List UInt8) (A : Option Addr) (c : Nat) (sig : List (List UInt8)) (hl : Sl F 1 A 35 c (strsV sig)) (ho : o.length ≤ 1048576) (h1 : leaf < 4611686018427387904) (hd : d.length = 16) (hsg : ∀ s ∈ sig, s.length = 16) :
    Ct Tryd.prog 92 [Str o, I leaf, Str d, .slice A 35 c] [F] (fun _ : Unit => .tuple #[Str (Wo.publicOf o leaf (Wo.ends o leaf (Wo.digs d) sig 35)), I 0]) (fun _ => True) (fun _ => [F]) := by
  have hdl : (Wo.digs d).length = 35 := by rw [Wo.digs_length, hd]
  have hd15 := Wo.digs_le d (by omega)
  have hlen : sig.length = 35 := by have := hl.1; simpa [strsV] using this
  refine Ct.walk Tryd.func92 rfl Tryd.ntmps92 rfl (fun w0 hw0 => ?_)
  change J _ [(0, _), (1, _), (2, _), (3, _)] _ _ _
  refine J.seq (fun K1 hK1 => ?_)
  refine J.region ?_
  refine J.y (op_assign rfl rfl) rfl rfl rfl ?_
  refine J.y (op_assign rfl rfl) rfl rfl rfl ?_
  refine J.nil ?_
  refine J.then_n (J.k hK1 ?_)
  refine J.keepE [(0, _), (1, _), (2, _), (3, _)] ⟨rfl, rfl, rfl, rfl, trivial⟩ ?_
  refine J.seq (fun K2 hK2 => ?_)
  refine J.region ?_
  refine J.y (op_move rfl rfl) rfl rfl rfl ?_
  refine J.e (op_call rfl rfl ent134 (Ct.use (fun F' hF => digitsOf_ct F' d hd))) rfl rfl rfl ?_
  rintro ⟨A17, c17, m17⟩ h17
  try dsimp only at h17
  change J _ ((17, .tuple #[.slice A17 35 c17, I 0]) :: _) _ [F, m17] _
  refine J.y (op_move rfl rfl) rfl rfl rfl ?_
  refine J.y (op_extract rfl rfl rfl) rfl rfl rfl ?_
  refine J.y (op_extract rfl rfl rfl) rfl rfl rfl ?_
  refine J.y (op_assign rfl rfl) rfl rfl rfl ?_
  refine J.y (op_assign rfl rfl) rfl rfl rfl ?_
  refine J.nil ?_
  refine J.then_n (J.k hK2 ?_)
  refine J.keepE [(0, _), (1, _), (3, _), (10, _), (11, _)] ⟨rfl, rfl, rfl, rfl, rfl, trivial⟩ ?_
  refine J.seq (fun K3 hK3 => ?_)
  refine J.block ?_
  refine J.seq (fun K4 hK4 => ?_)
  refine J.region ?_
  refine J.y (op_move rfl rfl) rfl rfl rfl ?_
  refine J.y ((op_neq rfl rfl rfl).as (v' := .bool false) (congrArg Value.bool (decide_eq_false (by decide)))) rfl rfl rfl ?_
  refine J.y (op_assign rfl rfl) rfl rfl rfl ?_
  refine J.nil ?_
  refine J.then_n (J.k hK4 ?_)
  refine J.keepE [(0, _), (1, _), (3, _), (10, _), (11, _), (20, _)] ⟨rfl, rfl, rfl, rfl, rfl, rfl, trivial⟩ ?_
  refine J.condF rfl rfl ?_
  refine J.seq (fun K5 hK5 => ?_)
  refine J.region ?_
  refine J.y (op_move rfl rfl) rfl rfl rfl ?_
  refine J.e (op_call rfl rfl ent135 (Ct.use0 (fun F' hF => wright_ct F' A 35 c sig (hl.mono (hF _ (by simp))) hsg rfl))) rfl rfl rfl ?_
  intro g26 _
  refine J.y ((op_not rfl rfl).as (v' := .bool false) rfl) rfl rfl rfl ?_
  refine J.y (op_assign rfl rfl) rfl rfl rfl ?_
  refine J.nil ?_
  refine J.then_n (J.k hK5 ?_)
  refine J.keepE [(0, _), (1, _), (3, _), (10, _), (24, _)] ⟨rfl, rfl, rfl, rfl, rfl, trivial⟩ ?_
  refine J.condF rfl rfl ?_
  refine J.skip ?_
  refine J.blk_n ?_
  refine J.then_n (J.k hK3 ?_)
  refine J.keepE [(0, _), (1, _), (3, _), (10, _)] ⟨rfl, rfl, rfl, rfl, trivial⟩ ?_
  refine J.seq (fun K6 hK6 => ?_)
  refine J.addEmpty [0, 1, 2] [F, m17, (fun _ => none)] rfl (by decide) ?_
  refine J.region ?_
  refine J.y (op_assign rfl rfl) rfl rfl rfl ?_
  refine J.nil ?_
  refine J.then_n (J.k hK6 ?_)
  refine J.keepE [(0, _), (1, _), (3, _), (10, _), (12, _)] ⟨rfl, rfl, rfl, rfl, rfl, trivial⟩ ?_
  refine J.seq (fun K7 hK7 => ?_)
  refine J.seq (fun K8 hK8 => ?_)
  refine J.region ?_
  refine J.y (op_move rfl rfl) rfl rfl rfl ?_
  refine J.y (op_len Tryd.underlying80 rfl rfl) rfl rfl rfl ?_
  refine J.y (op_move rfl rfl) rfl rfl rfl ?_
  refine J.nil ?_
  refine J.then_n (J.k hK8 ?_)
  refine J.keepE [(0, _), (1, _), (3, _), (12, _), (28, _), (29, _), (30, _)] ⟨rfl, rfl, rfl, rfl, rfl, rfl, rfl, trivial⟩ ?_
  refine J.block ?_
  refine J.loop (X := Nat × Option Addr × Nat × Hp) (fun x => [(0, Str o), (1, I leaf), (3, .slice A 35 c), (12, .slice x.2.1 x.1 x.2.2.1), (28, .slice A17 35 c17), (29, I ((35 : Nat) : Int)), (30, I x.1)]) (fun x => [F, m17, x.2.2.2]) (fun x => x.1 ≤ 35 ∧ Row x.2.2.2 9 1 x.2.1 x.1 x.2.2.1 (strsV (Wo.ends o leaf (Wo.digs d) sig x.1))) (fun x => 35 - x.1) (0, none, 0, fun _ => none) (⟨Nat.zero_le _, by rw [Wo.ends0]; exact RowQ.nil⟩) ⟨rfl, rfl, rfl, rfl, rfl, rfl, rfl, trivial⟩ (fun _ h => h) ?_
  rintro ⟨k, A6, c6, m⟩ ⟨hk, hrow⟩ I0 hI0
  dsimp only at hk hrow ⊢
  have hdk := hd15 k
  refine J.seq (fun K9 hK9 => ?_)
  refine J.region ?_
  refine J.y (op_lss rfl rfl rfl) rfl rfl rfl ?_
  refine J.nil ?_
  refine J.then_n (J.k hK9 ?_)
  refine J.keepE [(0, _), (1, _), (3, _), (12, _), (28, _), (29, _), (30, _), (31, _)] ⟨rfl, rfl, rfl, rfl, rfl, rfl, rfl, rfl, trivial⟩ ?_
  refine J.seq (fun K10 hK10 => ?_)
  refine J.ite rfl (fun h31 => ?_) (fun h31 => ?_)
  ·
    refine J.skip ?_
    refine J.then_n (J.k hK10 ?_)
    refine J.keepE [(0, _), (1, _), (3, _), (12, _), (28, _), (29, _), (30, _)] ⟨rfl, rfl, rfl, rfl, rfl, rfl, rfl, trivial⟩ ?_
    refine J.seq (fun K11 hK11 => ?_)
    refine J.block ?_
    refine J.seq (fun K12 hK12 => ?_)
    refine J.region ?_
    refine J.y (op_move rfl rfl) rfl rfl rfl ?_
    refine J.y (op_indexAddr (i := k) rfl rfl rfl Tryd.underlying80 Tryd.sizeOf3 h17.sl (by omega)) rfl rfl rfl ?_
    refine J.y (op_load rfl rfl Tryd.isAgg3 (m := m17) (by simp) (h17.sl.elem (natsV_get (k := k) (by omega)))) rfl rfl rfl ?_
    refine J.y (op_assign rfl rfl) rfl rfl rfl ?_
    refine J.y (op_assign rfl rfl) rfl rfl rfl ?_
    refine J.nil ?_
    refine J.then_n (J.k hK12 ?_)
    refine J.keepE [(0, _), (1, _), (3, _), (12, _), (13, _), (14, _), (28, _), (29, _), (30, _)] ⟨rfl, rfl, rfl, rfl, rfl, rfl, rfl, rfl, rfl, trivial⟩ ?_
    refine J.region ?_
    refine J.y (op_move rfl rfl) rfl rfl rfl ?_
    refine J.y (op_move rfl rfl) rfl rfl rfl ?_
    refine J.y (op_move rfl rfl) rfl rfl rfl ?_
    refine J.y (op_move rfl rfl) rfl rfl rfl ?_
    refine J.y (op_move rfl rfl) rfl rfl rfl ?_
    refine J.y (op_move rfl rfl) rfl rfl rfl ?_
    refine J.y (op_move rfl rfl) rfl rfl rfl ?_
    refine J.y (op_indexAddr (i := k) rfl rfl rfl Tryd.underlying55 Tryd.sizeOf9 hl (by omega)) rfl rfl rfl ?_
    refine J.y (op_load rfl rfl Tryd.isAgg9 (m := F) (by simp) (hl.elem (strsV_get (getSome [] (show k < sig.length by omega))))) rfl rfl rfl ?_
    refine J.e (op_call rfl rfl ent136 (Ct.use0 (fun F' hF => walk_ct F' (hK.mono (hF _ (by simp))) o leaf k ho h1 (by omega) (sig.getD k []) (by have := hsg _ (List.mem_of_getElem? (getSome [] (show k < sig.length by omega))); omega) ((((Wo.digs d).getD k 0) : Nat) : Int) 15 ((Wo.digs d).getD k 0) (15 - ((Wo.digs d).getD k 0)) (by omega) (by omega) (by omega)))) rfl rfl rfl ?_
    intro g44 _
    refine J.e (op_buildSlice (l := [.tmp 44]) (xs := [[Str ((Wo.walk o leaf k ((Wo.digs d).getD k 0) (sig.getD k []) (15 - ((Wo.digs d).getD k 0))))]]) rfl rfl rfl rfl Tryd.underlying55 el9 rfl (by decide) (by decide) (by simp)) rfl rfl rfl ?_
    intro g45 _
    change J _ _ _ [F, m17, m, blk g45 [Str ((Wo.walk o leaf k ((Wo.digs d).getD k 0) (sig.getD k []) (15 - ((Wo.digs d).getD k 0))))] 9] _
    refine J.e (op_append (i := 2) (m2 := blk g45 [Str (Wo.walk o leaf k ((Wo.digs d).getD k 0) (sig.getD k []) (15 - ((Wo.digs d).getD k 0)))] 9) (ys := strsV [(Wo.walk o leaf k ((Wo.digs d).getD k 0) (sig.getD k []) (15 - ((Wo.digs d).getD k 0)))]) rfl rfl rfl Tryd.underlying55 Tryd.underlying55 el9 rfl hrow (by simp) (row_blk (q := True) (xs := strsV [(Wo.walk o leaf k ((Wo.digs d).getD k 0) (sig.getD k []) (15 - ((Wo.digs d).getD k 0)))]) rfl (by simp [strsV])).sl (one_strs _) (by omega) (by omega)) rfl rfl rfl ?_
    rintro ⟨A46, c46, m46⟩ h46
    try dsimp only at h46
    change J _ ((46, .slice A46 (k + 1) c46) :: _) _ [F, m17, m46, blk g45 [Str (Wo.walk o leaf k ((Wo.digs d).getD k 0) (sig.getD k []) (15 - ((Wo.digs d).getD k 0)))] 9] _
    rw [← strsV_app, ← Wo.ends_succ] at h46
    refine J.perm [0, 1, 2] [F, m17, m46] rfl (by decide) ?_
    refine J.y (op_assign rfl rfl) rfl rfl rfl ?_
    refine J.nil ?_
    refine J.blk_n ?_
    refine J.then_n (J.k hK11 ?_)
    refine J.keepE [(0, _), (1, _), (3, _), (12, _), (28, _), (29, _), (30, _)] ⟨rfl, rfl, rfl, rfl, rfl, rfl, rfl, trivial⟩ ?_
    refine J.region ?_
    refine J.y ((op_add rfl rfl rfl (by first | omega | (refine ⟨?_, ?_⟩ <;> omega))).as (v' := I ((k + 1 : Nat) : Int)) (congrArg I (by omega))) rfl rfl rfl ?_
    refine J.y (op_move rfl rfl) rfl rfl rfl ?_
    refine J.nil ?_
    refine J.then_n ?_
    exact J.kk (k + 1, A46, c46, m46) (fun x (hx : _ ∧ 35 - x.1 < 35 - k) => hI0 x hx.1 hx.2) ⟨⟨by dsimp only; omega, h46⟩, by dsimp only; omega⟩ ⟨rfl, rfl, rfl, rfl, rfl, rfl, rfl, trivial⟩ (fun _ h => h)
  ·
    refine J.exit ?_
    refine J.then_x ?_
    refine J.then_x ?_
    refine J.blk_eq ?_
    refine J.then_n (J.k hK7 ?_)
    refine J.keepE [(0, _), (1, _), (12, _)] ⟨rfl, rfl, rfl, trivial⟩ ?_
    refine J.seq (fun K13 hK13 => ?_)
    have hk35 : k = 35 := by omega
    subst hk35
    refine J.region ?_
    refine J.y (op_move rfl rfl) rfl rfl rfl ?_
    refine J.y (op_move rfl rfl) rfl rfl rfl ?_
    refine J.y (op_move rfl rfl) rfl rfl rfl ?_
    refine J.e (op_call rfl rfl ent137 (Ct.use0 (fun F' hF => wpublic_ct F' (hK.mono (hF _ (by simp))) o leaf ho h1 A6 35 c6 (Wo.ends o leaf (Wo.digs d) sig 35) (hrow.sl.mono (hF _ (by simp))) (Wo.ends_small o leaf (Wo.digs d) sig 35 (fun s hs => Nat.le_of_eq (hsg s hs))) (by decide)))) rfl rfl rfl ?_
    intro g51 _
    refine J.y (op_assign rfl rfl) rfl rfl rfl ?_
    refine J.y (op_assign rfl rfl) rfl rfl rfl ?_
    refine J.nil ?_
    refine J.then_n (J.k hK13 ?_)
    refine J.keepE [(8, _), (9, _)] ⟨rfl, rfl, trivial⟩ ?_
    refine J.ret ?_
    exact J.done hw0 (fun _ _ h => h) (res2 rfl rfl rfl) (retOk () rfl trivial [0] rfl (by decide))

end Go.Proofs.YtnkfapecbmmpeaaDoor
