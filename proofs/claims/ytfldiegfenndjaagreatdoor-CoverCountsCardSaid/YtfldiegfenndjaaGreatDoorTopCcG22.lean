/- A part of the proof. -/
import Derived.Test.YtfldiegfenndjaaGreatDoorTopCcG8
import Derived.Test.YtfldiegfenndjaaGreatDoorTopCcG11
set_option linter.unusedSimpArgs false
set_option linter.unusedVariables false
namespace Go.Proofs.YtfldiegfenndjaaGreatDoor
open Go Go.Fw Go.Proofs.Tryz
set_option maxRecDepth 100000
set_option maxHeartbeats 1000000
namespace Mk
def node (a b : List UInt8) : List UInt8 := Sha.tagged 5 [a, b]
def above (l : List (List UInt8)) : List (List UInt8) := (List.range (l.length / 2)).map fun k => node (l.getD (2 * k) []) (l.getD (2 * k + 1) [])
def lvl (l : List (List UInt8)) : Nat → List (List UInt8)
 | 0 => l
 | j + 1 => above (lvl l j)
def root (l : List (List UInt8)) (h : Nat) : List UInt8 := (lvl l h).getD 0 []
def path (l : List (List UInt8)) (i h : Nat) : List (List UInt8) := (List.range h).map fun j => (lvl l j).getD ((i / 2 ^ j) ^^^ 1) []
def climb : List UInt8 → Nat → List (List UInt8) → List UInt8
 | x, _, [] => x
 | x, i, s :: r => climb (if i % 2 = 0 then node x s else node s x) (i / 2) r
def Right (n : Nat) : Prop := n = 1 ∨ n = 2 ∨ n = 4 ∨ n = 8 ∨ n = 16 ∨ n = 32 ∨ n = 64
instance (n : Nat) : Decidable (Right n) := by unfold Right; infer_instance
theorem qMq : ∀ n : Fin 65, (1 ≤ n.val ∧ n.val &&& (n.val - 1) = 0) ↔ Right n.val := by decide +kernel
theorem right_of (n : Nat) : (1 ≤ n ∧ n ≤ 64 ∧ n &&& (n - 1) = 0) ↔ Right n := by
  by_cases h : n < 65
  · have := qMq ⟨n, h⟩
    dsimp only at this
    rw [← this]
    constructor
    · intro ⟨a, _, c⟩; exact ⟨a, c⟩
    · intro ⟨a, c⟩; exact ⟨a, by omega, c⟩
  · constructor
    · intro ⟨_, b, _⟩; omega
    · intro hr; unfold Right at hr; omega
theorem right_pow (h : Nat) (h6 : h ≤ 6) : Right (2 ^ h) := by
 have : ∀ h : Fin 7, Right (2 ^ h.val) := by decide +kernel
 exact this ⟨h, by omega⟩
theorem node_length (a b : List UInt8) : (node a b).length = 16 := Sha.tagged_length _ _
theorem qIX (l : List (List UInt8)) : (above l).length = l.length / 2 := by simp [above]
theorem qJN (l : List (List UInt8)) : ∀ s ∈ above l, s.length = 16 := fun s hs => by
 simp only [above, List.mem_map] at hs
 obtain ⟨k, _, rfl⟩ := hs
 exact node_length _ _
theorem lvl_succ_length (l : List (List UInt8)) (j : Nat) : (lvl l (j + 1)).length = (lvl l j).length / 2 := qIX _
theorem lvl_length (l : List (List UInt8)) (h : Nat) (hl : l.length = 2 ^ h) : ∀ j, j ≤ h → (lvl l j).length = 2 ^ (h - j)
 | 0, _ => hl
 | j + 1, hj => by
  rw [lvl_succ_length, lvl_length l h hl j (by omega), show h - j = (h - (j + 1)) + 1 by omega, Nat.pow_succ]
  omega
theorem lvl_small (l : List (List UInt8)) (hs : ∀ s ∈ l, s.length ≤ 1048576) : ∀ j, ∀ s ∈ lvl l j, s.length ≤ 1048576
 | 0 => hs
 | j + 1 => fun s h => by rw [qJN _ s h]; decide
theorem xor_one (m k : Nat) (h : m < 2 * k) : m ^^^ 1 < 2 * k := by
 have e1 : (m ^^^ 1) / 2 = m / 2 := by rw [Nat.xor_div_two]; simp
 omega
theorem path_succ (l : List (List UInt8)) (i h : Nat) : path l i (h + 1) = path l i h ++ [(lvl l h).getD ((i / 2 ^ h) ^^^ 1) []] := by simp [path, List.range_succ]
theorem path_length (l : List (List UInt8)) (i h : Nat) : (path l i h).length = h := by simp [path]
theorem above_succ (l : List (List UInt8)) (k : Nat) : ((List.range (k + 1)).map fun k => node (l.getD (2 * k) []) (l.getD (2 * k + 1) [])) = ((List.range k).map fun k => node (l.getD (2 * k) []) (l.getD (2 * k + 1) [])) ++ [node (l.getD (2 * k) []) (l.getD (2 * k + 1) [])] := by simp [List.range_succ]
theorem getS {l : List (List UInt8)} {j : Nat} (h : j < l.length) : l[j]? = some (l.getD j []) := by rw [List.getD_eq_getElem?_getD, List.getElem?_eq_getElem h]; rfl
theorem getS_mem {l : List (List UInt8)} {j : Nat} (h : j < l.length) : l.getD j [] ∈ l := List.mem_of_getElem? (getS h)
end Mk
theorem ent170 : qAC prog 170 := qAC.of func170 rfl (by kernel_rfl)
theorem ent128 : qAC prog 128 := qAC.of func128 rfl (by kernel_rfl)
theorem ent129 : qAC prog 129 := qAC.of func129 rfl (by kernel_rfl)
theorem ent69 : qAC prog 69 := qAC.of func69 rfl (by kernel_rfl)
theorem ent92 : qAC prog 92 := qAC.of func92 rfl (by kernel_rfl)
theorem ent124 : qAC prog 124 := qAC.of func124 rfl (by kernel_rfl)
theorem qHk (a : List (List UInt8)) : (qAL a).all (fun x => x.all Value.oneCell') = true := by simp [qAL, Value.oneCell']
attribute [local irreducible] Mk.node
theorem qI2 (F : Hp) (hK : KF F) (a b : List UInt8) (ha : a.length ≤ 1048576) (hb : b.length ≤ 1048576) :
    Ct prog 170 [Str a, Str b] [F] (fun _ : Unit => Str (Mk.node a b)) (fun _ => True) (fun _ => [F]) := by
  refine Ct.walk func170 rfl ntmps170 rfl (fun w0 hw0 => ?_)
  refine J.g fun K1 hK1 => J.b rfl <| J.c hK1 <| J.M 0 1 ?_
  refine J.g fun K2 hK2 => J.p 2 rfl <| J.u (qAH (l := [.tmp 5, .tmp 6]) (xs := [[Str a], [Str b]]) rfl rfl rfl rfl qAn el9 rfl (by decide) (by decide) (by simp)) rfl fun g7 _ => J.u (qAB rfl rfl ent44 (Ct.use0 (fun F' hF => qA5 F' (hK.mono (hF _ (by simp))) 5 (some ⟨g7, 0, none⟩) 2 2 [a, b] (((qAr (q := True) (xs := qAL [a, b]) rfl (by simp [qAL])).sl (m := blk g7 [Str a, Str b] 9)).mono (hF _ (by simp))) (by simp; omega) (by decide)))) rfl fun g8 _ => J.b rfl <| J.c hK2 <| J.A 4 ?_
  exact J.D <| J.L hw0 rfl () (by unfold Mk.node; rfl) trivial [0] rfl (by decide)
theorem qJl (F : Hp) (n : Nat) (hn : n < 9223372036854775808) : Ct prog 128 [I n] [F] (fun _ : Unit => .bool (decide (Mk.Right n))) (fun _ => True) (fun _ => [F]) := by
 have hR := Mk.right_of n
 refine Ct.walk func128 rfl ntmps128 rfl (fun w0 hw0 => ?_)
 refine J.g fun K1 hK1 => J.b rfl <| J.c hK1 <| J.A 0 ?_
 refine J.g fun K2 hK2 => J.b rfl <| J.f (qBG rfl rfl rfl) rfl <| J.b rfl <| J.c3 (d := 5) rfl (fun h5 => ?_) (fun h5 => ?_)
 ·
  refine J.b rfl <| J.O (qB4 rfl rfl rfl) rfl <| J.p 2 rfl <| J.c3 (d := 9) rfl (fun h9 => ?_) (fun h9 => ?_)
  ·
   refine J.p 2 rfl <| J.O ((qAs rfl rfl rfl (by omega)).nat (n - 1) (by omega)) rfl <| J.O (qIz rfl rfl rfl (by omega)) rfl <| J.O (qAd rfl rfl rfl) rfl <| J.p 2 rfl <| J.c hK2 <| J.A 2 ?_
   exact J.D <| J.L hw0 rfl () (congrArg Value.bool (decide_eq_decide.2 (by rw [← hR]; omega))) trivial [0] rfl (by decide)
  refine J.p 7 rfl <| J.c hK2 <| J.A 2 ?_
  exact J.D <| J.L hw0 rfl () (congrArg Value.bool (decide_eq_false (by rw [← hR]; omega)).symm) trivial [0] rfl (by decide)
 refine J.p 11 rfl <| J.c hK2 <| J.A 2 ?_
 exact J.D <| J.L hw0 rfl () (congrArg Value.bool (decide_eq_false (by rw [← hR]; omega)).symm) trivial [0] rfl (by decide)
theorem qKX (F : Hp) (hK : KF F) (A : Option Addr) (n c : Nat) (ls : List (List UInt8)) (hl : Sl F 1 A n c (qAL ls)) (hsm : ∀ s ∈ ls, s.length ≤ 1048576) (hn : n ≤ 1048576) :
    Ct prog 129 [.slice A n c] [F] (fun x : Option Addr × Nat × Hp => .slice x.1 (n / 2) x.2.1) (fun x => Row x.2.2 9 1 x.1 (n / 2) x.2.1 (qAL (Mk.above ls))) (fun x => [F, x.2.2]) := by
  have hlen : ls.length = n := by have := hl.1; simpa [qAL] using this
  refine Ct.walk func129 rfl ntmps129 rfl (fun w0 hw0 => ?_)
  refine J.g fun K1 hK1 => J.b rfl <| J.c hK1 <| J.A 0 ?_
  refine J.g fun K2 hK2 => J.b rfl <| J.c hK2 <| J.M 0 3 ?_
  refine J.k fun K3 hK3 => J.k fun K4 hK4 => J.d6 [0, 1] [F, (fun _ => none)] rfl (by decide) <| J.E <| J.b rfl <| J.c hK4 <| J.V 0 3 4 ?_
  refine J.T <| J.b2 (X := Nat × Option Addr × Nat × Hp) (fun x => [(0, .slice A n c), (3, .slice x.2.1 x.1 x.2.2.1), (4, I ((2 * x.1 : Nat) : Int))]) (fun x => [F, x.2.2.2]) (fun x => 2 * x.1 ≤ n ∧ Row x.2.2.2 9 1 x.2.1 x.1 x.2.2.1 (qAL ((List.range x.1).map fun k => Mk.node (ls.getD (2 * k) []) (ls.getD (2 * k + 1) [])))) (fun x => n - x.1) (0, none, 0, fun _ => none) (⟨Nat.zero_le _, qB5.nil⟩) ⟨rfl, rfl, rfl, trivial⟩ (fun _ h => h) ?_
  rintro ⟨k, A1, c1, m⟩ ⟨hk, hrow⟩ I0 hI0
  dsimp only at hk hrow ⊢
  refine J.k fun K5 hK5 => J.g fun K6 hK6 => J.b rfl <| J.f ((qAO rfl rfl rfl (by omega))) rfl <| J.b rfl <| J.f (qAZ qAn rfl rfl) rfl <| J.f (qAS rfl rfl rfl) rfl <| J.c hK6 <| J.W 0 3 4 9 ?_
  refine J.a0 rfl (fun h9 => ?_) (fun h9 => ?_)
  ·
    refine J.a1 hK5 <| J.V 0 3 4 ?_
    refine J.k fun K7 hK7 => J.T <| J.b5 [F] [] (.y 0 (.y 1 (.y 2 (.y 3 (.y 4 (.y 5 (.y 6 (.y 7 (.y 8 (.y 9 (.e 10 (.e 11 (.e 12 (.y 13 .nil)))))))))))))) Tryz.wide (by decide +kernel) (by simp) ?_
    iterate 3 refine J.G ?_
    refine J.j rfl (qAG rfl rfl rfl qAn z9_ hl (by omega)) rfl rfl <| J.j rfl (qAK rfl rfl b9_ (m := F) (by simp) (hl.elem (qAa (Mk.getS (l := ls) (j := 2 * k) (by omega))))) rfl rfl <| J.G ?_
    refine J.G ?_
    refine J.j rfl ((qAO rfl rfl rfl (by omega)).nat (2 * k + 1) (by omega)) rfl rfl <| J.j rfl (qAG rfl rfl rfl qAn z9_ hl (by omega)) rfl rfl <| J.j rfl (qAK rfl rfl b9_ (m := F) (by simp) (hl.elem (qAa (Mk.getS (l := ls) (j := 2 * k + 1) (by omega))))) rfl rfl <| J.a7 rfl (qAB rfl rfl ent170 (Ct.use0 (fun F' hF => qI2 F' (hK.mono (hF _ (by simp))) (ls.getD (2 * k) []) (ls.getD (2 * k + 1) []) (hsm _ (Mk.getS_mem (by omega))) (hsm _ (Mk.getS_mem (by omega)))))) rfl (by simp) fun g22 _ => J.a7 rfl (qAH (l := [.tmp 22]) (xs := [[Str (Mk.node (ls.getD (2 * k) []) (ls.getD (2 * k + 1) []))]]) rfl rfl rfl rfl qAn el9 rfl (by decide) (by decide) (by simp)) rfl (by simp) fun g23 _ => J.a7 rfl (qAb (i := 1) (m2 := blk g23 [Str (Mk.node (ls.getD (2 * k) []) (ls.getD (2 * k + 1) []))] 9) rfl rfl rfl qAn qAn el9 rfl hrow (by simp) (qAr (q := True) (xs := qAL [Mk.node (ls.getD (2 * k) []) (ls.getD (2 * k + 1) [])]) rfl (by simp [qAL])).sl (qHk _) (by omega) (by omega)) rfl (by simp) ?_
    rintro ⟨A24, c24, m24⟩ h24
    try dsimp only at h24
    rw [← qB2, ← Mk.above_succ ls k] at h24
    refine J.c0 ?_
    refine J.b4 <| J.a4 <| J.q (J.H hK7 ?_)
    refine J.V 0 3 4 ?_
    refine J.c5 [0, 1] [F, m24] rfl (by decide) <| J.E <| J.b rfl <| J.f ((qAO rfl rfl rfl (by omega)).nat (2 * (k + 1)) (by omega)) rfl <| J.b rfl <| J.a2 <| J.q <| J.a6 (k + 1, A24, c24, m24) (fun x (hx : _ ∧ n - x.1 < n - k) => hI0 x hx.1 hx.2) ⟨⟨by dsimp only; omega, h24⟩, by dsimp only; omega⟩ ⟨rfl, rfl, rfl, trivial⟩ (fun _ h => h)
  refine J.b0 <| J.Z <| J.Z <| J.b1 ?_
  refine J.q (J.H hK3 ?_)
  refine J.A 3 ?_
  refine J.g fun K8 hK8 => J.p 2 rfl <| J.c hK8 <| J.A 2 ?_
  refine J.D ?_
  have hk2 : k = n / 2 := by omega
  subst hk2
  exact J.L hw0 rfl (A1, c1, m) rfl (by rw [← hlen] at hrow; unfold Mk.above; rw [← hlen]; exact hrow) [0, 1] rfl (by decide)
theorem qRw (F : Hp) (hK : KF F) (A : Option Addr) (n c : Nat) (ls : List (List UInt8)) (hl : Sl F 1 A n c (qAL ls)) (h : Nat) (h6 : h ≤ 6) (hn : n = 2 ^ h) (hsm : ∀ s ∈ ls, s.length ≤ 1048576) :
    Ct prog 69 [.slice A n c] [F] (fun _ : Unit => .tuple #[Str (Mk.root ls h), I 0]) (fun _ => True) (fun _ => [F]) := by
  have hlen : ls.length = n := by have := hl.1; simpa [qAL] using this
  have hR : Mk.Right n := by rw [hn]; exact Mk.right_pow h h6
  have hn64 : n ≤ 64 := by unfold Mk.Right at hR; omega
  have hlv : ∀ j, j ≤ h → (Mk.lvl ls j).length = 2 ^ (h - j) := Mk.lvl_length ls h (by omega)
  have hle : ∀ j, 2 ^ (h - j) ≤ 64 := fun j => Nat.le_trans (Nat.pow_le_pow_right (by decide) (show h - j ≤ 6 by omega)) (by decide)
  refine Ct.walk func69 rfl ntmps69 rfl (fun w0 hw0 => ?_)
  refine J.g fun K1 hK1 => J.p 2 rfl <| J.c hK1 <| J.A 0 ?_
  refine J.k fun K2 hK2 => J.g fun K3 hK3 => J.b rfl <| J.f (qAZ qAn rfl rfl) rfl <| J.u (qAB rfl rfl ent128 (qJl F n (by omega))) rfl fun g6 _ => J.f ((qFT rfl rfl).as (v' := .bool false) (by simp [hR])) rfl <| J.d6 [0, 1] [F, (fun _ => none)] rfl (by decide) <| J.c hK3 <| J.M 0 7 ?_
  refine J.b6 ?_
  refine J.a1 hK2 <| J.A 0 ?_
  refine J.k fun K4 hK4 => J.T <| J.b2 (X := Nat × Option Addr × Nat × Hp) (fun x => [(0, .slice x.2.1 (Mk.lvl ls x.1).length x.2.2.1)]) (fun x => [F, x.2.2.2]) (fun x => x.1 ≤ h ∧ ∃ mm ∈ [F, x.2.2.2], Sl mm 1 x.2.1 (Mk.lvl ls x.1).length x.2.2.1 (qAL (Mk.lvl ls x.1))) (fun x => h - x.1) (0, A, c, fun _ => none) (⟨Nat.zero_le _, F, .head _, by rw [show (Mk.lvl ls (0, A, c, (fun _ => none : Hp)).1).length = n from hlen]; exact hl⟩) ⟨by rw [← hlen]; rfl, trivial⟩ (fun _ h => h) ?_
  rintro ⟨j, A1, c1, m⟩ ⟨hj, mm, hmm, hsl⟩ I0 hI0
  dsimp only at hj hmm hsl ⊢
  have hj2 := hlv j hj
  have hj3 := hle j
  have hpos : 0 < (Mk.lvl ls j).length := by rw [hj2]; exact Nat.two_pow_pos _
  have hmm2 : mm = F ∨ mm = m := by simpa using hmm
  refine J.k fun K5 hK5 => J.g fun K6 hK6 => J.b rfl <| J.f (qAZ qAn rfl rfl) rfl <| J.f (qBJ rfl rfl rfl) rfl <| J.c hK6 <| J.M 0 10 ?_
  refine J.a0 rfl (fun h10 => ?_) (fun h10 => ?_)
  ·
    refine J.a1 hK5 <| J.A 0 ?_
    refine J.T ?_
    have hjh : j < h := by
      rcases Nat.lt_or_ge j h with hlt | hge
      · exact hlt
      · rw [hj2, show h - j = 0 by omega] at h10; simp at h10
    refine J.E <| J.b rfl <| J.u (qAB rfl rfl ent129 (Ct.use (fun F' hF => qKX F' (hK.mono (hF _ (by simp))) A1 (Mk.lvl ls j).length c1 (Mk.lvl ls j) (hsl.mono (hF _ (by rcases hmm2 with rfl | rfl <;> simp))) (Mk.lvl_small ls hsm j) (by omega)))) rfl ?_
    rintro ⟨A12, c12, m12⟩ h12
    try dsimp only at h12
    refine J.c5 [0, 2] [F, m12] rfl (by decide) <| J.b rfl <| J.a2 <| J.a4 <| J.q <| J.a6 (j + 1, A12, c12, m12) (fun x (hx : _ ∧ h - x.1 < h - j) => hI0 x hx.1 hx.2) ⟨⟨by dsimp only; omega, m12, by simp, by rw [Mk.lvl_succ_length]; exact h12.sl⟩, by dsimp only; omega⟩ ⟨by rw [Mk.lvl_succ_length]; rfl, trivial⟩ (fun _ h => h)
  refine J.b0 <| J.Z <| J.Z <| J.b1 ?_
  refine J.q (J.H hK4 ?_)
  refine J.A 0 ?_
  refine J.k fun K7 hK7 => ?_
  have hjh : j = h := by
    rcases Nat.lt_or_ge j h with hlt | hge
    · have := Nat.one_lt_two_pow_iff.2 (show h - j ≠ 0 by omega)
      omega
    · omega
  refine J.E <| J.b rfl <| J.f (qAG rfl rfl rfl qAn z9_ hsl hpos) rfl <| J.f (qAK rfl rfl b9_ hmm (hsl.elem (qAa (Mk.getS (l := Mk.lvl ls j) (j := 0) hpos)))) rfl <| J.p 2 rfl <| J.c hK7 <| J.M 2 3 ?_
  exact J.D <| J.c2 hw0 (fun _ _ h => h) (qDb rfl rfl rfl) (qBD () (by rw [hjh]; rfl) trivial [0] rfl (by decide))
theorem qR9 (F : Hp) (hK : KF F) (A : Option Addr) (n c : Nat) (ls : List (List UInt8)) (hl : Sl F 1 A n c (qAL ls)) (h : Nat) (h6 : h ≤ 6) (hn : n = 2 ^ h) (hsm : ∀ s ∈ ls, s.length ≤ 1048576) (i : Nat) (hi : i < n) :
    Ct prog 92 [.slice A n c, I i] [F] (fun x : Option Addr × Nat × Hp => .tuple #[.slice x.1 h x.2.1, I 0]) (fun x => Row x.2.2 9 1 x.1 h x.2.1 (qAL (Mk.path ls i h))) (fun x => [F, x.2.2]) := by
  have hlen : ls.length = n := by have := hl.1; simpa [qAL] using this
  have hR : Mk.Right n := by rw [hn]; exact Mk.right_pow h h6
  have hn64 : n ≤ 64 := by unfold Mk.Right at hR; omega
  have hlv : ∀ j, j ≤ h → (Mk.lvl ls j).length = 2 ^ (h - j) := Mk.lvl_length ls h (by omega)
  have hle : ∀ j, 2 ^ (h - j) ≤ 64 := fun j => Nat.le_trans (Nat.pow_le_pow_right (by decide) (show h - j ≤ 6 by omega)) (by decide)
  refine Ct.walk func92 rfl ntmps92 rfl (fun w0 hw0 => ?_)
  refine J.g fun K1 hK1 => J.p 2 rfl <| J.c hK1 <| J.M 0 1 ?_
  refine J.k fun K2 hK2 => J.T <| J.g fun K3 hK3 => J.b rfl <| J.f (qAZ qAn rfl rfl) rfl <| J.u (qAB rfl rfl ent128 (qJl F n (by omega))) rfl fun g10 _ => J.f ((qFT rfl rfl).as (v' := .bool false) (by simp [hR])) rfl <| J.b rfl <| J.c hK3 <| J.V 0 1 7 ?_
  refine J.b6 ?_
  refine J.g fun K4 hK4 => J.b rfl <| J.f ((qAS rfl rfl rfl).no (by omega)) rfl <| J.p 3 rfl <| J.O (qAZ qAn rfl rfl) rfl <| J.O ((qBG rfl rfl rfl).no (by omega)) rfl <| J.p 2 rfl <| J.c hK4 <| J.V 0 1 12 ?_
  refine J.b6 ?_
  refine J.b7 <| J.a4 <| J.q (J.H hK2 ?_)
  refine J.M 0 1 ?_
  refine J.k fun K5 hK5 => J.d6 [0, 1] [F, (fun _ => none)] rfl (by decide) <| J.d6 [0, 1, 2] [F, (fun _ => none), (fun _ => none)] rfl (by decide) <| J.E <| J.b rfl <| J.c hK5 <| J.V 0 1 6 ?_
  refine J.k fun K6 hK6 => J.T <| J.b2 (X := Nat × Option Addr × Nat × Hp × Option Addr × Nat × Hp) (fun x => [(0, .slice x.2.1 (Mk.lvl ls x.1).length x.2.2.1), (1, I ((i / 2 ^ x.1 : Nat) : Int)), (6, .slice x.2.2.2.2.1 x.1 x.2.2.2.2.2.1)]) (fun x => [F, x.2.2.2.2.2.2, x.2.2.2.1]) (fun x => x.1 ≤ h ∧ (∃ mm ∈ [F, x.2.2.2.1], Sl mm 1 x.2.1 (Mk.lvl ls x.1).length x.2.2.1 (qAL (Mk.lvl ls x.1))) ∧ Row x.2.2.2.2.2.2 9 1 x.2.2.2.2.1 x.1 x.2.2.2.2.2.1 (qAL (Mk.path ls i x.1))) (fun x => h - x.1) (0, A, c, (fun _ => none), none, 0, fun _ => none) (⟨Nat.zero_le _, ⟨F, .head _, by rw [show (Mk.lvl ls (0, A, c, (fun _ => none : Hp)).1).length = n from hlen]; exact hl⟩, qB5.nil⟩) ⟨by rw [← hlen]; rfl, by rw [Nat.pow_zero, Nat.div_one]; rfl, rfl, trivial⟩ (fun _ h => h) ?_
  rintro ⟨j, A1, c1, m, A2, c2, m2⟩ ⟨hj, ⟨mm, hmm, hsl⟩, hrow⟩ I0 hI0
  dsimp only at hj hmm hsl hrow ⊢
  have hj2 := hlv j hj
  have hj3 := hle j
  have hpos : 0 < (Mk.lvl ls j).length := by rw [hj2]; exact Nat.two_pow_pos _
  have hmm2 : mm = F ∨ mm = m := by simpa using hmm
  have hmF : mm ∈ [F, m2, m] := by rcases hmm2 with rfl | rfl <;> simp
  refine J.k fun K7 hK7 => J.g fun K8 hK8 => J.b rfl <| J.f (qAZ qAn rfl rfl) rfl <| J.f (qBJ rfl rfl rfl) rfl <| J.c hK8 <| J.W 0 1 6 23 ?_
  refine J.a0 rfl (fun h23 => ?_) (fun h23 => ?_)
  ·
    refine J.a1 hK7 <| J.V 0 1 6 ?_
    refine J.k fun K9 hK9 => J.T ?_
    have hjh : j < h := by
      rcases Nat.lt_or_ge j h with hlt | hge
      · exact hlt
      · rw [hj2, show h - j = 0 by omega] at h23; simp at h23
    have hij : i / 2 ^ j < 2 ^ (h - j) := by
      rw [Nat.div_lt_iff_lt_mul (Nat.two_pow_pos j), ← Nat.pow_add, show h - j + j = h by omega, ← hn]; exact hi
    have hx1 : i / 2 ^ j ^^^ 1 < (Mk.lvl ls j).length := by
      rw [hj2, show h - j = (h - j - 1) + 1 by omega, Nat.pow_succ, Nat.mul_comm]
      refine Mk.xor_one _ _ ?_
      rw [show h - j = (h - j - 1) + 1 by omega, Nat.pow_succ, Nat.mul_comm] at hij; exact hij
    refine J.E <| J.p 3 rfl <| J.f (qSD rfl rfl rfl ⟨Nat.lt_of_le_of_lt (Nat.div_le_self _ _) (show i < 9223372036854775808 by omega), by decide⟩) rfl <| J.f (qAG rfl rfl rfl qAn z9_ hsl hx1) rfl <| J.f (qAK rfl rfl b9_ hmF (hsl.elem (qAa (Mk.getS (l := Mk.lvl ls j) (j := i / 2 ^ j ^^^ 1) hx1)))) rfl <| J.u (qAH (l := [.tmp 33]) (xs := [[Str ((Mk.lvl ls j).getD ((i / 2 ^ j) ^^^ 1) [])]]) rfl rfl rfl rfl qAn el9 rfl (by decide) (by decide) (by simp)) rfl fun g34 _ => J.u (qAb (i := 1) (m2 := blk g34 [Str ((Mk.lvl ls j).getD ((i / 2 ^ j) ^^^ 1) [])] 9) rfl rfl rfl qAn qAn el9 rfl hrow (by simp) (qAr (q := True) (xs := qAL [((Mk.lvl ls j).getD ((i / 2 ^ j) ^^^ 1) [])]) rfl (by simp [qAL])).sl (qHk _) (by omega) (by omega)) rfl ?_
    rintro ⟨A35, c35, m35⟩ h35
    try dsimp only at h35
    rw [← qB2, ← Mk.path_succ] at h35
    refine J.b rfl <| J.a2 <| J.a4 <| J.q (J.H hK9 ?_)
    refine J.V 0 1 6 ?_
    refine J.E <| J.b rfl <| J.u (qAB rfl rfl ent129 (Ct.use (fun F' hF => qKX F' (hK.mono (hF _ (by simp))) A1 (Mk.lvl ls j).length c1 (Mk.lvl ls j) (hsl.mono (hF _ (by rcases hmm2 with rfl | rfl <;> simp))) (Mk.lvl_small ls hsm j) (by omega)))) rfl ?_
    rintro ⟨A25, c25, m25⟩ h25
    try dsimp only at h25
    refine J.c5 [0, 1, 4] [F, m35, m25] rfl (by decide) <| J.b rfl <| J.f ((qJv rfl rfl rfl ⟨Int.natCast_nonneg _, by decide, Int.ofNat_le.2 (Nat.le_trans (Nat.div_le_self _ _) (show i ≤ 9223372036854775807 by omega))⟩).as (v' := I ((i / 2 ^ (j + 1) : Nat) : Int)) (congrArg I (by rw [Nat.pow_succ, ← Nat.div_div_eq_div_mul]; rfl))) rfl <| J.p 2 rfl <| J.a2 <| J.q <| J.a6 (j + 1, A25, c25, m25, A35, c35, m35) (fun x (hx : _ ∧ h - x.1 < h - j) => hI0 x hx.1 hx.2) ⟨⟨by dsimp only; omega, ⟨m25, by simp, by rw [Mk.lvl_succ_length]; exact h25.sl⟩, h35⟩, by dsimp only; omega⟩ ⟨by rw [Mk.lvl_succ_length]; rfl, rfl, rfl, trivial⟩ (fun _ h => h)
  refine J.b0 <| J.Z <| J.Z <| J.b1 ?_
  refine J.q (J.H hK6 ?_)
  refine J.A 6 ?_
  refine J.k fun K10 hK10 => ?_
  have hjh : j = h := by
    rcases Nat.lt_or_ge j h with hlt | hge
    · have := Nat.one_lt_two_pow_iff.2 (show h - j ≠ 0 by omega)
      omega
    · omega
  refine J.E <| J.p 3 rfl <| J.c hK10 <| J.M 4 5 ?_
  exact J.D <| J.c2 hw0 (fun _ _ h => h) (qDb rfl rfl rfl) (qBD (A2, c2, m2) (by rw [hjh]) (by rw [hjh] at hrow; exact hrow) [0, 1] rfl (by decide))
theorem qQL (F : Hp) (hK : KF F) (xx : List UInt8) (i : Nat) (A : Option Addr) (n c : Nat) (ls : List (List UInt8)) (hl : Sl F 1 A n c (qAL ls)) (hx : xx.length ≤ 1048576) (hsm : ∀ s ∈ ls, s.length ≤ 1048576) (hi : i < 9223372036854775808) (hn : n ≤ 1048576) :
    Ct prog 124 [Str xx, I i, .slice A n c] [F] (fun _ : Unit => Str (Mk.climb xx i ls)) (fun _ => True) (fun _ => [F]) := by
  have hlen : ls.length = n := by have := hl.1; simpa [qAL] using this
  refine Ct.walk func124 rfl ntmps124 rfl (fun w0 hw0 => ?_)
  refine J.g fun K1 hK1 => J.b rfl <| J.c hK1 <| J.V 0 1 2 ?_
  refine J.k fun K2 hK2 => J.g fun K3 hK3 => J.b rfl <| J.f (qAZ qAn rfl rfl) rfl <| J.b rfl <| J.c hK3 <| J.a3 0 1 9 10 11 ?_
  refine J.T <| J.b2 (X := Nat × List UInt8 × Nat) (fun x => [(0, Str x.2.1), (1, I x.2.2), (9, .slice A n c), (10, I n), (11, I x.1)]) (fun _ => [F]) (fun x => x.1 ≤ n ∧ x.2.1.length ≤ 1048576 ∧ x.2.2 ≤ i ∧ Mk.climb x.2.1 x.2.2 (ls.drop x.1) = Mk.climb xx i ls) (fun x => n - x.1) (0, xx, i) (⟨Nat.zero_le _, hx, Nat.le_refl _, rfl⟩) ⟨rfl, rfl, rfl, rfl, rfl, trivial⟩ (fun _ h => h) ?_
  rintro ⟨k, y, j⟩ ⟨hk, hy, hji, hc⟩ I0 hI0
  dsimp only at hk hy hji hc ⊢
  refine J.g fun K4 hK4 => J.f (qAS rfl rfl rfl) rfl <| J.c hK4 <| J.a9 0 1 9 10 11 12 ?_
  refine J.k fun K5 hK5 => J.a0 rfl (fun h12 => ?_) (fun h12 => ?_)
  ·
    refine J.a1 hK5 <| J.a3 0 1 9 10 11 ?_
    refine J.k fun K6 hK6 => J.T <| J.k fun K7 hK7 => ?_
    have hkn : k < n := by omega
    obtain ⟨s, hs⟩ : ∃ s, ls[k]? = some s := ⟨_, List.getElem?_eq_getElem (by omega)⟩
    have hdr : ls.drop k = s :: ls.drop (k + 1) := by
      obtain ⟨hk2, rfl⟩ := List.getElem?_eq_some_iff.1 hs
      exact List.drop_eq_getElem_cons hk2
    rw [hdr, Mk.climb] at hc
    refine J.E <| J.f (qAG rfl rfl rfl qAn z9_ hl (by omega)) rfl <| J.f (qAK rfl rfl b9_ (m := F) (by simp) (hl.elem (qAa hs))) rfl <| J.b rfl <| J.c hK7 <| J.a9 0 1 8 9 10 11 ?_
    refine J.k fun K8 hK8 => J.g fun K9 hK9 => J.b rfl <| J.f (qIz (a := j) (b := 1) rfl rfl rfl (by omega)) rfl <| J.f (qAd rfl rfl rfl) rfl <| J.c hK9 <| J.b9 0 1 8 9 10 11 17 ?_
    refine J.a0 rfl (fun h17 => ?_) (fun h17 => ?_)
    ·
      refine J.E <| J.p 2 rfl <| J.u (qAB rfl rfl ent170 (Ct.use0 (fun F' hF => qI2 F' (hK.mono (hF _ (by simp))) y s hy (hsm _ (List.mem_of_getElem? hs))))) rfl fun g20 _ => J.b rfl <| J.c hK8 <| J.a3 0 1 9 10 11 ?_
      refine J.E <| J.b rfl <| J.f ((qCU (m := 1) rfl rfl rfl (by omega)).nat (j / 2) (by omega)) rfl <| J.b rfl <| J.a2 <| J.a4 <| J.q (J.H hK6 ?_)
      refine J.a3 0 1 9 10 11 ?_
      refine J.E <| J.f (qAO rfl rfl rfl (by omega)) rfl <| J.b rfl <| J.a2 <| J.q ?_
      rw [if_pos (by rw [Nat.and_one_is_mod] at h17; omega)] at hc
      refine J.a6 (k + 1, Mk.node y s, j / 2) (fun x (hx : _ ∧ n - x.1 < n - k) => hI0 x hx.1 hx.2) ⟨⟨by dsimp only; omega, by dsimp only; rw [Mk.node_length]; decide, by dsimp only; omega, hc⟩, by dsimp only; omega⟩ ⟨rfl, rfl, rfl, rfl, rfl, trivial⟩ (fun _ h => h)
    refine J.E <| J.p 2 rfl <| J.u (qAB rfl rfl ent170 (Ct.use0 (fun F' hF => qI2 F' (hK.mono (hF _ (by simp))) s y (hsm _ (List.mem_of_getElem? hs)) hy))) rfl fun g23 _ => J.b rfl <| J.c hK8 <| J.a3 0 1 9 10 11 ?_
    refine J.E <| J.b rfl <| J.f ((qCU (m := 1) rfl rfl rfl (by omega)).nat (j / 2) (by omega)) rfl <| J.b rfl <| J.a2 <| J.a4 <| J.q (J.H hK6 ?_)
    refine J.a3 0 1 9 10 11 ?_
    refine J.E <| J.f (qAO rfl rfl rfl (by omega)) rfl <| J.b rfl <| J.a2 <| J.q ?_
    rw [if_neg (by rw [Nat.and_one_is_mod] at h17; omega)] at hc
    refine J.a6 (k + 1, Mk.node s y, j / 2) (fun x (hx : _ ∧ n - x.1 < n - k) => hI0 x hx.1 hx.2) ⟨⟨by dsimp only; omega, by dsimp only; rw [Mk.node_length]; decide, by dsimp only; omega, hc⟩, by dsimp only; omega⟩ ⟨rfl, rfl, rfl, rfl, rfl, trivial⟩ (fun _ h => h)
  refine J.b0 <| J.Z <| J.Z <| J.b1 ?_
  refine J.q (J.H hK2 ?_)
  refine J.A 0 ?_
  refine J.k fun K10 hK10 => ?_
  rw [List.drop_of_length_le (by omega)] at hc
  refine J.E <| J.p 2 rfl <| J.c hK10 <| J.A 6 ?_
  exact J.D <| J.L hw0 rfl () (by rw [← hc]; rfl) trivial [0] rfl (by decide)
end Go.Proofs.YtfldiegfenndjaaGreatDoor
namespace Go.Proofs.YtfldiegfenndjaaGreatDoor
open Go Go.Fw Go.Proofs.Tryz
set_option maxRecDepth 100000
set_option maxHeartbeats 1000000
attribute [local irreducible] Mk.node
namespace Mk
theorem qRM (m : Nat) : m ^^^ 1 = if m % 2 = 0 then m + 1 else m - 1 := by
 have e1 : (m ^^^ 1) / 2 = m / 2 := by rw [Nat.xor_div_two]; simp
 have e2 : (m ^^^ 1) % 2 = (m % 2) ^^^ 1 := Nat.xor_mod_two_pow (n := 1)
 rcases Nat.mod_two_eq_zero_or_one m with h | h
 · rw [h, show (0 : Nat) ^^^ 1 = 1 from rfl] at e2; rw [if_pos h]; omega
 · rw [h, show (1 : Nat) ^^^ 1 = 0 from rfl] at e2; rw [if_neg (by omega)]; omega
theorem qOO (l : List (List UInt8)) (k : Nat) : (above l)[k]? = if k < l.length / 2 then some (node (l.getD (2 * k) []) (l.getD (2 * k + 1) [])) else none := by
 unfold above
 rw [List.getElem?_map]
 by_cases h : k < l.length / 2
 · rw [if_pos h, List.getElem?_range h]; rfl
 · rw [if_neg h, List.getElem?_eq_none (by simpa using Nat.le_of_not_lt h)]; rfl
theorem qHi {k : Nat} (h : 0 < k) : 2 ^ k % 2 = 0 := by
 rw [show k = (k - 1) + 1 by omega, Nat.pow_succ]; omega
end Mk
attribute [local irreducible] Mk.root Mk.path
end Go.Proofs.YtfldiegfenndjaaGreatDoor
