/- A part of the proof. -/
import Derived.Test.YtfldiegfenndjaaGreatDoorTopCvG8
import Derived.Test.YtfldiegfenndjaaGreatDoorTopCvG11
import Derived.Test.YtfldiegfenndjaaGreatDoorTopCvG10
import Derived.Test.YtfldiegfenndjaaGreatDoorTopCvG18
set_option linter.unusedSimpArgs false
set_option linter.unusedVariables false
namespace Go.Proofs.YtfldiegfenndjaaGreatDoor
open Go Go.Fw Go.Proofs.Tryz
set_option maxRecDepth 100000
set_option maxHeartbeats 1000000
namespace Mk
def node (a b : List UInt8) : List UInt8 := Sha.tagged 5 [a, b]
def above (l : List (List UInt8)) : List (List UInt8) := (List.range (l.length / 2)).map fun k => node (l.getD (2 * k) []) (l.getD (2 * k + 1) [])
def lvl (l : List (List UInt8)) : Nat → List (List UInt8)
 | 0 => l
 | j + 1 => above (lvl l j)
def root (l : List (List UInt8)) (h : Nat) : List UInt8 := (lvl l h).getD 0 []
def path (l : List (List UInt8)) (i h : Nat) : List (List UInt8) := (List.range h).map fun j => (lvl l j).getD ((i / 2 ^ j) ^^^ 1) []
def climb : List UInt8 → Nat → List (List UInt8) → List UInt8
 | x, _, [] => x
 | x, i, s :: r => climb (if i % 2 = 0 then node x s else node s x) (i / 2) r
def Right (n : Nat) : Prop := n = 1 ∨ n = 2 ∨ n = 4 ∨ n = 8 ∨ n = 16 ∨ n = 32 ∨ n = 64
instance (n : Nat) : Decidable (Right n) := by unfold Right; infer_instance
theorem qMW : ∀ n : Fin 65, (1 ≤ n.val ∧ n.val &&& (n.val - 1) = 0) ↔ Right n.val := by decide +kernel
theorem right_of (n : Nat) : (1 ≤ n ∧ n ≤ 64 ∧ n &&& (n - 1) = 0) ↔ Right n := by
  by_cases h : n < 65
  · have := qMW ⟨n, h⟩
    dsimp only at this
    rw [← this]
    constructor
    · intro ⟨a, _, c⟩; exact ⟨a, c⟩
    · intro ⟨a, c⟩; exact ⟨a, by omega, c⟩
  · constructor
    · intro ⟨_, b, _⟩; omega
    · intro hr; unfold Right at hr; omega
theorem right_pow (h : Nat) (h6 : h ≤ 6) : Right (2 ^ h) := by
 have : ∀ h : Fin 7, Right (2 ^ h.val) := by decide +kernel
 exact this ⟨h, by omega⟩
theorem node_length (a b : List UInt8) : (node a b).length = 16 := Sha.tagged_length _ _
theorem qIZ (l : List (List UInt8)) : (above l).length = l.length / 2 := by simp [above]
theorem qJN (l : List (List UInt8)) : ∀ s ∈ above l, s.length = 16 := fun s hs => by
 simp only [above, List.mem_map] at hs
 obtain ⟨k, _, rfl⟩ := hs
 exact node_length _ _
theorem lvl_succ_length (l : List (List UInt8)) (j : Nat) : (lvl l (j + 1)).length = (lvl l j).length / 2 := qIZ _
theorem lvl_length (l : List (List UInt8)) (h : Nat) (hl : l.length = 2 ^ h) : ∀ j, j ≤ h → (lvl l j).length = 2 ^ (h - j)
 | 0, _ => hl
 | j + 1, hj => by
  rw [lvl_succ_length, lvl_length l h hl j (by omega), show h - j = (h - (j + 1)) + 1 by omega, Nat.pow_succ]
  omega
theorem lvl_small (l : List (List UInt8)) (hs : ∀ s ∈ l, s.length ≤ 1048576) : ∀ j, ∀ s ∈ lvl l j, s.length ≤ 1048576
 | 0 => hs
 | j + 1 => fun s h => by rw [qJN _ s h]; decide
theorem xor_one (m k : Nat) (h : m < 2 * k) : m ^^^ 1 < 2 * k := by
 have e1 : (m ^^^ 1) / 2 = m / 2 := by rw [Nat.xor_div_two]; simp
 omega
theorem path_succ (l : List (List UInt8)) (i h : Nat) : path l i (h + 1) = path l i h ++ [(lvl l h).getD ((i / 2 ^ h) ^^^ 1) []] := by simp [path, List.range_succ]
theorem path_length (l : List (List UInt8)) (i h : Nat) : (path l i h).length = h := by simp [path]
theorem above_succ (l : List (List UInt8)) (k : Nat) : ((List.range (k + 1)).map fun k => node (l.getD (2 * k) []) (l.getD (2 * k + 1) [])) = ((List.range k).map fun k => node (l.getD (2 * k) []) (l.getD (2 * k + 1) [])) ++ [node (l.getD (2 * k) []) (l.getD (2 * k + 1) [])] := by simp [List.range_succ]
theorem getS {l : List (List UInt8)} {j : Nat} (h : j < l.length) : l[j]? = some (l.getD j []) := by rw [List.getD_eq_getElem?_getD, List.getElem?_eq_getElem h]; rfl
theorem getS_mem {l : List (List UInt8)} {j : Nat} (h : j < l.length) : l.getD j [] ∈ l := List.mem_of_getElem? (getS h)
end Mk
theorem ent170 : qAF prog 170 := qAF.of func170 rfl (by kernel_rfl)
theorem ent128 : qAF prog 128 := qAF.of func128 rfl (by kernel_rfl)
theorem ent129 : qAF prog 129 := qAF.of func129 rfl (by kernel_rfl)
theorem ent69 : qAF prog 69 := qAF.of func69 rfl (by kernel_rfl)
theorem ent92 : qAF prog 92 := qAF.of func92 rfl (by kernel_rfl)
theorem ent124 : qAF prog 124 := qAF.of func124 rfl (by kernel_rfl)
theorem qHk (a : List (List UInt8)) : (qAJ a).all (fun x => x.all Value.oneCell') = true := by simp [qAJ, Value.oneCell']
attribute [local irreducible] Mk.node
theorem qI2 (F : Hp) (hK : KF F) (a b : List UInt8) (ha : a.length ≤ 1048576) (hb : b.length ≤ 1048576) :
    Ct prog 170 [Str a, Str b] [F] (fun _ : Unit => Str (Mk.node a b)) (fun _ => True) (fun _ => [F]) := by
  refine Ct.walk func170 rfl ntmps170 rfl (fun w0 hw0 => ?_)
  change J _ [(0, _), (1, _)] _ _ _
  refine J.g fun K1 hK1 => J.b rfl <| J.c hK1 <| J.G 0 1 ?_
  refine J.g fun K2 hK2 => J.j 2 rfl <| J.q (qAH (l := [.tmp 5, .tmp 6]) (xs := [[Str a], [Str b]]) rfl rfl rfl rfl qAo el9 rfl (by decide) (by decide) (by simp)) rfl fun g7 _ => ?_
  change J _ _ _ [F, blk g7 [Str a, Str b] 9] _
  refine J.q (qAC rfl rfl ent44 (Ct.use0 (fun F' hF => qA4 F' (hK.mono (hF _ (by simp))) 5 (some ⟨g7, 0, none⟩) 2 2 [a, b] (((qAn (q := True) (xs := qAJ [a, b]) rfl (by simp [qAJ])).sl (m := blk g7 [Str a, Str b] 9)).mono (hF _ (by simp))) (by simp; omega) (by decide)))) rfl fun g8 _ => J.b rfl <| J.c hK2 <| J.u 4 ?_
  exact J.D <| J.H hw0 rfl () (by unfold Mk.node; rfl) trivial [0] rfl (by decide)
theorem qJk (F : Hp) (n : Nat) (hn : n < 9223372036854775808) : Ct prog 128 [I n] [F] (fun _ : Unit => .bool (decide (Mk.Right n))) (fun _ => True) (fun _ => [F]) := by
 have hR := Mk.right_of n
 refine Ct.walk func128 rfl ntmps128 rfl (fun w0 hw0 => ?_)
 change J _ [(0, _)] _ _ _
 refine J.g fun K1 hK1 => J.b rfl <| J.c hK1 <| J.u 0 ?_
 refine J.g fun K2 hK2 => J.b rfl <| J.f (qBR rfl rfl rfl) rfl <| J.b rfl <| J.c2 (d := 5) rfl (fun h5 => ?_) (fun h5 => ?_)
 ·
  refine J.b rfl <| J.E (qB1 rfl rfl rfl) rfl <| J.j 2 rfl <| J.c2 (d := 9) rfl (fun h9 => ?_) (fun h9 => ?_)
  ·
   refine J.j 2 rfl <| J.E ((qBI rfl rfl rfl (by omega)).nat (n - 1) (by omega)) rfl <| J.E (qI0 (a := n) (b := n - 1) rfl rfl rfl (by omega)) rfl <| J.E (qAa rfl rfl rfl) rfl <| J.j 2 rfl <| J.c hK2 <| J.u 2 ?_
   exact J.D <| J.H hw0 rfl () (congrArg Value.bool (decide_eq_decide.2 (by rw [← hR]; omega))) trivial [0] rfl (by decide)
  refine J.j 7 rfl <| J.c hK2 <| J.u 2 ?_
  exact J.D <| J.H hw0 rfl () (congrArg Value.bool (decide_eq_false (by rw [← hR]; omega)).symm) trivial [0] rfl (by decide)
 refine J.j 11 rfl <| J.c hK2 <| J.u 2 ?_
 exact J.D <| J.H hw0 rfl () (congrArg Value.bool (decide_eq_false (by rw [← hR]; omega)).symm) trivial [0] rfl (by decide)
theorem qKQ (F : Hp) (hK : KF F) (A : Option Addr) (n c : Nat) (ls : List (List UInt8)) (hl : Sl F 1 A n c (qAJ ls)) (hsm : ∀ s ∈ ls, s.length ≤ 1048576) (hn : n ≤ 1048576) :
    Ct prog 129 [.slice A n c] [F] (fun x : Option Addr × Nat × Hp => .slice x.1 (n / 2) x.2.1) (fun x => Row x.2.2 9 1 x.1 (n / 2) x.2.1 (qAJ (Mk.above ls))) (fun x => [F, x.2.2]) := by
  have hlen : ls.length = n := by have := hl.1; simpa [qAJ] using this
  refine Ct.walk func129 rfl ntmps129 rfl (fun w0 hw0 => ?_)
  change J _ [(0, _)] _ _ _
  refine J.g fun K1 hK1 => J.b rfl <| J.c hK1 <| J.u 0 ?_
  refine J.g fun K2 hK2 => J.b rfl <| J.c hK2 <| J.G 0 3 ?_
  refine J.p fun K3 hK3 => J.p fun K4 hK4 => J.d6 [0, 1] [F, (fun _ => none)] rfl (by decide) <| J.M <| J.b rfl <| J.c hK4 <| J.O 0 3 4 ?_
  refine J.W <| J.b6 (X := Nat × Option Addr × Nat × Hp) (fun x => [(0, .slice A n c), (3, .slice x.2.1 x.1 x.2.2.1), (4, I ((2 * x.1 : Nat) : Int))]) (fun x => [F, x.2.2.2]) (fun x => 2 * x.1 ≤ n ∧ Row x.2.2.2 9 1 x.2.1 x.1 x.2.2.1 (qAJ ((List.range x.1).map fun k => Mk.node (ls.getD (2 * k) []) (ls.getD (2 * k + 1) [])))) (fun x => n - x.1) (0, none, 0, fun _ => none) (⟨Nat.zero_le _, qCA.nil⟩) ⟨rfl, rfl, rfl, trivial⟩ (fun _ h => h) ?_
  rintro ⟨k, A1, c1, m⟩ ⟨hk, hrow⟩ I0 hI0
  dsimp only at hk hrow ⊢
  refine J.p fun K5 hK5 => J.g fun K6 hK6 => J.b rfl <| J.f ((qAU rfl rfl rfl (by omega))) rfl <| J.b rfl <| J.f (qAh qAo rfl rfl) rfl <| J.f (qAX rfl rfl rfl) rfl <| J.c hK6 <| J.T 0 3 4 9 ?_
  refine J.a0 rfl (fun h9 => ?_) (fun h9 => ?_)
  ·
    refine J.a1 hK5 <| J.O 0 3 4 ?_
    refine J.p fun K7 hK7 => J.W <| J.c0 [F] [] (.y 0 (.y 1 (.y 2 (.y 3 (.y 4 (.y 5 (.y 6 (.y 7 (.y 8 (.y 9 (.e 10 (.e 11 (.e 12 (.y 13 .nil)))))))))))))) Tryz.wide (by decide +kernel) (by simp) ?_
    iterate 3 refine J.V ?_
    refine J.k rfl (qAK (i := 2 * k) rfl rfl rfl qAo z9_ hl (by omega)) rfl rfl <| J.k rfl (qAQ rfl rfl b9_ (m := F) (by simp) (hl.elem (qAZ (Mk.getS (l := ls) (j := 2 * k) (by omega))))) rfl rfl <| J.V ?_
    refine J.V ?_
    refine J.k rfl ((qAU rfl rfl rfl (by omega)).nat (2 * k + 1) (by omega)) rfl rfl <| J.k rfl (qAK (i := 2 * k + 1) rfl rfl rfl qAo z9_ hl (by omega)) rfl rfl <| J.k rfl (qAQ rfl rfl b9_ (m := F) (by simp) (hl.elem (qAZ (Mk.getS (l := ls) (j := 2 * k + 1) (by omega))))) rfl rfl <| J.a2 rfl (qAC rfl rfl ent170 (Ct.use0 (fun F' hF => qI2 F' (hK.mono (hF _ (by simp))) (ls.getD (2 * k) []) (ls.getD (2 * k + 1) []) (hsm _ (Mk.getS_mem (by omega))) (hsm _ (Mk.getS_mem (by omega)))))) rfl (by simp) fun g22 _ => J.a2 rfl (qAH (l := [.tmp 22]) (xs := [[Str (Mk.node (ls.getD (2 * k) []) (ls.getD (2 * k + 1) []))]]) rfl rfl rfl rfl qAo el9 rfl (by decide) (by decide) (by simp)) rfl (by simp) fun g23 _ => ?_
    change J _ _ _ [F, m, blk g23 [Str (Mk.node (ls.getD (2 * k) []) (ls.getD (2 * k + 1) []))] 9] _
    refine J.a2 rfl (qAY (i := 1) (m2 := blk g23 [Str (Mk.node (ls.getD (2 * k) []) (ls.getD (2 * k + 1) []))] 9) (ys := qAJ [Mk.node (ls.getD (2 * k) []) (ls.getD (2 * k + 1) [])]) rfl rfl rfl qAo qAo el9 rfl hrow (by simp) (qAn (q := True) (xs := qAJ [Mk.node (ls.getD (2 * k) []) (ls.getD (2 * k + 1) [])]) rfl (by simp [qAJ])).sl (qHk _) (by omega) (by omega)) rfl (by simp) ?_
    rintro ⟨A24, c24, m24⟩ h24
    try dsimp only at h24
    change J _ ((24, .slice A24 (k + 1) c24) :: _) _ [_, m24, _] _
    rw [← qBw, ← Mk.above_succ ls k] at h24
    refine J.c1 ?_
    refine J.b3 <| J.a5 <| J.A (J.L hK7 ?_)
    refine J.O 0 3 4 ?_
    refine J.c4 [0, 1] [F, m24] rfl (by decide) <| J.M <| J.b rfl <| J.f ((qAU rfl rfl rfl (by omega)).nat (2 * (k + 1)) (by omega)) rfl <| J.b rfl <| J.a6 <| J.A <| J.a8 (k + 1, A24, c24, m24) (fun x (hx : _ ∧ n - x.1 < n - k) => hI0 x hx.1 hx.2) ⟨⟨by dsimp only; omega, h24⟩, by dsimp only; omega⟩ ⟨rfl, rfl, rfl, trivial⟩ (fun _ h => h)
  refine J.b5 <| J.a4 <| J.a4 <| J.b7 ?_
  refine J.A (J.L hK3 ?_)
  refine J.u 3 ?_
  refine J.g fun K8 hK8 => J.j 2 rfl <| J.c hK8 <| J.u 2 ?_
  refine J.D ?_
  have hk2 : k = n / 2 := by omega
  subst hk2
  exact J.H hw0 rfl (A1, c1, m) rfl (by rw [← hlen] at hrow; unfold Mk.above; rw [← hlen]; exact hrow) [0, 1] rfl (by decide)
theorem qRc (F : Hp) (hK : KF F) (A : Option Addr) (n c : Nat) (ls : List (List UInt8)) (hl : Sl F 1 A n c (qAJ ls)) (h : Nat) (h6 : h ≤ 6) (hn : n = 2 ^ h) (hsm : ∀ s ∈ ls, s.length ≤ 1048576) :
    Ct prog 69 [.slice A n c] [F] (fun _ : Unit => .tuple #[Str (Mk.root ls h), I 0]) (fun _ => True) (fun _ => [F]) := by
  have hlen : ls.length = n := by have := hl.1; simpa [qAJ] using this
  have hR : Mk.Right n := by rw [hn]; exact Mk.right_pow h h6
  have hn64 : n ≤ 64 := by unfold Mk.Right at hR; omega
  have hlv : ∀ j, j ≤ h → (Mk.lvl ls j).length = 2 ^ (h - j) := Mk.lvl_length ls h (by omega)
  have hle : ∀ j, 2 ^ (h - j) ≤ 64 := fun j => Nat.le_trans (Nat.pow_le_pow_right (by decide) (show h - j ≤ 6 by omega)) (by decide)
  refine Ct.walk func69 rfl ntmps69 rfl (fun w0 hw0 => ?_)
  change J _ [(0, _)] _ _ _
  refine J.g fun K1 hK1 => J.j 2 rfl <| J.c hK1 <| J.u 0 ?_
  refine J.p fun K2 hK2 => J.g fun K3 hK3 => J.b rfl <| J.f (qAh qAo rfl rfl) rfl <| J.q (qAC rfl rfl ent128 (qJk F n (by omega))) rfl fun g6 _ => J.f ((qFR rfl rfl).as (v' := .bool false) (by simp [hR])) rfl <| J.d6 [0, 1] [F, (fun _ => none)] rfl (by decide) <| J.c hK3 <| J.G 0 7 ?_
  refine J.b2 ?_
  refine J.a1 hK2 <| J.u 0 ?_
  refine J.p fun K4 hK4 => J.W <| J.b6 (X := Nat × Option Addr × Nat × Hp) (fun x => [(0, .slice x.2.1 (Mk.lvl ls x.1).length x.2.2.1)]) (fun x => [F, x.2.2.2]) (fun x => x.1 ≤ h ∧ ∃ mm ∈ [F, x.2.2.2], Sl mm 1 x.2.1 (Mk.lvl ls x.1).length x.2.2.1 (qAJ (Mk.lvl ls x.1))) (fun x => h - x.1) (0, A, c, fun _ => none) (⟨Nat.zero_le _, F, .head _, by rw [show (Mk.lvl ls (0, A, c, (fun _ => none : Hp)).1).length = n from hlen]; exact hl⟩) ⟨by rw [← hlen]; rfl, trivial⟩ (fun _ h => h) ?_
  rintro ⟨j, A1, c1, m⟩ ⟨hj, mm, hmm, hsl⟩ I0 hI0
  dsimp only at hj hmm hsl ⊢
  have hj2 := hlv j hj
  have hj3 := hle j
  have hpos : 0 < (Mk.lvl ls j).length := by rw [hj2]; exact Nat.two_pow_pos _
  have hmm2 : mm = F ∨ mm = m := by simpa using hmm
  refine J.p fun K5 hK5 => J.g fun K6 hK6 => J.b rfl <| J.f (qAh qAo rfl rfl) rfl <| J.f (qBQ rfl rfl rfl) rfl <| J.c hK6 <| J.G 0 10 ?_
  refine J.a0 rfl (fun h10 => ?_) (fun h10 => ?_)
  ·
    refine J.a1 hK5 <| J.u 0 ?_
    refine J.W ?_
    have hjh : j < h := by
      rcases Nat.lt_or_ge j h with hlt | hge
      · exact hlt
      · rw [hj2, show h - j = 0 by omega] at h10; simp at h10
    refine J.M <| J.b rfl <| J.q (qAC rfl rfl ent129 (Ct.use (fun F' hF => qKQ F' (hK.mono (hF _ (by simp))) A1 (Mk.lvl ls j).length c1 (Mk.lvl ls j) (hsl.mono (hF _ (by rcases hmm2 with rfl | rfl <;> simp))) (Mk.lvl_small ls hsm j) (by omega)))) rfl ?_
    rintro ⟨A12, c12, m12⟩ h12
    try dsimp only at h12
    change J _ ((12, .slice A12 ((Mk.lvl ls j).length / 2) c12) :: _) _ [F, m, m12] _
    refine J.c4 [0, 2] [F, m12] rfl (by decide) <| J.b rfl <| J.a6 <| J.a5 <| J.A <| J.a8 (j + 1, A12, c12, m12) (fun x (hx : _ ∧ h - x.1 < h - j) => hI0 x hx.1 hx.2) ⟨⟨by dsimp only; omega, m12, by simp, by rw [Mk.lvl_succ_length]; exact h12.sl⟩, by dsimp only; omega⟩ ⟨by rw [Mk.lvl_succ_length]; rfl, trivial⟩ (fun _ h => h)
  refine J.b5 <| J.a4 <| J.a4 <| J.b7 ?_
  refine J.A (J.L hK4 ?_)
  refine J.u 0 ?_
  refine J.p fun K7 hK7 => ?_
  have hjh : j = h := by
    rcases Nat.lt_or_ge j h with hlt | hge
    · have := Nat.one_lt_two_pow_iff.2 (show h - j ≠ 0 by omega)
      omega
    · omega
  refine J.M <| J.b rfl <| J.f (qAK (m := mm) (i := 0) rfl rfl rfl qAo z9_ hsl hpos) rfl <| J.f (qAQ rfl rfl b9_ hmm (hsl.elem (qAZ (Mk.getS (l := Mk.lvl ls j) (j := 0) hpos)))) rfl <| J.j 2 rfl <| J.c hK7 <| J.G 2 3 ?_
  exact J.D <| J.b8 hw0 (fun _ _ h => h) (qCx rfl rfl rfl) (qA6 () (by rw [hjh]; rfl) trivial [0] rfl (by decide))
theorem qRp (F : Hp) (hK : KF F) (A : Option Addr) (n c : Nat) (ls : List (List UInt8)) (hl : Sl F 1 A n c (qAJ ls)) (h : Nat) (h6 : h ≤ 6) (hn : n = 2 ^ h) (hsm : ∀ s ∈ ls, s.length ≤ 1048576) (i : Nat) (hi : i < n) :
    Ct prog 92 [.slice A n c, I i] [F] (fun x : Option Addr × Nat × Hp => .tuple #[.slice x.1 h x.2.1, I 0]) (fun x => Row x.2.2 9 1 x.1 h x.2.1 (qAJ (Mk.path ls i h))) (fun x => [F, x.2.2]) := by
  have hlen : ls.length = n := by have := hl.1; simpa [qAJ] using this
  have hR : Mk.Right n := by rw [hn]; exact Mk.right_pow h h6
  have hn64 : n ≤ 64 := by unfold Mk.Right at hR; omega
  have hlv : ∀ j, j ≤ h → (Mk.lvl ls j).length = 2 ^ (h - j) := Mk.lvl_length ls h (by omega)
  have hle : ∀ j, 2 ^ (h - j) ≤ 64 := fun j => Nat.le_trans (Nat.pow_le_pow_right (by decide) (show h - j ≤ 6 by omega)) (by decide)
  refine Ct.walk func92 rfl ntmps92 rfl (fun w0 hw0 => ?_)
  change J _ [(0, _), (1, _)] _ _ _
  refine J.g fun K1 hK1 => J.j 2 rfl <| J.c hK1 <| J.G 0 1 ?_
  refine J.p fun K2 hK2 => J.W <| J.g fun K3 hK3 => J.b rfl <| J.f (qAh qAo rfl rfl) rfl <| J.q (qAC rfl rfl ent128 (qJk F n (by omega))) rfl fun g10 _ => J.f ((qFR rfl rfl).as (v' := .bool false) (by simp [hR])) rfl <| J.b rfl <| J.c hK3 <| J.O 0 1 7 ?_
  refine J.b2 ?_
  refine J.g fun K4 hK4 => J.b rfl <| J.f ((qAX rfl rfl rfl).no (by omega)) rfl <| J.j 3 rfl <| J.E (qAh qAo rfl rfl) rfl <| J.E ((qBR rfl rfl rfl).no (by omega)) rfl <| J.j 2 rfl <| J.c hK4 <| J.O 0 1 12 ?_
  refine J.b2 ?_
  refine J.b9 <| J.a5 <| J.A (J.L hK2 ?_)
  refine J.G 0 1 ?_
  refine J.p fun K5 hK5 => J.d6 [0, 1] [F, (fun _ => none)] rfl (by decide) <| J.d6 [0, 1, 2] [F, (fun _ => none), (fun _ => none)] rfl (by decide) <| J.M <| J.b rfl <| J.c hK5 <| J.O 0 1 6 ?_
  refine J.p fun K6 hK6 => J.W <| J.b6 (X := Nat × Option Addr × Nat × Hp × Option Addr × Nat × Hp) (fun x => [(0, .slice x.2.1 (Mk.lvl ls x.1).length x.2.2.1), (1, I ((i / 2 ^ x.1 : Nat) : Int)), (6, .slice x.2.2.2.2.1 x.1 x.2.2.2.2.2.1)]) (fun x => [F, x.2.2.2.2.2.2, x.2.2.2.1]) (fun x => x.1 ≤ h ∧ (∃ mm ∈ [F, x.2.2.2.1], Sl mm 1 x.2.1 (Mk.lvl ls x.1).length x.2.2.1 (qAJ (Mk.lvl ls x.1))) ∧ Row x.2.2.2.2.2.2 9 1 x.2.2.2.2.1 x.1 x.2.2.2.2.2.1 (qAJ (Mk.path ls i x.1))) (fun x => h - x.1) (0, A, c, (fun _ => none), none, 0, fun _ => none) (⟨Nat.zero_le _, ⟨F, .head _, by rw [show (Mk.lvl ls (0, A, c, (fun _ => none : Hp)).1).length = n from hlen]; exact hl⟩, qCA.nil⟩) ⟨by rw [← hlen]; rfl, by rw [Nat.pow_zero, Nat.div_one]; rfl, rfl, trivial⟩ (fun _ h => h) ?_
  rintro ⟨j, A1, c1, m, A2, c2, m2⟩ ⟨hj, ⟨mm, hmm, hsl⟩, hrow⟩ I0 hI0
  dsimp only at hj hmm hsl hrow ⊢
  have hj2 := hlv j hj
  have hj3 := hle j
  have hpos : 0 < (Mk.lvl ls j).length := by rw [hj2]; exact Nat.two_pow_pos _
  have hmm2 : mm = F ∨ mm = m := by simpa using hmm
  have hmF : mm ∈ [F, m2, m] := by rcases hmm2 with rfl | rfl <;> simp
  refine J.p fun K7 hK7 => J.g fun K8 hK8 => J.b rfl <| J.f (qAh qAo rfl rfl) rfl <| J.f (qBQ rfl rfl rfl) rfl <| J.c hK8 <| J.T 0 1 6 23 ?_
  refine J.a0 rfl (fun h23 => ?_) (fun h23 => ?_)
  ·
    refine J.a1 hK7 <| J.O 0 1 6 ?_
    refine J.p fun K9 hK9 => J.W ?_
    have hjh : j < h := by
      rcases Nat.lt_or_ge j h with hlt | hge
      · exact hlt
      · rw [hj2, show h - j = 0 by omega] at h23; simp at h23
    have hij : i / 2 ^ j < 2 ^ (h - j) := by
      rw [Nat.div_lt_iff_lt_mul (Nat.two_pow_pos j), ← Nat.pow_add, show h - j + j = h by omega, ← hn]; exact hi
    have hx1 : i / 2 ^ j ^^^ 1 < (Mk.lvl ls j).length := by
      rw [hj2, show h - j = (h - j - 1) + 1 by omega, Nat.pow_succ, Nat.mul_comm]
      refine Mk.xor_one _ _ ?_
      rw [show h - j = (h - j - 1) + 1 by omega, Nat.pow_succ, Nat.mul_comm] at hij; exact hij
    refine J.M <| J.j 3 rfl <| J.f (qMr (a := i / 2 ^ j) (b := 1) rfl rfl rfl ⟨Nat.lt_of_le_of_lt (Nat.div_le_self _ _) (show i < 9223372036854775808 by omega), by decide⟩) rfl <| J.f (qAK (m := mm) (i := i / 2 ^ j ^^^ 1) rfl rfl rfl qAo z9_ hsl hx1) rfl <| J.f (qAQ rfl rfl b9_ hmF (hsl.elem (qAZ (Mk.getS (l := Mk.lvl ls j) (j := i / 2 ^ j ^^^ 1) hx1)))) rfl <| J.q (qAH (l := [.tmp 33]) (xs := [[Str ((Mk.lvl ls j).getD ((i / 2 ^ j) ^^^ 1) [])]]) rfl rfl rfl rfl qAo el9 rfl (by decide) (by decide) (by simp)) rfl fun g34 _ => ?_
    change J _ _ _ [F, m2, m, blk g34 [Str ((Mk.lvl ls j).getD ((i / 2 ^ j) ^^^ 1) [])] 9] _
    refine J.q (qAY (i := 1) (m2 := blk g34 [Str ((Mk.lvl ls j).getD ((i / 2 ^ j) ^^^ 1) [])] 9) (ys := qAJ [((Mk.lvl ls j).getD ((i / 2 ^ j) ^^^ 1) [])]) rfl rfl rfl qAo qAo el9 rfl hrow (by simp) (qAn (q := True) (xs := qAJ [((Mk.lvl ls j).getD ((i / 2 ^ j) ^^^ 1) [])]) rfl (by simp [qAJ])).sl (qHk _) (by omega) (by omega)) rfl ?_
    rintro ⟨A35, c35, m35⟩ h35
    try dsimp only at h35
    change J _ ((35, .slice A35 (j + 1) c35) :: _) _ [_, m35, _, _] _
    rw [← qBw, ← Mk.path_succ] at h35
    refine J.b rfl <| J.a6 <| J.a5 <| J.A (J.L hK9 ?_)
    refine J.O 0 1 6 ?_
    refine J.M <| J.b rfl <| J.q (qAC rfl rfl ent129 (Ct.use (fun F' hF => qKQ F' (hK.mono (hF _ (by simp))) A1 (Mk.lvl ls j).length c1 (Mk.lvl ls j) (hsl.mono (hF _ (by rcases hmm2 with rfl | rfl <;> simp))) (Mk.lvl_small ls hsm j) (by omega)))) rfl ?_
    rintro ⟨A25, c25, m25⟩ h25
    try dsimp only at h25
    change J _ ((25, .slice A25 ((Mk.lvl ls j).length / 2) c25) :: _) _ [_, _, _, _, m25] _
    refine J.c4 [0, 1, 4] [F, m35, m25] rfl (by decide) <| J.b rfl <| J.f ((qJt rfl rfl rfl ⟨Int.natCast_nonneg _, by decide, Int.ofNat_le.2 (Nat.le_trans (Nat.div_le_self _ _) (show i ≤ 9223372036854775807 by omega))⟩).as (v' := I ((i / 2 ^ (j + 1) : Nat) : Int)) (congrArg I (by rw [Nat.pow_succ, ← Nat.div_div_eq_div_mul]; rfl))) rfl <| J.j 2 rfl <| J.a6 <| J.A <| J.a8 (j + 1, A25, c25, m25, A35, c35, m35) (fun x (hx : _ ∧ h - x.1 < h - j) => hI0 x hx.1 hx.2) ⟨⟨by dsimp only; omega, ⟨m25, by simp, by rw [Mk.lvl_succ_length]; exact h25.sl⟩, h35⟩, by dsimp only; omega⟩ ⟨by rw [Mk.lvl_succ_length]; rfl, rfl, rfl, trivial⟩ (fun _ h => h)
  refine J.b5 <| J.a4 <| J.a4 <| J.b7 ?_
  refine J.A (J.L hK6 ?_)
  refine J.u 6 ?_
  refine J.p fun K10 hK10 => ?_
  have hjh : j = h := by
    rcases Nat.lt_or_ge j h with hlt | hge
    · have := Nat.one_lt_two_pow_iff.2 (show h - j ≠ 0 by omega)
      omega
    · omega
  refine J.M <| J.j 3 rfl <| J.c hK10 <| J.G 4 5 ?_
  exact J.D <| J.b8 hw0 (fun _ _ h => h) (qCx rfl rfl rfl) (qA6 (A2, c2, m2) (by rw [hjh]) (by rw [hjh] at hrow; exact hrow) [0, 1] rfl (by decide))
theorem qPz (F : Hp) (hK : KF F) (xx : List UInt8) (i : Nat) (A : Option Addr) (n c : Nat) (ls : List (List UInt8)) (hl : Sl F 1 A n c (qAJ ls)) (hx : xx.length ≤ 1048576) (hsm : ∀ s ∈ ls, s.length ≤ 1048576) (hi : i < 9223372036854775808) (hn : n ≤ 1048576) :
    Ct prog 124 [Str xx, I i, .slice A n c] [F] (fun _ : Unit => Str (Mk.climb xx i ls)) (fun _ => True) (fun _ => [F]) := by
  have hlen : ls.length = n := by have := hl.1; simpa [qAJ] using this
  refine Ct.walk func124 rfl ntmps124 rfl (fun w0 hw0 => ?_)
  change J _ [(0, _), (1, _), (2, _)] _ _ _
  refine J.g fun K1 hK1 => J.b rfl <| J.c hK1 <| J.O 0 1 2 ?_
  refine J.p fun K2 hK2 => J.g fun K3 hK3 => J.b rfl <| J.f (qAh qAo rfl rfl) rfl <| J.b rfl <| J.c hK3 <| J.a3 0 1 9 10 11 ?_
  refine J.W <| J.b6 (X := Nat × List UInt8 × Nat) (fun x => [(0, Str x.2.1), (1, I x.2.2), (9, .slice A n c), (10, I n), (11, I x.1)]) (fun _ => [F]) (fun x => x.1 ≤ n ∧ x.2.1.length ≤ 1048576 ∧ x.2.2 ≤ i ∧ Mk.climb x.2.1 x.2.2 (ls.drop x.1) = Mk.climb xx i ls) (fun x => n - x.1) (0, xx, i) (⟨Nat.zero_le _, hx, Nat.le_refl _, rfl⟩) ⟨rfl, rfl, rfl, rfl, rfl, trivial⟩ (fun _ h => h) ?_
  rintro ⟨k, y, j⟩ ⟨hk, hy, hji, hc⟩ I0 hI0
  dsimp only at hk hy hji hc ⊢
  refine J.g fun K4 hK4 => J.f (qAX rfl rfl rfl) rfl <| J.c hK4 <| J.b1 0 1 9 10 11 12 ?_
  refine J.p fun K5 hK5 => J.a0 rfl (fun h12 => ?_) (fun h12 => ?_)
  ·
    refine J.a1 hK5 <| J.a3 0 1 9 10 11 ?_
    refine J.p fun K6 hK6 => J.W <| J.p fun K7 hK7 => ?_
    have hkn : k < n := by omega
    obtain ⟨s, hs⟩ : ∃ s, ls[k]? = some s := ⟨_, List.getElem?_eq_getElem (by omega)⟩
    have hdr : ls.drop k = s :: ls.drop (k + 1) := by
      obtain ⟨hk2, rfl⟩ := List.getElem?_eq_some_iff.1 hs
      exact List.drop_eq_getElem_cons hk2
    rw [hdr, Mk.climb] at hc
    refine J.M <| J.f (qAK (i := k) rfl rfl rfl qAo z9_ hl (by omega)) rfl <| J.f (qAQ rfl rfl b9_ (m := F) (by simp) (hl.elem (qAZ hs))) rfl <| J.b rfl <| J.c hK7 <| J.b1 0 1 8 9 10 11 ?_
    refine J.p fun K8 hK8 => J.g fun K9 hK9 => J.b rfl <| J.f (qI0 (a := j) (b := 1) rfl rfl rfl (by omega)) rfl <| J.f (qAa rfl rfl rfl) rfl <| J.c hK9 <| J.c3 0 1 8 9 10 11 17 ?_
    refine J.a0 rfl (fun h17 => ?_) (fun h17 => ?_)
    ·
      refine J.M <| J.j 2 rfl <| J.q (qAC rfl rfl ent170 (Ct.use0 (fun F' hF => qI2 F' (hK.mono (hF _ (by simp))) y s hy (hsm _ (List.mem_of_getElem? hs))))) rfl fun g20 _ => J.b rfl <| J.c hK8 <| J.a3 0 1 9 10 11 ?_
      refine J.M <| J.b rfl <| J.f ((qCM (m := 1) rfl rfl rfl (by omega)).nat (j / 2) (by omega)) rfl <| J.b rfl <| J.a6 <| J.a5 <| J.A (J.L hK6 ?_)
      refine J.a3 0 1 9 10 11 ?_
      refine J.M <| J.f (qAU rfl rfl rfl (by omega)) rfl <| J.b rfl <| J.a6 <| J.A ?_
      rw [if_pos (by rw [Nat.and_one_is_mod] at h17; omega)] at hc
      refine J.a8 (k + 1, Mk.node y s, j / 2) (fun x (hx : _ ∧ n - x.1 < n - k) => hI0 x hx.1 hx.2) ⟨⟨by dsimp only; omega, by dsimp only; rw [Mk.node_length]; decide, by dsimp only; omega, hc⟩, by dsimp only; omega⟩ ⟨rfl, rfl, rfl, rfl, rfl, trivial⟩ (fun _ h => h)
    refine J.M <| J.j 2 rfl <| J.q (qAC rfl rfl ent170 (Ct.use0 (fun F' hF => qI2 F' (hK.mono (hF _ (by simp))) s y (hsm _ (List.mem_of_getElem? hs)) hy))) rfl fun g23 _ => J.b rfl <| J.c hK8 <| J.a3 0 1 9 10 11 ?_
    refine J.M <| J.b rfl <| J.f ((qCM (m := 1) rfl rfl rfl (by omega)).nat (j / 2) (by omega)) rfl <| J.b rfl <| J.a6 <| J.a5 <| J.A (J.L hK6 ?_)
    refine J.a3 0 1 9 10 11 ?_
    refine J.M <| J.f (qAU rfl rfl rfl (by omega)) rfl <| J.b rfl <| J.a6 <| J.A ?_
    rw [if_neg (by rw [Nat.and_one_is_mod] at h17; omega)] at hc
    refine J.a8 (k + 1, Mk.node s y, j / 2) (fun x (hx : _ ∧ n - x.1 < n - k) => hI0 x hx.1 hx.2) ⟨⟨by dsimp only; omega, by dsimp only; rw [Mk.node_length]; decide, by dsimp only; omega, hc⟩, by dsimp only; omega⟩ ⟨rfl, rfl, rfl, rfl, rfl, trivial⟩ (fun _ h => h)
  refine J.b5 <| J.a4 <| J.a4 <| J.b7 ?_
  refine J.A (J.L hK2 ?_)
  refine J.u 0 ?_
  refine J.p fun K10 hK10 => ?_
  rw [List.drop_of_length_le (by omega)] at hc
  refine J.M <| J.j 2 rfl <| J.c hK10 <| J.u 6 ?_
  exact J.D <| J.H hw0 rfl () (by rw [← hc]; rfl) trivial [0] rfl (by decide)
end Go.Proofs.YtfldiegfenndjaaGreatDoor
namespace Go.Proofs.YtfldiegfenndjaaGreatDoor
open Go Go.Fw Go.Proofs.Tryz
set_option maxRecDepth 100000
set_option maxHeartbeats 1000000
attribute [local irreducible] Mk.node
namespace Mk
theorem qQ1 (m : Nat) : m ^^^ 1 = if m % 2 = 0 then m + 1 else m - 1 := by
 have e1 : (m ^^^ 1) / 2 = m / 2 := by rw [Nat.xor_div_two]; simp
 have e2 : (m ^^^ 1) % 2 = (m % 2) ^^^ 1 := Nat.xor_mod_two_pow (n := 1)
 rcases Nat.mod_two_eq_zero_or_one m with h | h
 · rw [h, show (0 : Nat) ^^^ 1 = 1 from rfl] at e2; rw [if_pos h]; omega
 · rw [h, show (1 : Nat) ^^^ 1 = 0 from rfl] at e2; rw [if_neg (by omega)]; omega
theorem qN4 (l : List (List UInt8)) (k : Nat) : (above l)[k]? = if k < l.length / 2 then some (node (l.getD (2 * k) []) (l.getD (2 * k + 1) [])) else none := by
 unfold above
 rw [List.getElem?_map]
 by_cases h : k < l.length / 2
 · rw [if_pos h, List.getElem?_range h]; rfl
 · rw [if_neg h, List.getElem?_eq_none (by simpa using Nat.le_of_not_lt h)]; rfl
theorem qHi {k : Nat} (h : 0 < k) : 2 ^ k % 2 = 0 := by
 rw [show k = (k - 1) + 1 by omega, Nat.pow_succ]; omega
end Mk
attribute [local irreducible] Mk.root Mk.path
end Go.Proofs.YtfldiegfenndjaaGreatDoor
namespace Go.Proofs.YtfldiegfenndjaaGreatDoor
open Go Go.Fw Go.Proofs.Tryz
set_option maxRecDepth 100000
set_option maxHeartbeats 1000000
attribute [local irreducible] Mk.node
namespace Mk
theorem qGX (s : List UInt8) : ∀ (p : List (List UInt8)) (x : List UInt8) (i : Nat), climb x i (p ++ [s]) = if i / 2 ^ p.length % 2 = 0 then node (climb x i p) s else node s (climb x i p)
 | [], x, i => by simp [climb]
 | a :: p, x, i => by
  rw [List.cons_append, climb, climb, qGX s p, List.length_cons, Nat.pow_succ, Nat.mul_comm, ← Nat.div_div_eq_div_mul]
theorem qIR (l : List (List UInt8)) (h i : Nat) (hl : l.length = 2 ^ h) (hi : i < 2 ^ h) : ∀ j, j ≤ h → climb (l.getD i []) i (path l i j) = (lvl l j).getD (i / 2 ^ j) []
  | 0, _ => by simp [path, climb, lvl]
  | j + 1, hj => by
    have hlen := lvl_length l h hl j (by omega)
    have h1 : i / 2 ^ j < 2 ^ (h - j) := by rw [Nat.div_lt_iff_lt_mul (Nat.two_pow_pos j), ← Nat.pow_add, show h - j + j = h by omega]; exact hi
    have h2 := qHi (show 0 < h - j by omega)
    rw [path_succ, qGX, qIR l h i hl hi j (by omega), path_length, Nat.pow_succ, ← Nat.div_div_eq_div_mul]
    generalize i / 2 ^ j = q at *
    rw [show lvl l (j + 1) = above (lvl l j) from rfl, List.getD_eq_getElem?_getD (l := above (lvl l j)), qN4, hlen, if_pos (show q / 2 < 2 ^ (h - j) / 2 by omega), qQ1]
    split
    · rename_i e
      rw [show 2 * (q / 2) = q by omega]; rfl
    · rename_i e
      rw [show 2 * (q / 2) = q - 1 by omega, show q - 1 + 1 = q by omega]; rfl
theorem climb_root (l : List (List UInt8)) (h i : Nat) (hl : l.length = 2 ^ h) (hi : i < 2 ^ h) : climb (l.getD i []) i (path l i h) = root l h := by
 rw [qIR l h i hl hi h (Nat.le_refl _), Nat.div_eq_of_lt hi]; rfl
theorem flat_small {ls : List (List UInt8)} {w : Nat} (h : ∀ s ∈ ls, s.length ≤ w) : ls.flatten.length ≤ w * ls.length := by
 induction ls with
 | nil => simp
 | cons a l ih =>
  have := ih (fun s hs => h s (.tail _ hs))
  have h2 := h a (.head _)
  rw [List.flatten_cons, List.length_append, List.length_cons, Nat.mul_add]; omega
end Mk
namespace Sha
end Sha
attribute [local irreducible] Sha.tagB Mk.root Mk.path
end Go.Proofs.YtfldiegfenndjaaGreatDoor
namespace Go.Proofs.YtfldiegfenndjaaGreatDoor
set_option maxRecDepth 100000
set_option maxHeartbeats 1000000
namespace SN
def qAj {α : Type} (n : Nat) (g : Nat → α) : α := Nat.rec (g 0) (fun m _ => g (Nat.succ m)) n
theorem qAb {α : Type} (n : Nat) (g : Nat → α) : qAj n g = g n := by cases n <;> rfl
noncomputable def forceL {α : Type} (l : List Nat) : (List Nat → α) → α := List.rec (fun g => g []) (fun a _ ih g => qAj a fun x => ih fun r => g (x :: r)) l
theorem qAt {α : Type} : ∀ (l : List Nat) (g : List Nat → α), forceL l g = g l
 | [], _ => rfl
 | a :: l, g => by
  show qAj a (fun x => forceL l fun r => g (x :: r)) = g (a :: l)
  rw [qAb, qAt l]
def rot (x r q : Nat) : Nat := x / r + x % r * q
noncomputable def sch (n : Nat) : Nat → Nat → Nat → Nat → Nat → Nat → Nat → Nat → Nat → Nat → Nat → Nat → Nat → Nat → Nat → Nat → List Nat :=
 Nat.rec (fun a b c d e f g h i j k l m n o p => [a, b, c, d, e, f, g, h, i, j, k, l, m, n, o, p])
  (fun _ ih a b c d e f g h i j k l m n o p => a :: qAj ((a + Nat.xor (Nat.xor (rot b 128 33554432) (rot b 262144 16384)) (b / 8) + j + Nat.xor (Nat.xor (rot o 131072 32768) (rot o 524288 8192)) (o / 1024)) % 4294967296) fun x => ih b c d e f g h i j k l m n o p x) n
noncomputable def rds (kw : List Nat) : List Nat → Nat → Nat → Nat → Nat → Nat → Nat → Nat → Nat → List Nat :=
 List.rec (fun _ a b c d e f g h => [a, b, c, d, e, f, g, h])
  (fun k _ ih ws a b c d e f g h => List.rec [] (fun w ws _ =>
   qAj ((h + Nat.xor (Nat.xor (rot e 64 67108864) (rot e 2048 2097152)) (rot e 33554432 128) + Nat.xor (Nat.land e f) (Nat.land (4294967295 - e) g) + k + w) % 4294967296) fun t1 =>
   qAj ((t1 + (Nat.xor (Nat.xor (rot a 4 1073741824) (rot a 8192 524288)) (rot a 4194304 1024) + Nat.xor (Nat.xor (Nat.land a b) (Nat.land a c)) (Nat.land b c))) % 4294967296) fun x =>
   qAj ((d + t1) % 4294967296) fun y => ih ws x a b c y e f g) ws) kw
theorem qOo (k w : Nat) (ks ws : List Nat) (a b c d e f g h : Nat) : rds (k :: ks) (w :: ws) a b c d e f g h =
      qAj ((h + Nat.xor (Nat.xor (rot e 64 67108864) (rot e 2048 2097152)) (rot e 33554432 128) + Nat.xor (Nat.land e f) (Nat.land (4294967295 - e) g) + k + w) % 4294967296) fun t1 =>
      qAj ((t1 + (Nat.xor (Nat.xor (rot a 4 1073741824) (rot a 8192 524288)) (rot a 4194304 1024) + Nat.xor (Nat.xor (Nat.land a b) (Nat.land a c)) (Nat.land b c))) % 4294967296) fun x =>
      qAj ((d + t1) % 4294967296) fun y => rds ks ws x a b c y e f g := rfl
theorem qOf (n' a b c d e f g h i j k l m n o p : Nat) : sch (n' + 1) a b c d e f g h i j k l m n o p = a :: qAj ((a + Nat.xor (Nat.xor (rot b 128 33554432) (rot b 262144 16384)) (b / 8) + j + Nat.xor (Nat.xor (rot o 131072 32768) (rot o 524288 8192)) (o / 1024)) % 4294967296) fun x => sch n' b c d e f g h i j k l m n o p x := rfl
theorem qRk (ws : List Nat) (a b c d e f g h : Nat) : rds [] ws a b c d e f g h = [a, b, c, d, e, f, g, h] := rfl
theorem qOe (a b c d e f g h i j k l m n o p : Nat) : sch 0 a b c d e f g h i j k l m n o p = [a, b, c, d, e, f, g, h, i, j, k, l, m, n, o, p] := rfl
attribute [local irreducible] rds sch
theorem rot_eq (x : UInt32) (r : Nat) (h1 : 1 ≤ r) (h2 : r < 32) : rot x.toNat (2 ^ r) (4294967296 / 2 ^ r) = (Sha.rotr x r).toNat := (R3.rotr_nat x r h1 h2).symm
theorem xor_eq (a b : UInt32) : Nat.xor a.toNat b.toNat = (a ^^^ b).toNat := (UInt32.toNat_xor a b).symm
theorem and_eq (a b : UInt32) : Nat.land a.toNat b.toNat = (a &&& b).toNat := (UInt32.toNat_and a b).symm
theorem not_eq (a : UInt32) : 4294967295 - a.toNat = (~~~ a).toNat := by simp
theorem qOq (k w : UInt32) (ks ws : List Nat) (s : Sha.St8) : rds (k.toNat :: ks) (w.toNat :: ws) s.a.toNat s.b.toNat s.c.toNat s.d.toNat s.e.toNat s.f.toNat s.g.toNat s.h.toNat =
    rds ks ws (Sha.rnd w k s).a.toNat (Sha.rnd w k s).b.toNat (Sha.rnd w k s).c.toNat (Sha.rnd w k s).d.toNat (Sha.rnd w k s).e.toNat (Sha.rnd w k s).f.toNat (Sha.rnd w k s).g.toNat (Sha.rnd w k s).h.toNat := by
  obtain ⟨S1, hS1⟩ : ∃ x, x = Sha.rotr s.e 6 ^^^ Sha.rotr s.e 11 ^^^ Sha.rotr s.e 25 := ⟨_, rfl⟩
  obtain ⟨CH, hCH⟩ : ∃ x, x = s.e &&& s.f ^^^ ~~~ s.e &&& s.g := ⟨_, rfl⟩
  obtain ⟨T1, hT1⟩ : ∃ x, x = s.h + S1 + CH + k + w := ⟨_, rfl⟩
  obtain ⟨S0, hS0⟩ : ∃ x, x = Sha.rotr s.a 2 ^^^ Sha.rotr s.a 13 ^^^ Sha.rotr s.a 22 := ⟨_, rfl⟩
  obtain ⟨MJ, hMJ⟩ : ∃ x, x = s.a &&& s.b ^^^ s.a &&& s.c ^^^ s.b &&& s.c := ⟨_, rfl⟩
  have hrn : Sha.rnd w k s = ⟨T1 + (S0 + MJ), s.a, s.b, s.c, s.d + T1, s.e, s.f, s.g⟩ := by rw [hT1, hS0, hMJ, hS1, hCH]; rfl
  have e1 : Nat.xor (Nat.xor (rot s.e.toNat 64 67108864) (rot s.e.toNat 2048 2097152)) (rot s.e.toNat 33554432 128) = S1.toNat := by
    rw [show rot s.e.toNat 64 67108864 = _ from rot_eq s.e 6 (by decide) (by decide), show rot s.e.toNat 2048 2097152 = _ from rot_eq s.e 11 (by decide) (by decide), show rot s.e.toNat 33554432 128 = _ from rot_eq s.e 25 (by decide) (by decide), xor_eq, xor_eq, ← hS1]
  have e2 : Nat.xor (Nat.land s.e.toNat s.f.toNat) (Nat.land (4294967295 - s.e.toNat) s.g.toNat) = CH.toNat := by rw [not_eq, and_eq, and_eq, xor_eq, ← hCH]
  have e3 : Nat.xor (Nat.xor (rot s.a.toNat 4 1073741824) (rot s.a.toNat 8192 524288)) (rot s.a.toNat 4194304 1024) = S0.toNat := by
    rw [show rot s.a.toNat 4 1073741824 = _ from rot_eq s.a 2 (by decide) (by decide), show rot s.a.toNat 8192 524288 = _ from rot_eq s.a 13 (by decide) (by decide), show rot s.a.toNat 4194304 1024 = _ from rot_eq s.a 22 (by decide) (by decide), xor_eq, xor_eq, ← hS0]
  have e4 : Nat.xor (Nat.xor (Nat.land s.a.toNat s.b.toNat) (Nat.land s.a.toNat s.c.toNat)) (Nat.land s.b.toNat s.c.toNat) = MJ.toNat := by rw [and_eq, and_eq, and_eq, xor_eq, xor_eq, ← hMJ]
  have t1 : (s.h.toNat + S1.toNat + CH.toNat + k.toNat + w.toNat) % 4294967296 = T1.toNat := by rw [hT1]; simp only [UInt32.toNat_add]; omega
  have t2 : (T1.toNat + (S0.toNat + MJ.toNat)) % 4294967296 = (T1 + (S0 + MJ)).toNat := by simp only [UInt32.toNat_add]; omega
  have t3 : (s.d.toNat + T1.toNat) % 4294967296 = (s.d + T1).toNat := by simp only [UInt32.toNat_add]
  rw [hrn, qOo, qAb, e1, e2, t1, qAb, e3, e4, t2, qAb, t3]
def fold (ks ws : List UInt32) (s : Sha.St8) : Sha.St8 := (ks.zip ws).foldl (fun s kw => Sha.rnd kw.2 kw.1 s) s
theorem fold_cons (k w : UInt32) (ks ws : List UInt32) (s : Sha.St8) : fold (k :: ks) (w :: ws) s = fold ks ws (Sha.rnd w k s) := by unfold fold; rw [List.zip_cons_cons, List.foldl_cons]
theorem qKE (ws : List UInt32) (s : Sha.St8) : fold [] ws s = s := by unfold fold; rw [List.zip_nil_left, List.foldl_nil]
theorem qOp (ks : List UInt32) : ∀ (ws : List UInt32) (s : Sha.St8), ks.length = ws.length → rds (ks.map UInt32.toNat) (ws.map UInt32.toNat) s.a.toNat s.b.toNat s.c.toNat s.d.toNat s.e.toNat s.f.toNat s.g.toNat s.h.toNat = (fold ks ws s).list.map UInt32.toNat := by
 induction ks with
 | nil =>
  intro ws s h
  cases ws with
  | nil => rw [List.map_nil, qRk, qKE, Sha.St8.list]; rfl
  | cons _ _ => cases h
 | cons k ks ih =>
  intro ws s h
  cases ws with
  | nil => cases h
  | cons w ws =>
   rw [List.map_cons, List.map_cons, qOq k w (ks.map UInt32.toNat) (ws.map UInt32.toNat) s, fold_cons, ih ws (Sha.rnd w k s) (by simpa using h)]
theorem fold_rnds (ws : List UInt32) (s : Sha.St8) (hw : ws.length = 64) : ∀ m i, i + m = 64 → fold (Sha.K.drop i) (ws.drop i) (Sha.rnds ws s i) = Sha.rnds ws s 64
 | 0, i, h => by
  obtain rfl : i = 64 := by omega
  rw [List.drop_of_length_le (l := ws) (by omega), List.drop_of_length_le (l := Sha.K) (Nat.le_refl 64), qKE]
 | m + 1, i, h => by
  have h1 : i < Sha.K.length := by show i < 64; omega
  have h2 : i < ws.length := by omega
  rw [List.drop_eq_getElem_cons h1, List.drop_eq_getElem_cons h2, fold_cons]
  have e : Sha.rnd ws[i] Sha.K[i] (Sha.rnds ws s i) = Sha.rnds ws s (i + 1) := by
   rw [Sha.rnds, List.getD_eq_getElem?_getD, List.getD_eq_getElem?_getD, List.getElem?_eq_getElem h1, List.getElem?_eq_getElem h2]; rfl
  rw [e]
  exact fold_rnds ws s hw m (i + 1) (by omega)
theorem exts_succ' (l : List UInt32) : ∀ n, Sha.exts (n + 1) l = Sha.exts n (Sha.ext l)
 | 0 => rfl
 | n + 1 => by rw [Sha.exts, exts_succ' l n]; rfl
theorem qEy (p l : List UInt32) (k : Nat) : (p ++ l).getD (p.length + k) 0 = l.getD k 0 := by
 rw [List.getD_eq_getElem?_getD, List.getElem?_append_right (by omega), Nat.add_sub_cancel_left, ← List.getD_eq_getElem?_getD]
theorem qTL (b : UInt32) : Nat.xor (Nat.xor (rot b.toNat 128 33554432) (rot b.toNat 262144 16384)) (b.toNat / 8) = (Sha.sg0 b).toNat := by
 have h1 : rot b.toNat 128 33554432 = (Sha.rotr b 7).toNat := rot_eq b 7 (by decide) (by decide)
 have h2 : rot b.toNat 262144 16384 = (Sha.rotr b 18).toNat := rot_eq b 18 (by decide) (by decide)
 have h3 : b.toNat / 8 = (Sha.shr b 3).toNat := (R3.shr_nat b 3 (by decide)).symm
 rw [h1, h2, h3, xor_eq, xor_eq]; unfold Sha.sg0; rfl
theorem qTK (b : UInt32) : Nat.xor (Nat.xor (rot b.toNat 131072 32768) (rot b.toNat 524288 8192)) (b.toNat / 1024) = (Sha.sg1 b).toNat := by
 have h1 : rot b.toNat 131072 32768 = (Sha.rotr b 17).toNat := rot_eq b 17 (by decide) (by decide)
 have h2 : rot b.toNat 524288 8192 = (Sha.rotr b 19).toNat := rot_eq b 19 (by decide) (by decide)
 have h3 : b.toNat / 1024 = (Sha.shr b 10).toNat := (R3.shr_nat b 10 (by decide)).symm
 rw [h1, h2, h3, xor_eq, xor_eq]; unfold Sha.sg1; rfl
theorem ext_eq (q : List UInt32) (a b c d e f g h i j k l m n' o p : UInt32) : Sha.ext (q ++ [a, b, c, d, e, f, g, h, i, j, k, l, m, n', o, p]) = (q ++ [a]) ++ [b, c, d, e, f, g, h, i, j, k, l, m, n', o, p, a + Sha.sg0 b + j + Sha.sg1 o] := by
 have hlen : (q ++ [a, b, c, d, e, f, g, h, i, j, k, l, m, n', o, p]).length = q.length + 16 := by rw [List.length_append]; rfl
 unfold Sha.ext
 have g0 : (q ++ [a, b, c, d, e, f, g, h, i, j, k, l, m, n', o, p]).getD (q.length + 0) 0 = a := qEy q [a, b, c, d, e, f, g, h, i, j, k, l, m, n', o, p] 0
 have g1 : (q ++ [a, b, c, d, e, f, g, h, i, j, k, l, m, n', o, p]).getD (q.length + 1) 0 = b := qEy q [a, b, c, d, e, f, g, h, i, j, k, l, m, n', o, p] 1
 have g9 : (q ++ [a, b, c, d, e, f, g, h, i, j, k, l, m, n', o, p]).getD (q.length + 9) 0 = j := qEy q [a, b, c, d, e, f, g, h, i, j, k, l, m, n', o, p] 9
 have g14 : (q ++ [a, b, c, d, e, f, g, h, i, j, k, l, m, n', o, p]).getD (q.length + 14) 0 = o := qEy q [a, b, c, d, e, f, g, h, i, j, k, l, m, n', o, p] 14
 rw [hlen, show q.length + 16 - 16 = q.length + 0 by omega, show q.length + 16 - 15 = q.length + 1 by omega, show q.length + 16 - 7 = q.length + 9 by omega, show q.length + 16 - 2 = q.length + 14 by omega, g0, g1, g9, g14]
 generalize a + Sha.sg0 b + j + Sha.sg1 o = x
 simp only [List.append_assoc, List.cons_append, List.nil_append]
theorem sch_sum (a b j o : UInt32) : (a.toNat + (Sha.sg0 b).toNat + j.toNat + (Sha.sg1 o).toNat) % 4294967296 = (a + Sha.sg0 b + j + Sha.sg1 o).toNat := by
 generalize Sha.sg0 b = x
 generalize Sha.sg1 o = y
 simp only [UInt32.toNat_add]; omega
theorem qOg (n : Nat) : ∀ (q : List UInt32) (a b c d e f g h i j k l m n' o p : UInt32), (Sha.exts n (q ++ [a, b, c, d, e, f, g, h, i, j, k, l, m, n', o, p])).map UInt32.toNat = q.map UInt32.toNat ++ sch n a.toNat b.toNat c.toNat d.toNat e.toNat f.toNat g.toNat h.toNat i.toNat j.toNat k.toNat l.toNat m.toNat n'.toNat o.toNat p.toNat := by
 induction n with
 | zero => intro q a b c d e f g h i j k l m n' o p; rw [Sha.exts, List.map_append, qOe]; rfl
 | succ n ih =>
  intro q a b c d e f g h i j k l m n' o p
  rw [exts_succ', ext_eq, ih (q ++ [a]), qOf, qAb, qTL, qTK, sch_sum]
  generalize sch n b.toNat c.toNat d.toNat e.toNat f.toNat g.toNat h.toNat i.toNat j.toNat k.toNat l.toNat m.toNat n'.toNat o.toNat p.toNat _ = z
  simp only [List.map_append, List.append_assoc, List.map_cons, List.map_nil, List.cons_append, List.nil_append]
def w4 (l : List Nat) : Nat := ((l.getD 0 0 * 256 + l.getD 1 0) * 256 + l.getD 2 0) * 256 + l.getD 3 0
theorem getD_map (l : List UInt8) (i : Nat) : (l.map UInt8.toNat).getD i 0 = (l.getD i 0).toNat := by
 rw [List.getD_eq_getElem?_getD, List.getD_eq_getElem?_getD, List.getElem?_map]
 cases l[i]? <;> rfl
theorem w4_eq (l : List UInt8) (i : Nat) : w4 ((l.map UInt8.toNat).drop (4 * i)) = (Sha.word l i).toNat := by
 have hg : ∀ k, (((l.map UInt8.toNat).drop (4 * i)).getD k 0) = (l.getD (4 * i + k) 0).toNat := fun k => by
  rw [List.getD_eq_getElem?_getD, List.getElem?_drop, ← List.getD_eq_getElem?_getD, getD_map]
 unfold w4 Sha.word
 rw [hg, hg, hg, hg, R3.be32_nat, Nat.add_zero]
 omega
noncomputable def mixN (ks : List Nat) (b : List Nat) (A B C D E F G H : Nat) : List Nat :=
 qAj (w4 b) fun a0 => qAj (w4 (b.drop 4)) fun a1 => qAj (w4 (b.drop 8)) fun a2 => qAj (w4 (b.drop 12)) fun a3 =>
 qAj (w4 (b.drop 16)) fun a4 => qAj (w4 (b.drop 20)) fun a5 => qAj (w4 (b.drop 24)) fun a6 => qAj (w4 (b.drop 28)) fun a7 =>
 qAj (w4 (b.drop 32)) fun a8 => qAj (w4 (b.drop 36)) fun a9 => qAj (w4 (b.drop 40)) fun a10 => qAj (w4 (b.drop 44)) fun a11 =>
 qAj (w4 (b.drop 48)) fun a12 => qAj (w4 (b.drop 52)) fun a13 => qAj (w4 (b.drop 56)) fun a14 => qAj (w4 (b.drop 60)) fun a15 =>
 rds ks (sch 48 a0 a1 a2 a3 a4 a5 a6 a7 a8 a9 a10 a11 a12 a13 a14 a15) A B C D E F G H
def KN : List Nat := [1116352408, 1899447441, 3049323471, 3921009573, 961987163, 1508970993, 2453635748, 2870763221, 3624381080, 310598401, 607225278, 1426881987, 1925078388, 2162078206, 2614888103, 3248222580, 3835390401, 4022224774, 264347078, 604807628, 770255983, 1249150122, 1555081692, 1996064986, 2554220882, 2821834349, 2952996808, 3210313671, 3336571891, 3584528711, 113926993, 338241895, 666307205, 773529912, 1294757372, 1396182291, 1695183700, 1986661051, 2177026350, 2456956037, 2730485921, 2820302411, 3259730800, 3345764771, 3516065817, 3600352804, 4094571909, 275423344, 430227734, 506948616, 659060556, 883997877, 958139571, 1322822218, 1537002063, 1747873779, 1955562222, 2024104815, 2227730452, 2361852424, 2428436474, 2756734187, 3204031479, 3329325298]
theorem KN_eq : KN = Sha.K.map UInt32.toNat := by decide +kernel
theorem qSH (b : List UInt8) (s : Sha.St8) : mixN KN (b.map UInt8.toNat) s.a.toNat s.b.toNat s.c.toNat s.d.toNat s.e.toNat s.f.toNat s.g.toNat s.h.toNat = (Sha.rnds (Sha.sched b) s 64).list.map UInt32.toNat := by
 have hw := fun i => w4_eq b i
 have h0 := hw 0; have h1 := hw 1; have h2 := hw 2; have h3 := hw 3; have h4 := hw 4; have h5 := hw 5; have h6 := hw 6; have h7 := hw 7
 have h8 := hw 8; have h9 := hw 9; have h10 := hw 10; have h11 := hw 11; have h12 := hw 12; have h13 := hw 13; have h14 := hw 14; have h15 := hw 15
 simp only [Nat.reduceMul, Nat.mul_zero, List.drop_zero] at h0 h1 h2 h3 h4 h5 h6 h7 h8 h9 h10 h11 h12 h13 h14 h15
 unfold mixN
 simp only [qAb]
 rw [h0, h1, h2, h3, h4, h5, h6, h7, h8, h9, h10, h11, h12, h13, h14, h15]
 have hs := qOg 48 [] (Sha.word b 0) (Sha.word b 1) (Sha.word b 2) (Sha.word b 3) (Sha.word b 4) (Sha.word b 5) (Sha.word b 6) (Sha.word b 7) (Sha.word b 8) (Sha.word b 9) (Sha.word b 10) (Sha.word b 11) (Sha.word b 12) (Sha.word b 13) (Sha.word b 14) (Sha.word b 15)
 have hf : [] ++ [Sha.word b 0, Sha.word b 1, Sha.word b 2, Sha.word b 3, Sha.word b 4, Sha.word b 5, Sha.word b 6, Sha.word b 7, Sha.word b 8, Sha.word b 9, Sha.word b 10, Sha.word b 11, Sha.word b 12, Sha.word b 13, Sha.word b 14, Sha.word b 15] = Sha.firsts b 16 := rfl
 rw [hf, List.map_nil, List.nil_append] at hs
 rw [← hs, show Sha.exts 48 (Sha.firsts b 16) = Sha.sched b from rfl, KN_eq, qOp _ _ _ (by rw [Sha.sched_length]; rfl)]
 have := fold_rnds (Sha.sched b) s (Sha.sched_length b) 64 0 rfl
 rw [List.drop_zero, List.drop_zero] at this
 rw [show Sha.rnds (Sha.sched b) s 0 = s from rfl] at this
 rw [this]
noncomputable def blocks (n : Nat) : List Nat → Nat → Nat → Nat → Nat → Nat → Nat → Nat → Nat → List Nat :=
 Nat.rec (fun _ a b c d e f g h => [a, b, c, d, e, f, g, h])
  (fun _ ih p a b c d e f g h => forceL (mixN KN p a b c d e f g h) fun r =>
   qAj ((a + r.getD 0 0) % 4294967296) fun a' => qAj ((b + r.getD 1 0) % 4294967296) fun b' => qAj ((c + r.getD 2 0) % 4294967296) fun c' => qAj ((d + r.getD 3 0) % 4294967296) fun d' =>
   qAj ((e + r.getD 4 0) % 4294967296) fun e' => qAj ((f + r.getD 5 0) % 4294967296) fun f' => qAj ((g + r.getD 6 0) % 4294967296) fun g' => qAj ((h + r.getD 7 0) % 4294967296) fun h' =>
   ih (p.drop 64) a' b' c' d' e' f' g' h') n
theorem qGN (s : Sha.St8) (p : List UInt8) : ∀ k, Sha.mixes s p (k + 1) = Sha.mixes (Sha.mix s p) (p.drop 64) k
 | 0 => by rw [Sha.mixes, Sha.mixes, Sha.mixes, Nat.mul_zero, List.drop_zero]
 | k + 1 => by
  rw [Sha.mixes, qGN s p k, Sha.mixes, List.drop_drop]
  congr 2
  omega
theorem qJK (n : Nat) (p : List Nat) (a b c d e f g h : Nat) : blocks (n + 1) p a b c d e f g h = forceL (mixN KN p a b c d e f g h) fun r => qAj ((a + r.getD 0 0) % 4294967296) fun a' => qAj ((b + r.getD 1 0) % 4294967296) fun b' => qAj ((c + r.getD 2 0) % 4294967296) fun c' => qAj ((d + r.getD 3 0) % 4294967296) fun d' => qAj ((e + r.getD 4 0) % 4294967296) fun e' => qAj ((f + r.getD 5 0) % 4294967296) fun f' => qAj ((g + r.getD 6 0) % 4294967296) fun g' => qAj ((h + r.getD 7 0) % 4294967296) fun h' => blocks n (p.drop 64) a' b' c' d' e' f' g' h' := rfl
theorem qJJ (p : List Nat) (a b c d e f g h : Nat) : blocks 0 p a b c d e f g h = [a, b, c, d, e, f, g, h] := rfl
attribute [local irreducible] blocks mixN KN
theorem add_eq (x y : UInt32) : (x.toNat + y.toNat) % 4294967296 = (x + y).toNat := by simp only [UInt32.toNat_add]
theorem g0 (r : Sha.St8) : (r.list.map UInt32.toNat).getD 0 0 = r.a.toNat := rfl
theorem f0 (s r : Sha.St8) : (s.add r).a = s.a + r.a := rfl
theorem g1 (r : Sha.St8) : (r.list.map UInt32.toNat).getD 1 0 = r.b.toNat := rfl
theorem f1 (s r : Sha.St8) : (s.add r).b = s.b + r.b := rfl
theorem g2 (r : Sha.St8) : (r.list.map UInt32.toNat).getD 2 0 = r.c.toNat := rfl
theorem f2 (s r : Sha.St8) : (s.add r).c = s.c + r.c := rfl
theorem g3 (r : Sha.St8) : (r.list.map UInt32.toNat).getD 3 0 = r.d.toNat := rfl
theorem f3 (s r : Sha.St8) : (s.add r).d = s.d + r.d := rfl
theorem g4 (r : Sha.St8) : (r.list.map UInt32.toNat).getD 4 0 = r.e.toNat := rfl
theorem f4 (s r : Sha.St8) : (s.add r).e = s.e + r.e := rfl
theorem g5 (r : Sha.St8) : (r.list.map UInt32.toNat).getD 5 0 = r.f.toNat := rfl
theorem f5 (s r : Sha.St8) : (s.add r).f = s.f + r.f := rfl
theorem g6 (r : Sha.St8) : (r.list.map UInt32.toNat).getD 6 0 = r.g.toNat := rfl
theorem f6 (s r : Sha.St8) : (s.add r).g = s.g + r.g := rfl
theorem g7 (r : Sha.St8) : (r.list.map UInt32.toNat).getD 7 0 = r.h.toNat := rfl
theorem f7 (s r : Sha.St8) : (s.add r).h = s.h + r.h := rfl
theorem qNs (n : Nat) : ∀ (p : List UInt8) (s : Sha.St8), blocks n (p.map UInt8.toNat) s.a.toNat s.b.toNat s.c.toNat s.d.toNat s.e.toNat s.f.toNat s.g.toNat s.h.toNat = (Sha.mixes s p n).list.map UInt32.toNat := by
 induction n with
 | zero => intro p s; rw [qJJ, Sha.mixes]; rfl
 | succ n ih =>
  intro p s
  have hm := qSH p s
  generalize hr : Sha.rnds (Sha.sched p) s 64 = r at hm
  have hmx : Sha.mix s p = s.add r := by unfold Sha.mix; rw [hr]
  have hi := ih (p.drop 64) (s.add r)
  rw [qGN, hmx, ← hi, qJK, qAt, hm, qAb, qAb, qAb, qAb, qAb, qAb, qAb, qAb]
  have h0 : (s.a.toNat + (r.list.map UInt32.toNat).getD 0 0) % 4294967296 = (s.add r).a.toNat := by rw [g0, f0, add_eq]
  have h1 : (s.b.toNat + (r.list.map UInt32.toNat).getD 1 0) % 4294967296 = (s.add r).b.toNat := by rw [g1, f1, add_eq]
  have h2 : (s.c.toNat + (r.list.map UInt32.toNat).getD 2 0) % 4294967296 = (s.add r).c.toNat := by rw [g2, f2, add_eq]
  have h3 : (s.d.toNat + (r.list.map UInt32.toNat).getD 3 0) % 4294967296 = (s.add r).d.toNat := by rw [g3, f3, add_eq]
  have h4 : (s.e.toNat + (r.list.map UInt32.toNat).getD 4 0) % 4294967296 = (s.add r).e.toNat := by rw [g4, f4, add_eq]
  have h5 : (s.f.toNat + (r.list.map UInt32.toNat).getD 5 0) % 4294967296 = (s.add r).f.toNat := by rw [g5, f5, add_eq]
  have h6 : (s.g.toNat + (r.list.map UInt32.toNat).getD 6 0) % 4294967296 = (s.add r).g.toNat := by rw [g6, f6, add_eq]
  have h7 : (s.h.toNat + (r.list.map UInt32.toNat).getD 7 0) % 4294967296 = (s.add r).h.toNat := by rw [g7, f7, add_eq]
  rw [List.map_drop, h0, h1, h2, h3, h4, h5, h6, h7]
def bytes4 (x : Nat) : List Nat := [x / 16777216 % 256, x / 65536 % 256, x / 256 % 256, x % 256]
theorem bytes4_eq (x : Nat) (h : x < 18446744073709551616) : bytes4 x = (Sha.numB (UInt64.ofNat x) 4).map UInt8.toNat := by
 rw [R3.four_nat x h]
 simp [bytes4, UInt8.toNat_ofNat']
noncomputable def padN (l : List Nat) : List Nat := l ++ 128 :: List.replicate ((119 - l.length % 64) % 64) 0 ++ (bytes4 (8 * l.length / 4294967296) ++ bytes4 (8 * l.length))
theorem padN_eq (l : List UInt8) (h : l.length < 1152921504606846976) : padN (l.map UInt8.toNat) = (Sha.pad l).map UInt8.toNat := by
 unfold padN Sha.pad
 simp only [List.map_append, List.length_map, List.map_replicate, List.map_cons, List.map_nil, List.append_assoc, List.cons_append, List.nil_append]
 have e : (8 * UInt64.ofNat l.length).toNat = 8 * l.length := by
  rw [UInt64.toNat_mul, UInt64.toNat_ofNat', Nat.mod_eq_of_lt (show l.length < 2 ^ 64 by omega)]
  exact Nat.mod_eq_of_lt (by show 8 * l.length < 18446744073709551616; omega)
 have h8 : (Sha.numB (8 * UInt64.ofNat l.length) 8).map UInt8.toNat = bytes4 (8 * l.length / 4294967296) ++ bytes4 (8 * l.length) := by
  unfold Sha.numB
  rw [e]
  simp [List.range_succ, R3.u8_of64, bytes4, UInt8.toNat_ofNat', Nat.div_div_eq_div_mul]
 rw [h8]
 rfl
noncomputable def sumN (l : List Nat) : List Nat := forceL (padN l) fun p => (blocks (p.length / 64) p 1779033703 3144134277 1013904242 2773480762 1359893119 2600822924 528734635 1541459225).flatMap bytes4
theorem sumN_eq (l : List UInt8) (h : l.length < 1152921504606846976) : sumN (l.map UInt8.toNat) = (Sha.sum l).map UInt8.toNat := by
 unfold sumN
 rw [qAt, padN_eq l h, List.length_map]
 have hb := qNs ((Sha.pad l).length / 64) (Sha.pad l) Sha.init
 rw [show blocks ((Sha.pad l).length / 64) ((Sha.pad l).map UInt8.toNat) 1779033703 3144134277 1013904242 2773480762 1359893119 2600822924 528734635 1541459225 = _ from hb]
 unfold Sha.sum Sha.out
 generalize (Sha.mixes Sha.init (Sha.pad l) ((Sha.pad l).length / 64)).list = L
 induction L with
 | nil => rfl
 | cons x L ih =>
  rw [List.map_cons, List.flatMap_cons, List.flatMap_cons, List.map_append, ih, bytes4_eq _ (by have := x.toNat_lt; omega)]
  congr 2
  rw [show x.toUInt64 = UInt64.ofNat x.toNat from by apply UInt64.toNat_inj.1; simp]
noncomputable def tagN (tag : Nat) (ls : List (List Nat)) : List Nat := (sumN (tag :: ls.flatMap fun s => bytes4 s.length ++ s)).take 16
theorem tagN_eq (tag : UInt8) (ls : List (List UInt8)) (h : ls.flatten.length + 4 * ls.length < 1152921504606846975) : tagN tag.toNat (ls.map (List.map UInt8.toNat)) = (Sha.tagged tag ls).map UInt8.toNat := by
 unfold tagN Sha.tagged
 have e : tag.toNat :: (ls.map (List.map UInt8.toNat)).flatMap (fun s => bytes4 s.length ++ s) = (Sha.tagB tag ls).map UInt8.toNat := by
  unfold Sha.tagB
  simp only [List.map_append, List.map_cons, List.map_nil, List.cons_append, List.nil_append]
  congr 1
  induction ls with
  | nil => rfl
  | cons a l ih =>
   simp only [List.flatten_cons, List.length_append, List.length_cons] at h
   rw [List.map_cons, List.flatMap_cons, List.flatMap_cons, List.map_append, List.map_append, List.length_map, ih (by omega), bytes4_eq _ (by omega)]
 rw [e, sumN_eq _ (by rw [Sha.tagB_length]; omega), List.map_take]
theorem of_toNat {a b : List UInt8} (h : a.map UInt8.toNat = b.map UInt8.toNat) : a = b := by
 induction a generalizing b with
 | nil => cases b with
  | nil => rfl
  | cons _ _ => cases h
 | cons x a ih => cases b with
  | nil => cases h
  | cons y b =>
   rw [List.map_cons, List.map_cons, List.cons.injEq] at h
   rw [UInt8.toNat_inj.1 h.1, ih h.2]
end SN
end Go.Proofs.YtfldiegfenndjaaGreatDoor
namespace Go.Proofs.YtfldiegfenndjaaGreatDoor
set_option maxRecDepth 100000
set_option maxHeartbeats 1000000
def qCU : List (List Nat) := [[105, 72, 128, 237, 61, 5, 50, 182, 223, 75, 24, 94, 147, 245, 19, 39],
 [88, 245, 185, 155, 41, 107, 180, 138, 125, 166, 83, 171, 115, 216, 18, 165],
 [93, 80, 203, 230, 14, 126, 127, 19, 21, 244, 174, 144, 89, 226, 94, 228],
 [148, 10, 18, 170, 77, 162, 171, 186, 8, 98, 48, 154, 194, 169, 63, 108],
 [236, 85, 91, 97, 199, 175, 137, 90, 50, 65, 185, 193, 130, 224, 18, 81],
 [79, 166, 20, 31, 51, 117, 145, 24, 240, 79, 98, 79, 106, 240, 3, 239],
 [238, 121, 90, 181, 53, 208, 204, 57, 93, 94, 55, 236, 103, 150, 52, 189],
 [206, 246, 68, 71, 242, 240, 44, 227, 11, 163, 124, 42, 109, 136, 184, 223],
 [102, 153, 141, 118, 18, 20, 90, 81, 197, 162, 183, 200, 132, 241, 168, 231],
 [105, 185, 227, 83, 69, 124, 42, 97, 92, 121, 35, 66, 28, 255, 32, 8],
 [63, 79, 253, 228, 120, 212, 65, 1, 74, 138, 77, 92, 45, 83, 29, 6],
 [6, 68, 43, 83, 187, 176, 175, 5, 40, 111, 126, 28, 241, 42, 58, 162],
 [84, 209, 206, 161, 181, 40, 188, 84, 7, 18, 199, 241, 13, 30, 46, 161],
 [176, 37, 113, 44, 248, 46, 217, 3, 30, 200, 199, 117, 42, 191, 130, 40],
 [31, 198, 219, 239, 77, 143, 38, 133, 43, 141, 86, 40, 35, 16, 12, 192]]
attribute [local irreducible] SN.tagN Sha.tagged
theorem qC3 : (List.range 15).map (fun i => SN.tagN 15 [[0, i]]) = qCU := by decide +kernel
def qAM (n : Nat) : List UInt8 := Sha.tagged 15 [[UInt8.ofNat (n / 256), UInt8.ofNat n]]
theorem qB6 (n : Nat) : (qAM n).length = 16 := Sha.tagged_length _ _
theorem qGF {i : Nat} (hi : i < 15) : (qAM i).map UInt8.toNat = qCU.getD i [] := by
 have h := SN.tagN_eq 15 [[UInt8.ofNat (i / 256), UInt8.ofNat i]] (by simp)
 have h2 : SN.tagN 15 [[0, i]] = (qAM i).map UInt8.toNat := by
  rw [← qAM] at h
  rw [← h]
  have e1 : (UInt8.ofNat (i / 256)).toNat = 0 := by rw [show i / 256 = 0 by omega]; rfl
  have e2 : (UInt8.ofNat i).toNat = i := by rw [UInt8.toNat_ofNat']; omega
  show SN.tagN 15 [[0, i]] = SN.tagN 15 [[(UInt8.ofNat (i / 256)).toNat, (UInt8.ofNat i).toNat]]
  rw [e1, e2]
 rw [← h2, ← qC3, List.getD_eq_getElem?_getD, List.getElem?_map, List.getElem?_range hi]; rfl
theorem qMj : ∀ i j : Fin 15, i ≠ j → qCU.getD i.val [] ≠ qCU.getD j.val [] := by decide +kernel
theorem qHt {i j : Nat} (hi : i < 15) (hj : j < 15) (h : i ≠ j) : qAM i ≠ qAM j := fun e =>
 qMj ⟨i, hi⟩ ⟨j, hj⟩ (fun q => h (congrArg Fin.val q)) (by rw [← qGF hi, ← qGF hj, e])
end Go.Proofs.YtfldiegfenndjaaGreatDoor
namespace Go.Proofs.YtfldiegfenndjaaGreatDoor
set_option maxRecDepth 100000
set_option maxHeartbeats 1000000
namespace SM
def qA5 : Nat → (Nat → Nat) → Nat
 | 0, _ => 0
 | n + 1, f => f 0 + 18446744073709551616 * qA5 n (fun i => f (i + 1))
theorem qAr : ∀ {n : Nat} {f g : Nat → Nat}, (∀ i, f i = g i) → qA5 n f = qA5 n g
 | 0, _, _, _ => rfl
 | n + 1, f, g, h => by rw [qA5, qA5, h 0, qAr (fun i => h (i + 1))]
theorem qA1 : ∀ (n : Nat) (f g : Nat → Nat), qA5 n f + qA5 n g = qA5 n (fun i => f i + g i)
 | 0, _, _ => rfl
 | n + 1, f, g => by
  have := qA1 n (fun i => f (i + 1)) (fun i => g (i + 1))
  simp only [qA5]
  rw [← this]; omega
theorem qC5 : ∀ (n : Nat) (f : Nat → Nat) (c : Nat), qA5 n f * c = qA5 n (fun i => f i * c)
 | 0, _, c => Nat.zero_mul c
 | n + 1, f, c => by
  have := qC5 n (fun i => f (i + 1)) c
  simp only [qA5]
  rw [← this, Nat.add_mul, Nat.mul_assoc]
theorem qME {x y X Y : Nat} (hx : x < 2 ^ 64) (hy : y < 2 ^ 64) : Nat.land (x + 2 ^ 64 * X) (y + 2 ^ 64 * Y) = Nat.land x y + 2 ^ 64 * Nat.land X Y := by
 have hxy : Nat.land x y < 2 ^ 64 := Nat.lt_of_le_of_lt Nat.and_le_left hx
 apply Nat.eq_of_testBit_eq
 intro i
 rw [Nat.add_comm x, Nat.add_comm y, Nat.add_comm (Nat.land x y)]
 show ((2 ^ 64 * X + x) &&& (2 ^ 64 * Y + y)).testBit i = (2 ^ 64 * Nat.land X Y + Nat.land x y).testBit i
 rw [Nat.testBit_and, Nat.testBit_two_pow_mul_add _ hx, Nat.testBit_two_pow_mul_add _ hy, Nat.testBit_two_pow_mul_add _ hxy]
 by_cases h : i < 64
 · simp only [h, if_true]; exact (Nat.testBit_and x y i).symm
 · simp only [h, if_false]; exact (Nat.testBit_and X Y (i - 64)).symm
theorem qMC {x y X Y : Nat} (hx : x < 2 ^ 64) (hy : y < 2 ^ 64) : Nat.xor (x + 2 ^ 64 * X) (y + 2 ^ 64 * Y) = Nat.xor x y + 2 ^ 64 * Nat.xor X Y := by
 have hxy : Nat.xor x y < 2 ^ 64 := Nat.xor_lt_two_pow hx hy
 apply Nat.eq_of_testBit_eq
 intro i
 rw [Nat.add_comm x, Nat.add_comm y, Nat.add_comm (Nat.xor x y)]
 show ((2 ^ 64 * X + x) ^^^ (2 ^ 64 * Y + y)).testBit i = (2 ^ 64 * Nat.xor X Y + Nat.xor x y).testBit i
 rw [Nat.testBit_xor, Nat.testBit_two_pow_mul_add _ hx, Nat.testBit_two_pow_mul_add _ hy, Nat.testBit_two_pow_mul_add _ hxy]
 by_cases h : i < 64
 · simp only [h, if_true]; exact (Nat.testBit_xor x y i).symm
 · simp only [h, if_false]; exact (Nat.testBit_xor X Y (i - 64)).symm
theorem qMD {x m X M r : Nat} (hx : x < 2 ^ 64) (hm : m < 2 ^ 32) (hr : r ≤ 32) : Nat.land (Nat.shiftRight (x + 2 ^ 64 * X) r) (m + 2 ^ 64 * M) = Nat.land (Nat.shiftRight x r) m + 2 ^ 64 * Nat.land (Nat.shiftRight X r) M := by
  have hm2 : m < 2 ^ 64 := Nat.lt_trans hm (by decide)
  have hxy : Nat.land (Nat.shiftRight x r) m < 2 ^ 64 := Nat.lt_of_le_of_lt Nat.and_le_right hm2
  apply Nat.eq_of_testBit_eq
  intro i
  rw [Nat.add_comm x, Nat.add_comm m, Nat.add_comm (Nat.land _ _)]
  show (((2 ^ 64 * X + x) >>> r) &&& (2 ^ 64 * M + m)).testBit i = (2 ^ 64 * Nat.land (Nat.shiftRight X r) M + Nat.land (Nat.shiftRight x r) m).testBit i
  rw [Nat.testBit_and, Nat.testBit_shiftRight, Nat.testBit_two_pow_mul_add _ hx, Nat.testBit_two_pow_mul_add _ hm2, Nat.testBit_two_pow_mul_add _ hxy]
  by_cases h : i < 64
  · simp only [h, if_true]
    show _ = ((x >>> r) &&& m).testBit i
    rw [Nat.testBit_and, Nat.testBit_shiftRight]
    by_cases h2 : r + i < 64
    · simp only [h2, if_true]
    · have : m.testBit i = false := Nat.testBit_lt_two_pow (Nat.lt_of_lt_of_le hm (Nat.pow_le_pow_right (by decide) (by omega)))
      rw [this, Bool.and_false, Bool.and_false]
  · have h2 : ¬ r + i < 64 := by omega
    simp only [h, h2, if_false]
    show _ = ((X >>> r) &&& M).testBit (i - 64)
    rw [Nat.testBit_and, Nat.testBit_shiftRight, show r + i - 64 = r + (i - 64) by omega]
theorem qD7 : ∀ (n : Nat) {f g : Nat → Nat}, (∀ i, f i < 2 ^ 64) → (∀ i, g i < 2 ^ 64) → Nat.land (qA5 n f) (qA5 n g) = qA5 n (fun i => Nat.land (f i) (g i))
 | 0, _, _, _, _ => Nat.and_zero _
 | n + 1, f, g, hf, hg => by
  have ih := qD7 n (fun i => hf (i + 1)) (fun i => hg (i + 1))
  simp only [qA5]
  rw [← ih]
  exact qME (hf 0) (hg 0)
theorem qHx : ∀ (n : Nat) {f g : Nat → Nat}, (∀ i, f i < 2 ^ 64) → (∀ i, g i < 2 ^ 64) → Nat.xor (qA5 n f) (qA5 n g) = qA5 n (fun i => Nat.xor (f i) (g i))
 | 0, _, _, _, _ => Nat.xor_zero _
 | n + 1, f, g, hf, hg => by
  have ih := qHx n (fun i => hf (i + 1)) (fun i => hg (i + 1))
  simp only [qA5]
  rw [← ih]
  exact qMC (hf 0) (hg 0)
theorem qFO : ∀ (n : Nat) {f : Nat → Nat} {m r : Nat}, (∀ i, f i < 2 ^ 64) → m < 2 ^ 32 → r ≤ 32 → Nat.land (Nat.shiftRight (qA5 n f) r) (qA5 n fun _ => m) = qA5 n (fun i => Nat.land (Nat.shiftRight (f i) r) m)
 | 0, _, _, _, _, _, _ => Nat.and_zero _
 | n + 1, f, m, r, hf, hm, hr => by
  have ih := qFO n (fun i => hf (i + 1)) hm hr
  simp only [qA5]
  rw [← ih]
  exact qMD (hf 0) hm hr
theorem qMn : ∀ (n : Nat) (f : Nat → Nat) (c : Nat), (∀ i, f i ≤ c) → qA5 n (fun _ => c) - qA5 n f = qA5 n (fun i => c - f i) := fun n f c h => by
 have h1 := qA1 n (fun i => c - f i) f
 have h2 : qA5 n (fun i => c - f i + f i) = qA5 n (fun _ => c) := qAr fun i => Nat.sub_add_cancel (h i)
 omega
def qBC (n : Nat) : Nat := qA5 n fun _ => 1
theorem qCe (n c : Nat) : c * qBC n = qA5 n fun _ => c := by
 rw [Nat.mul_comm, qBC, qC5]; exact qAr fun _ => Nat.one_mul c
def pk (n : Nat) (a : Nat → UInt32) : Nat := qA5 n fun i => (a i).toNat
def qDZ (o x r : Nat) : Nat := Nat.land (Nat.shiftRight x r) ((2 ^ (32 - r) - 1) * o) + Nat.land x ((2 ^ r - 1) * o) * 2 ^ (32 - r)
def qHW (o x r : Nat) : Nat := Nat.land (Nat.shiftRight x r) ((2 ^ (32 - r) - 1) * o)
def qCy (o x : Nat) : Nat := Nat.land x (4294967295 * o)
theorem u32 (a : UInt32) : a.toNat < 2 ^ 32 := a.toNat_lt
theorem u64 (a : UInt32) : a.toNat < 2 ^ 64 := Nat.lt_trans a.toNat_lt (by decide)
theorem m32 {r : Nat} (h1 : 1 ≤ r) : 2 ^ (32 - r) - 1 < 2 ^ 32 := by
 have := Nat.pow_le_pow_right (n := 2) (by decide) (show 32 - r ≤ 32 by omega)
 omega
theorem qHK (x k : Nat) : Nat.land x (2 ^ k - 1) = x % 2 ^ k := Nat.and_two_pow_sub_one_eq_mod x k
theorem qJf (x : UInt32) {r : Nat} (h2 : r ≤ 32) : Nat.land (Nat.shiftRight x.toNat r) (2 ^ (32 - r) - 1) = x.toNat / 2 ^ r := by
 rw [qHK]
 show (x.toNat >>> r) % _ = _
 rw [Nat.shiftRight_eq_div_pow]
 apply Nat.mod_eq_of_lt
 rw [Nat.div_lt_iff_lt_mul (Nat.pow_pos (by decide)), ← Nat.pow_add, show 32 - r + r = 32 by omega]
 exact u32 x
theorem qGq (n : Nat) (a : Nat → UInt32) {r : Nat} (h1 : 1 ≤ r) (h2 : r < 32) : qHW (qBC n) (pk n a) r = pk n fun i => Sha.shr (a i) r := by
 unfold qHW pk
 rw [qCe, qFO n (fun i => u64 (a i)) (m32 h1) (by omega)]
 refine qAr fun i => ?_
 rw [qJf _ (by omega)]
 exact (R3.shr_nat (a i) r (by omega)).symm
theorem qCK (n : Nat) (a : Nat → UInt32) {r : Nat} (h1 : 1 ≤ r) (h2 : r < 32) : qDZ (qBC n) (pk n a) r = pk n fun i => Sha.rotr (a i) r := by
 unfold qDZ pk
 have hlow : 2 ^ r - 1 < 2 ^ 64 := by
  have := Nat.pow_le_pow_right (n := 2) (by decide) (show r ≤ 64 by omega)
  have := Nat.pow_pos (n := r) (show 0 < 2 by decide)
  omega
 rw [qCe, qCe, qFO n (fun i => u64 (a i)) (m32 h1) (by omega), qD7 n (fun i => u64 (a i)) (fun _ => hlow), qC5, qA1]
 refine qAr fun i => ?_
 rw [qJf _ (by omega), qHK]
 have := SN.rot_eq (a i) r h1 h2
 rw [← this]
 unfold SN.rot
 congr 2
 rw [show (4294967296 : Nat) = 2 ^ r * 2 ^ (32 - r) by rw [← Nat.pow_add, show r + (32 - r) = 32 by omega], Nat.mul_div_cancel_left _ (Nat.pow_pos (by decide))]
theorem qDn (n : Nat) {f : Nat → Nat} (h : ∀ i, f i < 2 ^ 64) : qCy (qBC n) (qA5 n f) = qA5 n fun i => f i % 4294967296 := by
 unfold qCy
 rw [qCe, qD7 n h (fun _ => by decide)]
 exact qAr fun i => qHK (f i) 32
theorem qC4 (n : Nat) (a b : Nat → UInt32) : Nat.xor (pk n a) (pk n b) = pk n fun i => a i ^^^ b i := by
 unfold pk
 rw [qHx n (fun i => u64 (a i)) (fun i => u64 (b i))]
 exact qAr fun i => SN.xor_eq (a i) (b i)
theorem qHu (n : Nat) (a b : Nat → UInt32) : Nat.land (pk n a) (pk n b) = pk n fun i => a i &&& b i := by
 unfold pk
 rw [qD7 n (fun i => u64 (a i)) (fun i => u64 (b i))]
 exact qAr fun i => SN.and_eq (a i) (b i)
theorem qTV (n : Nat) (a : Nat → UInt32) : 4294967295 * qBC n - pk n a = pk n fun i => ~~~ a i := by
 unfold pk
 rw [qCe, qMn n _ _ (fun i => by have := u32 (a i); omega)]
 exact qAr fun i => SN.not_eq (a i)
theorem qBS (n : Nat) (k : UInt32) : k.toNat * qBC n = pk n fun _ => k := qCe n k.toNat
end SM
end Go.Proofs.YtfldiegfenndjaaGreatDoor
namespace Go.Proofs.YtfldiegfenndjaaGreatDoor
open Go Go.Fw Go.Proofs.Tryz
set_option maxRecDepth 100000
set_option maxHeartbeats 1000000
attribute [local irreducible] SN.tagN Sha.tagged SN.sumN
namespace Wn
open Sha Wd
def qQU : List Nat → Nat → Nat
 | _, 0 => 0
 | l, k + 1 => qQU l k * 256 + l.getD k 0
theorem qL1 (l : List UInt8) : ∀ k, qQU (l.map UInt8.toNat) k < 256 ^ k
 | 0 => Nat.one_pos
 | k + 1 => by
  have h1 := qL1 l k
  have h2 := (l.getD k 0).toNat_lt
  rw [qQU, SN.getD_map, Nat.pow_succ]; omega
theorem qQT (l : List UInt8) : ∀ k, k ≤ 8 → (val l k).toNat = qQU (l.map UInt8.toNat) k
 | 0, _ => rfl
 | k + 1, h => by
  have ih := qQT l k (by omega)
  have h1 := qL1 l k
  have h2 := (l.getD k 0).toNat_lt
  have hp : 256 ^ k ≤ 256 ^ 7 := Nat.pow_le_pow_right (by decide) (by omega)
  have hm : qQU (l.map UInt8.toNat) k * 2 ^ 8 < 2 ^ 64 := by
   have : (256 : Nat) ^ 7 * 2 ^ 8 = 2 ^ 64 := by decide
   omega
  rw [val, UInt64.toNat_or, UInt64.toNat_ofNat', ih, qQU, SN.getD_map]
  show qQU (l.map UInt8.toNat) k * 2 ^ 8 % 2 ^ 64 ||| (l.getD k 0).toUInt64.toNat = _
  rw [Nat.mod_eq_of_lt hm, UInt8.toNat_toUInt64, Nat.mul_comm, ← Nat.two_pow_add_eq_or_of_lt (show (l.getD k 0).toNat < 2 ^ 8 from h2)]
def nxt (s : Strm) : Nat → Strm
 | 0 => s
 | k + 1 => (nxt s k).next
noncomputable def wordN (seed : List Nat) (k : Nat) : Nat := qQU ((SN.sumN (seed ++ SN.bytes4 (k / 4))).drop (8 * (k % 4))) 8
theorem qJz (seed : List UInt8) : ∀ k, k < 1000000 → (nxt (Strm.new seed) k).seed = seed ∧ ((nxt (Strm.new seed) k).fill.left = (sum (seed ++ numB (UInt64.ofNat (k / 4)) 4)).drop (8 * (k % 4)) ∧ (nxt (Strm.new seed) k).fill.count = UInt64.ofNat (k / 4 + 1))
  | 0, _ => by
    refine ⟨rfl, ?_⟩
    show (Strm.new seed).fill.left = _ ∧ (Strm.new seed).fill.count = _
    unfold Strm.fill Strm.new
    rw [if_pos rfl]
    exact ⟨rfl, rfl⟩
  | k + 1, hk => by
    obtain ⟨h1, h2, h3⟩ := qJz seed k (by omega)
    have hs : (nxt (Strm.new seed) (k + 1)).seed = seed := by
      show (nxt (Strm.new seed) k).fill.seed = seed
      rw [Strm.fill_seed]; exact h1
    have hl : (nxt (Strm.new seed) (k + 1)).left = (sum (seed ++ numB (UInt64.ofNat (k / 4)) 4)).drop (8 * (k % 4) + 8) := by
      show (nxt (Strm.new seed) k).fill.left.drop 8 = _
      rw [h2, List.drop_drop]
    have hc : (nxt (Strm.new seed) (k + 1)).count = UInt64.ofNat (k / 4 + 1) := h3
    refine ⟨hs, ?_⟩
    unfold Strm.fill
    by_cases h4 : k % 4 = 3
    · have e0 : (nxt (Strm.new seed) (k + 1)).left = [] := by rw [hl, List.drop_of_length_le (by rw [sum_length]; omega)]
      rw [if_pos e0, hs, hc, show (k + 1) / 4 = k / 4 + 1 by omega, show (k + 1) % 4 = 0 by omega]
      refine ⟨rfl, ?_⟩
      dsimp only
      apply UInt64.toNat_inj.1
      rw [UInt64.toNat_add, UInt64.toNat_ofNat', UInt64.toNat_ofNat']
      show ((k / 4 + 1) % 2 ^ 64 + 1) % 2 ^ 64 = (k / 4 + 1 + 1) % 2 ^ 64
      omega
    · have e0 : ¬ (nxt (Strm.new seed) (k + 1)).left = [] := fun e => by
        have := congrArg List.length e
        rw [hl, List.length_drop, sum_length, List.length_nil] at this
        omega
      rw [if_neg e0, hl, hc, show (k + 1) / 4 = k / 4 by omega, show 8 * ((k + 1) % 4) = 8 * (k % 4) + 8 by omega]
      exact ⟨rfl, rfl⟩
theorem qPB (seed : List UInt8) (hs : seed.length ≤ 1000000) {k : Nat} (hk : k < 1000000) : (nxt (Strm.new seed) k).num.toNat = wordN (seed.map UInt8.toNat) k := by
 obtain ⟨_, h2, _⟩ := qJz seed k hk
 unfold Strm.num wordN
 rw [qQT _ 8 (Nat.le_refl 8), h2, List.map_drop]
 have := SN.sumN_eq (seed ++ numB (UInt64.ofNat (k / 4)) 4) (by rw [List.length_append, numB_length]; omega)
 rw [List.map_append, ← SN.bytes4_eq _ (by omega)] at this
 rw [this]
end Wn
end Go.Proofs.YtfldiegfenndjaaGreatDoor
