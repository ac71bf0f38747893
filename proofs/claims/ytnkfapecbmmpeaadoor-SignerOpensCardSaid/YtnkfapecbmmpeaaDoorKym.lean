/- A part of the proof: contracts of functions of the program, each for every state of the heaps that it names. -/
import Derived.Test.YtnkfapecbmmpeaaDoorXmss
set_option linter.unusedSimpArgs false
set_option linter.unusedVariables false
namespace Go.Proofs.YtnkfapecbmmpeaaDoor
open Go Go.Fw
set_option maxRecDepth 100000
set_option maxHeartbeats 1000000

theorem Mk.lvl_16 (l : List (List UInt8)) (hs : ∀ s ∈ l, s.length = 16) : ∀ j, ∀ s ∈ Mk.lvl l j, s.length = 16
  | 0, s, h => hs s h
  | j + 1, s, h => by
    simp only [Mk.lvl, Mk.above, List.mem_map] at h
    obtain ⟨k, _, rfl⟩ := h
    exact Mk.node_length _ _
theorem Mk.path_16 (l : List (List UInt8)) (i h : Nat) (hs : ∀ s ∈ l, s.length = 16) (hl : l.length = 2 ^ h) (hi : i < 2 ^ h) : ∀ s ∈ Mk.path l i h, s.length = 16 := fun s hp => by
  unfold Mk.path at hp
  simp only [List.mem_map, List.mem_range] at hp
  obtain ⟨j, hj, rfl⟩ := hp
  refine Mk.lvl_16 l hs j _ (Mk.getS_mem ?_)
  rw [Mk.lvl_length l h hl j (by omega), show h - j = (h - 1 - j) + 1 by omega, Nat.pow_succ, Nat.mul_comm]
  refine Mk.xor_one _ _ ?_
  rw [Nat.div_lt_iff_lt_mul (Nat.two_pow_pos j), Nat.mul_assoc, ← Nat.pow_add, Nat.mul_comm, ← Nat.pow_succ, show (h - 1 - j + j).succ = h by omega]
  exact hi
theorem Xm.leaves_16 (seed : List UInt8) (k : Nat) : ∀ s ∈ Xm.leaves seed k, s.length = 16 := fun s hs => by
  simp only [Xm.leaves, List.mem_map] at hs
  obtain ⟨i, _, rfl⟩ := hs
  exact Xm.pub_length _ _
theorem Wo.signs_len (seed : List UInt8) (i : Nat) (d : List Nat) : (Wo.signs seed i d 35).length = 35 := by simp [Wo.signs]

/-- a key in memory, to be read -/
def KeyA (m : Hp) (g : Nat) (seed : List UInt8) (h : Nat) : Prop := ∃ A c, Cells m ⟨g, 0, none⟩ (keyCells seed (Wo.opn seed) (Xm.root seed h) h A (2 ^ h) c) ∧ Sl m 1 A (2 ^ h) c (strsV (Xm.leaves seed (2 ^ h)))
theorem KeyA.mono {m m' : Hp} {g : Nat} {seed : List UInt8} {h : Nat} (hk : KeyA m g seed h) (hl : Le m m') : KeyA m' g seed h := by
  obtain ⟨A, c, h1, h2⟩ := hk
  exact ⟨A, c, h1.mono hl, h2.mono hl⟩
/-- an honest signature: its chains, its path -/
def sgC (seed : List UInt8) (i : Nat) (mg : List UInt8) : List (List UInt8) := Wo.signs seed i (Wo.digs (Xm.digest (Wo.opn seed) i mg)) 35
def sgP (seed : List UInt8) (h i : Nat) : List (List UInt8) := Mk.path (Xm.leaves seed (2 ^ h)) i h
theorem sgC_len (seed : List UInt8) (i : Nat) (mg : List UInt8) : (sgC seed i mg).length = 35 := Wo.signs_len _ _ _
theorem sgC_16 (seed : List UInt8) (i : Nat) (mg : List UInt8) : ∀ s ∈ sgC seed i mg, s.length = 16 := Wo.signs_16 _ _ _ _
theorem sgP_len (seed : List UInt8) (h i : Nat) : (sgP seed h i).length = h := Mk.path_length _ _ _
theorem sgP_16 (seed : List UInt8) {h i : Nat} (hi : i < 2 ^ h) : ∀ s ∈ sgP seed h i, s.length = 16 := Mk.path_16 _ _ _ (Xm.leaves_16 _ _) (Xm.leaves_length _ _) hi
theorem xnewK_ct (F : Hp) (hK : Cells F ⟨1, 0, none⟩ (Sha.K.map W32)) (seed : List UInt8) (h : Nat) (hs : seed.length ≤ 1048576) (h6 : h ≤ 6) :
    Ct Tryd.prog 82 [Str seed, I ((h : Nat) : Int)] [F] (fun x : Nat × Hp => .tuple #[Ptr x.1, I 0]) (fun x => KeyA x.2 x.1 seed h) (fun x => [F, x.2]) := fun w0 w hw =>
  (xnew_ct F hK seed h hs h6 w0 w hw).mono fun e w' ⟨x, he, hx, hs'⟩ => ⟨x, he, hx.see, hs'.pick [1, 0] (by decide)⟩
theorem xsignK_ct (F : Hp) (hK : Cells F ⟨1, 0, none⟩ (Sha.K.map W32)) (g : Nat) (seed : List UInt8) (h : Nat) (hk : KeyA F g seed h) (hs : seed.length ≤ 1048576) (h6 : h ≤ 6) (i : Nat) (hi : i < 2 ^ h) (mg : List UInt8) (hm : mg.length ≤ 1048576) :
    Ct Tryd.prog 89 [Ptr g, I ((i : Nat) : Int), Str mg] [F] (fun x : (Option Addr × Nat × Hp) × (Option Addr × Nat × Hp) => .tuple #[.agg #[I ((i : Nat) : Int), .slice x.1.1 (sgC seed i mg).length x.1.2.1, .slice x.2.1 (sgP seed h i).length x.2.2.1], I 0])
      (fun x => Row x.1.2.2 9 1 x.1.1 (sgC seed i mg).length x.1.2.1 (strsV (sgC seed i mg)) ∧ Row x.2.2.2 9 1 x.2.1 (sgP seed h i).length x.2.2.1 (strsV (sgP seed h i))) (fun x => [F, x.1.2.2, x.2.2.2]) := by
  obtain ⟨A, c, h1, h2⟩ := hk
  rw [sgC_len, sgP_len]
  exact xsign_ct F hK g seed h A c h1 h2 hs h6 mg hm i hi
theorem xpubK_ct (F : Hp) (g : Nat) (seed : List UInt8) (h : Nat) (hk : KeyA F g seed h) : Ct Tryd.prog 90 [Ptr g] [F] (fun _ : Unit => .agg #[Str (Wo.opn seed), Str (Xm.root seed h), I ((h : Nat) : Int)]) (fun _ => True) (fun _ => [F]) := by
  obtain ⟨A, c, h1, h2⟩ := hk
  exact xpublic_ct F g seed (Wo.opn seed) (Xm.root seed h) h A (2 ^ h) c h1
theorem xcountK_ct (F : Hp) (g : Nat) (seed : List UInt8) (h : Nat) (hk : KeyA F g seed h) : Ct Tryd.prog 87 [Ptr g] [F] (fun _ : Unit => I ((2 ^ h : Nat) : Int)) (fun _ => True) (fun _ => [F]) := by
  obtain ⟨A, c, h1, h2⟩ := hk
  exact xcount_ct F g seed (Wo.opn seed) (Xm.root seed h) h A (2 ^ h) c h1
theorem climb_rootK (seed : List UInt8) (h i : Nat) (hi : i < 2 ^ h) : Mk.climb (Wo.pub seed i) i (sgP seed h i) = Xm.root seed h := by
  have := Mk.climb_root (Xm.leaves seed (2 ^ h)) h i (Xm.leaves_length _ _) hi
  rw [Xm.leaves_get seed _ i hi] at this
  exact this
theorem xverK_ct (F : Hp) (hK : Cells F ⟨1, 0, none⟩ (Sha.K.map W32)) (seed : List UInt8) (h i : Nat) (mg : List UInt8) (A1 : Option Addr) (n1 c1 : Nat) (hch : Sl F 1 A1 n1 c1 (strsV (sgC seed i mg))) (A2 : Option Addr) (n2 c2 : Nat) (hpt : Sl F 1 A2 n2 c2 (strsV (sgP seed h i))) (hm : mg.length ≤ 1048576) (h6 : h ≤ 6) (hi : i < 2 ^ h) :
    Ct Tryd.prog 40 [.agg #[Str (Wo.opn seed), Str (Xm.root seed h), I ((h : Nat) : Int)], Str mg, .agg #[I ((i : Nat) : Int), .slice A1 n1 c1, .slice A2 n2 c2]] [F] (fun _ : Unit => .bool true) (fun _ => True) (fun _ => [F]) := by
  have e1 : (sgC seed i mg).length = n1 := by have := hch.1; simpa [strsV] using this
  have e2 : (sgP seed h i).length = n2 := by have := hpt.1; simpa [strsV] using this
  rw [sgC_len] at e1
  rw [sgP_len] at e2
  subst e1
  subst e2
  have := xverify_ct F hK (Wo.opn seed) (Xm.root seed h) h mg i A1 c1 (sgC seed i mg) hch (sgC_16 _ _ _) A2 c2 (sgP seed h i) hpt (fun s hs => by rw [sgP_16 seed hi s hs]; decide) (by rw [Wo.opn_length]; decide) hm h6 hi
  have e : Wo.publicOf (Wo.opn seed) i (Wo.ends (Wo.opn seed) i (Wo.digs (Xm.digest (Wo.opn seed) i mg)) (sgC seed i mg) 35) = Wo.pub seed i := Wo.recPub seed i _ (by rw [Xm.digest_length]; decide)
  rw [e, climb_rootK seed h i hi, decide_eq_true rfl] at this
  exact this

end Go.Proofs.YtnkfapecbmmpeaaDoor
