/- A part of the proof. -/
import Derived.Test.YtfldiegfenndjaaGreatDoorTopCvG8
import Derived.Test.YtfldiegfenndjaaGreatDoorTopCvG21
import Derived.Test.YtfldiegfenndjaaGreatDoorTopCvG18
import Derived.Test.YtfldiegfenndjaaGreatDoorTopCvG20
set_option linter.unusedSimpArgs false
set_option linter.unusedVariables false
namespace Go.Proofs.YtfldiegfenndjaaGreatDoor
open Go Go.Fw Go.Proofs.Tryz
set_option maxRecDepth 100000
set_option maxHeartbeats 1000000
theorem ent68 : qAF prog 68 := qAF.of func68 rfl (by kernel_rfl)
theorem ent89 : qAF prog 89 := qAF.of func89 rfl (by kernel_rfl)
theorem ent90 : qAF prog 90 := qAF.of func90 rfl (by kernel_rfl)
theorem ent91 : qAF prog 91 := qAF.of func91 rfl (by kernel_rfl)
theorem ent123 : qAF prog 123 := qAF.of func123 rfl (by kernel_rfl)
namespace Xm
def leaves (seed : List UInt8) (k : Nat) : List (List UInt8) := (List.range k).map fun i => Wo.pub seed i
def root (seed : List UInt8) (h : Nat) : List UInt8 := Mk.root (leaves seed (2 ^ h)) h
def four (n : Nat) : List UInt8 := [UInt8.ofNat (n / 2 ^ 24), UInt8.ofNat (n / 2 ^ 16), UInt8.ofNat (n / 2 ^ 8), UInt8.ofNat n]
def digest (o : List UInt8) (i : Nat) (m : List UInt8) : List UInt8 := Sha.tagged 6 [o, four i, m]
theorem leaves_succ (seed : List UInt8) (k : Nat) : leaves seed (k + 1) = leaves seed k ++ [Wo.pub seed k] := by simp [leaves, List.range_succ]
theorem leaves_length (seed : List UInt8) (k : Nat) : (leaves seed k).length = k := by simp [leaves]
theorem leaves_get (seed : List UInt8) (k i : Nat) (h : i < k) : (leaves seed k).getD i [] = Wo.pub seed i := by
 unfold leaves
 rw [List.getD_eq_getElem?_getD, List.getElem?_map, List.getElem?_range h]; rfl
theorem pub_length (seed : List UInt8) (i : Nat) : (Wo.pub seed i).length = 16 := Sha.tagged_length _ _
theorem leaves_small (seed : List UInt8) (k : Nat) : ∀ s ∈ leaves seed k, s.length ≤ 1048576 := fun s hs => by
 simp only [leaves, List.mem_map] at hs
 obtain ⟨i, _, rfl⟩ := hs
 rw [pub_length]; decide
theorem digest_length (o : List UInt8) (i : Nat) (m : List UInt8) : (digest o i m).length = 16 := Sha.tagged_length _ _
theorem four_length (n : Nat) : (four n).length = 4 := rfl
theorem pow_le (h : Nat) (h6 : h ≤ 6) : 2 ^ h ≤ 64 := Nat.le_trans (Nat.pow_le_pow_right (by decide) h6) (by decide)
end Xm
attribute [local irreducible] Sha.tagged Wo.pub Wo.publicOf Wo.signs Wo.ends Wo.digs Wo.walk Wo.opn Mk.root Mk.path Mk.climb
theorem Xm.leaves0 (seed : List UInt8) : Xm.leaves seed 0 = [] := rfl
theorem Wo.recPub (seed : List UInt8) (leaf : Nat) (d : List UInt8) (hd : d.length ≤ 16) : Wo.publicOf (Wo.opn seed) leaf (Wo.ends (Wo.opn seed) leaf (Wo.digs d) (Wo.signs seed leaf (Wo.digs d) 35) 35) = Wo.pub seed leaf := by
 rw [Wo.recovers seed leaf (Wo.digs d) (Wo.digs_le d hd) 35]; unfold Wo.pub; rfl
def qA0 (seed o r : List UInt8) (h : Int) (A : Option Addr) (n c : Nat) : List Value := [Str seed, Str o, Str r, I h, .slice A n c]
def qSw (mm : Hp) (g : Nat) (seed : List UInt8) (h : Nat) : Prop := ∃ A c mr, mm = U [blk g (qA0 seed (Wo.opn seed) (Xm.root seed h) h A (2 ^ h) c) 171, mr] ∧ Dj (blk g (qA0 seed (Wo.opn seed) (Xm.root seed h) h A (2 ^ h) c) 171) mr ∧ Row mr 9 1 A (2 ^ h) c (qAJ (Xm.leaves seed (2 ^ h)))
theorem qSw.see {mm : Hp} {g : Nat} {seed : List UInt8} {h : Nat} (hk : qSw mm g seed h) : ∃ A c, qAS mm ⟨g, 0, none⟩ (qA0 seed (Wo.opn seed) (Xm.root seed h) h A (2 ^ h) c) ∧ Sl mm 1 A (2 ^ h) c (qAJ (Xm.leaves seed (2 ^ h))) := by
 obtain ⟨A, c, mr, rfl, hd, hr⟩ := hk
 exact ⟨A, c, qAS.blk0.mono (qQj _ _), hr.sl.mono (qND hd)⟩
theorem qQ3 (F : Hp) (hK : KF F) (seed : List UInt8) (h : Nat) (hs : seed.length ≤ 1048576) (h6 : h ≤ 6) :
    Ct prog 33 [Str seed, I h] [F] (fun x : Nat × Hp => .tuple #[Ptr x.1, I 0]) (fun x => qSw x.2 x.1 seed h) (fun x => [x.2, F]) := by
  have hp64 := Xm.pow_le h h6
  have hp0 := Nat.two_pow_pos h
  refine Ct.walk func33 rfl ntmps33 rfl (fun w0 hw0 => ?_)
  change J _ [(0, _), (1, _)] _ _ _
  refine J.g fun K1 hK1 => J.j 2 rfl <| J.c hK1 <| J.G 0 1 ?_
  refine J.p fun K2 hK2 => J.g fun K3 hK3 => J.b rfl <| J.f ((qAX rfl rfl rfl).no (by omega)) rfl <| J.j 2 rfl <| J.E ((qBQ rfl rfl rfl).no (by omega)) rfl <| J.b rfl <| J.c hK3 <| J.O 0 1 15 ?_
  refine J.b2 ?_
  refine J.a1 hK2 <| J.G 0 1 ?_
  refine J.g fun K4 hK4 => J.b rfl <| J.f (qAL (l := [(0, .tmp 16)]) (places := [(0, 1), (1, 3), (4, 1)]) (r := qA0 seed [] [] 0 none 0 0) rfl rfl rfl qFt zeroValue171 (fun _ => by kernel_rfl) rfl) rfl <| J.q (qAi rfl rfl (l := qA0 seed [] [] 0 none 0 0) rfl) rfl fun g18 _ => ?_
  change J _ _ _ [F, blk g18 (qA0 seed [] [] 0 none 0 0) 171] _
  refine J.b rfl <| J.c hK4 <| J.O 0 1 6 ?_
  refine J.p fun K5 hK5 => J.p fun K6 hK6 => J.d6 [0, 1, 2] [F, blk g18 (qA0 seed [] [] 0 none 0 0) 171, (fun _ => none)] rfl (by decide) <| J.M <| J.b rfl <| J.f ((qG4 (a := 1) (m := h) rfl rfl rfl ⟨by omega, by have := Int.pow_pos (n := 2) (m := h) (by decide); omega, by rw [Int.one_mul]; exact Int.ofNat_le.2 (show 2 ^ h ≤ 9223372036854775807 by omega)⟩).as (v' := I ((2 ^ h : Nat) : Int)) (congrArg I (by simp))) rfl <| J.b rfl <| J.c hK6 <| J.a3 0 1 6 20 21 ?_
  refine J.W <| J.b6 (X := Nat × Option Addr × Nat × Hp) (fun x => [(0, Str seed), (1, I h), (6, Ptr g18), (20, I ((2 ^ h : Nat) : Int)), (21, I x.1)]) (fun x => [F, blk g18 (qA0 seed [] [] 0 x.2.1 x.1 x.2.2.1) 171, x.2.2.2]) (fun x => x.1 ≤ 2 ^ h ∧ Row x.2.2.2 9 1 x.2.1 x.1 x.2.2.1 (qAJ (Xm.leaves seed x.1))) (fun x => 2 ^ h - x.1) (0, none, 0, fun _ => none) (⟨Nat.zero_le _, by rw [Xm.leaves0]; exact qCA.nil⟩) ⟨rfl, rfl, rfl, rfl, rfl, trivial⟩ (fun _ h => h) ?_
  rintro ⟨k, A6, c6, m⟩ ⟨hk, hrow⟩ I0 hI0
  dsimp only at hk hrow ⊢
  refine J.g fun K7 hK7 => J.f (qAX rfl rfl rfl) rfl <| J.c hK7 <| J.b1 0 1 6 20 21 22 ?_
  refine J.p fun K8 hK8 => J.a0 rfl (fun h22 => ?_) (fun h22 => ?_)
  ·
    refine J.a1 hK8 <| J.a3 0 1 6 20 21 ?_
    refine J.p fun K9 hK9 => J.W <| J.g fun K10 hK10 => J.j 2 rfl <| J.c hK10 <| J.b1 0 1 6 7 20 21 ?_
    refine J.c0 [blk g18 (qA0 seed [] [] 0 A6 k c6) 171] [12] (.y 0 (.y 1 (.y 2 (.y 3 (.y 4 (.y 5 (.y 6 (.e 7 (.e 8 (.e 9 (.y 10 (.y 11 (.e 12 .nil))))))))))))) Tryz.wide (by decide +kernel) (by simp) ?_
    refine J.V ?_
    refine J.V ?_
    refine J.k rfl (qAD rfl rfl) rfl rfl <| J.k rfl (qAA (j := 4) rfl rfl qFt rfl qEe rfl) rfl rfl <| J.k rfl (qAE 0 rfl rfl rfl qDv rfl) rfl rfl <| J.V ?_
    refine J.V ?_
    refine J.a2 rfl (qAC rfl rfl ent68 (Ct.use0 (fun F' hF => qQ6 F' (hK.mono (hF _ (by simp))) seed k hs (by omega)))) rfl (by simp) fun g31 _ => J.a2 rfl (qAH (l := [.tmp 31]) (xs := [[Str (Wo.pub seed k)]]) rfl rfl rfl rfl qAo el9 rfl (by decide) (by decide) (by simp)) rfl (by simp) fun g32 _ => ?_
    change J _ _ _ [F, blk g18 (qA0 seed [] [] 0 A6 k c6) 171, m, blk g32 [Str (Wo.pub seed k)] 9] _
    refine J.a2 rfl (qAY (i := 2) (m2 := blk g32 [Str (Wo.pub seed k)] 9) (ys := qAJ [(Wo.pub seed k)]) rfl rfl rfl qAo qAo el9 rfl hrow (by simp) (qAn (q := True) (xs := qAJ [(Wo.pub seed k)]) rfl (by simp [qAJ])).sl (qCH _) (by omega) (by omega)) rfl (by simp) ?_
    rintro ⟨A33, c33, m33⟩ h33
    try dsimp only at h33
    change J _ ((33, .slice A33 (k + 1) c33) :: _) _ [_, _, m33, _] _
    rw [← qBw, ← Xm.leaves_succ] at h33
    refine J.k rfl (qAD rfl rfl) rfl rfl <| J.k rfl (qAA (j := 4) rfl rfl qFt rfl qEe rfl) rfl rfl <| J.c8 rfl (qAc (i := 1) (vs := [.slice A33 (k + 1) c33]) rfl rfl rfl rfl rfl qEe rfl (by simp [qA0])) rfl rfl rfl fun _ _ => ?_
    change J _ _ _ [_, blk g18 (qA0 seed [] [] 0 A33 (k + 1) c33) 171, _, _] _
    refine J.b3 <| J.a5 <| J.A (J.L hK9 ?_)
    refine J.a3 0 1 6 20 21 ?_
    exact J.c4 [0, 1, 2] [F, blk g18 (qA0 seed [] [] 0 A33 (k + 1) c33) 171, m33] rfl (by decide) <| J.M <| J.f ((qAU rfl rfl rfl (by omega)).nat (k + 1) (by omega)) rfl <| J.b rfl <| J.a6 <| J.A <| J.a8 (k + 1, A33, c33, m33) (fun x (hx : _ ∧ 2 ^ h - x.1 < 2 ^ h - k) => hI0 x hx.1 hx.2) ⟨⟨by dsimp only; omega, h33⟩, by dsimp only; omega⟩ ⟨rfl, rfl, rfl, rfl, rfl, trivial⟩ (fun _ h => h)
  refine J.b5 <| J.a4 <| J.a4 <| J.b7 ?_
  refine J.A (J.L hK5 ?_)
  refine J.O 0 1 6 ?_
  refine J.p fun K11 hK11 => ?_
  have hkn : k = 2 ^ h := by omega
  subst hkn
  refine J.M <| J.b rfl <| J.f (qAD rfl rfl) rfl <| J.a7 4 qFt qEe rfl rfl rfl rfl rfl <| J.d2 1 qDv rfl rfl rfl rfl rfl <| J.q (qAC rfl rfl ent69 (Ct.use0 (fun F' hF => qRc F' (hK.mono (hF _ (by simp))) A6 (2 ^ h) c6 (Xm.leaves seed (2 ^ h)) (hrow.sl.mono (hF _ (by simp))) h h6 rfl (Xm.leaves_small _ _)))) rfl fun g42 _ => J.j 2 rfl <| J.f (qAm rfl rfl rfl) rfl <| J.j 2 rfl <| J.c hK11 <| J.T 0 1 6 8 ?_
  refine J.g fun K12 hK12 => J.j 2 rfl <| J.q (qAC rfl rfl ent70 (Ct.use0 (fun F' hF => qGe F' (hK.mono (hF _ (by simp))) seed hs))) rfl fun g47 _ => J.j 2 rfl <| J.f (qAL (l := [(0, .tmp 47), (1, .tmp 48), (2, .tmp 49)]) (places := [(0, 1), (1, 1), (2, 1)]) (r := [Str (Wo.opn seed), Str (Xm.root seed h), I h]) rfl rfl rfl qIp zeroValue54 (fun _ => by kernel_rfl) rfl) rfl <| J.f (qAD rfl rfl) rfl <| J.a7 1 qFt qF1 rfl rfl rfl rfl rfl <| J.b4 (qAc (i := 1) (vs := [Str (Wo.opn seed), Str (Xm.root seed h), I h]) rfl rfl rfl rfl rfl qF1 rfl (by simp [qA0])) rfl rfl fun _ _ => ?_
  change J _ _ _ [F, blk g18 (qA0 seed (Wo.opn seed) (Xm.root seed h) h A6 (2 ^ h) c6) 171, m] _
  refine J.c hK12 <| J.u 6 ?_
  refine J.p fun K13 hK13 => J.c4 [1, 2, 0] [blk g18 (qA0 seed (Wo.opn seed) (Xm.root seed h) h A6 (2 ^ h) c6) 171, m, F] rfl (by decide) <| J.M <| J.j 3 rfl <| J.c hK13 <| J.G 4 5 ?_
  exact J.D <| J.b8 hw0 (fun _ _ h => h) (qCx rfl rfl rfl) (qBx (g18, U [blk g18 (qA0 seed (Wo.opn seed) (Xm.root seed h) h A6 (2 ^ h) c6) 171, m]) rfl (fun hd => ⟨A6, c6, m, rfl, hd, hrow⟩) [0, 1, 2] rfl rfl (by decide))
theorem qLj (F : Hp) (g : Nat) (seed o r : List UInt8) (h : Int) (A : Option Addr) (n c : Nat) (hc : qAS F ⟨g, 0, none⟩ (qA0 seed o r h A n c)) :
    Ct prog 89 [Ptr g] [F] (fun _ : Unit => I n) (fun _ => True) (fun _ => [F]) := by
  refine Ct.walk func89 rfl ntmps89 rfl (fun w0 hw0 => ?_)
  change J _ [(0, _)] _ _ _
  refine J.g fun K1 hK1 => J.b rfl <| J.c hK1 <| J.u 0 ?_
  refine J.p fun K2 hK2 => J.g fun K3 hK3 => J.b rfl <| J.f ((qBk underlying105 rfl rfl rfl).as (v' := .bool false) rfl) rfl <| J.c hK3 <| J.G 0 4 ?_
  refine J.b2 ?_
  refine J.a1 hK2 <| J.u 0 ?_
  refine J.g fun K4 hK4 => J.b rfl <| J.f (qAD rfl rfl) rfl <| J.a7 4 qFt qEe rfl rfl rfl rfl rfl <| J.f (qAQ rfl rfl qDv (m := F) (by simp) (hc.at (i := 4) rfl)) rfl <| J.f (qAh qAo rfl rfl) rfl <| J.b rfl <| J.c hK4 <| J.u 2 ?_
  exact J.D <| J.H hw0 rfl () rfl trivial [0] rfl (by decide)
theorem qKT (F : Hp) (g : Nat) (seed o r : List UInt8) (h : Int) (A : Option Addr) (n c : Nat) (hc : qAS F ⟨g, 0, none⟩ (qA0 seed o r h A n c)) :
    Ct prog 35 [Ptr g] [F] (fun _ : Unit => .agg #[Str o, Str r, I h]) (fun _ => True) (fun _ => [F]) := by
  refine Ct.walk func35 rfl ntmps35 rfl (fun w0 hw0 => ?_)
  change J _ [(0, _)] _ _ _
  refine J.g fun K1 hK1 => J.q (qAe rfl zeroValue54 rfl) rfl fun g2 _ => ?_
  change J _ _ _ [F, blk g2 _ 54] _
  refine J.c hK1 <| J.G 0 2 ?_
  refine J.p fun K2 hK2 => J.g fun K3 hK3 => J.b rfl <| J.f ((qBk underlying105 rfl rfl rfl).as (v' := .bool false) rfl) rfl <| J.c hK3 <| J.O 0 2 4 ?_
  refine J.b2 ?_
  refine J.a1 hK2 <| J.G 0 2 ?_
  refine J.g fun K4 hK4 => J.b rfl <| J.f (qAD rfl rfl) rfl <| J.a7 1 qFt qF1 rfl rfl rfl rfl rfl <| J.f (qAd rfl rfl isAgg54 qF1 (m := F) (by simp) (vs := [Str o, Str r, I h]) (hc.sub 1 3) rfl) rfl <| J.b4 (qAP (l := [Str [], Str [], I 0]) (i := 1) (vs := [Str o, Str r, I h]) rfl rfl rfl rfl rfl qF1 rfl rfl) rfl rfl fun _ _ => ?_
  change J _ _ _ [_, blk g2 [Str o, Str r, I h] 54] _
  refine J.c hK4 <| J.u 2 ?_
  exact J.D <| J.b8 hw0 (fun _ _ h => h) (rv1 rfl (RV.blkA 1 rfl rfl isAgg54 qF1)) (qA6 () rfl trivial [0] rfl (by decide))
theorem qF2 (F : Hp) (hK : KF F) (o : List UInt8) (i : Nat) (mg : List UInt8) (ho : o.length ≤ 1048576) (hi : i < 4611686018427387904) (hm : mg.length ≤ 1048576) :
    Ct prog 91 [Str o, I i, Str mg] [F] (fun _ : Unit => Str (Xm.digest o i mg)) (fun _ => True) (fun _ => [F]) := by
  refine Ct.walk func91 rfl ntmps91 rfl (fun w0 hw0 => ?_)
  change J _ [(0, _), (1, _), (2, _)] _ _ _
  refine J.g fun K1 hK1 => J.b rfl <| J.c hK1 <| J.O 0 1 2 ?_
  refine J.g fun K2 hK2 => J.b rfl <| J.f ((qCM (m := 24) rfl rfl rfl ⟨by decide, by omega⟩).as (v' := I ((i / 2 ^ 24 : Nat) : Int)) (congrArg I (by simp))) rfl <| J.f (qAk rfl rfl u3_ u5_) rfl <| J.b rfl <| J.f ((qCM (m := 16) rfl rfl rfl ⟨by decide, by omega⟩).as (v' := I ((i / 2 ^ 16 : Nat) : Int)) (congrArg I (by simp))) rfl <| J.f (qAk rfl rfl u3_ u5_) rfl <| J.b rfl <| J.f ((qCM (m := 8) rfl rfl rfl ⟨by decide, by omega⟩).as (v' := I ((i / 2 ^ 8 : Nat) : Int)) (congrArg I (by simp))) rfl <| J.f (qAk rfl rfl u3_ u5_) rfl <| J.b rfl <| J.f (qAk rfl rfl u3_ u5_) rfl <| J.q (qAH (l := [.tmp 10, .tmp 13, .tmp 16, .tmp 18]) (xs := [[B8 (UInt8.ofNat (i / 2 ^ 24))], [B8 (UInt8.ofNat (i / 2 ^ 16))], [B8 (UInt8.ofNat (i / 2 ^ 8))], [B8 (UInt8.ofNat i)]]) rfl rfl rfl rfl qBd el5 rfl (by decide) (by decide) (by simp)) rfl fun g19 _ => ?_
  change J _ _ _ [F, blk g19 [B8 (UInt8.ofNat (i / 2 ^ 24)), B8 (UInt8.ofNat (i / 2 ^ 16)), B8 (UInt8.ofNat (i / 2 ^ 8)), B8 (UInt8.ofNat i)] 5] _
  refine J.f (qBT (l := Xm.four i) rfl rfl qBd u5_ u9_ (m := blk g19 [B8 (UInt8.ofNat (i / 2 ^ 24)), B8 (UInt8.ofNat (i / 2 ^ 16)), B8 (UInt8.ofNat (i / 2 ^ 8)), B8 (UInt8.ofNat i)] 5) (by simp) (slB (Xm.four i) rfl)) rfl <| J.b rfl <| J.c hK2 <| J.O 0 2 7 ?_
  refine J.g fun K3 hK3 => J.j 3 rfl <| J.q (qAH (l := [.tmp 21, .tmp 22, .tmp 23]) (xs := [[Str (o)], [Str (Xm.four i)], [Str (mg)]]) rfl rfl rfl rfl qAo el9 rfl (by decide) (by decide) (by simp)) rfl fun g24 _ => ?_
  change J _ _ _ [_, _, blk g24 [Str (o), Str (Xm.four i), Str (mg)] 9] _
  refine J.q (qAC rfl rfl ent44 (Ct.use0 (fun F' hF => qA4 F' (hK.mono (hF _ (by simp))) 6 (some ⟨g24, 0, none⟩) 3 3 [o, Xm.four i, mg] ((slS [o, Xm.four i, mg] rfl).mono (hF (blk g24 (([o, Xm.four i, mg] : List (List UInt8)).map fun s => Str s) 9) (by simp))) (by have := qQX ho (show (Xm.four i).length ≤ 1048576 by rw [Xm.four_length]; decide) hm; omega) (by decide)))) rfl fun g25 _ => J.b rfl <| J.c hK3 <| J.u 6 ?_
  exact J.D <| J.H hw0 rfl () rfl trivial [0] rfl (by decide)
theorem qOF (F : Hp) (hK : KF F) (g : Nat) (seed : List UInt8) (h : Nat) (A : Option Addr) (c : Nat) (hc : qAS F ⟨g, 0, none⟩ (qA0 seed (Wo.opn seed) (Xm.root seed h) h A (2 ^ h) c)) (hsl : Sl F 1 A (2 ^ h) c (qAJ (Xm.leaves seed (2 ^ h)))) (hs : seed.length ≤ 1048576) (h6 : h ≤ 6) (mg : List UInt8) (hm : mg.length ≤ 1048576) (i : Nat) (hi : i < 2 ^ h) :
    Ct prog 45 [Ptr g, I i, Str mg] [F] (fun x : (Option Addr × Nat × Hp) × (Option Addr × Nat × Hp) => .tuple #[.agg #[I i, .slice x.1.1 35 x.1.2.1, .slice x.2.1 h x.2.2.1], I 0]) (fun x => Row x.1.2.2 9 1 x.1.1 35 x.1.2.1 (qAJ (Wo.signs seed i (Wo.digs (Xm.digest (Wo.opn seed) i mg)) 35)) ∧ Row x.2.2.2 9 1 x.2.1 h x.2.2.1 (qAJ (Mk.path (Xm.leaves seed (2 ^ h)) i h))) (fun x => [F, x.1.2.2, x.2.2.2]) := by
  have hp64 := Xm.pow_le h h6
  have hdl := Xm.digest_length (Wo.opn seed) i mg
  refine Ct.walk func45 rfl ntmps45 rfl (fun w0 hw0 => ?_)
  change J _ [(0, _), (1, _), (2, _)] _ _ _
  refine J.g fun K1 hK1 => J.q (qAe rfl zeroValue50 rfl) rfl fun g6 _ => ?_
  change J _ _ _ [F, blk g6 _ 50] _
  refine J.b rfl <| J.c hK1 <| J.T 0 1 2 6 ?_
  refine J.p fun K2 hK2 => J.W <| J.g fun K3 hK3 => J.b rfl <| J.f ((qBk underlying105 rfl rfl rfl).as (v' := .bool false) rfl) rfl <| J.b rfl <| J.c hK3 <| J.a3 0 1 2 6 11 ?_
  refine J.b2 ?_
  refine J.g fun K4 hK4 => J.j 2 rfl <| J.q (qAC rfl rfl ent89 (Ct.use0 (fun F' hF => qLj F' g seed (Wo.opn seed) (Xm.root seed h) h A (2 ^ h) c (hc.mono (hF F (by simp)))))) rfl fun g18 _ => J.f ((qBR rfl rfl rfl).no (by omega)) rfl <| J.b rfl <| J.c hK4 <| J.a3 0 1 2 6 15 ?_
  refine J.b2 ?_
  refine J.g fun K5 hK5 => J.b rfl <| J.f ((qAX rfl rfl rfl).no (by omega)) rfl <| J.b rfl <| J.c hK5 <| J.a3 0 1 2 6 21 ?_
  refine J.b2 ?_
  refine J.b9 <| J.a5 <| J.A (J.L hK2 ?_)
  refine J.T 0 1 2 6 ?_
  refine J.p fun K6 hK6 => J.c0 [F] [] (.y 0 (.y 1 (.y 2 (.y 3 (.y 4 (.y 5 (.y 6 (.y 7 (.y 8 (.y 9 (.y 10 (.y 11 (.e 12 (.e 13 (.y 14 (.y 15 (.y 16 (.y 17 (.y 18 .nil))))))))))))))))))) Tryz.wide (by decide +kernel) (by simp) ?_
  refine J.V ?_
  refine J.k rfl (qAD rfl rfl) rfl rfl <| J.k rfl (qAA (j := 0) rfl rfl qFt rfl z9_ rfl) rfl rfl <| J.k rfl (qAQ rfl rfl b9_ (m := F) (by simp) (hc.at (i := 0) rfl)) rfl rfl <| J.V ?_
  refine J.V ?_
  refine J.k rfl (qAD rfl rfl) rfl rfl <| J.k rfl (qAA (j := 1) rfl rfl qFt rfl qF1 rfl) rfl rfl <| J.k rfl (qAA (j := 1) rfl rfl qIp rfl z9_ rfl) rfl rfl <| J.k rfl (qAQ rfl rfl b9_ (m := F) (by simp) (hc.at (i := 1) rfl)) rfl rfl <| J.V ?_
  refine J.V ?_
  refine J.a2 rfl (qAC rfl rfl ent91 (Ct.use0 (fun F' hF => qF2 F' (hK.mono (hF _ (by simp))) (Wo.opn seed) i mg (by rw [Wo.opn_length]; decide) (by omega) hm))) rfl (by simp) fun g38 _ => J.a2 rfl (qAC rfl rfl ent90 (Ct.use (fun F' hF => qRT F' (hK.mono (hF _ (by simp))) seed i (Xm.digest (Wo.opn seed) i mg) hs (by omega) hdl))) rfl (by simp) ?_
  rintro ⟨A39, c39, m39⟩ h39
  try dsimp only at h39
  change J _ ((39, .tuple #[.slice A39 35 c39, I 0]) :: _) _ [_, _, m39] _
  refine J.V ?_
  refine J.d4 (.slice A39 35 c39) ?_
  refine J.d4 (I 0) ?_
  refine J.c1 ?_
  refine J.c1 ?_
  refine J.b3 <| J.A (J.L hK6 ?_)
  refine J.a3 0 1 6 8 9 ?_
  refine J.p fun K7 hK7 => J.g fun K8 hK8 => J.b rfl <| J.f ((qAz rfl rfl rfl).no (by decide)) rfl <| J.c hK8 <| J.b1 0 1 6 8 9 43 ?_
  refine J.b2 ?_
  refine J.a1 hK7 <| J.T 0 1 6 8 ?_
  refine J.g fun K9 hK9 => J.b rfl <| J.f (qAD rfl rfl) rfl <| J.a7 4 qFt qEe rfl rfl rfl rfl rfl <| J.f (qAQ rfl rfl qDv (m := F) (by simp) (hc.at (i := 4) rfl)) rfl <| J.b rfl <| J.q (qAC rfl rfl ent92 (Ct.use (fun F' hF => qRp F' (hK.mono (hF _ (by simp))) A (2 ^ h) c (Xm.leaves seed (2 ^ h)) (hsl.mono (hF F (by simp))) h h6 rfl (Xm.leaves_small _ _) i hi))) rfl ?_
  rintro ⟨A52, c52, m52⟩ h52
  try dsimp only at h52
  change J _ ((52, .tuple #[.slice A52 h c52, I 0]) :: _) _ [_, _, _, m52] _
  refine J.j 5 rfl <| J.c hK9 <| J.a3 1 6 8 9 10 ?_
  refine J.g fun K10 hK10 => J.j 3 rfl <| J.f (qAL (l := [(0, .tmp 55), (1, .tmp 56), (2, .tmp 57)]) (places := [(0, 1), (1, 1), (2, 1)]) (r := [I i, .slice A39 35 c39, .slice A52 h c52]) rfl rfl rfl qL3 zeroValue50 (fun _ => by kernel_rfl) rfl) rfl <| J.b rfl <| J.b4 (qAP (l := [I 0, .slice none 0 0, .slice none 0 0]) (i := 1) (vs := [I i, .slice A39 35 c39, .slice A52 h c52]) rfl rfl rfl rfl rfl qQM rfl rfl) rfl rfl fun _ _ => ?_
  change J _ _ _ [_, blk g6 [I i, .slice A39 35 c39, .slice A52 h c52] 50, _, _] _
  refine J.b rfl <| J.c hK10 <| J.G 6 7 ?_
  exact J.D <| J.b8 hw0 (fun _ _ h => h) (rv2 rfl (RV.blkA 1 rfl rfl isAgg50 qQM) rfl) (qA6 ((A39, c39, m39), (A52, c52, m52)) rfl ⟨h39, h52⟩ [0, 2, 3] rfl (by decide))
theorem Wo.publicOf_length (o : List UInt8) (leaf : Nat) (e : List (List UInt8)) : (Wo.publicOf o leaf e).length = 16 := by unfold Wo.publicOf; exact Sha.tagged_length _ _
theorem qKS (F : Hp) (hK : KF F) (o r : List UInt8) (h : Nat) (mg : List UInt8) (i : Nat) (A1 : Option Addr) (c1 : Nat) (ch : List (List UInt8)) (hch : Sl F 1 A1 35 c1 (qAJ ch)) (hsg : ∀ s ∈ ch, s.length = 16) (A2 : Option Addr) (c2 : Nat) (pt : List (List UInt8)) (hpt : Sl F 1 A2 h c2 (qAJ pt)) (hps : ∀ s ∈ pt, s.length ≤ 1048576)
    (ho : o.length ≤ 1048576) (hm : mg.length ≤ 1048576) (h6 : h ≤ 6) (hi : i < 2 ^ h) :
    Ct prog 66 [.agg #[Str o, Str r, I h], Str mg, .agg #[I i, .slice A1 35 c1, .slice A2 h c2]] [F] (fun _ : Unit => .bool (decide (Mk.climb (Wo.publicOf o i (Wo.ends o i (Wo.digs (Xm.digest o i mg)) ch 35)) i pt = r))) (fun _ => True) (fun _ => [F]) := by
  have hp64 := Xm.pow_le h h6
  have hdl := Xm.digest_length o i mg
  refine Ct.walk func66 rfl ntmps66 rfl (fun w0 hw0 => ?_)
  change J _ [(0, _), (1, _), (2, _)] _ _ _
  refine J.g fun K1 hK1 => J.q (qAi rfl rfl (l := [Str o, Str r, I h]) rfl) rfl fun g3 _ => ?_
  change J _ _ _ [F, blk g3 [Str o, Str r, I h] 54] _
  refine J.q (qAi rfl rfl (l := [I i, .slice A1 35 c1, .slice A2 h c2]) rfl) rfl fun g5 _ => ?_
  change J _ _ _ [_, _, blk g5 [I i, .slice A1 35 c1, .slice A2 h c2] 50] _
  refine J.b rfl <| J.c hK1 <| J.O 1 3 5 ?_
  refine J.p fun K2 hK2 => J.p fun K3 hK3 => J.c0 [F, blk g3 [Str o, Str r, I h] 54, blk g5 [I i, .slice A1 35 c1, .slice A2 h c2] 50] [] (.y 0 (.y 1 (.y 2 (.y 3 (.y 4 (.y 5 (.y 6 (.y 7 (.y 8 (.y 9 (.y 10 (.y 11 (.y 12 (.y 13 (.y 14 (.y 15 (.y 16 (.y 17 (.y 18 (.y 19 (.y 20 (.y 21 (.y 22 (.y 23 (.y 24 (.y 25 (.y 26 (.y 27 (.y 28 .nil))))))))))))))))))))))))))))) Tryz.wide (by decide +kernel) (by simp) ?_
  refine J.k rfl (qAA (j := 2) rfl rfl qIp rfl z3_ rfl) rfl rfl <| J.k rfl (qAE 1 rfl rfl rfl b3_ rfl) rfl rfl <| J.k rfl ((qAX rfl rfl rfl).no (by omega)) rfl rfl <| J.V ?_
  refine J.b0 rfl (qAA (j := 2) rfl rfl qIp rfl z3_ rfl) rfl rfl <| J.b0 rfl (qAE 1 rfl rfl rfl b3_ rfl) rfl rfl <| J.b0 rfl ((qBQ rfl rfl rfl).no (by omega)) rfl rfl <| J.f9 ?_
  refine J.V ?_
  refine J.b0 rfl (qAA (j := 0) rfl rfl qL3 rfl z3_ rfl) rfl rfl <| J.b0 rfl (qAE 2 rfl rfl rfl b3_ rfl) rfl rfl <| J.b0 rfl ((qAX rfl rfl rfl).no (by omega)) rfl rfl <| J.f9 ?_
  refine J.V ?_
  refine J.b0 rfl (qAA (j := 0) rfl rfl qL3 rfl z3_ rfl) rfl rfl <| J.b0 rfl (qAE 2 rfl rfl rfl b3_ rfl) rfl rfl <| J.b0 rfl (qAA (j := 2) rfl rfl qIp rfl z3_ rfl) rfl rfl <| J.b0 rfl (qAE 1 rfl rfl rfl b3_ rfl) rfl rfl <| J.b0 rfl ((qG4 (a := 1) (m := h) rfl rfl rfl ⟨by omega, by have := Int.pow_pos (n := 2) (m := h) (by decide); omega, by rw [Int.one_mul]; exact Int.ofNat_le.2 (show 2 ^ h ≤ 9223372036854775807 by omega)⟩).as (v' := I ((2 ^ h : Nat) : Int)) (congrArg I (by simp))) rfl rfl <| J.b0 rfl ((qBR rfl rfl rfl).no (by omega)) rfl rfl <| J.f9 ?_
  refine J.V ?_
  refine J.b0 rfl (qAA (j := 2) rfl rfl qL3 rfl qEe rfl) rfl rfl <| J.b0 rfl (qAE 2 rfl rfl rfl qDv rfl) rfl rfl <| J.b0 rfl (qAh qAo rfl rfl) rfl rfl <| J.b0 rfl (qAA (j := 2) rfl rfl qIp rfl z3_ rfl) rfl rfl <| J.b0 rfl (qAE 1 rfl rfl rfl b3_ rfl) rfl rfl <| J.b0 rfl ((qAz rfl rfl rfl).no (fun h => h rfl)) rfl rfl <| J.f9 ?_
  refine J.b3 <| J.A (J.L hK3 ?_)
  refine J.T 1 3 5 37 ?_
  refine J.b2 ?_
  refine J.a1 hK2 <| J.O 1 3 5 ?_
  refine J.p fun K4 hK4 => J.c0 [F, blk g3 [Str o, Str r, I h] 54, blk g5 [I i, .slice A1 35 c1, .slice A2 h c2] 50] [] (.y 0 (.y 1 (.y 2 (.y 3 (.y 4 (.y 5 (.y 6 (.y 7 (.y 8 (.y 10 (.y 11 (.e 9 (.e 12 (.y 13 (.y 14 (.y 15 (.y 16 (.y 17 .nil)))))))))))))))))) Tryz.wide (by decide +kernel) (by simp) ?_
  refine J.k rfl (qAA (j := 0) rfl rfl qIp rfl z9_ rfl) rfl rfl <| J.k rfl (qAE 1 rfl rfl rfl b9_ rfl) rfl rfl <| J.k rfl (qAA (j := 0) rfl rfl qL3 rfl z3_ rfl) rfl rfl <| J.k rfl (qAE 2 rfl rfl rfl b3_ rfl) rfl rfl <| J.k rfl (qAA (j := 0) rfl rfl qIp rfl z9_ rfl) rfl rfl <| J.k rfl (qAE 1 rfl rfl rfl b9_ rfl) rfl rfl <| J.k rfl (qAA (j := 0) rfl rfl qL3 rfl z3_ rfl) rfl rfl <| J.k rfl (qAE 2 rfl rfl rfl b3_ rfl) rfl rfl <| J.V ?_
  refine J.k rfl (qAA (j := 1) rfl rfl qL3 rfl qEe rfl) rfl rfl <| J.k rfl (qAE 2 rfl rfl rfl qDv rfl) rfl rfl <| J.a2 rfl (qAC rfl rfl ent91 (Ct.use0 (fun F' hF => qF2 F' (hK.mono (hF _ (by simp))) o i mg ho (by omega) hm))) rfl (by simp) fun g48 _ => J.a2 rfl (qAC rfl rfl ent123 (Ct.use0 (fun F' hF => qKw F' (hK.mono (hF _ (by simp))) o i (Xm.digest o i mg) A1 c1 ch (hch.mono (hF F (by simp))) ho (by omega) hdl hsg))) rfl (by simp) fun g51 _ => J.V ?_
  refine J.d4 (Str (Wo.publicOf o i (Wo.ends o i (Wo.digs (Xm.digest o i mg)) ch 35))) ?_
  refine J.d4 (I 0) ?_
  refine J.c1 ?_
  refine J.c1 ?_
  refine J.b3 <| J.A (J.L hK4 ?_)
  refine J.T 3 5 7 8 ?_
  refine J.p fun K5 hK5 => J.c0 [F, blk g3 [Str o, Str r, I h] 54, blk g5 [I i, .slice A1 35 c1, .slice A2 h c2] 50] [] (.y 0 (.y 1 (.y 2 (.y 3 (.y 4 (.y 5 (.y 6 (.y 7 (.y 9 (.y 10 (.e 8 (.y 11 (.y 12 (.y 13 .nil)))))))))))))) Tryz.wide (by decide +kernel) (by simp) ?_
  refine J.V ?_
  refine J.k rfl ((qAa rfl rfl rfl).yes (by decide)) rfl rfl <| J.V ?_
  refine J.b0 rfl (qAv rfl rfl) rfl rfl <| J.b0 rfl (qAA (j := 0) rfl rfl qL3 rfl z3_ rfl) rfl rfl <| J.b0 rfl (qAE 2 rfl rfl rfl b3_ rfl) rfl rfl <| J.b0 rfl (qAA (j := 2) rfl rfl qL3 rfl qEe rfl) rfl rfl <| J.b0 rfl (qAE 2 rfl rfl rfl qDv rfl) rfl rfl <| J.b0 rfl (qAA (j := 1) rfl rfl qIp rfl z9_ rfl) rfl rfl <| J.b0 rfl (qAE 1 rfl rfl rfl b9_ rfl) rfl rfl <| J.e8 rfl (qAC rfl rfl ent124 (Ct.use0 (fun F' hF => qPz F' (hK.mono (hF _ (by simp))) (Wo.publicOf o i (Wo.ends o i (Wo.digs (Xm.digest o i mg)) ch 35)) i A2 h c2 pt (hpt.mono (hF F (by simp))) (by rw [Wo.publicOf_length]; decide) hps (by omega) (by omega)))) (Wan.is rfl rfl rfl rfl rfl) rfl rfl (by simp) ?_
  intro g62 _
  refine J.b0 rfl (qBH rfl rfl rfl) rfl rfl <| J.e3 ?_
  refine J.c1 ?_
  refine J.b3 <| J.A (J.L hK5 ?_)
  refine J.u 6 ?_
  exact J.D <| J.H hw0 rfl () rfl trivial [0] rfl (by decide)
end Go.Proofs.YtfldiegfenndjaaGreatDoor
namespace Go.Proofs.YtfldiegfenndjaaGreatDoor
open Go Go.Fw Go.Proofs.Tryz
set_option maxRecDepth 100000
set_option maxHeartbeats 1000000
theorem Mk.lvl_16 (l : List (List UInt8)) (hs : ∀ s ∈ l, s.length = 16) : ∀ j, ∀ s ∈ Mk.lvl l j, s.length = 16
 | 0, s, h => hs s h
 | j + 1, s, h => by
  simp only [Mk.lvl, Mk.above, List.mem_map] at h
  obtain ⟨k, _, rfl⟩ := h
  exact Mk.node_length _ _
theorem Mk.path_16 (l : List (List UInt8)) (i h : Nat) (hs : ∀ s ∈ l, s.length = 16) (hl : l.length = 2 ^ h) (hi : i < 2 ^ h) : ∀ s ∈ Mk.path l i h, s.length = 16 := fun s hp => by
 unfold Mk.path at hp
 simp only [List.mem_map, List.mem_range] at hp
 obtain ⟨j, hj, rfl⟩ := hp
 refine Mk.lvl_16 l hs j _ (Mk.getS_mem ?_)
 rw [Mk.lvl_length l h hl j (by omega), show h - j = (h - 1 - j) + 1 by omega, Nat.pow_succ, Nat.mul_comm]
 refine Mk.xor_one _ _ ?_
 rw [Nat.div_lt_iff_lt_mul (Nat.two_pow_pos j), Nat.mul_assoc, ← Nat.pow_add, Nat.mul_comm, ← Nat.pow_succ, show (h - 1 - j + j).succ = h by omega]
 exact hi
theorem Xm.leaves_16 (seed : List UInt8) (k : Nat) : ∀ s ∈ Xm.leaves seed k, s.length = 16 := fun s hs => by
 simp only [Xm.leaves, List.mem_map] at hs
 obtain ⟨i, _, rfl⟩ := hs
 exact Xm.pub_length _ _
theorem Wo.signs_len (seed : List UInt8) (i : Nat) (d : List Nat) : (Wo.signs seed i d 35).length = 35 := by simp [Wo.signs]
def qQy (m : Hp) (g : Nat) (seed : List UInt8) (h : Nat) : Prop := ∃ A c, qAS m ⟨g, 0, none⟩ (qA0 seed (Wo.opn seed) (Xm.root seed h) h A (2 ^ h) c) ∧ Sl m 1 A (2 ^ h) c (qAJ (Xm.leaves seed (2 ^ h)))
theorem qQy.mono {m m' : Hp} {g : Nat} {seed : List UInt8} {h : Nat} (hk : qQy m g seed h) (hl : Le m m') : qQy m' g seed h := by
 obtain ⟨A, c, h1, h2⟩ := hk
 exact ⟨A, c, h1.mono hl, h2.mono hl⟩
def sgC (seed : List UInt8) (i : Nat) (mg : List UInt8) : List (List UInt8) := Wo.signs seed i (Wo.digs (Xm.digest (Wo.opn seed) i mg)) 35
def sgP (seed : List UInt8) (h i : Nat) : List (List UInt8) := Mk.path (Xm.leaves seed (2 ^ h)) i h
theorem qMI (seed : List UInt8) (i : Nat) (mg : List UInt8) : (sgC seed i mg).length = 35 := Wo.signs_len _ _ _
theorem qTJ (seed : List UInt8) (i : Nat) (mg : List UInt8) : ∀ s ∈ sgC seed i mg, s.length = 16 := Wo.signs_16 _ _ _ _
theorem qMH (seed : List UInt8) (h i : Nat) : (sgP seed h i).length = h := Mk.path_length _ _ _
theorem qTI (seed : List UInt8) {h i : Nat} (hi : i < 2 ^ h) : ∀ s ∈ sgP seed h i, s.length = 16 := Mk.path_16 _ _ _ (Xm.leaves_16 _ _) (Xm.leaves_length _ _) hi
theorem qOG (F : Hp) (hK : KF F) (seed : List UInt8) (h : Nat) (hs : seed.length ≤ 1048576) (h6 : h ≤ 6) :
    Ct prog 33 [Str seed, I ((h : Nat) : Int)] [F] (fun x : Nat × Hp => .tuple #[Ptr x.1, I 0]) (fun x => qQy x.2 x.1 seed h) (fun x => [F, x.2]) := fun w0 w hw =>
  (qQ3 F hK seed h hs h6 w0 w hw).mono fun e w' ⟨x, he, hx, hs'⟩ => ⟨x, he, hx.see, hs'.pick [1, 0] (by decide)⟩
theorem qLi (F : Hp) (hK : KF F) (g : Nat) (seed : List UInt8) (h : Nat) (hk : qQy F g seed h) (hs : seed.length ≤ 1048576) (h6 : h ≤ 6) (i : Nat) (hi : i < 2 ^ h) (mg : List UInt8) (hm : mg.length ≤ 1048576) :
    Ct prog 45 [Ptr g, I ((i : Nat) : Int), Str mg] [F] (fun x : (Option Addr × Nat × Hp) × (Option Addr × Nat × Hp) => .tuple #[.agg #[I ((i : Nat) : Int), .slice x.1.1 (sgC seed i mg).length x.1.2.1, .slice x.2.1 (sgP seed h i).length x.2.2.1], I 0])
      (fun x => Row x.1.2.2 9 1 x.1.1 (sgC seed i mg).length x.1.2.1 (qAJ (sgC seed i mg)) ∧ Row x.2.2.2 9 1 x.2.1 (sgP seed h i).length x.2.2.1 (qAJ (sgP seed h i))) (fun x => [F, x.1.2.2, x.2.2.2]) := by
  obtain ⟨A, c, h1, h2⟩ := hk
  rw [qMI, qMH]
  exact qOF F hK g seed h A c h1 h2 hs h6 mg hm i hi
theorem qJR (F : Hp) (g : Nat) (seed : List UInt8) (h : Nat) (hk : qQy F g seed h) : Ct prog 35 [Ptr g] [F] (fun _ : Unit => .agg #[Str (Wo.opn seed), Str (Xm.root seed h), I ((h : Nat) : Int)]) (fun _ => True) (fun _ => [F]) := by
 obtain ⟨A, c, h1, h2⟩ := hk
 exact qKT F g seed (Wo.opn seed) (Xm.root seed h) h A (2 ^ h) c h1
theorem qJF (seed : List UInt8) (h i : Nat) (hi : i < 2 ^ h) : Mk.climb (Wo.pub seed i) i (sgP seed h i) = Xm.root seed h := by
 have := Mk.climb_root (Xm.leaves seed (2 ^ h)) h i (Xm.leaves_length _ _) hi
 rw [Xm.leaves_get seed _ i hi] at this
 exact this
theorem qI8 {l : List (List UInt8)} (h : ∀ s ∈ l, s.length = 16) : ∀ s ∈ l, s.length ≤ 1048576 := fun s hs => by rw [h s hs]; decide
def qGO (ep : Nat) (bd : Int) (hd : List UInt8) (nm : Int) : Prop := ep ≤ 4294967295 ∧ 0 ≤ bd ∧ bd < 16 ∧ hd.length = 16 ∧ 0 ≤ nm ∧ nm < 64
instance (ep : Nat) (bd : Int) (hd : List UInt8) (nm : Int) : Decidable (qGO ep bd hd nm) := by unfold qGO; infer_instance
def plB (ep bd nm : Nat) : List UInt8 := Sha.numB (UInt64.ofNat ep) 4 ++ Sha.numB (UInt64.ofNat bd) 1 ++ Sha.numB (UInt64.ofNat nm) 2
theorem qG0 (ep bd nm : Nat) : (plB ep bd nm).length = 7 := by unfold plB; simp only [List.length_append, Sha.numB_length]
def atM (ep bd nm : Nat) (hd : List UInt8) : List UInt8 := Sha.tagged 18 [plB ep bd nm, hd]
theorem qNx (ep bd nm : Nat) (hd : List UInt8) : (atM ep bd nm hd).length = 16 := Sha.tagged_length _ _
theorem qLH {ep : Nat} {bd : Int} {hd : List UInt8} {nm : Int} (h1 : (ep : Int) ≤ 4294967295) (h2 : 0 ≤ bd) (h3 : bd < 16) (h4 : (hd.length : Int) = 16) (h5 : 0 ≤ nm) : (nm < 64) = qGO ep bd hd nm := propext ⟨fun h => ⟨by omega, h2, h3, by omega, h5, h⟩, fun h => h.2.2.2.2.2⟩
theorem qLI {ep : Nat} {bd : Int} {hd : List UInt8} {nm : Int} (h : ¬ (ep : Int) ≤ 4294967295 ∨ ¬ 0 ≤ bd ∨ ¬ bd < 16 ∨ ¬ (hd.length : Int) = 16 ∨ ¬ 0 ≤ nm) : false = decide (qGO ep bd hd nm) := by
 symm
 apply decide_eq_false
 unfold qGO
 omega
theorem qNz (F : Hp) (ep : Nat) (bd : Int) (hd : List UInt8) (nm : Int) (i : Int) (A1 A2 : Option Addr) (n1 c1 n2 c2 : Nat) :
    Ct prog 63 [.agg #[N64 ep, I bd, Str hd, I nm, I i, .slice A1 n1 c1, .slice A2 n2 c2]] [F] (fun _ : Unit => .bool (decide (qGO ep bd hd nm))) (fun _ => True) (fun _ => [F]) := by
  refine Ct.walk func63 rfl ntmps63 rfl (fun w0 hw0 => ?_)
  change J _ [(0, _)] _ _ _
  refine J.g fun K1 hK1 => J.q (qAi rfl rfl (l := [N64 ep, I bd, Str hd, I nm, I i, .slice A1 n1 c1, .slice A2 n2 c2]) rfl) rfl fun g1 _ => ?_
  change J _ _ _ [F, blk g1 [N64 ep, I bd, Str hd, I nm, I i, .slice A1 n1 c1, .slice A2 n2 c2] 52] _
  refine J.b rfl <| J.c hK1 <| J.u 1 ?_
  refine J.g fun K2 hK2 => J.a7 0 qEI qGc rfl rfl rfl rfl rfl <| J.d2 1 qLX rfl rfl rfl rfl rfl <| J.f (qB1 rfl rfl rfl) rfl <| J.b rfl <| J.c2 (d := 6) rfl (fun h6 => ?_) (fun h6 => ?_)
  ·
    refine J.E (qAA (j := 1) rfl rfl qEI rfl z3_ rfl) rfl <| J.E (qAE 1 rfl rfl rfl b3_ rfl) rfl <| J.E (qBR rfl rfl rfl) rfl <| J.j 2 rfl <| J.c2 (d := 11) rfl (fun h11 => ?_) (fun h11 => ?_)
    ·
      refine J.E (qAA (j := 1) rfl rfl qEI rfl z3_ rfl) rfl <| J.E (qAE 1 rfl rfl rfl b3_ rfl) rfl <| J.E (qAX rfl rfl rfl) rfl <| J.j 2 rfl <| J.c2 (d := 16) rfl (fun h16 => ?_) (fun h16 => ?_)
      ·
        refine J.E (qAA (j := 2) rfl rfl qEI rfl z9_ rfl) rfl <| J.E (qAE 1 rfl rfl rfl b9_ rfl) rfl <| J.E (qA7 u9_ rfl rfl) rfl <| J.E (qAa rfl rfl rfl) rfl <| J.j 2 rfl <| J.c2 (d := 22) rfl (fun h22 => ?_) (fun h22 => ?_)
        ·
          refine J.E (qAA (j := 3) rfl rfl qEI rfl z3_ rfl) rfl <| J.E (qAE 1 rfl rfl rfl b3_ rfl) rfl <| J.E (qBR rfl rfl rfl) rfl <| J.j 2 rfl <| J.c2 (d := 27) rfl (fun h27 => ?_) (fun h27 => ?_)
          ·
            refine J.E (qAA (j := 3) rfl rfl qEI rfl z3_ rfl) rfl <| J.E (qAE 1 rfl rfl rfl b3_ rfl) rfl <| J.E (qAX rfl rfl rfl) rfl <| J.f ((by first | exact (qCC rfl rfl rfl).as (v' := .bool (decide (qGO ep bd hd nm))) (congrArg Value.bool (decide_eq_decide.2 (iff_of_eq (qLH (by assumption) (by assumption) (by assumption) (by assumption) (by assumption))))) | exact (qCD rfl rfl rfl).as (v' := .bool (decide (qGO ep bd hd nm))) (congrArg Value.bool (qLI (by omega))))) rfl <| J.b rfl <| J.c hK2 <| J.u 2 ?_
            exact J.D <| J.H hw0 rfl () rfl trivial [0] rfl (by decide)
          refine J.j 3 rfl <| J.f ((by first | exact (qCC rfl rfl rfl).as (v' := .bool (decide (qGO ep bd hd nm))) (congrArg Value.bool (decide_eq_decide.2 (iff_of_eq (qLH (by assumption) (by assumption) (by assumption) (by assumption) (by assumption))))) | exact (qCD rfl rfl rfl).as (v' := .bool (decide (qGO ep bd hd nm))) (congrArg Value.bool (qLI (by omega))))) rfl <| J.b rfl <| J.c hK2 <| J.u 2 ?_
          exact J.D <| J.H hw0 rfl () rfl trivial [0] rfl (by decide)
        refine J.j 8 rfl <| J.f ((by first | exact (qCC rfl rfl rfl).as (v' := .bool (decide (qGO ep bd hd nm))) (congrArg Value.bool (decide_eq_decide.2 (iff_of_eq (qLH (by assumption) (by assumption) (by assumption) (by assumption) (by assumption))))) | exact (qCD rfl rfl rfl).as (v' := .bool (decide (qGO ep bd hd nm))) (congrArg Value.bool (qLI (by omega))))) rfl <| J.b rfl <| J.c hK2 <| J.u 2 ?_
        exact J.D <| J.H hw0 rfl () rfl trivial [0] rfl (by decide)
      refine J.j 14 rfl <| J.f ((by first | exact (qCC rfl rfl rfl).as (v' := .bool (decide (qGO ep bd hd nm))) (congrArg Value.bool (decide_eq_decide.2 (iff_of_eq (qLH (by assumption) (by assumption) (by assumption) (by assumption) (by assumption))))) | exact (qCD rfl rfl rfl).as (v' := .bool (decide (qGO ep bd hd nm))) (congrArg Value.bool (qLI (by omega))))) rfl <| J.b rfl <| J.c hK2 <| J.u 2 ?_
      exact J.D <| J.H hw0 rfl () rfl trivial [0] rfl (by decide)
    refine J.j 19 rfl <| J.f ((by first | exact (qCC rfl rfl rfl).as (v' := .bool (decide (qGO ep bd hd nm))) (congrArg Value.bool (decide_eq_decide.2 (iff_of_eq (qLH (by assumption) (by assumption) (by assumption) (by assumption) (by assumption))))) | exact (qCD rfl rfl rfl).as (v' := .bool (decide (qGO ep bd hd nm))) (congrArg Value.bool (qLI (by omega))))) rfl <| J.b rfl <| J.c hK2 <| J.u 2 ?_
    exact J.D <| J.H hw0 rfl () rfl trivial [0] rfl (by decide)
  refine J.j 24 rfl <| J.f ((by first | exact (qCC rfl rfl rfl).as (v' := .bool (decide (qGO ep bd hd nm))) (congrArg Value.bool (decide_eq_decide.2 (iff_of_eq (qLH (by assumption) (by assumption) (by assumption) (by assumption) (by assumption))))) | exact (qCD rfl rfl rfl).as (v' := .bool (decide (qGO ep bd hd nm))) (congrArg Value.bool (qLI (by omega))))) rfl <| J.b rfl <| J.c hK2 <| J.u 2 ?_
  exact J.D <| J.H hw0 rfl () rfl trivial [0] rfl (by decide)
theorem qNy (F : Hp) (ep bd nm : Nat) (hd : List UInt8) (i : Int) (A1 A2 : Option Addr) (n1 c1 n2 c2 : Nat) (h1 : ep ≤ 4294967295) (h2 : bd < 16) (h3 : nm < 64) (h4 : hd.length = 16) :
    Ct prog 64 [.agg #[N64 ep, I (bd : Nat), Str hd, I (nm : Nat), I i, .slice A1 n1 c1, .slice A2 n2 c2]] [F] (fun _ : Unit => Str (plB ep bd nm)) (fun _ => True) (fun _ => [F]) := by
  refine Ct.walk func64 rfl ntmps64 rfl (fun w0 hw0 => ?_)
  change J _ [(0, _)] _ _ _
  refine J.g fun K1 hK1 => J.q (qAi rfl rfl (l := [N64 ep, I (bd : Nat), Str hd, I (nm : Nat), I i, .slice A1 n1 c1, .slice A2 n2 c2]) rfl) rfl fun g1 _ => ?_
  change J _ _ _ [F, blk g1 [N64 ep, I (bd : Nat), Str hd, I (nm : Nat), I i, .slice A1 n1 c1, .slice A2 n2 c2] 52] _
  refine J.b rfl <| J.c hK1 <| J.u 1 ?_
  refine J.g fun K2 hK2 => J.q (qAe rfl zeroValue188 rfl) rfl fun g3 _ => ?_
  change J _ _ _ [_, _, blk g3 _ 188] _
  refine J.c hK2 <| J.G 1 3 ?_
  refine J.p fun K3 hK3 => J.c0 [blk g1 [N64 ep, I (bd : Nat), Str hd, I (nm : Nat), I i, .slice A1 n1 c1, .slice A2 n2 c2] 52] [] (.y 0 (.y 1 (.y 3 (.y 4 (.y 5 (.y 7 (.y 8 (.y 9 (.e 2 (.e 6 (.e 10 (.e 11 (.y 12 (.y 13 (.y 14 (.y 15 (.y 16 .nil))))))))))))))))) Tryz.wide (by decide +kernel) (by simp) ?_
  refine J.k rfl (qAA (j := 0) rfl rfl qEI rfl qGc rfl) rfl rfl <| J.k rfl (qAE 0 rfl rfl rfl qLX rfl) rfl rfl <| J.k rfl (qAA (j := 1) rfl rfl qEI rfl z3_ rfl) rfl rfl <| J.k rfl (qAE 0 rfl rfl rfl b3_ rfl) rfl rfl <| J.k rfl (qBU rfl rfl u3_ qIf (m := bd) (by omega)) rfl rfl <| J.k rfl (qAA (j := 3) rfl rfl qEI rfl z3_ rfl) rfl rfl <| J.k rfl (qAE 0 rfl rfl rfl b3_ rfl) rfl rfl <| J.k rfl (qBU rfl rfl u3_ qIf (m := nm) (by omega)) rfl rfl <| J.a2 rfl (qAC rfl rfl ent83 (Ct.use1 2 (m' := fun x : Hp => x) (new := fun _ => []) rfl (fun F' _ => qM2 F' (blk g3 [.pointer none, .slice none 0 0, I 0] 188) g3 [] 0 (qIh g3) (by decide) ep (by omega) 4 (by omega) (by omega)))) rfl (by simp) ?_
  rintro m9 hw9
  change J _ _ _ [_, _, m9] _
  rw [(qH3 (size := 4) (by omega) (by omega)), qDD, qDb (qH3 (size := 4) (by omega) (by omega)), List.nil_append] at hw9
  refine J.a2 rfl (qAC rfl rfl ent83 (Ct.use1 2 (m' := fun x : Hp => x) (new := fun _ => []) rfl (fun F' _ => qFU F' m9 g3 (Sha.numB (UInt64.ofNat ep) 4) 0 hw9 (by rw [Sha.numB_length]; omega) (UInt64.ofNat bd) 1 (by omega) (by omega)))) rfl (by simp) ?_
  rintro m13 hw13
  change J _ _ _ [_, _, m13] _
  rw [(qH3 (size := 1) (by omega) (by omega)), qDD, qDb (qH3 (size := 1) (by omega) (by omega))] at hw13
  refine J.a2 rfl (qAC rfl rfl ent83 (Ct.use1 2 (m' := fun x : Hp => x) (new := fun _ => []) rfl (fun F' _ => qFU F' m13 g3 ((Sha.numB (UInt64.ofNat ep) 4) ++ Sha.numB (UInt64.ofNat bd) 1) 0 hw13 (by rw [List.length_append, Sha.numB_length, Sha.numB_length]; omega) (UInt64.ofNat nm) 2 (by omega) (by omega)))) rfl (by simp) ?_
  rintro m17 hw17
  change J _ _ _ [_, _, m17] _
  rw [(qH3 (size := 2) (by omega) (by omega)), qDD, qDb (qH3 (size := 2) (by omega) (by omega))] at hw17
  refine J.a2 rfl (qAC rfl rfl ent86 (Ct.use1 2 (m' := fun x : Hp => x) (new := fun _ => []) rfl (fun F' _ => qHT F' m17 g3 (plB ep bd nm) 0 hw17 (by rw [qG0]; omega)))) rfl (by simp) ?_
  rintro m18 _
  change J _ _ _ [_, _, m18] _
  refine J.V ?_
  refine J.d4 (Str (plB ep bd nm)) ?_
  refine J.d4 (I 0) ?_
  refine J.c1 ?_
  refine J.c1 ?_
  refine J.b3 <| J.A (J.L hK3 ?_)
  refine J.u 4 ?_
  refine J.g fun K4 hK4 => J.j 2 rfl <| J.c hK4 <| J.u 2 ?_
  exact J.D <| J.H hw0 rfl () rfl trivial [0] rfl (by decide)
theorem qFo (F : Hp) (hK : KF F) (ep bd nm : Nat) (hd : List UInt8) (i : Int) (A1 A2 : Option Addr) (n1 c1 n2 c2 : Nat) (h1 : ep ≤ 4294967295) (h2 : bd < 16) (h3 : nm < 64) (h4 : hd.length = 16) :
    Ct prog 22 [.agg #[N64 ep, I (bd : Nat), Str hd, I (nm : Nat), I i, .slice A1 n1 c1, .slice A2 n2 c2]] [F] (fun _ : Unit => Str (atM ep bd nm hd)) (fun _ => True) (fun _ => [F]) := by
  refine Ct.walk func22 rfl ntmps22 rfl (fun w0 hw0 => ?_)
  change J _ [(0, _)] _ _ _
  refine J.g fun K1 hK1 => J.q (qAi rfl rfl (l := [N64 ep, I (bd : Nat), Str hd, I (nm : Nat), I i, .slice A1 n1 c1, .slice A2 n2 c2]) rfl) rfl fun g1 _ => ?_
  change J _ _ _ [F, blk g1 [N64 ep, I (bd : Nat), Str hd, I (nm : Nat), I i, .slice A1 n1 c1, .slice A2 n2 c2] 52] _
  refine J.b rfl <| J.c hK1 <| J.u 1 ?_
  refine J.p fun K2 hK2 => J.g fun K3 hK3 => J.c5 1 isAgg52 qEd rfl rfl rfl rfl rfl <| J.q (qAC rfl rfl ent63 (Ct.use0 (fun F' hF => qNz F' ep bd hd nm i A1 A2 n1 c1 n2 c2))) rfl fun g4 _ => J.f ((qA3 rfl rfl).as (v' := .bool false) (by rw [decide_eq_true (show qGO ep bd hd nm from ⟨h1, by omega, by omega, h4, by omega, by omega⟩)]; rfl)) rfl <| J.c hK3 <| J.G 1 5 ?_
  refine J.b2 ?_
  refine J.a1 hK2 <| J.u 1 ?_
  refine J.p fun K4 hK4 => J.c0 [blk g1 [N64 ep, I (bd : Nat), Str hd, I (nm : Nat), I i, .slice A1 n1 c1, .slice A2 n2 c2] 52] [] (.y 0 (.y 2 (.y 3 (.e 1 (.e 4 (.e 5 (.y 6 .nil))))))) Tryz.wide (by decide +kernel) (by simp) ?_
  refine J.k rfl (qAg 0 rfl rfl rfl isAgg52 qEd rfl) rfl rfl <| J.k rfl (qAA (j := 2) rfl rfl qEI rfl z9_ rfl) rfl rfl <| J.k rfl (qAE 0 rfl rfl rfl b9_ rfl) rfl rfl <| J.a2 rfl (qAC rfl rfl ent64 (Ct.use0 (fun F' hF => qNy F' ep bd nm hd i A1 A2 n1 c1 n2 c2 h1 h2 h3 h4))) rfl (by simp) fun g7 _ => J.a2 rfl (qAH (l := [.tmp 7, .tmp 9]) (xs := [[Str (plB ep bd nm)], [Str (hd)]]) rfl rfl rfl rfl qAo el9 rfl (by decide) (by decide) (by simp)) rfl (by simp) fun g10 _ => ?_
  change J _ _ _ [_, _, blk g10 [Str (plB ep bd nm), Str (hd)] 9] _
  refine J.a2 rfl (qAC rfl rfl ent44 (Ct.use0 (fun F' hF => qA4 F' (hK.mono (hF _ (by simp))) 18 (some ⟨g10, 0, none⟩) 2 2 [plB ep bd nm, hd] ((slS [plB ep bd nm, hd] rfl).mono (hF (blk g10 (([plB ep bd nm, hd] : List (List UInt8)).map fun s => Str s) 9) (by simp))) (by simp only [List.flatten_cons, List.flatten_nil, List.append_nil, List.length_append, qG0, h4]; decide) (by decide)))) rfl (by simp) fun g11 _ => J.c1 ?_
  refine J.b3 <| J.A (J.L hK4 ?_)
  refine J.u 2 ?_
  exact J.D <| J.H hw0 rfl () rfl trivial [0] rfl (by decide)
theorem qLY (F : Hp) (hK : KF F) (ep bd nm : Nat) (hd : List UInt8) (h1 : ep ≤ 4294967295) (h2 : bd < 16) (h3 : nm < 64) (h4 : hd.length = 16) (o r : List UInt8) (i : Nat) (A1 : Option Addr) (c1 : Nat) (ch : List (List UInt8)) (hch : Sl F 1 A1 35 c1 (qAJ ch)) (hc16 : ∀ s ∈ ch, s.length = 16) (A2 : Option Addr) (h c2 : Nat) (pt : List (List UInt8)) (hpt : Sl F 1 A2 h c2 (qAJ pt)) (hp16 : ∀ s ∈ pt, s.length = 16) (ho : o.length ≤ 1048576) (h6 : h ≤ 6) (hi : i < 2 ^ h) :
    Ct prog 25 [.agg #[N64 ep, I (bd : Nat), Str hd, I (nm : Nat), I (i : Nat), .slice A1 35 c1, .slice A2 h c2], .agg #[Str o, Str r, I h]] [F] (fun _ : Unit => .bool (decide (Mk.climb (Wo.publicOf o i (Wo.ends o i (Wo.digs (Xm.digest o i (atM ep bd nm hd))) ch 35)) i pt = r))) (fun _ => True) (fun _ => [F]) := by
  refine Ct.walk func25 rfl ntmps25 rfl (fun w0 hw0 => ?_)
  change J _ [(0, _), (1, _)] _ _ _
  refine J.g fun K1 hK1 => J.q (qAi rfl rfl (l := [N64 ep, I (bd : Nat), Str hd, I (nm : Nat), I (i : Nat), .slice A1 35 c1, .slice A2 h c2]) rfl) rfl fun g2 _ => ?_
  change J _ _ _ [F, blk g2 [N64 ep, I (bd : Nat), Str hd, I (nm : Nat), I (i : Nat), .slice A1 35 c1, .slice A2 h c2] 52] _
  refine J.q (qAi rfl rfl (l := [Str o, Str r, I h]) rfl) rfl fun g3 _ => ?_
  change J _ _ _ [_, _, blk g3 [Str o, Str r, I h] 54] _
  refine J.b rfl <| J.c hK1 <| J.G 2 3 ?_
  refine J.p fun K2 hK2 => J.c0 [blk g2 [N64 ep, I (bd : Nat), Str hd, I (nm : Nat), I (i : Nat), .slice A1 35 c1, .slice A2 h c2] 52, blk g3 [Str o, Str r, I h] 54] [] (.y 0 (.e 1 (.y 2 (.y 3 (.y 4 (.y 6 (.y 7 (.e 5 (.e 8 (.y 9 (.y 10 .nil))))))))))) Tryz.wide (by decide +kernel) (by simp) ?_
  refine J.k rfl (qAg 0 rfl rfl rfl isAgg52 qEd rfl) rfl rfl <| J.a2 rfl (qAC rfl rfl ent63 (Ct.use0 (fun F' hF => (qNz F' ep bd hd nm (i : Nat) A1 A2 35 c1 h c2).mono (φ2 := fun _ => True) (val2 := fun _ : Unit => .bool true) id (fun _ _ => congrArg Value.bool (decide_eq_true (show qGO ep bd hd nm from ⟨h1, by omega, by omega, h4, by omega, by omega⟩))) (fun _ _ => trivial) (fun _ _ _ _ h => h)))) rfl (by simp) fun g6 _ => J.V ?_
  refine J.b0 rfl (qAg 1 rfl rfl rfl isAgg54 qF1 rfl) rfl rfl <| J.b0 rfl (qAg 0 rfl rfl rfl isAgg52 qEd rfl) rfl rfl <| J.b0 rfl (qAA (j := 4) rfl rfl qEI rfl qQM rfl) rfl rfl <| J.b0 rfl (qFS 0 rfl rfl isAgg50 qQM (vs := [I (i : Nat), .slice A1 35 c1, .slice A2 h c2]) rfl (qAS.blk 4 (fun j u hj => by match j with | 0 => exact hj | 1 => exact hj | 2 => exact hj)) rfl) rfl rfl <| J.e8 rfl (qAC rfl rfl ent22 (Ct.use0 (fun F' hF => qFo F' (hK.mono (hF _ (by simp))) ep bd nm hd (i : Nat) A1 A2 35 c1 h c2 h1 h2 h3 h4))) (Wan.is rfl rfl rfl rfl rfl) rfl rfl (by simp) ?_
  intro g10 _
  refine J.e8 rfl (qAC rfl rfl ent66 (Ct.use0 (fun F' hF => qKS F' (hK.mono (hF _ (by simp))) o r h (atM ep bd nm hd) i A1 c1 ch (hch.mono (hF F (by simp))) hc16 A2 c2 pt (hpt.mono (hF F (by simp))) (qI8 hp16) ho (by rw [qNx]; decide) h6 hi))) (Wan.is rfl rfl rfl rfl rfl) rfl rfl (by simp) ?_
  intro g13 _
  refine J.e3 ?_
  refine J.c1 ?_
  refine J.b3 <| J.A (J.L hK2 ?_)
  refine J.u 4 ?_
  exact J.D <| J.H hw0 rfl () rfl trivial [0] rfl (by decide)
end Go.Proofs.YtfldiegfenndjaaGreatDoor
namespace Go.Proofs.YtfldiegfenndjaaGreatDoor
set_option maxRecDepth 100000
set_option maxHeartbeats 1000000
namespace SM
open SN (qAj qAb forceL qAt)
noncomputable def outs (n : Nat) : Nat → Nat → Nat → Nat → List (List Nat) :=
 Nat.rec (fun _ _ _ _ => []) (fun _ ih A B C D => (SN.bytes4 (A % 18446744073709551616) ++ (SN.bytes4 (B % 18446744073709551616) ++ (SN.bytes4 (C % 18446744073709551616) ++ SN.bytes4 (D % 18446744073709551616)))) ::
  qAj (A / 18446744073709551616) fun A => qAj (B / 18446744073709551616) fun B => qAj (C / 18446744073709551616) fun C => qAj (D / 18446744073709551616) fun D => ih A B C D) n
theorem qFP (n A B C D : Nat) : outs (n + 1) A B C D = (SN.bytes4 (A % 18446744073709551616) ++ (SN.bytes4 (B % 18446744073709551616) ++ (SN.bytes4 (C % 18446744073709551616) ++ SN.bytes4 (D % 18446744073709551616)))) ::
    qAj (A / 18446744073709551616) fun A => qAj (B / 18446744073709551616) fun B => qAj (C / 18446744073709551616) fun C => qAj (D / 18446744073709551616) fun D => outs n A B C D := rfl
theorem qFN (n : Nat) (f : Nat → Nat) : qA5 (n + 1) f = f 0 + 18446744073709551616 * qA5 n (fun i => f (i + 1)) := rfl
attribute [local irreducible] qA5 outs
theorem qJn (n : Nat) (a : Nat → UInt32) : pk (n + 1) a % 18446744073709551616 = (a 0).toNat := by
 unfold pk
 rw [qFN, Nat.add_mul_mod_self_left]
 exact Nat.mod_eq_of_lt (u64 (a 0))
theorem qJo (n : Nat) (a : Nat → UInt32) : pk (n + 1) a / 18446744073709551616 = pk n (fun i => a (i + 1)) := by
 unfold pk
 rw [qFN, Nat.add_mul_div_left _ _ (by decide), Nat.div_eq_of_lt (u64 (a 0)), Nat.zero_add]
def byt (a b c d : UInt32) : List Nat := SN.bytes4 a.toNat ++ (SN.bytes4 b.toNat ++ (SN.bytes4 c.toNat ++ SN.bytes4 d.toNat))
theorem qRq : ∀ (n : Nat) (a b c d : Nat → UInt32), outs n (pk n a) (pk n b) (pk n c) (pk n d) = (List.range n).map fun z => byt (a z) (b z) (c z) (d z) := by
 intro n
 induction n with
 | zero => intro a b c d; unfold outs; rfl
 | succ n ih =>
  intro a b c d
  rw [qFP, qJn, qJn, qJn, qJn, qJo, qJo, qJo, qJo, qAb, qAb, qAb, qAb, ih, List.range_succ_eq_map, List.map_cons, List.map_map]
  rfl
theorem b4 (x : UInt32) : SN.bytes4 x.toNat = (Sha.numB x.toUInt64 4).map UInt8.toNat := by
 rw [SN.bytes4_eq _ (by have := x.toNat_lt; omega)]
 congr 2
 rw [show x.toUInt64 = UInt64.ofNat x.toNat from by apply UInt64.toNat_inj.1; simp]
noncomputable def tagL (tag : Nat) (ls : List (List Nat)) : List Nat := tag :: ls.flatMap fun s => SN.bytes4 s.length ++ s
theorem qRK (tag : UInt8) (ls : List (List UInt8)) (h : (Sha.tagB tag ls).length ≤ 55) : tagL tag.toNat (ls.map (List.map UInt8.toNat)) = (Sha.tagB tag ls).map UInt8.toNat := by
 unfold tagL Sha.tagB
 simp only [List.map_append, List.map_cons, List.map_nil, List.cons_append, List.nil_append]
 congr 1
 rw [Sha.tagB_length] at h
 have h2 : ls.flatten.length ≤ 55 := by omega
 clear h
 induction ls with
 | nil => rfl
 | cons a l ih =>
  simp only [List.flatten_cons, List.length_append] at h2
  rw [List.map_cons, List.flatMap_cons, List.flatMap_cons, List.map_append, List.map_append, List.length_map, ih (by omega), SN.bytes4_eq _ (by omega)]
end SM
end Go.Proofs.YtfldiegfenndjaaGreatDoor
namespace Go.Proofs.YtfldiegfenndjaaGreatDoor
set_option maxRecDepth 100000
set_option maxHeartbeats 1000000
namespace SM
open SN (qAj qAb forceL qAt)
def x16 (a b c d : UInt32) : List UInt8 := Sha.numB a.toUInt64 4 ++ (Sha.numB b.toUInt64 4 ++ (Sha.numB c.toUInt64 4 ++ Sha.numB d.toUInt64 4))
theorem qTW (s : Sha.St8) : (Sha.out s).take 16 = x16 s.a s.b s.c s.d := by
 have e : Sha.out s = x16 s.a s.b s.c s.d ++ (Sha.numB s.e.toUInt64 4 ++ (Sha.numB s.f.toUInt64 4 ++ (Sha.numB s.g.toUInt64 4 ++ Sha.numB s.h.toUInt64 4))) := by
  unfold Sha.out Sha.St8.list x16
  simp only [List.flatMap_cons, List.flatMap_nil, List.append_nil, List.append_assoc]
 rw [e, List.take_left' (by unfold x16; simp only [List.length_append, Sha.numB_length])]
theorem num4 (x : UInt32) : Sha.numB x.toUInt64 4 = [UInt8.ofNat (x.toNat / 2 ^ 24), UInt8.ofNat (x.toNat / 2 ^ 16), UInt8.ofNat (x.toNat / 2 ^ 8), UInt8.ofNat x.toNat] := by
 rw [show x.toUInt64 = UInt64.ofNat x.toNat from by apply UInt64.toNat_inj.1; simp]
 exact R3.four_nat x.toNat (by have := x.toNat_lt; omega)
theorem qT5 (x : UInt32) : Sha.be32 0 0 16 (UInt8.ofNat (x.toNat / 2 ^ 24)) = 4096 + Sha.shr x 24 := by
 apply UInt32.toNat_inj.1
 have hx := x.toNat_lt
 rw [R3.be32_nat, UInt32.toNat_add, R3.shr_nat x 24 (by decide), UInt8.toNat_ofNat']
 show 256 * (256 * (256 * 0 + 0) + 16) + x.toNat / 2 ^ 24 % 256 = (4096 + x.toNat / 2 ^ 24) % 4294967296
 omega
theorem qNu (x y : UInt32) : Sha.be32 (UInt8.ofNat (x.toNat / 2 ^ 16)) (UInt8.ofNat (x.toNat / 2 ^ 8)) (UInt8.ofNat x.toNat) (UInt8.ofNat (y.toNat / 2 ^ 24)) = x * 256 + Sha.shr y 24 := by
 apply UInt32.toNat_inj.1
 have hx := x.toNat_lt
 have hy := y.toNat_lt
 rw [R3.be32_nat, UInt32.toNat_add, UInt32.toNat_mul, R3.shr_nat y 24 (by decide), UInt8.toNat_ofNat', UInt8.toNat_ofNat', UInt8.toNat_ofNat', UInt8.toNat_ofNat']
 show 256 * (256 * (256 * (x.toNat / 2 ^ 16 % 256) + x.toNat / 2 ^ 8 % 256) + x.toNat % 256) + y.toNat / 2 ^ 24 % 256 = (x.toNat * 256 % 4294967296 + y.toNat / 2 ^ 24) % 4294967296
 omega
theorem qT6 (x : UInt32) : Sha.be32 (UInt8.ofNat (x.toNat / 2 ^ 16)) (UInt8.ofNat (x.toNat / 2 ^ 8)) (UInt8.ofNat x.toNat) 128 = x * 256 + 128 := by
 apply UInt32.toNat_inj.1
 have hx := x.toNat_lt
 rw [R3.be32_nat, UInt32.toNat_add, UInt32.toNat_mul, UInt8.toNat_ofNat', UInt8.toNat_ofNat', UInt8.toNat_ofNat']
 show 256 * (256 * (256 * (x.toNat / 2 ^ 16 % 256) + x.toNat / 2 ^ 8 % 256) + x.toNat % 256) + 128 = (x.toNat * 256 % 4294967296 + 128) % 4294967296
 omega
def plc (leaf chain k : Nat) : List UInt8 := [0, 0, 0, UInt8.ofNat leaf, UInt8.ofNat chain, UInt8.ofNat k]
def qS1 (o : List UInt8) (j : Nat) : UInt32 := Sha.be32 (o.getD (4 * j + 3) 0) (o.getD (4 * j + 4) 0) (o.getD (4 * j + 5) 0) (o.getD (4 * j + 6) 0)
def qRM (o : List UInt8) (p : UInt32) (a b c d : UInt32) : List UInt32 :=
 [33554432, Sha.be32 16 (o.getD 0 0) (o.getD 1 0) (o.getD 2 0), qS1 o 0, qS1 o 1, qS1 o 2, Sha.be32 (o.getD 15 0) 0 0 0, 100663296, p, 4096 + Sha.shr a 24, a * 256 + Sha.shr b 24, b * 256 + Sha.shr c 24, c * 256 + Sha.shr d 24, d * 256 + 128, 0, 0, 408]
theorem n16 : Sha.numB (UInt64.ofNat 16) 4 = [0, 0, 0, 16] := by decide +kernel
theorem n6 : Sha.numB (UInt64.ofNat 6) 4 = [0, 0, 0, 6] := by decide +kernel
theorem n408 : Sha.numB (8 * UInt64.ofNat 51) 8 = [0, 0, 0, 0, 0, 0, 1, 152] := by decide +kernel
theorem qOR (o0 o1 o2 o3 o4 o5 o6 o7 o8 o9 o10 o11 o12 o13 o14 o15 x0 x1 x2 x3 x4 x5 x6 x7 x8 x9 x10 x11 x12 x13 x14 x15 : UInt8) (leaf chain k : Nat) : Sha.tagB 2 [[o0, o1, o2, o3, o4, o5, o6, o7, o8, o9, o10, o11, o12, o13, o14, o15], plc leaf chain k, [x0, x1, x2, x3, x4, x5, x6, x7, x8, x9, x10, x11, x12, x13, x14, x15]] = [2, 0, 0, 0, 16, o0, o1, o2, o3, o4, o5, o6, o7, o8, o9, o10, o11, o12, o13, o14, o15, 0, 0, 0, 6, 0, 0, 0, UInt8.ofNat leaf, UInt8.ofNat chain, UInt8.ofNat k, 0, 0, 0, 16, x0, x1, x2, x3, x4, x5, x6, x7, x8, x9, x10, x11, x12, x13, x14, x15] := by
 show [2] ++ (Sha.numB (UInt64.ofNat 16) 4 ++ [o0, o1, o2, o3, o4, o5, o6, o7, o8, o9, o10, o11, o12, o13, o14, o15] ++ (Sha.numB (UInt64.ofNat 6) 4 ++ plc leaf chain k ++ (Sha.numB (UInt64.ofNat 16) 4 ++ [x0, x1, x2, x3, x4, x5, x6, x7, x8, x9, x10, x11, x12, x13, x14, x15] ++ []))) = _
 rw [n16, n6]; rfl
theorem pad51 (l : List UInt8) (h : l.length = 51) : Sha.pad l = l ++ [128, 0, 0, 0, 0, 0, 0, 0, 0, 0, 0, 1, 152] := by
 unfold Sha.pad
 rw [h, n408, List.append_assoc, List.append_assoc]; rfl
theorem be_2 : Sha.be32 2 0 0 0 = 33554432 := by decide +kernel
theorem be_6 : Sha.be32 6 0 0 0 = 100663296 := by decide +kernel
theorem be_0 : Sha.be32 0 0 0 0 = 0 := by decide +kernel
theorem qT7 : Sha.be32 0 0 1 152 = 408 := by decide +kernel
theorem qMA (o0 o1 o2 o3 o4 o5 o6 o7 o8 o9 o10 o11 o12 o13 o14 o15 x0 x1 x2 x3 x4 x5 x6 x7 x8 x9 x10 x11 x12 x13 x14 x15 : UInt8) (leaf chain k : Nat) : Sha.firsts (Sha.pad [2, 0, 0, 0, 16, o0, o1, o2, o3, o4, o5, o6, o7, o8, o9, o10, o11, o12, o13, o14, o15, 0, 0, 0, 6, 0, 0, 0, UInt8.ofNat leaf, UInt8.ofNat chain, UInt8.ofNat k, 0, 0, 0, 16, x0, x1, x2, x3, x4, x5, x6, x7, x8, x9, x10, x11, x12, x13, x14, x15]) 16 = [(Sha.be32 2 0 0 0), (Sha.be32 16 o0 o1 o2), (Sha.be32 o3 o4 o5 o6), (Sha.be32 o7 o8 o9 o10), (Sha.be32 o11 o12 o13 o14), (Sha.be32 o15 0 0 0), (Sha.be32 6 0 0 0), (Sha.be32 (UInt8.ofNat leaf) (UInt8.ofNat chain) (UInt8.ofNat k) 0), (Sha.be32 0 0 16 x0), (Sha.be32 x1 x2 x3 x4), (Sha.be32 x5 x6 x7 x8), (Sha.be32 x9 x10 x11 x12), (Sha.be32 x13 x14 x15 128), (Sha.be32 0 0 0 0), (Sha.be32 0 0 0 0), (Sha.be32 0 0 1 152)] := by
 rw [pad51 _ rfl]; rfl
theorem qKq (o : List UInt8) (ho : o.length = 16) (leaf chain k : Nat) (a b c d : UInt32) : Sha.firsts (Sha.pad (Sha.tagB 2 [o, plc leaf chain k, x16 a b c d])) 16 = qRM o (Sha.be32 (UInt8.ofNat leaf) (UInt8.ofNat chain) (UInt8.ofNat k) 0) a b c d := by
 unfold qRM
 rw [← qT5 a, ← qNu a b, ← qNu b c, ← qNu c d, ← qT6 d]
 unfold x16
 rw [num4, num4, num4, num4]
 match o, ho with
 | [o0, o1, o2, o3, o4, o5, o6, o7, o8, o9, o10, o11, o12, o13, o14, o15], _ =>
  show Sha.firsts (Sha.pad (Sha.tagB 2 [[o0, o1, o2, o3, o4, o5, o6, o7, o8, o9, o10, o11, o12, o13, o14, o15], plc leaf chain k, [UInt8.ofNat (a.toNat / 2 ^ 24), UInt8.ofNat (a.toNat / 2 ^ 16), UInt8.ofNat (a.toNat / 2 ^ 8), UInt8.ofNat a.toNat, UInt8.ofNat (b.toNat / 2 ^ 24), UInt8.ofNat (b.toNat / 2 ^ 16), UInt8.ofNat (b.toNat / 2 ^ 8), UInt8.ofNat b.toNat, UInt8.ofNat (c.toNat / 2 ^ 24), UInt8.ofNat (c.toNat / 2 ^ 16), UInt8.ofNat (c.toNat / 2 ^ 8), UInt8.ofNat c.toNat, UInt8.ofNat (d.toNat / 2 ^ 24), UInt8.ofNat (d.toNat / 2 ^ 16), UInt8.ofNat (d.toNat / 2 ^ 8), UInt8.ofNat d.toNat]])) 16 = _
  rw [qOR, qMA, be_2, be_6, be_0, qT7]
  rfl
end SM
end Go.Proofs.YtfldiegfenndjaaGreatDoor
namespace Go.Proofs.YtfldiegfenndjaaGreatDoor
set_option maxRecDepth 100000
set_option maxHeartbeats 1000000
namespace SM
open SN (qAj qAb forceL qAt)
theorem qG1 : ∀ {n : Nat} {f g : Nat → Nat}, (∀ i, i < n → f i = g i) → qA5 n f = qA5 n g
 | 0, _, _, _ => rfl
 | n + 1, f, g, h => by rw [qA5, qA5, h 0 (by omega), qG1 (fun i hi => h (i + 1) (by omega))]
theorem pk_lt {n : Nat} {a b : Nat → UInt32} (h : ∀ i, i < n → a i = b i) : pk n a = pk n b := qG1 fun i hi => congrArg UInt32.toNat (h i hi)
attribute [local irreducible] qA5 Sha.word Sha.be32 Sha.shr
theorem qM9 (N : Nat) (a b : Nat → UInt32) : qCy (qBC N) (pk N a * 256 + qHW (qBC N) (pk N b) 24) = pk N fun z => a z * 256 + Sha.shr (b z) 24 := by
 rw [qGq N b (by decide) (by decide)]
 unfold pk
 rw [qC5, qA1, qDn N (fun z => by
  have h1 := u32 (a z)
  have h2 := u32 (Sha.shr (b z) 24)
  show (a z).toNat * 256 + (Sha.shr (b z) 24).toNat < 2 ^ 64
  omega)]
 refine qAr fun z => ?_
 show ((a z).toNat * 256 + (Sha.shr (b z) 24).toNat) % 4294967296 = (a z * 256 + Sha.shr (b z) 24).toNat
 rw [UInt32.toNat_add, UInt32.toNat_mul]
 show _ = ((a z).toNat * 256 % 4294967296 + _) % 4294967296
 omega
theorem qTy (N : Nat) (a : Nat → UInt32) : qCy (qBC N) (pk N a * 256 + 128 * qBC N) = pk N fun z => a z * 256 + 128 := by
 rw [show 128 * qBC N = pk N fun _ => 128 from qBS N 128]
 unfold pk
 rw [qC5, qA1, qDn N (fun z => by
  have h1 := u32 (a z)
  show (a z).toNat * 256 + 128 < 2 ^ 64
  omega)]
 refine qAr fun z => ?_
 show ((a z).toNat * 256 + 128) % 4294967296 = (a z * 256 + 128).toNat
 rw [UInt32.toNat_add, UInt32.toNat_mul]
 show _ = ((a z).toNat * 256 % 4294967296 + 128) % 4294967296
 omega
theorem qTF (N : Nat) (a : Nat → UInt32) : qCy (qBC N) (4096 * qBC N + qHW (qBC N) (pk N a) 24) = pk N fun z => 4096 + Sha.shr (a z) 24 := by
 rw [qGq N a (by decide) (by decide)]
 exact qIW N 4096 _
noncomputable def stepP {α : Type} (u o0 o1 o2 o3 o4 w A B C D : Nat) (g : Nat → Nat → Nat → Nat → α) : α :=
 forceL [33554432 * u, o0 * u, o1 * u, o2 * u, o3 * u, o4 * u, 100663296 * u, w, qCy u (4096 * u + qHW u A 24), qCy u (A * 256 + qHW u B 24), qCy u (B * 256 + qHW u C 24), qCy u (C * 256 + qHW u D 24), qCy u (D * 256 + 128 * u), 0 * u, 0 * u, 408 * u] fun ws => oneP u ws g
def oW (o : List UInt8) : Nat → UInt32
 | 0 => Sha.be32 16 (o.getD 0 0) (o.getD 1 0) (o.getD 2 0)
 | 1 => qS1 o 0
 | 2 => qS1 o 1
 | 3 => qS1 o 2
 | _ => Sha.be32 (o.getD 15 0) 0 0 0
theorem qOU {α : Type} (N : Nat) (o : List UInt8) (ho : o.length = 16) (lf ch : Nat → Nat) (k : Nat) (a b c d : Nat → UInt32) (w : Nat) (hw : w = pk N fun z => Sha.be32 (UInt8.ofNat (lf z)) (UInt8.ofNat (ch z)) (UInt8.ofNat k) 0) (g : Nat → Nat → Nat → Nat → α) :
    ∃ a' b' c' d' : Nat → UInt32, stepP (qBC N) (oW o 0).toNat (oW o 1).toNat (oW o 2).toNat (oW o 3).toNat (oW o 4).toNat w (pk N a) (pk N b) (pk N c) (pk N d) g = g (pk N a') (pk N b') (pk N c') (pk N d') ∧
      ∀ z, z < N → x16 (a' z) (b' z) (c' z) (d' z) = Sha.tagged 2 [o, plc (lf z) (ch z) k, x16 (a z) (b z) (c z) (d z)] := by
  obtain ⟨M, hM⟩ : ∃ M, M = (List.range N).map fun z => Sha.pad (Sha.tagB 2 [o, plc (lf z) (ch z) k, x16 (a z) (b z) (c z) (d z)]) := ⟨_, rfl⟩
  have hlen : M.length = N := by rw [hM, List.length_map, List.length_range]
  have hz : ∀ z, z < N → M.getD z [] = Sha.pad (Sha.tagB 2 [o, plc (lf z) (ch z) k, x16 (a z) (b z) (c z) (d z)]) := fun z h => by
    rw [hM, List.getD_eq_getElem?_getD, List.getElem?_map, List.getElem?_range h]; rfl
  have hwd : ∀ j, j < 16 → pk N (wd M j) = pk N fun z => (qRM o (Sha.be32 (UInt8.ofNat (lf z)) (UInt8.ofNat (ch z)) (UInt8.ofNat k) 0) (a z) (b z) (c z) (d z)).getD j 0 := fun j hj => pk_lt fun z h => by
    have := qKq o ho (lf z) (ch z) k (a z) (b z) (c z) (d z)
    rw [← hz z h] at this
    rw [← this]
    unfold Sha.firsts wd
    generalize M.getD z [] = q
    rw [List.getD_eq_getElem?_getD, List.getElem?_map, List.getElem?_range hj]; rfl
  have hl : [33554432 * qBC N, (oW o 0).toNat * qBC N, (oW o 1).toNat * qBC N, (oW o 2).toNat * qBC N, (oW o 3).toNat * qBC N, (oW o 4).toNat * qBC N, 100663296 * qBC N, w, qCy (qBC N) (4096 * qBC N + qHW (qBC N) (pk N a) 24), qCy (qBC N) (pk N a * 256 + qHW (qBC N) (pk N b) 24), qCy (qBC N) (pk N b * 256 + qHW (qBC N) (pk N c) 24), qCy (qBC N) (pk N c * 256 + qHW (qBC N) (pk N d) 24), qCy (qBC N) (pk N d * 256 + 128 * qBC N), 0 * qBC N, 0 * qBC N, 408 * qBC N] = (List.range 16).map fun j => pk M.length (wd M j) := by
    rw [hlen, qTF, qM9, qM9, qM9, qTy, qBS, qBS, qBS, qBS, qBS, hw]
    rw [show 33554432 * qBC N = pk N fun _ => 33554432 from qBS N 33554432, show 100663296 * qBC N = pk N fun _ => 100663296 from qBS N 100663296, show 0 * qBC N = pk N fun _ => 0 from qBS N 0, show 408 * qBC N = pk N fun _ => 408 from qBS N 408]
    show _ = [pk N (wd M 0), pk N (wd M 1), pk N (wd M 2), pk N (wd M 3), pk N (wd M 4), pk N (wd M 5), pk N (wd M 6), pk N (wd M 7), pk N (wd M 8), pk N (wd M 9), pk N (wd M 10), pk N (wd M 11), pk N (wd M 12), pk N (wd M 13), pk N (wd M 14), pk N (wd M 15)]
    rw [hwd 0 (by decide), hwd 1 (by decide), hwd 2 (by decide), hwd 3 (by decide), hwd 4 (by decide), hwd 5 (by decide), hwd 6 (by decide), hwd 7 (by decide), hwd 8 (by decide), hwd 9 (by decide), hwd 10 (by decide), hwd 11 (by decide), hwd 12 (by decide), hwd 13 (by decide), hwd 14 (by decide), hwd 15 (by decide)]
    rfl
  refine ⟨fun z => (Sha.mix Sha.init (M.getD z [])).a, fun z => (Sha.mix Sha.init (M.getD z [])).b, fun z => (Sha.mix Sha.init (M.getD z [])).c, fun z => (Sha.mix Sha.init (M.getD z [])).d, ?_, fun z h => ?_⟩
  · unfold stepP
    rw [qAt, hl]
    have := qM0 M g
    rw [hlen] at this
    rw [hlen]
    exact this
  · rw [← qTW, hz z h]
    unfold Sha.tagged Sha.sum
    have h51 : (Sha.tagB 2 [o, plc (lf z) (ch z) k, x16 (a z) (b z) (c z) (d z)]).length = 51 := by
      rw [Sha.tagB_length]
      simp only [List.flatten_cons, List.flatten_nil, List.length_append, List.length_cons, List.length_nil, ho]
      unfold x16 plc
      simp only [List.length_append, Sha.numB_length, List.length_cons, List.length_nil]
    rw [show (Sha.pad (Sha.tagB 2 [o, plc (lf z) (ch z) k, x16 (a z) (b z) (c z) (d z)])).length / 64 = 1 by rw [Sha.pad_length, h51], Sha.mixes, Sha.mixes, Nat.mul_zero, List.drop_zero]
end SM
end Go.Proofs.YtfldiegfenndjaaGreatDoor
namespace Go.Proofs.YtfldiegfenndjaaGreatDoor
set_option maxRecDepth 100000
set_option maxHeartbeats 1000000
namespace SN
noncomputable def qCU (leaf chain k : Nat) : List Nat := bytes4 leaf ++ [chain % 256, k % 256]
theorem qC3 (leaf chain k : Nat) (h : leaf < 18446744073709551616) : qCU leaf chain k = (Wo.place leaf chain k).map UInt8.toNat := by
 unfold qCU
 rw [bytes4_eq leaf h, R3.four_nat leaf h]
 simp [Wo.place, UInt8.toNat_ofNat']
noncomputable def walkN (o : List Nat) (leaf chain n : Nat) : Nat → List Nat → List Nat := Nat.rec (fun _ x => x) (fun _ ih a x => forceL (tagN 2 [o, qCU leaf chain a, x]) fun y => qAj (a + 1) fun b => ih b y) n
theorem qKl (o : List Nat) (leaf chain a : Nat) (x : List Nat) : walkN o leaf chain 0 a x = x := rfl
theorem qKm (o : List Nat) (leaf chain n a : Nat) (x : List Nat) : walkN o leaf chain (n + 1) a x = forceL (tagN 2 [o, qCU leaf chain a, x]) fun y => qAj (a + 1) fun b => walkN o leaf chain n b y := rfl
attribute [local irreducible] walkN tagN qCU
theorem qOV (o : List UInt8) (leaf chain k : Nat) (x : List UInt8) (h : leaf < 18446744073709551616) (ho : o.length ≤ 1048576) (hx : x.length ≤ 1048576) : tagN 2 [o.map UInt8.toNat, qCU leaf chain k, x.map UInt8.toNat] = (Wo.step o leaf chain k x).map UInt8.toNat := by
 have := tagN_eq 2 [o, Wo.place leaf chain k, x] (by simp [Wo.place_length]; omega)
 rw [qC3 leaf chain k h]
 exact this
theorem walkN_eq (o : List UInt8) (leaf chain : Nat) (h : leaf < 18446744073709551616) (ho : o.length ≤ 1048576) (n : Nat) : ∀ (a : Nat) (x : List UInt8), x.length ≤ 1048576 → walkN (o.map UInt8.toNat) leaf chain n a (x.map UInt8.toNat) = (Wo.walk o leaf chain a x n).map UInt8.toNat := by
 induction n with
 | zero => intro a x _; rw [qKl, Wo.walk]
 | succ n ih =>
  intro a x hx
  rw [qKm, qAt, qAb, qOV o leaf chain a x h ho hx, ih (a + 1) _ (by rw [Wo.step_length]; decide)]
  have := Wo.walk_add o leaf chain a x 1 n
  rw [show Wo.walk o leaf chain a x 1 = Wo.step o leaf chain a x by rw [Wo.walk, Wo.walk, Nat.add_zero]] at this
  rw [this, Nat.add_comm 1 n]
noncomputable def secretN (seed : List Nat) (leaf chain : Nat) : List Nat := tagN 1 [seed, qCU leaf chain 0]
theorem secretN_eq (seed : List UInt8) (leaf chain : Nat) (h : leaf < 18446744073709551616) (hs : seed.length ≤ 1048576) : secretN (seed.map UInt8.toNat) leaf chain = (Wo.secret seed leaf chain).map UInt8.toNat := by
 have := tagN_eq 1 [seed, Wo.place leaf chain 0] (by simp [Wo.place_length]; omega)
 unfold secretN
 rw [qC3 leaf chain 0 h]
 exact this
noncomputable def chainsN (o : List Nat) (leaf : Nat) (start : Nat → List Nat) (fr len : Nat → Nat) (n : Nat) : Nat → List (List Nat) → List (List Nat) :=
 Nat.rec (fun _ acc => acc) (fun _ ih i acc => qAj (len i) fun m => qAj (fr i) fun f => forceL (start i) fun s => forceL (walkN o leaf i m f s) fun y => qAj (i + 1) fun j => ih j (acc ++ [y])) n
theorem qIS (o : List Nat) (leaf : Nat) (start : Nat → List Nat) (fr len : Nat → Nat) (i : Nat) (acc : List (List Nat)) : chainsN o leaf start fr len 0 i acc = acc := rfl
theorem qIT (o : List Nat) (leaf : Nat) (start : Nat → List Nat) (fr len : Nat → Nat) (n i : Nat) (acc : List (List Nat)) : chainsN o leaf start fr len (n + 1) i acc =
    qAj (len i) fun m => qAj (fr i) fun f => forceL (start i) fun s => forceL (walkN o leaf i m f s) fun y => qAj (i + 1) fun j => chainsN o leaf start fr len n j (acc ++ [y]) := rfl
attribute [local irreducible] chainsN
theorem chainsN_eq (o : List UInt8) (leaf : Nat) (h : leaf < 18446744073709551616) (ho : o.length ≤ 1048576) (start : Nat → List UInt8) (hst : ∀ i, (start i).length ≤ 1048576) (startN : Nat → List Nat) (hN : ∀ i, startN i = (start i).map UInt8.toNat) (fr len : Nat → Nat) (n : Nat) :
    ∀ (i : Nat) (acc : List (List UInt8)), chainsN (o.map UInt8.toNat) leaf startN fr len n i (acc.map (List.map UInt8.toNat)) = (acc ++ (List.range' i n).map fun i => Wo.walk o leaf i (fr i) (start i) (len i)).map (List.map UInt8.toNat) := by
  induction n with
  | zero => intro i acc; rw [qIS, List.range'_zero, List.map_nil, List.append_nil]
  | succ n ih =>
    intro i acc
    rw [qIT, qAb, qAb, qAt, qAt, qAb, hN, walkN_eq o leaf i h ho _ _ _ (hst i)]
    have e : acc.map (List.map UInt8.toNat) ++ [(Wo.walk o leaf i (fr i) (start i) (len i)).map UInt8.toNat] = (acc ++ [Wo.walk o leaf i (fr i) (start i) (len i)]).map (List.map UInt8.toNat) := by rw [List.map_append]; rfl
    rw [e, ih (i + 1) _, List.range'_succ, List.map_cons, List.append_assoc]
    rfl
noncomputable def pubOfN (o : List Nat) (leaf : Nat) (e : List (List Nat)) : List Nat := tagN 4 ([o, qCU leaf 0 0] ++ e)
theorem pubOfN_eq (o : List UInt8) (leaf : Nat) (h : leaf < 18446744073709551616) (e : List (List UInt8)) (hl : o.length + e.flatten.length + 4 * e.length < 1152921504606846000) : pubOfN (o.map UInt8.toNat) leaf (e.map (List.map UInt8.toNat)) = (Wo.publicOf o leaf e).map UInt8.toNat := by
 have := tagN_eq 4 ([o, Wo.place leaf 0 0] ++ e) (by simp only [List.flatten_append, List.length_append, List.flatten_cons, List.flatten_nil, Wo.place_length, List.length_nil, List.length_cons]; omega)
 unfold pubOfN
 rw [qC3 leaf 0 0 h]
 rw [List.map_append] at this
 exact this
end SN
end Go.Proofs.YtfldiegfenndjaaGreatDoor
