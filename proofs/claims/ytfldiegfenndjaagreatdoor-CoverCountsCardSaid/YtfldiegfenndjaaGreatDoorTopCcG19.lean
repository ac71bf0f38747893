/- A part of the proof. -/
import Derived.Test.YtfldiegfenndjaaGreatDoorTopCcG17
import Derived.Test.YtfldiegfenndjaaGreatDoorTopCcG18
import Derived.Test.YtfldiegfenndjaaGreatDoorTopCcG8
import Derived.Test.YtfldiegfenndjaaGreatDoorTopCcG6
set_option linter.unusedSimpArgs false
set_option linter.unusedVariables false
namespace Go.Proofs.YtfldiegfenndjaaGreatDoor
open Go Go.Fw Go.Proofs.Tryz
set_option maxRecDepth 100000
set_option maxHeartbeats 1000000
theorem qQS {k : List UInt8} (hk : k.length = 16) {i : Nat} (hi : i ≤ 16) : Sm.kv k / 2 ^ (128 - i) < 2 ^ i := by
 have h := Sm.kv_lt k
 rw [hk] at h
 rw [Nat.div_lt_iff_lt_mul (Nat.two_pow_pos _), ← Nat.pow_add, show i + (128 - i) = 128 by omega]
 exact Nat.lt_of_lt_of_eq h (by decide)
theorem qTn {i : Nat} (hi : i ≤ 16) : 2 ^ i ≤ 65536 := Nat.le_trans (Nat.pow_le_pow_right (by decide) hi) (by decide)
def kF (n d : Nat) : List UInt8 := [UInt8.ofNat (n * 2 ^ (16 - d) / 2 ^ 8), UInt8.ofNat (n * 2 ^ (16 - d)), 0, 0, 0, 0, 0, 0, 0, 0, 0, 0, 0, 0, 0, 0]
theorem qEB (n d : Nat) : (kF n d).length = 16 := rfl
theorem qQs {n d : Nat} (hd : d ≤ 16) (hn : n < 2 ^ d) : n * 2 ^ (16 - d) < 65536 := by
 have h := Nat.mul_lt_mul_of_pos_right hn (Nat.two_pow_pos (16 - d))
 rw [← Nat.pow_add, show d + (16 - d) = 16 by omega] at h
 exact h
theorem kF_kv {n d : Nat} (hd : d ≤ 16) (hn : n < 2 ^ d) : Sm.kv (kF n d) = n * 2 ^ (128 - d) := by
 have ht := qQs hd hn
 obtain ⟨t, hte⟩ : ∃ t, t = n * 2 ^ (16 - d) := ⟨_, rfl⟩
 have e : n * 2 ^ (128 - d) = t * 2 ^ 112 := by rw [hte, Nat.mul_assoc, ← Nat.pow_add, show 16 - d + 112 = 128 - d by omega]
 have h1 : (UInt8.ofNat (t / 2 ^ 8)).toNat = t / 2 ^ 8 := UInt8.toNat_ofNat_of_lt' (by show _ < 256; omega)
 have h2 : (UInt8.ofNat t).toNat = t % 256 := by simp
 rw [e]
 unfold kF
 rw [← hte]
 simp only [Sm.kv, List.length_cons, List.length_nil, h1, h2]
 show t / 2 ^ 8 * 256 ^ 15 + (t % 256 * 256 ^ 14 + 0) = _
 rw [show (256 : Nat) ^ 15 = 256 * 2 ^ 112 by decide, show (256 : Nat) ^ 14 = 2 ^ 112 by decide, ← Nat.mul_assoc, Nat.add_zero, ← Nat.add_mul]
 congr 1
 omega
theorem qNb {n d : Nat} (hd : d ≤ 16) (hn : n < 2 ^ d) : Sm.kv (kF n d) / 2 ^ (128 - d) = n := by rw [kF_kv hd hn, Nat.mul_div_cancel _ (Nat.two_pow_pos _)]
theorem qNo (F : Hp) (n d : Nat) (hd : d ≤ 16) (hn : n < 2 ^ d) : Ct prog 76 [I ((n : Nat) : Int), I ((d : Nat) : Int)] [F] (fun _ : Unit => Str (kF n d)) (fun _ => True) (fun _ => [F]) := by
 have hp16 := qTn hd
 have htl := qQs hd hn
 have hpe : 2 ^ (16 - d) ≤ 65536 := qTn (Nat.sub_le _ _)
 refine Ct.walk func76 rfl ntmps76 rfl (fun w0 hw0 => ?_)
 refine J.g fun K1 hK1 => J.b rfl <| J.c hK1 <| J.M 0 1 ?_
 refine J.g fun K2 hK2 => J.u (qBi (n' := 16) rfl rfl qBP el5 (by omega) (by omega)) rfl ?_
 rintro g7 _
 change J _ ((7, .slice (some ⟨g7, 0, none⟩) 16 16) :: _) _ [F, blk g7 (List.replicate 16 [.int .u8 0]).flatten 5] _
 refine J.b rfl <| J.c hK2 <| J.V 0 1 5 ?_
 refine J.k fun K3 hK3 => J.g fun K4 hK4 => J.b rfl <| J.f ((qBG rfl rfl rfl).yes (by omega)) rfl <| J.p 2 rfl <| J.O ((qB4 rfl rfl rfl).yes (by omega)) rfl <| J.p 3 rfl <| J.O ((qBG rfl rfl rfl).yes (by omega)) rfl <| J.p 4 rfl <| J.O ((qIv (a := 1) (m := d) rfl rfl rfl ⟨by omega, by omega⟩)) rfl <| J.O ((qAS rfl rfl rfl).yes (by omega)) rfl <| J.b rfl <| J.c hK4 <| J.W 0 1 5 23 ?_
 refine J.d1 ?_
 refine J.g fun K5 hK5 => J.p 2 rfl <| J.f ((qAs rfl rfl rfl (by omega)).nat (16 - d) (by omega)) rfl <| J.f (qIv rfl rfl rfl (by first | omega | decide | (simp only [List.length_set, List.length_replicate] at *; omega))) rfl <| J.b rfl <| J.c hK5 <| J.M 5 6 ?_
 refine J.E <| J.p 3 rfl <| J.f (qND rfl rfl rfl (by first | omega | decide | (simp only [List.length_set, List.length_replicate] at *; omega))) rfl <| J.f (qAe rfl rfl u3_ u5_) rfl <| J.b rfl <| J.f (qAe rfl rfl u3_ u5_) rfl <| J.f (qAJ (i := 0) (j := 0 + 0 * 1) rfl rfl rfl qBP z5_ (by first | omega | decide | (simp only [List.length_set, List.length_replicate] at *; omega)) (by omega)) rfl <| J.c1 (qA9 (i := 1) (k := 0) (off := 0) (b := [B8 (UInt8.ofNat ((n * 2 ^ (16 - d)) / 2 ^ 8))]) rfl rfl rfl rfl (qAr (q := True) (sz := 1) (xs := qAX (List.replicate 16 0)) rfl (by intro x hx; obtain ⟨_, _, rfl⟩ := List.mem_map.1 hx; rfl)) (vs := [B8 (UInt8.ofNat ((n * 2 ^ (16 - d)) / 2 ^ 8))]) rfl z5_ rfl (by omega) (qBj (qAi 0 (by first | omega | decide | (simp only [List.length_set, List.length_replicate] at *; omega)))) rfl (Nat.le_refl _)) rfl rfl ?_
 rintro m4_1 hm4_1
 rw [qEV] at hm4_1
 refine J.f (qAJ (i := 1) (j := 0 + 1 * 1) rfl rfl rfl qBP z5_ (by first | omega | decide | (simp only [List.length_set, List.length_replicate] at *; omega)) (by omega)) rfl <| J.c1 (qA9 (i := 1) (k := 1) (off := 0) (b := [B8 (UInt8.ofNat (n * 2 ^ (16 - d)))]) rfl rfl rfl rfl hm4_1 (vs := [B8 (UInt8.ofNat (n * 2 ^ (16 - d)))]) rfl z5_ rfl (by omega) (qBj (qAi 0 (by first | omega | decide | (simp only [List.length_set, List.length_replicate] at *; omega)))) rfl (Nat.le_refl _)) rfl rfl ?_
 rintro m4_2 hm4_2
 rw [qEV] at hm4_2
 refine J.c hK3 <| J.A 5 ?_
 refine J.g fun K6 hK6 => J.b rfl <| J.f (qBB rfl rfl qBP u5_ u9_ (m := m4_2) (by simp) hm4_2.sl) rfl <| J.b rfl <| J.c hK6 <| J.A 4 ?_
 exact J.D <| J.L hw0 rfl () (by unfold kF; rfl) trivial [0] rfl (by decide)
theorem qH8 (l : List Sm.PR) (b : List UInt8) (d : Nat) : (Sm.ndB l b d).length ≤ 17 := Sm.nd_small _ _
theorem qLT {kv : List Sm.PR} (hf : qE1 kv) {k : List UInt8} (hk : k.length = 16) {d : Nat} (hd : d ≤ 15) {n : Nat} (hn : n = Sm.kv k / 2 ^ (128 - d)) :
    Sb.join (Sm.ndB kv (kF (2 * n) (d + 1)) (d + 1)) (Sm.ndB kv (kF (2 * n + 1) (d + 1)) (d + 1)) = Sm.ndB kv k d := by
  have hlt := qQS hk (i := d) (by omega)
  have h2 : 2 ^ (d + 1) = 2 ^ d * 2 := Nat.pow_succ 2 d
  have f0 := qNb (n := 2 * n) (d := d + 1) (by omega) (by omega)
  have f1 := qNb (n := 2 * n + 1) (d := d + 1) (by omega) (by omega)
  rw [show 128 - (d + 1) = 127 - d by omega] at f0 f1
  exact Sm.ndB_join hf.once hf.k16 hk (qEB _ _) (qEB _ _) (by omega) (by rw [f0, hn]) (by rw [f1, hn])
attribute [local irreducible] Sha.tagged Sb.join Sb.lvl Sb.lvls Sb.root
theorem qQM (F : Hp) (A : Option Addr) (n c : Nat) : Ct prog 187 [.slice A n c, I 2] [F] (fun x : Nat × Nat => .func (.func 220) #[] #[Ptr x.1, Ptr x.2]) (fun _ => True) (fun x => [F, blk x.1 [.slice A n c] 37, blk x.2 [I 2] 3]) := by
 refine Ct.walk func187 rfl ntmps187 rfl (fun w0 hw0 => ?_)
 refine J.g fun K1 hK1 => J.u (qAl rfl rfl rfl) rfl fun g2 _ => J.u (qAl rfl rfl rfl) rfl fun g3 _ => J.b rfl <| J.c hK1 <| J.M 2 3 ?_
 refine J.k fun K2 hK2 => J.g fun K3 hK3 => J.c4 2 b3_ rfl rfl rfl rfl rfl <| J.f ((qAS rfl rfl rfl).no (by omega)) rfl <| J.c hK3 <| J.V 2 3 6 ?_
 refine J.b6 ?_
 refine J.a1 hK2 <| J.M 2 3 ?_
 refine J.g fun K4 hK4 => J.f (qBh rfl rfl) rfl <| J.b rfl <| J.c hK4 <| J.A 4 ?_
 exact J.D <| J.L hw0 rfl (g2, g3) rfl trivial [0, 1, 2] rfl (by decide)
theorem qN5 (Fr : Hp) (gA gB : Nat) (A : Option Addr) (N n c : Nat) (hn : n = 2 * N) (hnc : n ≤ c) (hn2 : n ≤ 1073741824) (ha : qAV Fr ⟨gA, 0, none⟩ [.slice A n c]) (hb : qAV Fr ⟨gB, 0, none⟩ [I 2]) :
    qJP prog 220 [Ptr gA, Ptr gB] Fr (fun i => [.slice (A.map (·.add (2 * i * 1))) 2 2]) N := by
  refine qJP.walk func220 rfl ntmps220 rfl (fun {X} M IY S l x0 w0 hw0 h0 hY => ?_)
  refine J.g fun K1 hK1 => J.b rfl <| J.c hK1 <| J.W 0 1 2 4 ?_
  refine J.T <| J.b2 (X := Nat × X) (fun y => [(0, .func (.yield l) #[] #[]), (1, Ptr gA), (2, Ptr gB), (4, I ((2 * y.1 : Nat) : Int))]) (fun y => [Fr, M y.2]) (fun y => y.1 ≤ N ∧ IY y.1 y.2) (fun y => N - y.1) (0, x0) (⟨Nat.zero_le _, h0⟩) ⟨rfl, rfl, rfl, rfl, trivial⟩ (fun _ h => h) ?_
  rintro ⟨i, x⟩ ⟨hi, hI⟩ I0 hI0
  dsimp only at hi hI ⊢
  refine J.k fun K2 hK2 => J.g fun K3 hK3 => J.b rfl <| J.f (qAK rfl rfl qDq (m := Fr) (by simp) (ha)) rfl <| J.f (qAZ qAn rfl rfl) rfl <| J.f (qAS rfl rfl rfl) rfl <| J.c hK3 <| J.a3 0 1 2 4 9 ?_
  refine J.a0 rfl (fun h9 => ?_) (fun h9 => ?_)
  ·
    refine J.a1 hK2 <| J.W 0 1 2 4 ?_
    refine J.k fun K4 hK4 => J.T <| J.k fun K5 hK5 => J.b5 [Fr, M x] [] (.y 0 (.y 1 (.y 2 (.y 3 (.y 4 (.y 5 (.y 6 .nil))))))) Tryz.wide (by decide +kernel) (by simp) ?_
    refine J.j rfl (qAK rfl rfl b3_ (m := Fr) (by simp) (hb)) rfl rfl <| J.j rfl (qAK rfl rfl qDq (m := Fr) (by simp) (ha)) rfl rfl <| J.G ?_
    refine J.j rfl (qCu rfl rfl qAn z9_ rfl rfl (by omega)) rfl rfl <| J.j rfl (qAZ qAn rfl rfl) rfl rfl <| J.j rfl ((qJx rfl rfl rfl).nat (2) (by omega)) rfl rfl <| J.c0 ?_
    refine J.b4 <| J.q (J.H hK5 ?_)
    refine J.a3 0 1 2 4 5 ?_
    refine J.k fun K6 hK6 => J.g2 ?_
    refine J.d3 (qAj rfl rfl) rfl rfl rfl ?_
    refine J.d3 (qAK rfl rfl qDq (m := Fr) (by simp) (ha)) rfl rfl rfl ?_
    refine J.d3 (qAj rfl rfl) rfl rfl rfl ?_
    refine J.d3 (qAj rfl rfl) rfl rfl rfl ?_
    refine J.d3 (qAj rfl rfl) rfl rfl rfl ?_
    refine J.d3 ((qAO rfl rfl rfl (by omega)).nat (2 * i + 2) (by omega)) rfl rfl rfl ?_
    refine J.d3 (qAj rfl rfl) rfl rfl rfl ?_
    refine J.d3 (qAj rfl rfl) rfl rfl rfl ?_
    refine J.d3 ((qAO rfl rfl rfl (by omega)).nat (2 * i + 2) (by omega)) rfl rfl rfl ?_
    refine J.d3 ((qLI rfl rfl qAn z9_ rfl rfl rfl (by omega)).as (v' := .slice (A.map (·.add (2 * i * 1))) 2 2) (by rw [if_neg (by omega), show 2 * i + 2 - 2 * i = 2 by omega])) rfl rfl rfl ?_
    refine J.g3 (ex := []) rfl rfl rfl rfl rfl rfl (hY i x (by omega) hI) ?_
    rintro x' b hb1 hb2
    cases b
    ·
      have hyb := hb2 rfl
      refine J.d3 (qA2 rfl rfl) rfl rfl rfl ?_
      refine J.f3 ?_
      refine J.q (J.H hK6 ?_)
      refine J.a3 0 1 2 4 30 ?_
      refine J.d1 ?_
      exact J.D <| J.b3 <| J.a5 <| J.a5 <| J.b3 <| J.c2 hw0 (fun _ _ h => h) (qLx rfl) (fun w hs => ⟨x', ⟨_, rfl⟩, .inr hyb, hs⟩)
    have hyb := hb1 rfl
    refine J.d3 (qA2 rfl rfl) rfl rfl rfl ?_
    refine J.f3 ?_
    refine J.q (J.H hK6 ?_)
    refine J.a3 0 1 2 4 30 ?_
    refine J.b6 ?_
    refine J.b7 <| J.a4 <| J.q (J.H hK4 ?_)
    refine J.W 0 1 2 4 ?_
    exact J.E <| J.b rfl <| J.f (qAK rfl rfl b3_ (m := Fr) (by simp) (hb)) rfl <| J.f ((qAO rfl rfl rfl (by omega)).nat (2 * (i + 1)) (by omega)) rfl <| J.b rfl <| J.a2 <| J.q <| J.a6 (i + 1, x') (fun y (hy : _ ∧ N - y.1 < N - i) => hI0 y hy.1 hy.2) ⟨⟨by dsimp only; omega, hyb⟩, by dsimp only; omega⟩ ⟨rfl, rfl, rfl, rfl, trivial⟩ (fun _ h => h)
  refine J.b0 <| J.Z <| J.Z <| J.b1 ?_
  exact J.e4 hw0 (fun _ _ h => h) (qLx rfl) (fun w hs => ⟨x, ⟨_, rfl⟩, .inl (by rw [show N = i by omega]; exact hI), hs⟩)
theorem qEG (F : Hp) (d : Int) : Ct prog 38 [I d] [F] (fun _ : Unit => I (cnt d)) (fun _ => True) (fun _ => [F]) := by
 refine Ct.walk func38 rfl ntmps38 rfl (fun w0 hw0 => ?_)
 refine J.g fun K1 hK1 => J.b rfl <| J.c hK1 <| J.A 0 ?_
 refine J.k fun K2 hK2 => J.g fun K3 hK3 => J.b rfl <| J.f (qAS rfl rfl rfl) rfl <| J.b rfl <| J.c3 (d := 5) rfl (fun h5 => ?_) (fun h5 => ?_)
 ·
  refine J.p 3 rfl <| J.c hK3 <| J.M 0 8 ?_
  refine J.d1 ?_
  refine J.g fun K4 hK4 => J.b rfl <| J.c hK4 <| J.A 2 ?_
  exact J.D <| J.a5 <| J.L hw0 rfl () (by rw [qEz.2 (by omega)]; rfl) trivial [0] rfl (by decide)
 refine J.b rfl <| J.O (qBJ rfl rfl rfl) rfl <| J.b rfl <| J.c hK3 <| J.M 0 8 ?_
 refine J.a0 rfl (fun h8 => ?_) (fun h8 => ?_)
 ·
  refine J.g fun K5 hK5 => J.b rfl <| J.c hK5 <| J.A 2 ?_
  exact J.D <| J.a5 <| J.L hw0 rfl () (by rw [qEz.2 (by omega)]; rfl) trivial [0] rfl (by decide)
 refine J.a1 hK2 <| J.A 0 ?_
 refine J.g fun K6 hK6 => J.b rfl <| J.f ((qG5 rfl rfl (by show some (I d) = _; rw [show ((d.toNat : Nat) : Int) = d by omega]) ⟨by omega, by have := Int.pow_pos (n := 2) (m := d.toNat) (by decide); omega, by rw [Int.one_mul]; have h1 := Nat.pow_le_pow_right (n := 2) (by decide) (show d.toNat ≤ 4 by omega); have h2 : ((2 ^ d.toNat : Nat) : Int) ≤ ((2 ^ 4 : Nat) : Int) := Int.ofNat_le.2 h1; simp only [Int.natCast_pow] at h2; exact Int.le_trans h2 (by decide)⟩).as (v' := I (cnt d)) (congrArg I (by unfold cnt; rw [if_neg (by omega)]; simp))) rfl <| J.b rfl <| J.c hK6 <| J.A 2 ?_
 exact J.D <| J.L hw0 rfl () rfl trivial [0] rfl (by decide)
theorem qQQ (F : Hp) (hK : KF F) (d : Int) (l : List (List UInt8)) (A : Option Addr) (c : Nat) (hsl : Sl F 1 A l.length c (qAL l)) (hsm : ∀ s ∈ l, s.length ≤ 1048576) :
    Ct prog 151 [.slice A l.length c, I d] [F] (fun _ : Unit => .tuple #[Str (qFo l d), I (qIS l d)]) (fun _ => True) (fun _ => [F]) := by
  refine Ct.walk func151 rfl ntmps151 rfl (fun w0 hw0 => ?_)
  refine J.g fun K1 hK1 => J.p 2 rfl <| J.c hK1 <| J.M 0 1 ?_
  refine J.k fun K2 hK2 => J.g fun K3 hK3 => J.b rfl <| J.u (qAB rfl rfl ent38 (Ct.use0 (fun F' hF => qEG F' d))) rfl fun g10 _ => J.b rfl <| J.c hK3 <| J.M 0 6 ?_
  refine J.T <| J.g fun K4 hK4 => J.b rfl <| J.f (qAd rfl rfl rfl) rfl <| J.b rfl <| J.c hK4 <| J.V 0 6 11 ?_
  refine J.a0 rfl (fun h11 => ?_) (fun h11 => ?_)
  ·
    refine J.g fun K5 hK5 => J.p 2 rfl <| J.c hK5 <| J.M 4 5 ?_
    exact J.D <| J.b3 <| J.a5 <| J.c2 hw0 (fun _ _ h => h) (qDb rfl rfl rfl) (qBD () (by unfold qFo qIS; rw [if_pos (show cnt d = 0 by omega)]; rfl) trivial [0] rfl (by decide))
  refine J.g fun K6 hK6 => J.p 2 rfl <| J.f (qAZ qAn rfl rfl) rfl <| J.f (qAx rfl rfl rfl) rfl <| J.b rfl <| J.d6 [0, 1] [F, (fun _ => none)] rfl (by decide) <| J.c hK6 <| J.M 0 14 ?_
  refine J.a0 rfl (fun h14 => ?_) (fun h14 => ?_)
  ·
    refine J.g fun K7 hK7 => J.p 2 rfl <| J.c hK7 <| J.M 4 5 ?_
    exact J.D <| J.b3 <| J.a5 <| J.c2 hw0 (fun _ _ h => h) (qDb rfl rfl rfl) (qBD () (by unfold qFo qIS; rw [if_neg (show ¬ cnt d = 0 by omega), if_pos (show l.length ≠ cnt d by omega)]; rfl) trivial [0] rfl (by decide))
  refine J.b7 <| J.a4 <| J.q (J.H hK2 ?_)
  refine J.A 0 ?_
  refine J.k fun K8 hK8 => J.T ?_
  have hd0 : cnt d ≠ 0 := by omega
  have hld : l.length = 2 ^ d.toNat := by rw [← qS6 hd0]; omega
  have hd4 : ¬ (d < 0 ∨ 4 < d) := fun e => hd0 (qEz.2 e)
  refine J.i1 (X := Nat × Option Addr × Nat × Hp) (fun x => [(0, .slice x.2.1 (Sb.lvls l x.1).length x.2.2.1)]) (fun x => [F, x.2.2.2]) (fun x => x.1 ≤ d.toNat ∧ ∃ m, (m = F ∨ m = x.2.2.2) ∧ Sl m 1 x.2.1 (Sb.lvls l x.1).length x.2.2.1 (qAL (Sb.lvls l x.1))) (fun x => d.toNat - x.1) (0, A, c, fun _ => none) (⟨Nat.zero_le _, F, .inl rfl, by rw [Sb.lvls_zero]; exact hsl⟩) ⟨by rw [Sb.lvls_zero]; rfl, trivial⟩ (fun _ h => h) ?_
  rintro ⟨k, A', c', mm⟩ wL ⟨hk, m, hm, hsl'⟩ hxL I0 hI0
  dsimp only at hk hm hsl' ⊢
  obtain ⟨L, hL⟩ : ∃ L, L = Sb.lvls l k := ⟨_, rfl⟩
  have hlen := Sb.lvls_length hld k hk
  have hLs := Sb.lvls_small hsm k
  have hp16 : 2 ^ (d.toNat - k) ≤ 16 := Nat.le_trans (Nat.pow_le_pow_right (by decide) (show d.toNat - k ≤ 4 by omega)) (by decide)
  have hp1 := Nat.two_pow_pos (d.toNat - k)
  refine J.k fun K9 hK9 => J.g fun K10 hK10 => J.b rfl <| J.f (qAZ qAn rfl rfl) rfl <| J.f (qBJ rfl rfl rfl) rfl <| J.c hK10 <| J.M 0 21 ?_
  refine J.a0 rfl (fun h21 => ?_) (fun h21 => ?_)
  ·
    refine J.a1 hK9 <| J.A 0 ?_
    refine J.T <| J.g fun K11 hK11 => J.u (qAf rfl zeroValue37 rfl) rfl fun g7 _ => J.c hK11 <| J.M 0 7 ?_
    refine J.k fun K12 hK12 => J.k fun K13 hK13 => ?_
    rw [← hL]
    refine J.E <| J.b rfl <| J.u (qAB rfl rfl ent187 (Ct.use (fun F' _ => qQM F' A' L.length c'))) rfl ?_
    rintro ⟨gA, gB⟩ _
    refine J.c hK13 <| J.M 7 23 ?_
    refine J.T <| J.d6 [2, 5, 0, 1, 3, 4] [blk g7 [.slice none 0 0] 37, (fun _ => none), F, mm, blk gA [.slice A' L.length c'] 37, blk gB [I 2] 3] rfl (by decide) ?_
    rw [← hL] at hlen hsl' hLs h21
    obtain ⟨q, hq⟩ : ∃ q, d.toNat - k = q + 1 := Nat.exists_eq_succ_of_ne_zero (fun e => by rw [e, Nat.pow_zero] at hlen; omega)
    have hev : L.length = 2 * (L.length / 2) := by rw [hlen, hq, Nat.pow_succ]; omega
    have hLn : L.length ≤ 1073741824 := by omega
    have hlc := hsl'.2.1
    refine J.h2 (fun x : Option Addr × Nat × Nat × Hp => [blk g7 [.slice x.1 x.2.1 x.2.2.1] 37, x.2.2.2]) [F, mm, blk gA [.slice A' L.length c'] 37, blk gB [I 2] 3] (fun i x => x.2.1 = i ∧ Row x.2.2.2 9 1 x.1 i x.2.2.1 (qAL ((Sb.lvl L).take i))) (fun _ _ => False) (none, 0, 0, fun _ => none) rfl ent220 (fun Fr hF => qN5 Fr gA gB A' (L.length / 2) L.length c' hev hlc hLn (qAV.blk0.mono (hF (blk gA [.slice A' L.length c'] 37) (by simp))) (qAV.blk0.mono (hF (blk gB [I 2] 3) (by simp)))) (fun _ _ => rfl) rfl (⟨rfl, by rw [List.take_zero]; exact qB5.nil⟩) ?_ ?_ ?_
    ·
      intro i x l wa wb hi hI K14 Post14 hK14 hN14 hR14 hE14
      obtain ⟨Ax, nx, cx, mx⟩ := x
      obtain ⟨hnx, hr⟩ := hI
      dsimp only at hnx hr
      subst hnx
      have hc := hsl'.cut (lo := 2 * nx) (hi := 2 * nx + 2) (mx := 2 * nx + 2) (by omega) (by omega) (by omega)
      rw [if_neg (by omega), show 2 * nx + 2 - 2 * nx = 2 by omega, qDL, qGD] at hc
      have hcl : ((L.take (2 * nx + 2)).drop (2 * nx)).length = 2 := by rw [List.length_drop, List.length_take]; omega
      have hc0 : ((L.take (2 * nx + 2)).drop (2 * nx)).getD 0 [] = L.getD (2 * nx) [] := by simp [List.getD_eq_getElem?_getD, List.getElem?_drop, List.getElem?_take]
      have hc1 : ((L.take (2 * nx + 2)).drop (2 * nx)).getD 1 [] = L.getD (2 * nx + 1) [] := by simp [List.getD_eq_getElem?_getD, List.getElem?_drop, List.getElem?_take]
      refine J.e6 ?_
      refine J.b rfl <| J.e7 ?_
      refine J.q (hK14 _ _ ?_)
      refine J.M 7 8 ?_
      refine J.g1 ?_
      refine J.h7 [blk g7 [.slice Ax nx cx] 37, F, mm, blk gA [.slice A' L.length c'] 37, blk gB [I 2] 3] [10] (.y 0 (.y 1 (.y 2 (.y 3 (.y 4 (.y 5 (.y 6 (.e 7 (.e 8 (.e 9 (.e 10 .nil))))))))))) Tryz.wide (by decide +kernel) (by simp) ?_
      refine J.j rfl (qAF 0 rfl rfl rfl qDq rfl) rfl rfl <| J.G ?_
      refine J.j rfl (qAG (i := 0) rfl rfl rfl qAn z9_ hc (by omega)) rfl rfl <| J.j rfl (qAK rfl rfl b9_ (m := m) (by rcases hm with rfl | rfl <;> simp) (hc.elem (qAa (qAi [] (show 0 < ((L.take (2 * nx + 2)).drop (2 * nx)).length by rw [hcl]; omega)) |>.trans (by rw [hc0])))) rfl rfl <| J.G ?_
      refine J.j rfl (qAG (i := 1) rfl rfl rfl qAn z9_ hc (by omega)) rfl rfl <| J.j rfl (qAK rfl rfl b9_ (m := m) (by rcases hm with rfl | rfl <;> simp) (hc.elem (qAa (qAi [] (show 1 < ((L.take (2 * nx + 2)).drop (2 * nx)).length by rw [hcl]; omega)) |>.trans (by rw [hc1])))) rfl rfl <| J.a7 rfl (qAB rfl rfl ent177 (Ct.use0 (fun F' hF => qEm F' (hK.mo hF) (L.getD (2 * nx) []) (L.getD (2 * nx + 1) []) (Sb.getD_small hLs _) (Sb.getD_small hLs _)))) rfl (by simp) fun g32 _ => J.a7 rfl (qAH (l := [.tmp 32]) (xs := [[Str (Sb.join (L.getD (2 * nx) []) (L.getD (2 * nx + 1) []))]]) rfl rfl rfl rfl qAn el9 rfl (by decide) (by decide) (by simp)) rfl (by simp) fun g33 _ => J.a7 rfl (qAb (i := 1) (m2 := blk g33 [Str (Sb.join (L.getD (2 * nx) []) (L.getD (2 * nx + 1) []))] 9) rfl rfl rfl qAn qAn el9 rfl hr (by simp) (slS [Sb.join (L.getD (2 * nx) []) (L.getD (2 * nx + 1) [])] rfl) (qCN _) (by omega) (by omega)) rfl (by simp) ?_
      rintro ⟨A34, c34, m34⟩ h34
      try dsimp only at h34
      refine J.c8 rfl (qAc (i := 0) rfl rfl rfl rfl rfl qEZ rfl (by simp)) rfl rfl rfl fun _ _ => J.c5 [0, 1, 2, 3, 4, 5] [blk g7 [.slice A34 (nx + 1) c34] 37, m34, F, mm, blk gA [.slice A' L.length c'] 37, blk gB [I 2] 3] rfl (by decide) <| J.h8 ?_
      refine J.a4 ?_
      exact hN14 _ (A34, nx + 1, c34, m34) ⟨rfl, by rw [Sb.lvl_take (by omega)]; rw [show ∀ a b, qAL (a ++ b) = qAL a ++ qAL b from fun a b => by simp [qAL]]; exact h34⟩
    ·
      intro w14 x hx14 hI
      obtain ⟨Ax, nx, cx, mx⟩ := x
      obtain ⟨hnx, hr⟩ := hI
      dsimp only at hnx hr
      subst hnx
      have hlen1 : (Sb.lvls l (k + 1)).length = L.length / 2 := by rw [Sb.lvls_succ, Sb.lvl_length, hL]
      have hfin : Sl mx 1 Ax (Sb.lvls l (k + 1)).length cx (qAL (Sb.lvls l (k + 1))) := by
        rw [hlen1, Sb.lvls_succ, ← hL]
        rw [List.take_of_length_le (by rw [Sb.lvl_length]; exact Nat.le_refl _)] at hr
        exact hr.sl
      refine J.a4 <| J.q (J.H hK12 ?_)
      refine J.A 7 ?_
      refine J.E <| J.c4 0 qDq rfl rfl rfl rfl rfl <| J.c5 [2, 1] [F, mx] rfl (by decide) <| J.b rfl <| J.a2 <| J.a4 <| J.q ?_
      rw [show Ax = Ax from rfl]
      exact J.a6 (k + 1, Ax, cx, mx) (fun x (hx : _ ∧ d.toNat - x.1 < d.toNat - k) => hI0 x _ hx.1 hx.2 hx14) ⟨⟨by dsimp only; omega, mx, .inr rfl, hfin⟩, by dsimp only; omega⟩ ⟨by dsimp only; rw [hlen1]; rfl, trivial⟩ (fun _ h => h)
    intro w14 x c hx14 hS
    exact hS.elim
  refine J.b0 <| J.Z <| J.Z <| J.b1 ?_
  refine J.q (J.H hK8 ?_)
  refine J.A 0 ?_
  refine J.k fun K15 hK15 => ?_
  have hkd : k = d.toNat := by
    by_cases e : k = d.toNat
    · exact e
    · have := Nat.pow_le_pow_right (n := 2) (by decide) (show 1 ≤ d.toNat - k by omega)
      omega
  refine J.E <| J.b rfl <| J.f (qAG (i := 0) rfl rfl rfl qAn z9_ hsl' (by omega)) rfl <| J.f (qAK rfl rfl b9_ (m := m) (by rcases hm with rfl | rfl <;> simp) (v := Str ((Sb.lvls l k).getD 0 [])) (hsl'.elem (qAa (qAi [] (by omega))))) rfl <| J.p 2 rfl <| J.c hK15 <| J.M 4 5 ?_
  exact J.D <| J.g4 hw0 hxL (fun _ _ h => h) (qDb rfl rfl rfl) (qBD () (by unfold qFo qIS; rw [if_neg hd0, if_neg (show ¬ l.length ≠ cnt d by omega), if_pos rfl, Sb.root, ← hkd]) trivial [0] rfl (by decide))
end Go.Proofs.YtfldiegfenndjaaGreatDoor
namespace Go.Proofs.YtfldiegfenndjaaGreatDoor
open Go Go.Fw Go.Proofs.Tryz
set_option maxRecDepth 100000
set_option maxHeartbeats 1000000
theorem ent76 : qAC prog 76 := qAC.of func76 rfl (by kernel_rfl)
structure Tw where
 a : UInt8
 b : UInt8
 deriving DecidableEq
def Tw.cells (x : Tw) : List Value := [B8 (x.a), B8 (x.b)]
def qBt (l : List Sm.PR) (d i : Nat) : List (List UInt8) := (List.range i).map fun j => Sm.ndB l (kF j d) d
abbrev qAT (l : List Sm.PR) (d : Nat) : List (List UInt8) := qBt l d (2 ^ d)
theorem qFY (l : List Sm.PR) (d i : Nat) : qBt l d (i + 1) = qBt l d i ++ [Sm.ndB l (kF i d) d] := by unfold qBt; rw [List.range_succ, List.map_append]; rfl
theorem qCj (l : List Sm.PR) (d i : Nat) : (qBt l d i).length = i := by unfold qBt; rw [List.length_map, List.length_range]
theorem qEO (l : List Sm.PR) (d : Nat) {i j : Nat} (h : j < i) : (qBt l d i).getD j [] = Sm.ndB l (kF j d) d := by
 unfold qBt
 rw [List.getD_eq_getElem?_getD, List.getElem?_map, List.getElem?_range h]; rfl
theorem qBU (l : List Sm.PR) (d i : Nat) : ∀ s ∈ qBt l d i, s.length ≤ 1048576 := fun s hs => by
 unfold qBt at hs
 obtain ⟨j, _, rfl⟩ := List.mem_map.1 hs
 exact Nat.le_trans (qH8 _ _ _) (by decide)
theorem qFl {d : Nat} (hd : d ≤ 4) : cnt ((d : Nat) : Int) = 2 ^ d := by
 unfold cnt
 rw [if_neg (by omega)]; rfl
theorem qTm {d : Nat} (hd : d ≤ 4) : 0 < 2 ^ d ∧ 2 ^ d ≤ 16 := ⟨Nat.two_pow_pos _, Nat.le_trans (Nat.pow_le_pow_right (by decide) hd) (by decide)⟩
theorem qNQ {l : List Sm.PR} (hf : qE1 l) {e : Nat} (he : e ≤ 15) : Sb.lvl (qAT l (e + 1)) = qAT l e := by
 have e2 : 2 ^ (e + 1) / 2 = 2 ^ e := by rw [Nat.pow_succ, Nat.mul_div_cancel _ (by decide)]
 have h2 : 2 ^ (e + 1) = 2 ^ e * 2 := Nat.pow_succ 2 e
 unfold Sb.lvl
 rw [qCj, e2]
 show _ = (List.range (2 ^ e)).map _
 refine List.map_congr_left fun j hj => ?_
 have hj2 := List.mem_range.1 hj
 rw [qEO _ _ (by omega), qEO _ _ (by omega)]
 exact qLT hf (qEB j e) he (qNb (by omega) hj2).symm
theorem qGP {l : List Sm.PR} (hf : qE1 l) {d : Nat} (hd : d ≤ 16) : ∀ j, j ≤ d → Sb.lvls (qAT l d) j = qAT l (d - j)
 | 0, _ => rfl
 | j + 1, hj => by
  rw [Sb.lvls_succ, qGP hf hd j (by omega), show d - j = (d - (j + 1)) + 1 by omega, qNQ hf (by omega)]
theorem qLS {l : List Sm.PR} (hf : qE1 l) {d : Nat} (hd : d ≤ 16) : Sb.root (qAT l d) d = Sm.nd 128 l := by
 have e : Sb.root (qAT l d) d = (Sb.lvls (qAT l d) d).getD 0 [] := by unfold Sb.root; rfl
 rw [e, qGP hf hd d (Nat.le_refl _), Nat.sub_self, qEO _ _ (by decide), Sm.ndB_zero]
theorem qPd {l : List Sm.PR} (hf : qE1 l) {d : Nat} (hd : d ≤ 4) : qIS (qAT l d) ((d : Nat) : Int) = 0 ∧ qFo (qAT l d) ((d : Nat) : Int) = Sm.nd 128 l := by
 have h1 : qIS (qAT l d) ((d : Nat) : Int) = 0 := by
  unfold qIS
  rw [qFl hd, if_neg (by have := qTm hd; omega), qCj, if_neg (fun h => h rfl)]
 refine ⟨h1, ?_⟩
 unfold qFo
 rw [if_pos h1]
 exact qLS hf (by omega)
theorem qOB (F : Hp) (hK : KF F) (g : Nat) (l : List Sm.PR) (hT : qEX F g l) (hf : qE1 l) (d : Nat) (hd : d ≤ 4) : Ct prog 37 [Ptr g, I ((d : Nat) : Int)] [F] (fun x : Option Addr × Nat × Hp => .tuple #[.slice x.1 (qAT l d).length x.2.1, I ((0 : Nat) : Int)]) (fun x => Row x.2.2 9 1 x.1 (qAT l d).length x.2.1 (qAL (qAT l d))) (fun x => [F, x.2.2]) := by
 have hpw := qTm hd
 have hcn := qFl hd
 refine Ct.walk func37 rfl ntmps37 rfl (fun w0 hw0 => ?_)
 refine J.g fun K1 hK1 => J.p 2 rfl <| J.c hK1 <| J.M 0 1 ?_
 refine J.g fun K2 hK2 => J.b rfl <| J.u (qAB rfl rfl ent38 (Ct.use0 (fun F' hF => qEG F' ((d : Nat) : Int)))) rfl fun g10 _ => J.b rfl <| J.c hK2 <| J.V 0 1 6 ?_
 refine J.k fun K3 hK3 => J.k fun K4 hK4 => ?_
 rw [hcn]
 refine J.E <| J.b rfl <| J.f ((qAd rfl rfl rfl).no (by omega)) rfl <| J.c hK4 <| J.W 0 1 6 12 ?_
 refine J.b6 ?_
 refine J.a1 hK3 <| J.V 0 1 6 ?_
 refine J.g fun K5 hK5 => J.b rfl <| J.c hK5 <| J.W 0 1 6 7 ?_
 refine J.k fun K6 hK6 => J.g fun K7 hK7 => J.p 2 rfl <| J.c hK7 <| J.a3 0 1 7 13 14 ?_
 refine J.T <| J.b2 (X := Nat × Option Addr × Nat × Hp) (fun ζ => [(0, Ptr g), (1, I ((d : Nat) : Int)), (7, .slice ζ.2.1 ((qBt l d ζ.1).length) ζ.2.2.1), (13, I ((2 ^ d : Nat) : Int)), (14, I ((ζ.1 : Nat) : Int))]) (fun ζ => [F, ζ.2.2.2]) (fun ζ => ζ.1 ≤ 2 ^ d ∧ Row ζ.2.2.2 9 1 ζ.2.1 (qBt l d ζ.1).length ζ.2.2.1 (qAL (qBt l d ζ.1))) (fun ζ => 2 ^ d - ζ.1) (0, none, 0, (fun _ => none)) (⟨Nat.zero_le _, qB5.nil⟩) ⟨rfl, rfl, rfl, rfl, rfl, trivial⟩ (fun _ h => h.empty.pick [0, 1] (by decide)) ?_
 rintro ⟨i, A, c, m⟩ ⟨hi, hr⟩ I0 hI0
 dsimp only at hi hr ⊢
 have hnl := qCj l d i
 refine J.g fun K8 hK8 => J.f (qAS rfl rfl rfl) rfl <| J.c hK8 <| J.a9 0 1 7 13 14 15 ?_
 refine J.k fun K9 hK9 => J.a0 rfl (fun h15 => ?_) (fun h15 => ?_)
 ·
  have hi2 : i < 2 ^ d := by omega
  have hkf := qEB i d
  have hmd : min (((d : Nat) : Int)).toNat 128 = d := by rw [Int.toNat_natCast]; omega
  refine J.a1 hK9 <| J.a3 0 1 7 13 14 ?_
  refine J.k fun K10 hK10 => J.T <| J.g fun K11 hK11 => J.p 2 rfl <| J.c hK11 <| J.a9 0 1 7 8 13 14 ?_
  refine J.E <| J.p 4 rfl <| J.u (qAB rfl rfl ent76 (Ct.use0 (fun F' hF => qNo F' i d (by omega) (by assumption)))) rfl fun g21 _ => J.b rfl <| J.u (qAB rfl rfl ent75 (Ct.use0 (fun F' hF => qJd F' (hK.mo hF) g l (hT.mono (hF F (by simp))) (by assumption) (kF i d) (by first | omega | decide) ((d : Nat) : Int) (by first | assumption | exact qMA (by assumption) | exact qQn (by assumption) (by assumption))))) rfl fun g23 _ => J.u (qAH (l := [.tmp 23]) (xs := [[Str (Sm.ndB l (kF i d) (min ((d : Nat) : Int).toNat 128))]]) rfl rfl rfl rfl qAn el9 rfl (by decide) (by decide) (by simp)) rfl fun g24 _ => ?_
  change J _ _ _ [F, m, blk g24 [Str (Sm.ndB l (kF i d) (min ((d : Nat) : Int).toNat 128))] 9] _
  refine J.u (qAb (i := 1) (xs := qAL (qBt l d i)) (m2 := blk g24 [Str (Sm.ndB l (kF i d) (min ((d : Nat) : Int).toNat 128))] 9) (ys := [[Str (Sm.ndB l (kF i d) (min ((d : Nat) : Int).toNat 128))]]) rfl rfl rfl qAn qAn el9 rfl hr (by simp) ((qA8 (q := True) (qAL [Sm.ndB l (kF i d) (min ((d : Nat) : Int).toNat 128)]) rfl (by simp [qAL]) rfl).sl) rfl (by omega) (by omega)) rfl ?_
  rintro ⟨A25, c25, m25⟩ h25
  try dsimp only at h25
  change J _ ((25, .slice A25 (((qBt l d i).length) + 1) c25) :: _) _ [_, m25, _] _
  rw [← qDM] at h25
  refine J.b rfl <| J.a2 <| J.a4 <| J.q (J.H hK10 ?_)
  refine J.a3 0 1 7 13 14 ?_
  exact J.E <| J.f ((qAO rfl rfl rfl (by omega)).nat (i + 1) (by omega)) rfl <| J.b rfl <| J.a2 <| J.q <| J.a6 (i + 1, A25, c25, m25) (fun η (hη : _ ∧ 2 ^ d - η.1 < 2 ^ d - i) => hI0 η hη.1 hη.2) ⟨⟨by dsimp only; omega, by dsimp only; rw [qFY, List.length_append]; rw [hmd] at h25; exact h25⟩, by first | omega | (dsimp only; omega)⟩ ⟨rfl, rfl, by dsimp only; rw [qFY, List.length_append]; rfl, rfl, rfl, trivial⟩ (fun _ h => h.pick [0, 1] (by decide))
 refine J.b0 <| J.Z <| J.Z <| J.b1 ?_
 refine J.q (J.H hK6 ?_)
 refine J.A 7 ?_
 refine J.g fun K12 hK12 => J.p 3 rfl <| J.c hK12 <| J.M 4 5 ?_
 refine J.D ?_
 obtain rfl : i = 2 ^ d := by omega
 exact J.c2 hw0 (fun _ _ h => h) (qDb rfl rfl rfl) (qBD (A, c, m) rfl hr [0, 1] rfl (by decide))
theorem qRN (x m j : Nat) : (x ^^^ 2 ^ m) / 2 ^ j % 2 = if j = m then 1 - x / 2 ^ j % 2 else x / 2 ^ j % 2 := by
  have h1 := Nat.testBit_eq_decide_div_mod_eq (x := x ^^^ 2 ^ m) (i := j)
  have h2 := Nat.testBit_eq_decide_div_mod_eq (x := x) (i := j)
  rw [Nat.testBit_xor, Nat.testBit_two_pow, h2] at h1
  have a1 : (x ^^^ 2 ^ m) / 2 ^ j % 2 < 2 := Nat.mod_lt _ (by decide)
  have a2 : x / 2 ^ j % 2 < 2 := Nat.mod_lt _ (by decide)
  by_cases h : j = m
  · rw [if_pos h]
    rw [decide_eq_true h.symm] at h1
    by_cases h3 : x / 2 ^ j % 2 = 1
    · rw [decide_eq_true h3] at h1
      have : ¬ (x ^^^ 2 ^ m) / 2 ^ j % 2 = 1 := by simpa using h1.symm
      omega
    · rw [decide_eq_false h3] at h1
      have : (x ^^^ 2 ^ m) / 2 ^ j % 2 = 1 := by simpa using h1.symm
      omega
  · rw [if_neg h]
    rw [show decide (m = j) = false from decide_eq_false (fun e => h e.symm), Bool.xor_false] at h1
    have := decide_eq_decide.1 h1
    omega
def qE8 (k : List UInt8) (d : Nat) : List UInt8 := k.set (d / 8) (k.getD (d / 8) 0 ^^^ UInt8.ofNat (1 * 2 ^ (7 - d % 8)))
theorem qB9 (k : List UInt8) (d : Nat) : (qE8 k d).length = k.length := by unfold qE8; rw [List.length_set]
theorem qJZ {k : List UInt8} (hk : k.length = 16) {d i : Nat} (hd : d < 128) (hi : i < 128) : Sm.bit (qE8 k d) i = if i = d then 1 - Sm.bit k i else Sm.bit k i := by
  have hlt : i < 8 * k.length := by omega
  unfold Sm.bit
  rw [qB9, if_pos hlt, if_pos hlt]
  unfold qE8
  have h1 : (1 * 2 ^ (7 - d % 8)) % 256 = 2 ^ (7 - d % 8) := by
    rw [Nat.one_mul]
    exact Nat.mod_eq_of_lt (Nat.lt_of_le_of_lt (Nat.pow_le_pow_right (by decide) (show 7 - d % 8 ≤ 7 by omega)) (by decide))
  by_cases hq : i / 8 = d / 8
  · rw [hq]
    have hg : (k.set (d / 8) (k.getD (d / 8) 0 ^^^ UInt8.ofNat (1 * 2 ^ (7 - d % 8)))).getD (d / 8) 0 = k.getD (d / 8) 0 ^^^ UInt8.ofNat (1 * 2 ^ (7 - d % 8)) := by
      rw [List.getD_eq_getElem?_getD, List.getElem?_set_self (by omega)]; rfl
    rw [hg, UInt8.toNat_xor, show (UInt8.ofNat (1 * 2 ^ (7 - d % 8))).toNat = 2 ^ (7 - d % 8) by rw [UInt8.toNat_ofNat']; exact h1, qRN]
    by_cases hid : i = d
    · rw [if_pos (by rw [hid]), if_pos hid]
    · rw [if_neg (by omega), if_neg hid]
  · rw [List.getD_eq_getElem?_getD, List.getElem?_set_ne (fun e => hq e.symm), ← List.getD_eq_getElem?_getD, if_neg (fun e => hq (by rw [e]))]
theorem qMN {k : List UInt8} (hk : k.length = 16) {d : Nat} (hd : d < 128) : Sm.kv (qE8 k d) / 2 ^ (127 - d) = 2 * (Sm.kv k / 2 ^ (128 - d)) + (1 - Sm.bit k d) := by
 have h1 : Sm.belowB (qE8 k d) k d = true := Sm.belowB_yes fun i hi => by rw [qJZ hk hd (by omega), if_neg (by omega)]
 have h2 := (Sm.belowB_kv ((qB9 k d).trans hk) hk (by omega)).1 h1
 have e := Sm.pre_succ (Sm.kv (qE8 k d)) (127 - d)
 rw [show 127 - d + 1 = 128 - d by omega, h2, ← Sm.bit_kv ((qB9 k d).trans hk) hd, qJZ hk hd hd, if_pos rfl] at e
 exact e
theorem qMe {k : List UInt8} (hk : k.length = 16) {d : Nat} (hd : d < 128) : Sm.kv k / 2 ^ (127 - d) = 2 * (Sm.kv k / 2 ^ (128 - d)) + Sm.bit k d := by
 have e := Sm.pre_succ (Sm.kv k) (127 - d)
 rw [show 127 - d + 1 = 128 - d by omega, ← Sm.bit_kv hk hd] at e
 exact e
def up (k : List UInt8) (d : Nat) (x s : List UInt8) : List UInt8 := if Sm.bit k d = 0 then Sb.join x s else Sb.join s x
theorem qRW {kv : List Sm.PR} (hf : qE1 kv) {k : List UInt8} (hk : k.length = 16) {d : Nat} (hd : d < 128) : up k d (Sm.ndB kv k (d + 1)) (Sm.ndB kv (qE8 k d) (d + 1)) = Sm.ndB kv k d := by
  have hb := Sm.bit_le k d
  have ht := qMN hk hd
  have hs := qMe hk hd
  unfold up
  split
  · rename_i h
    rw [h] at ht hs
    exact Sm.ndB_join hf.once hf.k16 hk hk ((qB9 k d).trans hk) hd hs ht
  · rename_i h
    rw [show Sm.bit k d = 1 by omega] at ht hs
    exact Sm.ndB_join hf.once hf.k16 hk ((qB9 k d).trans hk) hk hd ht hs
def bsd (kv : List Sm.PR) (k : List UInt8) (d n : Nat) : List (List UInt8) := (List.range n).map fun i => Sm.ndB kv (qE8 k (d + i)) (d + i + 1)
theorem qQP (kv : List Sm.PR) (k : List UInt8) (d n : Nat) : bsd kv k d (n + 1) = bsd kv k d n ++ [Sm.ndB kv (qE8 k (d + n)) (d + n + 1)] := by unfold bsd; rw [List.range_succ, List.map_append]; rfl
theorem qCy (kv : List Sm.PR) (k : List UInt8) (d n : Nat) : (bsd kv k d n).length = n := by unfold bsd; rw [List.length_map, List.length_range]
theorem qJI (kv : List Sm.PR) (k : List UInt8) (d : Nat) {n i : Nat} (hi : i < n) : (bsd kv k d n).getD i [] = Sm.ndB kv (qE8 k (d + i)) (d + i + 1) := by
 unfold bsd
 rw [List.getD_eq_getElem?_getD, List.getElem?_map, List.getElem?_range hi]; rfl
def clm (k : List UInt8) (d : Nat) (bs : List (List UInt8)) (x : List UInt8) : Nat → List UInt8
 | 0 => x
 | i + 1 => up k (d + (bs.length - 1 - i)) (clm k d bs x i) (bs.getD (bs.length - 1 - i) [])
theorem qKQ {kv : List Sm.PR} (hf : qE1 kv) {k : List UInt8} (hk : k.length = 16) {d n : Nat} (hd : d + n ≤ 128) : ∀ i, i ≤ n → clm k d (bsd kv k d n) (Sm.ndB kv k (d + n)) i = Sm.ndB kv k (d + n - i)
 | 0, _ => rfl
 | i + 1, hi => by
  rw [clm, qKQ hf hk hd i (by omega), qCy, qJI _ _ _ (by omega)]
  have h := qRW hf hk (d := d + (n - 1 - i)) (by omega)
  rw [show d + (n - 1 - i) + 1 = d + n - i by omega] at h ⊢
  rw [h, show d + (n - 1 - i) = d + n - (i + 1) by omega]
theorem qKG {a b : List UInt8} (ha : a.length ≤ 17) (hb : b.length ≤ 17) : (Sb.join a b).length ≤ 17 := by
  have e : Sb.join a b = if a = [0] ∧ (b = [0] ∨ Sb.isLf b) then b else if b = [0] ∧ Sb.isLf a then a else 2 :: Sha.tagged 10 [a, b] := by unfold Sb.join; rfl
  rw [e]
  split
  · exact hb
  · split
    · exact ha
    · rw [List.length_cons, Sha.tagged_length]; decide
theorem qIQ {k : List UInt8} {d : Nat} {bs : List (List UInt8)} {x : List UInt8} (hb : ∀ s ∈ bs, s.length ≤ 17) (hx : x.length ≤ 17) : ∀ i, (clm k d bs x i).length ≤ 17
 | 0 => hx
 | i + 1 => by
  have h1 := qIQ (k := k) (d := d) hb hx i
  have h2 : (bs.getD (bs.length - 1 - i) []).length ≤ 17 := by
   by_cases h : bs.length - 1 - i < bs.length
   · rw [List.getD_eq_getElem?_getD, List.getElem?_eq_getElem h]; exact hb _ (List.getElem_mem h)
   · rw [List.getD_eq_getElem?_getD, List.getElem?_eq_none (by omega)]; exact Nat.zero_le _
  rw [clm, up]
  split
  · exact qKG h1 h2
  · exact qKG h2 h1
def cur (kv : List Sm.PR) (k : List UInt8) (d : Nat) : List Sm.PR := Sm.bel kv k d
def kd (kv : List Sm.PR) (k : List UInt8) (d : Nat) : List (List UInt8) := (Sm.keysS kv).filter fun q => Sm.belowB q k d
theorem qIB {kv : List Sm.PR} (ho : Sm.Once kv) (k : List UInt8) (d : Nat) : (kd kv k d).length = (cur kv k d).length := by
 have h : (Sm.prs kv (kd kv k d)).length = (kd kv k d).length := Sm.prs_len _ _
 rw [← h]
 unfold kd
 rw [Sm.prs_filter]
 exact ((Sm.prs_perm ho).filter _).length_eq
theorem qLo {q k : List UInt8} {d : Nat} (h : Sm.belowB q k (d + 1) = true) : Sm.belowB q k d = true := by
 rw [Sm.belowB_succ, Bool.and_eq_true] at h; exact h.1
theorem qSl (kv : List Sm.PR) (k : List UInt8) (d : Nat) : (kd kv k d).filter (fun q => Sm.belowB q k (d + 1)) = kd kv k (d + 1) := by
 unfold kd
 rw [List.filter_filter]
 refine List.filter_congr fun q _ => ?_
 cases h : Sm.belowB q k (d + 1) with
 | false => rfl
 | true => rw [qLo h]; rfl
structure qLz (kv : List Sm.PR) (k : List UInt8) (d s : Nat) : Prop where
 ge : d ≤ s
 le : s ≤ 128
 one : (cur kv k s).length ≤ 1
 two : ∀ e, d ≤ e → e < s → 2 ≤ (cur kv k e).length
theorem qLz.from {kv : List Sm.PR} {k : List UInt8} {d e s : Nat} (h : qLz kv k d s) (h1 : d ≤ e) (h2 : e ≤ s) : qLz kv k e s := ⟨h2, h.le, h.one, fun x q1 q2 => h.two x (by omega) q2⟩
theorem qSz {kv : List Sm.PR} (hf : qE1 kv) {k : List UInt8} (hk : k.length = 16) : (cur kv k 128).length ≤ 1 := (Sm.bel_wf hf.once hf.k16 hk (d := 128) (Nat.le_refl _)).short
def qAv (kv : List Sm.PR) (k : List UInt8) (s : Nat) : Bool := decide ((kd kv k s).length = 1)
def qCT (kv : List Sm.PR) (k : List UInt8) (s : Nat) : List UInt8 := if (kd kv k s).length = 1 then (kd kv k s).getD 0 [] else []
def qCd (kv : List Sm.PR) (k : List UInt8) (s : Nat) : List UInt8 := if (kd kv k s).length = 1 then (Sm.getP kv ((kd kv k s).getD 0 [])).getD [] else []
theorem qN0 {kv : List Sm.PR} (ho : Sm.Once kv) {k : List UInt8} {s : Nat} (h : (kd kv k s).length = 1) : cur kv k s = [(qCT kv k s, qCd kv k s)] := by
 obtain ⟨q, hq⟩ := List.length_eq_one_iff.1 h
 have h1 : (cur kv k s).Perm (Sm.prs kv (kd kv k s)) := by
  unfold kd
  rw [Sm.prs_filter]
  exact (Sm.prs_perm ho).symm.filter _
 unfold qCT qCd
 rw [if_pos h, if_pos h, hq]
 rw [hq] at h1
 exact List.perm_singleton.1 h1
theorem qHG : ∀ {f : Nat} {l : List Sm.PR}, Sm.WF f l → Sm.nd f l = [0] ∨ ((Sm.nd f l).length = 17 ∧ (((Sm.nd f l).getD 0 0).toNat = 1 ∨ ((Sm.nd f l).getD 0 0).toNat = 2))
  | f, [], _ => .inl (Sm.nd_nil f)
  | f, [p], _ => .inr (by rw [Sm.nd_one]; unfold Sb.leafN; exact ⟨by rw [List.length_cons, Sha.tagged_length], .inl rfl⟩)
  | 0, a :: b :: r, hw => by have := hw.short; simp at this
  | f + 1, a :: b :: r, hw => by
    rw [Sm.nd_two f (by simp)]
    have e : ∀ x y, Sb.join x y = if x = [0] ∧ (y = [0] ∨ Sb.isLf y) then y else if y = [0] ∧ Sb.isLf x then x else 2 :: Sha.tagged 10 [x, y] := fun x y => by unfold Sb.join; rfl
    rw [e]
    split
    · exact qHG (hw.side false)
    · split
      · exact qHG (hw.side true)
      · exact .inr ⟨by rw [List.length_cons, Sha.tagged_length], .inr rfl⟩
theorem qI5 : ∀ {f : Nat} {l : List Sm.PR}, Sm.WF f l → 2 ≤ l.length → ((Sm.nd f l).getD 0 0).toNat = 2
  | 0, l, hw, h => by have := hw.short; omega
  | f + 1, l, hw, h => by
    rw [Sm.nd_two f h]
    have e : ∀ x y, Sb.join x y = if x = [0] ∧ (y = [0] ∨ Sb.isLf y) then y else if y = [0] ∧ Sb.isLf x then x else 2 :: Sha.tagged 10 [x, y] := fun x y => by unfold Sb.join; rfl
    have hs := Sm.side_len f l
    have z1 := Sm.nd_eq0 (hw.side true)
    have z2 := Sm.nd_eq0 (hw.side false)
    rw [e]
    split
    · rename_i hc
      have h0 : (Sm.side f true l).length = 0 := by rw [z1.1 hc.1]; rfl
      have h2 := qI5 (hw.side false) (by omega)
      exact h2
    · split
      · rename_i hc
        have h0 : (Sm.side f false l).length = 0 := by rw [z2.1 hc.1]; rfl
        exact qI5 (hw.side true) (by omega)
      · rfl
def qNR (s : List UInt8) : Bool := decide (s = [0] ∨ (s.length = 17 ∧ ((s.getD 0 0).toNat = 1 ∨ (s.getD 0 0).toNat = 2)))
structure qOR (bs : List (List UInt8)) (th : Bool) (pk pv k : List UInt8) (d : Nat) : Prop where
 k16 : k.length = 16
 le : d + bs.length ≤ 128
 nodes : ∀ j, j < bs.length → qNR (bs.getD j []) = true
 last : 0 < bs.length → bs.getD (bs.length - 1) [] ≠ [0] ∧ (th = false → ((bs.getD (bs.length - 1) []).getD 0 0).toNat = 2)
 no : th = false → pk = [] ∧ pv = []
 yes : th = true → pk.length = 16 ∧ Sm.belowB pk k (d + bs.length) = true
 small : ∀ s ∈ bs, s.length ≤ 17
theorem qOA (kv : List Sm.PR) (k : List UInt8) (d n : Nat) : ∀ s ∈ bsd kv k d n, s.length ≤ 17 := fun s hs => by
 unfold bsd at hs
 obtain ⟨i, _, rfl⟩ := List.mem_map.1 hs
 exact qH8 _ _ _
theorem qQ7 {kv : List Sm.PR} {k q : List UInt8} {s : Nat} (h : q ∈ kd kv k s) : (∃ v, (q, v) ∈ kv) ∧ Sm.belowB q k s = true := by
 obtain ⟨h1, h2⟩ := List.mem_filter.1 h
 exact ⟨Sm.keysS_mem.1 h1, h2⟩
theorem qNB {kv : List Sm.PR} (hf : qE1 kv) {k : List UInt8} (hk : k.length = 16) {e : Nat} (he : e < 128) : (cur kv k (e + 1)).length + (Sm.bel kv (qE8 k e) (e + 1)).length = (cur kv k e).length := by
  have hb := Sm.bit_le k e
  have ht := qMN hk he
  have hs := qMe hk he
  have h := Sm.side_len (127 - e) (Sm.bel kv k e)
  have hl := hf.k16
  unfold cur
  by_cases h0 : Sm.bit k e = 0
  · rw [h0] at ht hs
    rw [Sm.bel_half hl hk hk he true (by rw [if_pos rfl]; exact hs), Sm.bel_half hl hk ((qB9 k e).trans hk) he false (by rw [if_neg (by decide)]; exact ht)]
    exact h
  · rw [show Sm.bit k e = 1 by omega] at ht hs
    rw [Sm.bel_half hl hk hk he false (by rw [if_neg (by decide)]; exact hs), Sm.bel_half hl hk ((qB9 k e).trans hk) he true (by rw [if_pos rfl]; exact ht)]
    omega
theorem qK8 {kv : List Sm.PR} (hf : qE1 kv) {k : List UInt8} (hk : k.length = 16) {d s : Nat} (h : qLz kv k d s) : qOR (bsd kv k d (s - d)) (qAv kv k s) (qCT kv k s) (qCd kv k s) k d := by
  have hle := h.le
  have hge := h.ge
  have ht16 : ∀ e, (qE8 k e).length = 16 := fun e => (qB9 k e).trans hk
  refine ⟨hk, by rw [qCy]; omega, fun j hj => ?_, fun h0 => ?_, fun ht => ?_, fun ht => ?_, qOA _ _ _ _⟩
  · rw [qCy] at hj
    rw [qJI _ _ _ hj]
    exact decide_eq_true (qHG (Sm.bel_wf hf.once hf.k16 (ht16 _) (by omega)))
  · rw [qCy] at h0 ⊢
    rw [qJI _ _ _ (by omega)]
    have h2 := h.two (d + (s - d - 1)) (by omega) (by omega)
    have ho := qNB hf hk (e := d + (s - d - 1)) (by omega)
    have hone := h.one
    rw [show d + (s - d - 1) + 1 = s by omega] at ho ⊢
    have hw := Sm.bel_wf hf.once hf.k16 (ht16 (d + (s - d - 1))) (d := s) hle
    refine ⟨fun e => ?_, fun hth => ?_⟩
    · have := (Sm.nd_eq0 hw).1 e
      rw [this] at ho
      simp at ho
      omega
    · have h3 : (kd kv k s).length ≠ 1 := of_decide_eq_false hth
      rw [qIB hf.once] at h3
      exact qI5 hw (by omega)
  · have h3 : (kd kv k s).length ≠ 1 := of_decide_eq_false ht
    unfold qCT qCd
    rw [if_neg h3, if_neg h3]; exact ⟨rfl, rfl⟩
  · have h3 : (kd kv k s).length = 1 := of_decide_eq_true ht
    obtain ⟨q, hq⟩ := List.length_eq_one_iff.1 h3
    have hm : q ∈ kd kv k s := by rw [hq]; exact .head _
    obtain ⟨⟨v, hv⟩, hb⟩ := qQ7 hm
    unfold qCT
    rw [if_pos h3, hq, qCy, show d + (s - d) = s by omega]
    exact ⟨hf.k16 _ hv, hb⟩
theorem qQH {kv : List Sm.PR} (hf : qE1 kv) {k : List UInt8} {d s : Nat} (h : qLz kv k d s) : (if qAv kv k s = true then Sb.leafN (qCT kv k s) (qCd kv k s) else [0]) = Sm.ndB kv k s := by
  unfold Sm.ndB
  have e1 : Sm.bel kv k s = cur kv k s := rfl
  have hone := h.one
  by_cases h3 : (kd kv k s).length = 1
  · rw [if_pos (show qAv kv k s = true from decide_eq_true h3), e1, qN0 hf.once h3, Sm.nd_one]
  · rw [if_neg (by unfold qAv; rw [decide_eq_false h3]; decide)]
    rw [qIB hf.once] at h3
    rw [e1, List.eq_nil_of_length_eq_zero (show (cur kv k s).length = 0 by omega), Sm.nd_nil]
theorem tells {kv : List Sm.PR} (hf : qE1 kv) {k : List UInt8} {d s : Nat} (h : qLz kv k d s) :
    (Sm.getP kv k).isSome = (qAv kv k s && decide (qCT kv k s = k)) ∧ (qAv kv k s = true → qCT kv k s = k → Sm.getP kv k = some (qCd kv k s)) := by
  have hself : Sm.belowB k k s = true := Sm.belowB_yes fun _ _ => rfl
  have hone := h.one
  have hmem : ∀ v, Sm.getP kv k = some v → (k, v) ∈ cur kv k s := fun v hv => List.mem_filter.2 ⟨Sm.getP_some hv, hself⟩
  by_cases h3 : (kd kv k s).length = 1
  · have hc := qN0 hf.once h3
    have ht : qAv kv k s = true := decide_eq_true h3
    have hin : (qCT kv k s, qCd kv k s) ∈ kv := (List.mem_filter.1 (show (qCT kv k s, qCd kv k s) ∈ cur kv k s by rw [hc]; exact .head _)).1
    rw [ht, Bool.true_and]
    by_cases hk : qCT kv k s = k
    · have hg := Sm.getP_mem hf.once hin
      rw [show (qCT kv k s, qCd kv k s).1 = k from hk] at hg
      rw [hg, decide_eq_true hk]
      exact ⟨rfl, fun _ _ => rfl⟩
    · rw [decide_eq_false hk]
      refine ⟨?_, fun _ q => absurd q hk⟩
      cases hg : Sm.getP kv k with
      | none => rfl
      | some v =>
        have := hmem v hg
        rw [hc, List.mem_singleton] at this
        injection this with e _
        exact absurd e.symm hk
  · have ht : qAv kv k s = false := decide_eq_false h3
    rw [ht, Bool.false_and]
    refine ⟨?_, fun q => by cases q⟩
    rw [qIB hf.once] at h3
    have h0 : cur kv k s = [] := List.eq_nil_of_length_eq_zero (by omega)
    cases hg : Sm.getP kv k with
    | none => rfl
    | some v =>
      have := hmem v hg
      rw [h0] at this; cases this
theorem qJ6 {s : List UInt8} (h : s = [0]) : qNR s = true := decide_eq_true (.inl h)
theorem qEe {s : List UInt8} (h1 : s.length = 17) (h2 : (s.getD 0 0).toNat = 1 ∨ (s.getD 0 0).toNat = 2) : qNR s = true := decide_eq_true (.inr ⟨h1, h2⟩)
theorem qDD {s : List UInt8} (h0 : ¬ s = [0]) (h : ¬ (s.length = 17 ∧ ((s.getD 0 0).toNat = 1 ∨ (s.getD 0 0).toNat = 2))) : qNR s = false := decide_eq_false (fun q => q.elim h0 h)
theorem qPz {s : List UInt8} (h : (s.getD 0 0).toNat = 2) : 0 < s.length := by
 cases s with
 | nil => cases h
 | cons a r => exact Nat.zero_lt_succ _
end Go.Proofs.YtfldiegfenndjaaGreatDoor
