/- A part of the proof. -/
import Derived.Test.YtfldiegfenndjaaGreatDoorTopAkG14
import Derived.Test.YtfldiegfenndjaaGreatDoorTopAkG15
import Derived.Test.YtfldiegfenndjaaGreatDoorTopAkG7
import Derived.Test.YtfldiegfenndjaaGreatDoorTopAkG5
import Derived.Test.YtfldiegfenndjaaGreatDoorTopAkG10
set_option linter.unusedSimpArgs false
set_option linter.unusedVariables false
namespace Go.Proofs.YtfldiegfenndjaaGreatDoor
open Go Go.Fw Go.Proofs.Tryz
set_option maxRecDepth 100000
set_option maxHeartbeats 1000000
theorem qQV {i : Nat} (hi : i ≤ 16) : 2 ^ i ≤ 65536 := Nat.le_trans (Nat.pow_le_pow_right (by decide) hi) (by decide)
theorem qLA {k : List UInt8} (hk : k.length = 16) {i : Nat} (hi : i < 16) : (Sm.kv k / 2 ^ (128 - i)) * 2 ^ 1 ||| Sm.bit k i = Sm.kv k / 2 ^ (128 - (i + 1)) := by
 have hb := Sm.bit_le k i
 have e := Nat.two_pow_add_eq_or_of_lt (i := 1) (b := Sm.bit k i) (by omega) (Sm.kv k / 2 ^ (128 - i))
 have e1 := Sm.pre_succ (Sm.kv k) (127 - i)
 rw [show 127 - i + 1 = 128 - i by omega] at e1
 rw [Nat.mul_comm, ← e, Sm.bit_kv hk (by omega), show 128 - (i + 1) = 127 - i by omega]
 omega
def qDC (k : List UInt8) : Nat → Nat
 | 0 => 0
 | i + 1 => qDC k i * 2 ^ 1 ||| Sm.bit k i
theorem qHI (k : List UInt8) : ∀ i, qDC k i < 2 ^ i
 | 0 => Nat.one_pos
 | i + 1 => by
  have h1 := qHI k i
  have h2 := Sm.bit_le k i
  have h3 : 2 ^ (i + 1) = 2 ^ i * 2 := Nat.pow_succ 2 i
  have e := Nat.two_pow_add_eq_or_of_lt (i := 1) (b := Sm.bit k i) (by omega) (qDC k i)
  rw [qDC, Nat.mul_comm, ← e]
  omega
theorem qKH {k : List UInt8} (hk : k.length = 16) : ∀ {i : Nat}, i ≤ 16 → qDC k i = Sm.kv k / 2 ^ (128 - i)
 | 0, _ => by rw [Nat.div_eq_of_lt (Nat.lt_of_lt_of_eq (Sm.kv_lt k) (by rw [hk]))]; rfl
 | i + 1, hi => by rw [qDC, qKH hk (by omega), qLA hk (by omega)]
def kF (n d : Nat) : List UInt8 := [UInt8.ofNat (n * 2 ^ (16 - d) / 2 ^ 8), UInt8.ofNat (n * 2 ^ (16 - d)), 0, 0, 0, 0, 0, 0, 0, 0, 0, 0, 0, 0, 0, 0]
theorem qEf (n d : Nat) : (kF n d).length = 16 := rfl
theorem qPD {n d : Nat} (hd : d ≤ 16) (hn : n < 2 ^ d) : n * 2 ^ (16 - d) < 65536 := by
 have h := Nat.mul_lt_mul_of_pos_right hn (Nat.two_pow_pos (16 - d))
 rw [← Nat.pow_add, show d + (16 - d) = 16 by omega] at h
 exact h
theorem kF_kv {n d : Nat} (hd : d ≤ 16) (hn : n < 2 ^ d) : Sm.kv (kF n d) = n * 2 ^ (128 - d) := by
 have ht := qPD hd hn
 obtain ⟨t, hte⟩ : ∃ t, t = n * 2 ^ (16 - d) := ⟨_, rfl⟩
 have e : n * 2 ^ (128 - d) = t * 2 ^ 112 := by rw [hte, Nat.mul_assoc, ← Nat.pow_add, show 16 - d + 112 = 128 - d by omega]
 have h1 : (UInt8.ofNat (t / 2 ^ 8)).toNat = t / 2 ^ 8 := UInt8.toNat_ofNat_of_lt' (by show _ < 256; omega)
 have h2 : (UInt8.ofNat t).toNat = t % 256 := by simp
 rw [e]
 unfold kF
 rw [← hte]
 simp only [Sm.kv, List.length_cons, List.length_nil, h1, h2]
 show t / 2 ^ 8 * 256 ^ 15 + (t % 256 * 256 ^ 14 + 0) = _
 rw [show (256 : Nat) ^ 15 = 256 * 2 ^ 112 by decide, show (256 : Nat) ^ 14 = 2 ^ 112 by decide, ← Nat.mul_assoc, Nat.add_zero, ← Nat.add_mul]
 congr 1
 omega
theorem qSN {n d : Nat} (hd : d ≤ 16) (hn : n < 2 ^ d) : Sm.kv (kF n d) / 2 ^ (128 - d) = n := by rw [kF_kv hd hn, Nat.mul_div_cancel _ (Nat.two_pow_pos _)]
theorem qRI (F : Hp) (k : List UInt8) (hk : k.length ≤ 1000000) (d : Nat) (hd : d ≤ 16) : Ct prog 194 [Str (k), I ((d : Nat) : Int)] [F] (fun _ : Unit => I ((qDC k d : Nat) : Int)) (fun _ => True) (fun _ => [F]) := by
 refine Ct.walk func194 rfl ntmps194 rfl (fun w0 hw0 => ?_)
 change J _ [(0, _), (1, _)] _ _ _
 refine J.g fun K1 hK1 => J.b rfl <| J.c hK1 <| J.E 0 1 ?_
 refine J.k fun K2 hK2 => J.g fun K3 hK3 => J.b rfl <| J.f (qAW rfl rfl rfl) rfl <| J.b rfl <| J.c5 (d := 9) rfl (fun h9 => ?_) (fun h9 => ?_)
 ·
  refine J.j 3 rfl <| J.c hK3 <| J.H 0 1 12 ?_
  refine J.c6 ?_
  refine J.g fun K4 hK4 => J.b rfl <| J.c hK4 <| J.u 4 ?_
  exact J.D <| J.a3 <| J.V hw0 rfl () (by exfalso; omega) trivial [0] rfl (by decide)
 refine J.b rfl <| J.T (qAx rfl rfl rfl) rfl <| J.b rfl <| J.c hK3 <| J.H 0 1 12 ?_
 refine J.a5 rfl (fun h12 => ?_) (fun h12 => ?_)
 ·
  refine J.g fun K5 hK5 => J.b rfl <| J.c hK5 <| J.u 4 ?_
  exact J.D <| J.a3 <| J.V hw0 rfl () (by exfalso; omega) trivial [0] rfl (by decide)
 refine J.W hK2 <| J.E 0 1 ?_
 refine J.g fun K6 hK6 => J.b rfl <| J.c hK6 <| J.H 0 1 5 ?_
 refine J.k fun K7 hK7 => J.g fun K8 hK8 => J.j 2 rfl <| J.c hK8 <| J.M 0 5 13 14 ?_
 refine J.a1 <| J.c0 (X := Nat) (fun ζ => [(0, Str (k)), (5, I ((qDC k ζ : Nat) : Int)), (13, I ((d : Nat) : Int)), (14, I ((ζ : Nat) : Int))]) (fun ζ => [F]) (fun ζ => ζ ≤ d) (fun ζ => d - ζ) 0 (Nat.zero_le _) ⟨rfl, rfl, rfl, rfl, trivial⟩ (fun _ h => h) ?_
 rintro i hi I0 hI0
 have hlt := qHI k i
 have hp16 := qQV (i := i) (by omega)
 have hbl := Sm.bit_le k i
 refine J.g fun K9 hK9 => J.f (qAW rfl rfl rfl) rfl <| J.c hK9 <| J.a0 0 5 13 14 15 ?_
 refine J.k fun K10 hK10 => J.a5 rfl (fun h15 => ?_) (fun h15 => ?_)
 ·
  refine J.W hK10 <| J.M 0 5 13 14 ?_
  refine J.k fun K11 hK11 => J.a1 <| J.g fun K12 hK12 => J.j 2 rfl <| J.c hK12 <| J.a0 0 5 6 13 14 ?_
  refine J.G <| J.b rfl <| J.f (qGq (a := qDC k i) (m := 1) rfl rfl rfl (by omega)) rfl <| J.j 2 rfl <| J.p (qAB rfl rfl ent147 (Ct.use0 (fun F' hF => qEj F' k (by first | omega | exact hsm _) i (by omega)))) rfl fun g21 _ => J.f (qRt (a := (qDC k i) * 2 ^ 1) (b := Sm.bit k i) rfl rfl rfl (by omega)) rfl <| J.b rfl <| J.a7 <| J.a9 <| J.A (J.L hK11 ?_)
  refine J.M 0 5 13 14 ?_
  exact J.G <| J.f ((qAR rfl rfl rfl (by omega)).nat (i + 1) (by omega)) rfl <| J.b rfl <| J.a7 <| J.A <| J.b0 (i + 1) (fun η (hη : _ ∧ d - η < d - i) => hI0 η hη.1 hη.2) ⟨(by omega), by first | omega | (dsimp only; omega)⟩ ⟨rfl, rfl, rfl, rfl, trivial⟩ (fun _ h => h)
 refine J.b7 <| J.a6 <| J.a6 <| J.b8 ?_
 refine J.A (J.L hK7 ?_)
 refine J.u 5 ?_
 refine J.g fun K13 hK13 => J.j 2 rfl <| J.c hK13 <| J.u 4 ?_
 exact J.D <| J.V hw0 rfl () (by rw [show i = d by omega]) trivial [0] rfl (by decide)
theorem qH9 (F : Hp) (n d : Nat) (hd : d ≤ 16) (hn : n < 2 ^ d) : Ct prog 76 [I ((n : Nat) : Int), I ((d : Nat) : Int)] [F] (fun _ : Unit => Str (kF n d)) (fun _ => True) (fun _ => [F]) := by
 have hp16 := qQV hd
 have htl := qPD hd hn
 have hpe : 2 ^ (16 - d) ≤ 65536 := qQV (Nat.sub_le _ _)
 refine Ct.walk func76 rfl ntmps76 rfl (fun w0 hw0 => ?_)
 change J _ [(0, _), (1, _)] _ _ _
 refine J.g fun K1 hK1 => J.b rfl <| J.c hK1 <| J.E 0 1 ?_
 refine J.g fun K2 hK2 => J.p (qC6 (n' := 16) rfl rfl qBl el5 (by omega) (by omega)) rfl ?_
 rintro g7 _
 change J _ ((7, .slice (some ⟨g7, 0, none⟩) 16 16) :: _) _ [F, blk g7 (List.replicate 16 [.int .u8 0]).flatten 5] _
 refine J.b rfl <| J.c hK2 <| J.H 0 1 5 ?_
 refine J.k fun K3 hK3 => J.g fun K4 hK4 => J.b rfl <| J.f ((qBN rfl rfl rfl).yes (by omega)) rfl <| J.j 2 rfl <| J.T ((qGE rfl rfl rfl).yes (by omega)) rfl <| J.j 3 rfl <| J.T ((qBN rfl rfl rfl).yes (by omega)) rfl <| J.j 4 rfl <| J.T ((qGq (a := 1) (m := d) rfl rfl rfl ⟨by omega, by omega⟩)) rfl <| J.T ((qAW rfl rfl rfl).yes (by omega)) rfl <| J.b rfl <| J.c hK4 <| J.M 0 1 5 23 ?_
 refine J.c6 ?_
 refine J.g fun K5 hK5 => J.j 2 rfl <| J.f ((qAp rfl rfl rfl (by omega)).nat (16 - d) (by omega)) rfl <| J.f (qGq (a := n) (m := 16 - d) rfl rfl rfl (by first | omega | decide | (simp only [List.length_set, List.length_replicate] at *; omega))) rfl <| J.b rfl <| J.c hK5 <| J.E 5 6 ?_
 refine J.G <| J.j 3 rfl <| J.f (qQc (a := n * 2 ^ (16 - d)) (m := 8) rfl rfl rfl (by first | omega | decide | (simp only [List.length_set, List.length_replicate] at *; omega))) rfl <| J.f (qAq (m := (n * 2 ^ (16 - d)) / 2 ^ 8) rfl rfl u3_ u5_) rfl <| J.b rfl <| J.f (qAq (m := n * 2 ^ (16 - d)) rfl rfl u3_ u5_) rfl <| J.f (qA0 (i := 0) (j := 0 + 0 * 1) rfl rfl rfl qBl z5_ (by first | omega | decide | (simp only [List.length_set, List.length_replicate] at *; omega)) (by omega)) rfl <| J.b1 (qBX (i := 1) (k := 0) (off := 0) (b := [B8 (UInt8.ofNat ((n * 2 ^ (16 - d)) / 2 ^ 8))]) rfl rfl rfl rfl (qAv (q := True) (sz := 1) (xs := qAX (List.replicate 16 0)) rfl (by intro x hx; obtain ⟨_, _, rfl⟩ := List.mem_map.1 hx; rfl)) (vs := [B8 (UInt8.ofNat ((n * 2 ^ (16 - d)) / 2 ^ 8))]) rfl z5_ rfl (by omega) (qBQ (qAg 0 (by first | omega | decide | (simp only [List.length_set, List.length_replicate] at *; omega)))) rfl (Nat.le_refl _)) rfl rfl ?_
 rintro m4_1 hm4_1
 change J _ _ _ [_, m4_1] _
 rw [qET] at hm4_1
 refine J.f (qA0 (i := 1) (j := 0 + 1 * 1) rfl rfl rfl qBl z5_ (by first | omega | decide | (simp only [List.length_set, List.length_replicate] at *; omega)) (by omega)) rfl <| J.b1 (qBX (i := 1) (k := 1) (off := 0) (b := [B8 (UInt8.ofNat (n * 2 ^ (16 - d)))]) rfl rfl rfl rfl hm4_1 (vs := [B8 (UInt8.ofNat (n * 2 ^ (16 - d)))]) rfl z5_ rfl (by omega) (qBQ (qAg 0 (by first | omega | decide | (simp only [List.length_set, List.length_replicate] at *; omega)))) rfl (Nat.le_refl _)) rfl rfl ?_
 rintro m4_2 hm4_2
 change J _ _ _ [_, m4_2] _
 rw [qET] at hm4_2
 refine J.c hK3 <| J.u 5 ?_
 refine J.g fun K6 hK6 => J.b rfl <| J.f (qCE (l := ((List.replicate 16 0).set 0 (UInt8.ofNat ((n * 2 ^ (16 - d)) / 2 ^ 8))).set 1 (UInt8.ofNat (n * 2 ^ (16 - d)))) rfl rfl qBl u5_ u9_ (m := m4_2) (by simp) hm4_2.sl) rfl <| J.b rfl <| J.c hK6 <| J.u 4 ?_
 exact J.D <| J.V hw0 rfl () (by unfold kF; rfl) trivial [0] rfl (by decide)
theorem qD5 (l : List Sm.PR) (b : List UInt8) (d : Nat) : (Sm.ndB l b d).length ≤ 17 := Sm.nd_small _ _
attribute [local irreducible] Sha.tagged Sb.join
theorem qD9 (F : Hp) (d : Int) : Ct prog 38 [I d] [F] (fun _ : Unit => I (cnt d)) (fun _ => True) (fun _ => [F]) := by
 refine Ct.walk func38 rfl ntmps38 rfl (fun w0 hw0 => ?_)
 change J _ [(0, _)] _ _ _
 refine J.g fun K1 hK1 => J.b rfl <| J.c hK1 <| J.u 0 ?_
 refine J.k fun K2 hK2 => J.g fun K3 hK3 => J.b rfl <| J.f (qAW rfl rfl rfl) rfl <| J.b rfl <| J.c5 (d := 5) rfl (fun h5 => ?_) (fun h5 => ?_)
 ·
  refine J.j 3 rfl <| J.c hK3 <| J.E 0 8 ?_
  refine J.c6 ?_
  refine J.g fun K4 hK4 => J.b rfl <| J.c hK4 <| J.u 2 ?_
  exact J.D <| J.a3 <| J.V hw0 rfl () (by rw [qHC.2 (by omega)]; rfl) trivial [0] rfl (by decide)
 refine J.b rfl <| J.T (qAx rfl rfl rfl) rfl <| J.b rfl <| J.c hK3 <| J.E 0 8 ?_
 refine J.a5 rfl (fun h8 => ?_) (fun h8 => ?_)
 ·
  refine J.g fun K5 hK5 => J.b rfl <| J.c hK5 <| J.u 2 ?_
  exact J.D <| J.a3 <| J.V hw0 rfl () (by rw [qHC.2 (by omega)]; rfl) trivial [0] rfl (by decide)
 refine J.W hK2 <| J.u 0 ?_
 refine J.g fun K6 hK6 => J.b rfl <| J.f ((qGr (a := 1) (m := d.toNat) rfl rfl (by show some (I d) = _; rw [show ((d.toNat : Nat) : Int) = d by omega]) ⟨by omega, by have := Int.pow_pos (n := 2) (m := d.toNat) (by decide); omega, by rw [Int.one_mul]; have h1 := Nat.pow_le_pow_right (n := 2) (by decide) (show d.toNat ≤ 4 by omega); have h2 : ((2 ^ d.toNat : Nat) : Int) ≤ ((2 ^ 4 : Nat) : Int) := Int.ofNat_le.2 h1; simp only [Int.natCast_pow] at h2; exact Int.le_trans h2 (by decide)⟩).as (v' := I (cnt d)) (congrArg I (by unfold cnt; rw [if_neg (by omega)]; simp))) rfl <| J.b rfl <| J.c hK6 <| J.u 2 ?_
 exact J.D <| J.V hw0 rfl () rfl trivial [0] rfl (by decide)
end Go.Proofs.YtfldiegfenndjaaGreatDoor
namespace Go.Proofs.YtfldiegfenndjaaGreatDoor
open Go Go.Fw Go.Proofs.Tryz
set_option maxRecDepth 100000
set_option maxHeartbeats 1000000
theorem ent76 : qAE prog 76 := qAE.of func76 rfl (by kernel_rfl)
theorem ent194 : qAE prog 194 := qAE.of func194 rfl (by kernel_rfl)
def qCG (l : List Sm.PR) (d i : Nat) : List (List UInt8) := (List.range i).map fun j => Sm.ndB l (kF j d) d
abbrev qAL (l : List Sm.PR) (d : Nat) : List (List UInt8) := qCG l d (2 ^ d)
theorem qFU (l : List Sm.PR) (d i : Nat) : qCG l d (i + 1) = qCG l d i ++ [Sm.ndB l (kF i d) d] := by unfold qCG; rw [List.range_succ, List.map_append]; rfl
theorem qBG (l : List Sm.PR) (d i : Nat) : (qCG l d i).length = i := by unfold qCG; rw [List.length_map, List.length_range]
theorem qCP {d : Nat} (hd : d ≤ 4) : cnt ((d : Nat) : Int) = 2 ^ d := by
 unfold cnt
 rw [if_neg (by omega)]; rfl
theorem pow4 {d : Nat} (hd : d ≤ 4) : 0 < 2 ^ d ∧ 2 ^ d ≤ 16 := ⟨Nat.two_pow_pos _, Nat.le_trans (Nat.pow_le_pow_right (by decide) hd) (by decide)⟩
def ofV (k : List UInt8) (d : Nat) : Nat := if k.length = 16 then qDC k d else 0
def ofE (k : List UInt8) : Nat := if k.length = 16 then 0 else 10
theorem qIP (F : Hp) (hK : KF F) (g : Nat) (l : List Sm.PR) (hT : qDT F g l) (hf : qCj l) (d : Nat) (hd : d ≤ 4) : Ct prog 37 [Ptr g, I ((d : Nat) : Int)] [F] (fun x : Option Addr × Nat × Hp => .tuple #[.slice x.1 (qAL l d).length x.2.1, I ((0 : Nat) : Int)]) (fun x => Row x.2.2 9 1 x.1 (qAL l d).length x.2.1 (qAI (qAL l d))) (fun x => [F, x.2.2]) := by
 have hpw := pow4 hd
 have hcn := qCP hd
 refine Ct.walk func37 rfl ntmps37 rfl (fun w0 hw0 => ?_)
 change J _ [(0, _), (1, _)] _ _ _
 refine J.g fun K1 hK1 => J.j 2 rfl <| J.c hK1 <| J.E 0 1 ?_
 refine J.g fun K2 hK2 => J.b rfl <| J.p (qAB rfl rfl ent38 (Ct.use0 (fun F' hF => qD9 F' ((d : Nat) : Int)))) rfl fun g10 _ => J.b rfl <| J.c hK2 <| J.H 0 1 6 ?_
 refine J.k fun K3 hK3 => J.k fun K4 hK4 => ?_
 rw [hcn]
 refine J.G <| J.b rfl <| J.f ((qAV rfl rfl rfl).no (by omega)) rfl <| J.c hK4 <| J.M 0 1 6 12 ?_
 refine J.a8 ?_
 refine J.W hK3 <| J.H 0 1 6 ?_
 refine J.g fun K5 hK5 => J.b rfl <| J.c hK5 <| J.M 0 1 6 7 ?_
 refine J.k fun K6 hK6 => J.g fun K7 hK7 => J.j 2 rfl <| J.c hK7 <| J.a0 0 1 7 13 14 ?_
 refine J.a1 <| J.c0 (X := Nat × Option Addr × Nat × Hp) (fun ζ => [(0, Ptr g), (1, I ((d : Nat) : Int)), (7, .slice ζ.2.1 ((qCG l d ζ.1).length) ζ.2.2.1), (13, I ((2 ^ d : Nat) : Int)), (14, I ((ζ.1 : Nat) : Int))]) (fun ζ => [F, ζ.2.2.2]) (fun ζ => ζ.1 ≤ 2 ^ d ∧ Row ζ.2.2.2 9 1 ζ.2.1 (qCG l d ζ.1).length ζ.2.2.1 (qAI (qCG l d ζ.1))) (fun ζ => 2 ^ d - ζ.1) (0, none, 0, (fun _ => none)) (⟨Nat.zero_le _, qBa.nil⟩) ⟨rfl, rfl, rfl, rfl, rfl, trivial⟩ (fun _ h => h.empty.pick [0, 1] (by decide)) ?_
 rintro ⟨i, A, c, m⟩ ⟨hi, hr⟩ I0 hI0
 dsimp only at hi hr ⊢
 have hnl := qBG l d i
 refine J.g fun K8 hK8 => J.f (qAW rfl rfl rfl) rfl <| J.c hK8 <| J.b3 0 1 7 13 14 15 ?_
 refine J.k fun K9 hK9 => J.a5 rfl (fun h15 => ?_) (fun h15 => ?_)
 ·
  have hi2 : i < 2 ^ d := by omega
  have hkf := qEf i d
  have hmd : min (((d : Nat) : Int)).toNat 128 = d := by rw [Int.toNat_natCast]; omega
  refine J.W hK9 <| J.a0 0 1 7 13 14 ?_
  refine J.k fun K10 hK10 => J.a1 <| J.g fun K11 hK11 => J.j 2 rfl <| J.c hK11 <| J.b3 0 1 7 8 13 14 ?_
  refine J.G <| J.j 4 rfl <| J.p (qAB rfl rfl ent76 (Ct.use0 (fun F' hF => qH9 F' i d (by omega) (by assumption)))) rfl fun g21 _ => J.b rfl <| J.p (qAB rfl rfl ent75 (Ct.use0 (fun F' hF => qEs F' (hK.mo hF) g l (hT.mono (hF F (by simp))) (by assumption) (kF i d) (by first | omega | decide) ((d : Nat) : Int) (by first | assumption | exact qGd (by assumption) | exact qJS (by assumption) (by assumption))))) rfl fun g23 _ => J.p (qAJ (l := [.tmp 23]) (xs := [[Str (Sm.ndB l (kF i d) (min ((d : Nat) : Int).toNat 128))]]) rfl rfl rfl rfl qAh el9 rfl (by decide) (by decide) (by simp)) rfl fun g24 _ => ?_
  change J _ _ _ [F, m, blk g24 [Str (Sm.ndB l (kF i d) (min ((d : Nat) : Int).toNat 128))] 9] _
  refine J.p (qAd (i := 1) (xs := qAI (qCG l d i)) (m2 := blk g24 [Str (Sm.ndB l (kF i d) (min ((d : Nat) : Int).toNat 128))] 9) (ys := [[Str (Sm.ndB l (kF i d) (min ((d : Nat) : Int).toNat 128))]]) rfl rfl rfl qAh qAh el9 rfl hr (by simp) ((qBm (q := True) (qAI [Sm.ndB l (kF i d) (min ((d : Nat) : Int).toNat 128)]) rfl (by simp [qAI]) rfl).sl) rfl (by omega) (by omega)) rfl ?_
  rintro ⟨A25, c25, m25⟩ h25
  try dsimp only at h25
  change J _ ((25, .slice A25 (((qCG l d i).length) + 1) c25) :: _) _ [_, m25, _] _
  rw [← qBY] at h25
  refine J.b rfl <| J.a7 <| J.a9 <| J.A (J.L hK10 ?_)
  refine J.a0 0 1 7 13 14 ?_
  exact J.G <| J.f ((qAR rfl rfl rfl (by omega)).nat (i + 1) (by omega)) rfl <| J.b rfl <| J.a7 <| J.A <| J.b0 (i + 1, A25, c25, m25) (fun η (hη : _ ∧ 2 ^ d - η.1 < 2 ^ d - i) => hI0 η hη.1 hη.2) ⟨⟨by dsimp only; omega, by dsimp only; rw [qFU, List.length_append]; rw [hmd] at h25; exact h25⟩, by first | omega | (dsimp only; omega)⟩ ⟨rfl, rfl, by dsimp only; rw [qFU, List.length_append]; rfl, rfl, rfl, trivial⟩ (fun _ h => h.pick [0, 1] (by decide))
 refine J.b7 <| J.a6 <| J.a6 <| J.b8 ?_
 refine J.A (J.L hK6 ?_)
 refine J.u 7 ?_
 refine J.g fun K12 hK12 => J.j 3 rfl <| J.c hK12 <| J.E 4 5 ?_
 refine J.D ?_
 obtain rfl : i = 2 ^ d := by omega
 exact J.b4 hw0 (fun _ _ h => h) (qCq rfl rfl rfl) (qAj (A, c, m) rfl hr [0, 1] rfl (by decide))
theorem qSW (F : Hp) (k : List UInt8) (hk : k.length ≤ 1000000) (d : Nat) (hd : d ≤ 4) : Ct prog 161 [Str (k), I ((d : Nat) : Int)] [F] (fun _ : Unit => .tuple #[I ((ofV k d : Nat) : Int), I ((ofE k : Nat) : Int)]) (fun _ => True) (fun _ => [F]) := by
 have hpw := pow4 hd
 have hcn := qCP hd
 refine Ct.walk func161 rfl ntmps161 rfl (fun w0 hw0 => ?_)
 change J _ [(0, _), (1, _)] _ _ _
 refine J.g fun K1 hK1 => J.j 2 rfl <| J.c hK1 <| J.E 0 1 ?_
 refine J.k fun K2 hK2 => J.a1 <| J.g fun K3 hK3 => J.b rfl <| J.p (qAB rfl rfl ent38 (Ct.use0 (fun F' hF => qD9 F' ((d : Nat) : Int)))) rfl fun g8 _ => J.f ((qAV rfl rfl rfl).no (by omega)) rfl <| J.b rfl <| J.c hK3 <| J.H 0 1 6 ?_
 refine J.a8 ?_
 refine J.g fun K4 hK4 => J.b rfl <| J.f (qAk u9_ rfl rfl) rfl <| J.f (qAY rfl rfl rfl) rfl <| J.b rfl <| J.c hK4 <| J.H 0 1 10 ?_
 refine J.a5 rfl (fun h10 => ?_) (fun h10 => ?_)
 ·
  refine J.g fun K5 hK5 => J.j 2 rfl <| J.c hK5 <| J.E 4 5 ?_
  exact J.D <| J.b6 <| J.a3 <| J.b4 hw0 (fun _ _ h => h) (qCq rfl rfl rfl) (qAj () (by unfold ofV ofE; rw [if_neg (by omega), if_neg (by omega)]; rfl) trivial [0] rfl (by decide))
 refine J.c7 <| J.a9 <| J.A (J.L hK2 ?_)
 refine J.E 0 1 ?_
 refine J.g fun K6 hK6 => J.j 2 rfl <| J.p (qAB rfl rfl ent194 (Ct.use0 (fun F' hF => qRI F' k (by first | omega | exact hsm _) d (by omega)))) rfl fun g16 _ => J.j 2 rfl <| J.c hK6 <| J.E 4 5 ?_
 exact J.D <| J.b4 hw0 (fun _ _ h => h) (qCq rfl rfl rfl) (qAj () (by unfold ofV ofE; rw [if_pos (by omega), if_pos (by omega)]; rfl) trivial [0] rfl (by decide))
theorem qJQ {s bs : List UInt8} (h : s.length ≤ 4096) : qLP s bs 0 = bs ++ Sha.numB (UInt64.ofNat s.length) 2 ++ s ∧ qDl (okT s) 2 0 = 0 := by
 have h1 : okT s = true := decide_eq_true h
 unfold qLP
 rw [h1, qD7, if_pos rfl]
 exact ⟨rfl, rfl⟩
structure Hd where
 ep : Nat
 par : List UInt8
 dep : Int
 aud : Int
 nodes : List (List UInt8)
def qDh (s : List UInt8) : Prop := s = [0] ∨ (s.length = 17 ∧ (s.getD 0 0 = 1 ∨ s.getD 0 0 = 2))
instance (s : List UInt8) : Decidable (qDh s) := by unfold qDh; infer_instance
def Hd.out (x : Hd) : Prop := 4294967295 < x.ep ∨ x.par.length ≠ 16 ∨ cnt x.dep = 0 ∨ x.aud < 0 ∨ 64 < x.aud
instance (x : Hd) : Decidable x.out := by unfold Hd.out; infer_instance
def Hd.err (x : Hd) : Int := if x.out then 10 else if x.nodes.length ≠ cnt x.dep then 22 else if ∀ s ∈ x.nodes, qDh s then 0 else 4
def ndB (s : List UInt8) : List UInt8 := Sha.numB (UInt64.ofNat s.length) 2 ++ s
def Hd.bytes (x : Hd) : List UInt8 := Sha.numB (UInt64.ofNat x.ep) 4 ++ x.par ++ [UInt8.ofNat x.dep.toNat] ++ [UInt8.ofNat x.aud.toNat] ++ (x.nodes.map ndB).flatten
def Hd.enc (x : Hd) : List UInt8 := if x.err = 0 then x.bytes else []
def Hd.dig (x : Hd) : List UInt8 := if x.err = 0 then Sha.tagged 14 [x.bytes] else []
def Hd.good (x : Hd) : Prop := x.ep < 18446744073709551616 ∧ x.par.length ≤ 1048576 ∧ x.nodes.length ≤ 1073741824
theorem qIA {x : Hd} (h : x.out) : x.err = 10 := if_pos h
theorem qSR {x : Hd} (h : ¬ x.out) (h2 : x.nodes.length ≠ cnt x.dep) : x.err = 22 := by unfold Hd.err; rw [if_neg h, if_pos h2]
theorem err_4 {x : Hd} (h : ¬ x.out) (h2 : ¬ x.nodes.length ≠ cnt x.dep) {s : List UInt8} (hs : s ∈ x.nodes) (hn : ¬ qDh s) : x.err = 4 := by unfold Hd.err; rw [if_neg h, if_neg h2, if_neg (fun e => hn (e s hs))]
theorem qQ7 {x : Hd} (h : ¬ x.out) (h2 : ¬ x.nodes.length ≠ cnt x.dep) (hs : ∀ s ∈ x.nodes, qDh s) : x.err = 0 := by unfold Hd.err; rw [if_neg h, if_neg h2, if_pos hs]
theorem qM5 {x : Hd} (h : x.err = 0) : ¬ x.out ∧ x.nodes.length = cnt x.dep ∧ ∀ s ∈ x.nodes, qDh s := by
  unfold Hd.err at h
  split at h
  · omega
  · rename_i h1
    split at h
    · omega
    · rename_i h2
      split at h
      · rename_i h3; exact ⟨h1, Decidable.not_not.1 h2, h3⟩
      · omega
theorem qJo {s : List UInt8} (h : qDh s) : s.length ≤ 17 := by
 rcases h with rfl | ⟨h, _⟩
 · decide
 · omega
theorem qRL {l : List (List UInt8)} {p : List UInt8 → Prop} {k : Nat} (h : k < l.length) (h1 : ∀ s ∈ l.take k, p s) (h2 : p (l.getD k [])) : ∀ s ∈ l.take (k + 1), p s := fun s hs => by
  rw [List.take_succ_eq_append_getElem h] at hs
  rcases List.mem_append.1 hs with h3 | h3
  · exact h1 s h3
  · rw [List.mem_singleton] at h3
    rw [h3]
    rw [List.getD_eq_getElem?_getD, List.getElem?_eq_getElem h] at h2
    exact h2
theorem qM1 {l : List (List UInt8)} {k : Nat} (h : k < l.length) : l.getD k [] ∈ l := by
 rw [List.getD_eq_getElem?_getD, List.getElem?_eq_getElem h]
 exact List.getElem_mem h
theorem u8eq {c : UInt8} (k : UInt8) : ((c.toNat : Int) = (k.toNat : Int)) ↔ c = k := ⟨fun h => UInt8.toNat_inj.1 (by omega), fun h => by rw [h]⟩
theorem qOh (F : Hp) (s : List UInt8) : Ct prog 137 [Str s] [F] (fun _ : Unit => .bool (decide (qDh s))) (fun _ => True) (fun _ => [F]) := by
 refine Ct.walk func137 rfl ntmps137 rfl (fun w0 hw0 => ?_)
 change J _ [(0, _)] _ _ _
 refine J.g fun K1 hK1 => J.b rfl <| J.c hK1 <| J.u 0 ?_
 refine J.g fun K2 hK2 => J.b rfl <| J.f (qBL rfl rfl rfl) rfl <| J.b rfl <| J.c5 (d := 5) rfl (fun h5 => ?_) (fun h5 => ?_)
 ·
  refine J.j 4 rfl <| J.d4 (Wan.un rfl rfl rfl rfl) rfl rfl ?_
  refine J.d4 (Wan.un rfl rfl rfl rfl) rfl rfl ?_
  refine J.d4 (Wan.un rfl rfl rfl rfl) rfl rfl ?_
  refine J.d4 (Wan.un rfl rfl rfl rfl) rfl rfl ?_
  refine J.d4 (Wan.un rfl rfl rfl rfl) rfl rfl ?_
  refine J.d4 (Wan.un rfl rfl rfl rfl) rfl rfl ?_
  refine J.d4 (Wan.un rfl rfl rfl rfl) rfl rfl ?_
  refine J.d4 (Wan.un rfl rfl rfl rfl) rfl rfl ?_
  refine J.j 3 rfl <| J.c hK2 <| J.u 2 ?_
  exact J.D <| J.V hw0 rfl () (congrArg Value.bool (decide_eq_true (show qDh s from .inl h5)).symm) trivial [0] rfl (by decide)
 refine J.b rfl <| J.T (qAk u9_ rfl rfl) rfl <| J.T (qAV rfl rfl rfl) rfl <| J.b rfl <| J.c5 (d := 9) rfl (fun h9 => ?_) (fun h9 => ?_)
 ·
  refine J.b rfl <| J.T (qBC (i := 0) (c := s.getD 0 0) u9_ rfl rfl rfl (by rw [List.getD_eq_getElem?_getD, List.getElem?_eq_getElem (show 0 < s.length by omega)]; rfl)) rfl ?_
  refine J.T (qAV rfl rfl rfl) rfl <| J.b rfl <| J.c5 (d := 13) rfl (fun h13 => ?_) (fun h13 => ?_)
  ·
   refine J.j 7 rfl <| J.c hK2 <| J.u 2 ?_
   exact J.D <| J.V hw0 rfl () (congrArg Value.bool (decide_eq_true (show qDh s from .inr ⟨by omega, .inl ((u8eq 1).1 h13)⟩)).symm) trivial [0] rfl (by decide)
  refine J.b rfl <| J.T (qBC (i := 0) (c := s.getD 0 0) u9_ rfl rfl rfl (by rw [List.getD_eq_getElem?_getD, List.getElem?_eq_getElem (show 0 < s.length by omega)]; rfl)) rfl ?_
  refine J.T (qAV rfl rfl rfl) rfl <| J.j 4 rfl <| J.c hK2 <| J.u 2 ?_
  exact J.D <| J.V hw0 rfl () (congrArg Value.bool (decide_eq_decide.2 ⟨fun h => (show qDh s from .inr ⟨by omega, .inr ((u8eq 2).1 h)⟩), fun h => by rcases h with h | ⟨_, h | h⟩; exact absurd h h5; exact absurd ((u8eq 1).2 h) h13; exact (u8eq 2).2 h⟩)) trivial [0] rfl (by decide)
 refine J.j 4 rfl <| J.d4 (Wan.un rfl rfl rfl rfl) rfl rfl ?_
 refine J.d4 (Wan.un rfl rfl rfl rfl) rfl rfl ?_
 refine J.d4 (Wan.un rfl rfl rfl rfl) rfl rfl ?_
 refine J.j 4 rfl <| J.c hK2 <| J.u 2 ?_
 exact J.D <| J.V hw0 rfl () (congrArg Value.bool (decide_eq_false (show ¬ qDh s from fun h => by rcases h with h | ⟨h, _⟩; exact h5 h; omega)).symm) trivial [0] rfl (by decide)
theorem qH6 (F : Hp) (x : Hd) (A : Option Addr) (c : Nat) (hg : x.good) (hsl : Sl F 1 A x.nodes.length c (qAI x.nodes)) :
    Ct prog 82 [.agg #[N64 x.ep, Str x.par, I x.dep, I x.aud, .slice A x.nodes.length c]] [F] (fun _ : Unit => I x.err) (fun _ => True) (fun _ => [F]) := by
  obtain ⟨hg1, hg2, hg3⟩ := hg
  refine Ct.walk func82 rfl ntmps82 rfl (fun w0 hw0 => ?_)
  change J _ [(0, _)] _ _ _
  refine J.g fun K1 hK1 => J.p (qAf rfl rfl (l := [N64 x.ep, Str x.par, I x.dep, I x.aud, .slice A x.nodes.length c]) rfl) rfl fun g1 _ => ?_
  change J _ _ _ [F, blk g1 [N64 x.ep, Str x.par, I x.dep, I x.aud, .slice A x.nodes.length c] 39] _
  refine J.b rfl <| J.c hK1 <| J.u 1 ?_
  refine J.g fun K2 hK2 => J.a2 2 qDG z3_ rfl rfl rfl rfl rfl <| J.d1 1 b3_ rfl rfl rfl rfl rfl <| J.p (qAB rfl rfl ent38 (Ct.use0 (fun F' hF => qD9 F' x.dep))) rfl fun g8 _ => J.b rfl <| J.c hK2 <| J.E 1 3 ?_
  refine J.k fun K3 hK3 => J.a1 <| J.g fun K4 hK4 => J.a2 0 qDG qCm rfl rfl rfl rfl rfl <| J.d1 1 qDN rfl rfl rfl rfl rfl <| J.f (qAx rfl rfl rfl) rfl <| J.b rfl <| J.c5 (d := 13) rfl (fun h13 => ?_) (fun h13 => ?_)
  ·
    refine J.j 20 rfl <| J.c hK4 <| J.H 1 3 9 ?_
    refine J.c6 ?_
    refine J.g fun K5 hK5 => J.b rfl <| J.c hK5 <| J.u 2 ?_
    exact J.D <| J.b6 <| J.a3 <| J.V hw0 rfl () (congrArg I (qIA (show x.out by unfold Hd.out; omega)).symm) trivial [0] rfl (by decide)
  refine J.T (qAA (j := 1) rfl rfl qDG rfl z9_ rfl) rfl <| J.T (qAC 1 rfl rfl rfl b9_ rfl) rfl <| J.T (qAk u9_ rfl rfl) rfl <| J.T (qAY rfl rfl rfl) rfl <| J.j 2 rfl <| J.c5 (d := 19) rfl (fun h19 => ?_) (fun h19 => ?_)
  ·
    refine J.j 14 rfl <| J.c hK4 <| J.H 1 3 9 ?_
    refine J.c6 ?_
    refine J.g fun K6 hK6 => J.b rfl <| J.c hK6 <| J.u 2 ?_
    exact J.D <| J.b6 <| J.a3 <| J.V hw0 rfl () (congrArg I (qIA (show x.out by unfold Hd.out; omega)).symm) trivial [0] rfl (by decide)
  refine J.b rfl <| J.T (qAV rfl rfl rfl) rfl <| J.j 2 rfl <| J.c5 (d := 23) rfl (fun h23 => ?_) (fun h23 => ?_)
  ·
    refine J.j 10 rfl <| J.c hK4 <| J.H 1 3 9 ?_
    refine J.c6 ?_
    refine J.g fun K7 hK7 => J.b rfl <| J.c hK7 <| J.u 2 ?_
    exact J.D <| J.b6 <| J.a3 <| J.V hw0 rfl () (congrArg I (qIA (show x.out by unfold Hd.out; omega)).symm) trivial [0] rfl (by decide)
  refine J.T (qAA (j := 3) rfl rfl qDG rfl z3_ rfl) rfl <| J.T (qAC 1 rfl rfl rfl b3_ rfl) rfl <| J.T (qAW rfl rfl rfl) rfl <| J.j 2 rfl <| J.c5 (d := 28) rfl (fun h28 => ?_) (fun h28 => ?_)
  ·
    refine J.j 5 rfl <| J.c hK4 <| J.H 1 3 9 ?_
    refine J.c6 ?_
    refine J.g fun K8 hK8 => J.b rfl <| J.c hK8 <| J.u 2 ?_
    exact J.D <| J.b6 <| J.a3 <| J.V hw0 rfl () (congrArg I (qIA (show x.out by unfold Hd.out; omega)).symm) trivial [0] rfl (by decide)
  refine J.T (qAA (j := 3) rfl rfl qDG rfl z3_ rfl) rfl <| J.T (qAC 1 rfl rfl rfl b3_ rfl) rfl <| J.T (qAx rfl rfl rfl) rfl <| J.j 2 rfl <| J.c hK4 <| J.H 1 3 9 ?_
  refine J.a5 rfl (fun h9 => ?_) (fun h9 => ?_)
  ·
    refine J.g fun K9 hK9 => J.b rfl <| J.c hK9 <| J.u 2 ?_
    exact J.D <| J.b6 <| J.a3 <| J.V hw0 rfl () (congrArg I (qIA (show x.out by unfold Hd.out; omega)).symm) trivial [0] rfl (by decide)
  refine J.g fun K10 hK10 => J.a2 4 qDG qB0 rfl rfl rfl rfl rfl <| J.d1 1 qCQ rfl rfl rfl rfl rfl <| J.f (qAa qAh rfl rfl) rfl <| J.b rfl <| J.f (qAY rfl rfl rfl) rfl <| J.b rfl <| J.c hK10 <| J.E 1 33 ?_
  refine J.a5 rfl (fun h33 => ?_) (fun h33 => ?_)
  ·
    refine J.g fun K11 hK11 => J.b rfl <| J.c hK11 <| J.u 2 ?_
    exact J.D <| J.b6 <| J.a3 <| J.V hw0 rfl () (congrArg I (qSR (by unfold Hd.out; omega) (by omega)).symm) trivial [0] rfl (by decide)
  refine J.c7 <| J.a9 <| J.A (J.L hK3 ?_)
  refine J.u 1 ?_
  refine J.k fun K12 hK12 => J.k fun K13 hK13 => ?_
  have hno : ¬ x.out := by unfold Hd.out; omega
  have hcn : ¬ x.nodes.length ≠ cnt x.dep := by omega
  refine J.G <| J.a2 4 qDG qB0 rfl rfl rfl rfl rfl <| J.d1 1 qCQ rfl rfl rfl rfl rfl <| J.f (qAa qAh rfl rfl) rfl <| J.b rfl <| J.c hK13 <| J.H 40 41 42 ?_
  refine J.a1 <| J.c0 (X := Nat) (fun k => [(40, .slice A x.nodes.length c), (41, I x.nodes.length), (42, I k)]) (fun _ => [F, blk g1 [N64 x.ep, Str x.par, I x.dep, I x.aud, .slice A x.nodes.length c] 39]) (fun k => k ≤ x.nodes.length ∧ ∀ s ∈ x.nodes.take k, qDh s) (fun k => x.nodes.length - k) 0 (⟨Nat.zero_le _, fun s hs => by simp at hs⟩) ⟨rfl, rfl, rfl, trivial⟩ (fun _ h => h) ?_
  intro k ⟨hk, hall⟩ I0 hI0
  refine J.g fun K14 hK14 => J.f (qAW rfl rfl rfl) rfl <| J.c hK14 <| J.M 40 41 42 43 ?_
  refine J.k fun K15 hK15 => J.a5 rfl (fun h43 => ?_) (fun h43 => ?_)
  ·
    refine J.W hK15 <| J.H 40 41 42 ?_
    refine J.k fun K16 hK16 => J.a1 <| J.g fun K17 hK17 => J.f (qAH (i := k) rfl rfl rfl qAh z9_ hsl (by omega)) rfl <| J.f (qAN rfl rfl b9_ (m := F) (by simp) (hsl.elem (qAZ (qAg [] (show k < x.nodes.length by omega))))) rfl <| J.b rfl <| J.c hK17 <| J.M 5 40 41 42 ?_
    refine J.g fun K18 hK18 => J.b rfl <| J.p (qAB rfl rfl ent137 (Ct.use0 (fun F' hF => qOh F' (x.nodes.getD k [])))) rfl fun g47 _ => J.f (qFQ rfl rfl) rfl <| J.c hK18 <| J.M 40 41 42 48 ?_
    refine J.a5 rfl (fun h48 => ?_) (fun h48 => ?_)
    ·
      refine J.g fun K19 hK19 => J.b rfl <| J.c hK19 <| J.u 2 ?_
      exact J.D <| J.b6 <| J.a3 <| J.a3 <| J.b6 <| J.a3 <| J.V hw0 rfl () (congrArg I (err_4 hno hcn (qM1 (show k < x.nodes.length by omega)) h48).symm) trivial [0] rfl (by decide)
    refine J.c7 <| J.a9 <| J.A (J.L hK16 ?_)
    refine J.H 40 41 42 ?_
    exact J.G <| J.f ((qAR rfl rfl rfl (by omega)).nat (k + 1) (by omega)) rfl <| J.b rfl <| J.a7 <| J.A <| J.b0 (k + 1) (fun x2 (hx : _ ∧ x.nodes.length - x2 < x.nodes.length - k) => hI0 x2 hx.1 hx.2) ⟨⟨by omega, qRL (by omega) hall (Decidable.not_not.1 h48)⟩, by omega⟩ ⟨rfl, rfl, rfl, trivial⟩ (fun _ h => h)
  refine J.b7 <| J.a6 <| J.a6 <| J.b8 ?_
  refine J.A (J.L hK12 ?_)
  refine J.c8 [] trivial <| J.k fun K20 hK20 => ?_
  rw [List.take_of_length_le (by omega)] at hall
  refine J.G <| J.b rfl <| J.c hK20 <| J.u 2 ?_
  exact J.D <| J.V hw0 rfl () (congrArg I (qQ7 hno hcn hall).symm) trivial [0] rfl (by decide)
def Hd.base (x : Hd) : List UInt8 := Sha.numB (UInt64.ofNat x.ep) 4 ++ x.par ++ [UInt8.ofNat x.dep.toNat] ++ [UInt8.ofNat x.aud.toNat]
theorem qPS : ∀ k, k < 65 → Sha.numB (UInt64.ofNat k) 1 = [UInt8.ofNat k] := by decide +kernel
theorem qOM : ∀ k, k < 65 → okN (UInt64.ofNat k) 1 = true := by decide +kernel
theorem qMN {x : Hd} (h : ¬ x.out) : x.ep ≤ 4294967295 ∧ x.par.length = 16 ∧ (0 ≤ x.dep ∧ x.dep ≤ 4) ∧ 0 ≤ x.aud ∧ x.aud ≤ 64 := by
 have h1 : ¬ cnt x.dep = 0 := fun e => h (.inr (.inr (.inl e)))
 rw [qHC] at h1
 unfold Hd.out at h
 omega
theorem qQp {l : List (List UInt8)} {k : Nat} (h : k < l.length) : ((l.take (k + 1)).map ndB).flatten = ((l.take k).map ndB).flatten ++ ndB (l.getD k []) := by
 rw [List.take_succ_eq_append_getElem h, List.map_append, List.flatten_append, List.map_cons, List.map_nil, List.flatten_cons, List.flatten_nil, List.append_nil, List.getD_eq_getElem?_getD, List.getElem?_eq_getElem h]; rfl
theorem nd_small {l : List (List UInt8)} (h : ∀ s ∈ l, qDh s) : (l.map ndB).flatten.length ≤ 19 * l.length := by
 induction l with
 | nil => exact Nat.zero_le _
 | cons a l ih =>
  have h1 := ih (fun s hs => h s (.tail _ hs))
  have h2 := qJo (h a (.head _))
  rw [List.map_cons, List.flatten_cons, List.length_append, List.length_cons]
  unfold ndB at h1 ⊢
  rw [List.length_append, Sha.numB_length]; omega
theorem qKG {x : Hd} (h : ¬ x.out) : x.base.length = 22 := by
 have := qMN h
 unfold Hd.base
 simp only [List.length_append, Sha.numB_length, List.length_singleton]; omega
theorem qK3 (F : Hp) (x : Hd) (A : Option Addr) (c : Nat) (hg : x.good) (hsl : Sl F 1 A x.nodes.length c (qAI x.nodes)) :
    Ct prog 43 [.agg #[N64 x.ep, Str x.par, I x.dep, I x.aud, .slice A x.nodes.length c]] [F] (fun _ : Unit => .tuple #[Str x.enc, I x.err]) (fun _ => True) (fun _ => [F]) := by
  refine Ct.walk func43 rfl ntmps43 rfl (fun w0 hw0 => ?_)
  change J _ [(0, _)] _ _ _
  refine J.g fun K1 hK1 => J.p (qAf rfl rfl (l := [N64 x.ep, Str x.par, I x.dep, I x.aud, .slice A x.nodes.length c]) rfl) rfl fun g1 _ => ?_
  change J _ _ _ [F, blk g1 [N64 x.ep, Str x.par, I x.dep, I x.aud, .slice A x.nodes.length c] 39] _
  refine J.j 2 rfl <| J.c hK1 <| J.u 1 ?_
  refine J.k fun K2 hK2 => J.g fun K3 hK3 => J.c4 1 qDD qB6 rfl rfl rfl rfl rfl <| J.p (qAB rfl rfl ent82 (Ct.use0 (fun F' hF => qH6 F' x A c hg (hsl.mono (hF F (by simp)))))) rfl fun g9 _ => J.b rfl <| J.c hK3 <| J.E 1 4 ?_
  refine J.g fun K4 hK4 => J.b rfl <| J.f (qAY rfl rfl rfl) rfl <| J.c hK4 <| J.H 1 4 11 ?_
  refine J.a5 rfl (fun h11 => ?_) (fun h11 => ?_)
  ·
    refine J.g fun K5 hK5 => J.j 3 rfl <| J.c hK5 <| J.E 2 3 ?_
    exact J.D <| J.a3 <| J.b4 hw0 (fun _ _ h => h) (qCq rfl rfl rfl) (qAj () (by unfold Hd.enc; rw [if_neg (by omega)]) trivial [0] rfl (by decide))
  refine J.W hK2 <| J.u 1 ?_
  refine J.k fun K6 hK6 => ?_
  have e0 : x.err = 0 := by omega
  obtain ⟨e1, e2, e3⟩ := qM5 e0
  obtain ⟨e4, e5, e6, e7, e8⟩ := qMN e1
  have hbl := qKG e1
  have hc16 := qPl x.dep
  refine J.G <| J.p (qAO rfl zeroValue188 rfl) rfl fun g5 _ => ?_
  change J _ _ _ [F, blk g1 [N64 x.ep, Str x.par, I x.dep, I x.aud, .slice A x.nodes.length c] 39, blk g5 _ 188] _
  refine J.c hK6 <| J.E 1 5 ?_
  refine J.k fun K7 hK7 => J.c1 [blk g1 [N64 x.ep, Str x.par, I x.dep, I x.aud, .slice A x.nodes.length c] 39] [] (.y 0 (.y 1 (.y 3 (.y 4 (.y 6 (.y 7 (.y 8 (.y 10 (.y 11 (.y 12 (.e 2 (.e 5 (.e 9 (.e 13 .nil)))))))))))))) Tryz.wide (by decide +kernel) (by simp) ?_
  refine J.q rfl (qAA (j := 0) rfl rfl qDG rfl qCm rfl) rfl rfl <| J.q rfl (qAC 0 rfl rfl rfl qDN rfl) rfl rfl <| J.q rfl (qAA (j := 1) rfl rfl qDG rfl z9_ rfl) rfl rfl <| J.q rfl (qAC 0 rfl rfl rfl b9_ rfl) rfl rfl <| J.q rfl (qAA (j := 2) rfl rfl qDG rfl z3_ rfl) rfl rfl <| J.q rfl (qAC 0 rfl rfl rfl b3_ rfl) rfl rfl <| J.q rfl ((qCL rfl rfl u3_ qEm).as (v' := W64 (UInt64.ofNat x.dep.toNat)) (by rw [show (x.dep % 18446744073709551616).toNat = x.dep.toNat by omega])) rfl rfl <| J.q rfl (qAA (j := 3) rfl rfl qDG rfl z3_ rfl) rfl rfl <| J.q rfl (qAC 0 rfl rfl rfl b3_ rfl) rfl rfl <| J.q rfl ((qCL rfl rfl u3_ qEm).as (v' := W64 (UInt64.ofNat x.aud.toNat)) (by rw [show (x.aud % 18446744073709551616).toNat = x.aud.toNat by omega])) rfl rfl <| J.b2 rfl (qAB rfl rfl ent83 (Ct.use1 2 (m' := fun x : Hp => x) (new := fun _ => []) rfl (fun F' _ => qMX F' (blk g5 [.pointer none, .slice none 0 0, I 0] 188) g5 [] 0 (qLO g5) (by decide) x.ep (by omega) 4 (by omega) (by omega)))) rfl (by simp) ?_
  rintro m15 hw15
  change J _ _ _ [_, _, m15] _
  rw [qHt (size := 4) (by omega) (by omega), qD7, qCv (qHt (size := 4) (by omega) (by omega)), List.nil_append] at hw15
  refine J.b2 rfl (qAB rfl rfl ent84 (Ct.use1 2 (m' := fun x : Hp => x) (new := fun _ => []) rfl (fun F' _ => qJ9 F' m15 g5 (Sha.numB (UInt64.ofNat x.ep) 4) 0 hw15 (by rw [Sha.numB_length]; omega) x.par (by omega) 16))) rfl (by simp) ?_
  rintro m18 hw18
  change J _ _ _ [_, _, m18] _
  rw [qRZ e5, qRv e5, qD7] at hw18
  refine J.b2 rfl (qAB rfl rfl ent83 (Ct.use1 2 (m' := fun x : Hp => x) (new := fun _ => []) rfl (fun F' _ => qEa F' m18 g5 ((Sha.numB (UInt64.ofNat x.ep) 4) ++ x.par) 0 hw18 (by simp only [List.length_append, Sha.numB_length]; omega) (UInt64.ofNat x.dep.toNat) 1 (by omega) (by omega)))) rfl (by simp) ?_
  rintro m22 hw22
  change J _ _ _ [_, _, m22] _
  rw [qOM _ (by omega), qD7, qCv (qOM _ (by omega)), qPS _ (by omega)] at hw22
  refine J.b2 rfl (qAB rfl rfl ent83 (Ct.use1 2 (m' := fun x : Hp => x) (new := fun _ => []) rfl (fun F' _ => qEa F' m22 g5 (((Sha.numB (UInt64.ofNat x.ep) 4) ++ x.par) ++ [UInt8.ofNat x.dep.toNat]) 0 hw22 (by simp only [List.length_append, Sha.numB_length, List.length_singleton]; omega) (UInt64.ofNat x.aud.toNat) 1 (by omega) (by omega)))) rfl (by simp) ?_
  rintro m26 hw26
  change J _ _ _ [_, _, m26] _
  rw [qOM _ (by omega), qD7, qCv (qOM _ (by omega)), qPS _ (by omega)] at hw26
  refine J.b5 <| J.A (J.L hK7 ?_)
  refine J.E 1 5 ?_
  refine J.k fun K8 hK8 => J.g fun K9 hK9 => J.a2 4 qDG qB0 rfl rfl rfl rfl rfl <| J.d1 1 qCQ rfl rfl rfl rfl rfl <| J.f (qAa qAh rfl rfl) rfl <| J.b rfl <| J.c hK9 <| J.M 5 28 29 30 ?_
  refine J.a1 <| J.c0 (X := Nat × Hp) (fun x2 => [(5, Ptr g5), (28, .slice A x.nodes.length c), (29, I x.nodes.length), (30, I x2.1)]) (fun x2 => [F, blk g1 [N64 x.ep, Str x.par, I x.dep, I x.aud, .slice A x.nodes.length c] 39, x2.2]) (fun x2 => x2.1 ≤ x.nodes.length ∧ Wtr x2.2 g5 (x.base ++ ((x.nodes.take x2.1).map ndB).flatten) 0) (fun x2 => x.nodes.length - x2.1) (0, m26) (⟨Nat.zero_le _, by rw [List.take_zero, List.map_nil, List.flatten_nil, List.append_nil]; exact hw26⟩) ⟨rfl, rfl, rfl, rfl, trivial⟩ (fun _ h => h) ?_
  rintro ⟨k, m⟩ ⟨hk, hw⟩ I0 hI0
  dsimp only at hk hw ⊢
  refine J.g fun K10 hK10 => J.f (qAW rfl rfl rfl) rfl <| J.c hK10 <| J.a0 5 28 29 30 31 ?_
  refine J.k fun K11 hK11 => J.a5 rfl (fun h31 => ?_) (fun h31 => ?_)
  ·
    refine J.W hK11 <| J.M 5 28 29 30 ?_
    refine J.k fun K12 hK12 => J.a1 <| J.g fun K13 hK13 => J.f (qAH (i := k) rfl rfl rfl qAh z9_ hsl (by omega)) rfl <| J.f (qAN rfl rfl b9_ (m := F) (by simp) (hsl.elem (qAZ (qAg [] (show k < x.nodes.length by omega))))) rfl <| J.b rfl <| J.c hK13 <| J.a0 5 7 28 29 30 ?_
    have hnl := qJo (e3 _ (qM1 (show k < x.nodes.length by omega)))
    refine J.G <| J.b rfl <| J.p (qAB rfl rfl ent85 (Ct.use1 2 (m' := fun x : Hp => x) (new := fun _ => []) rfl (fun F' _ => qP3 F' m g5 (x.base ++ ((x.nodes.take k).map ndB).flatten) 0 hw (by have := nd_small (fun s hs => e3 s (List.mem_of_mem_take hs) : ∀ s ∈ x.nodes.take k, qDh s); rw [List.length_take] at this; rw [List.length_append, hbl]; omega) (x.nodes.getD k []) (by omega)))) rfl ?_
    rintro m35 hw35
    change J _ _ _ [F, blk g1 [N64 x.ep, Str x.par, I x.dep, I x.aud, .slice A x.nodes.length c] 39, m35] _
    rw [(qJQ (by omega)).1, (qJQ (s := x.nodes.getD k []) (bs := []) (by omega)).2, List.append_assoc, List.append_assoc] at hw35
    change Wtr m35 g5 (x.base ++ (((x.nodes.take k).map ndB).flatten ++ ndB (x.nodes.getD k []))) 0 at hw35
    rw [← qQp (by omega)] at hw35
    refine J.a7 <| J.a9 <| J.A (J.L hK12 ?_)
    refine J.M 5 28 29 30 ?_
    exact J.G <| J.f ((qAR rfl rfl rfl (by omega)).nat (k + 1) (by omega)) rfl <| J.b rfl <| J.a7 <| J.A <| J.b0 (k + 1, m35) (fun x2 (hx : _ ∧ x.nodes.length - x2.1 < x.nodes.length - k) => hI0 x2 hx.1 hx.2) ⟨⟨by dsimp only; omega, hw35⟩, by dsimp only; omega⟩ ⟨rfl, rfl, rfl, rfl, trivial⟩ (fun _ h => h)
  refine J.b7 <| J.a6 <| J.a6 <| J.b8 ?_
  refine J.A (J.L hK8 ?_)
  refine J.u 5 ?_
  refine J.k fun K14 hK14 => ?_
  rw [List.take_of_length_le (by omega)] at hw
  change Wtr m g5 x.bytes 0 at hw
  refine J.G <| J.p (qAB rfl rfl ent86 (Ct.use1 2 (m' := fun x : Hp => x) (new := fun _ => []) rfl (fun F' _ => qE4 F' m g5 x.bytes 0 hw (by have := nd_small e3; unfold Hd.bytes; unfold Hd.base at hbl; rw [List.length_append, hbl]; omega)))) rfl ?_
  rintro m37 _
  change J _ _ _ [F, blk g1 [N64 x.ep, Str x.par, I x.dep, I x.aud, .slice A x.nodes.length c] 39, m37] _
  refine J.j 4 rfl <| J.c hK14 <| J.E 2 3 ?_
  exact J.D <| J.b4 hw0 (fun _ _ h => h) (qCq rfl rfl rfl) (qAj () (by unfold Hd.enc; rw [if_pos e0, e0] <;> rfl) trivial [0] rfl (by decide))
theorem qIK {x : Hd} (h : x.err = 0) : x.bytes.length ≤ 326 := by
 obtain ⟨e1, e2, e3⟩ := qM5 h
 have h1 := qKG e1
 have h2 := nd_small e3
 have h3 := qPl x.dep
 unfold Hd.bytes
 unfold Hd.base at h1
 rw [List.length_append, h1]; omega
theorem enc_0 {x : Hd} (h : x.err = 0) : x.enc = x.bytes := if_pos h
theorem qBh {x : Hd} (h : x.err = 0) : x.dig.length = 16 := by unfold Hd.dig; rw [if_pos h, Sha.tagged_length]
theorem qBH (F : Hp) (hK : KF F) (x : Hd) (A : Option Addr) (c : Nat) (hg : x.good) (hsl : Sl F 1 A x.nodes.length c (qAI x.nodes)) :
    Ct prog 11 [.agg #[N64 x.ep, Str x.par, I x.dep, I x.aud, .slice A x.nodes.length c]] [F] (fun _ : Unit => Str x.dig) (fun _ => True) (fun _ => [F]) := by
  refine Ct.walk func11 rfl ntmps11 rfl (fun w0 hw0 => ?_)
  change J _ [(0, _)] _ _ _
  refine J.g fun K1 hK1 => J.p (qAf rfl rfl (l := [N64 x.ep, Str x.par, I x.dep, I x.aud, .slice A x.nodes.length c]) rfl) rfl fun g1 _ => ?_
  change J _ _ _ [F, blk g1 [N64 x.ep, Str x.par, I x.dep, I x.aud, .slice A x.nodes.length c] 39] _
  refine J.b rfl <| J.c hK1 <| J.u 1 ?_
  refine J.g fun K2 hK2 => J.c4 1 qDD qB6 rfl rfl rfl rfl rfl <| J.p (qAB rfl rfl ent43 (Ct.use0 (fun F' hF => qK3 F' x A c hg (hsl.mono (hF F (by simp)))))) rfl fun g7 _ => J.j 5 rfl <| J.c hK2 <| J.E 3 4 ?_
  refine J.k fun K3 hK3 => J.g fun K4 hK4 => J.b rfl <| J.f (qAY rfl rfl rfl) rfl <| J.c hK4 <| J.E 3 11 ?_
  refine J.a5 rfl (fun h11 => ?_) (fun h11 => ?_)
  ·
    refine J.g fun K5 hK5 => J.b rfl <| J.c hK5 <| J.u 2 ?_
    exact J.D <| J.a3 <| J.V hw0 rfl () (by unfold Hd.dig; rw [if_neg (by omega)]) trivial [0] rfl (by decide)
  refine J.W hK3 <| J.u 3 ?_
  refine J.k fun K6 hK6 => ?_
  have e0 : x.err = 0 := by omega
  refine J.G <| J.f ((qAl rfl rfl).as (v' := Str x.bytes) (congrArg Str (enc_0 e0))) rfl <| J.p (qAJ (l := [.tmp 12]) (xs := [[Str (x.bytes)]]) rfl rfl rfl rfl qAh el9 rfl (by decide) (by decide) (by simp)) rfl fun g13 _ => ?_
  change J _ _ _ [F, blk g1 [N64 x.ep, Str x.par, I x.dep, I x.aud, .slice A x.nodes.length c] 39, blk g13 [Str (x.bytes)] 9] _
  refine J.p (qAB rfl rfl ent44 (Ct.use0 (fun F' hF => qA3 F' (hK.mono (hF _ (by simp))) 14 (some ⟨g13, 0, none⟩) 1 1 [x.bytes] ((slS [x.bytes] rfl).mono (hF (blk g13 (([x.bytes] : List (List UInt8)).map fun s => Str s) 9) (by simp))) (by have := qIK e0; simp; omega) (by decide)))) rfl fun g14 _ => J.b rfl <| J.c hK6 <| J.u 2 ?_
  exact J.D <| J.V hw0 rfl () (by unfold Hd.dig; rw [if_pos e0]) trivial [0] rfl (by decide)
def Hd.next (x y : Hd) : Int := if y.err ≠ 0 then y.err else if y.ep = 0 ∨ y.ep - 1 ≠ x.ep then 14 else if x.dig = [] ∨ y.par ≠ x.dig then 15 else if y.dep ≠ x.dep ∨ y.aud < x.aud then 22 else 0
def Hd.same (x y : Hd) : Prop := x.err = 0 ∧ y.err = 0 ∧ x.enc = y.enc
instance (x y : Hd) : Decidable (x.same y) := by unfold Hd.same; infer_instance
theorem qR3 {x y : Hd} (h : y.err ≠ 0) : x.next y = y.err := if_pos h
theorem qMe {x y : Hd} (h : ¬ y.err ≠ 0) (h2 : y.ep = 0 ∨ y.ep - 1 ≠ x.ep) : x.next y = 14 := by unfold Hd.next; rw [if_neg h, if_pos h2]
theorem qMd {x y : Hd} (h : ¬ y.err ≠ 0) (h2 : ¬ (y.ep = 0 ∨ y.ep - 1 ≠ x.ep)) (h3 : x.dig = [] ∨ y.par ≠ x.dig) : x.next y = 15 := by unfold Hd.next; rw [if_neg h, if_neg h2, if_pos h3]
theorem qPW {x y : Hd} (h : ¬ y.err ≠ 0) (h2 : ¬ (y.ep = 0 ∨ y.ep - 1 ≠ x.ep)) (h3 : ¬ (x.dig = [] ∨ y.par ≠ x.dig)) (h4 : y.dep ≠ x.dep ∨ y.aud < x.aud) : x.next y = 22 := by unfold Hd.next; rw [if_neg h, if_neg h2, if_neg h3, if_pos h4]
theorem qPV {x y : Hd} (h : ¬ y.err ≠ 0) (h2 : ¬ (y.ep = 0 ∨ y.ep - 1 ≠ x.ep)) (h3 : ¬ (x.dig = [] ∨ y.par ≠ x.dig)) (h4 : ¬ (y.dep ≠ x.dep ∨ y.aud < x.aud)) : x.next y = 0 := by unfold Hd.next; rw [if_neg h, if_neg h2, if_neg h3, if_neg h4]
theorem qOi (F : Hp) (hK : KF F) (x : Hd) (A : Option Addr) (c : Nat) (hg : x.good) (hsl : Sl F 1 A x.nodes.length c (qAI x.nodes)) (y : Hd) (B : Option Addr) (e : Nat) (hgy : y.good) (hsy : Sl F 1 B y.nodes.length e (qAI y.nodes)) :
    Ct prog 49 [.agg #[N64 x.ep, Str x.par, I x.dep, I x.aud, .slice A x.nodes.length c], .agg #[N64 y.ep, Str y.par, I y.dep, I y.aud, .slice B y.nodes.length e]] [F] (fun _ : Unit => I (x.next y)) (fun _ => True) (fun _ => [F]) := by
  obtain ⟨hgx1, hgx2, hgx3⟩ := id hg
  obtain ⟨hgy1, hgy2, hgy3⟩ := id hgy
  refine Ct.walk func49 rfl ntmps49 rfl (fun w0 hw0 => ?_)
  change J _ [(0, _), (1, _)] _ _ _
  refine J.g fun K1 hK1 => J.p (qAf rfl rfl (l := [N64 x.ep, Str x.par, I x.dep, I x.aud, .slice A x.nodes.length c]) rfl) rfl fun g2 _ => ?_
  change J _ _ _ [F, blk g2 [N64 x.ep, Str x.par, I x.dep, I x.aud, .slice A x.nodes.length c] 39] _
  refine J.p (qAf rfl rfl (l := [N64 y.ep, Str y.par, I y.dep, I y.aud, .slice B y.nodes.length e]) rfl) rfl fun g3 _ => ?_
  change J _ _ _ [_, _, blk g3 [N64 y.ep, Str y.par, I y.dep, I y.aud, .slice B y.nodes.length e] 39] _
  refine J.b rfl <| J.c hK1 <| J.E 2 3 ?_
  refine J.k fun K2 hK2 => J.c1 [F, blk g2 [N64 x.ep, Str x.par, I x.dep, I x.aud, .slice A x.nodes.length c] 39, blk g3 [N64 y.ep, Str y.par, I y.dep, I y.aud, .slice B y.nodes.length e] 39] [] (.y 0 (.y 2 (.e 1 (.e 3 (.y 4 (.y 5 .nil)))))) Tryz.wide (by decide +kernel) (by simp) ?_
  refine J.q rfl (qAi 2 rfl rfl rfl qDD qB6 rfl) rfl rfl <| J.q rfl (qAi 1 rfl rfl rfl qDD qB6 rfl) rfl rfl <| J.b2 rfl (qAB rfl rfl ent82 (Ct.use0 (fun F' hF => qH6 F' y B e hgy (hsy.mono (hF F (by simp)))))) rfl (by simp) fun g8 _ => J.b2 rfl (qAB rfl rfl ent11 (Ct.use0 (fun F' hF => qBH F' (hK.mo hF) x A c hg (hsl.mono (hF F (by simp)))))) rfl (by simp) fun g10 _ => J.b9 ?_
  refine J.b9 ?_
  refine J.b5 <| J.A (J.L hK2 ?_)
  refine J.M 2 3 5 6 ?_
  refine J.k fun K3 hK3 => J.a1 <| J.g fun K4 hK4 => J.b rfl <| J.f (qAY rfl rfl rfl) rfl <| J.b rfl <| J.c hK4 <| J.a0 2 3 5 6 11 ?_
  refine J.a5 rfl (fun h11 => ?_) (fun h11 => ?_)
  ·
    refine J.g fun K5 hK5 => J.j 2 rfl <| J.c hK5 <| J.u 4 ?_
    exact J.D <| J.b6 <| J.a3 <| J.V hw0 rfl () (congrArg I (qR3 (by omega)).symm) trivial [0] rfl (by decide)
  refine J.g fun K6 hK6 => J.a2 0 qDG qCm rfl rfl rfl rfl rfl <| J.d1 2 qDN rfl rfl rfl rfl rfl <| J.f (qAV rfl rfl rfl) rfl <| J.b rfl <| J.c5 (d := 19) rfl (fun h19 => ?_) (fun h19 => ?_)
  ·
    refine J.j 8 rfl <| J.c hK6 <| J.M 2 3 6 15 ?_
    refine J.c6 ?_
    refine J.g fun K7 hK7 => J.b rfl <| J.c hK7 <| J.u 4 ?_
    exact J.D <| J.b6 <| J.a3 <| J.V hw0 rfl () (congrArg I (qMe (by omega) (by omega)).symm) trivial [0] rfl (by decide)
  refine J.T (qAA (j := 0) rfl rfl qDG rfl qCm rfl) rfl <| J.T (qAC 2 rfl rfl rfl qDN rfl) rfl <| J.T (qQb (b := 1) rfl rfl rfl (by omega)) rfl <| J.T (qAA (j := 0) rfl rfl qDG rfl qCm rfl) rfl <| J.T (qAC 1 rfl rfl rfl qDN rfl) rfl <| J.T (qAY rfl rfl rfl) rfl <| J.j 2 rfl <| J.c hK6 <| J.M 2 3 6 15 ?_
  refine J.a5 rfl (fun h15 => ?_) (fun h15 => ?_)
  ·
    refine J.g fun K8 hK8 => J.b rfl <| J.c hK8 <| J.u 4 ?_
    exact J.D <| J.b6 <| J.a3 <| J.V hw0 rfl () (congrArg I (qMe (by omega) (by omega)).symm) trivial [0] rfl (by decide)
  refine J.g fun K9 hK9 => J.b rfl <| J.f (qBL rfl rfl rfl) rfl <| J.b rfl <| J.c5 (d := 30) rfl (fun h30 => ?_) (fun h30 => ?_)
  ·
    refine J.j 6 rfl <| J.c hK9 <| J.H 2 3 27 ?_
    refine J.c6 ?_
    refine J.g fun K10 hK10 => J.b rfl <| J.c hK10 <| J.u 4 ?_
    exact J.D <| J.b6 <| J.a3 <| J.V hw0 rfl () (congrArg I (qMd (by omega) (by omega) (.inl h30)).symm) trivial [0] rfl (by decide)
  refine J.T (qAA (j := 1) rfl rfl qDG rfl z9_ rfl) rfl <| J.T (qAC 2 rfl rfl rfl b9_ rfl) rfl <| J.b rfl <| J.T (qC5 rfl rfl rfl) rfl <| J.j 2 rfl <| J.c hK9 <| J.H 2 3 27 ?_
  refine J.a5 rfl (fun h27 => ?_) (fun h27 => ?_)
  ·
    refine J.g fun K11 hK11 => J.b rfl <| J.c hK11 <| J.u 4 ?_
    exact J.D <| J.b6 <| J.a3 <| J.V hw0 rfl () (congrArg I (qMd (by omega) (by omega) (.inr h27)).symm) trivial [0] rfl (by decide)
  refine J.g fun K12 hK12 => J.a2 2 qDG z3_ rfl rfl rfl rfl rfl <| J.d1 2 b3_ rfl rfl rfl rfl rfl <| J.a2 2 qDG z3_ rfl rfl rfl rfl rfl <| J.d1 1 b3_ rfl rfl rfl rfl rfl <| J.f (qAY rfl rfl rfl) rfl <| J.b rfl <| J.c5 (d := 42) rfl (fun h42 => ?_) (fun h42 => ?_)
  ·
    refine J.j 7 rfl <| J.c hK12 <| J.u 36 ?_
    refine J.c6 ?_
    refine J.g fun K13 hK13 => J.b rfl <| J.c hK13 <| J.u 4 ?_
    exact J.D <| J.b6 <| J.a3 <| J.V hw0 rfl () (congrArg I (qPW (by omega) (by omega) (fun h => h.elim h30 h27) (by omega)).symm) trivial [0] rfl (by decide)
  refine J.T (qAA (j := 3) rfl rfl qDG rfl z3_ rfl) rfl <| J.T (qAC 2 rfl rfl rfl b3_ rfl) rfl <| J.T (qAA (j := 3) rfl rfl qDG rfl z3_ rfl) rfl <| J.T (qAC 1 rfl rfl rfl b3_ rfl) rfl <| J.T (qAW rfl rfl rfl) rfl <| J.j 2 rfl <| J.c hK12 <| J.u 36 ?_
  refine J.a5 rfl (fun h36 => ?_) (fun h36 => ?_)
  ·
    refine J.g fun K14 hK14 => J.b rfl <| J.c hK14 <| J.u 4 ?_
    exact J.D <| J.b6 <| J.a3 <| J.V hw0 rfl () (congrArg I (qPW (by omega) (by omega) (fun h => h.elim h30 h27) (by omega)).symm) trivial [0] rfl (by decide)
  refine J.c7 <| J.a9 <| J.A (J.L hK3 ?_)
  refine J.c8 [] trivial <| J.g fun K15 hK15 => J.b rfl <| J.c hK15 <| J.u 4 ?_
  exact J.D <| J.V hw0 rfl () (congrArg I (qPV (by omega) (by omega) (fun h => h.elim h30 h27) (by omega)).symm) trivial [0] rfl (by decide)
theorem qPr (x m j : Nat) : (x ^^^ 2 ^ m) / 2 ^ j % 2 = if j = m then 1 - x / 2 ^ j % 2 else x / 2 ^ j % 2 := by
  have h1 := Nat.testBit_eq_decide_div_mod_eq (x := x ^^^ 2 ^ m) (i := j)
  have h2 := Nat.testBit_eq_decide_div_mod_eq (x := x) (i := j)
  rw [Nat.testBit_xor, Nat.testBit_two_pow, h2] at h1
  have a1 : (x ^^^ 2 ^ m) / 2 ^ j % 2 < 2 := Nat.mod_lt _ (by decide)
  have a2 : x / 2 ^ j % 2 < 2 := Nat.mod_lt _ (by decide)
  by_cases h : j = m
  · rw [if_pos h]
    rw [decide_eq_true h.symm] at h1
    by_cases h3 : x / 2 ^ j % 2 = 1
    · rw [decide_eq_true h3] at h1
      have : ¬ (x ^^^ 2 ^ m) / 2 ^ j % 2 = 1 := by simpa using h1.symm
      omega
    · rw [decide_eq_false h3] at h1
      have : (x ^^^ 2 ^ m) / 2 ^ j % 2 = 1 := by simpa using h1.symm
      omega
  · rw [if_neg h]
    rw [show decide (m = j) = false from decide_eq_false (fun e => h e.symm), Bool.xor_false] at h1
    have := decide_eq_decide.1 h1
    omega
def turn (k : List UInt8) (d : Nat) : List UInt8 := k.set (d / 8) (k.getD (d / 8) 0 ^^^ UInt8.ofNat (1 * 2 ^ (7 - d % 8)))
theorem qBq (k : List UInt8) (d : Nat) : (turn k d).length = k.length := by unfold turn; rw [List.length_set]
theorem qCZ {k : List UInt8} (hk : k.length = 16) {d i : Nat} (hd : d < 128) (hi : i < 128) : Sm.bit (turn k d) i = if i = d then 1 - Sm.bit k i else Sm.bit k i := by
  have hlt : i < 8 * k.length := by omega
  unfold Sm.bit
  rw [qBq, if_pos hlt, if_pos hlt]
  unfold turn
  have h1 : (1 * 2 ^ (7 - d % 8)) % 256 = 2 ^ (7 - d % 8) := by
    rw [Nat.one_mul]
    exact Nat.mod_eq_of_lt (Nat.lt_of_le_of_lt (Nat.pow_le_pow_right (by decide) (show 7 - d % 8 ≤ 7 by omega)) (by decide))
  by_cases hq : i / 8 = d / 8
  · rw [hq]
    have hg : (k.set (d / 8) (k.getD (d / 8) 0 ^^^ UInt8.ofNat (1 * 2 ^ (7 - d % 8)))).getD (d / 8) 0 = k.getD (d / 8) 0 ^^^ UInt8.ofNat (1 * 2 ^ (7 - d % 8)) := by
      rw [List.getD_eq_getElem?_getD, List.getElem?_set_self (by omega)]; rfl
    rw [hg, UInt8.toNat_xor, show (UInt8.ofNat (1 * 2 ^ (7 - d % 8))).toNat = 2 ^ (7 - d % 8) by rw [UInt8.toNat_ofNat']; exact h1, qPr]
    by_cases hid : i = d
    · rw [if_pos (by rw [hid]), if_pos hid]
    · rw [if_neg (by omega), if_neg hid]
  · rw [List.getD_eq_getElem?_getD, List.getElem?_set_ne (fun e => hq e.symm), ← List.getD_eq_getElem?_getD, if_neg (fun e => hq (by rw [e]))]
theorem qLe {k : List UInt8} (hk : k.length = 16) {d : Nat} (hd : d < 128) : Sm.kv (turn k d) / 2 ^ (127 - d) = 2 * (Sm.kv k / 2 ^ (128 - d)) + (1 - Sm.bit k d) := by
 have h1 : Sm.belowB (turn k d) k d = true := Sm.belowB_yes fun i hi => by rw [qCZ hk hd (by omega), if_neg (by omega)]
 have h2 := (Sm.belowB_kv ((qBq k d).trans hk) hk (by omega)).1 h1
 have e := Sm.pre_succ (Sm.kv (turn k d)) (127 - d)
 rw [show 127 - d + 1 = 128 - d by omega, h2, ← Sm.bit_kv ((qBq k d).trans hk) hd, qCZ hk hd hd, if_pos rfl] at e
 exact e
theorem qLu {k : List UInt8} (hk : k.length = 16) {d : Nat} (hd : d < 128) : Sm.kv k / 2 ^ (127 - d) = 2 * (Sm.kv k / 2 ^ (128 - d)) + Sm.bit k d := by
 have e := Sm.pre_succ (Sm.kv k) (127 - d)
 rw [show 127 - d + 1 = 128 - d by omega, ← Sm.bit_kv hk hd] at e
 exact e
def up (k : List UInt8) (d : Nat) (x s : List UInt8) : List UInt8 := if Sm.bit k d = 0 then Sb.join x s else Sb.join s x
theorem qIi {kv : List Sm.PR} (hf : qCj kv) {k : List UInt8} (hk : k.length = 16) {d : Nat} (hd : d < 128) : up k d (Sm.ndB kv k (d + 1)) (Sm.ndB kv (turn k d) (d + 1)) = Sm.ndB kv k d := by
  have hb := Sm.bit_le k d
  have ht := qLe hk hd
  have hs := qLu hk hd
  unfold up
  split
  · rename_i h
    rw [h] at ht hs
    exact Sm.ndB_join hf.once hf.k16 hk hk ((qBq k d).trans hk) hd hs ht
  · rename_i h
    rw [show Sm.bit k d = 1 by omega] at ht hs
    exact Sm.ndB_join hf.once hf.k16 hk ((qBq k d).trans hk) hk hd ht hs
def bsd (kv : List Sm.PR) (k : List UInt8) (d n : Nat) : List (List UInt8) := (List.range n).map fun i => Sm.ndB kv (turn k (d + i)) (d + i + 1)
theorem qOv (kv : List Sm.PR) (k : List UInt8) (d n : Nat) : bsd kv k d (n + 1) = bsd kv k d n ++ [Sm.ndB kv (turn k (d + n)) (d + n + 1)] := by unfold bsd; rw [List.range_succ, List.map_append]; rfl
theorem qCA (kv : List Sm.PR) (k : List UInt8) (d n : Nat) : (bsd kv k d n).length = n := by unfold bsd; rw [List.length_map, List.length_range]
theorem qJD (kv : List Sm.PR) (k : List UInt8) (d : Nat) {n i : Nat} (hi : i < n) : (bsd kv k d n).getD i [] = Sm.ndB kv (turn k (d + i)) (d + i + 1) := by
 unfold bsd
 rw [List.getD_eq_getElem?_getD, List.getElem?_map, List.getElem?_range hi]; rfl
def clm (k : List UInt8) (d : Nat) (bs : List (List UInt8)) (x : List UInt8) : Nat → List UInt8
 | 0 => x
 | i + 1 => up k (d + (bs.length - 1 - i)) (clm k d bs x i) (bs.getD (bs.length - 1 - i) [])
theorem qHD {kv : List Sm.PR} (hf : qCj kv) {k : List UInt8} (hk : k.length = 16) {d n : Nat} (hd : d + n ≤ 128) : ∀ i, i ≤ n → clm k d (bsd kv k d n) (Sm.ndB kv k (d + n)) i = Sm.ndB kv k (d + n - i)
 | 0, _ => rfl
 | i + 1, hi => by
  rw [clm, qHD hf hk hd i (by omega), qCA, qJD _ _ _ (by omega)]
  have h := qIi hf hk (d := d + (n - 1 - i)) (by omega)
  rw [show d + (n - 1 - i) + 1 = d + n - i by omega] at h ⊢
  rw [h, show d + (n - 1 - i) = d + n - (i + 1) by omega]
theorem qJ1 {a b : List UInt8} (ha : a.length ≤ 17) (hb : b.length ≤ 17) : (Sb.join a b).length ≤ 17 := by
  have e : Sb.join a b = if a = [0] ∧ (b = [0] ∨ Sb.isLf b) then b else if b = [0] ∧ Sb.isLf a then a else 2 :: Sha.tagged 10 [a, b] := by unfold Sb.join; rfl
  rw [e]
  split
  · exact hb
  · split
    · exact ha
    · rw [List.length_cons, Sha.tagged_length]; decide
theorem qIG {k : List UInt8} {d : Nat} {bs : List (List UInt8)} {x : List UInt8} (hb : ∀ s ∈ bs, s.length ≤ 17) (hx : x.length ≤ 17) : ∀ i, (clm k d bs x i).length ≤ 17
 | 0 => hx
 | i + 1 => by
  have h1 := qIG (k := k) (d := d) hb hx i
  have h2 : (bs.getD (bs.length - 1 - i) []).length ≤ 17 := by
   by_cases h : bs.length - 1 - i < bs.length
   · rw [List.getD_eq_getElem?_getD, List.getElem?_eq_getElem h]; exact hb _ (List.getElem_mem h)
   · rw [List.getD_eq_getElem?_getD, List.getElem?_eq_none (by omega)]; exact Nat.zero_le _
  rw [clm, up]
  split
  · exact qJ1 h1 h2
  · exact qJ1 h2 h1
def cur (kv : List Sm.PR) (k : List UInt8) (d : Nat) : List Sm.PR := Sm.bel kv k d
def kd (kv : List Sm.PR) (k : List UInt8) (d : Nat) : List (List UInt8) := (Sm.keysS kv).filter fun q => Sm.belowB q k d
theorem qGN {kv : List Sm.PR} (ho : Sm.Once kv) (k : List UInt8) (d : Nat) : (kd kv k d).length = (cur kv k d).length := by
 have h : (Sm.prs kv (kd kv k d)).length = (kd kv k d).length := Sm.prs_len _ _
 rw [← h]
 unfold kd
 rw [Sm.prs_filter]
 exact ((Sm.prs_perm ho).filter _).length_eq
theorem qK9 {q k : List UInt8} {d : Nat} (h : Sm.belowB q k (d + 1) = true) : Sm.belowB q k d = true := by
 rw [Sm.belowB_succ, Bool.and_eq_true] at h; exact h.1
theorem qQ1 (kv : List Sm.PR) (k : List UInt8) (d : Nat) : (kd kv k d).filter (fun q => Sm.belowB q k (d + 1)) = kd kv k (d + 1) := by
 unfold kd
 rw [List.filter_filter]
 refine List.filter_congr fun q _ => ?_
 cases h : Sm.belowB q k (d + 1) with
 | false => rfl
 | true => rw [qK9 h]; rfl
structure qLK (kv : List Sm.PR) (k : List UInt8) (d s : Nat) : Prop where
 ge : d ≤ s
 le : s ≤ 128
 one : (cur kv k s).length ≤ 1
 two : ∀ e, d ≤ e → e < s → 2 ≤ (cur kv k e).length
theorem qLK.from {kv : List Sm.PR} {k : List UInt8} {d e s : Nat} (h : qLK kv k d s) (h1 : d ≤ e) (h2 : e ≤ s) : qLK kv k e s := ⟨h2, h.le, h.one, fun x q1 q2 => h.two x (by omega) q2⟩
theorem qRB {kv : List Sm.PR} (hf : qCj kv) {k : List UInt8} (hk : k.length = 16) : (cur kv k 128).length ≤ 1 := (Sm.bel_wf hf.once hf.k16 hk (d := 128) (Nat.le_refl _)).short
def qBD (kv : List Sm.PR) (k : List UInt8) (s : Nat) : Bool := decide ((kd kv k s).length = 1)
def qDz (kv : List Sm.PR) (k : List UInt8) (s : Nat) : List UInt8 := if (kd kv k s).length = 1 then (kd kv k s).getD 0 [] else []
def qEE (kv : List Sm.PR) (k : List UInt8) (s : Nat) : List UInt8 := if (kd kv k s).length = 1 then (Sm.getP kv ((kd kv k s).getD 0 [])).getD [] else []
theorem qHA {kv : List Sm.PR} (ho : Sm.Once kv) {k : List UInt8} {s : Nat} (h : (kd kv k s).length = 1) : cur kv k s = [(qDz kv k s, qEE kv k s)] := by
 obtain ⟨q, hq⟩ := List.length_eq_one_iff.1 h
 have h1 : (cur kv k s).Perm (Sm.prs kv (kd kv k s)) := by
  unfold kd
  rw [Sm.prs_filter]
  exact (Sm.prs_perm ho).symm.filter _
 unfold qDz qEE
 rw [if_pos h, if_pos h, hq]
 rw [hq] at h1
 exact List.perm_singleton.1 h1
theorem qG2 : ∀ {f : Nat} {l : List Sm.PR}, Sm.WF f l → Sm.nd f l = [0] ∨ ((Sm.nd f l).length = 17 ∧ (((Sm.nd f l).getD 0 0).toNat = 1 ∨ ((Sm.nd f l).getD 0 0).toNat = 2))
  | f, [], _ => .inl (Sm.nd_nil f)
  | f, [p], _ => .inr (by rw [Sm.nd_one]; unfold Sb.leafN; exact ⟨by rw [List.length_cons, Sha.tagged_length], .inl rfl⟩)
  | 0, a :: b :: r, hw => by have := hw.short; simp at this
  | f + 1, a :: b :: r, hw => by
    rw [Sm.nd_two f (by simp)]
    have e : ∀ x y, Sb.join x y = if x = [0] ∧ (y = [0] ∨ Sb.isLf y) then y else if y = [0] ∧ Sb.isLf x then x else 2 :: Sha.tagged 10 [x, y] := fun x y => by unfold Sb.join; rfl
    rw [e]
    split
    · exact qG2 (hw.side false)
    · split
      · exact qG2 (hw.side true)
      · exact .inr ⟨by rw [List.length_cons, Sha.tagged_length], .inr rfl⟩
theorem qG1 : ∀ {f : Nat} {l : List Sm.PR}, Sm.WF f l → 2 ≤ l.length → ((Sm.nd f l).getD 0 0).toNat = 2
  | 0, l, hw, h => by have := hw.short; omega
  | f + 1, l, hw, h => by
    rw [Sm.nd_two f h]
    have e : ∀ x y, Sb.join x y = if x = [0] ∧ (y = [0] ∨ Sb.isLf y) then y else if y = [0] ∧ Sb.isLf x then x else 2 :: Sha.tagged 10 [x, y] := fun x y => by unfold Sb.join; rfl
    have hs := Sm.side_len f l
    have z1 := Sm.nd_eq0 (hw.side true)
    have z2 := Sm.nd_eq0 (hw.side false)
    rw [e]
    split
    · rename_i hc
      have h0 : (Sm.side f true l).length = 0 := by rw [z1.1 hc.1]; rfl
      have h2 := qG1 (hw.side false) (by omega)
      exact h2
    · split
      · rename_i hc
        have h0 : (Sm.side f false l).length = 0 := by rw [z2.1 hc.1]; rfl
        exact qG1 (hw.side true) (by omega)
      · rfl
def qMb (s : List UInt8) : Bool := decide (s = [0] ∨ (s.length = 17 ∧ ((s.getD 0 0).toNat = 1 ∨ (s.getD 0 0).toNat = 2)))
structure qNQ (bs : List (List UInt8)) (th : Bool) (pk pv k : List UInt8) (d : Nat) : Prop where
 k16 : k.length = 16
 le : d + bs.length ≤ 128
 nodes : ∀ j, j < bs.length → qMb (bs.getD j []) = true
 last : 0 < bs.length → bs.getD (bs.length - 1) [] ≠ [0] ∧ (th = false → ((bs.getD (bs.length - 1) []).getD 0 0).toNat = 2)
 no : th = false → pk = [] ∧ pv = []
 yes : th = true → pk.length = 16 ∧ Sm.belowB pk k (d + bs.length) = true
 small : ∀ s ∈ bs, s.length ≤ 17
theorem qNF (kv : List Sm.PR) (k : List UInt8) (d n : Nat) : ∀ s ∈ bsd kv k d n, s.length ≤ 17 := fun s hs => by
 unfold bsd at hs
 obtain ⟨i, _, rfl⟩ := List.mem_map.1 hs
 exact qD5 _ _ _
theorem qPe {kv : List Sm.PR} {k q : List UInt8} {s : Nat} (h : q ∈ kd kv k s) : (∃ v, (q, v) ∈ kv) ∧ Sm.belowB q k s = true := by
 obtain ⟨h1, h2⟩ := List.mem_filter.1 h
 exact ⟨Sm.keysS_mem.1 h1, h2⟩
theorem qMO {kv : List Sm.PR} (hf : qCj kv) {k : List UInt8} (hk : k.length = 16) {e : Nat} (he : e < 128) : (cur kv k (e + 1)).length + (Sm.bel kv (turn k e) (e + 1)).length = (cur kv k e).length := by
  have hb := Sm.bit_le k e
  have ht := qLe hk he
  have hs := qLu hk he
  have h := Sm.side_len (127 - e) (Sm.bel kv k e)
  have hl := hf.k16
  unfold cur
  by_cases h0 : Sm.bit k e = 0
  · rw [h0] at ht hs
    rw [Sm.bel_half hl hk hk he true (by rw [if_pos rfl]; exact hs), Sm.bel_half hl hk ((qBq k e).trans hk) he false (by rw [if_neg (by decide)]; exact ht)]
    exact h
  · rw [show Sm.bit k e = 1 by omega] at ht hs
    rw [Sm.bel_half hl hk hk he false (by rw [if_neg (by decide)]; exact hs), Sm.bel_half hl hk ((qBq k e).trans hk) he true (by rw [if_pos rfl]; exact ht)]
    omega
theorem qKh {kv : List Sm.PR} (hf : qCj kv) {k : List UInt8} (hk : k.length = 16) {d s : Nat} (h : qLK kv k d s) : qNQ (bsd kv k d (s - d)) (qBD kv k s) (qDz kv k s) (qEE kv k s) k d := by
  have hle := h.le
  have hge := h.ge
  have ht16 : ∀ e, (turn k e).length = 16 := fun e => (qBq k e).trans hk
  refine ⟨hk, by rw [qCA]; omega, fun j hj => ?_, fun h0 => ?_, fun ht => ?_, fun ht => ?_, qNF _ _ _ _⟩
  · rw [qCA] at hj
    rw [qJD _ _ _ hj]
    exact decide_eq_true (qG2 (Sm.bel_wf hf.once hf.k16 (ht16 _) (by omega)))
  · rw [qCA] at h0 ⊢
    rw [qJD _ _ _ (by omega)]
    have h2 := h.two (d + (s - d - 1)) (by omega) (by omega)
    have ho := qMO hf hk (e := d + (s - d - 1)) (by omega)
    have hone := h.one
    rw [show d + (s - d - 1) + 1 = s by omega] at ho ⊢
    have hw := Sm.bel_wf hf.once hf.k16 (ht16 (d + (s - d - 1))) (d := s) hle
    refine ⟨fun e => ?_, fun hth => ?_⟩
    · have := (Sm.nd_eq0 hw).1 e
      rw [this] at ho
      simp at ho
      omega
    · have h3 : (kd kv k s).length ≠ 1 := of_decide_eq_false hth
      rw [qGN hf.once] at h3
      exact qG1 hw (by omega)
  · have h3 : (kd kv k s).length ≠ 1 := of_decide_eq_false ht
    unfold qDz qEE
    rw [if_neg h3, if_neg h3]; exact ⟨rfl, rfl⟩
  · have h3 : (kd kv k s).length = 1 := of_decide_eq_true ht
    obtain ⟨q, hq⟩ := List.length_eq_one_iff.1 h3
    have hm : q ∈ kd kv k s := by rw [hq]; exact .head _
    obtain ⟨⟨v, hv⟩, hb⟩ := qPe hm
    unfold qDz
    rw [if_pos h3, hq, qCA, show d + (s - d) = s by omega]
    exact ⟨hf.k16 _ hv, hb⟩
theorem qOp {kv : List Sm.PR} (hf : qCj kv) {k : List UInt8} {d s : Nat} (h : qLK kv k d s) : (if qBD kv k s = true then Sb.leafN (qDz kv k s) (qEE kv k s) else [0]) = Sm.ndB kv k s := by
  unfold Sm.ndB
  have e1 : Sm.bel kv k s = cur kv k s := rfl
  have hone := h.one
  by_cases h3 : (kd kv k s).length = 1
  · rw [if_pos (show qBD kv k s = true from decide_eq_true h3), e1, qHA hf.once h3, Sm.nd_one]
  · rw [if_neg (by unfold qBD; rw [decide_eq_false h3]; decide)]
    rw [qGN hf.once] at h3
    rw [e1, List.eq_nil_of_length_eq_zero (show (cur kv k s).length = 0 by omega), Sm.nd_nil]
theorem tells {kv : List Sm.PR} (hf : qCj kv) {k : List UInt8} {d s : Nat} (h : qLK kv k d s) :
    (Sm.getP kv k).isSome = (qBD kv k s && decide (qDz kv k s = k)) ∧ (qBD kv k s = true → qDz kv k s = k → Sm.getP kv k = some (qEE kv k s)) := by
  have hself : Sm.belowB k k s = true := Sm.belowB_yes fun _ _ => rfl
  have hone := h.one
  have hmem : ∀ v, Sm.getP kv k = some v → (k, v) ∈ cur kv k s := fun v hv => List.mem_filter.2 ⟨Sm.getP_some hv, hself⟩
  by_cases h3 : (kd kv k s).length = 1
  · have hc := qHA hf.once h3
    have ht : qBD kv k s = true := decide_eq_true h3
    have hin : (qDz kv k s, qEE kv k s) ∈ kv := (List.mem_filter.1 (show (qDz kv k s, qEE kv k s) ∈ cur kv k s by rw [hc]; exact .head _)).1
    rw [ht, Bool.true_and]
    by_cases hk : qDz kv k s = k
    · have hg := Sm.getP_mem hf.once hin
      rw [show (qDz kv k s, qEE kv k s).1 = k from hk] at hg
      rw [hg, decide_eq_true hk]
      exact ⟨rfl, fun _ _ => rfl⟩
    · rw [decide_eq_false hk]
      refine ⟨?_, fun _ q => absurd q hk⟩
      cases hg : Sm.getP kv k with
      | none => rfl
      | some v =>
        have := hmem v hg
        rw [hc, List.mem_singleton] at this
        injection this with e _
        exact absurd e.symm hk
  · have ht : qBD kv k s = false := decide_eq_false h3
    rw [ht, Bool.false_and]
    refine ⟨?_, fun q => by cases q⟩
    rw [qGN hf.once] at h3
    have h0 : cur kv k s = [] := List.eq_nil_of_length_eq_zero (by omega)
    cases hg : Sm.getP kv k with
    | none => rfl
    | some v =>
      have := hmem v hg
      rw [h0] at this; cases this
theorem qJp {s : List UInt8} (h : s = [0]) : qMb s = true := decide_eq_true (.inl h)
theorem qEb {s : List UInt8} (h1 : s.length = 17) (h2 : (s.getD 0 0).toNat = 1 ∨ (s.getD 0 0).toNat = 2) : qMb s = true := decide_eq_true (.inr ⟨h1, h2⟩)
theorem qC7 {s : List UInt8} (h0 : ¬ s = [0]) (h : ¬ (s.length = 17 ∧ ((s.getD 0 0).toNat = 1 ∨ (s.getD 0 0).toNat = 2))) : qMb s = false := decide_eq_false (fun q => q.elim h0 h)
theorem qOY {s : List UInt8} (h : (s.getD 0 0).toNat = 2) : 0 < s.length := by
 cases s with
 | nil => cases h
 | cons a r => exact Nat.zero_lt_succ _
theorem ent94 : qAE prog 94 := qAE.of func94 rfl (by kernel_rfl)
theorem ent185 : qAE prog 185 := qAE.of func185 rfl (by kernel_rfl)
theorem ent219 : qAE prog 219 := qAE.of func219 rfl (by kernel_rfl)
theorem ent242 : qAE prog 242 := qAE.of func242 rfl (by kernel_rfl)
theorem qHk (F : Hp) (k : List UInt8) (z : Int) : Ct prog 94 [Str (k), I (z)] [F] (fun _ : Unit => .bool (decide (k.length = 16 ∧ 0 ≤ z ∧ z ≤ 128))) (fun _ => True) (fun _ => [F]) := by
 refine Ct.walk func94 rfl ntmps94 rfl (fun w0 hw0 => ?_)
 change J _ [(0, _), (1, _)] _ _ _
 refine J.g fun K1 hK1 => J.b rfl <| J.c hK1 <| J.E 0 1 ?_
 refine J.g fun K2 hK2 => J.b rfl <| J.f (qAk u9_ rfl rfl) rfl <| J.f (qAV rfl rfl rfl) rfl <| J.b rfl <| J.c5 (d := 8) rfl (fun h8 => ?_) (fun h8 => ?_)
 ·
  refine J.b rfl <| J.T (qBN rfl rfl rfl) rfl <| J.j 2 rfl <| J.c5 (d := 12) rfl (fun h12 => ?_) (fun h12 => ?_)
  ·
   refine J.b rfl <| J.T (qGE rfl rfl rfl) rfl <| J.j 2 rfl <| J.c hK2 <| J.u 4 ?_
   exact J.D <| J.V hw0 rfl () (by first | rw [decide_eq_false (by omega)] | rw [decide_eq_true (by omega)] | exact congrArg Value.bool (decide_eq_decide.2 (by omega))) trivial [0] rfl (by decide)
  refine J.j 4 rfl <| J.c hK2 <| J.u 4 ?_
  exact J.D <| J.V hw0 rfl () (by first | rw [decide_eq_false (by omega)] | rw [decide_eq_true (by omega)] | exact congrArg Value.bool (decide_eq_decide.2 (by omega))) trivial [0] rfl (by decide)
 refine J.j 8 rfl <| J.c hK2 <| J.u 4 ?_
 exact J.D <| J.V hw0 rfl () (by first | rw [decide_eq_false (by omega)] | rw [decide_eq_true (by omega)] | exact congrArg Value.bool (decide_eq_decide.2 (by omega))) trivial [0] rfl (by decide)
theorem qLd (F : Hp) (k : List UInt8) (hk : k.length = 16) (d : Nat) (hd : d < 128) : Ct prog 101 [Str (k), I ((d : Nat) : Int)] [F] (fun _ : Unit => Str (turn k d)) (fun _ => True) (fun _ => [F]) := by
 refine Ct.walk func101 rfl ntmps101 rfl (fun w0 hw0 => ?_)
 change J _ [(0, _), (1, _)] _ _ _
 refine J.g fun K1 hK1 => J.b rfl <| J.c hK1 <| J.E 0 1 ?_
 refine J.g fun K2 hK2 => J.b rfl <| J.p (qGB rfl rfl u9_ qBl u5_) rfl ?_
 rintro ⟨g7, c7, m7⟩ h7
 try dsimp only at h7
 change J _ ((7, .slice (some ⟨g7, 0, none⟩) k.length c7) :: _) _ [F, m7] _
 refine J.b rfl <| J.c hK2 <| J.E 1 5 ?_
 refine J.k fun K3 hK3 => J.c1 [F, m7] [11] (.y 0 (.y 1 (.y 2 (.y 3 (.y 4 (.y 5 (.y 6 (.y 7 (.y 8 (.y 9 (.y 10 (.e 11 .nil)))))))))))) Tryz.wide (by decide +kernel) (by simp) ?_
 refine J.O ?_
 refine J.O ?_
 refine J.q rfl ((qGC rfl rfl rfl (by first | omega | (simp only [List.length_append, List.length_cons, List.length_nil, List.length_take, List.length_drop] at *; omega))).nat (d / 8) (by omega)) rfl rfl <| J.q rfl (qA0 (i := d / 8) (j := 0 + (d / 8) * 1) rfl rfl rfl qBl z5_ (by first | omega | (simp only [List.length_append, List.length_cons, List.length_nil, List.length_take, List.length_drop] at *; omega)) (by omega)) rfl rfl <| J.q rfl (qAN rfl rfl isAgg5 (m := m7) (by simp) (h7.sl.cells (qBQ (qAg 0 (by first | omega | (simp only [List.length_append, List.length_cons, List.length_nil, List.length_take, List.length_drop] at *; omega)))))) rfl rfl <| J.O ?_
 refine J.q rfl ((qHo rfl rfl rfl (by first | omega | (simp only [List.length_append, List.length_cons, List.length_nil, List.length_take, List.length_drop] at *; omega))).nat (d % 8) (by omega)) rfl rfl <| J.q rfl ((qAp rfl rfl rfl (by omega)).nat (7 - d % 8) (by omega)) rfl rfl <| J.q rfl ((qQe (a := 1) (m := 7 - d % 8) rfl rfl rfl).as (v' := B8 (UInt8.ofNat (1 * 2 ^ (7 - d % 8)))) (by rw [Nat.min_eq_left (by omega)]; rfl)) rfl rfl <| J.q rfl (qMP rfl rfl rfl) rfl rfl <| J.q rfl (qA0 (i := d / 8) (j := 0 + (d / 8) * 1) rfl rfl rfl qBl z5_ (by first | omega | (simp only [List.length_append, List.length_cons, List.length_nil, List.length_take, List.length_drop] at *; omega)) (by omega)) rfl rfl <| J.d7 rfl (qBX (i := 1) (k := d / 8) (off := 0) (b := [B8 (k.getD (d / 8) 0 ^^^ UInt8.ofNat (1 * 2 ^ (7 - d % 8)))]) rfl rfl rfl rfl h7 (vs := [B8 (k.getD (d / 8) 0 ^^^ UInt8.ofNat (1 * 2 ^ (7 - d % 8)))]) rfl z5_ rfl (by omega) (qBQ (qAg 0 (by first | omega | (simp only [List.length_append, List.length_cons, List.length_nil, List.length_take, List.length_drop] at *; omega)))) rfl (Nat.le_refl _)) rfl rfl rfl ?_
 rintro m2_1 hm2_1
 change J _ _ _ [_, m2_1] _
 rw [qET] at hm2_1
 refine J.b5 <| J.A (J.L hK3 ?_)
 refine J.u 5 ?_
 refine J.g fun K4 hK4 => J.b rfl <| J.f (qCE (l := k.set (d / 8) (k.getD (d / 8) 0 ^^^ UInt8.ofNat (1 * 2 ^ (7 - d % 8)))) rfl rfl qBl u5_ u9_ (m := m2_1) (by simp) hm2_1.sl) rfl <| J.b rfl <| J.c hK4 <| J.u 4 ?_
 exact J.D <| J.V hw0 rfl () (by unfold turn; rfl) trivial [0] rfl (by decide)
theorem qN9 (F : Hp) (s : List UInt8) : Ct prog 185 [Str (s)] [F] (fun _ : Unit => .bool (qMb s)) (fun _ => True) (fun _ => [F]) := by
 refine Ct.walk func185 rfl ntmps185 rfl (fun w0 hw0 => ?_)
 change J _ [(0, _)] _ _ _
 refine J.g fun K1 hK1 => J.b rfl <| J.c hK1 <| J.u 0 ?_
 refine J.g fun K2 hK2 => J.b rfl <| J.f (qBL rfl rfl rfl) rfl <| J.b rfl <| J.c5 (d := 5) rfl (fun h5 => ?_) (fun h5 => ?_)
 ·
  refine J.j 4 rfl <| J.d4 (Wan.un rfl rfl rfl rfl) rfl rfl ?_
  refine J.d4 (Wan.un rfl rfl rfl rfl) rfl rfl ?_
  refine J.d4 (Wan.un rfl rfl rfl rfl) rfl rfl ?_
  refine J.d4 (Wan.un rfl rfl rfl rfl) rfl rfl ?_
  refine J.d4 (Wan.un rfl rfl rfl rfl) rfl rfl ?_
  refine J.d4 (Wan.un rfl rfl rfl rfl) rfl rfl ?_
  refine J.d4 (Wan.un rfl rfl rfl rfl) rfl rfl ?_
  refine J.d4 (Wan.un rfl rfl rfl rfl) rfl rfl ?_
  refine J.j 3 rfl <| J.c hK2 <| J.u 2 ?_
  exact J.D <| J.V hw0 rfl () (by first | rw [qJp (by assumption)] | rw [qEb (by omega) (by omega)] | rw [qC7 (by assumption) (by omega)] | (by_cases q : (s.getD 0 0).toNat = 2; rw [qEb (by omega) (.inr q), decide_eq_true (by omega)]; rw [qC7 (by assumption) (by omega), decide_eq_false (by omega)])) trivial [0] rfl (by decide)
 refine J.b rfl <| J.T (qAk u9_ rfl rfl) rfl <| J.T (qAV rfl rfl rfl) rfl <| J.b rfl <| J.c5 (d := 9) rfl (fun h9 => ?_) (fun h9 => ?_)
 ·
  refine J.b rfl <| J.T (qBC (c := s.getD 0 0) u9_ rfl rfl rfl (qAg 0 (by first | omega | (simp only [List.length_append, List.length_cons, List.length_nil, List.length_take, List.length_drop] at *; omega)))) rfl <| J.T (qAV rfl rfl rfl) rfl <| J.b rfl <| J.c5 (d := 13) rfl (fun h13 => ?_) (fun h13 => ?_)
  ·
   refine J.j 7 rfl <| J.c hK2 <| J.u 2 ?_
   exact J.D <| J.V hw0 rfl () (by first | rw [qJp (by assumption)] | rw [qEb (by omega) (by omega)] | rw [qC7 (by assumption) (by omega)] | (by_cases q : (s.getD 0 0).toNat = 2; rw [qEb (by omega) (.inr q), decide_eq_true (by omega)]; rw [qC7 (by assumption) (by omega), decide_eq_false (by omega)])) trivial [0] rfl (by decide)
  refine J.b rfl <| J.T (qBC (c := s.getD 0 0) u9_ rfl rfl rfl (qAg 0 (by first | omega | (simp only [List.length_append, List.length_cons, List.length_nil, List.length_take, List.length_drop] at *; omega)))) rfl <| J.T (qAV rfl rfl rfl) rfl <| J.j 4 rfl <| J.c hK2 <| J.u 2 ?_
  exact J.D <| J.V hw0 rfl () (by first | rw [qJp (by assumption)] | rw [qEb (by omega) (by omega)] | rw [qC7 (by assumption) (by omega)] | (by_cases q : (s.getD 0 0).toNat = 2; rw [qEb (by omega) (.inr q), decide_eq_true (by omega)]; rw [qC7 (by assumption) (by omega), decide_eq_false (by omega)])) trivial [0] rfl (by decide)
 refine J.j 4 rfl <| J.d4 (Wan.un rfl rfl rfl rfl) rfl rfl ?_
 refine J.d4 (Wan.un rfl rfl rfl rfl) rfl rfl ?_
 refine J.d4 (Wan.un rfl rfl rfl rfl) rfl rfl ?_
 refine J.j 4 rfl <| J.c hK2 <| J.u 2 ?_
 exact J.D <| J.V hw0 rfl () (by first | rw [qJp (by assumption)] | rw [qEb (by omega) (by omega)] | rw [qC7 (by assumption) (by omega)] | (by_cases q : (s.getD 0 0).toNat = 2; rw [qEb (by omega) (.inr q), decide_eq_true (by omega)]; rw [qC7 (by assumption) (by omega), decide_eq_false (by omega)])) trivial [0] rfl (by decide)
theorem qI3 (F : Hp) (A : Option Addr) (c : Nat) (bs : List (List UInt8)) (hs : Sl F 1 A bs.length c (qAI bs)) (th : Bool) (pk pv k : List UInt8) (d : Nat) (hg : qNQ bs th pk pv k d) : Ct prog 149 [.agg #[.slice A bs.length c, .bool (th), Str (pk), Str (pv)], Str (k), I ((d : Nat) : Int)] [F] (fun _ : Unit => .bool true) (fun _ => True) (fun _ => [F]) := by
 have hle := hg.le
 have hk16 := hg.k16
 refine Ct.walk func149 rfl ntmps149 rfl (fun w0 hw0 => ?_)
 change J _ [(0, _), (1, _), (2, _)] _ _ _
 refine J.g fun K1 hK1 => J.p (qAf (l := [.slice A bs.length c, .bool (th), Str (pk), Str (pv)]) rfl rfl rfl) rfl fun g3 _ => ?_
 change J _ _ _ [F, blk g3 [.slice A bs.length c, .bool (th), Str (pk), Str (pv)] 58] _
 refine J.b rfl <| J.c hK1 <| J.H 1 2 3 ?_
 refine J.g fun K2 hK2 => J.a2 0 qCw qB0 rfl rfl rfl rfl rfl <| J.f (qAC 1 (v := .slice A bs.length c) rfl rfl rfl qCQ rfl) rfl <| J.f (qAa qAh rfl rfl) rfl <| J.b rfl <| J.c hK2 <| J.M 1 2 3 7 ?_
 refine J.k fun K3 hK3 => J.g fun K4 hK4 => J.j 2 rfl <| J.p (qAB rfl rfl ent94 (Ct.use0 (fun F' hF => qHk F' k ((d : Nat) : Int)))) rfl fun g16 _ => J.f ((qA1 rfl rfl).as (v' := .bool false) (by rw [decide_eq_true (show k.length = 16 ∧ (0 : Int) ≤ ((d : Nat) : Int) ∧ ((d : Nat) : Int) ≤ 128 from ⟨hk16, by omega, by omega⟩)]; rfl)) rfl <| J.j 3 rfl <| J.T (qAp rfl rfl rfl (by first | omega | (simp only [List.length_append, List.length_cons, List.length_nil, List.length_take, List.length_drop] at *; omega))) rfl <| J.T ((qAx rfl rfl rfl).no (by omega)) rfl <| J.b rfl <| J.c hK4 <| J.a0 1 2 3 7 23 ?_
 refine J.a8 ?_
 refine J.W hK3 <| J.M 1 2 3 7 ?_
 refine J.k fun K5 hK5 => J.g fun K6 hK6 => J.a2 0 qCw qB0 rfl rfl rfl rfl rfl <| J.f (qAC 1 (v := .slice A bs.length c) rfl rfl rfl qCQ rfl) rfl <| J.f (qAa qAh rfl rfl) rfl <| J.b rfl <| J.c hK6 <| J.c2 1 2 3 7 25 26 27 ?_
 refine J.a1 <| J.c0 (X := Nat) (fun ζ => [(1, Str (k)), (2, I ((d : Nat) : Int)), (3, Ptr g3), (7, I ((bs.length : Nat) : Int)), (25, .slice A bs.length c), (26, I ((bs.length : Nat) : Int)), (27, I ((ζ : Nat) : Int))]) (fun ζ => [F, blk g3 [.slice A bs.length c, .bool (th), Str (pk), Str (pv)] 58]) (fun ζ => ζ ≤ bs.length) (fun ζ => bs.length - ζ) 0 (Nat.zero_le _) ⟨rfl, rfl, rfl, rfl, rfl, rfl, rfl, trivial⟩ (fun _ h => h) ?_
 rintro i hi I0 hI0
 refine J.g fun K7 hK7 => J.f (qAW rfl rfl rfl) rfl <| J.c hK7 <| J.d3 1 2 3 7 25 26 27 28 ?_
 refine J.k fun K8 hK8 => J.a5 rfl (fun h28 => ?_) (fun h28 => ?_)
 ·
  refine J.W hK8 <| J.c2 1 2 3 7 25 26 27 ?_
  refine J.k fun K9 hK9 => J.a1 <| J.g fun K10 hK10 => J.f (qAH (i := i) rfl rfl rfl qAh z9_ hs (by first | omega | (simp only [List.length_append, List.length_cons, List.length_nil, List.length_take, List.length_drop] at *; omega))) rfl <| J.f (qAN rfl rfl b9_ (m := F) (by simp) (hs.elem (qAZ (qAg [] (by first | omega | (simp only [List.length_append, List.length_cons, List.length_nil, List.length_take, List.length_drop] at *; omega)))))) rfl <| J.b rfl <| J.c hK10 <| J.d3 1 2 3 7 9 25 26 27 ?_
  refine J.g fun K11 hK11 => J.b rfl <| J.p (qAB rfl rfl ent185 (Ct.use0 (fun F' hF => qN9 F' (bs.getD i [])))) rfl fun g32 _ => J.f ((qA1 rfl rfl).as (v' := .bool false) (by rw [hg.nodes i (by omega)]; rfl)) rfl <| J.c hK11 <| J.d3 1 2 3 7 25 26 27 33 ?_
  refine J.a8 ?_
  refine J.c7 <| J.a9 <| J.A (J.L hK9 ?_)
  refine J.c2 1 2 3 7 25 26 27 ?_
  exact J.G <| J.f ((qAR rfl rfl rfl (by first | omega | (simp only [List.length_append, List.length_cons, List.length_nil, List.length_take, List.length_drop] at *; omega))).nat (i + 1) (by omega)) rfl <| J.b rfl <| J.a7 <| J.A <| J.b0 (i + 1) (fun η (hη : _ ∧ bs.length - η < bs.length - i) => hI0 η hη.1 hη.2) ⟨(by omega), by first | omega | (dsimp only; omega)⟩ ⟨rfl, rfl, rfl, rfl, rfl, rfl, rfl, trivial⟩ (fun _ h => h)
 refine J.b7 <| J.a6 <| J.a6 <| J.b8 ?_
 refine J.A (J.L hK5 ?_)
 refine J.M 1 2 3 7 ?_
 refine J.k fun K12 hK12 => J.g fun K13 hK13 => J.b rfl <| J.f (qAx rfl rfl rfl) rfl <| J.c hK13 <| J.a0 1 2 3 7 36 ?_
 refine J.a5 rfl (fun h36 => ?_) (fun h36 => ?_)
 ·
  obtain ⟨hl1, hl2⟩ := hg.last (by omega)
  refine J.g fun K14 hK14 => J.a2 0 qCw qB0 rfl rfl rfl rfl rfl <| J.f (qAC 1 (v := .slice A bs.length c) rfl rfl rfl qCQ rfl) rfl <| J.b rfl <| J.f ((qAp rfl rfl rfl (by omega)).nat (bs.length - 1) (by omega)) rfl <| J.f (qAH (i := bs.length - 1) rfl rfl rfl qAh z9_ hs (by first | omega | (simp only [List.length_append, List.length_cons, List.length_nil, List.length_take, List.length_drop] at *; omega))) rfl <| J.f (qAN rfl rfl b9_ (m := F) (by simp) (hs.elem (qAZ (qAg [] (by first | omega | (simp only [List.length_append, List.length_cons, List.length_nil, List.length_take, List.length_drop] at *; omega)))))) rfl <| J.b rfl <| J.c hK14 <| J.a0 1 2 3 7 10 ?_
  refine J.g fun K15 hK15 => J.b rfl <| J.f ((qBL rfl rfl rfl).no (hl1)) rfl <| J.b rfl <| J.T (qAA (j := 1) rfl rfl qCw rfl z4_ rfl) rfl <| J.T (qAC 1 (v := .bool (th)) rfl rfl rfl b4_ rfl) rfl <| J.T (qA1 rfl rfl) rfl <| J.b rfl <| J.g1 (d := 49) rfl (fun h49 => ?_) (fun h49 => ?_)
  ·
   refine J.b rfl ?_
   have hl3 := qOY (hl2 (by simpa using h49))
   refine J.T (qBC (c := (bs.getD (bs.length - 1) []).getD 0 0) u9_ rfl rfl rfl (qAg 0 (by first | omega | (simp only [List.length_append, List.length_cons, List.length_nil, List.length_take, List.length_drop] at *; omega)))) rfl <| J.T ((qAY rfl rfl rfl).no (by have := hl2 (by simpa using h49); omega)) rfl <| J.j 2 rfl <| J.c hK15 <| J.a0 1 2 3 7 54 ?_
   refine J.a8 ?_
   refine J.W hK12 <| J.M 1 2 3 7 ?_
   refine J.k fun K16 hK16 => J.g fun K17 hK17 => J.a2 1 qCw z4_ rfl rfl rfl rfl rfl <| J.f (qAC 1 (v := .bool (th)) rfl rfl rfl b4_ rfl) rfl <| J.f (qA1 rfl rfl) rfl <| J.c hK17 <| J.a0 1 2 3 7 57 ?_
   refine J.e5 rfl (fun h57 => ?_) (fun h57 => ?_)
   ·
    refine J.g fun K18 hK18 => J.a2 2 qCw z9_ rfl rfl rfl rfl rfl <| J.f (qAC 1 (v := Str (pk)) rfl rfl rfl b9_ rfl) rfl <| J.f ((qBL rfl rfl rfl).yes ((hg.no (by simpa using h57)).1)) rfl <| J.b rfl <| J.T (qAA (j := 3) rfl rfl qCw rfl z9_ rfl) rfl <| J.T (qAC 1 (v := Str (pv)) rfl rfl rfl b9_ rfl) rfl <| J.T ((qBL rfl rfl rfl).yes ((hg.no (by simpa using h57)).2)) rfl <| J.j 2 rfl <| J.c hK18 <| J.u 6 ?_
    exact J.D <| J.a3 <| J.V hw0 rfl () (by first | rfl | (rw [Int.toNat_natCast, Nat.min_eq_left (by omega), (hg.yes (by simpa using h57)).2])) trivial [0] rfl (by decide)
   refine J.W hK16 <| J.M 1 2 3 7 ?_
   refine J.g fun K19 hK19 => J.a2 2 qCw z9_ rfl rfl rfl rfl rfl <| J.f (qAC 1 (v := Str (pk)) rfl rfl rfl b9_ rfl) rfl <| J.f (qAk u9_ rfl rfl) rfl <| J.f ((qAV rfl rfl rfl).yes (by have := (hg.yes (by simpa using h57)).1; omega)) rfl <| J.b rfl <| J.T (qAA (j := 2) rfl rfl qCw rfl z9_ rfl) rfl <| J.T (qAC 1 (v := Str (pk)) rfl rfl rfl b9_ rfl) rfl <| J.j 3 rfl <| J.T ((qAR rfl rfl rfl (by first | omega | (simp only [List.length_append, List.length_cons, List.length_nil, List.length_take, List.length_drop] at *; omega))).nat (d + bs.length) (by omega)) rfl ?_
   have hpl := (hg.yes (by simpa using h57)).1
   refine J.d6 (qAB rfl rfl ent100 (Ct.use0 (fun F' hF => qD8 F' pk (by omega) k (by omega) ((d + bs.length : Nat) : Int)))) rfl fun g77 _ => J.j 2 rfl <| J.c hK19 <| J.u 6 ?_
   exact J.D <| J.V hw0 rfl () (by first | rfl | (rw [Int.toNat_natCast, Nat.min_eq_left (by omega), (hg.yes (by simpa using h57)).2])) trivial [0] rfl (by decide)
  refine J.j 5 rfl <| J.c hK15 <| J.a0 1 2 3 7 54 ?_
  refine J.a8 ?_
  refine J.W hK12 <| J.M 1 2 3 7 ?_
  refine J.k fun K20 hK20 => J.g fun K21 hK21 => J.a2 1 qCw z4_ rfl rfl rfl rfl rfl <| J.f (qAC 1 (v := .bool (th)) rfl rfl rfl b4_ rfl) rfl <| J.f (qA1 rfl rfl) rfl <| J.c hK21 <| J.a0 1 2 3 7 57 ?_
  refine J.e5 rfl (fun h57 => ?_) (fun h57 => ?_)
  ·
   refine J.g fun K22 hK22 => J.a2 2 qCw z9_ rfl rfl rfl rfl rfl <| J.f (qAC 1 (v := Str (pk)) rfl rfl rfl b9_ rfl) rfl <| J.f ((qBL rfl rfl rfl).yes ((hg.no (by simpa using h57)).1)) rfl <| J.b rfl <| J.T (qAA (j := 3) rfl rfl qCw rfl z9_ rfl) rfl <| J.T (qAC 1 (v := Str (pv)) rfl rfl rfl b9_ rfl) rfl <| J.T ((qBL rfl rfl rfl).yes ((hg.no (by simpa using h57)).2)) rfl <| J.j 2 rfl <| J.c hK22 <| J.u 6 ?_
   exact J.D <| J.a3 <| J.V hw0 rfl () (by first | rfl | (rw [Int.toNat_natCast, Nat.min_eq_left (by omega), (hg.yes (by simpa using h57)).2])) trivial [0] rfl (by decide)
  refine J.W hK20 <| J.M 1 2 3 7 ?_
  refine J.g fun K23 hK23 => J.a2 2 qCw z9_ rfl rfl rfl rfl rfl <| J.f (qAC 1 (v := Str (pk)) rfl rfl rfl b9_ rfl) rfl <| J.f (qAk u9_ rfl rfl) rfl <| J.f ((qAV rfl rfl rfl).yes (by have := (hg.yes (by simpa using h57)).1; omega)) rfl <| J.b rfl <| J.T (qAA (j := 2) rfl rfl qCw rfl z9_ rfl) rfl <| J.T (qAC 1 (v := Str (pk)) rfl rfl rfl b9_ rfl) rfl <| J.j 3 rfl <| J.T ((qAR rfl rfl rfl (by first | omega | (simp only [List.length_append, List.length_cons, List.length_nil, List.length_take, List.length_drop] at *; omega))).nat (d + bs.length) (by omega)) rfl ?_
  have hpl := (hg.yes (by simpa using h57)).1
  refine J.d6 (qAB rfl rfl ent100 (Ct.use0 (fun F' hF => qD8 F' pk (by omega) k (by omega) ((d + bs.length : Nat) : Int)))) rfl fun g77 _ => J.j 2 rfl <| J.c hK23 <| J.u 6 ?_
  exact J.D <| J.V hw0 rfl () (by first | rfl | (rw [Int.toNat_natCast, Nat.min_eq_left (by omega), (hg.yes (by simpa using h57)).2])) trivial [0] rfl (by decide)
 refine J.W hK12 <| J.M 1 2 3 7 ?_
 refine J.k fun K24 hK24 => J.g fun K25 hK25 => J.a2 1 qCw z4_ rfl rfl rfl rfl rfl <| J.f (qAC 1 (v := .bool (th)) rfl rfl rfl b4_ rfl) rfl <| J.f (qA1 rfl rfl) rfl <| J.c hK25 <| J.a0 1 2 3 7 57 ?_
 refine J.e5 rfl (fun h57 => ?_) (fun h57 => ?_)
 ·
  refine J.g fun K26 hK26 => J.a2 2 qCw z9_ rfl rfl rfl rfl rfl <| J.f (qAC 1 (v := Str (pk)) rfl rfl rfl b9_ rfl) rfl <| J.f ((qBL rfl rfl rfl).yes ((hg.no (by simpa using h57)).1)) rfl <| J.b rfl <| J.T (qAA (j := 3) rfl rfl qCw rfl z9_ rfl) rfl <| J.T (qAC 1 (v := Str (pv)) rfl rfl rfl b9_ rfl) rfl <| J.T ((qBL rfl rfl rfl).yes ((hg.no (by simpa using h57)).2)) rfl <| J.j 2 rfl <| J.c hK26 <| J.u 6 ?_
  exact J.D <| J.a3 <| J.V hw0 rfl () (by first | rfl | (rw [Int.toNat_natCast, Nat.min_eq_left (by omega), (hg.yes (by simpa using h57)).2])) trivial [0] rfl (by decide)
 refine J.W hK24 <| J.M 1 2 3 7 ?_
 refine J.g fun K27 hK27 => J.a2 2 qCw z9_ rfl rfl rfl rfl rfl <| J.f (qAC 1 (v := Str (pk)) rfl rfl rfl b9_ rfl) rfl <| J.f (qAk u9_ rfl rfl) rfl <| J.f ((qAV rfl rfl rfl).yes (by have := (hg.yes (by simpa using h57)).1; omega)) rfl <| J.b rfl <| J.T (qAA (j := 2) rfl rfl qCw rfl z9_ rfl) rfl <| J.T (qAC 1 (v := Str (pk)) rfl rfl rfl b9_ rfl) rfl <| J.j 3 rfl <| J.T ((qAR rfl rfl rfl (by first | omega | (simp only [List.length_append, List.length_cons, List.length_nil, List.length_take, List.length_drop] at *; omega))).nat (d + bs.length) (by omega)) rfl ?_
 have hpl := (hg.yes (by simpa using h57)).1
 refine J.d6 (qAB rfl rfl ent100 (Ct.use0 (fun F' hF => qD8 F' pk (by omega) k (by omega) ((d + bs.length : Nat) : Int)))) rfl fun g77 _ => J.j 2 rfl <| J.c hK27 <| J.u 6 ?_
 exact J.D <| J.V hw0 rfl () (by first | rfl | (rw [Int.toNat_natCast, Nat.min_eq_left (by omega), (hg.yes (by simpa using h57)).2])) trivial [0] rfl (by decide)
theorem qOz (F : Hp) (B : Option Addr) (n e : Nat) : Ct prog 219 [.slice B n e] [F] (fun x : Nat => .func (.func 242) #[] #[Ptr x]) (fun _ => True) (fun x => [F, blk x [.slice B n e] 37]) := by
 refine Ct.walk func219 rfl ntmps219 rfl (fun w0 hw0 => ?_)
 change J _ [(0, _)] _ _ _
 refine J.g fun K1 hK1 => J.p (qAf (l := [.slice B n e]) rfl rfl rfl) rfl fun g1 _ => ?_
 change J _ _ _ [F, blk g1 [.slice B n e] 37] _
 refine J.b rfl <| J.c hK1 <| J.u 1 ?_
 refine J.g fun K2 hK2 => J.f (qBo rfl rfl) rfl <| J.b rfl <| J.c hK2 <| J.u 2 ?_
 exact J.D <| J.V hw0 rfl g1 rfl trivial [0, 1] rfl (by decide)
theorem qNI (Fr : Hp) (gB : Nat) (B : Option Addr) (W : List (List UInt8)) (e : Nat) (hn2 : W.length ≤ 1073741824) (ha : qAQ Fr ⟨gB, 0, none⟩ [.slice B W.length e]) (hs : Sl Fr 1 B W.length e (qAI W)) :
    qJL prog 242 [Ptr gB] Fr (fun i => [I ((W.length - 1 - i : Nat) : Int), Str (W.getD (W.length - 1 - i) [])]) W.length := by
  refine qJL.walk func242 rfl ntmps242 rfl (fun {X} M IY S l x0 w0 hw0 h0 hY => ?_)
  change J _ [(0, _), (1, _)] _ _ _
  refine J.g fun K1 hK1 => J.f (qAN (v := .slice B W.length e) rfl rfl qCQ (m := Fr) (by simp) (ha)) rfl <| J.f (qAa qAh rfl rfl) rfl <| J.f ((qAp rfl rfl rfl (by omega)).as (v' := I ((W.length : Int) - 1 - ((0 : Nat) : Int))) (congrArg I (by omega))) rfl <| J.b rfl <| J.c hK1 <| J.H 0 1 3 ?_
  refine J.a1 <| J.c0 (X := Nat × X) (fun y => [(0, .func (.yield l) #[] #[]), (1, Ptr gB), (3, I ((W.length : Int) - 1 - (y.1 : Int)))]) (fun y => [Fr, M y.2]) (fun y => y.1 ≤ W.length ∧ IY y.1 y.2) (fun y => W.length - y.1) (0, x0) (⟨Nat.zero_le _, h0⟩) ⟨rfl, rfl, rfl, trivial⟩ (fun _ h => h) ?_
  rintro ⟨i, x⟩ ⟨hi, hI⟩ I0 hI0
  dsimp only at hi hI ⊢
  refine J.k fun K2 hK2 => J.g fun K3 hK3 => J.b rfl <| J.f (qBN rfl rfl rfl) rfl <| J.c hK3 <| J.M 0 1 3 8 ?_
  refine J.a5 rfl (fun h8 => ?_) (fun h8 => ?_)
  ·
    refine J.W hK2 <| J.H 0 1 3 ?_
    refine J.k fun K4 hK4 => J.a1 <| J.k fun K5 hK5 => J.g5 ?_
    refine J.d5 (qAl rfl rfl) rfl rfl rfl ?_
    refine J.d5 ((qAl rfl rfl).nat (W.length - 1 - i) (by omega)) rfl rfl rfl ?_
    refine J.d5 (qAN (v := .slice B W.length e) rfl rfl qCQ (m := Fr) (by simp) (ha)) rfl rfl rfl ?_
    refine J.d5 ((qAl rfl rfl).nat (W.length - 1 - i) (by omega)) rfl rfl rfl ?_
    refine J.d5 (qAH (i := W.length - 1 - i) rfl rfl rfl qAh z9_ hs (by first | omega | (simp only [List.length_append, List.length_cons, List.length_nil, List.length_take, List.length_drop] at *; omega))) rfl rfl rfl ?_
    refine J.d5 (qAN rfl rfl b9_ (m := Fr) (by simp) (hs.elem (qAZ (qAg [] (by first | omega | (simp only [List.length_append, List.length_cons, List.length_nil, List.length_take, List.length_drop] at *; omega)))))) rfl rfl rfl ?_
    refine J.g6 (ex := []) rfl rfl rfl rfl rfl rfl (hY i x (by omega) hI) ?_
    rintro x' b hb1 hb2
    cases b
    ·
      have hyb := hb2 rfl
      change J _ _ _ [Fr, M x'] _
      refine J.d5 (qA1 rfl rfl) rfl rfl rfl ?_
      refine J.f5 ?_
      refine J.A (J.L hK5 ?_)
      refine J.M 0 1 3 18 ?_
      refine J.c6 ?_
      exact J.D <| J.b6 <| J.a3 <| J.a3 <| J.b6 <| J.b4 hw0 (fun _ _ h => h) (qJc rfl) (fun w hs => ⟨x', ⟨_, rfl⟩, .inr hyb, hs⟩)
    have hyb := hb1 rfl
    change J _ _ _ [Fr, M x'] _
    refine J.d5 (qA1 rfl rfl) rfl rfl rfl ?_
    refine J.f5 ?_
    refine J.A (J.L hK5 ?_)
    refine J.M 0 1 3 18 ?_
    refine J.a8 ?_
    refine J.c7 <| J.a9 <| J.A (J.L hK4 ?_)
    refine J.H 0 1 3 ?_
    exact J.G <| J.b rfl <| J.f ((qAp rfl rfl rfl (by omega)).as (v' := I ((W.length : Int) - 1 - ((i + 1 : Nat) : Int))) (congrArg I (by omega))) rfl <| J.b rfl <| J.a7 <| J.A <| J.b0 (i + 1, x') (fun y (hy : _ ∧ W.length - y.1 < W.length - i) => hI0 y hy.1 hy.2) ⟨⟨by dsimp only; omega, hyb⟩, by dsimp only; omega⟩ ⟨rfl, rfl, rfl, trivial⟩ (fun _ h => h)
  refine J.b7 <| J.a6 <| J.a6 <| J.b8 ?_
  exact J.e7 hw0 (fun _ _ h => h) (qJc rfl) (fun w hs => ⟨x, ⟨_, rfl⟩, .inl (by rw [show W.length = i by omega]; exact hI), hs⟩)
theorem qC4 (F : Hp) (hK : KF F) (A : Option Addr) (c : Nat) (bs : List (List UInt8)) (hs : Sl F 1 A bs.length c (qAI bs)) (th : Bool) (pk pv xx k : List UInt8) (d : Nat) (hle : d + bs.length ≤ 128) (hk16 : k.length = 16) (hsm : ∀ s ∈ bs, s.length ≤ 17) (hx : xx.length ≤ 17) :
    Ct prog 186 [.agg #[.slice A bs.length c, .bool (th), Str (pk), Str (pv)], Str xx, Str k, I ((d : Nat) : Int)] [F] (fun _ : Unit => Str (clm k d bs xx bs.length)) (fun _ => True) (fun _ => [F]) := by
  refine Ct.walk func186 rfl ntmps186 rfl (fun w0 hw0 => ?_)
  change J _ [(0, _), (1, _), (2, _), (3, _)] _ _ _
  refine J.g fun K1 hK1 => J.p (qAf (l := [.slice A bs.length c, .bool (th), Str (pk), Str (pv)]) rfl rfl rfl) rfl fun g4 _ => ?_
  change J _ _ _ [F, blk g4 [.slice A bs.length c, .bool (th), Str (pk), Str (pv)] 58] _
  refine J.p (qAf (l := [Str (xx)]) rfl rfl rfl) rfl fun g5 _ => ?_
  change J _ _ _ [_, _, blk g5 [Str (xx)] 9] _
  refine J.p (qAf (l := [Str (k)]) rfl rfl rfl) rfl fun g6 _ => ?_
  change J _ _ _ [_, _, _, blk g6 [Str (k)] 9] _
  refine J.p (qAf (l := [I ((d : Nat) : Int)]) rfl rfl rfl) rfl fun g7 _ => ?_
  change J _ _ _ [_, _, _, _, blk g7 [I ((d : Nat) : Int)] 3] _
  refine J.b rfl <| J.c hK1 <| J.M 4 5 6 7 ?_
  refine J.k fun K2 hK2 => J.g fun K3 hK3 => J.a2 0 qCw qB0 rfl rfl rfl rfl rfl <| J.f (qAC 1 (v := .slice A bs.length c) rfl rfl rfl qCQ rfl) rfl <| J.p (qAB rfl rfl ent219 (Ct.use (new := fun x : Nat => [blk x [.slice A bs.length c] 37]) (fun F' _ => qOz F' A bs.length c))) rfl ?_
  rintro gB _
  change J _ ((13, .func (.func 242) #[] #[Ptr gB]) :: _) _ [_, _, _, _, _, blk gB [.slice A bs.length c] 37] _
  refine J.c hK3 <| J.M 5 6 7 13 ?_
  refine J.a1 <| J.c9 [2, 0, 1, 3, 4, 5] [blk g5 [Str (xx)] 9, F, blk g4 [.slice A bs.length c, .bool (th), Str (pk), Str (pv)] 58, blk g6 [Str (k)] 9, blk g7 [I ((d : Nat) : Int)] 3, blk gB [.slice A bs.length c] 37] rfl (by decide) <| J.h5 (fun x : List UInt8 => [blk g5 [Str (x)] 9]) [F, blk g4 [.slice A bs.length c, .bool (th), Str (pk), Str (pv)] 58, blk g6 [Str (k)] 9, blk g7 [I ((d : Nat) : Int)] 3, blk gB [.slice A bs.length c] 37] (fun i x => x = clm k d bs xx i) (fun _ _ => False) xx rfl ent242 (fun Fr hF => qNI Fr gB A bs c (by omega) (qAQ.blk0.mono (hF (blk gB [.slice A bs.length c] 37) (by simp))) (hs.mono (hF F (by simp)))) (fun _ _ => rfl) rfl (rfl) ?_ ?_ ?_
  ·
    intro i x l wa wb hi hI K4 Post4 hK4 hN4 hR4 hE4
    subst hI
    obtain ⟨y, hy⟩ : ∃ y, y = clm k d bs xx i := ⟨_, rfl⟩
    obtain ⟨s, hsd⟩ : ∃ s, s = bs.getD (bs.length - 1 - i) [] := ⟨_, rfl⟩
    have hyl : y.length ≤ 17 := by rw [hy]; exact qIG hsm hx i
    have hsl : s.length ≤ 17 := by rw [hsd, List.getD_eq_getElem?_getD, List.getElem?_eq_getElem (show bs.length - 1 - i < bs.length by omega)]; exact hsm _ (List.getElem_mem _)
    rw [← hy, ← hsd]
    change J _ ((15, Str s) :: (14, I ((bs.length - 1 - i : Nat) : Int)) :: _) _ [blk g5 [Str (y)] 9, F, blk g4 [.slice A bs.length c, .bool (th), Str (pk), Str (pv)] 58, blk g6 [Str (k)] 9, blk g7 [I ((d : Nat) : Int)] 3, blk gB [.slice A bs.length c] 37] _
    refine J.f9 (fun K5 hK5 => ?_)
    refine J.e8 ?_
    refine J.b rfl <| J.e9 ?_
    refine J.A (J.L hK5 ?_)
    refine J.a0 5 6 7 9 15 ?_
    refine J.e8 ?_
    refine J.b rfl <| J.e9 ?_
    refine J.A (hK4 _ _ ?_)
    refine J.a0 5 6 7 9 10 ?_
    refine J.g4 ?_
    refine J.f9 (fun K6 hK6 => ?_)
    refine J.e8 ?_
    refine J.d1 3 b9_ rfl rfl rfl rfl rfl <| J.d1 4 b3_ rfl rfl rfl rfl rfl <| J.b rfl <| J.f ((qAR rfl rfl rfl (by omega)).nat (d + (bs.length - 1 - i)) (by omega)) rfl <| J.p (qAB rfl rfl ent147 (Ct.use0 (fun F' hF => qEj F' k (by omega) (d + (bs.length - 1 - i)) (by omega)))) rfl fun g20 _ => J.f (qAV rfl rfl rfl) rfl <| J.e9 ?_
    refine J.A (J.L hK6 ?_)
    refine J.H 5 10 21 ?_
    refine J.h4 rfl (fun h21 => ?_) (fun h21 => ?_)
    ·
      refine J.e8 ?_
      refine J.d1 0 b9_ rfl rfl rfl rfl rfl <| J.b rfl <| J.p (qAB rfl rfl ent177 (Ct.use0 (fun F' hF => qB3 F' (hK.mo hF) y s (by omega) (by omega)))) rfl fun g24 _ => J.b1 (qAG (l := [Str (y)]) (i := 0) (vs := [Str (Sb.join y s)]) rfl rfl rfl rfl rfl z9_ rfl rfl) rfl rfl fun _ _ => ?_
      change J _ _ _ [blk g5 [Str (Sb.join y s)] 9, _, _, _, _, _] _
      refine J.e9 ?_
      refine J.a9 ?_
      exact hN4 _ (Sb.join y s) (by rw [clm, up, if_pos (by omega), ← hy, ← hsd])
    refine J.e8 ?_
    refine J.b rfl <| J.d1 0 b9_ rfl rfl rfl rfl rfl <| J.p (qAB rfl rfl ent177 (Ct.use0 (fun F' hF => qB3 F' (hK.mo hF) s y (by omega) (by omega)))) rfl fun g27 _ => J.b1 (qAG (l := [Str (y)]) (i := 0) (vs := [Str (Sb.join s y)]) rfl rfl rfl rfl rfl z9_ rfl rfl) rfl rfl fun _ _ => ?_
    change J _ _ _ [blk g5 [Str (Sb.join s y)] 9, _, _, _, _, _] _
    refine J.e9 ?_
    refine J.a9 ?_
    exact hN4 _ (Sb.join s y) (by rw [clm, up, if_neg (by omega), ← hy, ← hsd])
  ·
    intro w4 x hx4 hI
    subst hI
    change J _ _ _ [blk g5 [Str (clm k d bs xx bs.length)] 9, F, blk g4 [.slice A bs.length c, .bool (th), Str (pk), Str (pv)] 58, blk g6 [Str (k)] 9, blk g7 [I ((d : Nat) : Int)] 3, blk gB [.slice A bs.length c] 37] _
    refine J.a9 <| J.A (J.L hK2 ?_)
    refine J.u 5 ?_
    refine J.g fun K7 hK7 => J.d1 0 b9_ rfl rfl rfl rfl rfl <| J.b rfl <| J.c hK7 <| J.u 8 ?_
    exact J.D <| J.g0 hw0 hx4 (fun _ _ h => h) (qIc rfl rfl) (qAj () rfl trivial [1] rfl (by decide))
  intro w4 x c hx4 hS
  exact hS.elim
theorem ent96 : qAE prog 96 := qAE.of func96 rfl (by kernel_rfl)
theorem ent99 : qAE prog 99 := qAE.of func99 rfl (by kernel_rfl)
theorem ent101 : qAE prog 101 := qAE.of func101 rfl (by kernel_rfl)
theorem ent102 : qAE prog 102 := qAE.of func102 rfl (by kernel_rfl)
theorem ent149 : qAE prog 149 := qAE.of func149 rfl (by kernel_rfl)
theorem ent150 : qAE prog 150 := qAE.of func150 rfl (by kernel_rfl)
theorem ent186 : qAE prog 186 := qAE.of func186 rfl (by kernel_rfl)
def qFN (bs : List (List UInt8)) (th : Bool) (pk pv k : List UInt8) (d : Nat) : List UInt8 := clm k d bs (if th = true then Sb.leafN pk pv else [0]) bs.length
theorem qCI (k v : List UInt8) : (Sb.leafN k v).length ≤ 17 := by unfold Sb.leafN; rw [List.length_cons, Sha.tagged_length]; exact Nat.le_refl _
theorem qOB (F : Hp) (hK : KF F) (A : Option Addr) (c : Nat) (bs : List (List UInt8)) (hs : Sl F 1 A bs.length c (qAI bs)) (th : Bool) (pk pv k : List UInt8) (d : Nat) (hg : qNQ bs th pk pv k d) (hpv : pv.length ≤ 1000000) : Ct prog 150 [.agg #[.slice A bs.length c, .bool (th), Str (pk), Str (pv)], Str (k), I ((d : Nat) : Int)] [F] (fun _ : Unit => Str (qFN bs th pk pv k d)) (fun _ => True) (fun _ => [F]) := by
 have hle := hg.le
 have hk16 := hg.k16
 have hsm := hg.small
 refine Ct.walk func150 rfl ntmps150 rfl (fun w0 hw0 => ?_)
 change J _ [(0, _), (1, _), (2, _)] _ _ _
 refine J.g fun K1 hK1 => J.p (qAf (l := [.slice A bs.length c, .bool (th), Str (pk), Str (pv)]) rfl rfl rfl) rfl fun g3 _ => ?_
 change J _ _ _ [F, blk g3 [.slice A bs.length c, .bool (th), Str (pk), Str (pv)] 58] _
 refine J.b rfl <| J.c hK1 <| J.H 1 2 3 ?_
 refine J.k fun K2 hK2 => J.g fun K3 hK3 => J.c4 1 qJH qFn rfl rfl rfl rfl rfl <| J.j 2 rfl <| J.p (qAB rfl rfl ent149 (Ct.use0 (fun F' hF => qI3 F' A c bs (hs.mono (hF F (by simp))) th pk pv k d (by assumption)))) rfl fun g11 _ => J.f (qA1 rfl rfl) rfl <| J.c hK3 <| J.M 1 2 3 12 ?_
 refine J.a8 ?_
 refine J.W hK2 <| J.H 1 2 3 ?_
 refine J.g fun K4 hK4 => J.b rfl <| J.c hK4 <| J.M 1 2 3 7 ?_
 refine J.k fun K5 hK5 => J.g fun K6 hK6 => J.a2 1 qCw z4_ rfl rfl rfl rfl rfl <| J.f (qAC 1 (v := .bool (th)) rfl rfl rfl b4_ rfl) rfl <| J.c hK6 <| J.a0 1 2 3 7 14 ?_
 refine J.e5 rfl (fun h14 => ?_) (fun h14 => ?_)
 ·
  have hpl := (hg.yes h14).1
  refine J.G <| J.a2 2 qCw z9_ rfl rfl rfl rfl rfl <| J.f (qAC 1 (v := Str (pk)) rfl rfl rfl b9_ rfl) rfl <| J.a2 3 qCw z9_ rfl rfl rfl rfl rfl <| J.f (qAC 1 (v := Str (pv)) rfl rfl rfl b9_ rfl) rfl <| J.p (qAB rfl rfl ent176 (Ct.use0 (fun F' hF => qEt F' (hK.mo hF) pk pv (by first | omega | exact Nat.le_of_ble_eq_true rfl) (by first | omega | exact Nat.le_of_ble_eq_true rfl)))) rfl fun g19 _ => J.b rfl <| J.c hK5 <| J.M 1 2 3 7 ?_
  refine J.g fun K7 hK7 => J.c4 1 qJH qFn rfl rfl rfl rfl rfl <| J.j 3 rfl <| J.p (qAB rfl rfl ent186 (Ct.use0 (fun F' hF => qC4 F' (hK.mo hF) A c bs (hs.mono (hF F (by simp))) th pk pv (Sb.leafN pk pv) k d (by assumption) (by assumption) (by assumption) (by first | assumption | exact qCI _ _ | exact Nat.le_of_ble_eq_true rfl)))) rfl fun g24 _ => J.b rfl <| J.c hK7 <| J.u 6 ?_
  exact J.D <| J.V hw0 rfl () (by unfold qFN; first | rw [if_pos (by assumption)] | rw [if_neg (by simp [*])]) trivial [0] rfl (by decide)
 refine J.W hK5 <| J.M 1 2 3 7 ?_
 refine J.g fun K8 hK8 => J.c4 1 qJH qFn rfl rfl rfl rfl rfl <| J.j 3 rfl <| J.p (qAB rfl rfl ent186 (Ct.use0 (fun F' hF => qC4 F' (hK.mo hF) A c bs (hs.mono (hF F (by simp))) th pk pv ([0]) k d (by assumption) (by assumption) (by assumption) (by first | assumption | exact qCI _ _ | exact Nat.le_of_ble_eq_true rfl)))) rfl fun g24 _ => J.b rfl <| J.c hK8 <| J.u 6 ?_
 exact J.D <| J.V hw0 rfl () (by unfold qFN; first | rw [if_pos (by assumption)] | rw [if_neg (by simp [*])]) trivial [0] rfl (by decide)
theorem qHv (F : Hp) (k : List UInt8) (hk : k.length ≤ 1000000) (pb pd : Nat) (b : List UInt8) (d : Int) (hpb : qAQ F ⟨pb, 0, none⟩ [Str b]) (hpd : qAQ F ⟨pd, 0, none⟩ [I d]) (hb : b.length ≤ 1000000) : Ct prog 99 [Str (k), Ptr pb, Ptr pd] [F] (fun _ : Unit => .bool (nbl b d k)) (fun _ => True) (fun _ => [F]) := by
 refine Ct.walk func99 rfl ntmps99 rfl (fun w0 hw0 => ?_)
 change J _ [(0, _), (1, _), (2, _)] _ _ _
 refine J.g fun K1 hK1 => J.b rfl <| J.c hK1 <| J.H 0 1 2 ?_
 refine J.g fun K2 hK2 => J.b rfl <| J.f (qAN (v := Str (b)) rfl rfl b9_ (m := F) (by simp) (hpb)) rfl <| J.f (qAN (v := I (d)) rfl rfl b3_ (m := F) (by simp) (hpd)) rfl <| J.p (qAB rfl rfl ent100 (Ct.use0 (fun F' hF => qD8 F' k (by omega) b (by omega) d))) rfl fun g8 _ => J.f (qA1 rfl rfl) rfl <| J.b rfl <| J.c hK2 <| J.u 4 ?_
 exact J.D <| J.V hw0 rfl () (by unfold nbl; rfl) trivial [0] rfl (by decide)
theorem qNp (F : Hp) (A : Option Addr) (n c : Nat) (ks : List (List UInt8)) (hs : Sl F 1 A n c (qAI ks)) (hn : n ≤ 1000000) (hsm : ∀ k : Nat, (ks.getD k []).length ≤ 1000000) (pb pd : Nat) (b : List UInt8) (d : Int) (hpb : qAQ F ⟨pb, 0, none⟩ [Str b]) (hpd : qAQ F ⟨pd, 0, none⟩ [I d]) (hb : b.length ≤ 1000000) : Ct prog 146 [.slice A n c, .func (.func 99) #[] #[Ptr pb, Ptr pd]] [F] (fun _ : Unit => I (ixS (nbl b d) ks)) (fun _ => True) (fun _ => [F]) := by
 have hkn : ks.length = n := by have := hs.1; simpa [qAI] using this
 refine Ct.walk func146 rfl ntmps146 rfl (fun w0 hw0 => ?_)
 change J _ [(0, _), (1, _)] _ _ _
 refine J.g fun K1 hK1 => J.b rfl <| J.c hK1 <| J.E 0 1 ?_
 refine J.k fun K2 hK2 => J.g fun K3 hK3 => J.b rfl <| J.f (qAa qAh rfl rfl) rfl <| J.b rfl <| J.c hK3 <| J.M 0 1 7 8 ?_
 refine J.a1 <| J.c0 (X := Nat) (fun ζ => [(0, .slice A n c), (1, .func (.func 99) #[] #[Ptr pb, Ptr pd]), (7, I ((n : Nat) : Int)), (8, I ((ζ : Nat) : Int))]) (fun ζ => [F]) (fun ζ => ζ ≤ n ∧ ∀ j < ζ, nbl b d (ks.getD j []) = false) (fun ζ => n - ζ) 0 (⟨Nat.zero_le _, fun j h => absurd h (Nat.not_lt_zero j)⟩) ⟨rfl, rfl, rfl, rfl, trivial⟩ (fun _ h => h) ?_
 rintro k ⟨hk, hno⟩ I0 hI0
 refine J.g fun K4 hK4 => J.f (qAW rfl rfl rfl) rfl <| J.c hK4 <| J.a0 0 1 7 8 9 ?_
 refine J.k fun K5 hK5 => J.a5 rfl (fun h9 => ?_) (fun h9 => ?_)
 ·
  refine J.W hK5 <| J.M 0 1 7 8 ?_
  refine J.k fun K6 hK6 => J.a1 <| J.g fun K7 hK7 => J.j 2 rfl <| J.c hK7 <| J.a0 0 1 5 7 8 ?_
  refine J.g fun K8 hK8 => J.j 3 rfl <| J.f (qAH (i := k) rfl rfl rfl qAh z9_ hs (by omega)) rfl <| J.f (qAN rfl rfl b9_ (m := F) (by simp) (hs.elem (qAZ (qAg [] (by omega))))) rfl <| J.p (qDJ rfl rfl rfl ent99 (Ct.use0 (fun F' hF => qHv F' (ks.getD k []) (by first | omega | (exact hsm _)) pb pd b d (hpb.mono (hF F (by simp))) (hpd.mono (hF F (by simp))) (by omega)))) rfl fun g16 _ => J.c hK8 <| J.b3 0 1 5 7 8 16 ?_
  refine J.e5 rfl (fun h16 => ?_) (fun h16 => ?_)
  ·
   refine J.g fun K9 hK9 => J.j 2 rfl <| J.c hK9 <| J.u 4 ?_
   exact J.D <| J.b6 <| J.a3 <| J.a3 <| J.b6 <| J.a3 <| J.V hw0 rfl () (by rw [qPh (k := k) (by omega) (by simpa using h16) hno]) trivial [0] rfl (by decide)
  refine J.c7 <| J.a9 <| J.A (J.L hK6 ?_)
  refine J.M 0 1 7 8 ?_
  exact J.G <| J.f ((qAR rfl rfl rfl (by omega)).nat (k + 1) (by omega)) rfl <| J.b rfl <| J.a7 <| J.A <| J.b0 (k + 1) (fun η (hη : _ ∧ n - η < n - k) => hI0 η hη.1 hη.2) ⟨⟨by omega, fun j hj => by rcases Nat.lt_succ_iff_lt_or_eq.1 hj with h | rfl; exact hno j h; simpa using h16⟩, by first | omega | (dsimp only; omega)⟩ ⟨rfl, rfl, rfl, rfl, trivial⟩ (fun _ h => h)
 refine J.b7 <| J.a6 <| J.a6 <| J.b8 ?_
 refine J.A (J.L hK2 ?_)
 refine J.c8 [] trivial <| J.g fun K10 hK10 => J.b rfl <| J.c hK10 <| J.u 4 ?_
 exact J.D <| J.V hw0 rfl () (by rw [qPf (fun j hj => hno j (by omega))]) trivial [0] rfl (by decide)
theorem qNr (F m : Hp) (A : Option Addr) (n c : Nat) (ks : List (List UInt8)) (hr : Row m 9 1 A n c (qAI ks)) (hn : n ≤ 1000000) (hsm : ∀ k : Nat, (ks.getD k []).length ≤ 1000000) (pb pd : Nat) (b : List UInt8) (d : Int) (hpb : qAQ F ⟨pb, 0, none⟩ [Str b]) (hpd : qAQ F ⟨pd, 0, none⟩ [I d]) (hb : b.length ≤ 1000000) :
    Ct prog 97 [.slice A n c, .func (.func 99) #[] #[Ptr pb, Ptr pd]] [m, F] (fun _ : Hp => .slice A (ks.filter fun k => !nbl b d k).length c) (fun m' => Row m' 9 1 A (ks.filter fun k => !nbl b d k).length c (qAI (ks.filter fun k => !nbl b d k))) (fun m' => [m', F]) := by
  have hkn : ks.length = n := by have := hr.len; simpa [qAI] using this
  have hnc := hr.2.2.1
  refine Ct.walk func97 rfl ntmps97 rfl (fun w0 hw0 => ?_)
  change J _ [(0, _), (1, _)] _ _ _
  refine J.g fun K1 hK1 => J.b rfl <| J.c hK1 <| J.E 0 1 ?_
  refine J.g fun K2 hK2 => J.j 2 rfl <| J.p (qAB rfl rfl ent146 (Ct.use0 (fun F' hF => qNp F' A n c ks (hr.sl.mono (hF m (by simp))) (by omega) (hsm) pb pd b d (hpb.mono (hF F (by simp))) (hpd.mono (hF F (by simp))) (by omega)))) rfl fun g10 _ => J.b rfl <| J.c hK2 <| J.H 0 1 5 ?_
  refine J.k fun K3 hK3 => J.g fun K4 hK4 => J.b rfl <| J.f (qAV rfl rfl rfl) rfl <| J.c hK4 <| J.M 0 1 5 12 ?_
  refine J.a5 rfl (fun h12 => ?_) (fun h12 => ?_)
  ·
    refine J.g fun K5 hK5 => J.j 2 rfl <| J.c hK5 <| J.u 4 ?_
    refine J.D <| J.a3 ?_
    have hf : (ks.filter fun k => !nbl b d k) = ks := qJ2 h12
    exact J.V hw0 rfl m (by rw [hf, hkn]) (by rw [hf, hkn]; exact hr) [0, 1] rfl (by decide)
  refine J.W hK3 <| J.H 0 1 5 ?_
  refine J.k fun K6 hK6 => J.k fun K7 hK7 => ?_
  obtain ⟨i0, h5, hi0, hf0⟩ := qPg h12
  obtain ⟨ga, rfl⟩ := hr.at (by omega)
  rw [h5]
  refine J.G <| J.b rfl <| J.f ((qAR rfl rfl rfl (by omega)).nat (i0 + 1) (by omega)) rfl <| J.b rfl <| J.c hK7 <| J.M 0 1 5 6 ?_
  refine J.a1 <| J.c0 (X := Nat × Nat × List (List UInt8) × Hp) (fun ζ => [(0, .slice (some ⟨ga, 0, none⟩) n c), (1, .func (.func 99) #[] #[Ptr pb, Ptr pd]), (5, I ((ζ.1 : Nat) : Int)), (6, I ((ζ.2.1 : Nat) : Int))]) (fun ζ => [ζ.2.2.2, F]) (fun ζ => ζ.1 < ζ.2.1 ∧ ζ.2.1 ≤ n ∧ ζ.2.2.1.length = n ∧ ζ.2.2.1.take ζ.1 = (ks.take ζ.2.1).filter (fun k => !nbl b d k) ∧ ζ.2.2.1.drop ζ.2.1 = ks.drop ζ.2.1 ∧ Row ζ.2.2.2 9 1 (some ⟨ga, 0, none⟩) n c (qAI ζ.2.2.1)) (fun ζ => n - ζ.2.1) (i0, i0 + 1, ks, m) (⟨by dsimp only; omega, by dsimp only; omega, hkn, hf0, rfl, hr⟩) ⟨rfl, rfl, rfl, rfl, trivial⟩ (fun _ h => h) ?_
  rintro ⟨w, j, L, m⟩ ⟨hw, hj, hL, hA, hB, hr⟩ I0 hI0
  dsimp only at hw hj hL hA hB hr ⊢
  refine J.k fun K8 hK8 => J.g fun K9 hK9 => J.j 2 rfl <| J.f (qAa qAh rfl rfl) rfl <| J.f (qAW rfl rfl rfl) rfl <| J.c hK9 <| J.a0 0 1 5 6 19 ?_
  refine J.a5 rfl (fun h19 => ?_) (fun h19 => ?_)
  ·
    refine J.W hK8 <| J.M 0 1 5 6 ?_
    refine J.k fun K10 hK10 => J.a1 <| J.g fun K11 hK11 => J.j 2 rfl <| J.f (qA0 (i := j) (j := 0 + j * 1) rfl rfl rfl qAh z9_ (by omega) (by omega)) rfl ?_
    have hnw : w < j := hw
    refine J.f (qAN rfl rfl b9_ (m := m) (by simp) (hr.sl.cells (qAZ (qAg [] (by omega))))) rfl <| J.b rfl <| J.c hK11 <| J.a0 0 1 5 6 7 ?_
    refine J.k fun K12 hK12 => ?_
    have hgj : (L.getD j []).length ≤ 1000000 := by
      have e0 := congrArg (fun z => z.getD 0 []) hB
      have e1 : L.getD j [] = ks.getD j [] := by simpa [List.getD_eq_getElem?_getD, List.getElem?_drop] using e0
      rw [e1]; exact hsm j
    refine J.G <| J.j 2 rfl <| J.p (qDJ rfl rfl rfl ent99 (Ct.use0 (fun F' hF => qHv F' (L.getD j []) (by first | omega | (exact hsm _)) pb pd b d (hpb.mono (hF F (by simp))) (hpd.mono (hF F (by simp))) (by omega)))) rfl fun g28 _ => J.f (qA1 rfl rfl) rfl <| J.c hK12 <| J.b3 0 1 5 6 7 29 ?_
    refine J.e5 rfl (fun h29 => ?_) (fun h29 => ?_)
    ·
      refine J.g fun K13 hK13 => J.j 3 rfl <| J.f (qA0 (i := w) (j := 0 + w * 1) rfl rfl rfl qAh z9_ (by omega) (by omega)) rfl <| J.b1 (qBX (i := 0) (k := w) (off := 0) (b := [Str (L.getD j [])]) rfl rfl rfl rfl hr (vs := [Str (L.getD j [])]) rfl z9_ rfl (by omega) (qAZ (qAg [] (by omega))) rfl (Nat.le_refl _)) rfl rfl ?_
      rintro m9_1 hm9_1
      change J _ _ _ [m9_1, F] _
      rw [qC1] at hm9_1
      refine J.c hK13 <| J.M 0 1 5 6 ?_
      refine J.G <| J.b rfl <| J.f ((qAR rfl rfl rfl (by omega)).nat (w + 1) (by omega)) rfl <| J.b rfl <| J.a7 <| J.a9 <| J.A (J.L hK10 ?_)
      refine J.M 0 1 5 6 ?_
      exact J.G <| J.b rfl <| J.f ((qAR rfl rfl rfl (by omega)).nat (j + 1) (by omega)) rfl <| J.b rfl <| J.a7 <| J.A <| J.b0 (w + 1, j + 1, L.set w (L.getD j []), m9_1) (fun η (hη : _ ∧ n - η.2.1 < n - j) => hI0 η hη.1 hη.2) ⟨⟨by dsimp only; omega, by dsimp only; omega, by dsimp only; rw [List.length_set]; exact hL, (qEz hw (by omega) (by omega) hA hB (by simpa using h29)).1, (qEz hw (by omega) (by omega) hA hB (by simpa using h29)).2, by assumption⟩, by first | omega | (dsimp only; omega)⟩ ⟨rfl, rfl, rfl, rfl, trivial⟩ (fun _ h => h)
    refine J.c7 <| J.a9 <| J.A (J.L hK10 ?_)
    refine J.M 0 1 5 6 ?_
    exact J.G <| J.b rfl <| J.f ((qAR rfl rfl rfl (by omega)).nat (j + 1) (by omega)) rfl <| J.b rfl <| J.a7 <| J.A <| J.b0 (w, j + 1, L, m) (fun η (hη : _ ∧ n - η.2.1 < n - j) => hI0 η hη.1 hη.2) ⟨⟨by dsimp only; omega, by dsimp only; omega, hL, (qE0 (by omega) hA hB (by simpa using h29)).1, (qE0 (by omega) hA hB (by simpa using h29)).2, hr⟩, by first | omega | (dsimp only; omega)⟩ ⟨rfl, rfl, rfl, rfl, trivial⟩ (fun _ h => h)
  refine J.b7 <| J.a6 <| J.a6 <| J.b8 ?_
  refine J.A (J.L hK6 ?_)
  refine J.E 0 5 ?_
  refine J.g fun K14 hK14 => J.j 2 rfl <| J.f (qCd (l := w) (h := n) rfl rfl qAh z9_ rfl rfl (by omega)) rfl <| J.b1 (qD2 (i := 0) (l := w) (h := n) rfl rfl (by split <;> simp [Addr.add_lit]) qAh el9 rfl rfl rfl (hr.shrink (by omega)) rfl (by omega) (by omega)) rfl rfl ?_
  rintro mc hmc
  change J _ _ _ [mc, F] _
  refine J.c hK14 <| J.E 0 5 ?_
  refine J.g fun K15 hK15 => J.j 2 rfl <| J.f (qDI (h := w) rfl rfl qAh z9_ rfl (by omega)) rfl <| J.b rfl <| J.c hK15 <| J.u 4 ?_
  refine J.D ?_
  have hfl : (ks.filter fun k => !nbl b d k) = L.take w := by rw [hA, List.take_of_length_le (by omega)]
  have hfw : (ks.filter fun k => !nbl b d k).length = w := by rw [hfl, List.length_take]; omega
  rw [qEI, ← hfl] at hmc
  exact J.V hw0 rfl mc (by rw [hfw]) (by rw [hfw]; exact hmc) [0, 1] rfl (by decide)
theorem qOr (F : Hp) (A : Option Addr) (n c : Nat) (ks : List (List UInt8)) (hs : Sl F 1 A n c (qAI ks)) (hn : n ≤ 1000000) : Ct prog 98 [.slice A n c] [F] (fun x : Option Addr × Nat × Hp => .slice x.1 (ks).length x.2.1) (fun x => Row x.2.2 9 1 x.1 (ks).length x.2.1 (qAI ks)) (fun x => [F, x.2.2]) := by
 have hkn : ks.length = n := by have := hs.1; simpa [qAI] using this
 refine Ct.walk func98 rfl ntmps98 rfl (fun w0 hw0 => ?_)
 change J _ [(0, _)] _ _ _
 refine J.g fun K1 hK1 => J.b rfl <| J.c hK1 <| J.u 0 ?_
 refine J.k fun K2 hK2 => J.g fun K3 hK3 => J.b rfl <| J.f ((qJh qAh rfl rfl rfl).as (v' := .bool (decide (A.isNone = true))) (congrArg Value.bool (by cases A <;> rfl))) rfl <| J.c hK3 <| J.E 0 4 ?_
 refine J.a5 rfl (fun h4 => ?_) (fun h4 => ?_)
 ·
  refine J.g fun K4 hK4 => J.b rfl <| J.c hK4 <| J.u 2 ?_
  refine J.D <| J.a3 ?_
  have hk0 : ks = [] := by
   refine List.eq_nil_of_length_eq_zero ?_
   rcases Nat.eq_zero_or_pos n with h | h
   · omega
   · obtain ⟨g, o, rfl⟩ := hs.at h; cases h4
  exact J.d9 [0, 1] [F, (fun _ => none)] rfl (by decide) <| J.V hw0 rfl (none, 0, (fun _ => none)) (by rw [hk0]; rfl) (by rw [hk0]; exact qBa.nil) [0, 1] rfl (by decide)
 refine J.W hK2 <| J.u 0 ?_
 refine J.g fun K5 hK5 => J.p (qDY rfl qAh el9) rfl fun g5 _ => ?_
 change J _ _ _ [F, blk g5 [] 9] _
 refine J.b rfl <| J.p (qAd (i := 1) (xs := qAI ([])) (m2 := F) (ys := qAI ks) rfl rfl rfl qAh qAh el9 rfl (qAv (q := True) (xs := qAI ([])) rfl (by intro x hx; first | exact absurd hx (List.not_mem_nil) | (rw [List.mem_singleton.1 hx]; rfl))) (by simp) (hs) (qCf _) (by omega) (by omega)) rfl ?_
 rintro ⟨A7, c7, m7⟩ h7
 try dsimp only at h7
 change J _ ((7, .slice A7 (0 + n) c7) :: _) _ [_, m7] _
 replace h7 : Row m7 9 1 A7 (0 + n) c7 (qAI (ks)) := h7
 refine J.b rfl <| J.c hK5 <| J.u 2 ?_
 refine J.D ?_
 rw [show 0 + n = ks.length by omega] at h7
 exact J.V hw0 rfl (A7, c7, m7) (by rw [← hkn, Nat.zero_add]) h7 [0, 1] rfl (by decide)
theorem qHj (F : Hp) (d : Int) (p9 p4 : Nat) (A : Option Addr) (n c : Nat) (ks : List (List UInt8)) (hs : Sl F 1 A n c (qAI ks)) (h9 : qAQ F ⟨p9, 0, none⟩ [.slice A n c]) (b : List UInt8) (h4 : qAQ F ⟨p4, 0, none⟩ [Str b]) (hn : n ≤ 1000000) (hb : b.length ≤ 1000000) (hsm : ∀ k : Nat, (ks.getD k []).length ≤ 1000000) : Ct prog 96 [I (d), Ptr p9, Ptr p4] [F] (fun x : Option Addr × Nat × Hp => .slice x.1 (ks.filter (fun q => !nbl b d q)).length x.2.1) (fun x => Row x.2.2 9 1 x.1 (ks.filter (fun q => !nbl b d q)).length x.2.1 (qAI (ks.filter (fun q => !nbl b d q)))) (fun x => [F, x.2.2]) := by
 have hkn : ks.length = n := by have := hs.1; simpa [qAI] using this
 refine Ct.walk func96 rfl ntmps96 rfl (fun w0 hw0 => ?_)
 change J _ [(0, _), (1, _), (2, _)] _ _ _
 refine J.g fun K1 hK1 => J.p (qAf (l := [I (d)]) rfl rfl rfl) rfl fun g3 _ => ?_
 change J _ _ _ [F, blk g3 [I (d)] 3] _
 refine J.b rfl <| J.c hK1 <| J.H 1 2 3 ?_
 refine J.g fun K2 hK2 => J.f (qAN (v := .slice A n c) rfl rfl qCQ (m := F) (by simp) (h9)) rfl <| J.p (qAB rfl rfl ent98 (Ct.use (new := fun x : Option Addr × Nat × Hp => [x.2.2]) (fun F' hF => qOr F' A n c ks (hs.mono (hF F (by simp))) (by omega)))) rfl ?_
 rintro ⟨A6, c6, m6⟩ h6
 try dsimp only at h6
 change J _ ((6, .slice A6 (ks).length c6) :: _) _ [_, _, m6] _
 refine J.f (qBo rfl rfl) rfl <| J.p (qAB rfl rfl ent97 (Ct.use1 2 (m' := fun x : Hp => x) (new := fun _ => []) rfl (fun F' hF => qNr F' m6 A6 ks.length c6 ks h6 (by omega) hsm p4 g3 b d (h4.mono (hF F (by simp))) (qAQ.blk0.mono (hF (blk g3 [I (d)] 3) (by simp))) hb))) rfl ?_
 rintro m8 h8
 change J _ ((8, .slice A6 (ks.filter fun q => !nbl b d q).length c6) :: _) _ [_, _, m8] _
 refine J.b rfl <| J.c hK2 <| J.u 4 ?_
 exact J.D <| J.V hw0 rfl (A6, c6, m8) rfl h8 [0, 2] rfl (by decide)
theorem qSP (l : List Sm.PR) (k : List UInt8) {d : Nat} (hd : d ≤ 128) : (Sm.keysS l).filter (fun q => !nbl k ((d : Nat) : Int) q) = kd l k d := by
 unfold kd nbl
 refine List.filter_congr fun q _ => ?_
 rw [Bool.not_not, Int.toNat_natCast, Nat.min_eq_left hd]
theorem qQ5 (l : List Sm.PR) (k : List UInt8) {d : Nat} (hd : d + 1 ≤ 128) : (kd l k d).filter (fun q => !nbl k ((d + 1 : Nat) : Int) q) = kd l k (d + 1) := by
 rw [← qQ1]
 refine List.filter_congr fun q _ => ?_
 unfold nbl
 rw [Bool.not_not, Int.toNat_natCast, Nat.min_eq_left hd]
theorem qOd {l : List Sm.PR} (hf : qCj l) (k : List UInt8) (d j : Nat) : ((kd l k d).getD j []).length ≤ 1000000 := by
  by_cases hj : j < (kd l k d).length
  · rw [List.getD_eq_getElem?_getD, List.getElem?_eq_getElem hj]
    obtain ⟨⟨v, hv⟩, _⟩ := qPe (List.getElem_mem hj)
    show ((kd l k d)[j]).length ≤ 1000000
    rw [show (kd l k d)[j].length = 16 from hf.k16 _ hv]; decide
  · rw [List.getD_eq_getElem?_getD, List.getElem?_eq_none (by omega)]; decide
theorem qSM (l : List Sm.PR) (k : List UInt8) (d : Nat) : (kd l k d).length ≤ l.length := by
 have := List.length_filter_le (fun q => Sm.belowB q k d) (Sm.keysS l)
 rw [Sm.keysS_len] at this; exact this
theorem qN7 (F : Hp) (hK : KF F) (g : Nat) (l : List Sm.PR) (hT : qDT F g l) (hf : qCj l) (k : List UInt8) (hk : k.length = 16) (d : Nat) (hd : d ≤ 128) :
    Ct prog 47 [Ptr g, Str k, I ((d : Nat) : Int)] [F] (fun x : Nat × Option Addr × Nat × Hp => .tuple #[.agg #[.slice x.2.1 (bsd l k d (x.1 - d)).length x.2.2.1, .bool (qBD l k x.1), Str (qDz l k x.1), Str (qEE l k x.1)], I 0]) (fun x => qLK l k d x.1 ∧ Row x.2.2.2 9 1 x.2.1 (bsd l k d (x.1 - d)).length x.2.2.1 (qAI (bsd l k d (x.1 - d)))) (fun x => [F, x.2.2.2]) := by
  have hln := hf.few
  have hkl := Sm.keysS_len l
  have hsm := qFX hf.k16
  have hk0 := qSP l k hd
  have hkd0 := qSM l k d
  refine Ct.walk func47 rfl ntmps47 rfl (fun w0 hw0 => ?_)
  change J _ [(0, _), (1, _), (2, _)] _ _ _
  refine J.g fun K1 hK1 => J.p (qAf (l := [Str (k)]) rfl rfl rfl) rfl fun g4 _ => ?_
  change J _ _ _ [F, blk g4 [Str (k)] 9] _
  refine J.p (qAO (l := [.slice none 0 0, .bool false, Str [], Str []]) rfl zeroValue58 rfl) rfl fun g6 _ => ?_
  change J _ _ _ [_, _, blk g6 [.slice none 0 0, .bool false, Str [], Str []] 58] _
  refine J.b rfl <| J.c hK1 <| J.M 0 2 4 6 ?_
  refine J.k fun K2 hK2 => J.g fun K3 hK3 => J.f (qAC 1 (v := Str (k)) rfl rfl rfl b9_ rfl) rfl <| J.b rfl <| J.p (qAB rfl rfl ent94 (Ct.use0 (fun F' hF => qHk F' k ((d : Nat) : Int)))) rfl fun g14 _ => J.f ((qA1 rfl rfl).as (v' := .bool false) (by rw [decide_eq_true (show k.length = 16 ∧ (0 : Int) ≤ ((d : Nat) : Int) ∧ ((d : Nat) : Int) ≤ 128 from ⟨hk, by omega, by omega⟩)]; rfl)) rfl <| J.c hK3 <| J.a0 0 2 4 6 15 ?_
  refine J.a8 ?_
  refine J.W hK2 <| J.M 0 2 4 6 ?_
  refine J.g fun K4 hK4 => J.p (qAO (l := [.slice none 0 0, .bool false, Str [], Str []]) rfl zeroValue58 rfl) rfl fun g8 _ => ?_
  change J _ _ _ [_, _, _, blk g8 [.slice none 0 0, .bool false, Str [], Str []] 58] _
  refine J.c hK4 <| J.a0 0 2 4 6 8 ?_
  refine J.g fun K5 hK5 => J.b rfl <| J.p (qAB rfl rfl ent95 (Ct.use (new := fun x : Option Addr × Nat × Hp => [x.2.2]) (fun F' hF => qJX F' g l (hT.mono (hF F (by simp))) (by omega)))) rfl ?_
  rintro ⟨A18, c18, m18⟩ h18
  try dsimp only at h18
  change J _ ((18, .slice A18 (Sm.keysS l).length c18) :: _) _ [_, _, _, _, m18] _
  refine J.p (qAO (l := [.slice none 0 0]) rfl zeroValue37 rfl) rfl fun g9 _ => ?_
  change J _ _ _ [_, _, _, _, _, blk g9 [.slice none 0 0] 37] _
  refine J.b1 (qAG (i := 5) (l := [.slice none 0 0]) (vs := [.slice A18 ((Sm.keysS l).length) c18]) rfl rfl rfl rfl rfl qB0 rfl rfl) rfl rfl fun _ _ => ?_
  change J _ _ _ [_, _, _, _, _, blk g9 [.slice A18 ((Sm.keysS l).length) c18] 37] _
  refine J.c hK5 <| J.b3 0 2 4 6 8 9 ?_
  refine J.g fun K6 hK6 => J.f (qBo rfl rfl) rfl <| J.b rfl <| J.c hK6 <| J.c2 0 2 4 6 8 9 10 ?_
  refine J.g fun K7 hK7 => J.j 2 rfl <| J.p (qDJ rfl rfl rfl ent96 (Ct.use (new := fun x : Option Addr × Nat × Hp => [x.2.2]) (fun F' hF => qHj F' ((d : Nat) : Int) g9 g4 A18 ((Sm.keysS l).length) c18 (Sm.keysS l) (h18.sl.mono (hF m18 (by simp))) (qAQ.blk0.mono (hF (blk g9 [.slice A18 ((Sm.keysS l).length) c18] 37) (by simp))) k (qAQ.blk0.mono (hF (blk g4 [Str (k)] 9) (by simp))) (by omega) (by omega) (by assumption)))) rfl ?_
  rintro ⟨A22, c22, m22⟩ h22
  try dsimp only at h22
  change J _ ((22, .slice A22 ((Sm.keysS l).filter (fun q => !nbl k ((d : Nat) : Int) q)).length c22) :: _) _ [_, _, _, _, _, _, m22] _
  rw [hk0] at h22 ⊢
  refine J.b1 (qAG (i := 5) (l := [.slice A18 ((Sm.keysS l).length) c18]) (vs := [.slice A22 ((kd l k (d)).length) c22]) rfl rfl rfl rfl rfl qB0 rfl rfl) rfl rfl fun _ _ => ?_
  change J _ _ _ [_, _, _, _, _, blk g9 [.slice A22 ((kd l k (d)).length) c22] 37, _] _
  refine J.c hK7 <| J.c2 0 2 4 6 8 9 10 ?_
  refine J.k fun K8 hK8 => J.g fun K9 hK9 => J.j 2 rfl <| J.c hK9 <| J.c2 0 4 6 8 9 10 11 ?_
  refine J.a1 <| J.c0 (X := Nat × Option Addr × Nat × Hp × Option Addr × Nat × Hp) (fun ζ => [(0, Ptr g), (4, Ptr g4), (6, Ptr g6), (8, Ptr g8), (9, Ptr g9), (10, .func (.func 96) #[] #[Ptr g9, Ptr g4]), (11, I ((d + ζ.1 : Nat) : Int))]) (fun ζ => [F, blk g4 [Str (k)] 9, blk g6 [.slice none 0 0, .bool false, Str [], Str []] 58, blk g8 [.slice ζ.2.2.2.2.1 (bsd l k d (ζ.1)).length ζ.2.2.2.2.2.1, .bool false, Str [], Str []] 58, blk g9 [.slice ζ.2.1 (kd l k (d + ζ.1)).length ζ.2.2.1] 37, ζ.2.2.2.1, ζ.2.2.2.2.2.2]) (fun ζ => d + ζ.1 ≤ 128 ∧ (∀ x, d ≤ x → x < d + ζ.1 → 2 ≤ (cur l k x).length) ∧ Row ζ.2.2.2.1 9 1 ζ.2.1 (kd l k (d + ζ.1)).length ζ.2.2.1 (qAI (kd l k (d + ζ.1))) ∧ Row ζ.2.2.2.2.2.2 9 1 ζ.2.2.2.2.1 (bsd l k d (ζ.1)).length ζ.2.2.2.2.2.1 (qAI (bsd l k d (ζ.1)))) (fun ζ => 128 - (d + ζ.1)) (0, A22, c22, m22, none, 0, (fun _ => none)) (⟨hd, fun x h1 h2 => absurd h2 (by omega), h22, qBa.nil⟩) ⟨rfl, rfl, rfl, rfl, rfl, rfl, rfl, trivial⟩ (fun _ h => h.empty.pick [0, 1, 2, 3, 5, 6, 7] (by decide)) ?_
  rintro ⟨n, A9, c9, m9, Ab, cb, mb⟩ ⟨he, htw, hr9, hrb⟩ I0 hI0
  dsimp only at he htw hr9 hrb ⊢
  have hbl := qCA l k d n
  refine J.k fun K10 hK10 => J.g fun K11 hK11 => J.f (qAC 4 (v := .slice A9 (kd l k (d + n)).length c9) rfl rfl rfl qCQ rfl) rfl <| J.f (qAa qAh rfl rfl) rfl <| J.f (qAx rfl rfl rfl) rfl <| J.c hK11 <| J.d3 0 4 6 8 9 10 11 26 ?_
  refine J.a5 rfl (fun h26 => ?_) (fun h26 => ?_)
  ·
    have hcl := qGN hf.once k (d + n)
    have hlt : d + n < 128 := by
      rcases Nat.lt_or_ge (d + n) 128 with h | h
      · exact h
      · have hct := qRB hf hk
        rw [show d + n = 128 by omega] at h26 hcl
        omega
    have htl : (turn k (d + n)).length = 16 := (qBq k _).trans hk
    have hmn : min (((d + n + 1 : Nat) : Int)).toNat 128 = d + n + 1 := by rw [Int.toNat_natCast]; omega
    have hsmk := qOd hf k (d + n)
    have hkdl := qSM l k (d + n)
    refine J.W hK10 <| J.c2 0 4 6 8 9 10 11 ?_
    refine J.k fun K12 hK12 => J.a1 <| J.k fun K13 hK13 => J.c1 [blk g8 [.slice Ab (bsd l k d (n)).length cb, .bool false, Str [], Str []] 58, blk g4 [Str (k)] 9] [12] (.y 0 (.y 1 (.y 2 (.y 3 (.y 4 (.y 6 (.y 7 (.e 5 (.e 8 (.e 9 (.e 10 (.y 11 (.e 12 .nil))))))))))))) Tryz.wide (by decide +kernel) (by simp) ?_
    refine J.q rfl (qAA (j := 0) rfl rfl qCw rfl qB0 rfl) rfl rfl <| J.q rfl (qAC 0 (v := .slice Ab (bsd l k d (n)).length cb) rfl rfl rfl qCQ rfl) rfl rfl <| J.O ?_
    refine J.q rfl (qAC 1 (v := Str (k)) rfl rfl rfl b9_ rfl) rfl rfl <| J.O ?_
    refine J.O ?_
    refine J.q rfl ((qAR rfl rfl rfl (by omega)).nat (d + n + 1) (by omega)) rfl rfl <| J.b2 rfl (qAB rfl rfl ent101 (Ct.use0 (fun F' hF => qLd F' k (by assumption) (d + n) (by omega)))) rfl (by simp) fun g34 _ => J.b2 rfl (qAB rfl rfl ent75 (Ct.use0 (fun F' hF => qEs F' (hK.mo hF) g l (hT.mono (hF F (by simp))) (by assumption) (turn k (d + n)) (by first | omega | decide) ((d + n + 1 : Nat) : Int) (by first | assumption | exact qGd (by assumption) | exact qJS (by assumption) (by assumption))))) rfl (by simp) fun g37 _ => J.b2 rfl (qAJ (l := [.tmp 37]) (xs := [[Str (Sm.ndB l (turn k (d + n)) (min ((d + n + 1 : Nat) : Int).toNat 128))]]) rfl rfl rfl rfl qAh el9 rfl (by decide) (by decide) (by simp)) rfl (by simp) fun g38 _ => ?_
    change J _ _ _ [F, blk g4 [Str (k)] 9, blk g6 [.slice none 0 0, .bool false, Str [], Str []] 58, blk g8 [.slice Ab (bsd l k d (n)).length cb, .bool false, Str [], Str []] 58, blk g9 [.slice A9 (kd l k (d + n)).length c9] 37, m9, mb, blk g38 [Str (Sm.ndB l (turn k (d + n)) (min ((d + n + 1 : Nat) : Int).toNat 128))] 9] _
    refine J.b2 rfl (qAd (i := 6) (xs := qAI (bsd l k d (n))) (m2 := blk g38 [Str (Sm.ndB l (turn k (d + n)) (min ((d + n + 1 : Nat) : Int).toNat 128))] 9) (ys := [[Str (Sm.ndB l (turn k (d + n)) (min ((d + n + 1 : Nat) : Int).toNat 128))]]) rfl rfl rfl qAh qAh el9 rfl hrb (by simp) ((qBm (q := True) (qAI [Sm.ndB l (turn k (d + n)) (min ((d + n + 1 : Nat) : Int).toNat 128)]) rfl (by simp [qAI]) rfl).sl) rfl (by omega) (by omega)) rfl (by simp) ?_
    rintro ⟨A39, c39, m39⟩ h39
    try dsimp only at h39
    change J _ ((39, .slice A39 (((bsd l k d (n)).length) + 1) c39) :: _) _ [_, _, _, _, _, _, m39, _] _
    rw [← qBY, hmn, ← qOv] at h39
    rw [show (bsd l k d (n)).length + 1 = (bsd l k d (n + 1)).length by rw [qCA, qCA]] at h39 ⊢
    refine J.q rfl (qAA (j := 0) rfl rfl qCw rfl qB0 rfl) rfl rfl <| J.d7 rfl (qAT (i := 3) (l := [.slice Ab (bsd l k d (n)).length cb, .bool false, Str [], Str []]) (vs := [.slice A39 ((bsd l k d (n + 1)).length) c39]) rfl rfl rfl rfl rfl qB0 rfl (by simp)) rfl rfl rfl fun _ _ => ?_
    change J _ _ _ [_, _, _, blk g8 [.slice A39 ((bsd l k d (n + 1)).length) c39, .bool false, Str [], Str []] 58, _, _, _, _] _
    refine J.b5 <| J.A (J.L hK13 ?_)
    refine J.c2 0 4 6 8 9 10 11 ?_
    refine J.G <| J.j 2 rfl <| J.f ((qAR rfl rfl rfl (by omega)).nat (d + n + 1) (by omega)) rfl <| J.p (qDJ rfl rfl rfl ent96 (Ct.use (new := fun x : Option Addr × Nat × Hp => [x.2.2]) (fun F' hF => qHj F' ((d + n + 1 : Nat) : Int) g9 g4 A9 ((kd l k (d + n)).length) c9 (kd l k (d + n)) (hr9.sl.mono (hF m9 (by simp))) (qAQ.blk0.mono (hF (blk g9 [.slice A9 (kd l k (d + n)).length c9] 37) (by simp))) k (qAQ.blk0.mono (hF (blk g4 [Str (k)] 9) (by simp))) (by omega) (by omega) (by assumption)))) rfl ?_
    rintro ⟨A44, c44, m44⟩ h44
    try dsimp only at h44
    change J _ ((44, .slice A44 ((kd l k (d + n)).filter (fun q => !nbl k ((d + n + 1 : Nat) : Int) q)).length c44) :: _) _ [_, _, _, _, _, _, _, _, m44] _
    rw [qQ5 l k (by omega)] at h44 ⊢
    refine J.b1 (qAG (i := 4) (l := [.slice A9 (kd l k (d + n)).length c9]) (vs := [.slice A44 ((kd l k (d + n + 1)).length) c44]) rfl rfl rfl rfl rfl qB0 rfl rfl) rfl rfl fun _ _ => ?_
    change J _ _ _ [_, _, _, _, blk g9 [.slice A44 ((kd l k (d + n + 1)).length) c44] 37, _, _, _, _] _
    refine J.a7 <| J.a9 <| J.A (J.L hK12 ?_)
    refine J.c2 0 4 6 8 9 10 11 ?_
    exact J.G <| J.b rfl <| J.f ((qAR rfl rfl rfl (by omega)).nat (d + n + 1) (by omega)) rfl <| J.b rfl <| J.a7 <| J.A <| J.b0 (n + 1, A44, c44, m44, A39, c39, m39) (fun η (hη : _ ∧ 128 - (d + η.1) < 128 - (d + n)) => hI0 η hη.1 hη.2) ⟨⟨by dsimp only; omega, fun x h1 h2 => by rcases Nat.lt_or_ge x (d + n) with h | h; exact htw x h1 h; rw [show x = d + n by dsimp only at h2; omega, ← hcl]; omega, h44, h39⟩, by dsimp only; omega⟩ ⟨rfl, rfl, rfl, rfl, rfl, rfl, rfl, trivial⟩ (fun _ h => h.pick [0, 1, 2, 3, 4, 8, 6] (by decide))
  have hst : qLK l k d (d + n) := ⟨by omega, he, by rw [← qGN hf.once]; omega, fun x h1 h2 => htw x h1 h2⟩
  have hdn : d + n - d = n := by omega
  refine J.b7 <| J.a6 <| J.a6 <| J.b8 ?_
  refine J.A (J.L hK8 ?_)
  refine J.M 0 6 8 9 ?_
  refine J.k fun K14 hK14 => J.g fun K15 hK15 => J.f (qAC 4 (v := .slice A9 (kd l k (d + n)).length c9) rfl rfl rfl qCQ rfl) rfl <| J.f (qAa qAh rfl rfl) rfl <| J.f (qAV rfl rfl rfl) rfl <| J.c hK15 <| J.a0 0 6 8 9 47 ?_
  refine J.a5 rfl (fun h47 => ?_) (fun h47 => ?_)
  ·
    refine J.k fun K16 hK16 => J.c1 [blk g9 [.slice A9 (kd l k (d + n)).length c9] 37, m9] [] (.y 0 (.y 1 (.y 2 (.y 3 (.e 4 (.y 5 (.e 6 .nil))))))) Tryz.wide (by decide +kernel) (by simp) ?_
    refine J.q rfl (qAC 0 (v := .slice A9 (kd l k (d + n)).length c9) rfl rfl rfl qCQ rfl) rfl rfl <| J.q rfl (qAH (i := 0) rfl rfl rfl qAh z9_ hr9.sl (by omega)) rfl rfl <| J.q rfl (qAN rfl rfl b9_ (m := m9) (by simp) (hr9.sl.elem (qAZ (qAg [] (by omega))))) rfl rfl <| J.q rfl (qAA (j := 1) rfl rfl qCw rfl z4_ rfl) rfl rfl <| J.e1 rfl (qAT (i := 3) (l := [.slice Ab (bsd l k d (n)).length cb, .bool false, Str [], Str []]) (vs := [.bool true]) rfl rfl rfl rfl rfl z4_ rfl (by simp)) rfl rfl (by simp) fun _ _ => ?_
    change J _ _ _ [F, blk g4 [Str (k)] 9, blk g6 [.slice none 0 0, .bool false, Str [], Str []] 58, blk g8 [.slice Ab (bsd l k d (n)).length cb, .bool true, Str [], Str []] 58, blk g9 [.slice A9 (kd l k (d + n)).length c9] 37, m9, mb] _
    refine J.q rfl (qAA (j := 2) rfl rfl qCw rfl z9_ rfl) rfl rfl <| J.e1 rfl (qAT (i := 3) (l := [.slice Ab (bsd l k d (n)).length cb, .bool true, Str [], Str []]) (vs := [Str ((kd l k (d + n)).getD 0 [])]) rfl rfl rfl rfl rfl z9_ rfl (by simp)) rfl rfl (by simp) fun _ _ => ?_
    change J _ _ _ [_, _, _, blk g8 [.slice Ab (bsd l k d (n)).length cb, .bool true, Str ((kd l k (d + n)).getD 0 []), Str []] 58, _, _, _] _
    refine J.b5 <| J.A (J.L hK16 ?_)
    refine J.H 0 6 8 ?_
    refine J.G <| J.b rfl <| J.a2 2 qCw z9_ rfl rfl rfl rfl rfl <| J.f (qAC 3 (v := Str ((kd l k (d + n)).getD 0 [])) rfl rfl rfl b9_ rfl) rfl <| J.p (qAB rfl rfl ent102 (Ct.use0 (fun F' hF => qP1 F' g l (hT.mono (hF F (by simp))) ((kd l k (d + n)).getD 0 [])))) rfl fun g57 _ => J.j 3 rfl <| J.a2 3 qCw z9_ rfl rfl rfl rfl rfl <| J.b1 (qAT (i := 3) (l := [.slice Ab (bsd l k d (n)).length cb, .bool true, Str ((kd l k (d + n)).getD 0 []), Str []]) (vs := [Str ((Sm.getP l ((kd l k (d + n)).getD 0 [])).getD [])]) rfl rfl rfl rfl rfl z9_ rfl (by simp)) rfl rfl fun _ _ => ?_
    change J _ _ _ [_, _, _, blk g8 [.slice Ab (bsd l k d (n)).length cb, .bool true, Str ((kd l k (d + n)).getD 0 []), Str ((Sm.getP l ((kd l k (d + n)).getD 0 [])).getD [])] 58, _, _, _] _
    refine J.c hK14 <| J.E 6 8 ?_
    refine J.g fun K17 hK17 => J.c4 3 qJH qFn rfl rfl rfl rfl rfl <| J.b1 (qAG (i := 2) (l := [.slice none 0 0, .bool false, Str [], Str []]) (vs := [.slice Ab (bsd l k d (n)).length cb, .bool true, Str ((kd l k (d + n)).getD 0 []), Str ((Sm.getP l ((kd l k (d + n)).getD 0 [])).getD [])]) rfl rfl rfl rfl rfl qFn rfl rfl) rfl rfl fun _ _ => ?_
    change J _ _ _ [_, _, blk g6 [.slice Ab (bsd l k d (n)).length cb, .bool true, Str ((kd l k (d + n)).getD 0 []), Str ((Sm.getP l ((kd l k (d + n)).getD 0 [])).getD [])] 58, _, _, _, _] _
    refine J.b rfl <| J.c hK17 <| J.E 6 7 ?_
    exact J.D <| J.b4 hw0 (fun _ _ h => h) (rv2 rfl (RV.blkA 2 rfl rfl qJH qFn) rfl) (qAj (d + n, Ab, cb, mb) (by dsimp only; rw [hdn]; unfold qBD qDz qEE; rw [if_pos (by omega), if_pos (by omega), decide_eq_true (by omega)]) ⟨hst, by dsimp only; rw [hdn]; exact hrb⟩ [0, 6] rfl (by decide))
  refine J.W hK14 <| J.E 6 8 ?_
  refine J.g fun K18 hK18 => J.c4 3 qJH qFn rfl rfl rfl rfl rfl <| J.b1 (qAG (i := 2) (l := [.slice none 0 0, .bool false, Str [], Str []]) (vs := [.slice Ab (bsd l k d (n)).length cb, .bool false, Str [], Str []]) rfl rfl rfl rfl rfl qFn rfl rfl) rfl rfl fun _ _ => ?_
  change J _ _ _ [F, blk g4 [Str (k)] 9, blk g6 [.slice Ab (bsd l k d (n)).length cb, .bool false, Str [], Str []] 58, blk g8 [.slice Ab (bsd l k d (n)).length cb, .bool false, Str [], Str []] 58, blk g9 [.slice A9 (kd l k (d + n)).length c9] 37, m9, mb] _
  refine J.b rfl <| J.c hK18 <| J.E 6 7 ?_
  exact J.D <| J.b4 hw0 (fun _ _ h => h) (rv2 rfl (RV.blkA 2 rfl rfl qJH qFn) rfl) (qAj (d + n, Ab, cb, mb) (by dsimp only; rw [hdn]; unfold qBD qDz qEE; rw [if_neg (by omega), if_neg (by omega), decide_eq_false (by omega)]) ⟨hst, by dsimp only; rw [hdn]; exact hrb⟩ [0, 6] rfl (by decide))
theorem qKg {kv : List Sm.PR} (hf : qCj kv) {k : List UInt8} (hk : k.length = 16) {d s : Nat} (h : qLK kv k d s) : qFN (bsd kv k d (s - d)) (qBD kv k s) (qDz kv k s) (qEE kv k s) k d = Sm.ndB kv k d := by
 have h1 := h.le
 have h2 := h.ge
 have h3 := qHD hf hk (d := d) (n := s - d) (by omega) (s - d) (Nat.le_refl _)
 rw [show d + (s - d) = s by omega, show s - (s - d) = d by omega] at h3
 unfold qFN
 rw [qOp hf h, qCA]
 exact h3
theorem qKm {kv : List Sm.PR} (hf : qCj kv) (k : List UInt8) (s : Nat) : (qEE kv k s).length ≤ 1000000 := by
 unfold qEE
 split
 · exact qGQ hf.small _
 · exact Nat.zero_le _
theorem qGm {kv : List Sm.PR} (ho : Sm.Once kv) {k v : List UInt8} {p : Sm.PR} : p ∈ Sm.putP kv k v ↔ (p ∈ kv ∧ p.1 ≠ k) ∨ p = (k, v) := by
 rw [(Sm.putP_perm k v ho).mem_iff]
 unfold Sm.setP
 rw [List.mem_append, List.mem_filter, decide_eq_true_eq, List.mem_singleton]
theorem qCj.put {kv : List Sm.PR} (hf : qCj kv) {k v : List UInt8} (hk : k.length = 16) (hv : v.length ≤ 1000000) (hl : kv.length ≤ 100000) : qCj (Sm.putP kv k v) := by
  refine ⟨(Sm.setP_once k v hf.once).perm (Sm.putP_perm k v hf.once).symm, fun p q => ?_, fun p q => ?_, Nat.le_trans (Sm.putP_len kv k v) (by omega)⟩
  · rcases (qGm hf.once).1 q with ⟨q, _⟩ | rfl
    · exact hf.k16 p q
    · exact hk
  · rcases (qGm hf.once).1 q with ⟨q, _⟩ | rfl
    · exact hf.small p q
    · exact hv
theorem qEO {kv : List Sm.PR} (hf : qCj kv) {k v : List UInt8} (hk : k.length = 16) {b : List UInt8} (hb : b.length = 16) {d : Nat} (hd : d ≤ 128) (hn : Sm.belowB k b d = false) (hv : v.length ≤ 1000000) (hl : kv.length ≤ 100000) :
    Sm.ndB (Sm.putP kv k v) b d = Sm.ndB kv b d := by
  have hf' := hf.put hk hv hl
  have h1 : Sm.ndB (Sm.putP kv k v) b d = Sm.ndB (Sm.setP kv k v) b d := Sm.ndB_perm hf'.once hf'.k16 (Sm.putP_perm k v hf.once) hb hd
  rw [h1]
  unfold Sm.ndB Sm.bel Sm.setP
  rw [List.filter_append, List.filter_cons, if_neg (by rw [hn]; decide), List.filter_nil, List.append_nil, List.filter_filter]
  congr 1
  refine List.filter_congr fun p hp => ?_
  by_cases h : p.1 = k
  · rw [h, hn]; rfl
  · rw [decide_eq_true h, Bool.and_true]
theorem qRG {kv : List Sm.PR} (hf : qCj kv) {k v : List UInt8} (hk : k.length = 16) (hv : v.length ≤ 1000000) (hl : kv.length ≤ 100000) {d n : Nat} (hd : d + n ≤ 128) : bsd (Sm.putP kv k v) k d n = bsd kv k d n := by
 unfold bsd
 refine List.map_congr_left fun i hi => ?_
 have := List.mem_range.1 hi
 have hb := Sm.bit_le k (d + i)
 refine qEO hf hk ((qBq _ _).trans hk) (by omega) (Sm.belowB_no (i := d + i) (by omega) ?_) hv hl
 rw [qCZ hk (by omega) (by omega), if_pos rfl]
 omega
theorem qQU {kv : List Sm.PR} (hf : qCj kv) {k v : List UInt8} (hk : k.length = 16) (hv : v.length ≤ 1000000) (hl : kv.length ≤ 100000) {s : Nat} (hs : s ≤ 128) (ho : ∀ p ∈ cur kv k s, p.1 = k) : Sm.ndB (Sm.putP kv k v) k s = Sb.leafN k v := by
 have hf' := hf.put hk hv hl
 have h1 : Sm.ndB (Sm.putP kv k v) k s = Sm.ndB (Sm.setP kv k v) k s := Sm.ndB_perm hf'.once hf'.k16 (Sm.putP_perm k v hf.once) hk hs
 have hself : Sm.belowB k k s = true := Sm.belowB_yes fun _ _ => rfl
 rw [h1]
 unfold Sm.ndB Sm.bel Sm.setP
 rw [List.filter_append, List.filter_cons, if_pos hself, List.filter_nil, List.filter_filter, List.filter_eq_nil_iff.2 (fun p hp => by
  intro q
  rw [Bool.and_eq_true, decide_eq_true_eq] at q
  exact q.2 (ho p (List.mem_filter.2 ⟨hp, q.1⟩))), List.nil_append, Sm.nd_one]
theorem qN4 {kv : List Sm.PR} (hf : qCj kv) {k v q w : List UInt8} (hk : k.length = 16) (hv : v.length ≤ 1000000) (hl : kv.length ≤ 100000) {s : Nat} (hs : s ≤ 128) (hc : cur kv k s = [(q, w)]) (hq : q ≠ k) : Sm.ndB (Sm.putP kv k v) k s = Sm.ndB [(k, v), (q, w)] k s := by
 have hf' := hf.put hk hv hl
 have h1 : Sm.ndB (Sm.putP kv k v) k s = Sm.ndB (Sm.setP kv k v) k s := Sm.ndB_perm hf'.once hf'.k16 (Sm.putP_perm k v hf.once) hk hs
 have hself : Sm.belowB k k s = true := Sm.belowB_yes fun _ _ => rfl
 have hqb : Sm.belowB q k s = true := (List.mem_filter.1 (show (q, w) ∈ cur kv k s by rw [hc]; exact .head _)).2
 have e1 : Sm.bel (Sm.setP kv k v) k s = [(q, w), (k, v)] := by
  unfold Sm.bel Sm.setP
  rw [List.filter_append, List.filter_cons, if_pos hself, List.filter_nil, List.filter_filter]
  have e2 : kv.filter (fun p => Sm.belowB p.1 k s && decide (p.1 ≠ k)) = (cur kv k s).filter (fun p => decide (p.1 ≠ k)) := by
   show _ = (kv.filter fun p => Sm.belowB p.1 k s).filter (fun p => decide (p.1 ≠ k))
   rw [List.filter_filter]
   refine List.filter_congr fun p _ => ?_
   rw [Bool.and_comm]
  rw [e2, hc, List.filter_cons, if_pos (decide_eq_true hq), List.filter_nil]; rfl
 have e3 : Sm.bel [(k, v), (q, w)] k s = [(k, v), (q, w)] := by unfold Sm.bel; rw [List.filter_cons, if_pos hself, List.filter_cons, if_pos hqb, List.filter_nil]
 have hw : Sm.WF (128 - s) (Sm.bel (Sm.setP kv k v) k s) := (Sm.bel_wf hf'.once hf'.k16 hk hs).perm ((Sm.putP_perm k v hf.once).filter _)
 rw [h1]
 unfold Sm.ndB
 rw [e3]
 exact Sm.nd_perm _ hw (show (Sm.bel (Sm.setP kv k v) k s).Perm [(k, v), (q, w)] by rw [e1]; exact List.Perm.swap _ _ _)
structure Two (k q : List UInt8) (a : Nat) : Prop where
 k16 : k.length = 16
 q16 : q.length = 16
 lt : a < 128
 same : ∀ i, i < a → Sm.bit k i = Sm.bit q i
 differ : Sm.bit k a ≠ Sm.bit q a
theorem Two.ne {k q : List UInt8} {a : Nat} (h : Two k q a) : q ≠ k := fun e => h.differ (by rw [e])
theorem Two.fine {k q v w : List UInt8} {a : Nat} (h : Two k q a) (hv : v.length ≤ 1000000) (hw : w.length ≤ 1000000) : qCj [(k, v), (q, w)] := by
  refine ⟨?_, fun p hp => ?_, fun p hp => ?_, by simp⟩
  · unfold Sm.Once
    rw [List.pairwise_cons]
    exact ⟨fun p hp => by rw [List.mem_singleton.1 hp]; exact fun e => h.ne e.symm, by simp⟩
  · rcases List.mem_cons.1 hp with rfl | hp
    · exact h.k16
    · rw [List.mem_singleton.1 hp]; exact h.q16
  · rcases List.mem_cons.1 hp with rfl | hp
    · exact hv
    · rw [List.mem_singleton.1 hp]; exact hw
theorem Two.top {k q v w : List UInt8} {a : Nat} (h : Two k q a) (hv : v.length ≤ 1000000) (hw : w.length ≤ 1000000) : Sm.ndB [(k, v), (q, w)] k a = up k a (Sb.leafN k v) (Sb.leafN q w) := by
 rw [← qIi (h.fine hv hw) h.k16 h.lt]
 have hb := Sm.bit_le k a
 have hb2 := Sm.bit_le q a
 have hd := h.differ
 have h1 : Sm.belowB k k (a + 1) = true := Sm.belowB_yes fun _ _ => rfl
 have h2 : Sm.belowB q k (a + 1) = false := Sm.belowB_no (i := a) (by omega) fun e => h.differ e.symm
 have h3 : Sm.belowB k (turn k a) (a + 1) = false := Sm.belowB_no (i := a) (by omega) (by rw [qCZ h.k16 h.lt h.lt, if_pos rfl]; omega)
 have h4 : Sm.belowB q (turn k a) (a + 1) = true := Sm.belowB_yes fun i hi => by
  have hlt := h.lt
  rw [qCZ h.k16 h.lt (by omega)]
  by_cases hia : i = a
  · rw [if_pos hia, hia]; omega
  · rw [if_neg hia]; exact (h.same i (by omega)).symm
 unfold Sm.ndB
 have e1 : Sm.bel [(k, v), (q, w)] k (a + 1) = [(k, v)] := by unfold Sm.bel; rw [List.filter_cons, if_pos h1, List.filter_cons, if_neg (by rw [h2]; decide), List.filter_nil]
 have e2 : Sm.bel [(k, v), (q, w)] (turn k a) (a + 1) = [(q, w)] := by unfold Sm.bel; rw [List.filter_cons, if_neg (by rw [h3]; decide), List.filter_cons, if_pos h4, List.filter_nil]
 rw [e1, e2, Sm.nd_one, Sm.nd_one]
theorem Two.step {k q v w : List UInt8} {a : Nat} (h : Two k q a) (hv : v.length ≤ 1000000) (hw : w.length ≤ 1000000) {e : Nat} (he : e < a) : Sm.ndB [(k, v), (q, w)] k e = up k e (Sm.ndB [(k, v), (q, w)] k (e + 1)) [0] := by
 have hlt := h.lt
 rw [← qIi (h.fine hv hw) h.k16 (d := e) (by omega)]
 have hb := Sm.bit_le k e
 have hs := h.same e he
 have h3 : Sm.belowB k (turn k e) (e + 1) = false := Sm.belowB_no (i := e) (by omega) (by rw [qCZ h.k16 (by omega) (by omega), if_pos rfl]; omega)
 have h4 : Sm.belowB q (turn k e) (e + 1) = false := Sm.belowB_no (i := e) (by omega) (by rw [qCZ h.k16 (by omega) (by omega), if_pos rfl]; omega)
 have e2 : Sm.bel [(k, v), (q, w)] (turn k e) (e + 1) = [] := by unfold Sm.bel; rw [List.filter_cons, if_neg (by rw [h3]; decide), List.filter_cons, if_neg (by rw [h4]; decide), List.filter_nil]
 congr 1
 unfold Sm.ndB
 rw [e2, Sm.nd_nil]
theorem Two.le {k q : List UInt8} {a s : Nat} (h : Two k q a) (hs : Sm.belowB q k s = true) : s ≤ a := by
  rcases Nat.lt_or_ge a s with h1 | h1
  · have := List.all_eq_true.1 hs a (List.mem_range.2 h1)
    exact absurd (of_decide_eq_true this).symm h.differ
  · exact h1
def qHK (x : Nat) : Nat := if x = 0 then 0 else Nat.log2 x + 1
theorem qRD : ∀ x : Fin 256, x.val ≠ 0 → 1 ≤ qHK x.val ∧ qHK x.val ≤ 8 ∧ x.val / 2 ^ (qHK x.val - 1) % 2 = 1 ∧ x.val < 2 ^ qHK x.val := by decide +kernel
theorem qJO (x y j : Nat) : (x ^^^ y) / 2 ^ j % 2 = 1 ↔ x / 2 ^ j % 2 ≠ y / 2 ^ j % 2 := by
 have h1 := Nat.testBit_eq_decide_div_mod_eq (x := x ^^^ y) (i := j)
 have h2 := Nat.testBit_eq_decide_div_mod_eq (x := x) (i := j)
 have h3 := Nat.testBit_eq_decide_div_mod_eq (x := y) (i := j)
 rw [Nat.testBit_xor, h2, h3] at h1
 have a2 : x / 2 ^ j % 2 < 2 := Nat.mod_lt _ (by decide)
 have a3 : y / 2 ^ j % 2 < 2 := Nat.mod_lt _ (by decide)
 have hx : x / 2 ^ j % 2 = 0 ∨ x / 2 ^ j % 2 = 1 := by omega
 have hy : y / 2 ^ j % 2 = 0 ∨ y / 2 ^ j % 2 = 1 := by omega
 rcases hx with hx | hx <;> rcases hy with hy | hy <;> rw [hx, hy] at h1 ⊢ <;> simp at h1 <;> omega
theorem qRd {k q : List UInt8} (hk : k.length = 16) (hq : q.length = 16) {i : Nat} (hi : i < 16) (hs : ∀ j, j < i → k.getD j 0 = q.getD j 0) (hn : (k.getD i 0 ^^^ q.getD i 0).toNat ≠ 0) :
    Two k q (8 * i + (8 - qHK (k.getD i 0 ^^^ q.getD i 0).toNat)) := by
  obtain ⟨x, hx⟩ : ∃ x, x = (k.getD i 0 ^^^ q.getD i 0).toNat := ⟨_, rfl⟩
  rw [← hx] at hn ⊢
  have hxl : x < 256 := by rw [hx]; exact (k.getD i 0 ^^^ q.getD i 0).toNat_lt
  obtain ⟨h1, h2, h3, h4⟩ := qRD ⟨x, hxl⟩ hn
  dsimp only at h1 h2 h3 h4
  have hxe : x = (k.getD i 0).toNat ^^^ (q.getD i 0).toNat := by rw [hx, UInt8.toNat_xor]
  have hbit : ∀ (z : Nat), z < 8 → Sm.bit k (8 * i + z) = (k.getD i 0).toNat / 2 ^ (7 - z) % 2 ∧ Sm.bit q (8 * i + z) = (q.getD i 0).toNat / 2 ^ (7 - z) % 2 := fun z hz => by
    unfold Sm.bit
    rw [if_pos (by omega), if_pos (by omega), show (8 * i + z) / 8 = i by omega, show (8 * i + z) % 8 = z by omega]
    exact ⟨rfl, rfl⟩
  refine ⟨hk, hq, by omega, fun j hj => ?_, ?_⟩
  · by_cases hji : j / 8 < i
    · unfold Sm.bit
      rw [if_pos (by omega), if_pos (by omega), hs _ hji]
    · have hj8 : j = 8 * i + (j - 8 * i) := by omega
      obtain ⟨b1, b2⟩ := hbit (j - 8 * i) (by omega)
      rw [← hj8] at b1 b2
      rw [b1, b2]
      have h5 : ¬ (x / 2 ^ (7 - (j - 8 * i)) % 2 = 1) := by
        have h6 : x / 2 ^ (7 - (j - 8 * i)) = 0 := Nat.div_eq_of_lt (Nat.lt_of_lt_of_le h4 (Nat.pow_le_pow_right (by decide) (by omega)))
        rw [h6]; decide
      rw [hxe] at h5
      exact Decidable.by_contra fun h => h5 ((qJO _ _ _).2 h)
  · obtain ⟨b1, b2⟩ := hbit (8 - qHK x) (by omega)
    rw [b1, b2, show 7 - (8 - qHK x) = qHK x - 1 by omega]
    rw [hxe] at h3
    exact (qJO _ _ _).1 (by rw [← hxe]; rw [← hxe] at h3; exact h3)
end Go.Proofs.YtfldiegfenndjaaGreatDoor
