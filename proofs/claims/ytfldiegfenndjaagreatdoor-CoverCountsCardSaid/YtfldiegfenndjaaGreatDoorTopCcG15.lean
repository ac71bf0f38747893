/- A part of the proof. -/
import Derived.Test.YtfldiegfenndjaaGreatDoorTopCcG8
import Derived.Test.YtfldiegfenndjaaGreatDoorTopCcG11
import Derived.Test.YtfldiegfenndjaaGreatDoorTopCcG4
import Derived.Test.YtfldiegfenndjaaGreatDoorTopCcG10
set_option linter.unusedSimpArgs false
set_option linter.unusedVariables false
namespace Go.Proofs.YtfldiegfenndjaaGreatDoor
open Go Go.Fw Go.Proofs.Tryz
set_option maxRecDepth 100000
set_option maxHeartbeats 1000000
theorem ent79 : qAC prog 79 := qAC.of func79 rfl (by kernel_rfl)
theorem ent80 : qAC prog 80 := qAC.of func80 rfl (by kernel_rfl)
theorem ent81 : qAC prog 81 := qAC.of func81 rfl (by kernel_rfl)
theorem ent136 : qAC prog 136 := qAC.of func136 rfl (by kernel_rfl)
theorem ent178 : qAC prog 178 := qAC.of func178 rfl (by kernel_rfl)
theorem ent215 : qAC prog 215 := qAC.of func215 rfl (by kernel_rfl)
theorem el36 : qDV prog 36 [.int .u64 0] 8 := qDV.of (by kernel_rfl) rfl
abbrev NW (x : UInt32) : Value := N64 x.toNat
def qBs (l : List Nat) : List (List Value) := l.map fun x => [N64 x]
theorem qCE {l : List Nat} {k : Nat} (h : k < l.length) : (qBs l)[k]? = some [N64 (l.getD k 0)] := by
 unfold qBs; rw [List.getElem?_map, List.getElem?_eq_getElem h, List.getD_eq_getElem?_getD, List.getElem?_eq_getElem h]; rfl
theorem qLQ (l : List Nat) : (qBs l).flatten = l.map N64 := qA6 _ _
theorem qFW (l : List Nat) : (qBs l).length = l.length := by simp [qBs]
theorem qNM (a b : List Nat) : qBs (a ++ b) = qBs a ++ qBs b := by simp [qBs]
theorem qH5 (a : List Nat) : (qBs a).all (fun x => x.all Value.oneCell') = true := by simp [qBs, Value.oneCell']
theorem qCs {q : Prop} {e g : Nat} (l : List Nat) {n : Nat} (hn : l.length = n) : qB5 q (blk g (l.map N64) e) e 1 (some ⟨g, 0, none⟩) n n (qBs l) := by
 rw [← qLQ]; exact qAr (by rw [qFW, hn]) (by simp [qBs])
theorem qBc (F : Hp) (X : UInt32) (n : Nat) (h1 : 1 ≤ n) (h2 : n < 32) :
    Ct prog 81 [NW X, N64 n] [F] (fun _ : Unit => NW (Sha.rotr X n)) (fun _ => True) (fun _ => [F]) := by
  refine Ct.walk func81 rfl ntmps81 rfl (fun w0 hw0 => ?_)
  change J _ [(0, _), (1, _)] _ _ _
  refine J.g fun K1 hK1 => J.b rfl <| J.c hK1 <| J.M 0 1 ?_
  refine J.g fun K2 hK2 => J.b rfl <| J.c hK2 <| J.V 0 1 5 ?_
  refine J.k fun K3 hK3 => J.g fun K4 hK4 => J.b rfl <| J.c hK4 <| J.W 0 1 5 6 ?_
  refine J.T <| J.b2 (fun k : Nat => [(0, NW X), (1, N64 n), (5, N64 (2 ^ k)), (6, N64 k)]) (fun _ => [F]) (fun k => k ≤ n) (fun k => n - k) 0 (Nat.zero_le _) ⟨rfl, rfl, rfl, rfl, trivial⟩ (fun _ h => h) ?_
  intro k hk I0 hI0
  have hk2 : 2 ^ k ≤ 2147483648 := Nat.pow_le_pow_right (by decide) (show k ≤ 31 by omega)
  refine J.k fun K5 hK5 => J.g fun K6 hK6 => J.p 2 rfl <| J.f (qAS rfl rfl rfl) rfl <| J.c hK6 <| J.a3 0 1 5 6 9 ?_
  refine J.a0 rfl (fun h9 => ?_) (fun h9 => ?_)
  ·
    refine J.a1 hK5 <| J.W 0 1 5 6 ?_
    refine J.k fun K7 hK7 => J.T <| J.E <| J.b rfl <| J.f ((qDA (b := 2) rfl rfl rfl (by omega)).as (v' := N64 (2 ^ (k + 1))) (congrArg N64 (Nat.pow_succ 2 k).symm)) rfl <| J.b rfl <| J.a2 <| J.a4 <| J.q (J.H hK7 ?_)
    refine J.W 0 1 5 6 ?_
    exact J.E <| J.b rfl <| J.f ((qA4 (b := 1) rfl rfl rfl (by omega)).n64 (k + 1) (by omega)) rfl <| J.b rfl <| J.a2 <| J.q <| J.a6 (k + 1) (fun x (hx : x ≤ n ∧ n - x < n - k) => hI0 x hx.1 hx.2) ⟨by omega, by omega⟩ ⟨rfl, rfl, rfl, rfl, trivial⟩ (fun _ h => h)
  refine J.b0 <| J.Z <| J.Z <| J.b1 ?_
  refine J.q (J.H hK3 ?_)
  refine J.M 0 5 ?_
  refine J.k fun K8 hK8 => ?_
  have hkn : n = k := by omega
  subst hkn
  have e := R3.rotr_nat X n h1 h2
  have e2 := (Sha.rotr X n).toNat_lt
  have e3 := X.toNat_lt
  have e4 := Nat.mod_le X.toNat (2 ^ n)
  have e5 := Nat.div_le_self 4294967296 (2 ^ n)
  have e6 := Nat.div_le_self X.toNat (2 ^ n)
  have e7 := Nat.two_pow_pos n
  have b2 : X.toNat / 2 ^ n + X.toNat % 2 ^ n * (4294967296 / 2 ^ n) < 18446744073709551616 := by rw [← e]; omega
  have b1 := Nat.lt_of_le_of_lt (Nat.le_add_left (X.toNat % 2 ^ n * (4294967296 / 2 ^ n)) (X.toNat / 2 ^ n)) b2
  refine J.b5 [F] [] (.y 0 (.y 1 (.y 2 (.y 3 (.y 4 (.y 5 (.y 6 (.y 7 (.y 8 (.y 9 (.y 10 .nil))))))))))) Tryz.wide (by decide +kernel) (by simp) ?_
  refine J.G ?_
  refine J.G ?_
  refine J.j rfl (qCV rfl rfl rfl (by omega)) rfl rfl <| J.G ?_
  refine J.G ?_
  refine J.j rfl (qBa rfl rfl rfl (by omega)) rfl rfl <| J.G ?_
  refine J.j rfl (qCV (a := 4294967296) rfl rfl rfl (by omega)) rfl rfl <| J.j rfl (qDA rfl rfl rfl ⟨by omega, by omega, b1⟩) rfl rfl <| J.j rfl ((qA4 rfl rfl rfl b2).as (v' := NW (Sha.rotr X n)) (congrArg N64 e.symm)) rfl rfl <| J.c0 ?_
  refine J.b4 <| J.q (J.H hK8 ?_)
  refine J.A 4 ?_
  exact J.D <| J.L hw0 rfl () rfl trivial [0] rfl (by decide)
theorem qBv (F : Hp) (a n : Nat) (ha : a < 18446744073709551616) (hn : n ≤ 64) :
    Ct prog 80 [N64 a, I n] [F] (fun _ : Unit => N64 (a / 2 ^ n)) (fun _ => True) (fun _ => [F]) := by
  refine Ct.walk func80 rfl ntmps80 rfl (fun w0 hw0 => ?_)
  change J _ [(0, _), (1, _)] _ _ _
  refine J.g fun K1 hK1 => J.b rfl <| J.c hK1 <| J.M 0 1 ?_
  refine J.k fun K2 hK2 => J.g fun K3 hK3 => J.b rfl <| J.c hK3 <| J.V 0 1 5 ?_
  refine J.T <| J.b2 (fun k : Nat => [(0, N64 (a / 2 ^ k)), (1, I n), (5, I k)]) (fun _ => [F]) (fun k => k ≤ n) (fun k => n - k) 0 (Nat.zero_le _) ⟨by rw [Nat.pow_zero, Nat.div_one]; rfl, rfl, rfl, trivial⟩ (fun _ h => h) ?_
  intro k hk I0 hI0
  have hd := Nat.div_le_self a (2 ^ k)
  refine J.k fun K4 hK4 => J.g fun K5 hK5 => J.p 2 rfl <| J.f (qAS rfl rfl rfl) rfl <| J.c hK5 <| J.W 0 1 5 8 ?_
  refine J.a0 rfl (fun h8 => ?_) (fun h8 => ?_)
  ·
    refine J.a1 hK4 <| J.V 0 1 5 ?_
    refine J.k fun K6 hK6 => J.T <| J.E <| J.b rfl <| J.f ((qCV (b := 2) rfl rfl rfl (by omega)).as (v' := N64 (a / 2 ^ (k + 1))) (congrArg N64 (by rw [Nat.pow_succ, Nat.div_div_eq_div_mul]))) rfl <| J.b rfl <| J.a2 <| J.a4 <| J.q (J.H hK6 ?_)
    refine J.V 0 1 5 ?_
    exact J.E <| J.b rfl <| J.f ((qAO rfl rfl rfl (by omega)).nat (k + 1) (by omega)) rfl <| J.b rfl <| J.a2 <| J.q <| J.a6 (k + 1) (fun x (hx : x ≤ n ∧ n - x < n - k) => hI0 x hx.1 hx.2) ⟨by omega, by omega⟩ ⟨rfl, rfl, rfl, trivial⟩ (fun _ h => h)
  refine J.b0 <| J.Z <| J.Z <| J.b1 ?_
  refine J.q (J.H hK2 ?_)
  refine J.A 0 ?_
  refine J.k fun K7 hK7 => ?_
  have hkn : n = k := by omega
  subst hkn
  refine J.E <| J.p 2 rfl <| J.c hK7 <| J.A 4 ?_
  exact J.D <| J.L hw0 rfl () rfl trivial [0] rfl (by decide)
theorem qNm (F : Hp) (n : Nat) (hn : n < 9223372036854775808) :
    Ct prog 42 [I n] [F] (fun _ : Unit => Str (Sha.numB (UInt64.ofNat n) 4)) (fun _ => True) (fun _ => [F]) := by
  have e := R3.four_nat n (by omega)
  have d1 := Nat.div_le_self n (2 ^ 24)
  have d2 := Nat.div_le_self n (2 ^ 16)
  have d3 := Nat.div_le_self n (2 ^ 8)
  refine Ct.walk func42 rfl ntmps42 rfl (fun w0 hw0 => ?_)
  change J _ [(0, _)] _ _ _
  refine J.g fun K1 hK1 => J.b rfl <| J.c hK1 <| J.A 0 ?_
  refine J.g fun K2 hK2 => J.b rfl <| J.f (qCg rfl rfl u3_ qDu (by omega)) rfl <| J.u (qAB rfl rfl ent80 (qBv F n 24 (by omega) (by decide))) rfl fun g5 _ => J.f (qCf rfl rfl qDu u5_ (by omega)) rfl <| J.b rfl <| J.f (qCg rfl rfl u3_ qDu (by omega)) rfl <| J.u (qAB rfl rfl ent80 (qBv F n 16 (by omega) (by decide))) rfl fun g9 _ => J.f (qCf rfl rfl qDu u5_ (by omega)) rfl <| J.b rfl <| J.f (qCg rfl rfl u3_ qDu (by omega)) rfl <| J.u (qAB rfl rfl ent80 (qBv F n 8 (by omega) (by decide))) rfl fun g13 _ => J.f (qCf rfl rfl qDu u5_ (by omega)) rfl <| J.b rfl <| J.f (qAe rfl rfl u3_ u5_) rfl <| J.u (qAH (l := [.tmp 6, .tmp 10, .tmp 14, .tmp 16]) (xs := [[B8 (UInt8.ofNat (n / 2 ^ 24))], [B8 (UInt8.ofNat (n / 2 ^ 16))], [B8 (UInt8.ofNat (n / 2 ^ 8))], [B8 (UInt8.ofNat n)]]) rfl rfl rfl rfl qBP el5 rfl (by decide) (by decide) (by simp)) rfl fun g17 _ => ?_
  change J _ _ _ [F, blk g17 [B8 (UInt8.ofNat (n / 2 ^ 24)), B8 (UInt8.ofNat (n / 2 ^ 16)), B8 (UInt8.ofNat (n / 2 ^ 8)), B8 (UInt8.ofNat n)] 5] _
  refine J.f (qBB (l := [(UInt8.ofNat (n / 2 ^ 24)), (UInt8.ofNat (n / 2 ^ 16)), (UInt8.ofNat (n / 2 ^ 8)), (UInt8.ofNat n)]) rfl rfl qBP u5_ u9_ (m := blk g17 [B8 (UInt8.ofNat (n / 2 ^ 24)), B8 (UInt8.ofNat (n / 2 ^ 16)), B8 (UInt8.ofNat (n / 2 ^ 8)), B8 (UInt8.ofNat n)] 5) (by simp) (qAr (q := True) (xs := [[B8 (UInt8.ofNat (n / 2 ^ 24))], [B8 (UInt8.ofNat (n / 2 ^ 16))], [B8 (UInt8.ofNat (n / 2 ^ 8))], [B8 (UInt8.ofNat n)]]) rfl (by simp)).sl) rfl <| J.b rfl <| J.c hK2 <| J.A 2 ?_
  exact J.D <| J.L hw0 rfl () (by rw [e]) trivial [0] rfl (by decide)
theorem qEL (F : Hp) (A : Option Addr) (n c : Nat) (a : List Nat) (ha : Sl F 1 A n c (qBs a)) (B : Option Addr) (n2 c2 : Nat) (b : List Nat) (hb : Sl F 1 B n2 c2 (qBs b))
    (hda : ∀ j, a.getD j 0 < 65536) (hdb : ∀ j, b.getD j 0 < 65536) (hn : n ≤ 100) (hn2 : n2 ≤ 100) :
    Ct prog 215 [.slice A n c, .slice B n2 c2] [F] (fun g : Nat => .slice (some ⟨g, 0, none⟩) (n + n2) (n + n2)) (fun _ => True) (fun g => [F, blk g ((R3.times a b).map N64) 36]) := by
  have hla : a.length = n := by have := ha.1; rwa [qFW] at this
  have hlb : b.length = n2 := by have := hb.1; rwa [qFW] at this
  refine Ct.walk func215 rfl ntmps215 rfl (fun w0 hw0 => ?_)
  change J _ [(0, _), (1, _)] _ _ _
  refine J.g fun K1 hK1 => J.b rfl <| J.c hK1 <| J.M 0 1 ?_
  refine J.g fun K2 hK2 => J.b rfl <| J.f (qAZ qAq rfl rfl) rfl <| J.b rfl <| J.f (qAZ qAq rfl rfl) rfl <| J.f ((qAO rfl rfl rfl (by omega)).nat (n + n2) (by omega)) rfl <| J.u (qBi (n' := n + n2) rfl rfl qAq el36 (by omega) (by omega)) rfl fun g15 _ => ?_
  change J _ _ _ [F, blk g15 (List.replicate (n + n2) [N64 0]).flatten 36] _
  refine J.b rfl <| J.c hK2 <| J.V 0 1 5 ?_
  refine J.k fun K3 hK3 => J.g fun K4 hK4 => J.b rfl <| J.c hK4 <| J.W 0 1 5 6 ?_
  refine J.T <| J.b2 (fun i : Nat => [(0, .slice A n c), (1, .slice B n2 c2), (5, .slice (some ⟨g15, 0, none⟩) (n + n2) (n + n2)), (6, I i)]) (fun i => [F, blk g15 ((R3.rows a b i).map N64) 36]) (fun i => i ≤ n) (fun i => n - i) 0 (Nat.zero_le _) ⟨rfl, rfl, rfl, rfl, trivial⟩ (fun _ h => by rw [qJm, ← qMr N64] at h; rw [R3.rows, hla, hlb]; exact h) ?_
  intro i hi I0 hI0
  have hro := R3.rows_ok a b hda hdb i (by omega)
  have hll := hro.len
  refine J.k fun K5 hK5 => J.g fun K6 hK6 => J.p 2 rfl <| J.f (qAZ qAq rfl rfl) rfl <| J.f (qAS rfl rfl rfl) rfl <| J.c hK6 <| J.a3 0 1 5 6 19 ?_
  refine J.a0 rfl (fun h19 => ?_) (fun h19 => ?_)
  ·
    refine J.a1 hK5 <| J.W 0 1 5 6 ?_
    refine J.k fun K7 hK7 => J.T <| J.g fun K8 hK8 => J.b rfl <| J.c hK8 <| J.a3 0 1 5 6 7 ?_
    refine J.k fun K9 hK9 => J.g fun K10 hK10 => J.b rfl <| J.c hK10 <| J.a9 0 1 5 6 7 8 ?_
    refine J.T <| J.b2 (fun k : Nat => [(0, .slice A n c), (1, .slice B n2 c2), (5, .slice (some ⟨g15, 0, none⟩) (n + n2) (n + n2)), (6, I i), (7, N64 (R3.row (a.getD i 0) b i (R3.rows a b i) k).2), (8, I k)]) (fun k => [F, blk g15 ((R3.row (a.getD i 0) b i (R3.rows a b i) k).1.map N64) 36]) (fun k => k ≤ n2) (fun k => n2 - k) 0 (Nat.zero_le _) ⟨rfl, rfl, rfl, rfl, rfl, rfl, trivial⟩ (fun _ h => h) ?_
    intro k hk I2 hI2
    have hrd := R3.row_ok (a.getD i 0) b i (R3.rows a b i) (hda i) hdb hro.dig (by omega) k (by omega)
    have hrl := hrd.len
    refine J.k fun K11 hK11 => J.g fun K12 hK12 => J.p 2 rfl <| J.f (qAZ qAq rfl rfl) rfl <| J.f (qAS rfl rfl rfl) rfl <| J.c hK12 <| J.b9 0 1 5 6 7 8 25 ?_
    refine J.a0 rfl (fun h25 => ?_) (fun h25 => ?_)
    ·
      refine J.a1 hK11 <| J.a9 0 1 5 6 7 8 ?_
      refine J.k fun K13 hK13 => J.T <| J.k fun K14 hK14 => ?_
      have hai := hda i
      have hbk := hdb k
      have hpr : a.getD i 0 * b.getD k 0 ≤ 65535 * 65535 := Nat.mul_le_mul (by omega) (by omega)
      have hdo := hrd.dig (i + k)
      have hdc := hrd.car
      refine J.b5 [F, blk g15 ((R3.row (a.getD i 0) b i (R3.rows a b i) k).1.map N64) 36] [] (.y 0 (.y 1 (.y 2 (.y 3 (.y 4 (.y 5 (.y 6 (.y 7 (.y 8 (.y 9 (.y 10 (.y 11 (.y 12 (.y 13 (.y 14 (.y 15 (.y 16 (.y 17 (.y 18 .nil))))))))))))))))))) Tryz.wide (by decide +kernel) (by simp) ?_
      iterate 3 refine J.G ?_
      refine J.j rfl ((qAO rfl rfl rfl (by omega)).nat (i + k) (by omega)) rfl rfl <| J.j rfl (qAJ (i := i + k) (j := i + k) rfl rfl rfl qAq qBQ (by omega) (by omega)) rfl rfl <| J.j rfl (qAF 1 rfl rfl rfl qBq (qCG 0 (by omega))) rfl rfl <| J.G ?_
      refine J.G ?_
      refine J.j rfl (qAG (i := i) rfl rfl rfl qAq qBQ ha (by omega)) rfl rfl <| J.j rfl (qAK rfl rfl qBq (m := F) (by simp) (ha.elem (qCE (k := i) (by omega)))) rfl rfl <| J.G ?_
      refine J.G ?_
      refine J.j rfl (qAG (i := k) rfl rfl rfl qAq qBQ hb (by omega)) rfl rfl <| J.j rfl (qAK rfl rfl qBq (m := F) (by simp) (hb.elem (qCE (k := k) (by omega)))) rfl rfl <| J.j rfl (qDA rfl rfl rfl (by omega)) rfl rfl <| J.j rfl (qA4 rfl rfl rfl (by omega)) rfl rfl <| J.G ?_
      refine J.j rfl (qA4 rfl rfl rfl (by omega)) rfl rfl <| J.c0 ?_
      refine J.b4 <| J.q (J.H hK14 ?_)
      refine J.a9 0 1 5 6 8 9 ?_
      refine J.g fun K15 hK15 => J.p 3 rfl <| J.f ((qAO rfl rfl rfl (by omega)).nat (i + k) (by omega)) rfl <| J.b rfl <| J.f (qBa (b := 65536) rfl rfl rfl (by omega)) rfl <| J.f (qAJ (i := i + k) (j := i + k) rfl rfl rfl qAq qBQ (by omega) (by omega)) rfl <| J.c1 (qAc (i := 1) (vs := [N64 _]) rfl rfl rfl rfl rfl qBQ rfl (by rw [List.length_map]; show i + k + 1 ≤ _; omega)) rfl rfl fun _ _ => ?_
      change J _ _ _ [F, _] _
      refine J.c hK15 <| J.a9 0 1 5 6 8 9 ?_
      refine J.E <| J.b rfl <| J.f (qCV (b := 65536) rfl rfl rfl (by omega)) rfl <| J.b rfl <| J.a2 <| J.a4 <| J.q (J.H hK13 ?_)
      refine J.a9 0 1 5 6 7 8 ?_
      exact J.E <| J.b rfl <| J.f ((qAO rfl rfl rfl (by omega)).nat (k + 1) (by omega)) rfl <| J.b rfl <| J.a2 <| J.q <| J.a6 (k + 1) (fun x (hx : x ≤ n2 ∧ n2 - x < n2 - k) => hI2 x hx.1 hx.2) ⟨by omega, by omega⟩ ⟨rfl, rfl, rfl, rfl, rfl, rfl, trivial⟩ (fun _ h => by rw [qDx N64 _ _ _ (by omega)] at h; exact h)
    refine J.b0 <| J.Z <| J.Z <| J.b1 ?_
    refine J.q (J.H hK9 ?_)
    refine J.a3 0 1 5 6 7 ?_
    have hkn : n2 = k := by omega
    subst hkn
    have hdo := hrd.dig (i + n2)
    have hdc := hrd.car
    refine J.E <| J.p 3 rfl <| J.f (qAZ qAq rfl rfl) rfl <| J.f ((qAO rfl rfl rfl (by omega)).nat (i + n2) (by omega)) rfl <| J.f (qAJ (i := i + n2) (j := i + n2) rfl rfl rfl qAq qBQ (by omega) (by omega)) rfl <| J.f (qAF 1 rfl rfl rfl qBq (qCG 0 (by omega))) rfl <| J.b rfl <| J.f (qA4 rfl rfl rfl (by omega)) rfl <| J.f (qAJ (i := i + n2) (j := i + n2) rfl rfl rfl qAq qBQ (by omega) (by omega)) rfl <| J.c1 (qAc (i := 1) (vs := [N64 _]) rfl rfl rfl rfl rfl qBQ rfl (by rw [List.length_map]; show i + n2 + 1 ≤ _; omega)) rfl rfl fun _ _ => ?_
    change J _ _ _ [F, _] _
    refine J.a2 <| J.a4 <| J.q (J.H hK7 ?_)
    refine J.W 0 1 5 6 ?_
    exact J.E <| J.b rfl <| J.f ((qAO rfl rfl rfl (by omega)).nat (i + 1) (by omega)) rfl <| J.b rfl <| J.a2 <| J.q <| J.a6 (i + 1) (fun x (hx : x ≤ n ∧ n - x < n - i) => hI0 x hx.1 hx.2) ⟨by omega, by omega⟩ ⟨rfl, rfl, rfl, rfl, trivial⟩ (fun _ h => by rw [qDx N64 _ _ _ (by omega)] at h; rw [R3.rows, hlb]; exact h)
  refine J.b0 <| J.Z <| J.Z <| J.b1 ?_
  refine J.q (J.H hK3 ?_)
  refine J.A 5 ?_
  refine J.k fun K16 hK16 => ?_
  have hin : n = i := by omega
  subst hin
  refine J.E <| J.p 2 rfl <| J.c hK16 <| J.A 4 ?_
  exact J.D <| J.L hw0 rfl g15 rfl trivial [0, 1] (by rw [← hla]; rfl) (by decide)
theorem qJO (F : Hp) (y p : Nat) (hy : y < 281474976710656) :
    Ct prog 178 [N64 y, N64 p, .bool false] [F] (fun _ : Unit => .bool (R3.above y p false)) (fun _ => True) (fun _ => [F]) := by
  have hpd := R3.pieces_dig y hy
  obtain ⟨hl2, _, hd2⟩ := R3.times_val _ _ hpd hpd
  obtain ⟨hpl, _, hpw⟩ := R3.power_ok y false hy
  have hpl : (R3.power y false).length = 6 := hpl
  have hpo := R3.parts_ok (R3.power y false) 4 (by omega)
  have hab : R3.above y p false = (decide (p < (R3.parts (R3.power y false) 4 6).1) || (decide ((R3.parts (R3.power y false) 4 6).1 = p) && (R3.parts (R3.power y false) 4 6).2)) := by unfold R3.above; dsimp only; rw [hpl]; rfl
  refine Ct.walk func178 rfl ntmps178 rfl (fun w0 hw0 => ?_)
  change J _ [(0, _), (1, _), (2, _)] _ _ _
  refine J.g fun K1 hK1 => J.b rfl <| J.c hK1 <| J.V 0 1 2 ?_
  refine J.g fun K2 hK2 => J.b rfl <| J.f (qBa (b := 65536) rfl rfl rfl (by omega)) rfl <| J.b rfl <| J.f (qCV (b := 65536) rfl rfl rfl (by omega)) rfl <| J.f (qBa (b := 65536) rfl rfl rfl (by omega)) rfl <| J.b rfl <| J.f (qCV (b := 4294967296) rfl rfl rfl (by omega)) rfl <| J.u (qAH (l := [.tmp 14, .tmp 17, .tmp 19]) (xs := [[N64 (y % 65536)], [N64 (y / 65536 % 65536)], [N64 (y / 4294967296)]]) rfl rfl rfl rfl qAq el36 rfl (by decide) (by decide) (by simp)) rfl fun g20 _ => ?_
  change J _ _ _ [F, blk g20 ((R3.pieces y).map N64) 36] _
  refine J.b rfl <| J.c hK2 <| J.V 1 2 7 ?_
  refine J.g fun K3 hK3 => J.p 2 rfl <| J.u (qAB rfl rfl ent215 (Ct.use (fun F' hF => qEL F' (some ⟨g20, 0, none⟩) 3 3 (R3.pieces y) (((qCs (q := True) (g := g20) (e := 36) (R3.pieces y) (n := 3) rfl).sl (m := blk g20 ((R3.pieces y).map N64) 36)).mono (hF _ (by simp))) (some ⟨g20, 0, none⟩) 3 3 (R3.pieces y) (((qCs (q := True) (g := g20) (e := 36) (R3.pieces y) (n := 3) rfl).sl (m := blk g20 ((R3.pieces y).map N64) 36)).mono (hF _ (by simp))) hpd hpd (by decide) (by decide)))) rfl fun g23 _ => ?_
  change J _ _ _ [_, _, blk g23 ((R3.times (R3.pieces y) (R3.pieces y)).map N64) 36] _
  refine J.b rfl <| J.c hK3 <| J.W 1 2 7 8 ?_
  refine J.g fun K4 hK4 => J.b rfl <| J.c hK4 <| J.a3 1 2 7 8 9 ?_
  refine J.k fun K5 hK5 => J.g fun K6 hK6 => J.b rfl <| J.c hK6 <| J.a3 1 7 8 9 24 ?_
  refine J.b6 ?_
  refine J.a1 hK5 <| J.V 1 8 9 ?_
  refine J.k fun K7 hK7 => J.c5 [0, 2] [F, blk g23 ((R3.power y false).map N64) 36] rfl (by decide) <| J.E <| J.p 2 rfl <| J.c hK7 <| J.a3 1 8 9 10 11 ?_
  refine J.k fun K8 hK8 => J.g fun K9 hK9 => J.b rfl <| J.f (qAZ qAq rfl rfl) rfl <| J.f ((qAs rfl rfl rfl (by omega)).as (v' := I ((6 : Int) - ((0 : Nat) : Int) - 1)) rfl) rfl <| J.b rfl <| J.c hK9 <| J.a9 1 8 9 10 11 12 ?_
  refine J.T <| J.b2 (fun j : Nat => [(1, N64 p), (8, .slice (some ⟨g23, 0, none⟩) 6 6), (9, I 4), (10, N64 (R3.parts (R3.power y false) 4 j).1), (11, .bool (R3.parts (R3.power y false) 4 j).2), (12, I ((6 : Int) - (j : Int) - 1))]) (fun _ => [F, blk g23 ((R3.power y false).map N64) 36]) (fun j => j ≤ 6) (fun j => 6 - j) 0 (Nat.zero_le _) ⟨rfl, rfl, rfl, rfl, rfl, rfl, trivial⟩ (fun _ h => h) ?_
  intro j hj I0 hI0
  have hsp : R3.parts (R3.power y false) 4 (j + 1) = if 4 ≤ 6 - 1 - j then ((R3.parts (R3.power y false) 4 j).1 * 65536 + (R3.power y false).getD (6 - 1 - j) 0, (R3.parts (R3.power y false) 4 j).2) else ((R3.parts (R3.power y false) 4 j).1, if 0 < (R3.power y false).getD (6 - 1 - j) 0 then true else (R3.parts (R3.power y false) 4 j).2) := by rw [R3.parts, hpl]
  refine J.k fun K10 hK10 => J.g fun K11 hK11 => J.b rfl <| J.f (qBG rfl rfl rfl) rfl <| J.c hK11 <| J.b9 1 8 9 10 11 12 32 ?_
  refine J.a0 rfl (fun h32 => ?_) (fun h32 => ?_)
  ·
    refine J.a1 hK10 <| J.a9 1 8 9 10 11 12 ?_
    refine J.k fun K12 hK12 => J.T <| J.g fun K13 hK13 => J.p 2 rfl <| J.f (qBG rfl rfl rfl) rfl <| J.c hK13 <| J.b9 1 8 9 10 11 12 37 ?_
    refine J.a0 rfl (fun h37 => ?_) (fun h37 => ?_)
    ·
      have hj6 : j < 2 := by omega
      have hb := hpo j (by omega)
      have hvb : (R3.parts (R3.power y false) 4 j).1 < 4294967296 := by
        rw [hb]
        refine Nat.lt_of_lt_of_le (R3.val_lt _ (fun i => by rw [List.getD_eq_getElem?_getD, List.getElem?_drop, ← List.getD_eq_getElem?_getD]; exact hpw _)) ?_
        rw [List.length_drop, hpl]
        exact Nat.pow_le_pow_right (by decide) (show _ ≤ 2 by omega)
      have hmj := hpw (6 - 1 - j)
      refine J.E <| J.b rfl <| J.f (qDA (b := 65536) rfl rfl rfl (by omega)) rfl <| J.b rfl <| J.f ((qAj rfl rfl).nat (6 - 1 - j) (by omega)) rfl <| J.f (qAJ (i := 6 - 1 - j) (j := 6 - 1 - j) rfl rfl rfl qAq qBQ (by omega) (by omega)) rfl <| J.f (qAF 1 rfl rfl rfl qBq (qCG 0 (by omega))) rfl <| J.f (qA4 rfl rfl rfl (by omega)) rfl <| J.b rfl <| J.a2 <| J.a4 <| J.q (J.H hK12 ?_)
      refine J.a9 1 8 9 10 11 12 ?_
      refine J.E <| J.b rfl <| J.f ((qAs rfl rfl rfl (by omega)).as (v' := I ((6 : Int) - ((j + 1 : Nat) : Int) - 1)) (congrArg I (by omega))) rfl <| J.b rfl <| J.a2 <| J.q ?_
      rw [if_pos (by omega)] at hsp
      exact J.a6 (j + 1) (fun x (hx : x ≤ 6 ∧ 6 - x < 6 - j) => hI0 x hx.1 hx.2) ⟨by omega, by omega⟩ ⟨rfl, rfl, rfl, by rw [hsp]; rfl, by rw [hsp]; rfl, rfl, trivial⟩ (fun _ h => h)
    refine J.g fun K14 hK14 => J.b rfl <| J.f ((qAj rfl rfl).nat (6 - 1 - j) (by omega)) rfl <| J.f (qAJ (i := 6 - 1 - j) (j := 6 - 1 - j) rfl rfl rfl qAq qBQ (by omega) (by omega)) rfl <| J.f (qAF 1 rfl rfl rfl qBq (qCG 0 (by omega))) rfl <| J.f (qBJ rfl rfl rfl) rfl <| J.c hK14 <| J.b9 1 8 9 10 11 12 49 ?_
    refine J.a0 rfl (fun h49 => ?_) (fun h49 => ?_)
    ·
      refine J.E <| J.b rfl <| J.a2 <| J.a4 <| J.q (J.H hK12 ?_)
      refine J.a9 1 8 9 10 11 12 ?_
      refine J.E <| J.b rfl <| J.f ((qAs rfl rfl rfl (by omega)).as (v' := I ((6 : Int) - ((j + 1 : Nat) : Int) - 1)) (congrArg I (by omega))) rfl <| J.b rfl <| J.a2 <| J.q ?_
      rw [if_neg (by omega), if_pos (by omega)] at hsp
      exact J.a6 (j + 1) (fun x (hx : x ≤ 6 ∧ 6 - x < 6 - j) => hI0 x hx.1 hx.2) ⟨by omega, by omega⟩ ⟨rfl, rfl, rfl, by rw [hsp]; rfl, by rw [hsp]; rfl, rfl, trivial⟩ (fun _ h => h)
    refine J.b7 <| J.a4 <| J.q (J.H hK12 ?_)
    refine J.a9 1 8 9 10 11 12 ?_
    refine J.E <| J.b rfl <| J.f ((qAs rfl rfl rfl (by omega)).as (v' := I ((6 : Int) - ((j + 1 : Nat) : Int) - 1)) (congrArg I (by omega))) rfl <| J.b rfl <| J.a2 <| J.q ?_
    rw [if_neg (by omega), if_neg (by omega)] at hsp
    exact J.a6 (j + 1) (fun x (hx : x ≤ 6 ∧ 6 - x < 6 - j) => hI0 x hx.1 hx.2) ⟨by omega, by omega⟩ ⟨rfl, rfl, rfl, by rw [hsp]; rfl, by rw [hsp]; rfl, rfl, trivial⟩ (fun _ h => h)
  refine J.b0 <| J.Z <| J.Z <| J.b1 ?_
  refine J.q (J.H hK8 ?_)
  refine J.V 1 10 11 ?_
  refine J.k fun K15 hK15 => ?_
  have hjL : j = 6 := by omega
  subst hjL
  refine J.E <| J.p 2 rfl <| J.f (qBJ rfl rfl rfl) rfl <| J.b rfl <| J.c3 (d := 53) rfl (fun h53 => ?_) (fun h53 => ?_)
  ·
    refine J.p 4 rfl <| J.c9 (Wan.un rfl rfl rfl rfl) rfl rfl ?_
    refine J.p 3 rfl <| J.c hK15 <| J.A 6 ?_
    exact J.D <| J.L hw0 rfl () (by rw [hab, decide_eq_true (show p < (R3.parts (R3.power y false) 4 6).1 by omega)]; rfl) trivial [0] rfl (by decide)
  refine J.p 2 rfl <| J.O (qAd rfl rfl rfl) rfl <| J.b rfl <| J.c3 (d := 57) rfl (fun h57 => ?_) (fun h57 => ?_)
  ·
    refine J.O ((qAj rfl rfl).as (v' := .bool (R3.parts (R3.power y false) 4 6).2) rfl) rfl <| J.p 3 rfl <| J.c hK15 <| J.A 6 ?_
    exact J.D <| J.L hw0 rfl () (by rw [hab, decide_eq_false (show ¬ p < (R3.parts (R3.power y false) 4 6).1 by omega), decide_eq_true (show (R3.parts (R3.power y false) 4 6).1 = p by omega)]; simp) trivial [0] rfl (by decide)
  refine J.p 4 rfl <| J.c hK15 <| J.A 6 ?_
  exact J.D <| J.L hw0 rfl () (by rw [hab, decide_eq_false (show ¬ p < (R3.parts (R3.power y false) 4 6).1 by omega), decide_eq_false (show ¬ (R3.parts (R3.power y false) 4 6).1 = p by omega)]; rfl) trivial [0] rfl (by decide)
theorem qLt (F : Hp) (y p : Nat) (hy : y < 281474976710656) :
    Ct prog 178 [N64 y, N64 p, .bool true] [F] (fun _ : Unit => .bool (R3.above y p true)) (fun _ => True) (fun _ => [F]) := by
  have hpd := R3.pieces_dig y hy
  obtain ⟨hl2, _, hd2⟩ := R3.times_val _ _ hpd hpd
  obtain ⟨hpl, _, hpw⟩ := R3.power_ok y true hy
  have hpl : (R3.power y true).length = 9 := hpl
  have hpo := R3.parts_ok (R3.power y true) 6 (by omega)
  have hab : R3.above y p true = (decide (p < (R3.parts (R3.power y true) 6 9).1) || (decide ((R3.parts (R3.power y true) 6 9).1 = p) && (R3.parts (R3.power y true) 6 9).2)) := by unfold R3.above; dsimp only; rw [hpl]; rfl
  refine Ct.walk func178 rfl ntmps178 rfl (fun w0 hw0 => ?_)
  change J _ [(0, _), (1, _), (2, _)] _ _ _
  refine J.g fun K1 hK1 => J.b rfl <| J.c hK1 <| J.V 0 1 2 ?_
  refine J.g fun K2 hK2 => J.b rfl <| J.f (qBa (b := 65536) rfl rfl rfl (by omega)) rfl <| J.b rfl <| J.f (qCV (b := 65536) rfl rfl rfl (by omega)) rfl <| J.f (qBa (b := 65536) rfl rfl rfl (by omega)) rfl <| J.b rfl <| J.f (qCV (b := 4294967296) rfl rfl rfl (by omega)) rfl <| J.u (qAH (l := [.tmp 14, .tmp 17, .tmp 19]) (xs := [[N64 (y % 65536)], [N64 (y / 65536 % 65536)], [N64 (y / 4294967296)]]) rfl rfl rfl rfl qAq el36 rfl (by decide) (by decide) (by simp)) rfl fun g20 _ => ?_
  change J _ _ _ [F, blk g20 ((R3.pieces y).map N64) 36] _
  refine J.b rfl <| J.c hK2 <| J.V 1 2 7 ?_
  refine J.g fun K3 hK3 => J.p 2 rfl <| J.u (qAB rfl rfl ent215 (Ct.use (fun F' hF => qEL F' (some ⟨g20, 0, none⟩) 3 3 (R3.pieces y) (((qCs (q := True) (g := g20) (e := 36) (R3.pieces y) (n := 3) rfl).sl (m := blk g20 ((R3.pieces y).map N64) 36)).mono (hF _ (by simp))) (some ⟨g20, 0, none⟩) 3 3 (R3.pieces y) (((qCs (q := True) (g := g20) (e := 36) (R3.pieces y) (n := 3) rfl).sl (m := blk g20 ((R3.pieces y).map N64) 36)).mono (hF _ (by simp))) hpd hpd (by decide) (by decide)))) rfl fun g23 _ => ?_
  change J _ _ _ [_, _, blk g23 ((R3.times (R3.pieces y) (R3.pieces y)).map N64) 36] _
  refine J.b rfl <| J.c hK3 <| J.W 1 2 7 8 ?_
  refine J.g fun K4 hK4 => J.b rfl <| J.c hK4 <| J.a3 1 2 7 8 9 ?_
  refine J.k fun K5 hK5 => J.g fun K6 hK6 => J.b rfl <| J.c hK6 <| J.a3 1 7 8 9 24 ?_
  refine J.d1 ?_
  refine J.g fun K7 hK7 => J.p 2 rfl <| J.u (qAB rfl rfl ent215 (Ct.use (fun F' hF => qEL F' (some ⟨g23, 0, none⟩) 6 6 (R3.times (R3.pieces y) (R3.pieces y)) (((qCs (q := True) (g := g23) (e := 36) (R3.times (R3.pieces y) (R3.pieces y)) (n := 6) hl2).sl (m := blk g23 ((R3.times (R3.pieces y) (R3.pieces y)).map N64) 36)).mono (hF _ (by simp))) (some ⟨g20, 0, none⟩) 3 3 (R3.pieces y) (((qCs (q := True) (g := g20) (e := 36) (R3.pieces y) (n := 3) rfl).sl (m := blk g20 ((R3.pieces y).map N64) 36)).mono (hF _ (by simp))) hd2 hpd (by decide) (by decide)))) rfl fun g27 _ => ?_
  change J _ _ _ [_, _, _, blk g27 ((R3.times (R3.times (R3.pieces y) (R3.pieces y)) (R3.pieces y)).map N64) 36] _
  refine J.b rfl <| J.c hK7 <| J.M 1 8 ?_
  refine J.E <| J.b rfl <| J.c hK5 <| J.V 1 8 9 ?_
  refine J.k fun K8 hK8 => J.c5 [0, 3] [F, blk g27 ((R3.power y true).map N64) 36] rfl (by decide) <| J.E <| J.p 2 rfl <| J.c hK8 <| J.a3 1 8 9 10 11 ?_
  refine J.k fun K9 hK9 => J.g fun K10 hK10 => J.b rfl <| J.f (qAZ qAq rfl rfl) rfl <| J.f ((qAs rfl rfl rfl (by omega)).as (v' := I ((9 : Int) - ((0 : Nat) : Int) - 1)) rfl) rfl <| J.b rfl <| J.c hK10 <| J.a9 1 8 9 10 11 12 ?_
  refine J.T <| J.b2 (fun j : Nat => [(1, N64 p), (8, .slice (some ⟨g27, 0, none⟩) 9 9), (9, I 6), (10, N64 (R3.parts (R3.power y true) 6 j).1), (11, .bool (R3.parts (R3.power y true) 6 j).2), (12, I ((9 : Int) - (j : Int) - 1))]) (fun _ => [F, blk g27 ((R3.power y true).map N64) 36]) (fun j => j ≤ 9) (fun j => 9 - j) 0 (Nat.zero_le _) ⟨rfl, rfl, rfl, rfl, rfl, rfl, trivial⟩ (fun _ h => h) ?_
  intro j hj I0 hI0
  have hsp : R3.parts (R3.power y true) 6 (j + 1) = if 6 ≤ 9 - 1 - j then ((R3.parts (R3.power y true) 6 j).1 * 65536 + (R3.power y true).getD (9 - 1 - j) 0, (R3.parts (R3.power y true) 6 j).2) else ((R3.parts (R3.power y true) 6 j).1, if 0 < (R3.power y true).getD (9 - 1 - j) 0 then true else (R3.parts (R3.power y true) 6 j).2) := by rw [R3.parts, hpl]
  refine J.k fun K11 hK11 => J.g fun K12 hK12 => J.b rfl <| J.f (qBG rfl rfl rfl) rfl <| J.c hK12 <| J.b9 1 8 9 10 11 12 32 ?_
  refine J.a0 rfl (fun h32 => ?_) (fun h32 => ?_)
  ·
    refine J.a1 hK11 <| J.a9 1 8 9 10 11 12 ?_
    refine J.k fun K13 hK13 => J.T <| J.g fun K14 hK14 => J.p 2 rfl <| J.f (qBG rfl rfl rfl) rfl <| J.c hK14 <| J.b9 1 8 9 10 11 12 37 ?_
    refine J.a0 rfl (fun h37 => ?_) (fun h37 => ?_)
    ·
      have hj9 : j < 3 := by omega
      have hb := hpo j (by omega)
      have hvb : (R3.parts (R3.power y true) 6 j).1 < 4294967296 := by
        rw [hb]
        refine Nat.lt_of_lt_of_le (R3.val_lt _ (fun i => by rw [List.getD_eq_getElem?_getD, List.getElem?_drop, ← List.getD_eq_getElem?_getD]; exact hpw _)) ?_
        rw [List.length_drop, hpl]
        exact Nat.pow_le_pow_right (by decide) (show _ ≤ 2 by omega)
      have hmj := hpw (9 - 1 - j)
      refine J.E <| J.b rfl <| J.f (qDA (b := 65536) rfl rfl rfl (by omega)) rfl <| J.b rfl <| J.f ((qAj rfl rfl).nat (9 - 1 - j) (by omega)) rfl <| J.f (qAJ (i := 9 - 1 - j) (j := 9 - 1 - j) rfl rfl rfl qAq qBQ (by omega) (by omega)) rfl <| J.f (qAF 1 rfl rfl rfl qBq (qCG 0 (by omega))) rfl <| J.f (qA4 rfl rfl rfl (by omega)) rfl <| J.b rfl <| J.a2 <| J.a4 <| J.q (J.H hK13 ?_)
      refine J.a9 1 8 9 10 11 12 ?_
      refine J.E <| J.b rfl <| J.f ((qAs rfl rfl rfl (by omega)).as (v' := I ((9 : Int) - ((j + 1 : Nat) : Int) - 1)) (congrArg I (by omega))) rfl <| J.b rfl <| J.a2 <| J.q ?_
      rw [if_pos (by omega)] at hsp
      exact J.a6 (j + 1) (fun x (hx : x ≤ 9 ∧ 9 - x < 9 - j) => hI0 x hx.1 hx.2) ⟨by omega, by omega⟩ ⟨rfl, rfl, rfl, by rw [hsp]; rfl, by rw [hsp]; rfl, rfl, trivial⟩ (fun _ h => h)
    refine J.g fun K15 hK15 => J.b rfl <| J.f ((qAj rfl rfl).nat (9 - 1 - j) (by omega)) rfl <| J.f (qAJ (i := 9 - 1 - j) (j := 9 - 1 - j) rfl rfl rfl qAq qBQ (by omega) (by omega)) rfl <| J.f (qAF 1 rfl rfl rfl qBq (qCG 0 (by omega))) rfl <| J.f (qBJ rfl rfl rfl) rfl <| J.c hK15 <| J.b9 1 8 9 10 11 12 49 ?_
    refine J.a0 rfl (fun h49 => ?_) (fun h49 => ?_)
    ·
      refine J.E <| J.b rfl <| J.a2 <| J.a4 <| J.q (J.H hK13 ?_)
      refine J.a9 1 8 9 10 11 12 ?_
      refine J.E <| J.b rfl <| J.f ((qAs rfl rfl rfl (by omega)).as (v' := I ((9 : Int) - ((j + 1 : Nat) : Int) - 1)) (congrArg I (by omega))) rfl <| J.b rfl <| J.a2 <| J.q ?_
      rw [if_neg (by omega), if_pos (by omega)] at hsp
      exact J.a6 (j + 1) (fun x (hx : x ≤ 9 ∧ 9 - x < 9 - j) => hI0 x hx.1 hx.2) ⟨by omega, by omega⟩ ⟨rfl, rfl, rfl, by rw [hsp]; rfl, by rw [hsp]; rfl, rfl, trivial⟩ (fun _ h => h)
    refine J.b7 <| J.a4 <| J.q (J.H hK13 ?_)
    refine J.a9 1 8 9 10 11 12 ?_
    refine J.E <| J.b rfl <| J.f ((qAs rfl rfl rfl (by omega)).as (v' := I ((9 : Int) - ((j + 1 : Nat) : Int) - 1)) (congrArg I (by omega))) rfl <| J.b rfl <| J.a2 <| J.q ?_
    rw [if_neg (by omega), if_neg (by omega)] at hsp
    exact J.a6 (j + 1) (fun x (hx : x ≤ 9 ∧ 9 - x < 9 - j) => hI0 x hx.1 hx.2) ⟨by omega, by omega⟩ ⟨rfl, rfl, rfl, by rw [hsp]; rfl, by rw [hsp]; rfl, rfl, trivial⟩ (fun _ h => h)
  refine J.b0 <| J.Z <| J.Z <| J.b1 ?_
  refine J.q (J.H hK9 ?_)
  refine J.V 1 10 11 ?_
  refine J.k fun K16 hK16 => ?_
  have hjL : j = 9 := by omega
  subst hjL
  refine J.E <| J.p 2 rfl <| J.f (qBJ rfl rfl rfl) rfl <| J.b rfl <| J.c3 (d := 53) rfl (fun h53 => ?_) (fun h53 => ?_)
  ·
    refine J.p 4 rfl <| J.c9 (Wan.un rfl rfl rfl rfl) rfl rfl ?_
    refine J.p 3 rfl <| J.c hK16 <| J.A 6 ?_
    exact J.D <| J.L hw0 rfl () (by rw [hab, decide_eq_true (show p < (R3.parts (R3.power y true) 6 9).1 by omega)]; rfl) trivial [0] rfl (by decide)
  refine J.p 2 rfl <| J.O (qAd rfl rfl rfl) rfl <| J.b rfl <| J.c3 (d := 57) rfl (fun h57 => ?_) (fun h57 => ?_)
  ·
    refine J.O ((qAj rfl rfl).as (v' := .bool (R3.parts (R3.power y true) 6 9).2) rfl) rfl <| J.p 3 rfl <| J.c hK16 <| J.A 6 ?_
    exact J.D <| J.L hw0 rfl () (by rw [hab, decide_eq_false (show ¬ p < (R3.parts (R3.power y true) 6 9).1 by omega), decide_eq_true (show (R3.parts (R3.power y true) 6 9).1 = p by omega)]; simp) trivial [0] rfl (by decide)
  refine J.p 4 rfl <| J.c hK16 <| J.A 6 ?_
  exact J.D <| J.L hw0 rfl () (by rw [hab, decide_eq_false (show ¬ p < (R3.parts (R3.power y true) 6 9).1 by omega), decide_eq_false (show ¬ (R3.parts (R3.power y true) 6 9).1 = p by omega)]; rfl) trivial [0] rfl (by decide)
theorem qK5 (F : Hp) (y p : Nat) (cube : Bool) (hy : y < 281474976710656) :
    Ct prog 178 [N64 y, N64 p, .bool cube] [F] (fun _ : Unit => .bool (R3.above y p cube)) (fun _ => True) (fun _ => [F]) := by
  cases cube
  · exact qJO F y p hy
  · exact qLt F y p hy
theorem qO9 (F : Hp) (p : Nat) (cube : Bool) :
    Ct prog 136 [N64 p, .bool cube] [F] (fun _ : Unit => N64 (R3.root p cube)) (fun _ => True) (fun _ => [F]) := by
  refine Ct.walk func136 rfl ntmps136 rfl (fun w0 hw0 => ?_)
  change J _ [(0, _), (1, _)] _ _ _
  refine J.g fun K1 hK1 => J.b rfl <| J.c hK1 <| J.M 0 1 ?_
  refine J.g fun K2 hK2 => J.b rfl <| J.c hK2 <| J.V 0 1 5 ?_
  refine J.k fun K3 hK3 => J.g fun K4 hK4 => J.b rfl <| J.c hK4 <| J.W 0 1 5 6 ?_
  refine J.T <| J.b2 (fun j : Nat => [(0, N64 p), (1, .bool cube), (5, N64 (R3.rootK p cube j)), (6, N64 (68719476736 / 2 ^ j))]) (fun _ => [F]) (fun j => j ≤ 37) (fun j => 37 - j) 0 (Nat.zero_le _) ⟨rfl, rfl, rfl, rfl, trivial⟩ (fun _ h => h) ?_
  intro j hj I0 hI0
  have hlt := R3.rootK_lt p cube j
  have hsx : R3.rootK p cube (j + 1) = if R3.above (R3.rootK p cube j + 68719476736 / 2 ^ j) p cube then R3.rootK p cube j else (R3.rootK p cube j + 68719476736 / 2 ^ j) := rfl
  refine J.k fun K5 hK5 => J.g fun K6 hK6 => J.b rfl <| J.f (qBJ rfl rfl rfl) rfl <| J.c hK6 <| J.a3 0 1 5 6 9 ?_
  refine J.a0 rfl (fun h9 => ?_) (fun h9 => ?_)
  ·
    refine J.a1 hK5 <| J.W 0 1 5 6 ?_
    refine J.k fun K7 hK7 => J.T <| J.k fun K8 hK8 => ?_
    have hj37 : j < 37 := by
      rcases Nat.lt_or_ge j 37 with h | h
      · exact h
      · have h2 : j = 37 := by omega
        subst h2; exact absurd h9 (by decide)
    refine J.E <| J.p 2 rfl <| J.f (qA4 rfl rfl rfl (by omega)) rfl <| J.b rfl <| J.c hK8 <| J.a3 0 1 5 6 7 ?_
    refine J.g fun K9 hK9 => J.p 3 rfl <| J.u (qAB rfl rfl ent178 (qK5 F (R3.rootK p cube j + 68719476736 / 2 ^ j) p cube (by omega))) rfl fun g18 _ => J.f ((qA2 rfl rfl).as (v' := .bool (decide (R3.above (R3.rootK p cube j + 68719476736 / 2 ^ j) p cube = false))) (congrArg Value.bool (by cases R3.above (R3.rootK p cube j + 68719476736 / 2 ^ j) p cube <;> rfl))) rfl <| J.c hK9 <| J.a9 0 1 5 6 7 19 ?_
    refine J.a0 rfl (fun h19 => ?_) (fun h19 => ?_)
    ·
      refine J.E <| J.p 2 rfl <| J.a2 <| J.a4 <| J.q (J.H hK7 ?_)
      refine J.W 0 1 5 6 ?_
      refine J.E <| J.b rfl <| J.f ((qCV (b := 2) rfl rfl rfl (by omega)).as (v' := N64 (68719476736 / 2 ^ (j + 1))) (congrArg N64 (R3.pow_half j).symm)) rfl <| J.b rfl <| J.a2 <| J.q ?_
      rw [h19] at hsx
      exact J.a6 (j + 1) (fun x (hx : x ≤ 37 ∧ 37 - x < 37 - j) => hI0 x hx.1 hx.2) ⟨by omega, by omega⟩ ⟨rfl, rfl, by rw [hsx]; rfl, rfl, trivial⟩ (fun _ h => h)
    refine J.b7 <| J.a4 <| J.q (J.H hK7 ?_)
    refine J.W 0 1 5 6 ?_
    refine J.E <| J.b rfl <| J.f ((qCV (b := 2) rfl rfl rfl (by omega)).as (v' := N64 (68719476736 / 2 ^ (j + 1))) (congrArg N64 (R3.pow_half j).symm)) rfl <| J.b rfl <| J.a2 <| J.q ?_
    rw [if_pos (by simpa using h19)] at hsx
    exact J.a6 (j + 1) (fun x (hx : x ≤ 37 ∧ 37 - x < 37 - j) => hI0 x hx.1 hx.2) ⟨by omega, by omega⟩ ⟨rfl, rfl, by rw [hsx]; rfl, rfl, trivial⟩ (fun _ h => h)
  refine J.b0 <| J.Z <| J.Z <| J.b1 ?_
  refine J.q (J.H hK3 ?_)
  refine J.A 5 ?_
  refine J.k fun K10 hK10 => ?_
  have hj37 : j = 37 := by
    rcases Nat.lt_or_ge j 37 with h | h
    · have h2 : 2 ^ j ≤ 68719476736 := Nat.pow_le_pow_right (by decide) (show j ≤ 36 by omega)
      have h3 := Nat.div_pos h2 (Nat.two_pow_pos j)
      omega
    · omega
  subst hj37
  refine J.E <| J.b rfl <| J.f (qBa (b := 4294967296) rfl rfl rfl (by omega)) rfl <| J.b rfl <| J.c hK10 <| J.A 4 ?_
  exact J.D <| J.L hw0 rfl () rfl trivial [0] rfl (by decide)
theorem qGI (F : Hp) (cube : Bool) (cnt K : Nat) (hc1 : (R3.primes (K + 1)).length = cnt) (hc2 : (R3.primes K).length < cnt) (hc3 : K ≤ 309) :
    Ct prog 79 [I cnt, .bool cube] [F] (fun x : Option Addr × Nat × Hp => .slice x.1 cnt x.2.1) (fun x => Row x.2.2 36 1 x.1 cnt x.2.1 (qBs (R3.roots cube (K + 1)))) (fun x => [F, x.2.2]) := by
  refine Ct.walk func79 rfl ntmps79 rfl (fun w0 hw0 => ?_)
  change J _ [(0, _), (1, _)] _ _ _
  refine J.g fun K1 hK1 => J.b rfl <| J.c hK1 <| J.M 0 1 ?_
  refine J.g fun K2 hK2 => J.b rfl <| J.c hK2 <| J.V 0 1 5 ?_
  refine J.k fun K3 hK3 => J.k fun K4 hK4 => J.d6 [0, 1] [F, (fun _ => none)] rfl (by decide) <| J.E <| J.b rfl <| J.c hK4 <| J.W 0 1 5 6 ?_
  refine J.T <| J.b2 (X := Nat × Option Addr × Nat × Hp) (fun x => [(0, I cnt), (1, .bool cube), (5, .slice x.2.1 (R3.primes x.1).length x.2.2.1), (6, N64 (x.1 + 2))]) (fun x => [F, x.2.2.2]) (fun x => x.1 ≤ K + 1 ∧ Row x.2.2.2 36 1 x.2.1 (R3.primes x.1).length x.2.2.1 (qBs (R3.roots cube x.1))) (fun x => K + 1 - x.1) (0, none, 0, fun _ => none) (⟨Nat.zero_le _, qB5.nil⟩) ⟨rfl, rfl, rfl, rfl, trivial⟩ (fun _ h => h) ?_
  rintro ⟨k, A, c, m⟩ ⟨hk, hrow⟩ I0 hI0
  dsimp only at hk hrow ⊢
  have hpl : (R3.primes k).length ≤ 64 := Nat.le_trans (by have := R3.primes_len k (310 - k); rwa [show k + (310 - k) = 310 by omega] at this) (Nat.le_of_eq R3.primes_tab.1)
  refine J.k fun K5 hK5 => J.g fun K6 hK6 => J.b rfl <| J.f (qAZ qAq rfl rfl) rfl <| J.b rfl <| J.f (qAS rfl rfl rfl) rfl <| J.c hK6 <| J.a3 0 1 5 6 12 ?_
  refine J.a0 rfl (fun h12 => ?_) (fun h12 => ?_)
  ·
    refine J.a1 hK5 <| J.W 0 1 5 6 ?_
    refine J.k fun K7 hK7 => J.T <| J.k fun K8 hK8 => ?_
    have hkK : k < K + 1 := by
      rcases Nat.lt_or_ge k (K + 1) with h | h
      · exact h
      · have : k = K + 1 := by omega
        subst this; omega
    refine J.E <| J.b rfl <| J.c hK8 <| J.a3 0 1 5 6 7 ?_
    refine J.k fun K9 hK9 => J.g fun K10 hK10 => J.b rfl <| J.c hK10 <| J.a9 0 1 5 6 7 8 ?_
    refine J.T <| J.b2 (X := Nat × Bool) (fun x => [(0, I cnt), (1, .bool cube), (5, .slice A (R3.primes k).length c), (6, N64 (k + 2)), (7, .bool x.2), (8, N64 x.1)]) (fun _ => [F, m]) (fun x => 2 ≤ x.1 ∧ x.1 ≤ 18 ∧ R3.ploop (k + 2) x.1 x.2 (22 - x.1) = R3.prime (k + 2)) (fun x => 18 - x.1) (2, true) (⟨Nat.le_refl _, by decide, rfl⟩) ⟨rfl, rfl, rfl, rfl, rfl, rfl, trivial⟩ (fun _ h => h) ?_
    rintro ⟨d, acc⟩ ⟨hd2, hd18, hc⟩ I2 hI2
    dsimp only at hd2 hd18 hc ⊢
    have hdd := Nat.mul_le_mul hd18 hd18
    refine J.k fun K11 hK11 => J.g fun K12 hK12 => J.p 2 rfl <| J.f (qDA rfl rfl rfl ⟨by omega, by omega, by omega⟩) rfl <| J.b rfl <| J.f (qB4 rfl rfl rfl) rfl <| J.c hK12 <| J.b9 0 1 5 6 7 8 19 ?_
    refine J.a0 rfl (fun h19 => ?_) (fun h19 => ?_)
    ·
      refine J.a1 hK11 <| J.a9 0 1 5 6 7 8 ?_
      refine J.k fun K13 hK13 => J.T <| J.k fun K14 hK14 => ?_
      have hd17 : d ≤ 17 := by
        rcases Nat.lt_or_ge 17 d with h | h
        · have := Nat.mul_le_mul (show 18 ≤ d by omega) (show 18 ≤ d by omega)
          omega
        · exact h
      rw [show 22 - d = (22 - (d + 1)) + 1 by omega, R3.ploop, if_pos (by omega)] at hc
      refine J.E <| J.p 2 rfl <| J.f (qBa rfl rfl rfl (by omega)) rfl <| J.f (qAd rfl rfl rfl) rfl <| J.c hK14 <| J.b9 0 1 5 6 7 8 25 ?_
      refine J.a0 rfl (fun h25 => ?_) (fun h25 => ?_)
      ·
        refine J.E <| J.b rfl <| J.a2 <| J.a4 <| J.q (J.H hK13 ?_)
        refine J.a9 0 1 5 6 7 8 ?_
        refine J.E <| J.b rfl <| J.f ((qA4 (b := 1) rfl rfl rfl (by omega)).n64 (d + 1) (by omega)) rfl <| J.b rfl <| J.a2 <| J.q ?_
        rw [if_pos (by omega)] at hc
        exact J.a6 (d + 1, false) (fun x (hx : _ ∧ 18 - x.1 < 18 - d) => hI2 x hx.1 hx.2) ⟨⟨by dsimp only; omega, by dsimp only; omega, hc⟩, by dsimp only; omega⟩ ⟨rfl, rfl, rfl, rfl, rfl, rfl, trivial⟩ (fun _ h => h)
      refine J.b7 <| J.a4 <| J.q (J.H hK13 ?_)
      refine J.a9 0 1 5 6 7 8 ?_
      refine J.E <| J.b rfl <| J.f ((qA4 (b := 1) rfl rfl rfl (by omega)).n64 (d + 1) (by omega)) rfl <| J.b rfl <| J.a2 <| J.q ?_
      rw [if_neg (by omega)] at hc
      exact J.a6 (d + 1, acc) (fun x (hx : _ ∧ 18 - x.1 < 18 - d) => hI2 x hx.1 hx.2) ⟨⟨by dsimp only; omega, by dsimp only; omega, hc⟩, by dsimp only; omega⟩ ⟨rfl, rfl, rfl, rfl, rfl, rfl, trivial⟩ (fun _ h => h)
    refine J.b0 <| J.Z <| J.Z <| J.b1 ?_
    refine J.q (J.H hK9 ?_)
    refine J.a3 0 1 5 6 7 ?_
    refine J.k fun K15 hK15 => ?_
    rw [show 22 - d = (22 - (d + 1)) + 1 by omega, R3.ploop, if_neg (by omega)] at hc
    have hps : R3.primes (k + 1) = if R3.prime (k + 2) then R3.primes k ++ [k + 2] else R3.primes k := rfl
    rw [← hc] at hps
    refine J.E <| J.f ((qAj rfl rfl).as (v' := .bool (decide (acc = true))) (congrArg Value.bool (by simp))) rfl <| J.c hK15 <| J.a3 0 1 5 6 26 ?_
    refine J.a0 rfl (fun h26 => ?_) (fun h26 => ?_)
    ·
      refine J.E <| J.p 3 rfl <| J.u (qAB rfl rfl ent136 (Ct.use0 (fun F' hF => qO9 F' (k + 2) cube))) rfl fun g30 _ => J.u (qAH (l := [.tmp 30]) (xs := [[N64 (R3.root (k + 2) cube)]]) rfl rfl rfl rfl qAq el36 rfl (by decide) (by decide) (by simp)) rfl fun g31 _ => ?_
      change J _ _ _ [F, m, blk g31 [N64 (R3.root (k + 2) cube)] 36] _
      refine J.u (qAb (i := 1) (m2 := blk g31 [N64 (R3.root (k + 2) cube)] 36) (ys := qBs [R3.root (k + 2) cube]) rfl rfl rfl qAq qAq el36 rfl hrow (by simp) (qAr (q := True) (xs := qBs [R3.root (k + 2) cube]) rfl (by simp [qBs])).sl (qH5 _) (by omega) (by omega)) rfl ?_
      rintro ⟨A32, c32, m32⟩ h32
      try dsimp only at h32
      change J _ ((32, .slice A32 ((R3.primes k).length + 1) c32) :: _) _ [_, m32, _] _
      refine J.c5 [0, 1] [F, m32] rfl (by decide) <| J.b rfl <| J.a2 <| J.a4 <| J.q (J.H hK7 ?_)
      refine J.W 0 1 5 6 ?_
      refine J.E <| J.b rfl <| J.f ((qA4 (b := 1) rfl rfl rfl (by omega)).n64 (k + 1 + 2) (by omega)) rfl <| J.b rfl <| J.a2 <| J.q ?_
      rw [if_pos h26] at hps
      have hlen : (R3.primes (k + 1)).length = (R3.primes k).length + 1 := by rw [hps, List.length_append]; rfl
      refine J.a6 (k + 1, A32, c32, m32) (fun x (hx : _ ∧ K + 1 - x.1 < K + 1 - k) => hI0 x hx.1 hx.2) ⟨⟨by dsimp only; omega, by dsimp only; rw [hlen, R3.roots, hps, List.map_append, qNM]; exact h32⟩, by dsimp only; omega⟩ ⟨rfl, rfl, by rw [hlen]; rfl, rfl, trivial⟩ (fun _ h => h)
    refine J.b7 <| J.a4 <| J.q (J.H hK7 ?_)
    refine J.W 0 1 5 6 ?_
    refine J.E <| J.b rfl <| J.f ((qA4 (b := 1) rfl rfl rfl (by omega)).n64 (k + 1 + 2) (by omega)) rfl <| J.b rfl <| J.a2 <| J.q ?_
    rw [if_neg h26] at hps
    refine J.a6 (k + 1, A, c, m) (fun x (hx : _ ∧ K + 1 - x.1 < K + 1 - k) => hI0 x hx.1 hx.2) ⟨⟨by dsimp only; omega, by dsimp only; rw [R3.roots, hps]; exact hrow⟩, by dsimp only; omega⟩ ⟨rfl, rfl, by rw [hps]; rfl, rfl, trivial⟩ (fun _ h => h)
  refine J.b0 <| J.Z <| J.Z <| J.b1 ?_
  refine J.q (J.H hK3 ?_)
  refine J.A 5 ?_
  refine J.k fun K16 hK16 => ?_
  have hkK : K + 1 = k := by
    rcases Nat.lt_or_ge k (K + 1) with h | h
    · have := R3.primes_len k (K - k)
      rw [show k + (K - k) = K by omega] at this
      omega
    · omega
  subst hkK
  refine J.E <| J.p 2 rfl <| J.c hK16 <| J.A 4 ?_
  exact J.D <| J.L hw0 rfl (A, c, m) (by rw [hc1]) (by rw [hc1] at hrow; exact hrow) [0, 1] rfl (by decide)
section
variable {P : Program} {env : Env} {rs : List Hp} {o : Oper} {t t' : TypeId} {x y : Operand} {a b : UInt32}
theorem qCB (ho : o.op = .binOp .xor t x y t') (hx : ev env x = some (NW a)) (hy : ev env y = some (NW b)) : YOp P env rs o (NW (a ^^^ b)) :=
 (qSC ho hx hy (by have := a.toNat_lt; have := b.toNat_lt; omega)).as (congrArg N64 (UInt32.toNat_xor a b).symm)
theorem qFV (ho : o.op = .binOp .and t x y t') (hx : ev env x = some (NW a)) (hy : ev env y = some (NW b)) : YOp P env rs o (NW (a &&& b)) :=
 (qSN ho hx hy (by have := a.toNat_lt; have := b.toNat_lt; omega)).as (congrArg N64 (UInt32.toNat_and a b).symm)
theorem qMO (a : UInt32) : (~~~ a).toNat = 4294967295 - a.toNat := by
 simp
theorem qSL (ho : o.op = .binOp .sub t x y t') (hx : ev env x = some (N64 4294967295)) (hy : ev env y = some (NW a)) : YOp P env rs o (NW (~~~ a)) :=
 (qIu ho hx hy (by have := a.toNat_lt; omega)).as (congrArg N64 (qMO a).symm)
end
abbrev nws (l : List UInt32) : List Nat := l.map UInt32.toNat
attribute [local irreducible] Sha.rnds Sha.sched Sha.mix Sha.rotr R3.roots Sha.exts
theorem qLm (g i sz : Nat) : qEh (some ⟨g, 0, none⟩) i sz = ⟨g, i * sz, none⟩ := by
 unfold qEh
 simp only [Option.getD_some]
 rw [Addr.add_lit]; simp
theorem qMQ (F : Hp) (s : List UInt8) (hs : s.length ≤ 1099511627776) :
    Ct prog 41 [Str s] [F] (fun _ : Unit => Str (Sha.sum s)) (fun _ => True) (fun _ => [F]) := by
  refine Ct.walk func41 rfl ntmps41 rfl (fun w0 hw0 => ?_)
  change J _ [(0, _)] _ _ _
  refine J.g fun K1 hK1 => J.b rfl <| J.c hK1 <| J.A 0 ?_
  refine J.g fun K2 hK2 => J.u (qAB rfl rfl ent79 (Ct.use (fun F' hF => qGI F' true 64 309 R3.primes_tab.1 (by rw [R3.primes_tab.2.1]; decide) (by decide)))) rfl ?_
  rintro ⟨A25, c25, m25⟩ h25
  try dsimp only at h25
  change J _ ((25, .slice A25 64 c25) :: _) _ [F, m25] _
  rw [R3.roots_K] at h25
  refine J.u (qAB rfl rfl ent79 (Ct.use (fun F' hF => qGI F' false 8 17 R3.primes_tab.2.2.1 (by rw [R3.primes_tab.2.2.2]; decide) (by decide)))) rfl ?_
  rintro ⟨A26, c26, m26⟩ h26
  try dsimp only at h26
  change J _ ((26, .slice A26 8 c26) :: _) _ [_, _, m26] _
  rw [R3.roots_H] at h26
  obtain ⟨gh, rfl⟩ := qB5.at h26 (by decide)
  refine J.p 2 rfl <| J.c hK2 <| J.V 0 3 4 ?_
  refine J.g fun K3 hK3 => J.b rfl <| J.f (qA0 u9_ rfl rfl) rfl <| J.b rfl <| J.c hK3 <| J.W 0 3 4 5 ?_
  refine J.g fun K4 hK4 => J.b rfl <| J.f (qBZ (b := [128]) rfl rfl rfl (by simp; omega)) rfl <| J.b rfl <| J.c hK4 <| J.W 0 3 4 5 ?_
  refine J.k fun K5 hK5 => J.T <| J.b2 (fun k : Nat => [(0, Str (s ++ [0x80] ++ List.replicate k 0)), (3, .slice A25 64 c25), (4, .slice (some ⟨gh, 0, none⟩) 8 c26), (5, I s.length)]) (fun _ => [F, m25, m26]) (fun k => k ≤ ((119 - s.length % 64) % 64)) (fun k => ((119 - s.length % 64) % 64) - k) 0 (Nat.zero_le _) ⟨congrArg (fun l => some (Str l)) (List.append_nil _).symm, rfl, rfl, rfl, trivial⟩ (fun _ h => h) ?_
  intro k hk I0 hI0
  refine J.k fun K6 hK6 => J.g fun K7 hK7 => J.b rfl <| J.f (qA0 u9_ rfl rfl) rfl <| J.f ((qFS rfl rfl rfl (by omega)).as (v' := I (((s.length + 1 + k) % 64 : Nat) : Int)) (congrArg I (by simp; omega))) rfl <| J.f (qAx rfl rfl rfl) rfl <| J.c hK7 <| J.a3 0 3 4 5 34 ?_
  refine J.a0 rfl (fun h34 => ?_) (fun h34 => ?_)
  ·
    refine J.a1 hK6 <| J.W 0 3 4 5 ?_
    exact J.T <| J.E <| J.b rfl <| J.f ((qBZ (b := [0]) rfl rfl rfl (by simp; omega)).as (v' := Str (s ++ [0x80] ++ List.replicate (k + 1) 0)) (by rw [List.replicate_succ', ← List.append_assoc])) rfl <| J.b rfl <| J.a2 <| J.a4 <| J.q <| J.a6 (k + 1) (fun x (hx : x ≤ ((119 - s.length % 64) % 64) ∧ ((119 - s.length % 64) % 64) - x < ((119 - s.length % 64) % 64) - k) => hI0 x hx.1 hx.2) ⟨by omega, by omega⟩ ⟨rfl, rfl, rfl, rfl, trivial⟩ (fun _ h => h)
  refine J.b0 <| J.Z <| J.Z <| J.b1 ?_
  refine J.q (J.H hK5 ?_)
  refine J.W 0 3 4 5 ?_
  refine J.k fun K8 hK8 => J.k fun K9 hK9 => ?_
  have hkz : k = ((119 - s.length % 64) % 64) := by omega
  refine J.E <| J.b rfl <| J.c hK9 <| J.a3 0 3 4 5 6 ?_
  refine J.T <| J.b2 (fun t : Nat => [(0, Str (s ++ [0x80] ++ List.replicate ((119 - s.length % 64) % 64) 0 ++ (Sha.numB (8 * UInt64.ofNat s.length) 8).take t)), (3, .slice A25 64 c25), (4, .slice (some ⟨gh, 0, none⟩) 8 c26), (5, I s.length), (6, I (7 - (t : Int)))]) (fun _ => [F, m25, m26]) (fun t => t ≤ 8) (fun t => 8 - t) 0 (Nat.zero_le _) ⟨by rw [hkz]; exact congrArg (fun l => some (Str l)) (List.append_nil _).symm, rfl, rfl, rfl, rfl, trivial⟩ (fun _ h => h) ?_
  intro t ht I2 hI2
  refine J.k fun K10 hK10 => J.g fun K11 hK11 => J.b rfl <| J.f (qBG rfl rfl rfl) rfl <| J.c hK11 <| J.a9 0 3 4 5 6 38 ?_
  refine J.a0 rfl (fun h38 => ?_) (fun h38 => ?_)
  ·
    refine J.a1 hK10 <| J.a3 0 3 4 5 6 ?_
    refine J.k fun K12 hK12 => J.T ?_
    have hdv : 8 * s.length / 2 ^ (8 * (7 - t)) < 18446744073709551616 := Nat.lt_of_le_of_lt (Nat.div_le_self _ _) (by omega)
    refine J.E <| J.p 2 rfl <| J.f ((qCD (a := 8) rfl rfl rfl (by omega)).nat (8 * s.length) (by omega)) rfl <| J.f (qCg rfl rfl u3_ qDu (by omega)) rfl <| J.f ((qAj rfl rfl).nat (7 - t) (by omega)) rfl <| J.f ((qCD (a := 8) rfl rfl rfl (by omega)).nat (8 * (7 - t)) (by omega)) rfl <| J.u (qAB rfl rfl ent80 (Ct.use0 (fun F' hF => qBv F' (8 * s.length) (8 * (7 - t)) (by omega) (by omega)))) rfl fun g47 _ => J.f (qCf rfl rfl qDu u5_ hdv) rfl <| J.u (qAH (l := [.tmp 48]) (xs := [[B8 (UInt8.ofNat (8 * s.length / 2 ^ (8 * (7 - t))))]]) rfl rfl rfl rfl qBP el5 rfl (by decide) (by decide) (by simp)) rfl fun g49 _ => ?_
    change J _ _ _ [F, m25, m26, blk g49 [B8 (UInt8.ofNat (8 * s.length / 2 ^ (8 * (7 - t))))] 5] _
    refine J.f (qBB (l := [UInt8.ofNat (8 * s.length / 2 ^ (8 * (7 - t)))]) rfl rfl qBP u5_ u9_ (m := blk g49 [B8 (UInt8.ofNat (8 * s.length / 2 ^ (8 * (7 - t))))] 5) (by simp) (qAr (q := True) (xs := [[B8 (UInt8.ofNat (8 * s.length / 2 ^ (8 * (7 - t))))]]) rfl (by simp)).sl) rfl <| J.f ((qBZ rfl rfl rfl (by simp [Sha.numB_length]; omega)).as (v' := Str (s ++ [0x80] ++ List.replicate ((119 - s.length % 64) % 64) 0 ++ (Sha.numB (8 * UInt64.ofNat s.length) 8).take (t + 1))) (by rw [R3.num8 s.length (by omega) t (by omega), ← List.append_assoc])) rfl <| J.b rfl <| J.a2 <| J.a4 <| J.q (J.H hK12 ?_)
    refine J.a3 0 3 4 5 6 ?_
    exact J.c5 [0, 1, 2] [F, m25, m26] rfl (by decide) <| J.E <| J.b rfl <| J.f ((qAs rfl rfl rfl (by omega)).as (v' := I (7 - ((t + 1 : Nat) : Int))) (congrArg I (by omega))) rfl <| J.b rfl <| J.a2 <| J.q <| J.a6 (t + 1) (fun x (hx : x ≤ 8 ∧ 8 - x < 8 - t) => hI2 x hx.1 hx.2) ⟨by omega, by omega⟩ ⟨rfl, rfl, rfl, rfl, rfl, trivial⟩ (fun _ h => h)
  refine J.b0 <| J.Z <| J.Z <| J.b1 ?_
  refine J.q (J.H hK8 ?_)
  refine J.V 0 3 4 ?_
  refine J.k fun K13 hK13 => J.k fun K14 hK14 => ?_
  have ht8 : t = 8 := by omega
  subst ht8
  refine J.E <| J.b rfl <| J.c hK14 <| J.W 0 3 4 7 ?_
  refine J.T <| J.b2 (X := Nat × Hp) (fun x => [(0, Str (Sha.pad s)), (3, .slice A25 64 c25), (4, .slice (some ⟨gh, 0, none⟩) 8 c26), (7, I ((64 * x.1 : Nat) : Int))]) (fun x => [F, m25, x.2]) (fun x => 64 * x.1 ≤ (Sha.pad s).length ∧ Row x.2 36 1 (some ⟨gh, 0, none⟩) 8 c26 (qBs (nws (Sha.mixes Sha.init (Sha.pad s) x.1).list))) (fun x => (Sha.pad s).length - 64 * x.1) (0, m26) (⟨Nat.zero_le _, h26⟩) ⟨congrArg (fun l => some (Str l)) (by rw [List.take_of_length_le (by rw [Sha.numB_length]; exact Nat.le_refl _)]; rfl), rfl, rfl, rfl, trivial⟩ (fun _ h => h) ?_
  rintro ⟨b, m⟩ ⟨hb, hrow⟩ I4 hI4
  dsimp only at hb hrow ⊢
  obtain ⟨S, hS⟩ : ∃ S, S = (Sha.mixes Sha.init (Sha.pad s) b) := ⟨_, rfl⟩
  rw [← hS] at hrow
  have hpm := Sha.pad_mod s
  have hpL := Sha.pad_length s
  refine J.k fun K15 hK15 => J.g fun K16 hK16 => J.b rfl <| J.f ((qAj rfl rfl).as (v' := Str (Sha.pad s)) rfl) rfl <| J.f (qA0 u9_ rfl rfl) rfl <| J.f (qAS rfl rfl rfl) rfl <| J.c hK16 <| J.a3 0 3 4 7 55 ?_
  refine J.a0 rfl (fun h55 => ?_) (fun h55 => ?_)
  ·
    refine J.a1 hK15 <| J.W 0 3 4 7 ?_
    refine J.k fun K17 hK17 => J.T <| J.k fun K18 hK18 => ?_
    have hbl : 64 * (b + 1) ≤ (Sha.pad s).length := by omega
    have hgd : ∀ j, j < 64 → (Sha.pad s)[64 * b + j]? = some (((Sha.pad s).drop (64 * b)).getD j 0) := fun j hj => by
      rw [List.getD_eq_getElem?_getD, List.getElem?_drop, List.getElem?_eq_getElem (by omega)]; rfl
    refine J.E <| J.u (qBi (n' := 64) rfl rfl qAq el36 (by decide) (by decide)) rfl fun g58 _ => ?_
    change J _ _ _ [F, m25, m, blk g58 (List.replicate 64 [N64 0]).flatten 36] _
    refine J.b rfl <| J.c hK18 <| J.a3 0 3 4 7 8 ?_
    refine J.k fun K19 hK19 => J.g fun K20 hK20 => J.b rfl <| J.c hK20 <| J.a9 0 3 4 7 8 9 ?_
    refine J.T <| J.b2 (fun i : Nat => [(0, Str (Sha.pad s)), (3, .slice A25 64 c25), (4, .slice (some ⟨gh, 0, none⟩) 8 c26), (7, I ((64 * b : Nat) : Int)), (8, .slice (some ⟨g58, 0, none⟩) 64 64), (9, I i)]) (fun i => [F, m25, m, blk g58 ((R3.wn (Sha.firsts ((Sha.pad s).drop (64 * b)) i)).map N64) 36]) (fun i => i ≤ 16) (fun i => 16 - i) 0 (Nat.zero_le _) ⟨rfl, rfl, rfl, rfl, rfl, rfl, trivial⟩ (fun _ h => by rw [qJm, ← qMr N64] at h; exact h) ?_
    intro i hi I6 hI6
    have hwl := R3.wn_length (Sha.firsts ((Sha.pad s).drop (64 * b)) i) (by rw [Sha.firsts_length]; omega)
    refine J.k fun K21 hK21 => J.g fun K22 hK22 => J.b rfl <| J.f (qAS rfl rfl rfl) rfl <| J.c hK22 <| J.b9 0 3 4 7 8 9 60 ?_
    refine J.a0 rfl (fun h60 => ?_) (fun h60 => ?_)
    ·
      refine J.a1 hK21 <| J.a9 0 3 4 7 8 9 ?_
      refine J.k fun K23 hK23 => J.T <| J.g fun K24 hK24 => J.b rfl <| J.c hK24 <| J.b9 0 3 4 7 8 9 10 ?_
      refine J.T <| J.b2 (fun j : Nat => [(0, Str (Sha.pad s)), (3, .slice A25 64 c25), (4, .slice (some ⟨gh, 0, none⟩) 8 c26), (7, I ((64 * b : Nat) : Int)), (8, .slice (some ⟨g58, 0, none⟩) 64 64), (9, I i), (10, I j)]) (fun j => [F, m25, m, blk g58 (((R3.wn (Sha.firsts ((Sha.pad s).drop (64 * b)) i)).set i (R3.pv ((Sha.pad s).drop (64 * b)) i j)).map N64) 36]) (fun j => j ≤ 4) (fun j => 4 - j) 0 (Nat.zero_le _) ⟨rfl, rfl, rfl, rfl, rfl, rfl, rfl, trivial⟩ (fun _ h => by have e2 := R3.wn_zero (Sha.firsts ((Sha.pad s).drop (64 * b)) i) (by rw [Sha.firsts_length]; omega); rw [Sha.firsts_length] at e2; rw [R3.pv, e2]; exact h) ?_
      intro j hj I8 hI8
      refine J.k fun K25 hK25 => J.g fun K26 hK26 => J.b rfl <| J.f (qAS rfl rfl rfl) rfl <| J.c hK26 <| J.d2 0 3 4 7 8 9 10 64 ?_
      refine J.a0 rfl (fun h64 => ?_) (fun h64 => ?_)
      ·
        refine J.a1 hK25 <| J.b9 0 3 4 7 8 9 10 ?_
        refine J.k fun K27 hK27 => J.T ?_
        have hpv := R3.pv_lt ((Sha.pad s).drop (64 * b)) i j (by omega)
        have hpv2 : 256 ^ j ≤ 16777216 := Nat.pow_le_pow_right (by decide) (show j ≤ 3 by omega)
        have hby := (((Sha.pad s).drop (64 * b)).getD (4 * i + j) 0).toNat_lt
        refine J.b5 [blk g58 (((R3.wn (Sha.firsts ((Sha.pad s).drop (64 * b)) i)).set i (R3.pv ((Sha.pad s).drop (64 * b)) i j)).map N64) 36] [18] (.y 0 (.y 1 (.y 2 (.y 3 (.y 4 (.y 5 (.y 6 (.y 7 (.y 8 (.y 9 (.y 10 (.y 11 (.y 12 (.y 13 (.y 14 (.y 15 (.y 16 (.y 17 (.e 18 .nil))))))))))))))))))) Tryz.wide (by decide +kernel) (by simp) ?_
        iterate 4 refine J.G ?_
        refine J.j rfl (qAJ (i := i) (j := i) rfl rfl rfl qAq qBQ (by omega) (by omega)) rfl rfl <| J.j rfl (qAF 0 rfl rfl rfl qBq (v := N64 (R3.pv ((Sha.pad s).drop (64 * b)) i j)) (by rw [List.getElem?_map, List.getElem?_set_self (by omega)]; rfl)) rfl rfl ?_
        refine J.j rfl (qDA (a := 256) rfl rfl rfl (by omega)) rfl rfl <| J.G ?_
        refine J.G ?_
        refine J.G ?_
        refine J.j rfl ((qCD (a := 4) rfl rfl rfl (by omega)).nat (4 * i) (by omega)) rfl rfl <| J.j rfl ((qAO rfl rfl rfl (by omega)).nat (64 * b + 4 * i) (by omega)) rfl rfl <| J.G ?_
        refine J.j rfl ((qAO rfl rfl rfl (by omega)).nat (64 * b + (4 * i + j)) (by omega)) rfl rfl <| J.j rfl (qBS (i := 64 * b + (4 * i + j)) u9_ rfl rfl rfl (hgd (4 * i + j) (by omega))) rfl rfl <| J.j rfl (qH2 rfl rfl u5_ qDu) rfl rfl <| J.j rfl ((qA4 rfl rfl rfl (by omega)).as (v' := N64 (R3.pv ((Sha.pad s).drop (64 * b)) i (j + 1))) rfl) rfl rfl <| J.j rfl (qAJ (i := i) (j := i) rfl rfl rfl qAq qBQ (by omega) (by omega)) rfl rfl <| J.c8 rfl (qAc (i := 3) (vs := [N64 _]) rfl rfl rfl rfl rfl qBQ rfl (by rw [List.length_map, List.length_set]; show i + 1 ≤ _; omega)) rfl rfl rfl fun _ _ => ?_
        change J _ _ _ [F, m25, m, _] _
        refine J.b4 <| J.a4 <| J.q (J.H hK27 ?_)
        refine J.b9 0 3 4 7 8 9 10 ?_
        exact J.E <| J.b rfl <| J.f ((qAO rfl rfl rfl (by omega)).nat (j + 1) (by omega)) rfl <| J.b rfl <| J.a2 <| J.q <| J.a6 (j + 1) (fun x (hx : x ≤ 4 ∧ 4 - x < 4 - j) => hI8 x hx.1 hx.2) ⟨by omega, by omega⟩ ⟨rfl, rfl, rfl, rfl, rfl, rfl, rfl, trivial⟩ (fun _ h => by rw [qDx N64 _ _ _ (by rw [List.length_set]; omega), List.set_set] at h; exact h)
      refine J.b0 <| J.Z <| J.Z <| J.b1 ?_
      refine J.a4 <| J.q (J.H hK23 ?_)
      refine J.a9 0 3 4 7 8 9 ?_
      have hj4 : j = 4 := by omega
      exact J.E <| J.b rfl <| J.f ((qAO rfl rfl rfl (by omega)).nat (i + 1) (by omega)) rfl <| J.b rfl <| J.a2 <| J.q <| J.a6 (i + 1) (fun x (hx : x ≤ 16 ∧ 16 - x < 16 - i) => hI6 x hx.1 hx.2) ⟨by omega, by omega⟩ ⟨rfl, rfl, rfl, rfl, rfl, rfl, trivial⟩ (fun _ h => by
        have e2 := R3.wn_set (Sha.firsts ((Sha.pad s).drop (64 * b)) i) (Sha.word ((Sha.pad s).drop (64 * b)) i) (by rw [Sha.firsts_length]; omega)
        rw [Sha.firsts_length] at e2
        rw [hj4, R3.pv_word, e2, ← R3.firsts_succ] at h; exact h)
    refine J.b0 <| J.Z <| J.Z <| J.b1 ?_
    refine J.q (J.H hK19 ?_)
    refine J.a3 0 3 4 7 8 ?_
    refine J.k fun K28 hK28 => J.g fun K29 hK29 => J.b rfl <| J.c hK29 <| J.a9 0 3 4 7 8 11 ?_
    refine J.T <| J.b2 (fun j : Nat => [(0, Str (Sha.pad s)), (3, .slice A25 64 c25), (4, .slice (some ⟨gh, 0, none⟩) 8 c26), (7, I ((64 * b : Nat) : Int)), (8, .slice (some ⟨g58, 0, none⟩) 64 64), (11, I ((16 + j : Nat) : Int))]) (fun j => [F, m25, m, blk g58 ((R3.wn (Sha.exts j (Sha.firsts ((Sha.pad s).drop (64 * b)) 16))).map N64) 36]) (fun j => j ≤ 48) (fun j => 48 - j) 0 (Nat.zero_le _) ⟨rfl, rfl, rfl, rfl, rfl, rfl, trivial⟩ (fun _ h => by rw [show i = 16 by omega] at h; unfold Sha.exts; exact h) ?_
    intro j hj I10 hI10
    obtain ⟨L, hL⟩ : ∃ L, L = (Sha.exts j (Sha.firsts ((Sha.pad s).drop (64 * b)) 16)) := ⟨_, rfl⟩
    have hll : L.length = 16 + j := by rw [hL, Sha.exts_length, Sha.firsts_length]
    rw [← hL]
    have hwl := R3.wn_length L (by omega)
    refine J.k fun K30 hK30 => J.g fun K31 hK31 => J.b rfl <| J.f (qAS rfl rfl rfl) rfl <| J.c hK31 <| J.b9 0 3 4 7 8 11 86 ?_
    refine J.a0 rfl (fun h86 => ?_) (fun h86 => ?_)
    ·
      refine J.a1 hK30 <| J.a9 0 3 4 7 8 11 ?_
      refine J.k fun K32 hK32 => J.T <| J.k fun K33 hK33 => ?_
      have b1 := (L.getD (j + 1) 0).toNat_lt
      have b2 := (L.getD (j + 14) 0).toNat_lt
      have b3 := (L.getD j 0).toNat_lt
      have b4 := (L.getD (j + 9) 0).toNat_lt
      have b5 := (Sha.sg0 (L.getD (j + 1) 0)).toNat_lt
      have b6 := (Sha.sg1 (L.getD (j + 14) 0)).toNat_lt
      refine J.b5 [blk g58 ((R3.wn L).map N64) 36] [] (.y 0 (.y 1 (.y 2 (.y 3 (.y 4 (.y 6 (.y 7 (.y 8 (.y 9 (.y 10 (.y 13 (.y 14 (.y 15 (.y 16 (.y 17 (.e 5 (.e 11 (.y 12 (.e 18 (.y 19 (.y 20 .nil))))))))))))))))))))) Tryz.wide (by decide +kernel) (by simp) ?_
      refine J.G ?_
      refine J.G ?_
      refine J.j rfl ((qAs rfl rfl rfl (by omega)).nat (j + 1) (by omega)) rfl rfl <| J.j rfl (qAJ (i := j + 1) (j := j + 1) rfl rfl rfl qAq qBQ (by omega) (by omega)) rfl rfl <| J.j rfl ((qAF 0 rfl rfl rfl qBq (qCG (f := N64) 0 (show j + 1 < (R3.wn L).length by omega))).as (v' := NW (L.getD (j + 1) 0)) (congrArg N64 (R3.wn_get L (j + 1) (by omega)))) rfl rfl <| J.G ?_
      refine J.G ?_
      refine J.j rfl ((qAs rfl rfl rfl (by omega)).nat (j + 1) (by omega)) rfl rfl <| J.j rfl (qAJ (i := j + 1) (j := j + 1) rfl rfl rfl qAq qBQ (by omega) (by omega)) rfl rfl <| J.j rfl ((qAF 0 rfl rfl rfl qBq (qCG (f := N64) 0 (show j + 1 < (R3.wn L).length by omega))).as (v' := NW (L.getD (j + 1) 0)) (congrArg N64 (R3.wn_get L (j + 1) (by omega)))) rfl rfl <| J.G ?_
      refine J.G ?_
      refine J.j rfl ((qAs rfl rfl rfl (by omega)).nat (j + 1) (by omega)) rfl rfl <| J.j rfl (qAJ (i := j + 1) (j := j + 1) rfl rfl rfl qAq qBQ (by omega) (by omega)) rfl rfl <| J.j rfl ((qAF 0 rfl rfl rfl qBq (qCG (f := N64) 0 (show j + 1 < (R3.wn L).length by omega))).as (v' := NW (L.getD (j + 1) 0)) (congrArg N64 (R3.wn_get L (j + 1) (by omega)))) rfl rfl <| J.a7 rfl (qAB rfl rfl ent81 (Ct.use0 (fun F' hF => qBc F' (L.getD (j + 1) 0) 7 (by decide) (by decide)))) rfl (by simp) fun g94 _ => J.a7 rfl (qAB rfl rfl ent81 (Ct.use0 (fun F' hF => qBc F' (L.getD (j + 1) 0) 18 (by decide) (by decide)))) rfl (by simp) fun g100 _ => J.j rfl (qCB rfl rfl rfl) rfl rfl <| J.a7 rfl (qAB rfl rfl ent80 (Ct.use0 (fun F' hF => qBv F' (L.getD (j + 1) 0).toNat 3 (by omega) (by omega)))) rfl (by simp) fun g107 _ => J.j rfl ((qCB (b := Sha.shr (L.getD (j + 1) 0) 3) rfl rfl (by show some (N64 _) = some (N64 _); rw [R3.shr_nat _ _ (by decide)])).as (v' := NW (Sha.sg0 (L.getD (j + 1) 0))) rfl) rfl rfl <| J.c0 ?_
      refine J.b4 <| J.q (J.H hK33 ?_)
      refine J.b9 0 3 4 7 8 11 12 ?_
      refine J.k fun K34 hK34 => J.b5 [blk g58 ((R3.wn L).map N64) 36] [] (.y 0 (.y 1 (.y 2 (.y 3 (.y 4 (.y 6 (.y 7 (.y 8 (.y 9 (.y 10 (.y 13 (.y 14 (.y 15 (.y 16 (.y 17 (.e 5 (.e 11 (.y 12 (.e 18 (.y 19 (.y 20 .nil))))))))))))))))))))) Tryz.wide (by decide +kernel) (by simp) ?_
      refine J.G ?_
      refine J.G ?_
      refine J.j rfl ((qAs rfl rfl rfl (by omega)).nat (j + 14) (by omega)) rfl rfl <| J.j rfl (qAJ (i := j + 14) (j := j + 14) rfl rfl rfl qAq qBQ (by omega) (by omega)) rfl rfl <| J.j rfl ((qAF 0 rfl rfl rfl qBq (qCG (f := N64) 0 (show j + 14 < (R3.wn L).length by omega))).as (v' := NW (L.getD (j + 14) 0)) (congrArg N64 (R3.wn_get L (j + 14) (by omega)))) rfl rfl <| J.G ?_
      refine J.G ?_
      refine J.j rfl ((qAs rfl rfl rfl (by omega)).nat (j + 14) (by omega)) rfl rfl <| J.j rfl (qAJ (i := j + 14) (j := j + 14) rfl rfl rfl qAq qBQ (by omega) (by omega)) rfl rfl <| J.j rfl ((qAF 0 rfl rfl rfl qBq (qCG (f := N64) 0 (show j + 14 < (R3.wn L).length by omega))).as (v' := NW (L.getD (j + 14) 0)) (congrArg N64 (R3.wn_get L (j + 14) (by omega)))) rfl rfl <| J.G ?_
      refine J.G ?_
      refine J.j rfl ((qAs rfl rfl rfl (by omega)).nat (j + 14) (by omega)) rfl rfl <| J.j rfl (qAJ (i := j + 14) (j := j + 14) rfl rfl rfl qAq qBQ (by omega) (by omega)) rfl rfl <| J.j rfl ((qAF 0 rfl rfl rfl qBq (qCG (f := N64) 0 (show j + 14 < (R3.wn L).length by omega))).as (v' := NW (L.getD (j + 14) 0)) (congrArg N64 (R3.wn_get L (j + 14) (by omega)))) rfl rfl <| J.a7 rfl (qAB rfl rfl ent81 (Ct.use0 (fun F' hF => qBc F' (L.getD (j + 14) 0) 17 (by decide) (by decide)))) rfl (by simp) fun g114 _ => J.a7 rfl (qAB rfl rfl ent81 (Ct.use0 (fun F' hF => qBc F' (L.getD (j + 14) 0) 19 (by decide) (by decide)))) rfl (by simp) fun g120 _ => J.j rfl (qCB rfl rfl rfl) rfl rfl <| J.a7 rfl (qAB rfl rfl ent80 (Ct.use0 (fun F' hF => qBv F' (L.getD (j + 14) 0).toNat 10 (by omega) (by omega)))) rfl (by simp) fun g127 _ => J.j rfl ((qCB (b := Sha.shr (L.getD (j + 14) 0) 10) rfl rfl (by show some (N64 _) = some (N64 _); rw [R3.shr_nat _ _ (by decide)])).as (v' := NW (Sha.sg1 (L.getD (j + 14) 0))) rfl) rfl rfl <| J.c0 ?_
      refine J.b4 <| J.q (J.H hK34 ?_)
      refine J.d2 0 3 4 7 8 11 12 13 ?_
      refine J.b5 [blk g58 ((R3.wn L).map N64) 36] [19] (.y 0 (.y 1 (.y 2 (.y 3 (.y 4 (.y 5 (.y 6 (.y 7 (.y 8 (.y 9 (.y 10 (.y 11 (.y 12 (.y 13 (.y 14 (.y 15 (.y 16 (.y 17 (.y 18 (.e 19 .nil)))))))))))))))))))) Tryz.wide (by decide +kernel) (by simp) ?_
      iterate 4 refine J.G ?_
      refine J.j rfl ((qAs rfl rfl rfl (by omega)).nat (j) (by omega)) rfl rfl <| J.j rfl (qAJ (i := j) (j := j) rfl rfl rfl qAq qBQ (by omega) (by omega)) rfl rfl <| J.j rfl ((qAF 0 rfl rfl rfl qBq (qCG (f := N64) 0 (show j < (R3.wn L).length by omega))).as (v' := NW (L.getD (j) 0)) (congrArg N64 (R3.wn_get L (j) (by omega)))) rfl rfl <| J.G ?_
      refine J.j rfl (qA4 rfl rfl rfl (by omega)) rfl rfl <| J.G ?_
      refine J.G ?_
      refine J.j rfl ((qAs rfl rfl rfl (by omega)).nat (j + 9) (by omega)) rfl rfl <| J.j rfl (qAJ (i := j + 9) (j := j + 9) rfl rfl rfl qAq qBQ (by omega) (by omega)) rfl rfl <| J.j rfl ((qAF 0 rfl rfl rfl qBq (qCG (f := N64) 0 (show j + 9 < (R3.wn L).length by omega))).as (v' := NW (L.getD (j + 9) 0)) (congrArg N64 (R3.wn_get L (j + 9) (by omega)))) rfl rfl <| J.j rfl (qA4 rfl rfl rfl (by omega)) rfl rfl <| J.G ?_
      refine J.j rfl (qA4 rfl rfl rfl (by omega)) rfl rfl <| J.j rfl ((qBa (b := 4294967296) rfl rfl rfl (by omega)).as (v' := NW (L.getD j 0 + Sha.sg0 (L.getD (j + 1) 0) + L.getD (j + 9) 0 + Sha.sg1 (L.getD (j + 14) 0))) (congrArg N64 (by simp only [UInt32.toNat_add]; omega))) rfl rfl <| J.j rfl (qAJ (i := 16 + j) (j := 16 + j) rfl rfl rfl qAq qBQ (by omega) (by omega)) rfl rfl <| J.c8 rfl (qAc (i := 3) (vs := [N64 _]) rfl rfl rfl rfl rfl qBQ rfl (by rw [List.length_map]; show 16 + j + 1 ≤ _; omega)) rfl rfl rfl fun _ _ => ?_
      change J _ _ _ [F, m25, m, _] _
      refine J.b4 <| J.a4 <| J.q (J.H hK32 ?_)
      refine J.a9 0 3 4 7 8 11 ?_
      refine J.E <| J.b rfl <| J.f ((qAO rfl rfl rfl (by omega)).nat (16 + (j + 1)) (by omega)) rfl <| J.b rfl <| J.a2 <| J.q <| J.a6 (j + 1) (fun x (hx : x ≤ 48 ∧ 48 - x < 48 - j) => hI10 x hx.1 hx.2) ⟨by omega, by omega⟩ ⟨rfl, rfl, rfl, rfl, rfl, rfl, trivial⟩ (fun _ h => ?_)
      have e2 := R3.wn_set L (L.getD j 0 + Sha.sg0 (L.getD (j + 1) 0) + L.getD (j + 9) 0 + Sha.sg1 (L.getD (j + 14) 0)) (by omega)
      rw [hll, ← R3.ext_eq L j hll] at e2
      rw [qDx N64 _ _ _ (by omega), e2, hL] at h
      unfold Sha.exts
      exact h
    refine J.b0 <| J.Z <| J.Z <| J.b1 ?_
    refine J.q (J.H hK28 ?_)
    refine J.a3 0 3 4 7 8 ?_
    refine J.k fun K35 hK35 => ?_
    have hj48 : j = 48 := by omega
    have hsc : L = (Sha.sched ((Sha.pad s).drop (64 * b))) := by rw [hL, hj48]; unfold Sha.sched; rfl
    rw [hsc] at hll hwl ⊢
    have hsl : (Sha.sched ((Sha.pad s).drop (64 * b))).length = 64 := Sha.sched_length _
    refine J.c5 [0, 1, 2, 3] [F, m25, m, blk g58 ((R3.wn (Sha.sched ((Sha.pad s).drop (64 * b)))).map N64) 36] rfl (by decide) <| J.E <| J.u (qDc rfl qAq el36) rfl fun g148 _ => ?_
    change J _ _ _ [F, m25, m, blk g58 ((R3.wn (Sha.sched ((Sha.pad s).drop (64 * b)))).map N64) 36, blk g148 [] 36] _
    refine J.b rfl <| J.u (qAb (i := 4) (m2 := m) (xs := []) (ys := qBs (nws S.list)) rfl rfl rfl qAq qAq el36 rfl (qAr (q := True) (xs := []) rfl (by simp)) (by simp) hrow.sl (qH5 _) (by omega) (by omega)) rfl ?_
    rintro ⟨A150, c150, m150⟩ h150
    try dsimp only at h150
    change J _ ((150, .slice A150 8 c150) :: _) _ [_, _, _, _, m150] _
    refine J.b rfl <| J.c hK35 <| J.a9 0 3 4 7 8 14 ?_
    refine J.k fun K36 hK36 => J.g fun K37 hK37 => J.b rfl <| J.c hK37 <| J.b9 0 3 4 7 8 14 15 ?_
    refine J.T <| J.b2 (X := Nat × Option Addr × Nat × Hp) (fun x => [(0, Str (Sha.pad s)), (3, .slice A25 64 c25), (4, .slice (some ⟨gh, 0, none⟩) 8 c26), (7, I ((64 * b : Nat) : Int)), (8, .slice (some ⟨g58, 0, none⟩) 64 64), (14, .slice x.2.1 8 x.2.2.1), (15, I x.1)]) (fun x => [F, m25, m, blk g58 ((R3.wn (Sha.sched ((Sha.pad s).drop (64 * b)))).map N64) 36, x.2.2.2]) (fun x => x.1 ≤ 64 ∧ Row x.2.2.2 36 1 x.2.1 8 x.2.2.1 (qBs (nws (Sha.rnds (Sha.sched ((Sha.pad s).drop (64 * b))) S x.1).list))) (fun x => 64 - x.1) (0, A150, c150, m150) (⟨Nat.zero_le _, by unfold Sha.rnds; exact h150⟩) ⟨rfl, rfl, rfl, rfl, rfl, rfl, rfl, trivial⟩ (fun _ h => h) ?_
    rintro ⟨i, A, c, mv⟩ ⟨hi, hv⟩ I12 hI12
    dsimp only at hi hv ⊢
    obtain ⟨R, hR⟩ : ∃ R, R = (Sha.rnds (Sha.sched ((Sha.pad s).drop (64 * b))) S i) := ⟨_, rfl⟩
    rw [← hR] at hv
    refine J.k fun K38 hK38 => J.g fun K39 hK39 => J.b rfl <| J.f (qAS rfl rfl rfl) rfl <| J.c hK39 <| J.d2 0 3 4 7 8 14 15 152 ?_
    refine J.a0 rfl (fun h152 => ?_) (fun h152 => ?_)
    ·
      refine J.a1 hK38 <| J.b9 0 3 4 7 8 14 15 ?_
      refine J.k fun K40 hK40 => J.T <| J.k fun K41 hK41 => ?_
      obtain ⟨S1, hS1⟩ : ∃ x, x = Sha.rotr R.e 6 ^^^ Sha.rotr R.e 11 ^^^ Sha.rotr R.e 25 := ⟨_, rfl⟩
      obtain ⟨CH, hCH⟩ : ∃ x, x = R.e &&& R.f ^^^ ~~~ R.e &&& R.g := ⟨_, rfl⟩
      obtain ⟨T1, hT1⟩ : ∃ x, x = R.h + S1 + CH + Sha.K.getD i 0 + (Sha.sched ((Sha.pad s).drop (64 * b))).getD i 0 := ⟨_, rfl⟩
      obtain ⟨S0, hS0⟩ : ∃ x, x = Sha.rotr R.a 2 ^^^ Sha.rotr R.a 13 ^^^ Sha.rotr R.a 22 := ⟨_, rfl⟩
      obtain ⟨MJ, hMJ⟩ : ∃ x, x = R.a &&& R.b ^^^ R.a &&& R.c ^^^ R.b &&& R.c := ⟨_, rfl⟩
      obtain ⟨T2, hT2⟩ : ∃ x, x = S0 + MJ := ⟨_, rfl⟩
      have hrn : Sha.rnd ((Sha.sched ((Sha.pad s).drop (64 * b))).getD i 0) (Sha.K.getD i 0) R = ⟨T1 + T2, R.a, R.b, R.c, R.d + T1, R.e, R.f, R.g⟩ := by rw [hT2, hT1, hS0, hMJ, hS1, hCH]; rfl
      have b1 := R.h.toNat_lt
      have b2 := S1.toNat_lt
      have b3 := CH.toNat_lt
      have b4 := (Sha.K.getD i 0).toNat_lt
      have b5 := ((Sha.sched ((Sha.pad s).drop (64 * b))).getD i 0).toNat_lt
      have b6 := S0.toNat_lt
      have b7 := MJ.toNat_lt
      have b8 := T1.toNat_lt
      have b9 := T2.toNat_lt
      have b10 := R.d.toNat_lt
      refine J.b5 [mv] [] (.y 0 (.y 1 (.y 2 (.y 4 (.y 5 (.y 6 (.y 9 (.y 10 (.y 11 (.e 3 (.e 7 (.y 8 (.e 12 (.y 13 (.y 14 .nil))))))))))))))) Tryz.wide (by decide +kernel) (by simp) ?_
      refine J.G ?_
      refine J.j rfl (qAG (i := 4) rfl rfl rfl qAq qBQ hv.sl (by omega)) rfl rfl <| J.j rfl (qAK rfl rfl qBq (m := mv) (by simp) (v := NW R.e) (hv.sl.elem (i := 4) rfl)) rfl rfl <| J.G ?_
      refine J.j rfl (qAG (i := 4) rfl rfl rfl qAq qBQ hv.sl (by omega)) rfl rfl <| J.j rfl (qAK rfl rfl qBq (m := mv) (by simp) (v := NW R.e) (hv.sl.elem (i := 4) rfl)) rfl rfl <| J.G ?_
      refine J.j rfl (qAG (i := 4) rfl rfl rfl qAq qBQ hv.sl (by omega)) rfl rfl <| J.j rfl (qAK rfl rfl qBq (m := mv) (by simp) (v := NW R.e) (hv.sl.elem (i := 4) rfl)) rfl rfl <| J.a7 rfl (qAB rfl rfl ent81 (Ct.use0 (fun F' hF => qBc F' R.e 6 (by decide) (by decide)))) rfl (by simp) fun g158 _ => J.a7 rfl (qAB rfl rfl ent81 (Ct.use0 (fun F' hF => qBc F' R.e 11 (by decide) (by decide)))) rfl (by simp) fun g162 _ => J.j rfl (qCB rfl rfl rfl) rfl rfl <| J.a7 rfl (qAB rfl rfl ent81 (Ct.use0 (fun F' hF => qBc F' R.e 25 (by decide) (by decide)))) rfl (by simp) fun g167 _ => J.j rfl ((qCB rfl rfl rfl).as (v' := NW S1) (by rw [hS1])) rfl rfl <| J.c0 ?_
      refine J.b4 <| J.q (J.H hK41 ?_)
      refine J.d2 0 3 4 7 8 14 15 16 ?_
      refine J.k fun K42 hK42 => J.b5 [mv] [] (.y 0 (.y 1 (.y 2 (.y 3 (.y 4 (.y 5 (.y 6 (.y 7 (.y 8 (.y 9 (.y 10 (.y 11 (.y 12 (.y 13 (.y 14 (.y 15 (.y 16 .nil))))))))))))))))) Tryz.wide (by decide +kernel) (by simp) ?_
      refine J.G ?_
      refine J.j rfl (qAG (i := 4) rfl rfl rfl qAq qBQ hv.sl (by omega)) rfl rfl <| J.j rfl (qAK rfl rfl qBq (m := mv) (by simp) (v := NW R.e) (hv.sl.elem (i := 4) rfl)) rfl rfl <| J.G ?_
      refine J.j rfl (qAG (i := 5) rfl rfl rfl qAq qBQ hv.sl (by omega)) rfl rfl <| J.j rfl (qAK rfl rfl qBq (m := mv) (by simp) (v := NW R.f) (hv.sl.elem (i := 5) rfl)) rfl rfl <| J.j rfl (qFV rfl rfl rfl) rfl rfl <| J.G ?_
      refine J.j rfl (qAG (i := 4) rfl rfl rfl qAq qBQ hv.sl (by omega)) rfl rfl <| J.j rfl (qAK rfl rfl qBq (m := mv) (by simp) (v := NW R.e) (hv.sl.elem (i := 4) rfl)) rfl rfl <| J.j rfl (qSL rfl rfl rfl) rfl rfl <| J.G ?_
      refine J.j rfl (qAG (i := 6) rfl rfl rfl qAq qBQ hv.sl (by omega)) rfl rfl <| J.j rfl (qAK rfl rfl qBq (m := mv) (by simp) (v := NW R.g) (hv.sl.elem (i := 6) rfl)) rfl rfl <| J.j rfl (qFV rfl rfl rfl) rfl rfl <| J.j rfl ((qCB rfl rfl rfl).as (v' := NW CH) (by rw [hCH])) rfl rfl <| J.c0 ?_
      refine J.b4 <| J.q (J.H hK42 ?_)
      refine J.d8 0 3 4 7 8 14 15 16 17 ?_
      refine J.k fun K43 hK43 => J.b5 [mv, blk g58 ((R3.wn (Sha.sched ((Sha.pad s).drop (64 * b)))).map N64) 36, m25] [] (.y 0 (.y 1 (.y 2 (.y 3 (.y 4 (.y 5 (.y 6 (.y 7 (.y 8 (.y 9 (.y 10 (.y 11 (.y 12 (.y 13 (.y 14 (.y 15 (.y 16 (.y 17 (.y 18 .nil))))))))))))))))))) Tryz.wide (by decide +kernel) (by simp) ?_
      refine J.G ?_
      refine J.j rfl (qAG (i := 7) rfl rfl rfl qAq qBQ hv.sl (by omega)) rfl rfl <| J.j rfl (qAK rfl rfl qBq (m := mv) (by simp) (v := NW R.h) (hv.sl.elem (i := 7) rfl)) rfl rfl <| J.G ?_
      refine J.j rfl (qA4 rfl rfl rfl (by omega)) rfl rfl <| J.G ?_
      refine J.j rfl (qA4 rfl rfl rfl (by omega)) rfl rfl <| J.G ?_
      refine J.G ?_
      refine J.j rfl (qAG (i := i) rfl rfl rfl qAq qBQ h25.sl (by omega)) rfl rfl <| J.j rfl ((qAK rfl rfl qBq (m := m25) (by simp) (h25.sl.elem (qCE (k := i) (by rw [List.length_map]; show i < 64; omega)))).as (v' := NW (Sha.K.getD i 0)) (congrArg N64 (R3.map_getD Sha.K i (by show i < 64; omega)))) rfl rfl <| J.j rfl (qA4 rfl rfl rfl (by omega)) rfl rfl <| J.G ?_
      refine J.G ?_
      refine J.j rfl (qAJ (i := i) (j := i) rfl rfl rfl qAq qBQ (by omega) (by omega)) rfl rfl <| J.j rfl ((qAF 1 rfl rfl rfl qBq (qCG (f := N64) 0 (show i < (R3.wn (Sha.sched ((Sha.pad s).drop (64 * b)))).length by omega))).as (v' := NW ((Sha.sched ((Sha.pad s).drop (64 * b))).getD i 0)) (congrArg N64 (R3.wn_get (Sha.sched ((Sha.pad s).drop (64 * b))) i (by omega)))) rfl rfl <| J.j rfl (qA4 rfl rfl rfl (by omega)) rfl rfl <| J.j rfl ((qBa (b := 4294967296) rfl rfl rfl (by omega)).as (v' := NW T1) (congrArg N64 (by rw [hT1]; simp only [UInt32.toNat_add]; omega))) rfl rfl <| J.c0 ?_
      refine J.b4 <| J.q (J.H hK43 ?_)
      refine J.d2 0 3 4 7 8 14 15 18 ?_
      refine J.k fun K44 hK44 => J.b5 [mv] [] (.y 0 (.y 1 (.y 2 (.y 4 (.y 5 (.y 6 (.y 9 (.y 10 (.y 11 (.e 3 (.e 7 (.y 8 (.e 12 (.y 13 (.y 14 .nil))))))))))))))) Tryz.wide (by decide +kernel) (by simp) ?_
      refine J.G ?_
      refine J.j rfl (qAG (i := 0) rfl rfl rfl qAq qBQ hv.sl (by omega)) rfl rfl <| J.j rfl (qAK rfl rfl qBq (m := mv) (by simp) (v := NW R.a) (hv.sl.elem (i := 0) rfl)) rfl rfl <| J.G ?_
      refine J.j rfl (qAG (i := 0) rfl rfl rfl qAq qBQ hv.sl (by omega)) rfl rfl <| J.j rfl (qAK rfl rfl qBq (m := mv) (by simp) (v := NW R.a) (hv.sl.elem (i := 0) rfl)) rfl rfl <| J.G ?_
      refine J.j rfl (qAG (i := 0) rfl rfl rfl qAq qBQ hv.sl (by omega)) rfl rfl <| J.j rfl (qAK rfl rfl qBq (m := mv) (by simp) (v := NW R.a) (hv.sl.elem (i := 0) rfl)) rfl rfl <| J.a7 rfl (qAB rfl rfl ent81 (Ct.use0 (fun F' hF => qBc F' R.a 2 (by decide) (by decide)))) rfl (by simp) fun g206 _ => J.a7 rfl (qAB rfl rfl ent81 (Ct.use0 (fun F' hF => qBc F' R.a 13 (by decide) (by decide)))) rfl (by simp) fun g210 _ => J.j rfl (qCB rfl rfl rfl) rfl rfl <| J.a7 rfl (qAB rfl rfl ent81 (Ct.use0 (fun F' hF => qBc F' R.a 22 (by decide) (by decide)))) rfl (by simp) fun g215 _ => J.j rfl ((qCB rfl rfl rfl).as (v' := NW S0) (by rw [hS0])) rfl rfl <| J.c0 ?_
      refine J.b4 <| J.q (J.H hK44 ?_)
      refine J.d8 0 3 4 7 8 14 15 18 19 ?_
      refine J.k fun K45 hK45 => J.b5 [mv] [] (.y 0 (.y 1 (.y 2 (.y 3 (.y 4 (.y 5 (.y 6 (.y 7 (.y 8 (.y 9 (.y 10 (.y 11 (.y 12 (.y 13 (.y 14 (.y 15 (.y 16 (.y 17 (.y 18 (.y 19 (.y 20 (.y 21 (.y 22 (.y 23 (.y 24 (.y 25 (.y 26 .nil))))))))))))))))))))))))))) Tryz.wide (by decide +kernel) (by simp) ?_
      refine J.G ?_
      refine J.G ?_
      refine J.j rfl (qAG (i := 0) rfl rfl rfl qAq qBQ hv.sl (by omega)) rfl rfl <| J.j rfl (qAK rfl rfl qBq (m := mv) (by simp) (v := NW R.a) (hv.sl.elem (i := 0) rfl)) rfl rfl <| J.G ?_
      refine J.j rfl (qAG (i := 1) rfl rfl rfl qAq qBQ hv.sl (by omega)) rfl rfl <| J.j rfl (qAK rfl rfl qBq (m := mv) (by simp) (v := NW R.b) (hv.sl.elem (i := 1) rfl)) rfl rfl <| J.j rfl (qFV rfl rfl rfl) rfl rfl <| J.G ?_
      refine J.j rfl (qAG (i := 0) rfl rfl rfl qAq qBQ hv.sl (by omega)) rfl rfl <| J.j rfl (qAK rfl rfl qBq (m := mv) (by simp) (v := NW R.a) (hv.sl.elem (i := 0) rfl)) rfl rfl <| J.G ?_
      refine J.j rfl (qAG (i := 2) rfl rfl rfl qAq qBQ hv.sl (by omega)) rfl rfl <| J.j rfl (qAK rfl rfl qBq (m := mv) (by simp) (v := NW R.c) (hv.sl.elem (i := 2) rfl)) rfl rfl <| J.j rfl (qFV rfl rfl rfl) rfl rfl <| J.j rfl (qCB rfl rfl rfl) rfl rfl <| J.G ?_
      refine J.j rfl (qAG (i := 1) rfl rfl rfl qAq qBQ hv.sl (by omega)) rfl rfl <| J.j rfl (qAK rfl rfl qBq (m := mv) (by simp) (v := NW R.b) (hv.sl.elem (i := 1) rfl)) rfl rfl <| J.G ?_
      refine J.j rfl (qAG (i := 2) rfl rfl rfl qAq qBQ hv.sl (by omega)) rfl rfl <| J.j rfl (qAK rfl rfl qBq (m := mv) (by simp) (v := NW R.c) (hv.sl.elem (i := 2) rfl)) rfl rfl <| J.j rfl (qFV rfl rfl rfl) rfl rfl <| J.j rfl ((qCB rfl rfl rfl).as (v' := NW MJ) (by rw [hMJ])) rfl rfl <| J.j rfl (qA4 rfl rfl rfl (by omega)) rfl rfl <| J.j rfl ((qBa (b := 4294967296) rfl rfl rfl (by omega)).as (v' := NW T2) (congrArg N64 (by rw [hT2]; simp only [UInt32.toNat_add]))) rfl rfl <| J.c0 ?_
      refine J.b4 <| J.q (J.H hK45 ?_)
      refine J.d8 0 3 4 7 8 14 15 18 20 ?_
      refine J.b5 [mv] [] (.y 0 (.y 1 (.y 2 (.y 3 (.y 4 (.y 5 (.y 6 (.y 7 (.y 8 (.y 9 (.y 10 (.y 11 (.y 12 (.y 13 (.y 14 (.y 15 (.y 16 (.y 17 (.y 18 (.y 19 (.y 20 (.y 21 (.y 22 (.y 23 (.y 24 (.y 25 (.y 26 (.y 27 (.e 28 (.y 29 .nil)))))))))))))))))))))))))))))) Tryz.wide (by decide +kernel) (by simp) ?_
      refine J.G ?_
      refine J.G ?_
      refine J.j rfl (qA4 rfl rfl rfl (by omega)) rfl rfl <| J.j rfl ((qBa (b := 4294967296) rfl rfl rfl (by omega)).as (v' := NW (T1 + T2)) (congrArg N64 (by simp only [UInt32.toNat_add]))) rfl rfl <| J.G ?_
      refine J.j rfl (qAG (i := 0) rfl rfl rfl qAq qBQ hv.sl (by omega)) rfl rfl <| J.j rfl (qAK rfl rfl qBq (m := mv) (by simp) (v := NW R.a) (hv.sl.elem (i := 0) rfl)) rfl rfl <| J.G ?_
      refine J.j rfl (qAG (i := 1) rfl rfl rfl qAq qBQ hv.sl (by omega)) rfl rfl <| J.j rfl (qAK rfl rfl qBq (m := mv) (by simp) (v := NW R.b) (hv.sl.elem (i := 1) rfl)) rfl rfl <| J.G ?_
      refine J.j rfl (qAG (i := 2) rfl rfl rfl qAq qBQ hv.sl (by omega)) rfl rfl <| J.j rfl (qAK rfl rfl qBq (m := mv) (by simp) (v := NW R.c) (hv.sl.elem (i := 2) rfl)) rfl rfl <| J.G ?_
      refine J.j rfl (qAG (i := 3) rfl rfl rfl qAq qBQ hv.sl (by omega)) rfl rfl <| J.j rfl (qAK rfl rfl qBq (m := mv) (by simp) (v := NW R.d) (hv.sl.elem (i := 3) rfl)) rfl rfl <| J.G ?_
      refine J.j rfl (qA4 rfl rfl rfl (by omega)) rfl rfl <| J.j rfl ((qBa (b := 4294967296) rfl rfl rfl (by omega)).as (v' := NW (R.d + T1)) (congrArg N64 (by simp only [UInt32.toNat_add]))) rfl rfl <| J.G ?_
      refine J.j rfl (qAG (i := 4) rfl rfl rfl qAq qBQ hv.sl (by omega)) rfl rfl <| J.j rfl (qAK rfl rfl qBq (m := mv) (by simp) (v := NW R.e) (hv.sl.elem (i := 4) rfl)) rfl rfl <| J.G ?_
      refine J.j rfl (qAG (i := 5) rfl rfl rfl qAq qBQ hv.sl (by omega)) rfl rfl <| J.j rfl (qAK rfl rfl qBq (m := mv) (by simp) (v := NW R.f) (hv.sl.elem (i := 5) rfl)) rfl rfl <| J.G ?_
      refine J.j rfl (qAG (i := 6) rfl rfl rfl qAq qBQ hv.sl (by omega)) rfl rfl <| J.j rfl (qAK rfl rfl qBq (m := mv) (by simp) (v := NW R.g) (hv.sl.elem (i := 6) rfl)) rfl rfl <| J.a7 rfl (qAH (l := [.tmp 246, .tmp 249, .tmp 252, .tmp 255, .tmp 261, .tmp 264, .tmp 267, .tmp 270]) (xs := [[NW (T1 + T2)], [NW (R.a)], [NW (R.b)], [NW (R.c)], [NW (R.d + T1)], [NW (R.e)], [NW (R.f)], [NW (R.g)]]) rfl rfl rfl rfl qAq el36 rfl (by decide) (by decide) (by simp)) rfl (by simp) fun g271 _ => ?_
      change J _ _ _ [F, m25, m, blk g58 ((R3.wn (Sha.sched ((Sha.pad s).drop (64 * b)))).map N64) 36, mv, blk g271 [NW (T1 + T2), NW (R.a), NW (R.b), NW (R.c), NW (R.d + T1), NW (R.e), NW (R.f), NW (R.g)] 36] _
      refine J.c0 ?_
      refine J.b4 <| J.a4 <| J.q (J.H hK40 ?_)
      refine J.b9 0 3 4 7 8 14 15 ?_
      refine J.c5 [0, 1, 2, 3, 5] [F, m25, m, blk g58 ((R3.wn (Sha.sched ((Sha.pad s).drop (64 * b)))).map N64) 36, blk g271 [NW (T1 + T2), NW (R.a), NW (R.b), NW (R.c), NW (R.d + T1), NW (R.e), NW (R.f), NW (R.g)] 36] rfl (by decide) <| J.E <| J.b rfl <| J.f ((qAO rfl rfl rfl (by omega)).nat (i + 1) (by omega)) rfl <| J.b rfl <| J.a2 <| J.q ?_
      rw [show [NW (T1 + T2), NW (R.a), NW (R.b), NW (R.c), NW (R.d + T1), NW (R.e), NW (R.f), NW (R.g)] = (nws (Sha.rnd ((Sha.sched ((Sha.pad s).drop (64 * b))).getD i 0) (Sha.K.getD i 0) R).list).map N64 by rw [hrn]; rfl]
      refine J.a6 (i + 1, some ⟨g271, 0, none⟩, 8, blk g271 ((nws (Sha.rnd ((Sha.sched ((Sha.pad s).drop (64 * b))).getD i 0) (Sha.K.getD i 0) R).list).map N64) 36) (fun x (hx : _ ∧ 64 - x.1 < 64 - i) => hI12 x hx.1 hx.2) ⟨⟨by dsimp only; omega, ?_⟩, by dsimp only; omega⟩ ⟨rfl, rfl, rfl, rfl, rfl, rfl, rfl, trivial⟩ (fun _ h => h)
      have e3 : Sha.rnds (Sha.sched ((Sha.pad s).drop (64 * b))) S (i + 1) = Sha.rnd ((Sha.sched ((Sha.pad s).drop (64 * b))).getD i 0) (Sha.K.getD i 0) R := by rw [hR]; exact Sha.rnds_succ _ _ _
      dsimp only
      rw [e3]
      exact qCs _ rfl
    refine J.b0 <| J.Z <| J.Z <| J.b1 ?_
    refine J.q (J.H hK36 ?_)
    refine J.a3 0 3 4 7 14 ?_
    refine J.k fun K46 hK46 => ?_
    have hi64 : i = 64 := by omega
    rw [hi64] at hR
    have hmx : (Sha.mixes Sha.init (Sha.pad s) (b + 1)) = S.add R := by rw [Sha.mixes, ← hS, Sha.mix_eq, hR]
    have hl8 : S.list.length = (S.add R).list.length := rfl
    have hl82 : (S.add R).list.length = 8 := rfl
    refine J.c5 [0, 1, 2, 4] [F, m25, m, mv] rfl (by decide) <| J.E <| J.b rfl <| J.c hK46 <| J.a9 0 3 4 7 14 21 ?_
    refine J.T <| J.b2 (X := Nat × Hp) (fun x => [(0, Str (Sha.pad s)), (3, .slice A25 64 c25), (4, .slice (some ⟨gh, 0, none⟩) 8 c26), (7, I ((64 * b : Nat) : Int)), (14, .slice A 8 c), (21, I x.1)]) (fun x => [F, m25, x.2, mv]) (fun x => x.1 ≤ 8 ∧ Row x.2 36 1 (some ⟨gh, 0, none⟩) 8 c26 (qBs (nws (R3.hv S.list (S.add R).list x.1)))) (fun x => 8 - x.1) (0, m) (⟨Nat.zero_le _, by rw [R3.hv_zero]; exact hrow⟩) ⟨rfl, rfl, rfl, rfl, rfl, rfl, trivial⟩ (fun _ h => h) ?_
    rintro ⟨i2, m2⟩ ⟨hi2, hrow2⟩ I14 hI14
    dsimp only at hi2 hrow2 ⊢
    have hvl := R3.hv_length S.list (S.add R).list i2 hl8 (by omega)
    refine J.k fun K47 hK47 => J.g fun K48 hK48 => J.b rfl <| J.f (qAS rfl rfl rfl) rfl <| J.c hK48 <| J.b9 0 3 4 7 14 21 273 ?_
    refine J.a0 rfl (fun h273 => ?_) (fun h273 => ?_)
    ·
      refine J.a1 hK47 <| J.a9 0 3 4 7 14 21 ?_
      refine J.k fun K49 hK49 => J.T ?_
      have hg1 := R3.hv_get S.list (S.add R).list i2 hl8 (by omega)
      have hg2 := R3.add_get S R i2 (by omega)
      have b1 := (S.list.getD i2 0).toNat_lt
      have b2 := (R.list.getD i2 0).toNat_lt
      refine J.b5 [m2, mv] [13] (.y 0 (.y 1 (.y 2 (.y 3 (.y 4 (.y 5 (.y 6 (.y 7 (.y 8 (.y 9 (.y 10 (.y 11 (.y 12 (.e 13 .nil)))))))))))))) Tryz.wide (by decide +kernel) (by simp) ?_
      iterate 4 refine J.G ?_
      refine J.j rfl (qAJ (i := i2) (j := i2) rfl rfl rfl qAq qBQ (by omega) (by omega)) rfl rfl <| J.j rfl ((qAK rfl rfl qBq (m := m2) (by simp) (by have := hrow2.sl.elem (qCE (k := i2) (by rw [List.length_map]; omega)); rw [qLm, Nat.mul_one] at this; exact this)).as (v' := NW (S.list.getD i2 0)) (congrArg N64 (by rw [R3.map_getD _ _ (by omega), hg1]))) rfl rfl <| J.G ?_
      refine J.G ?_
      refine J.j rfl (qAG (i := i2) rfl rfl rfl qAq qBQ hv.sl (by omega)) rfl rfl <| J.j rfl ((qAK rfl rfl qBq (m := mv) (by simp) (hv.sl.elem (qCE (k := i2) (by rw [List.length_map]; show i2 < 8; omega)))).as (v' := NW (R.list.getD i2 0)) (congrArg N64 (R3.map_getD R.list i2 (by show i2 < 8; omega)))) rfl rfl <| J.j rfl (qA4 rfl rfl rfl (by omega)) rfl rfl <| J.j rfl ((qBa (b := 4294967296) rfl rfl rfl (by omega)).as (v' := NW ((S.add R).list.getD i2 0)) (congrArg N64 (by rw [hg2, UInt32.toNat_add]))) rfl rfl <| J.j rfl (qAJ (i := i2) (j := i2) rfl rfl rfl qAq qBQ (by omega) (by omega)) rfl rfl <| J.c8 rfl (qA9 (i := 2) (k := i2) (off := 0) (b := [NW ((S.add R).list.getD i2 0)]) rfl rfl rfl rfl hrow2 (vs := [NW ((S.add R).list.getD i2 0)]) rfl qBQ rfl (by omega) (qCE (k := i2) (by rw [List.length_map]; omega)) rfl (Nat.le_refl _)) rfl rfl rfl ?_
      rintro m288 h288
      change J _ _ _ [F, m25, m288, mv] _
      have h288 : Row m288 36 1 (some ⟨gh, 0, none⟩) 8 c26 (qBs (nws (R3.hv S.list (S.add R).list (i2 + 1)))) := by
        rw [← R3.hv_set _ _ _ hl8 (by omega)]
        have e5 : (qBs (nws (R3.hv S.list (S.add R).list i2))).set i2 [NW ((S.add R).list.getD i2 0)] = qBs (nws ((R3.hv S.list (S.add R).list i2).set i2 ((S.add R).list.getD i2 0))) := by unfold qBs nws; rw [List.map_set, List.map_set]
        rw [← e5]; exact h288
      refine J.b4 <| J.a4 <| J.q (J.H hK49 ?_)
      refine J.a9 0 3 4 7 14 21 ?_
      exact J.E <| J.b rfl <| J.f ((qAO rfl rfl rfl (by omega)).nat (i2 + 1) (by omega)) rfl <| J.b rfl <| J.a2 <| J.q <| J.a6 (i2 + 1, m288) (fun x (hx : _ ∧ 8 - x.1 < 8 - i2) => hI14 x hx.1 hx.2) ⟨⟨by dsimp only; omega, h288⟩, by dsimp only; omega⟩ ⟨rfl, rfl, rfl, rfl, rfl, rfl, trivial⟩ (fun _ h => h)
    refine J.b0 <| J.Z <| J.Z <| J.b1 ?_
    refine J.a4 <| J.q (J.H hK17 ?_)
    refine J.W 0 3 4 7 ?_
    exact J.c5 [0, 1, 2] [F, m25, m2] rfl (by decide) <| J.E <| J.b rfl <| J.f ((qAO rfl rfl rfl (by omega)).nat (64 * (b + 1)) (by omega)) rfl <| J.b rfl <| J.a2 <| J.q <| J.a6 (b + 1, m2) (fun x (hx : _ ∧ (Sha.pad s).length - 64 * x.1 < (Sha.pad s).length - 64 * b) => hI4 x hx.1 hx.2) ⟨⟨by dsimp only; omega, by dsimp only; rw [hmx]; rw [show i2 = (S.add R).list.length by omega, R3.hv_full _ _ hl8] at hrow2; exact hrow2⟩, by dsimp only; omega⟩ ⟨rfl, rfl, rfl, rfl, trivial⟩ (fun _ h => h)
  refine J.b0 <| J.Z <| J.Z <| J.b1 ?_
  refine J.q (J.H hK13 ?_)
  refine J.A 4 ?_
  refine J.k fun K50 hK50 => ?_
  have hbe : b = (Sha.pad s).length / 64 := by omega
  have hout : Sha.sum s = Sha.out S := by rw [hS, hbe]; rfl
  refine J.E <| J.b rfl <| J.c hK50 <| J.M 4 22 ?_
  refine J.k fun K51 hK51 => J.g fun K52 hK52 => J.b rfl <| J.c hK52 <| J.V 4 22 23 ?_
  refine J.T <| J.b2 (fun i : Nat => [(4, .slice (some ⟨gh, 0, none⟩) 8 c26), (22, Str (R3.outs S.list i)), (23, I i)]) (fun _ => [F, m]) (fun i => i ≤ 8) (fun i => 8 - i) 0 (Nat.zero_le _) ⟨rfl, rfl, rfl, trivial⟩ (fun _ h => h.pick [0, 2] (by decide)) ?_
  intro i hi I16 hI16
  have hol : (R3.outs S.list i).length ≤ 32 := R3.outs_length S.list i
  refine J.k fun K53 hK53 => J.g fun K54 hK54 => J.b rfl <| J.f (qAS rfl rfl rfl) rfl <| J.c hK54 <| J.W 4 22 23 290 ?_
  refine J.a0 rfl (fun h290 => ?_) (fun h290 => ?_)
  ·
    refine J.a1 hK53 <| J.V 4 22 23 ?_
    refine J.k fun K55 hK55 => J.T <| J.g fun K56 hK56 => J.b rfl <| J.c hK56 <| J.W 4 22 23 24 ?_
    refine J.T <| J.b2 (fun t : Nat => [(4, .slice (some ⟨gh, 0, none⟩) 8 c26), (22, Str ((R3.outs S.list i) ++ (Sha.numB (S.list.getD i 0).toUInt64 4).take t)), (23, I i), (24, I (3 - (t : Int)))]) (fun _ => [F, m]) (fun t => t ≤ 4) (fun t => 4 - t) 0 (Nat.zero_le _) ⟨rfl, congrArg (fun l => some (Str l)) (List.append_nil _).symm, rfl, rfl, trivial⟩ (fun _ h => h) ?_
    intro t ht I18 hI18
    refine J.k fun K57 hK57 => J.g fun K58 hK58 => J.b rfl <| J.f (qBG rfl rfl rfl) rfl <| J.c hK58 <| J.a3 4 22 23 24 294 ?_
    refine J.a0 rfl (fun h294 => ?_) (fun h294 => ?_)
    ·
      refine J.a1 hK57 <| J.W 4 22 23 24 ?_
      refine J.k fun K59 hK59 => J.T ?_
      have b1 := (S.list.getD i 0).toNat_lt
      have hdv : (S.list.getD i 0).toNat / 2 ^ (8 * (3 - t)) < 18446744073709551616 := Nat.lt_of_le_of_lt (Nat.div_le_self _ _) (by omega)
      refine J.E <| J.p 3 rfl <| J.f (qAG (i := i) rfl rfl rfl qAq qBQ hrow.sl (by omega)) rfl <| J.f ((qAK rfl rfl qBq (m := m) (by simp) (hrow.sl.elem (qCE (k := i) (by rw [List.length_map]; show i < 8; omega)))).as (v' := NW (S.list.getD i 0)) (congrArg N64 (R3.map_getD S.list i (by show i < 8; omega)))) rfl <| J.f ((qAj rfl rfl).nat (3 - t) (by omega)) rfl <| J.f ((qCD (a := 8) rfl rfl rfl (by omega)).nat (8 * (3 - t)) (by omega)) rfl <| J.u (qAB rfl rfl ent80 (Ct.use0 (fun F' hF => qBv F' (S.list.getD i 0).toNat (8 * (3 - t)) (by omega) (by omega)))) rfl fun g304 _ => J.f (qCf rfl rfl qDu u5_ hdv) rfl <| J.u (qAH (l := [.tmp 305]) (xs := [[B8 (UInt8.ofNat ((S.list.getD i 0).toNat / 2 ^ (8 * (3 - t))))]]) rfl rfl rfl rfl qBP el5 rfl (by decide) (by decide) (by simp)) rfl fun g306 _ => ?_
      change J _ _ _ [F, m, blk g306 [B8 (UInt8.ofNat ((S.list.getD i 0).toNat / 2 ^ (8 * (3 - t))))] 5] _
      refine J.f (qBB (l := [(UInt8.ofNat ((S.list.getD i 0).toNat / 2 ^ (8 * (3 - t))))]) rfl rfl qBP u5_ u9_ (m := blk g306 [B8 (UInt8.ofNat ((S.list.getD i 0).toNat / 2 ^ (8 * (3 - t))))] 5) (by simp) (qAr (q := True) (xs := [[B8 (UInt8.ofNat ((S.list.getD i 0).toNat / 2 ^ (8 * (3 - t))))]]) rfl (by simp)).sl) rfl <| J.f ((qBZ rfl rfl rfl (by simp [Sha.numB_length]; omega)).as (v' := Str ((R3.outs S.list i) ++ (Sha.numB (S.list.getD i 0).toUInt64 4).take (t + 1))) (by rw [R3.num4 _ t (by omega), ← List.append_assoc])) rfl <| J.b rfl <| J.a2 <| J.a4 <| J.q (J.H hK59 ?_)
      refine J.W 4 22 23 24 ?_
      exact J.c5 [0, 1] [F, m] rfl (by decide) <| J.E <| J.b rfl <| J.f ((qAs rfl rfl rfl (by omega)).as (v' := I (3 - ((t + 1 : Nat) : Int))) (congrArg I (by omega))) rfl <| J.b rfl <| J.a2 <| J.q <| J.a6 (t + 1) (fun x (hx : x ≤ 4 ∧ 4 - x < 4 - t) => hI18 x hx.1 hx.2) ⟨by omega, by omega⟩ ⟨rfl, rfl, rfl, rfl, trivial⟩ (fun _ h => h)
    refine J.b0 <| J.Z <| J.Z <| J.b1 ?_
    refine J.a4 <| J.q (J.H hK55 ?_)
    refine J.V 4 22 23 ?_
    exact J.E <| J.b rfl <| J.f ((qAO rfl rfl rfl (by omega)).nat (i + 1) (by omega)) rfl <| J.b rfl <| J.a2 <| J.q <| J.a6 (i + 1) (fun x (hx : x ≤ 8 ∧ 8 - x < 8 - i) => hI16 x hx.1 hx.2) ⟨by omega, by omega⟩ ⟨rfl, by rw [R3.outs_succ _ _ (by show i < 8; omega), show t = 4 by omega, List.take_of_length_le (by rw [Sha.numB_length]; exact Nat.le_refl _)]; rfl, rfl, trivial⟩ (fun _ h => h)
  refine J.b0 <| J.Z <| J.Z <| J.b1 ?_
  refine J.q (J.H hK51 ?_)
  refine J.A 22 ?_
  refine J.k fun K60 hK60 => ?_
  have hi8 : i = 8 := by omega
  subst hi8
  refine J.E <| J.p 2 rfl <| J.c hK60 <| J.A 2 ?_
  exact J.D <| J.L hw0 rfl () (by rw [hout, ← R3.outs_full]) trivial [0] rfl (by decide)
end Go.Proofs.YtfldiegfenndjaaGreatDoor
